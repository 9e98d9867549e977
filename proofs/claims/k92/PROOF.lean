import PyProof.Rows.All
import HandS.ForMost
import HandS.Zip
import HandS.Walk
import HandS.Star
import HandS.Style
import HandS.Conv
import HandS.Deep
import HandS.DictComp
import HandS.HeadEnd
import HandS.EndBits
import KE.Datum
import KE.SortData
import PyProof.ReprRoads
import HandS.TupAny
import HandS.TupLen
import HandS.WordsDict
import HandS.HeadHook2
import HandS.Head0
import HandS.Head1
import HandS.Head2
import HandS.HeadHook1
import HandS.Small
import HandS.More
import KE.GoesNew
import KE.GoesMore
import KE.GoesZip
import HandS.Iter
import KE.KIndexOf
import KE.DataEq
import KE.KDictPairs
import HandS.IsInst
import PyProof.ReprLen
import KE.LtData
import KE.KStateDown
import HandS.Defaults
import HandS.WordsExc
import PySem.Challenge.RW_websincubes_k92_whole_told_words_twice
set_option Elab.async false
set_option linter.all false
set_option autoImplicit false
set_option maxRecDepth 100000
/-! DL, part a: data at the abstract heap, owned mutable objects, the state of a body as a list of data. -/
namespace DL
open PySem PySem.Spec PyProof.Rows L2

abbrev D := PyData
def kD : Key → D
  | .inl i => .int i
  | .inr x => .str x

mutual
/-- v is the data d, read in G (G never changes but by growing) -/
inductive Rp (G : Hp) : V → D → Prop
  | non : Rp G .non .none
  | bl (b : Bool) : Rp G (.bl b) (.bool b)
  | int (i : Int) : Rp G (.int i) (.int i)
  | str (x : Str) : Rp G (.str x) (.str x)
  | tup {a : Addr} {vs : List V} {ds : List D} : G a = some (.tup vs) → ds.length ≤ sizeLine → RpA G vs ds → Rp G (.ref a) (.tuple ds)
  | lst {a : Addr} {vs : List V} {ds : List D} : G a = some (.lst vs) → ds.length ≤ sizeLine → RpA G vs ds → Rp G (.ref a) (.list ds)
  | dk {a : Addr} {us : List (Key × V)} {ds : List (D × D)} : G a = some (.dK us) → ds.length ≤ sizeLine → RpK G us ds → Rp G (.ref a) (.dict ds)
  | dt {a : Addr} {us : List (List Key × V)} {ds : List (D × D)} : G a = some (.dT us) → ds.length ≤ sizeLine → RpT G us ds → Rp G (.ref a) (.dict ds)
inductive RpA (G : Hp) : List V → List D → Prop
  | nil : RpA G [] []
  | cons {v : V} {vs : List V} {d : D} {ds : List D} : Rp G v d → RpA G vs ds → RpA G (v :: vs) (d :: ds)
inductive RpK (G : Hp) : List (Key × V) → List (D × D) → Prop
  | nil : RpK G [] []
  | cons {k : Key} {v : V} {us : List (Key × V)} {d : D} {ds : List (D × D)} : Rp G v d → RpK G us ds → RpK G ((k, v) :: us) ((kD k, d) :: ds)
inductive RpT (G : Hp) : List (List Key × V) → List (D × D) → Prop
  | nil : RpT G [] []
  | cons {k : List Key} {v : V} {us : List (List Key × V)} {d : D} {ds : List (D × D)} : Rp G v d → RpT G us ds → RpT G ((k, v) :: us) ((.tuple (k.map kD), d) :: ds)
end

mutual
theorem Rp.mono {G G' : Hp} (h : Same G G') : ∀ {d : D} {v : V}, Rp G v d → Rp G' v d
  | .none, _, r => by cases r; exact .non
  | .bool b, _, r => by cases r; exact .bl b
  | .int i, _, r => by cases r; exact .int i
  | .str x, _, r => by cases r; exact .str x
  | .tuple ds, _, r => by
    cases r with
    | tup e z q => exact .tup (h _ _ e) z (RpA.mono h q)
  | .list ds, _, r => by
    cases r with
    | lst e z q => exact .lst (h _ _ e) z (RpA.mono h q)
  | .dict ds, _, r => by
    cases r with
    | dk e z q => exact .dk (h _ _ e) z (RpK.mono h q)
    | dt e z q => exact .dt (h _ _ e) z (RpT.mono h q)
theorem RpA.mono {G G' : Hp} (h : Same G G') : ∀ {ds : List D} {vs : List V}, RpA G vs ds → RpA G' vs ds
  | [], _, r => by cases r; exact .nil
  | d :: ds, _, r => by
    cases r with
    | cons a b => exact .cons (Rp.mono h a) (RpA.mono h b)
theorem RpK.mono {G G' : Hp} (h : Same G G') : ∀ {ds : List (D × D)} {us : List (Key × V)}, RpK G us ds → RpK G' us ds
  | [], _, r => by cases r; exact .nil
  | (k, d) :: ds, _, r => by
    cases r with
    | cons a b => exact .cons (Rp.mono h a) (RpK.mono h b)
theorem RpT.mono {G G' : Hp} (h : Same G G') : ∀ {ds : List (D × D)} {us : List (List Key × V)}, RpT G us ds → RpT G' us ds
  | [], _, r => by cases r; exact .nil
  | (k, d) :: ds, _, r => by
    cases r with
    | cons a b => exact .cons (Rp.mono h a) (RpT.mono h b)
end

/-! ### lists of data -/
theorem RpA.length {G : Hp} : ∀ {ds : List D} {vs : List V}, RpA G vs ds → vs.length = ds.length
  | [], _, r => by cases r; rfl
  | d :: ds, _, r => by
    cases r with
    | cons a b => rw [List.length_cons, List.length_cons, b.length]
theorem RpA.get {G : Hp} : ∀ {ds : List D} {vs : List V} {i : Nat} {d : D}, RpA G vs ds → ds[i]? = some d → ∃ v, vs[i]? = some v ∧ Rp G v d
  | [], _, _, _, _, e => by simp at e
  | d :: ds, _, 0, _, r, e => by
    cases r with
    | cons a b =>
      have e := Option.some.inj (show some d = some _ from e)
      subst e
      exact ⟨_, rfl, a⟩
  | d :: ds, _, i + 1, _, r, e => by
    cases r with
    | cons a b => exact b.get (i := i) (by simpa using e)
theorem RpA.get' {G : Hp} : ∀ {ds : List D} {vs : List V} {i : Nat} {v : V}, RpA G vs ds → vs[i]? = some v → ∃ d, ds[i]? = some d ∧ Rp G v d
  | [], _, _, _, r, e => by cases r; simp at e
  | d :: ds, _, 0, _, r, e => by
    cases r with
    | cons a b =>
      have e := Option.some.inj (show some _ = some _ from e)
      subst e
      exact ⟨_, rfl, a⟩
  | d :: ds, _, i + 1, _, r, e => by
    cases r with
    | cons a b => exact b.get' (i := i) (by simpa using e)
theorem RpA.append {G : Hp} : ∀ {ds : List D} {vs : List V} {es : List D} {us : List V}, RpA G vs ds → RpA G us es → RpA G (vs ++ us) (ds ++ es)
  | [], _, _, _, r, q => by cases r; exact q
  | d :: ds, _, _, _, r, q => by
    cases r with
    | cons a b => exact .cons a (b.append q)
theorem RpA.set {G : Hp} {v : V} {d : D} (x : Rp G v d) : ∀ {ds : List D} {vs : List V} (i : Nat), RpA G vs ds → RpA G (vs.set i v) (ds.set i d)
  | [], _, _, r => by cases r; exact .nil
  | _ :: _, _, 0, r => by
    cases r with
    | cons a b => exact .cons x b
  | _ :: _, _, i + 1, r => by
    cases r with
    | cons a b => exact .cons a (b.set x i)
theorem RpA.take {G : Hp} : ∀ {ds : List D} {vs : List V} (i : Nat), RpA G vs ds → RpA G (vs.take i) (ds.take i)
  | _, _, 0, _ => .nil
  | [], _, _ + 1, r => by cases r; exact .nil
  | _ :: _, _, i + 1, r => by
    cases r with
    | cons a b => exact .cons a (b.take i)
theorem RpA.drop {G : Hp} : ∀ {ds : List D} {vs : List V} (i : Nat), RpA G vs ds → RpA G (vs.drop i) (ds.drop i)
  | _, _, 0, r => r
  | [], _, _ + 1, r => by cases r; exact .nil
  | _ :: _, _, i + 1, r => by
    cases r with
    | cons a b => exact b.drop i
theorem RpA.reverse {G : Hp} : ∀ {ds : List D} {vs : List V}, RpA G vs ds → RpA G vs.reverse ds.reverse
  | [], _, r => by cases r; exact .nil
  | _ :: _, _, r => by
    cases r with
    | cons a b =>
      rw [List.reverse_cons, List.reverse_cons]
      exact (b.reverse).append (.cons a .nil)
theorem RpA.eraseIdx {G : Hp} : ∀ {ds : List D} {vs : List V} (i : Nat), RpA G vs ds → RpA G (vs.eraseIdx i) (ds.eraseIdx i)
  | [], _, _, r => by cases r; exact .nil
  | _ :: _, _, 0, r => by
    cases r with
    | cons a b => exact b
  | _ :: _, _, i + 1, r => by
    cases r with
    | cons a b => exact .cons a (b.eraseIdx i)
theorem RpA.dropLast {G : Hp} {ds : List D} {vs : List V} (r : RpA G vs ds) : RpA G vs.dropLast ds.dropLast := by
  rw [List.dropLast_eq_take, List.dropLast_eq_take, r.length]
  exact r.take _
theorem RpA.replicate {G : Hp} {v : V} {d : D} (x : Rp G v d) : ∀ n : Nat, RpA G (List.replicate n v) (List.replicate n d)
  | 0 => .nil
  | n + 1 => .cons x (RpA.replicate x n)
theorem RpA.flatten {G : Hp} {vs : List V} {ds : List D} (r : RpA G vs ds) : ∀ n : Nat, RpA G (List.replicate n vs).flatten (List.replicate n ds).flatten
  | 0 => .nil
  | n + 1 => by
    rw [List.replicate_succ, List.replicate_succ, List.flatten_cons, List.flatten_cons]
    exact r.append (r.flatten n)
theorem RpA.ints {G : Hp} : ∀ ns : List Int, RpA G (ns.map V.int) (ns.map PyData.int)
  | [] => .nil
  | n :: ns => .cons (.int n) (RpA.ints ns)
theorem RpA.of_ints {G : Hp} : ∀ {ns : List Int} {vs : List V}, RpA G vs (ns.map PyData.int) → vs = ns.map V.int
  | [], _, r => by cases r; rfl
  | n :: ns, _, r => by
    cases r with
    | cons a b =>
      cases a
      rw [List.map_cons, b.of_ints]
theorem RpA.of_bools {G : Hp} : ∀ {ns : List Bool} {vs : List V}, RpA G vs (ns.map PyData.bool) → vs = ns.map V.bl
  | [], _, r => by cases r; rfl
  | n :: ns, _, r => by
    cases r with
    | cons a b =>
      cases a
      rw [List.map_cons, b.of_bools]

/-! ### dicts: keys with data -/
def RpV {κ : Type} (G : Hp) : List (κ × V) → List (κ × D) → Prop := Paired fun (p : κ × V) (q : κ × D) => p.1 = q.1 ∧ Rp G p.2 q.2
theorem RpV.mono {κ : Type} {G G' : Hp} (h : Same G G') {us : List (κ × V)} {ks : List (κ × D)} (r : RpV G us ks) : RpV G' us ks := Paired.mapP r fun _ _ z => ⟨z.1, z.2.mono h⟩
theorem RpV.toK {G : Hp} : ∀ {us : List (Key × V)} {ks : List (Key × D)}, RpV G us ks → RpK G us (ks.map fun p => (kD p.1, p.2))
  | _, _, .nil => .nil
  | (k, v) :: _, (k', d) :: _, .cons r t => by
    obtain ⟨e, q⟩ := r
    have e : k = k' := e
    subst e
    exact .cons q (RpV.toK t)
theorem RpV.toT {G : Hp} : ∀ {us : List (List Key × V)} {ks : List (List Key × D)}, RpV G us ks → RpT G us (ks.map fun p => (.tuple (p.1.map kD), p.2))
  | _, _, .nil => .nil
  | (k, v) :: _, (k', d) :: _, .cons r t => by
    obtain ⟨e, q⟩ := r
    have e : k = k' := e
    subst e
    exact .cons q (RpV.toT t)
theorem kD_inj : ∀ {a b : Key}, kD a = kD b → a = b
  | .inl _, .inl _, h => by cases h; rfl
  | .inl _, .inr _, h => by cases h
  | .inr _, .inl _, h => by cases h
  | .inr _, .inr _, h => by cases h; rfl
theorem kDs_inj : ∀ {a b : List Key}, a.map kD = b.map kD → a = b
  | [], [], _ => rfl
  | [], _ :: _, h => by cases h
  | _ :: _, [], h => by cases h
  | x :: a, y :: b, h => by
    rw [List.map_cons, List.map_cons] at h
    injection h with h1 h2
    rw [kD_inj h1, kDs_inj h2]
theorem RpK.toV {G : Hp} : ∀ {ks : List (Key × D)} {us : List (Key × V)}, RpK G us (ks.map fun p => (kD p.1, p.2)) → RpV G us ks
  | [], _, r => by cases r; exact .nil
  | (k, d) :: ks, us, r => by
    rw [List.map_cons] at r
    generalize hq : kD k = q at r
    cases r with
    | cons a b => exact .cons ⟨(kD_inj hq).symm, a⟩ (RpK.toV b)
theorem RpT.toV {G : Hp} : ∀ {ks : List (List Key × D)} {us : List (List Key × V)}, RpT G us (ks.map fun p => (.tuple (p.1.map kD), p.2)) → RpV G us ks
  | [], _, r => by cases r; exact .nil
  | (k, d) :: ks, us, r => by
    rw [List.map_cons] at r
    generalize hq : PyData.tuple (k.map kD) = q at r
    cases r with
    | cons a b => exact .cons ⟨(kDs_inj (PyData.tuple.inj hq)).symm, a⟩ (RpT.toV b)
theorem RpV.length {κ : Type} {G : Hp} : ∀ {us : List (κ × V)} {ks : List (κ × D)}, RpV G us ks → us.length = ks.length
  | _, _, .nil => rfl
  | _, _, .cons _ t => by rw [List.length_cons, List.length_cons, RpV.length t]

/-! ### owned objects -/
structure Src where
  cells : List Int
  left : Int
  mixed : Int
  turn : Int

/-- what a slot holds: nothing known; data that never changes; a list, a dict of one's own (what is within never changes); a list, a dict of lists of one's own; the law's source at p, its cells at q; a value of which something stands for good -/
inductive SV where
  | un
  | val (d : D)
  | lst (ds : List D)
  | dk (ks : List (Key × D))
  | dt (ks : List (List Key × D))
  | ll (dss : List (List D))
  | dkl (ks : List (Key × List D))
  | dtl (ks : List (List Key × List D))
  | src (p q : Addr) (s : Src)
  | pr (p : V → Hp → Prop)

def sKey (x : Str) : Key := .inr x
def srcKvs (q : Addr) (s : Src) : List (Key × V) :=
  [(sKey "cells", .ref q), (sKey "left", .int s.left), (sKey "mixed", .int s.mixed), (sKey "turn", .int s.turn)]

/-- lists of one's own at as -/
inductive OwnL (G H : Hp) : List Addr → List (List D) → Prop
  | nil : OwnL G H [] []
  | cons {a : Addr} {as : List Addr} {vs : List V} {ds : List D} {dss : List (List D)} : H a = some (.lst vs) → RpA G vs ds → ds.length ≤ sizeLine → OwnL G H as dss → OwnL G H (a :: as) (ds :: dss)
theorem OwnL.mono {G G' H H' : Hp} (g : Same G G') : ∀ {as : List Addr} {dss : List (List D)}, OwnL G H as dss → (∀ a ∈ as, H' a = H a) → OwnL G' H' as dss
  | _, _, .nil, _ => .nil
  | _, _, .cons e r z t, h => .cons (by rw [h _ List.mem_cons_self]; exact e) (r.mono g) z (t.mono g fun a ha => h a (List.mem_cons_of_mem _ ha))
theorem OwnL.there {G H : Hp} : ∀ {as : List Addr} {dss : List (List D)}, OwnL G H as dss → ∀ a ∈ as, ∃ vs, H a = some (.lst vs)
  | _, _, .nil, _, h => nomatch h
  | _, _, .cons e _ _ t, b, h => by
    rcases List.mem_cons.mp h with rfl | h
    · exact ⟨_, e⟩
    · exact t.there b h
theorem OwnL.length {G H : Hp} : ∀ {as : List Addr} {dss : List (List D)}, OwnL G H as dss → as.length = dss.length
  | _, _, .nil => rfl
  | _, _, .cons _ _ _ t => by rw [List.length_cons, List.length_cons, t.length]

def Own (G H : Hp) : SV → Option V → List Addr → Prop
  | .un, _, fp => fp = []
  | .val d, x, fp => fp = [] ∧ ∃ v, x = some v ∧ Rp G v d
  | .lst ds, x, fp => ∃ a vs, x = some (.ref a) ∧ fp = [a] ∧ H a = some (.lst vs) ∧ RpA G vs ds ∧ ds.length ≤ sizeLine
  | .dk ks, x, fp => ∃ a us, x = some (.ref a) ∧ fp = [a] ∧ H a = some (.dK us) ∧ RpV G us ks ∧ ks.length ≤ sizeLine
  | .dt ks, x, fp => ∃ a us, x = some (.ref a) ∧ fp = [a] ∧ H a = some (.dT us) ∧ RpV G us ks ∧ ks.length ≤ sizeLine
  | .ll dss, x, fp => ∃ a as, x = some (.ref a) ∧ fp = a :: as ∧ fp.Nodup ∧ dss.length ≤ sizeLine ∧ H a = some (.lst (as.map V.ref)) ∧ OwnL G H as dss
  | .dkl ks, x, fp => ∃ a as, x = some (.ref a) ∧ fp = a :: as ∧ fp.Nodup ∧ ks.length ≤ sizeLine ∧ H a = some (.dK ((ks.map (·.1)).zip (as.map V.ref))) ∧ OwnL G H as (ks.map (·.2))
  | .dtl ks, x, fp => ∃ a as, x = some (.ref a) ∧ fp = a :: as ∧ fp.Nodup ∧ ks.length ≤ sizeLine ∧ H a = some (.dT ((ks.map (·.1)).zip (as.map V.ref))) ∧ OwnL G H as (ks.map (·.2))
  | .src p q s, x, fp => x = some (.ref p) ∧ fp = [p, q] ∧ p ≠ q ∧ H p = some (.dK (srcKvs q s)) ∧ H q = some (.lst (s.cells.map V.int))
  | .pr p, x, fp => fp = [] ∧ ∃ v, x = some v ∧ ∀ G', Same G G' → p v G'

def isTup : HO → Bool
  | .tup _ => true
  | _ => false

theorem Own.mono {G G' H H' : Hp} {w : SV} {x : Option V} {fp : List Addr} (g : Same G G') (o : Own G H w x fp) (h : ∀ a ∈ fp, H' a = H a) : Own G' H' w x fp := by
  cases w with
  | un => exact o
  | val d => obtain ⟨e, v, ev, r⟩ := o; exact ⟨e, v, ev, r.mono g⟩
  | lst ds => obtain ⟨a, vs, ex, ef, e, r, z⟩ := o; subst ef; exact ⟨a, vs, ex, rfl, by rw [h a (by simp)]; exact e, r.mono g, z⟩
  | dk ks => obtain ⟨a, vs, ex, ef, e, r, z⟩ := o; subst ef; exact ⟨a, vs, ex, rfl, by rw [h a (by simp)]; exact e, r.mono g, z⟩
  | dt ks => obtain ⟨a, vs, ex, ef, e, r, z⟩ := o; subst ef; exact ⟨a, vs, ex, rfl, by rw [h a (by simp)]; exact e, r.mono g, z⟩
  | ll dss => obtain ⟨a, as, ex, ef, nd, zz, e, r⟩ := o; subst ef; exact ⟨a, as, ex, rfl, nd, zz, by rw [h a (by simp)]; exact e, r.mono g fun b hb => h b (by simp [hb])⟩
  | dkl ks => obtain ⟨a, as, ex, ef, nd, zz, e, r⟩ := o; subst ef; exact ⟨a, as, ex, rfl, nd, zz, by rw [h a (by simp)]; exact e, r.mono g fun b hb => h b (by simp [hb])⟩
  | dtl ks => obtain ⟨a, as, ex, ef, nd, zz, e, r⟩ := o; subst ef; exact ⟨a, as, ex, rfl, nd, zz, by rw [h a (by simp)]; exact e, r.mono g fun b hb => h b (by simp [hb])⟩
  | src p q s => obtain ⟨ex, ef, ne, e1, e2⟩ := o; subst ef; exact ⟨ex, rfl, ne, by rw [h p (by simp)]; exact e1, by rw [h q (by simp)]; exact e2⟩
  | pr p => obtain ⟨e, v, ev, r⟩ := o; exact ⟨e, v, ev, fun G2 g2 => r G2 (g.trans g2)⟩
theorem Own.there {G H : Hp} {w : SV} {x : Option V} {fp : List Addr} (o : Own G H w x fp) : ∀ a ∈ fp, ∃ u, H a = some u ∧ isTup u = false := by
  intro b hb
  cases w with
  | un => have o : fp = [] := o; subst o; cases hb
  | val d => obtain ⟨e, _⟩ := o; subst e; cases hb
  | pr p => obtain ⟨e, _⟩ := o; subst e; cases hb
  | lst ds => obtain ⟨a, vs, ex, ef, e, r, z⟩ := o; subst ef; obtain rfl : b = a := (by simpa using hb); exact ⟨_, e, rfl⟩
  | dk ks => obtain ⟨a, vs, ex, ef, e, r, z⟩ := o; subst ef; obtain rfl : b = a := (by simpa using hb); exact ⟨_, e, rfl⟩
  | dt ks => obtain ⟨a, vs, ex, ef, e, r, z⟩ := o; subst ef; obtain rfl : b = a := (by simpa using hb); exact ⟨_, e, rfl⟩
  | ll dss =>
    obtain ⟨a, as, ex, ef, nd, zz, e, r⟩ := o
    subst ef
    rcases List.mem_cons.mp hb with rfl | hb
    · exact ⟨_, e, rfl⟩
    · obtain ⟨vs, q⟩ := r.there b hb; exact ⟨_, q, rfl⟩
  | dkl ks =>
    obtain ⟨a, as, ex, ef, nd, zz, e, r⟩ := o
    subst ef
    rcases List.mem_cons.mp hb with rfl | hb
    · exact ⟨_, e, rfl⟩
    · obtain ⟨vs, q⟩ := r.there b hb; exact ⟨_, q, rfl⟩
  | dtl ks =>
    obtain ⟨a, as, ex, ef, nd, zz, e, r⟩ := o
    subst ef
    rcases List.mem_cons.mp hb with rfl | hb
    · exact ⟨_, e, rfl⟩
    · obtain ⟨vs, q⟩ := r.there b hb; exact ⟨_, q, rfl⟩
  | src p q s =>
    obtain ⟨ex, ef, ne, e1, e2⟩ := o
    subst ef
    rcases List.mem_cons.mp hb with rfl | hb
    · exact ⟨_, e1, rfl⟩
    · obtain rfl : b = q := by simpa using hb
      exact ⟨_, e2, rfl⟩

/-! ### the state -/
/-- B: what must stay as it is; G: data; S, σ: the slots -/
structure Stt (B G H : Hp) (S : List SV) (σ : L2.St) : Prop where
  g : Same G H
  b : Same B H
  len : S.length = σ.length
  own : ∃ fp : Nat → List Addr, (∀ i w x, S[i]? = some w → σ[i]? = some x → Own G H w x (fp i)) ∧ (∀ i, S.length ≤ i → fp i = []) ∧
    (∀ i j a, a ∈ fp i → a ∈ fp j → i = j) ∧ ∀ i a, a ∈ fp i → G a = none ∧ B a = none
/-- G has grown to G': by new objects, or by tuples -/
def Ext (B G G' : Hp) : Prop := Same G G' ∧ ∀ a o, G a = none → G' a = some o → B a = none ∨ isTup o = true
theorem Ext.refl (B G : Hp) : Ext B G G := ⟨Same.refl _, fun a o h h' => by rw [h] at h'; cases h'⟩
theorem Ext.trans {B G G1 G2 : Hp} (x : Ext B G G1) (y : Ext B G1 G2) : Ext B G G2 := ⟨x.1.trans y.1, fun a o h h' => by
  cases e : G1 a with
  | none => exact y.2 a o e h'
  | some u =>
    have := y.1 a u e
    rw [h'] at this
    cases this
    exact x.2 a o h e⟩

section
variable {B G H : Hp} {S : List SV} {σ : L2.St} {w : SV} {x : Option V} {v : V} {d : D} {p : Addr}

theorem Stt.val (h : Stt B G H S σ) {i : Nat} (e : S[i]? = some (.val d)) : ∃ v, σ[i]? = some (some v) ∧ Rp G v d := by
  obtain ⟨fp, o, _⟩ := h.own
  have hi : i < σ.length := by rw [← h.len]; exact (List.getElem?_eq_some_iff.mp e).1
  obtain ⟨_, v, ev, r⟩ := o i _ _ e (List.getElem?_eq_getElem hi)
  exact ⟨v, by rw [List.getElem?_eq_getElem hi, ev], r⟩
theorem Stt.head (h : Stt B G H (.val d :: S) (x :: σ)) : ∃ v, x = some v ∧ Rp G v d := by
  obtain ⟨v, e, r⟩ := h.val (i := 0) rfl
  exact ⟨v, Option.some.inj e, r⟩
theorem Stt.headV (h : Stt B G H (.val d :: S) (some v :: σ)) : Rp G v d := by
  obtain ⟨u, e, r⟩ := h.head
  cases e; exact r
theorem Stt.tail (h : Stt B G H (w :: S) (x :: σ)) : Stt B G H S σ := by
  obtain ⟨fp, o, z, dj, fr⟩ := h.own
  refine ⟨h.g, h.b, by simpa using h.len, fun i => fp (i + 1), fun i u y e1 e2 => o (i + 1) u y (by simpa using e1) (by simpa using e2), fun i hi => z (i + 1) (by simpa using hi), fun i j a h1 h2 => ?_, fun i a => fr (i + 1) a⟩
  have := dj _ _ _ h1 h2
  omega
theorem Stt.push (h : Stt B G H S σ) (r : Rp G v d) : Stt B G H (.val d :: S) (some v :: σ) := by
  obtain ⟨fp, o, z, dj, fr⟩ := h.own
  refine ⟨h.g, h.b, by simpa using h.len, fun i => match i with | 0 => [] | j + 1 => fp j, fun i u y e1 e2 => ?_, fun i hi => ?_, fun i j a h1 h2 => ?_, fun i a ha => ?_⟩
  · cases i with
    | zero =>
      have e1 : SV.val d = u := Option.some.inj e1
      have e2 : some v = y := Option.some.inj e2
      subst e1; subst e2
      exact ⟨rfl, v, rfl, r⟩
    | succ i => exact o i u y (by simpa using e1) (by simpa using e2)
  · cases i with
    | zero => rfl
    | succ i => exact z i (by simpa using hi)
  · cases i with
    | zero => cases h1
    | succ i =>
      cases j with
      | zero => cases h2
      | succ j => rw [dj i j a h1 h2]
  · cases i with
    | zero => cases ha
    | succ i => exact fr i a ha
theorem Stt.pushUn (h : Stt B G H S σ) : Stt B G H (.un :: S) (x :: σ) := by
  obtain ⟨fp, o, z, dj, fr⟩ := h.own
  refine ⟨h.g, h.b, by simpa using h.len, fun i => match i with | 0 => [] | j + 1 => fp j, fun i u y e1 e2 => ?_, fun i hi => ?_, fun i j a h1 h2 => ?_, fun i a ha => ?_⟩
  · cases i with
    | zero =>
      have e1 : SV.un = u := Option.some.inj e1
      subst e1
      rfl
    | succ i => exact o i u y (by simpa using e1) (by simpa using e2)
  · cases i with
    | zero => rfl
    | succ i => exact z i (by simpa using hi)
  · cases i with
    | zero => cases h1
    | succ i =>
      cases j with
      | zero => cases h2
      | succ j => rw [dj i j a h1 h2]
  · cases i with
    | zero => cases ha
    | succ i => exact fr i a ha
/-- the heap has grown, or changed where nothing of ours stands -/
theorem Stt.heap {H' : Hp} (h : Stt B G H S σ) (g : Same G H') (b : Same B H') (k : ∀ a, G a = none → B a = none → H a ≠ none → H' a = H a) : Stt B G H' S σ := by
  obtain ⟨fp, o, z, dj, fr⟩ := h.own
  refine ⟨g, b, h.len, fp, fun i u y e1 e2 => ?_, z, dj, fr⟩
  have q := o i u y e1 e2
  refine q.mono (Same.refl _) fun a ha => ?_
  obtain ⟨g1, b1⟩ := fr i a ha
  obtain ⟨u', e, _⟩ := q.there a ha
  exact k a g1 b1 (by rw [e]; simp)
theorem same_upd {K : Hp} {o : HO} (k : Same K H) (hp : H p = none) : Same K (upd H p o) := fun a u e => by
  have : a ≠ p := by rintro rfl; rw [k _ _ e] at hp; cases hp
  rw [upd_ne this]
  exact k a u e
theorem Stt.grow {o : HO} (h : Stt B G H S σ) (hp : H p = none) : Stt B G (upd H p o) S σ :=
  h.heap (same_upd h.g hp) (same_upd h.b hp) fun a _ _ n => upd_ne (by rintro rfl; exact n hp)
theorem Stt.fresh (h : Stt B G H S σ) (hp : H p = none) : G p = none ∧ B p = none := ⟨h.g.free hp, h.b.free hp⟩
/-- slot i has changed: its objects, the heap, the data -/
theorem Stt.chg {G' H' : Hp} {i : Nat} {w w' : SV} {x : Option V} (h : Stt B G H S σ) (ew : S[i]? = some w) (ex : σ[i]? = some x) (gg : Same G G') (gh : Same G' H')
    (k : ∀ f, Own G H w x f → (∀ a ∈ f, G a = none ∧ B a = none) → ∃ f', Own G' H' w' x f' ∧ (∀ a ∈ f', (a ∈ f ∨ H a = none) ∧ G' a = none) ∧ (∀ a, a ∉ f → H a ≠ none → H' a = H a) ∧
      ∀ a o, a ∉ f → G a = none → G' a = some o → H a = none ∨ isTup o = true) : Stt B G' H' (S.set i w') σ := by
  obtain ⟨fp, o, z, dj, fr⟩ := h.own
  obtain ⟨f', q1, q2, q3, q4⟩ := k (fp i) (o i w x ew ex) (fr i)
  have hi : i < S.length := (List.getElem?_eq_some_iff.mp ew).1
  have off : ∀ j a, j ≠ i → a ∈ fp j → a ∉ fp i ∧ H a ≠ none := fun j a hj ha => by
    refine ⟨fun hb => hj (dj _ _ _ ha hb), ?_⟩
    have hl : j < S.length := by
      apply Classical.byContradiction
      intro hn
      rw [z j (by omega)] at ha
      cases ha
    obtain ⟨u, e, _⟩ := (o j _ _ (List.getElem?_eq_getElem hl) (List.getElem?_eq_getElem (by rw [← h.len]; exact hl))).there a ha
    rw [e]; simp
  refine ⟨gh, fun a u e => ?_, by rw [List.length_set]; exact h.len, fun j => if j = i then f' else fp j, fun j u y e1 e2 => ?_, fun j hj => ?_, fun j l a h1 h2 => ?_, fun j a ha => ?_⟩
  · have e' := h.b a u e
    rw [q3 a (fun ha => by rw [(fr i a ha).2] at e; cases e) (by rw [e']; simp)]
    exact e'
  · by_cases hj : j = i
    · subst hj
      rw [List.getElem?_set_self hi] at e1
      cases e1
      rw [ex] at e2
      cases e2
      simp only [if_true]
      exact q1
    · rw [List.getElem?_set_ne (Ne.symm hj)] at e1
      simp only [if_neg hj]
      exact (o j u y e1 e2).mono gg fun a ha => q3 a (off j a hj ha).1 (off j a hj ha).2
  · rw [List.length_set] at hj
    simp only [if_neg (show j ≠ i by omega)]
    exact z j hj
  · have key : ∀ j a, j ≠ i → a ∈ f' → a ∈ fp j → False := fun j a hj ha hb => by
      rcases (q2 a ha).1 with hc | hc
      · exact (off j a hj hb).1 hc
      · exact (off j a hj hb).2 hc
    by_cases hj : j = i <;> by_cases hl : l = i
    · rw [hj, hl]
    · simp only [if_pos hj] at h1; simp only [if_neg hl] at h2
      exact (key l a hl h1 h2).elim
    · simp only [if_neg hj] at h1; simp only [if_pos hl] at h2
      exact (key j a hj h2 h1).elim
    · simp only [if_neg hj] at h1; simp only [if_neg hl] at h2
      exact dj j l a h1 h2
  · by_cases hj : j = i
    · simp only [if_pos hj] at ha
      obtain ⟨h1, h2⟩ := q2 a ha
      refine ⟨h2, ?_⟩
      rcases h1 with h1 | h1
      · exact (fr i a h1).2
      · exact h.b.free h1
    · simp only [if_neg hj] at ha
      obtain ⟨g1, b1⟩ := fr j a ha
      refine ⟨?_, b1⟩
      cases e : G' a with
      | none => rfl
      | some u =>
        exfalso
        rcases q4 a u (off j a hj ha).1 g1 e with hn | ht
        · exact (off j a hj ha).2 hn
        · have hl : j < S.length := by
            apply Classical.byContradiction
            intro hn
            rw [z j (by omega)] at ha
            cases ha
          obtain ⟨u', e', t'⟩ := (o j _ _ (List.getElem?_eq_getElem hl) (List.getElem?_eq_getElem (by rw [← h.len]; exact hl))).there a ha
          have e2 := gh a u e
          rw [q3 a (off j a hj ha).1 (off j a hj ha).2, e'] at e2
          cases e2
          rw [t'] at ht
          cases ht
/-- slot i takes what the head holds -/
theorem Stt.put {i : Nat} (h : Stt B G H (w :: S) (x :: σ)) (hi : i < S.length) : Stt B G H (S.set i w) (σ.set i x) := by
  obtain ⟨fp, o, z, dj, fr⟩ := h.own
  have hl := h.len
  simp only [List.length_cons] at hl
  refine ⟨h.g, h.b, by simpa using hl, fun j => if j = i then fp 0 else fp (j + 1), fun j u y e1 e2 => ?_, fun j hj => ?_, fun j l a h1 h2 => ?_, fun j a ha => ?_⟩
  · by_cases hj : j = i
    · subst hj
      rw [List.getElem?_set_self hi] at e1
      rw [List.getElem?_set_self (by omega)] at e2
      cases e1; cases e2
      simp only [if_true]
      exact o 0 w x rfl rfl
    · rw [List.getElem?_set_ne (Ne.symm hj)] at e1 e2
      simp only [if_neg hj]
      exact o (j + 1) u y (by simpa using e1) (by simpa using e2)
  · rw [List.length_set] at hj
    simp only [if_neg (show j ≠ i by omega)]
    exact z (j + 1) (by simpa using hj)
  · by_cases hj : j = i <;> by_cases hl : l = i
    · rw [hj, hl]
    · simp only [if_pos hj] at h1; simp only [if_neg hl] at h2
      have := dj _ _ _ h1 h2
      omega
    · simp only [if_neg hj] at h1; simp only [if_pos hl] at h2
      have := dj _ _ _ h1 h2
      omega
    · simp only [if_neg hj] at h1; simp only [if_neg hl] at h2
      have := dj _ _ _ h1 h2
      omega
  · by_cases hj : j = i
    · simp only [if_pos hj] at ha; exact fr _ a ha
    · simp only [if_neg hj] at ha; exact fr _ a ha
/-- the head is put aside: what it owns must stay -/
theorem Stt.bracket (h : Stt B G H (w :: S) (x :: σ)) : ∃ B1, Stt B1 G H S σ ∧
    ∀ G' H' T τ, Ext B1 G G' → Stt B1 G' H' T τ → Ext B G G' ∧ Stt B G' H' (w :: T) (x :: τ) := by
  obtain ⟨fp, o, z, dj, fr⟩ := h.own
  have o0 := o 0 w x rfl rfl
  have inB : ∀ a u, B a = some u → a ∉ fp 0 := fun a u e ha => by rw [(fr 0 a ha).2] at e; cases e
  refine ⟨fun a => if a ∈ fp 0 then H a else B a, ⟨h.g, fun a u e => ?_, by simpa using h.len, fun i => fp (i + 1), fun i u y e1 e2 => o (i + 1) u y (by simpa using e1) (by simpa using e2), fun i hi => z (i + 1) (by simpa using hi), fun i j a h1 h2 => ?_, fun i a ha => ?_⟩, ?_⟩
  · by_cases ha : a ∈ fp 0
    · simp only [if_pos ha] at e; exact e
    · simp only [if_neg ha] at e; exact h.b a u e
  · have := dj _ _ _ h1 h2
    omega
  · obtain ⟨g1, b1⟩ := fr _ a ha
    refine ⟨g1, ?_⟩
    have : a ∉ fp 0 := fun hb => by have := dj _ _ _ ha hb; omega
    simp only [if_neg this]
    exact b1
  · intro G' H' T τ xt st
    have sB : Same B H' := fun a u e => st.b a u (by simp only [if_neg (inB a u e)]; exact e)
    have sH : ∀ a ∈ fp 0, H' a = H a := fun a ha => by
      obtain ⟨u, e, _⟩ := o0.there a ha
      rw [e]
      exact st.b a u (by simp only [if_pos ha]; exact e)
    refine ⟨⟨xt.1, fun a u e1 e2 => ?_⟩, ?_⟩
    · rcases xt.2 a u e1 e2 with q | q
      · by_cases ha : a ∈ fp 0
        · exact .inl (fr 0 a ha).2
        · simp only [if_neg ha] at q; exact .inl q
      · exact .inr q
    · obtain ⟨fp', o', z', dj', fr'⟩ := st.own
      have off : ∀ i a, a ∈ fp' i → a ∉ fp 0 := fun i a ha hb => by
        have q := (fr' i a ha).2
        simp only [if_pos hb] at q
        obtain ⟨u, e, _⟩ := o0.there a hb
        rw [e] at q; cases q
      refine ⟨st.g, sB, by simpa using st.len, fun i => match i with | 0 => fp 0 | j + 1 => fp' j, fun i u y e1 e2 => ?_, fun i hi => ?_, fun i j a h1 h2 => ?_, fun i a ha => ?_⟩
      · cases i with
        | zero =>
          have e1 : w = u := Option.some.inj e1
          have e2 : x = y := Option.some.inj e2
          subst e1; subst e2
          exact o0.mono xt.1 sH
        | succ i => exact o' i u y (by simpa using e1) (by simpa using e2)
      · cases i with
        | zero => simp at hi
        | succ i => exact z' i (by simpa using hi)
      · cases i with
        | zero =>
          cases j with
          | zero => rfl
          | succ j => exact (off j a h2 h1).elim
        | succ i =>
          cases j with
          | zero => exact (off i a h1 h2).elim
          | succ j => rw [dj' i j a h1 h2]
      · cases i with
        | zero =>
          refine ⟨?_, (fr 0 a ha).2⟩
          cases e : G' a with
          | none => rfl
          | some u =>
            exfalso
            obtain ⟨u', e', t'⟩ := o0.there a ha
            have e2 := st.g a u e
            rw [sH a ha, e'] at e2
            cases e2
            rcases xt.2 a _ (fr 0 a ha).1 e with q | q
            · simp only [if_pos ha] at q
              rw [e'] at q; cases q
            · rw [t'] at q; cases q
        | succ i =>
          obtain ⟨g1, b1⟩ := fr' i a ha
          simp only [if_neg (off i a ha)] at b1
          exact ⟨g1, b1⟩
end
end DL
namespace DL
open PySem PySem.Spec PyProof.Rows L2
section
variable {B G H : Hp} {S : List SV} {σ : L2.St} {w : SV} {x : Option V} {v : V} {d : D} {p : Addr}
theorem same_put {K : Hp} {o : HO} (k : Same K H) (e : H p = some o) : Same (upd K p o) H := fun a u q => by
  by_cases h : a = p
  · subst h; rw [upd_same] at q; cases q; exact e
  · rw [upd_ne h] at q; exact k a u q
theorem same_into {K : Hp} {o : HO} (k : Same K H) (e : H p = some o) : Same K (upd K p o) := fun a u q => by
  by_cases h : a = p
  · subst h; rw [upd_same]; rw [← e]; exact k a u q
  · rw [upd_ne h]; exact q
/-- a tuple of the heap is data -/
theorem Stt.addTup {vs : List V} (h : Stt B G H S σ) (e : H p = some (.tup vs)) : Stt B (upd G p (.tup vs)) H S σ ∧ Ext B G (upd G p (.tup vs)) := by
  have x1 : Same G (upd G p (.tup vs)) := same_into h.g e
  refine ⟨?_, x1, fun a o h1 h2 => ?_⟩
  · obtain ⟨fp, o, z, dj, fr⟩ := h.own
    refine ⟨same_put h.g e, h.b, h.len, fp, fun i u y e1 e2 => (o i u y e1 e2).mono x1 fun _ _ => rfl, z, dj, fun i a ha => ⟨?_, (fr i a ha).2⟩⟩
    have hl : i < S.length := by
      apply Classical.byContradiction
      intro hn
      rw [z i (by omega)] at ha
      cases ha
    obtain ⟨u', e', t'⟩ := (o i _ _ (List.getElem?_eq_getElem hl) (List.getElem?_eq_getElem (by rw [← h.len]; exact hl))).there a ha
    have : a ≠ p := by rintro rfl; rw [e] at e'; cases e'; cases t'
    rw [upd_ne this]
    exact (fr i a ha).1
  · by_cases hp : a = p
    · subst hp; rw [upd_same] at h2; cases h2; exact .inr rfl
    · rw [upd_ne hp, h1] at h2; cases h2
/-- a new tuple -/
theorem Stt.newTup {vs : List V} {ds : List D} (h : Stt B G H S σ) (hp : H p = none) (r : RpA G vs ds) (z : ds.length ≤ sizeLine) :
    ∃ G', Ext B G G' ∧ Stt B G' (upd H p (.tup vs)) (.val (.tuple ds) :: S) (some (.ref p) :: σ) := by
  obtain ⟨h2, x2⟩ := (h.grow (o := .tup vs) hp).addTup upd_same
  exact ⟨_, x2, h2.push (.tup upd_same z (r.mono x2.1))⟩
/-- a new object of one's own -/
theorem Stt.newOwn {o : HO} (h : Stt B G H S σ) (hp : H p = none) (k : Own G (upd H p o) w x [p]) : Stt B G (upd H p o) (w :: S) (x :: σ) := by
  have h2 := h.grow (o := o) hp
  obtain ⟨fp, ow, z, dj, fr⟩ := h.own
  have off : ∀ i a, a ∈ fp i → a ≠ p := fun i a ha => by
    have hl : i < S.length := by
      apply Classical.byContradiction
      intro hn
      rw [z i (by omega)] at ha
      cases ha
    obtain ⟨u', e', t'⟩ := (ow i _ _ (List.getElem?_eq_getElem hl) (List.getElem?_eq_getElem (by rw [← h.len]; exact hl))).there a ha
    rintro rfl
    rw [hp] at e'; cases e'
  refine ⟨h2.g, h2.b, by simpa using h.len, fun i => match i with | 0 => [p] | j + 1 => fp j, fun i u y e1 e2 => ?_, fun i hi => ?_, fun i j a h1 h3 => ?_, fun i a ha => ?_⟩
  · cases i with
    | zero =>
      have e1 : w = u := Option.some.inj e1
      have e2 : x = y := Option.some.inj e2
      subst e1; subst e2
      exact k
    | succ i => exact (ow i u y (by simpa using e1) (by simpa using e2)).mono (Same.refl _) fun a ha => upd_ne (off i a ha)
  · cases i with
    | zero => simp at hi
    | succ i => exact z i (by simpa using hi)
  · cases i with
    | zero =>
      have e : a = p := by simpa using h1
      cases j with
      | zero => rfl
      | succ j => exact (off j a h3 e).elim
    | succ i =>
      cases j with
      | zero =>
        have e : a = p := by simpa using h3
        exact (off i a h1 e).elim
      | succ j => rw [dj i j a h1 h3]
  · cases i with
    | zero =>
      have e : a = p := by simpa using ha
      subst e
      exact h.fresh hp
    | succ i => exact fr i a ha
theorem Stt.newLst {vs : List V} {ds : List D} (h : Stt B G H S σ) (hp : H p = none) (r : RpA G vs ds) (z : ds.length ≤ sizeLine) : Stt B G (upd H p (.lst vs)) (.lst ds :: S) (some (.ref p) :: σ) :=
  h.newOwn hp ⟨p, vs, rfl, rfl, upd_same, r, z⟩
theorem Stt.newDk {us : List (Key × V)} {ks : List (Key × D)} (h : Stt B G H S σ) (hp : H p = none) (r : RpV G us ks) (z : ks.length ≤ sizeLine) : Stt B G (upd H p (.dK us)) (.dk ks :: S) (some (.ref p) :: σ) :=
  h.newOwn hp ⟨p, us, rfl, rfl, upd_same, r, z⟩
theorem Stt.newDt {us : List (List Key × V)} {ks : List (List Key × D)} (h : Stt B G H S σ) (hp : H p = none) (r : RpV G us ks) (z : ks.length ≤ sizeLine) : Stt B G (upd H p (.dT us)) (.dt ks :: S) (some (.ref p) :: σ) :=
  h.newOwn hp ⟨p, us, rfl, rfl, upd_same, r, z⟩

/-! ### freezing: an object of one's own becomes data -/
theorem Stt.at (h : Stt B G H S σ) {i : Nat} (e : S[i]? = some w) : ∃ x, σ[i]? = some x := by
  have hi : i < σ.length := by rw [← h.len]; exact (List.getElem?_eq_some_iff.mp e).1
  exact ⟨_, List.getElem?_eq_getElem hi⟩
theorem Stt.frz1 {i : Nat} {o : HO} (h : Stt B G H S σ) (e : S[i]? = some w) (hp : H p = some o) (hx : ∀ x f, σ[i]? = some x → Own G H w x f → x = some (.ref p) ∧ f = [p])
    (r : Rp (upd G p o) (.ref p) d) : ∃ G', Ext B G G' ∧ Stt B G' H (S.set i (.val d)) σ := by
  obtain ⟨x, ex⟩ := h.at e
  have x1 : Same G (upd G p o) := same_into h.g hp
  have own0 : ∃ f, Own G H w x f ∧ ∀ a ∈ f, G a = none ∧ B a = none := by
    obtain ⟨fp, o, z, dj, fr⟩ := h.own
    exact ⟨fp i, o i w x e ex, fr i⟩
  obtain ⟨f, of, ff⟩ := own0
  obtain ⟨rfl, rfl⟩ := hx x f ex of
  obtain ⟨gp, bp⟩ := ff p (by simp)
  refine ⟨upd G p o, ⟨x1, fun a u h1 h2 => ?_⟩, h.chg e ex x1 (same_put h.g hp) fun f' of' fr' => ?_⟩
  · by_cases q : a = p
    · subst q; exact .inl bp
    · rw [upd_ne q, h1] at h2; cases h2
  · obtain ⟨_, rfl⟩ := hx _ f' ex of'
    refine ⟨[], ⟨rfl, _, rfl, r⟩, fun a ha => absurd ha (by simp), fun a _ _ => rfl, fun a u hn h1 h2 => ?_⟩
    have : a ≠ p := by simpa using hn
    rw [upd_ne this, h1] at h2; cases h2
theorem Stt.frzL {i : Nat} {ds : List D} (h : Stt B G H S σ) (e : S[i]? = some (.lst ds)) : ∃ G', Ext B G G' ∧ Stt B G' H (S.set i (.val (.list ds))) σ := by
  obtain ⟨x, ex⟩ := h.at e
  obtain ⟨fp, o, _⟩ := id h.own
  obtain ⟨p, vs, rfl, _, ep, r, z⟩ := o i _ x e ex
  have x1 : Same G (upd G p (.lst vs)) := same_into h.g ep
  refine h.frz1 (p := p) (o := .lst vs) e ep (fun y f hy oy => ?_) (.lst upd_same z (r.mono x1))
  rw [ex] at hy; cases hy
  obtain ⟨a, _, ea, ef, _⟩ := oy
  cases ea; exact ⟨rfl, ef⟩
theorem Stt.frzK {i : Nat} {ks : List (Key × D)} (h : Stt B G H S σ) (e : S[i]? = some (.dk ks)) : ∃ G', Ext B G G' ∧ Stt B G' H (S.set i (.val (.dict (ks.map fun p => (kD p.1, p.2))))) σ := by
  obtain ⟨x, ex⟩ := h.at e
  obtain ⟨fp, o, _⟩ := id h.own
  obtain ⟨p, us, rfl, _, ep, r, z⟩ := o i _ x e ex
  have x1 : Same G (upd G p (.dK us)) := same_into h.g ep
  refine h.frz1 (p := p) (o := .dK us) e ep (fun y f hy oy => ?_) (.dk upd_same (by rw [List.length_map]; exact z) (r.mono x1).toK)
  rw [ex] at hy; cases hy
  obtain ⟨a, _, ea, ef, _⟩ := oy
  cases ea; exact ⟨rfl, ef⟩
theorem Stt.frzT {i : Nat} {ks : List (List Key × D)} (h : Stt B G H S σ) (e : S[i]? = some (.dt ks)) : ∃ G', Ext B G G' ∧ Stt B G' H (S.set i (.val (.dict (ks.map fun p => (.tuple (p.1.map kD), p.2))))) σ := by
  obtain ⟨x, ex⟩ := h.at e
  obtain ⟨fp, o, _⟩ := id h.own
  obtain ⟨p, us, rfl, _, ep, r, z⟩ := o i _ x e ex
  have x1 : Same G (upd G p (.dT us)) := same_into h.g ep
  refine h.frz1 (p := p) (o := .dT us) e ep (fun y f hy oy => ?_) (.dt upd_same (by rw [List.length_map]; exact z) (r.mono x1).toT)
  rw [ex] at hy; cases hy
  obtain ⟨a, _, ea, ef, _⟩ := oy
  cases ea; exact ⟨rfl, ef⟩
end
end DL

/-! DL, part b: contexts, the judgements over data, names, constants, operators, tests, displays, statements. -/
namespace DL
open PySem PySem.Spec PyProof.Rows L2

/-- what is known of a context -/
structure CC where
  P : Program
  w : World
  K : PySem.W.Frag
  mg : Str → Option Value
  base : Heap
  N : List Str
  sc : Scope
  lc : Scope
  k : Nat
structure CC.In (c : CC) (X : Cx) : Prop where
  prog : X.prog = c.P
  w : X.w = c.w
  K : X.K = c.K
  mg : X.mg = c.mg
  base : X.base = c.base
  N : X.N = c.N
  sc : X.env.scope = c.sc
  calm : X.calm = true
  room : Room c.k X.A
  gd : X.A.guards = some []
  xe : X.xe = fun _ _ => False
  loc : ∀ x, Loc c.lc x → Loc c.sc x ∧ (X.fn x = true ∨ c.sc.names.lookup x = some .local)
abbrev CC.blk (c : CC) (scope : Scope) : CC := { c with sc := relS scope c.sc, lc := scope }
theorem CC.In.blk {c : CC} {X : Cx} (h : c.In X) (s : Shared) (H : Hp) (scope : Scope) (cl : List (Str × Addr)) (C : Addr) (fp : List Addr) : (c.blk scope).In (X.blk s H scope (compEnvC scope cl C X.env) fp) where
  prog := h.prog
  w := h.w
  K := h.K
  mg := h.mg
  base := h.base
  N := h.N
  sc := by
    show relS scope X.env.scope = relS scope c.sc
    rw [h.sc]
  calm := h.calm
  room := h.room
  gd := h.gd
  xe := rfl
  loc := fun x hx => by
    have hx : scope.names.lookup x = some .local ∨ scope.names.lookup x = some .cell := hx
    show (Loc (relS scope c.sc) x) ∧ ((scope.names.lookup x == some .cell) = true ∨ (relS scope c.sc).names.lookup x = some .local)
    rcases hx with hx | hx
    · have q := lookup_relS_keep (sc := c.sc) (k := .local) (by decide) hx
      exact ⟨.inl q, .inr q⟩
    · have q := lookup_relS_keep (sc := c.sc) (k := .cell) (by decide) hx
      exact ⟨.inr q, .inl (by rw [hx]; rfl)⟩

/-! ### readings by data -/
def tD (S : List SV) (w : SV) (S' : List SV) : TE := fun σ H Q => ∃ B G, Stt B G H S σ ∧ ∀ v H' G', Ext B G G' → Stt B G' H' (w :: S') (some v :: σ) → Q v H'
def tT (S : List SV) (b : Bool) (S' : List SV) : TT := fun σ H Q => ∃ B G, Stt B G H S σ ∧ ∀ H' G', Ext B G G' → Stt B G' H' S' σ → Q b H'
def tA (S : List SV) (ws : List SV) (S' : List SV) : TA := fun σ H Q => ∃ B G, Stt B G H S σ ∧ ∀ vs H' G', Ext B G G' → vs.length = ws.length → Stt B G' H' (ws ++ S') (vs.map some ++ σ) → Q vs H'
/-- e is w, then the state is S' -/
def EX (c : CC) (e : Expr) (S : List SV) (w : SV) (S' : List SV) : Prop := ∀ X, c.In X → PE X e (tD S w S')
def TX (c : CC) (e : Expr) (S : List SV) (b : Bool) (S' : List SV) : Prop := ∀ X, c.In X → PT X e (tT S b S')
def WX (c : CC) (e : Expr) (S : List SV) (b : Bool) (S' : List SV) : Prop := ∀ X, c.In X → PW X e (tT S b S')
def AX (c : CC) (es : List Expr) (S : List SV) (ws : List SV) (S' : List SV) : Prop := ∀ X, c.In X → PA X es (tA S ws S')

/-- what may come of a statement -/
inductive Oc where
  | nx (S : List SV)
  | rt (w : SV) (S : List SV)
  | bk (S : List SV)
  | ct (S : List SV)
structure Fits (B G : Hp) (D : Ends) (P : Oc → Prop) : Prop where
  nx : ∀ S' G' σ' H', P (.nx S') → Ext B G G' → Stt B G' H' S' σ' → D.nx σ' H'
  rt : ∀ w S' v G' σ' H', P (.rt w S') → Ext B G G' → Stt B G' H' (w :: S') (some v :: σ') → D.rt v H'
  bk : ∀ S' G' σ' H', P (.bk S') → Ext B G G' → Stt B G' H' S' σ' → D.bk σ' H'
  ct : ∀ S' G' σ' H', P (.ct S') → Ext B G G' → Stt B G' H' S' σ' → D.ct σ' H'
def tS (S : List SV) (P : Oc → Prop) : TS := fun D σ H => ∃ B G, Stt B G H S σ ∧ Fits B G D P
/-- from S the statements come to P -/
def WS (c : CC) (sts : List Stmt) (S : List SV) (P : Oc → Prop) : Prop := ∀ X, c.In X → PSs X sts (tS S P)
def W1 (c : CC) (st : Stmt) (S : List SV) (P : Oc → Prop) : Prop := ∀ X, c.In X → PS X st (tS S P)

section
variable {X : Cx} {e : Expr} {es : List Expr}
theorem _root_.L2.PE.wk {t t' : TE} (h : PE X e t) (k : ∀ σ H Q, t' σ H Q → t σ H Q) : PE X e t' := ⟨fun pins s σ H Q I q => h.run pins s σ H Q I (k σ H Q q)⟩
theorem _root_.L2.PT.wk {t t' : TT} (h : PT X e t) (k : ∀ σ H Q, t' σ H Q → t σ H Q) : PT X e t' := ⟨fun pins s σ H Q I q => h.run pins s σ H Q I (k σ H Q q)⟩
theorem _root_.L2.PW.wk {t t' : TT} (h : PW X e t) (k : ∀ σ H Q, t' σ H Q → t σ H Q) : PW X e t' := ⟨fun wh pins s σ H Q I q => h.run wh pins s σ H Q I (k σ H Q q)⟩
theorem _root_.L2.PA.wk {t t' : TA} (h : PA X es t) (k : ∀ σ H Q, t' σ H Q → t σ H Q) : PA X es t' := ⟨fun pos pins s σ H Q I q => h.run pos pins s σ H Q I (k σ H Q q)⟩
theorem _root_.L2.PS.wk {st : Stmt} {t t' : TS} (h : PS X st t) (k : ∀ D σ H, t' D σ H → t D σ H) : PS X st t' := ⟨fun pins s σ H D I q => h.run pins s σ H D I (k D σ H q)⟩
theorem _root_.L2.PSs.wk {st : List Stmt} {t t' : TS} (h : PSs X st t) (k : ∀ D σ H, t' D σ H → t D σ H) : PSs X st t' := ⟨fun pins s σ H D I q => h.run pins s σ H D I (k D σ H q)⟩
end

section
variable {c : CC} {e a b : Expr} {es : List Expr} {S S1 S2 S3 : List SV} {w wa wb : SV} {ws : List SV} {pos : Pos}

/-- the state may be told otherwise -/
def Imp (S S' : List SV) : Prop := ∀ B G H σ, Stt B G H S σ → ∃ G', Ext B G G' ∧ Stt B G' H S' σ
theorem Imp.refl (S : List SV) : Imp S S := fun B G H σ h => ⟨G, Ext.refl _ _, h⟩
theorem Imp.trans (p : Imp S S1) (q : Imp S1 S2) : Imp S S2 := fun B G H σ h =>
  let ⟨G1, x1, h1⟩ := p B G H σ h
  let ⟨G2, x2, h2⟩ := q B G1 H σ h1
  ⟨G2, x1.trans x2, h2⟩
theorem EX.pre (p : Imp S S1) (h : EX c e S1 w S2) : EX c e S w S2 := fun X hX => (h X hX).wk fun σ H Q ⟨B, G, st, k⟩ => by
  obtain ⟨G1, x1, st1⟩ := p B G H σ st
  exact ⟨B, G1, st1, fun v H' G' x st' => k v H' G' (x1.trans x) st'⟩
theorem EX.post (h : EX c e S w S1) (p : Imp (w :: S1) (wa :: S2)) : EX c e S wa S2 := fun X hX => (h X hX).wk fun σ H Q ⟨B, G, st, k⟩ =>
  ⟨B, G, st, fun v H' G' x st' => by
    obtain ⟨G1, x1, st1⟩ := p B G' H' _ st'
    exact k v H' G1 (x.trans x1) st1⟩
theorem Imp.frz {ds : List D} {i : Nat} (e : S[i]? = some (.lst ds)) : Imp S (S.set i (.val (.list ds))) := fun B G H σ h => h.frzL e
theorem Imp.frzK {ks : List (Key × D)} {i : Nat} (e : S[i]? = some (.dk ks)) : Imp S (S.set i (.val (.dict (ks.map fun p => (kD p.1, p.2))))) := fun B G H σ h => h.frzK e
theorem Imp.frzT {ks : List (List Key × D)} {i : Nat} (e : S[i]? = some (.dt ks)) : Imp S (S.set i (.val (.dict (ks.map fun p => (.tuple (p.1.map kD), p.2))))) := fun B G H σ h => h.frzT e
/-- a fresh list becomes data -/
theorem EX.fz {ds : List D} (h : EX c e S (.lst ds) S1) : EX c e S (.val (.list ds)) S1 := h.post (Imp.frz (i := 0) rfl)
theorem EX.fzT {ks : List (List Key × D)} (h : EX c e S (.dt ks) S1) : EX c e S (.val (.dict (ks.map fun p => (.tuple (p.1.map kD), p.2)))) S1 := h.post (Imp.frzT (i := 0) rfl)
theorem EX.fzK {ks : List (Key × D)} (h : EX c e S (.dk ks) S1) : EX c e S (.val (.dict (ks.map fun p => (kD p.1, p.2)))) S1 := h.post (Imp.frzK (i := 0) rfl)

/-! ### names, constants -/
theorem ex_name {i : Nat} {x : Str} {d : D} (hN : c.N[i]? = some x := by rfl) (hv : Vis c.sc x := by first | exact Or.inl rfl | exact Or.inr (Or.inl rfl) | exact Or.inr (Or.inr rfl)) (hs : S[i]? = some (.val d) := by rfl)
    (hd : (x == ("__debug__" : Str)) = false := by decide) (hcd : (x == ("__classdict__" : Str)) = false := by decide) : EX c (.Name x pos) S (.val d) S := fun X hX =>
  (pe_var (i := i) (by rw [hX.N]; exact hN) (by rw [hX.sc]; exact hv) hd hcd).wk fun σ H Q ⟨B, G, st, k⟩ => by
    obtain ⟨v, e, r⟩ := st.val hs
    exact ⟨v, e, k v H G (Ext.refl _ _) (st.push r)⟩
theorem ex_const {t : V} {d : D} (r : ∀ G, Rp G t d) (h : ∀ X, PE X e (tC t)) : EX c e S (.val d) S := fun X _ => (h X).wk fun σ H Q ⟨B, G, st, k⟩ => k t H G (Ext.refl _ _) (st.push (r G))
theorem ex_int {i : Int} {j : Nat} : EX c (.Constant (.int i) j pos) S (.val (.int i)) S := ex_const (fun _ => .int i) fun _ => pe_int
theorem ex_bool {b : Bool} {j : Nat} : EX c (.Constant (.bool b) j pos) S (.val (.bool b)) S := ex_const (fun _ => .bl b) fun _ => pe_bl
theorem ex_none {j : Nat} : EX c (.Constant .none j pos) S (.val .none) S := ex_const (fun _ => .non) fun _ => pe_non
theorem ex_str {x : Str} {j : Nat} : EX c (.Constant (.str x) j pos) S (.val (.str x)) S := ex_const (fun _ => .str x) fun _ => pe_str

/-! ### operators by values -/
def VR1 (r : V → Hp → VK → Prop) (wa w : SV) : Prop := ∀ B G H S σ x Q, Stt B G H (wa :: S) (some x :: σ) → (∀ v H' G', Ext B G G' → Stt B G' H' (w :: S) (some v :: σ) → Q v H') → r x H Q
def VR2 (r : R2) (wa wb w : SV) : Prop := ∀ B G H S σ x y Q, Stt B G H (wa :: wb :: S) (some x :: some y :: σ) → (∀ v H' G', Ext B G G' → Stt B G' H' (w :: S) (some v :: σ) → Q v H') → r x y H Q
theorem two {r : R2} {σ : L2.St} {H : Hp} {Q : VK} (hv : VR2 r wa wb w) (h : tD S w S2 σ H Q) : tOp r (tD S wa S1) (tD S1 wb S2) σ H Q := by
  obtain ⟨B, G, st, k⟩ := h
  refine ⟨B, G, st, fun x H1 G1 x1 st1 => ?_⟩
  obtain ⟨B1, st1', back⟩ := st1.bracket
  refine ⟨B1, G1, st1', fun y H2 G2 x2 st2 => ?_⟩
  obtain ⟨x2', st2'⟩ := back G2 H2 _ _ x2 st2
  exact hv B G2 H2 S2 σ x y Q st2' fun v H' G' x3 st3 => k v H' G' ((x1.trans x2').trans x3) st3
theorem ex_bin {op : Operator} (ho : ∀ X, c.In X → ∃ r, OpR X (binaryOp op) r ∧ VR2 r wa wb w) (ha : EX c a S wa S1) (hb : EX c b S1 wb S2) : EX c (.BinOp a op b pos) S w S2 := fun X hX =>
  (pe_op (ho X hX).choose_spec.1 (ha X hX) (hb X hX)).wk fun σ H Q h => two (ho X hX).choose_spec.2 h
theorem ex_cmpG {op : CmpOp} (ho : ∀ X, c.In X → ∃ r, OpR X (compareOp op) r ∧ VR2 r wa wb w) (ha : EX c a S wa S1) (hb : EX c b S1 wb S2) (hm : behindInMarks op b = false) : EX c (.Compare a [op] [b] pos) S w S2 := fun X hX =>
  (pe_cmpR (ho X hX).choose_spec.1 (ha X hX) (hb X hX) hm).wk fun σ H Q h => two (ho X hX).choose_spec.2 h
/-- a test from a value that is a bool -/
theorem tx_cmpG {op : CmpOp} {k : Bool} (ho : ∀ X, c.In X → ∃ r, OpR X (compareOp op) r ∧ VR2 r wa wb (.val (.bool k))) (ha : EX c a S wa S1) (hb : EX c b S1 wb S2) (hm : behindInMarks op b = false) : TX c (.Compare a [op] [b] pos) S k S2 := fun X hX =>
  (pt_cmpR (ho X hX).choose_spec.1 (ha X hX) (hb X hX) hm).wk fun σ H Q ⟨B, G, st, q⟩ => two (w := .val (.bool k)) (ho X hX).choose_spec.2 ⟨B, G, st, fun v H' G' x st' => by
    have := st'.headV
    cases this
    exact ⟨k, rfl, q H' G' x st'.tail⟩⟩
theorem tx_val {k : Bool} (h : EX c e S (.val (.bool k)) S1) (he : ∀ env whole, isTrue e env whole = (do let v ← whole; standAt e.pos; holding [v] (truthy v)) := by intro _ _; rfl) : TX c e S k S1 := fun X hX =>
  (pt_val (h X hX) (he X.env)).wk fun σ H Q ⟨B, G, st, q⟩ => ⟨B, G, st, fun v H' G' x st' => by
    have := st'.headV
    cases this
    exact ⟨k, rfl, q H' G' x st'.tail⟩⟩
theorem ex_un {op : UnaryOp} (ho : ∀ X, c.In X → ∃ r, UnR X (unaryOp op) r ∧ VR1 r wa w) (ha : EX c a S wa S1) : EX c (.UnaryOp op a pos) S w S1 := fun X hX =>
  (pe_un (ho X hX).choose_spec.1 (ha X hX)).wk fun σ H Q ⟨B, G, st, k⟩ => ⟨B, G, st, fun x H1 G1 x1 st1 => (ho X hX).choose_spec.2 B G1 H1 S1 σ x Q st1 fun v H' G' x2 st2 => k v H' G' (x1.trans x2) st2⟩

section
variable {B G H : Hp} {σ : L2.St} {x y v : V} {d1 d2 : D}
theorem Stt.drop1 (h : Stt B G H (wa :: S) (some x :: σ)) : Stt B G H S σ := h.tail
theorem Stt.drop2 (h : Stt B G H (wa :: wb :: S) (some x :: some y :: σ)) : Stt B G H S σ := h.tail.tail
theorem Stt.heads (h : Stt B G H (.val d1 :: .val d2 :: S) (some x :: some y :: σ)) : Rp G x d1 ∧ Rp G y d2 := ⟨h.headV, h.tail.headV⟩
end
/-- two ints -/
theorem vrI {i j : Int} {C : Int → Int → Prop} {g : Int → Int → V} {d : D} (hC : C i j) (hg : ∀ G, Rp G (g i j) d) : VR2 (rI C g) (.val (.int i)) (.val (.int j)) (.val d) := fun B G H S σ x y Q st k => by
  obtain ⟨r1, r2⟩ := st.heads
  cases r1; cases r2
  exact ⟨i, j, rfl, rfl, hC, k _ H G (Ext.refl _ _) (st.drop2.push (hg G))⟩
theorem vrI0 {i j : Int} {g : Int → Int → V} {d : D} (hg : ∀ G, Rp G (g i j) d) : VR2 (rI0 g) (.val (.int i)) (.val (.int j)) (.val d) := fun B G H S σ x y Q st k => by
  obtain ⟨r1, r2⟩ := st.heads
  cases r1; cases r2
  exact ⟨i, j, rfl, rfl, k _ H G (Ext.refl _ _) (st.drop2.push (hg G))⟩
section
variable {i j : Int}
theorem ex_add (ha : EX c a S (.val (.int i)) S1) (hb : EX c b S1 (.val (.int j)) S2) : EX c (.BinOp a .Add b pos) S (.val (.int (i + j))) S2 := ex_bin (fun _ hX => ⟨_, op_add, vrI0 fun _ => .int _⟩) ha hb
theorem ex_sub (ha : EX c a S (.val (.int i)) S1) (hb : EX c b S1 (.val (.int j)) S2) : EX c (.BinOp a .Sub b pos) S (.val (.int (i - j))) S2 := ex_bin (fun _ hX => ⟨_, op_sub, vrI0 fun _ => .int _⟩) ha hb
/-- one factor within 2^64 -/
def MulOk (i j : Int) : Prop := CMul i j
theorem ex_mul (ha : EX c a S (.val (.int i)) S1) (hb : EX c b S1 (.val (.int j)) S2) (h : MulOk i j) : EX c (.BinOp a .Mult b pos) S (.val (.int (i * j))) S2 := ex_bin (fun _ hX => ⟨_, op_mul, vrI h fun _ => .int _⟩) ha hb
/-- a positive divisor below 2^30 -/
def DivOk (j : Int) : Prop := 0 < j ∧ j < 1073741824
theorem ex_fdiv (ha : EX c a S (.val (.int i)) S1) (hb : EX c b S1 (.val (.int j)) S2) (h : DivOk j) : EX c (.BinOp a .FloorDiv b pos) S (.val (.int (i / j))) S2 := ex_bin (fun _ hX => ⟨_, op_fdiv, vrI (C := CDiv) h fun _ => .int _⟩) ha hb
theorem ex_mod (ha : EX c a S (.val (.int i)) S1) (hb : EX c b S1 (.val (.int j)) S2) (h : 0 < j) : EX c (.BinOp a .Mod b pos) S (.val (.int (i % j))) S2 := ex_bin (fun _ hX => ⟨_, op_mod, vrI (C := fun _ j => 0 < j) h fun _ => .int _⟩) ha hb
theorem ex_neg (ha : EX c a S (.val (.int i)) S1) : EX c (.UnaryOp .USub a pos) S (.val (.int (-i))) S1 := ex_un (fun _ _ => ⟨_, un_neg, fun B G H S σ x Q st k => by
  have r := st.headV
  cases r
  exact ⟨i, rfl, k _ H G (Ext.refl _ _) (st.tail.push (.int _))⟩⟩) ha
/-- comparisons of ints -/
theorem ex_lt (ha : EX c a S (.val (.int i)) S1) (hb : EX c b S1 (.val (.int j)) S2) : EX c (.Compare a [.Lt] [b] pos) S (.val (.bool (decide (i < j)))) S2 := ex_cmpG (fun _ hX => ⟨_, op_lt, vrI0 fun _ => .bl _⟩) ha hb (nomark _)
theorem ex_le (ha : EX c a S (.val (.int i)) S1) (hb : EX c b S1 (.val (.int j)) S2) : EX c (.Compare a [.LtE] [b] pos) S (.val (.bool (decide (i ≤ j)))) S2 := ex_cmpG (fun _ hX => ⟨_, op_le, vrI0 fun _ => .bl _⟩) ha hb (nomark _)
theorem ex_gt (ha : EX c a S (.val (.int i)) S1) (hb : EX c b S1 (.val (.int j)) S2) : EX c (.Compare a [.Gt] [b] pos) S (.val (.bool (decide (j < i)))) S2 := ex_cmpG (fun _ hX => ⟨_, op_gt, vrI0 fun _ => .bl _⟩) ha hb (nomark _)
theorem ex_ge (ha : EX c a S (.val (.int i)) S1) (hb : EX c b S1 (.val (.int j)) S2) : EX c (.Compare a [.GtE] [b] pos) S (.val (.bool (decide (j ≤ i)))) S2 := ex_cmpG (fun _ hX => ⟨_, op_ge, vrI0 fun _ => .bl _⟩) ha hb (nomark _)
theorem tx_lt (ha : EX c a S (.val (.int i)) S1) (hb : EX c b S1 (.val (.int j)) S2) : TX c (.Compare a [.Lt] [b] pos) S (decide (i < j)) S2 := tx_cmpG (fun _ hX => ⟨_, op_lt, vrI0 fun _ => .bl _⟩) ha hb (nomark _)
theorem tx_le (ha : EX c a S (.val (.int i)) S1) (hb : EX c b S1 (.val (.int j)) S2) : TX c (.Compare a [.LtE] [b] pos) S (decide (i ≤ j)) S2 := tx_cmpG (fun _ hX => ⟨_, op_le, vrI0 fun _ => .bl _⟩) ha hb (nomark _)
theorem tx_gt (ha : EX c a S (.val (.int i)) S1) (hb : EX c b S1 (.val (.int j)) S2) : TX c (.Compare a [.Gt] [b] pos) S (decide (j < i)) S2 := tx_cmpG (fun _ hX => ⟨_, op_gt, vrI0 fun _ => .bl _⟩) ha hb (nomark _)
theorem tx_ge (ha : EX c a S (.val (.int i)) S1) (hb : EX c b S1 (.val (.int j)) S2) : TX c (.Compare a [.GtE] [b] pos) S (decide (j ≤ i)) S2 := tx_cmpG (fun _ hX => ⟨_, op_ge, vrI0 fun _ => .bl _⟩) ha hb (nomark _)
end
/-! ### data without dicts: as the library reads it -/
mutual
theorem Rp.dp {K : PySem.W.Frag} {G H : Hp} (g : Same G H) : ∀ {d : D} {v : V}, d.plain = true → Rp G v d → Dp K H v d
  | .none, _, _, r => by cases r; exact .non
  | .bool b, _, _, r => by cases r; exact .bl b
  | .int i, _, _, r => by cases r; exact .int i
  | .str x, _, _, r => by cases r; exact .str x
  | .tuple ds, _, n, r => by
    cases r with
    | tup e z q => exact .tup (SqT.of (g _ _ e)) (RpA.dp g (by simpa [PyData.plain] using n) q)
  | .list ds, _, n, r => by
    cases r with
    | lst e z q => exact .lst (SqL.of (g _ _ e)) (RpA.dp g (by simpa [PyData.plain] using n) q)
  | .dict ds, _, n, _ => by simp [PyData.plain] at n
theorem RpA.dp {K : PySem.W.Frag} {G H : Hp} (g : Same G H) : ∀ {ds : List D} {vs : List V}, PyData.plainAll ds = true → RpA G vs ds → DpAll K H vs ds
  | [], _, _, r => by cases r; exact .nil
  | d :: ds, _, n, r => by
    cases r with
    | cons a b =>
      simp only [PyData.plainAll, Bool.and_eq_true] at n
      exact .cons (Rp.dp g n.1 a) (RpA.dp g n.2 b)
end
theorem CC.In.units {X : Cx} (h : c.In X) : X.A.units + 64 < cLine := h.room.units
/-- plain, and not too deep -/
def EqOk (d : D) : Prop := d.plain = true ∧ d.depth ≤ 60
/-- two data stand in H -/
def r2D (d1 d2 : D) (b : Bool) : R2 := fun x y H Q => ∃ G, Same G H ∧ Rp G x d1 ∧ Rp G y d2 ∧ Q (.bl b) H
theorem vr2D {d1 d2 : D} {k : Bool} : VR2 (r2D d1 d2 k) (.val d1) (.val d2) (.val (.bool k)) := fun B G H S σ x y Q st q => by
  obtain ⟨r1, r2⟩ := st.heads
  exact ⟨G, st.g, r1, r2, q _ H G (Ext.refl _ _) (st.drop2.push (.bl _))⟩
theorem op_eqP {X : Cx} (hX : c.In X) {d1 d2 : D} (h1 : EqOk d1) (h2 : EqOk d2) : OpR X (compareOp .Eq) (r2D d1 d2 (PyData.eqv d1 d2)) := by
  intro pins s σ H x y v u Q I rx ry h
  obtain ⟨G, g, r1, r2, q⟩ := h
  obtain ⟨as, q1⟩ := Dp.reads I d1 x v (r1.dp g h1.1) rx
  obtain ⟨bs, q2⟩ := Dp.reads I d2 y u (r2.dp g h2.1) ry
  have hu := hX.units
  have hm := Nat.min_le_left d1.depth d2.depth
  have hd := h1.2
  exact PySem.SeqAt.eq_plain q1 q2 h1.1 h2.1 (by omega) ⟨.bl _, H, I, rfl, q⟩
theorem op_neP {X : Cx} (hX : c.In X) {d1 d2 : D} (h1 : EqOk d1) (h2 : EqOk d2) : OpR X (compareOp .NotEq) (r2D d1 d2 (!PyData.eqv d1 d2)) := by
  intro pins s σ H x y v u Q I rx ry h
  obtain ⟨G, g, r1, r2, q⟩ := h
  obtain ⟨as, q1⟩ := Dp.reads I d1 x v (r1.dp g h1.1) rx
  obtain ⟨bs, q2⟩ := Dp.reads I d2 y u (r2.dp g h2.1) ry
  have hu := hX.units
  have hm := Nat.min_le_left d1.depth d2.depth
  have hd := h1.2
  exact PySem.SeqAt.ne_plain q1 q2 h1.1 h2.1 (by omega) ⟨.bl _, H, I, rfl, q⟩
theorem op_inPT {X : Cx} (hX : c.In X) {d1 : D} {ds : List D} (h1 : EqOk d1) (h2 : PyData.plainAll ds = true) : OpR X (compareOp .In) (r2D d1 (.tuple ds) (ds.any fun y => PyData.eqv y d1)) := by
  intro pins s σ H x y v u Q I rx ry h
  obtain ⟨G, g, r1, r2, q⟩ := h
  obtain ⟨as, q1⟩ := Dp.reads I d1 x v (r1.dp g h1.1) rx
  obtain ⟨bs, q2⟩ := Dp.reads I (.tuple ds) y u (r2.dp g (by simpa [PyData.plain] using h2)) ry
  have hu := hX.units
  have hm := Nat.min_le_right (PyData.depthAll ds) d1.depth
  have hd := h1.2
  exact PySem.SeqAt.in_tuple_data q2 q1 h2 h1.1 (by omega) ⟨.bl _, H, I, rfl, q⟩
theorem op_inPL {X : Cx} (hX : c.In X) {d1 : D} {ds : List D} (h1 : EqOk d1) (h2 : PyData.plainAll ds = true) : OpR X (compareOp .In) (r2D d1 (.list ds) (ds.any fun y => PyData.eqv y d1)) := by
  intro pins s σ H x y v u Q I rx ry h
  obtain ⟨G, g, r1, r2, q⟩ := h
  obtain ⟨as, q1⟩ := Dp.reads I d1 x v (r1.dp g h1.1) rx
  obtain ⟨bs, q2⟩ := Dp.reads I (.list ds) y u (r2.dp g (by simpa [PyData.plain] using h2)) ry
  have hu := hX.units
  have hm := Nat.min_le_right (PyData.depthAll ds) d1.depth
  have hd := h1.2
  exact PySem.SeqAt.in_list_data q2 q1 h2 h1.1 (by omega) ⟨.bl _, H, I, rfl, q⟩
theorem op_ninPT {X : Cx} (hX : c.In X) {d1 : D} {ds : List D} (h1 : EqOk d1) (h2 : PyData.plainAll ds = true) : OpR X (compareOp .NotIn) (r2D d1 (.tuple ds) (!ds.any fun y => PyData.eqv y d1)) := by
  intro pins s σ H x y v u Q I rx ry h
  obtain ⟨G, g, r1, r2, q⟩ := h
  obtain ⟨as, q1⟩ := Dp.reads I d1 x v (r1.dp g h1.1) rx
  obtain ⟨bs, q2⟩ := Dp.reads I (.tuple ds) y u (r2.dp g (by simpa [PyData.plain] using h2)) ry
  have hu := hX.units
  have hm := Nat.min_le_right (PyData.depthAll ds) d1.depth
  have hd := h1.2
  exact PySem.SeqAt.notIn_tuple_data q2 q1 h2 h1.1 (by omega) ⟨.bl _, H, I, rfl, q⟩
theorem op_ninPL {X : Cx} (hX : c.In X) {d1 : D} {ds : List D} (h1 : EqOk d1) (h2 : PyData.plainAll ds = true) : OpR X (compareOp .NotIn) (r2D d1 (.list ds) (!ds.any fun y => PyData.eqv y d1)) := by
  intro pins s σ H x y v u Q I rx ry h
  obtain ⟨G, g, r1, r2, q⟩ := h
  obtain ⟨as, q1⟩ := Dp.reads I d1 x v (r1.dp g h1.1) rx
  obtain ⟨bs, q2⟩ := Dp.reads I (.list ds) y u (r2.dp g (by simpa [PyData.plain] using h2)) ry
  have hu := hX.units
  have hm := Nat.min_le_right (PyData.depthAll ds) d1.depth
  have hd := h1.2
  exact PySem.SeqAt.notIn_list_data q2 q1 h2 h1.1 (by omega) ⟨.bl _, H, I, rfl, q⟩
end

/-! ### encodings: how Lean values are data -/
section
variable {α β γ δ : Type}
/-- a list, a tuple of things of one kind -/
def eL (e : α → D) (xs : List α) : D := .list (xs.map e)
def eT (e : α → D) (xs : List α) : D := .tuple (xs.map e)
/-- tuples of two, three, four -/
def eP (ea : α → D) (eb : β → D) (p : α × β) : D := .tuple [ea p.1, eb p.2]
def eP3 (ea : α → D) (eb : β → D) (ec : γ → D) (p : α × β × γ) : D := .tuple [ea p.1, eb p.2.1, ec p.2.2]
def eP4 (ea : α → D) (eb : β → D) (ec : γ → D) (ed : δ → D) (p : α × β × γ × δ) : D := .tuple [ea p.1, eb p.2.1, ec p.2.2.1, ed p.2.2.2]
/-- None, or a value -/
def eO (e : α → D) : Option α → D
  | none => .none
  | some a => e a
/-- an encoding: no dict within, a depth, == is = -/
class En (e : α → D) [DecidableEq α] where
  dp : Nat
  plain : ∀ a, (e a).plain = true
  depth : ∀ a, (e a).depth ≤ dp
  eqv : ∀ a b, PyData.eqv (e a) (e b) = decide (a = b)
variable [DecidableEq α] [DecidableEq β] [DecidableEq γ] [DecidableEq δ]
instance : En PyData.int := ⟨0, fun _ => rfl, fun _ => Nat.le_refl _, fun a b => by
  simp only [PyData.eqv]
  exact PySem.W.beq_decide a b⟩
instance : En PyData.bool := ⟨0, fun _ => rfl, fun _ => Nat.le_refl _, fun a b => by
  simp only [PyData.eqv]
  exact PySem.W.beq_decide a b⟩
instance : En PyData.str := ⟨0, fun _ => rfl, fun _ => Nat.le_refl _, fun a b => by
  simp only [PyData.eqv]
  exact PySem.W.beq_decide a b⟩
theorem En.plainAll (e : α → D) [En e] : ∀ xs : List α, PyData.plainAll (xs.map e) = true
  | [] => rfl
  | x :: xs => by
    rw [List.map_cons, PyData.plainAll, En.plain x, En.plainAll e xs]
    rfl
theorem En.depthAll (e : α → D) [En e] : ∀ xs : List α, PyData.depthAll (xs.map e) ≤ En.dp e
  | [] => Nat.zero_le _
  | x :: xs => by
    rw [List.map_cons, PyData.depthAll]
    exact Nat.max_le.mpr ⟨En.depth x, En.depthAll e xs⟩
theorem En.eqvAll (e : α → D) [En e] : ∀ xs ys : List α, PyData.eqvAll (xs.map e) (ys.map e) = decide (xs = ys)
  | [], [] => by simp [PyData.eqvAll]
  | [], _ :: _ => by simp [PyData.eqvAll]
  | _ :: _, [] => by simp [PyData.eqvAll]
  | x :: xs, y :: ys => by
    rw [List.map_cons, List.map_cons, PyData.eqvAll, En.eqv x y, En.eqvAll e xs ys, ← Bool.decide_and]
    exact decide_eq_decide.mpr (by rw [List.cons.injEq])
instance (e : α → D) [En e] : En (eL e) := ⟨En.dp e + 1, fun xs => by simp only [eL, PyData.plain]; exact En.plainAll e xs, fun xs => by simp only [eL, PyData.depth]; exact Nat.succ_le_succ (En.depthAll e xs), fun xs ys => by simp only [eL, PyData.eqv]; exact En.eqvAll e xs ys⟩
instance (e : α → D) [En e] : En (eT e) := ⟨En.dp e + 1, fun xs => by simp only [eT, PyData.plain]; exact En.plainAll e xs, fun xs => by simp only [eT, PyData.depth]; exact Nat.succ_le_succ (En.depthAll e xs), fun xs ys => by simp only [eT, PyData.eqv]; exact En.eqvAll e xs ys⟩
instance (ea : α → D) (eb : β → D) [En ea] [En eb] : En (eP ea eb) := ⟨max (En.dp ea) (En.dp eb) + 1, fun p => by simp [eP, PyData.plain, PyData.plainAll, En.plain], fun p => by
  have h1 := En.depth (e := ea) p.1
  have h2 := En.depth (e := eb) p.2
  simp only [eP, PyData.depth, PyData.depthAll]
  omega, fun p q => by
  simp only [eP, PyData.eqv, PyData.eqvAll, En.eqv, Bool.and_true, ← Bool.decide_and]
  exact decide_eq_decide.mpr ⟨fun h => Prod.ext h.1 h.2, fun h => by rw [h]; exact ⟨rfl, rfl⟩⟩⟩
instance (ea : α → D) (eb : β → D) (ec : γ → D) [En ea] [En eb] [En ec] : En (eP3 ea eb ec) := ⟨max (En.dp ea) (max (En.dp eb) (En.dp ec)) + 1, fun p => by simp [eP3, PyData.plain, PyData.plainAll, En.plain], fun p => by
  have h1 := En.depth (e := ea) p.1
  have h2 := En.depth (e := eb) p.2.1
  have h3 := En.depth (e := ec) p.2.2
  simp only [eP3, PyData.depth, PyData.depthAll]
  omega, fun p q => by
  simp only [eP3, PyData.eqv, PyData.eqvAll, En.eqv, Bool.and_true, ← Bool.decide_and]
  exact decide_eq_decide.mpr ⟨fun h => Prod.ext h.1 (Prod.ext h.2.1 h.2.2), fun h => by rw [h]; exact ⟨rfl, rfl, rfl⟩⟩⟩
theorem En.ok (e : α → D) [En e] (h : En.dp e ≤ 60) (a : α) : EqOk (e a) := ⟨En.plain a, Nat.le_trans (En.depth a) h⟩
theorem En.any (e : α → D) [En e] (xs : List α) (x : α) : ((xs.map e).any fun y => PyData.eqv y (e x)) = decide (x ∈ xs) := by
  rw [List.any_map, Bool.eq_iff_iff, List.any_eq_true, decide_eq_true_eq]
  constructor
  · rintro ⟨y, hy, h⟩
    have h' : PyData.eqv (e y) (e x) = true := h
    rw [En.eqv, decide_eq_true_eq] at h'
    exact h' ▸ hy
  · intro hx
    exact ⟨x, hx, by show PyData.eqv (e x) (e x) = true; rw [En.eqv, decide_eq_true_eq]⟩
end
section
variable {c : CC} {a b : Expr} {S S1 S2 : List SV} {pos : Pos} {α : Type} [DecidableEq α] {e : α → D} [En e] {x y : α} {xs : List α}
theorem ex_eq (ha : EX c a S (.val (e x)) S1) (hb : EX c b S1 (.val (e y)) S2) (h : En.dp e ≤ 60 := by decide) : EX c (.Compare a [.Eq] [b] pos) S (.val (.bool (decide (x = y)))) S2 := ex_cmpG (fun _ hX => ⟨_, by rw [← En.eqv (e := e) x y]; exact op_eqP hX (En.ok e h x) (En.ok e h y), vr2D⟩) ha hb (nomark _)
theorem tx_eq (ha : EX c a S (.val (e x)) S1) (hb : EX c b S1 (.val (e y)) S2) (h : En.dp e ≤ 60 := by decide) : TX c (.Compare a [.Eq] [b] pos) S (decide (x = y)) S2 := tx_cmpG (fun _ hX => ⟨_, by rw [← En.eqv (e := e) x y]; exact op_eqP hX (En.ok e h x) (En.ok e h y), vr2D⟩) ha hb (nomark _)
theorem ex_ne (ha : EX c a S (.val (e x)) S1) (hb : EX c b S1 (.val (e y)) S2) (h : En.dp e ≤ 60 := by decide) : EX c (.Compare a [.NotEq] [b] pos) S (.val (.bool (!decide (x = y)))) S2 := ex_cmpG (fun _ hX => ⟨_, by rw [← En.eqv (e := e) x y]; exact op_neP hX (En.ok e h x) (En.ok e h y), vr2D⟩) ha hb (nomark _)
theorem tx_ne (ha : EX c a S (.val (e x)) S1) (hb : EX c b S1 (.val (e y)) S2) (h : En.dp e ≤ 60 := by decide) : TX c (.Compare a [.NotEq] [b] pos) S (!decide (x = y)) S2 := tx_cmpG (fun _ hX => ⟨_, by rw [← En.eqv (e := e) x y]; exact op_neP hX (En.ok e h x) (En.ok e h y), vr2D⟩) ha hb (nomark _)
theorem ex_inT (ha : EX c a S (.val (e x)) S1) (hb : EX c b S1 (.val (eT e xs)) S2) (h : En.dp e ≤ 60 := by decide) (hm : behindInMarks .In b = false := by rfl) : EX c (.Compare a [.In] [b] pos) S (.val (.bool (decide (x ∈ xs)))) S2 := ex_cmpG (fun _ hX => ⟨_, by rw [← En.any e xs x]; exact op_inPT hX (En.ok e h x) (En.plainAll e xs), vr2D⟩) ha hb hm
theorem tx_inT (ha : EX c a S (.val (e x)) S1) (hb : EX c b S1 (.val (eT e xs)) S2) (h : En.dp e ≤ 60 := by decide) (hm : behindInMarks .In b = false := by rfl) : TX c (.Compare a [.In] [b] pos) S (decide (x ∈ xs)) S2 := tx_cmpG (fun _ hX => ⟨_, by rw [← En.any e xs x]; exact op_inPT hX (En.ok e h x) (En.plainAll e xs), vr2D⟩) ha hb hm
theorem ex_inL (ha : EX c a S (.val (e x)) S1) (hb : EX c b S1 (.val (eL e xs)) S2) (h : En.dp e ≤ 60 := by decide) (hm : behindInMarks .In b = false := by rfl) : EX c (.Compare a [.In] [b] pos) S (.val (.bool (decide (x ∈ xs)))) S2 := ex_cmpG (fun _ hX => ⟨_, by rw [← En.any e xs x]; exact op_inPL hX (En.ok e h x) (En.plainAll e xs), vr2D⟩) ha hb hm
theorem tx_inL (ha : EX c a S (.val (e x)) S1) (hb : EX c b S1 (.val (eL e xs)) S2) (h : En.dp e ≤ 60 := by decide) (hm : behindInMarks .In b = false := by rfl) : TX c (.Compare a [.In] [b] pos) S (decide (x ∈ xs)) S2 := tx_cmpG (fun _ hX => ⟨_, by rw [← En.any e xs x]; exact op_inPL hX (En.ok e h x) (En.plainAll e xs), vr2D⟩) ha hb hm
theorem ex_ninT (ha : EX c a S (.val (e x)) S1) (hb : EX c b S1 (.val (eT e xs)) S2) (h : En.dp e ≤ 60 := by decide) (hm : behindInMarks .NotIn b = false := by rfl) : EX c (.Compare a [.NotIn] [b] pos) S (.val (.bool (!decide (x ∈ xs)))) S2 := ex_cmpG (fun _ hX => ⟨_, by rw [← En.any e xs x]; exact op_ninPT hX (En.ok e h x) (En.plainAll e xs), vr2D⟩) ha hb hm
theorem tx_ninT (ha : EX c a S (.val (e x)) S1) (hb : EX c b S1 (.val (eT e xs)) S2) (h : En.dp e ≤ 60 := by decide) (hm : behindInMarks .NotIn b = false := by rfl) : TX c (.Compare a [.NotIn] [b] pos) S (!decide (x ∈ xs)) S2 := tx_cmpG (fun _ hX => ⟨_, by rw [← En.any e xs x]; exact op_ninPT hX (En.ok e h x) (En.plainAll e xs), vr2D⟩) ha hb hm
theorem ex_ninL (ha : EX c a S (.val (e x)) S1) (hb : EX c b S1 (.val (eL e xs)) S2) (h : En.dp e ≤ 60 := by decide) (hm : behindInMarks .NotIn b = false := by rfl) : EX c (.Compare a [.NotIn] [b] pos) S (.val (.bool (!decide (x ∈ xs)))) S2 := ex_cmpG (fun _ hX => ⟨_, by rw [← En.any e xs x]; exact op_ninPL hX (En.ok e h x) (En.plainAll e xs), vr2D⟩) ha hb hm
theorem tx_ninL (ha : EX c a S (.val (e x)) S1) (hb : EX c b S1 (.val (eL e xs)) S2) (h : En.dp e ≤ 60 := by decide) (hm : behindInMarks .NotIn b = false := by rfl) : TX c (.Compare a [.NotIn] [b] pos) S (!decide (x ∈ xs)) S2 := tx_cmpG (fun _ hX => ⟨_, by rw [← En.any e xs x]; exact op_ninPL hX (En.ok e h x) (En.plainAll e xs), vr2D⟩) ha hb hm
end
end DL

/-! DL, part c: argument lists, displays, tests, targets, assignments, small statements. -/
namespace DL
open PySem PySem.Spec PyProof.Rows L2
section
variable {B G H : Hp} {S T : List SV} {σ τ : L2.St} {w wa wb : SV} {x y : Option V}
theorem Stt.swap (h : Stt B G H (wa :: wb :: S) (x :: y :: σ)) : Stt B G H (wb :: wa :: S) (y :: x :: σ) := by
  obtain ⟨fp, o, z, dj, fr⟩ := h.own
  let t : Nat → Nat := fun i => match i with | 0 => 1 | 1 => 0 | j + 2 => j + 2
  have tt : ∀ i, t (t i) = i := fun i => match i with | 0 => rfl | 1 => rfl | j + 2 => rfl
  refine ⟨h.g, h.b, by simpa using h.len, fun i => fp (t i), fun i u q e1 e2 => ?_, fun i hi => ?_, fun i j a h1 h2 => ?_, fun i a => fr (t i) a⟩
  · refine o (t i) u q ?_ ?_
    · match i, e1 with
      | 0, e1 => exact e1
      | 1, e1 => exact e1
      | j + 2, e1 => exact e1
    · match i, e2 with
      | 0, e2 => exact e2
      | 1, e2 => exact e2
      | j + 2, e2 => exact e2
  · match i, hi with
    | 0, hi => simp at hi
    | 1, hi => simp at hi
    | j + 2, hi => exact z (j + 2) (by simpa using hi)
  · have := dj _ _ _ h1 h2
    rw [← tt i, this, tt j]
theorem Stt.sink : ∀ {B : Hp} {ws : List SV} {xs : L2.St}, ws.length = xs.length → Stt B G H (w :: (ws ++ S)) (x :: (xs ++ σ)) → Stt B G H (ws ++ w :: S) (xs ++ x :: σ)
  | _, [], [], _, h => h
  | _, [], _ :: _, e, _ => by simp at e
  | _, _ :: _, [], e, _ => by simp at e
  | _, a :: ws, y :: xs, e, h => by
    have h2 := Stt.swap (S := ws ++ S) (σ := xs ++ σ) h
    obtain ⟨B1, h3, back⟩ := Stt.bracket (S := w :: (ws ++ S)) (σ := x :: (xs ++ σ)) h2
    have h4 := Stt.sink (ws := ws) (xs := xs) (by simpa using e) h3
    exact (back _ _ _ _ (Ext.refl _ _) h4).2
theorem Stt.brackets : ∀ {B : Hp} {ws : List SV} {xs : L2.St}, ws.length = xs.length → Stt B G H (ws ++ S) (xs ++ σ) → ∃ B1, Stt B1 G H S σ ∧
    ∀ G' H' T τ, Ext B1 G G' → Stt B1 G' H' T τ → Ext B G G' ∧ Stt B G' H' (ws ++ T) (xs ++ τ)
  | B, [], [], _, h => ⟨B, h, fun _ _ _ _ x s => ⟨x, s⟩⟩
  | _, [], _ :: _, e, _ => by simp at e
  | _, _ :: _, [], e, _ => by simp at e
  | _, a :: ws, y :: xs, e, h => by
    obtain ⟨B1, h3, back⟩ := Stt.bracket (S := ws ++ S) (σ := xs ++ σ) h
    obtain ⟨B2, h4, back2⟩ := Stt.brackets (ws := ws) (xs := xs) (by simpa using e) h3
    refine ⟨B2, h4, fun G' H' T τ xt st => ?_⟩
    obtain ⟨x1, s1⟩ := back2 G' H' T τ xt st
    exact back G' H' (ws ++ T) (xs ++ τ) x1 s1
theorem Stt.drops : ∀ {ws : List SV} {xs : L2.St}, ws.length = xs.length → Stt B G H (ws ++ S) (xs ++ σ) → Stt B G H S σ
  | [], [], _, h => h
  | [], _ :: _, e, _ => by simp at e
  | _ :: _, [], e, _ => by simp at e
  | a :: ws, y :: xs, e, h => Stt.drops (ws := ws) (xs := xs) (by simpa using e) (Stt.tail (S := ws ++ S) (σ := xs ++ σ) h)
theorem Stt.vals : ∀ {ds : List D} {vs : List V}, vs.length = ds.length → Stt B G H (ds.map SV.val ++ S) (vs.map some ++ σ) → RpA G vs ds
  | [], [], _, _ => .nil
  | [], _ :: _, e, _ => by simp at e
  | _ :: _, [], e, _ => by simp at e
  | d :: ds, v :: vs, e, h => .cons (Stt.headV (S := ds.map SV.val ++ S) (σ := vs.map some ++ σ) h) (Stt.vals (by simpa using e) (Stt.tail (S := ds.map SV.val ++ S) (σ := vs.map some ++ σ) h))
theorem Stt.pushes : ∀ {ds : List D} {vs : List V}, RpA G vs ds → Stt B G H S σ → Stt B G H (ds.map SV.val ++ S) (vs.map some ++ σ)
  | [], _, r, h => by cases r; exact h
  | d :: ds, _, r, h => by
    cases r with
    | cons a b => exact Stt.push (S := ds.map SV.val ++ S) (σ := _ ++ σ) (Stt.pushes b h) a
end

section
variable {c : CC} {e a b : Expr} {es rest : List Expr} {S S1 S2 S3 : List SV} {w wa wb : SV} {ws : List SV} {pos p : Pos} {ds : List D}
/-- arguments, all data -/
abbrev AV (c : CC) (es : List Expr) (S : List SV) (ds : List D) (S' : List SV) : Prop := AX c es S (ds.map SV.val) S'
theorem ax_nil : AX c [] S [] S := fun X hX => pa_nil.wk fun σ H Q ⟨B, G, st, k⟩ => k [] H G (Ext.refl _ _) rfl st
theorem ax_cons (ha : EX c e S w S1) (hr : AX c es S1 ws S2) (hs : ∀ env, starEach (e :: es) env = (false, eval e env) :: starEach es env := by intro _; rfl) : AX c (e :: es) S (w :: ws) S2 := fun X hX =>
  (pa_cons (ha X hX) (hr X hX) (hs _)).wk fun σ H Q ⟨B, G, st, k⟩ => ⟨B, G, st, fun v H1 G1 x1 st1 => by
    obtain ⟨B1, st1', back⟩ := st1.bracket
    refine ⟨B1, G1, st1', fun vs H2 G2 x2 hl st2 => ?_⟩
    obtain ⟨x3, st3⟩ := back G2 H2 _ _ x2 st2
    exact k (v :: vs) H2 G2 (x1.trans x3) (by simp [hl]) st3⟩
theorem av_nil : AV c [] S [] S := ax_nil
theorem av_cons {d : D} (ha : EX c e S (.val d) S1) (hr : AV c es S1 ds S2) (hs : ∀ env, starEach (e :: es) env = (false, eval e env) :: starEach es env := by intro _; rfl) : AV c (e :: es) S (d :: ds) S2 := ax_cons ha hr hs
/-- *e, e a tuple or a list -/
theorem av_star {xs : List D} {d : D} (hd : d = .tuple xs ∨ d = .list xs) (ha : EX c e S (.val d) S1) (hr : AV c es S1 ds S2) : AV c (.Starred e p :: es) S (xs ++ ds) S2 := fun X hX =>
  (StX.pa_star (ha X hX) (hr X hX)).wk fun σ H Q ⟨B, G, st, k⟩ => ⟨B, G, st, fun v H1 G1 x1 st1 => by
    have r := st1.headV
    have main : ∀ (a : Addr) (vs : List V), (SqT X.K H1 a vs ∨ SqL X.K H1 a vs) → RpA G1 vs xs → v = .ref a → ∃ a vs, v = V.ref a ∧ (SqT X.K H1 a vs ∨ SqL X.K H1 a vs) ∧ tA S1 (ds.map SV.val) S2 σ H1 fun us H2 => Q (vs ++ us) H2 := fun a vs hs rv ev => by
      refine ⟨a, vs, ev, hs, B, G1, st1.tail, fun us H2 G2 x2 hl st2 => ?_⟩
      have ru := Stt.vals (by simpa using hl) st2
      have st3 := Stt.drops (by simpa using hl.symm) st2
      refine k (vs ++ us) H2 G2 (x1.trans x2) ?_ ?_
      · simp [rv.length]; simpa using hl
      · exact Stt.pushes ((rv.mono x2.1).append ru) st3
    rcases hd with rfl | rfl
    · cases r with
      | tup e1 zz rv => exact main _ _ (.inl (SqT.of (st1.g _ _ e1))) rv rfl
    · cases r with
      | lst e1 zz rv => exact main _ _ (.inr (SqL.of (st1.g _ _ e1))) rv rfl⟩

/-! ### displays -/
theorem ex_tup {k : Nat} (h : AV c es S ds S1) (hz : ds.length ≤ sizeLine) : EX c (.Tuple es k pos) S (.val (.tuple ds)) S1 := fun X hX =>
  (pe_tup (h X hX)).wk fun σ H Q ⟨B, G, st, k⟩ => ⟨B, G, st, fun vs H1 G1 x1 hl st1 => by
    have hl : vs.length = ds.length := by simpa using hl
    have r := Stt.vals hl st1
    have st2 := Stt.drops (by simpa using hl.symm) st1
    refine ⟨by rw [hl]; exact hz, fun p hp => ?_⟩
    obtain ⟨G2, x2, st3⟩ := st2.newTup hp r hz
    exact k _ _ G2 (x1.trans x2) st3⟩
theorem ex_lst (h : AV c es S ds S1) (hz : ds.length ≤ sizeLine) : EX c (.List es pos) S (.lst ds) S1 := fun X hX =>
  (pe_lst (h X hX)).wk fun σ H Q ⟨B, G, st, k⟩ => ⟨B, G, st, fun vs H1 G1 x1 hl st1 => by
    have hl : vs.length = ds.length := by simpa using hl
    have r := Stt.vals hl st1
    have st2 := Stt.drops (by simpa using hl.symm) st1
    exact ⟨by rw [hl]; exact hz, fun p hp => k _ _ G1 x1 (st2.newLst hp r hz)⟩⟩
theorem le_line {n : Nat} (h : n ≤ 64) : n ≤ sizeLine := Nat.le_trans h (by decide)

/-! ### tests -/
variable {ka kb : Bool}
theorem tx_of (h : WX c e S ka S1) : TX c e S ka S1 := fun X hX => (h X hX).pt
theorem tx_not (h : TX c e S ka S1) : TX c (.UnaryOp .Not e pos) S (!ka) S1 := fun X hX =>
  (pt_not (h X hX)).wk fun σ H Q ⟨B, G, st, k⟩ => ⟨B, G, st, k⟩
theorem wx_and1 (h : TX c e S ka S1) : WX c (.BoolOp .And [e] pos) S ka S1 := fun X hX => pw_and1 (h X hX)
theorem wx_or1 (h : TX c e S ka S1) : WX c (.BoolOp .Or [e] pos) S ka S1 := fun X hX => pw_or1 (h X hX)
theorem TX.post (h : TX c e S ka S1) (p : Imp S1 S2) : TX c e S ka S2 := fun X hX => (h X hX).wk fun σ H Q ⟨B, G, st, k⟩ =>
  ⟨B, G, st, fun H' G' x st' => by
    obtain ⟨G1, x1, st1⟩ := p B G' H' _ st'
    exact k H' G1 (x.trans x1) st1⟩
theorem TX.pre (p : Imp S S1) (h : TX c e S1 ka S2) : TX c e S ka S2 := fun X hX => (h X hX).wk fun σ H Q ⟨B, G, st, k⟩ => by
  obtain ⟨G1, x1, st1⟩ := p B G H σ st
  exact ⟨B, G1, st1, fun H' G' x st' => k H' G' (x1.trans x) st'⟩
theorem wx_and (ha : TX c a S ka S1) (hb : ka = true → WX c (.BoolOp .And (b :: rest) pos) S1 kb S2) (hn : ka = false → Imp S1 S2) : WX c (.BoolOp .And (a :: b :: rest) pos) S (ka && kb) S2 := fun X hX => by
  cases ka with
  | true =>
    refine (pw_and (ha X hX) (hb rfl X hX)).wk fun σ H Q ⟨B, G, st, k⟩ => ⟨B, G, st, fun H1 G1 x1 st1 => ?_⟩
    exact iteT ⟨B, G1, st1, fun H2 G2 x2 st2 => k H2 G2 (x1.trans x2) st2⟩
  | false =>
    have h2 : PW X (.BoolOp .And (b :: rest) pos) (fun _ _ _ => False) := ⟨fun _ _ _ _ _ _ _ z => z.elim⟩
    refine (pw_and (ha X hX) h2).wk fun σ H Q ⟨B, G, st, k⟩ => ⟨B, G, st, fun H1 G1 x1 st1 => ?_⟩
    refine iteF ?_
    obtain ⟨G2, x2, st2⟩ := hn rfl B G1 H1 σ st1
    exact k H1 G2 (x1.trans x2) st2
theorem wx_or (ha : TX c a S ka S1) (hb : ka = false → WX c (.BoolOp .Or (b :: rest) pos) S1 kb S2) (hn : ka = true → Imp S1 S2) : WX c (.BoolOp .Or (a :: b :: rest) pos) S (ka || kb) S2 := fun X hX => by
  cases ka with
  | false =>
    refine (pw_or (ha X hX) (hb rfl X hX)).wk fun σ H Q ⟨B, G, st, k⟩ => ⟨B, G, st, fun H1 G1 x1 st1 => ?_⟩
    exact iteF ⟨B, G1, st1, fun H2 G2 x2 st2 => k H2 G2 (x1.trans x2) st2⟩
  | true =>
    have h2 : PW X (.BoolOp .Or (b :: rest) pos) (fun _ _ _ => False) := ⟨fun _ _ _ _ _ _ _ z => z.elim⟩
    refine (pw_or (ha X hX) h2).wk fun σ H Q ⟨B, G, st, k⟩ => ⟨B, G, st, fun H1 G1 x1 st1 => ?_⟩
    refine iteT ?_
    obtain ⟨G2, x2, st2⟩ := hn rfl B G1 H1 σ st1
    exact k H1 G2 (x1.trans x2) st2
/-- the same as values -/
theorem ex_one {op : BoolOp} (h : EX c e S w S1) : EX c (.BoolOp op [e] pos) S w S1 := fun X hX => pe_one (h X hX)
theorem ex_and (ha : EX c a S (.val (.bool ka)) S1) (hb : ka = true → EX c (.BoolOp .And (b :: rest) pos) S1 (.val (.bool kb)) S2) (hn : ka = false → Imp S1 S2) : EX c (.BoolOp .And (a :: b :: rest) pos) S (.val (.bool (ka && kb))) S2 := fun X hX => by
  cases ka with
  | true =>
    refine (pe_and (ha X hX) (hb rfl X hX)).wk fun σ H Q ⟨B, G, st, k⟩ => ⟨B, G, st, fun v H1 G1 x1 st1 => ?_⟩
    have r := st1.headV
    cases r
    refine ⟨true, rfl, ?_⟩
    exact iteT ⟨B, G1, st1.tail, fun u H2 G2 x2 st2 => k u H2 G2 (x1.trans x2) st2⟩
  | false =>
    have h2 : PE X (.BoolOp .And (b :: rest) pos) (fun _ _ _ => False) := ⟨fun _ _ _ _ _ _ z => z.elim⟩
    refine (pe_and (ha X hX) h2).wk fun σ H Q ⟨B, G, st, k⟩ => ⟨B, G, st, fun v H1 G1 x1 st1 => ?_⟩
    have r := st1.headV
    cases r
    refine ⟨false, rfl, ?_⟩
    refine iteF ?_
    obtain ⟨G2, x2, st2⟩ := hn rfl B G1 H1 σ st1.tail
    exact k _ H1 G2 (x1.trans x2) (st2.push (.bl _))
theorem ex_or (ha : EX c a S (.val (.bool ka)) S1) (hb : ka = false → EX c (.BoolOp .Or (b :: rest) pos) S1 (.val (.bool kb)) S2) (hn : ka = true → Imp S1 S2) : EX c (.BoolOp .Or (a :: b :: rest) pos) S (.val (.bool (ka || kb))) S2 := fun X hX => by
  cases ka with
  | false =>
    refine (pe_or (ha X hX) (hb rfl X hX)).wk fun σ H Q ⟨B, G, st, k⟩ => ⟨B, G, st, fun v H1 G1 x1 st1 => ?_⟩
    have r := st1.headV
    cases r
    refine ⟨false, rfl, ?_⟩
    exact iteF ⟨B, G1, st1.tail, fun u H2 G2 x2 st2 => k u H2 G2 (x1.trans x2) st2⟩
  | true =>
    have h2 : PE X (.BoolOp .Or (b :: rest) pos) (fun _ _ _ => False) := ⟨fun _ _ _ _ _ _ z => z.elim⟩
    refine (pe_or (ha X hX) h2).wk fun σ H Q ⟨B, G, st, k⟩ => ⟨B, G, st, fun v H1 G1 x1 st1 => ?_⟩
    have r := st1.headV
    cases r
    refine ⟨true, rfl, ?_⟩
    refine iteT ?_
    obtain ⟨G2, x2, st2⟩ := hn rfl B G1 H1 σ st1.tail
    exact k _ H1 G2 (x1.trans x2) (st2.push (.bl _))
theorem ex_not (h : EX c e S (.val (.bool ka)) S1) : EX c (.UnaryOp .Not e pos) S (.val (.bool (!ka))) S1 := fun X hX =>
  (pe_not (h X hX)).wk fun σ H Q ⟨B, G, st, k⟩ => ⟨B, G, st, fun v H1 G1 x1 st1 => by
    have r := st1.headV
    cases r
    exact ⟨ka, rfl, k _ H1 G1 x1 (st1.tail.push (.bl _))⟩⟩
/-- a if t else b -/
theorem ex_if {t : Expr} {en : SV} (hc : TX c t S ka S1) (ha : ka = true → EX c a S1 w S2) (hb : ka = false → EX c b S1 w S2) : EX c (.IfExp t a b pos) S w S2 := fun X hX => by
  cases ka with
  | true =>
    have h2 : PE X b (fun _ _ _ => False) := ⟨fun _ _ _ _ _ _ z => z.elim⟩
    refine (pe_ifExp (hc X hX) (ha rfl X hX) h2).wk fun σ H Q ⟨B, G, st, k⟩ => ⟨B, G, st, fun H1 G1 x1 st1 => ?_⟩
    exact iteT ⟨B, G1, st1, fun u H2 G2 x2 st2 => k u H2 G2 (x1.trans x2) st2⟩
  | false =>
    have h2 : PE X a (fun _ _ _ => False) := ⟨fun _ _ _ _ _ _ z => z.elim⟩
    refine (pe_ifExp (hc X hX) h2 (hb rfl X hX)).wk fun σ H Q ⟨B, G, st, k⟩ => ⟨B, G, st, fun H1 G1 x1 st1 => ?_⟩
    exact iteF ⟨B, G1, st1, fun u H2 G2 x2 st2 => k u H2 G2 (x1.trans x2) st2⟩
end

/-! ### targets: only the slots at vs change -/
def tG (vs : List Nat) (S : List SV) (w : SV) (S' : List SV) : TG := fun v σ H Q => ∃ B G, Stt B G H (w :: S) (some v :: σ) ∧ ∀ σ' H' G', Ext B G G' → wipe σ' vs = wipe σ vs → Stt B G' H' S' σ' → Q σ' H'
def tGs (is : List Nat) (S : List SV) (ws : List SV) (S' : List SV) : TGs := fun vs σ H Q => ∃ B G, vs.length = ws.length ∧ Stt B G H (ws ++ S) (vs.map some ++ σ) ∧ ∀ σ' H' G', Ext B G G' → wipe σ' is = wipe σ is → Stt B G' H' S' σ' → Q σ' H'
def GX (c : CC) (tg : Expr) (vs : List Nat) (S : List SV) (w : SV) (S' : List SV) : Prop := ∀ X, c.In X → PG X tg (tG vs S w S')
def GsX (c : CC) (ts : List Expr) (vs : List Nat) (S : List SV) (ws : List SV) (S' : List SV) : Prop := ∀ X, c.In X → PGs X ts (tGs vs S ws S')
theorem _root_.L2.PG.wk {X : Cx} {e : Expr} {t t' : TG} (h : PG X e t) (k : ∀ v σ H Q, t' v σ H Q → t v σ H Q) : PG X e t' := ⟨fun pins s σ H v u Q I r q => h.run pins s σ H v u Q I r (k v σ H Q q)⟩
theorem _root_.L2.PGs.wk {X : Cx} {es : List Expr} {t t' : TGs} (h : PGs X es t) (k : ∀ v σ H Q, t' v σ H Q → t v σ H Q) : PGs X es t' := ⟨fun pins s σ H v u Q I r q => h.run pins s σ H v u Q I r (k v σ H Q q)⟩
theorem wipe_get {σ : L2.St} : ∀ (vs : List Nat) (i : Nat), (wipe σ vs)[i]? = if i ∈ vs then (if i < σ.length then some none else none) else σ[i]?
  | [], i => by simp [wipe]
  | v :: vs, i => by
    unfold wipe
    by_cases hi : v = i
    · subst hi
      rw [if_pos List.mem_cons_self]
      by_cases hl : v < σ.length
      · rw [List.getElem?_set_self (by rw [wipe_length]; exact hl), if_pos hl]
      · rw [List.getElem?_eq_none (by rw [List.length_set, wipe_length]; omega), if_neg hl]
    · rw [List.getElem?_set_ne hi, wipe_get vs i]
      by_cases hm : i ∈ vs
      · rw [if_pos hm, if_pos (List.mem_cons_of_mem _ hm)]
      · rw [if_neg hm, if_neg (by simp only [List.mem_cons, not_or]; exact ⟨fun e => hi e.symm, hm⟩)]
theorem wipe_set {σ : L2.St} {vs : List Nat} {i : Nat} {x : Option V} (h : i ∈ vs) : wipe (σ.set i x) vs = wipe σ vs := by
  refine List.ext_getElem? fun j => ?_
  rw [wipe_get, wipe_get, List.length_set]
  by_cases hj : j ∈ vs
  · rw [if_pos hj, if_pos hj]
  · rw [if_neg hj, if_neg hj, List.getElem?_set_ne (by rintro rfl; exact hj h)]
section
variable {c : CC} {e : Expr} {es : List Expr} {S S1 S2 : List SV} {w : SV} {ws : List SV} {pos : Pos} {ds : List D} {vs : List Nat}
theorem gx_name {i : Nat} {x : Str} (nd : c.N.Nodup) (hN : c.N[i]? = some x := by rfl) (hl : Loc c.lc x := by first | exact Or.inl rfl | exact Or.inr rfl) (hi : i < S.length := by decide) (hv : i ∈ vs := by decide) : GX c (.Name x pos) vs S w (S.set i w) := fun X hX => by
  obtain ⟨l1, l2⟩ := hX.loc x hl
  have e := hX.sc
  refine (pg_name (i := i) (by rw [hX.N]; exact nd) (by rw [hX.N]; exact hN) (by rw [e]; exact l1) (by rw [e]; exact l2)).wk fun v σ H Q ⟨B, G, st, k⟩ => ?_
  exact k _ H G (Ext.refl _ _) (wipe_set hv) (st.put hi)
theorem gsx_nil : GsX c [] vs S [] S := fun X hX => pgs_nil.wk fun us σ H Q ⟨B, G, hl, st, k⟩ => by
  have : us = [] := List.eq_nil_of_length_eq_zero hl
  subst this
  exact ⟨rfl, k σ H G (Ext.refl _ _) rfl st⟩
theorem gsx_cons (h1 : GX c e vs S w S1) (h2 : GsX c es vs S1 ws S2) (hs : ∀ env, (assignEach (e :: es) env).map (·.2) = assign e env :: (assignEach es env).map (·.2) := by intro _; rfl) : GsX c (e :: es) vs S (w :: ws) S2 := fun X hX =>
  (pgs_cons (h1 X hX) (h2 X hX) (hs _)).wk fun us σ H Q ⟨B, G, hl, st, k⟩ => by
    match us, hl with
    | v :: us, hl =>
      have hl' : ws.length = (us.map some).length := by simpa using hl.symm
      have st2 := Stt.sink hl' st
      obtain ⟨B1, st3, back⟩ := Stt.brackets hl' st2
      refine ⟨v, us, rfl, B1, G, st3, fun σ' H' G' x hw st4 => ?_⟩
      obtain ⟨x5, st5⟩ := back G' H' _ _ x st4
      exact ⟨B, G', by simpa using hl, st5, fun σ2 H2 G2 x6 hw2 st6 => k σ2 H2 G2 (x5.trans x6) (hw2.trans hw) st6⟩
/-- (a, b, ..) from data -/
theorem gx_tup {k n : Nat} (h : GsX c es vs S (ds.map SV.val) S1) (hz : ds.length = n) (hn : ∀ env, (assignEach es env).length = n := by intro _; rfl) (hst : ∀ env, (assignEach es env).findIdx? (·.1) = none := by intro _; rfl) : GX c (.Tuple es k pos) vs S (.val (.tuple ds)) S1 := fun X hX =>
  (pg_tup hX.calm (h X hX) (hn _) (hst _)).wk fun v σ H Q ⟨B, G, st, k⟩ => by
    have r := st.headV
    cases r with
    | tup e1 zz rv => exact ⟨_, _, rfl, SqT.of (st.g _ _ e1), by rw [rv.length]; exact hz, B, G, by simpa using rv.length, Stt.pushes rv st.tail, k⟩
end

/-! ### statements -/
section
variable {c : CC} {e a b : Expr} {es rest body orelse : List Expr} {S S1 S2 : List SV} {w : SV} {ws : List SV} {pos : Pos} {P : Oc → Prop} {st : Stmt} {sts A1 A2 : List Stmt}
theorem Fits.ext {B G G1 : Hp} {D : Ends} (f : Fits B G D P) (x : Ext B G G1) : Fits B G1 D P :=
  ⟨fun S' G' σ' H' p x1 s => f.nx S' G' σ' H' p (x.trans x1) s, fun w S' v G' σ' H' p x1 s => f.rt w S' v G' σ' H' p (x.trans x1) s, fun S' G' σ' H' p x1 s => f.bk S' G' σ' H' p (x.trans x1) s, fun S' G' σ' H' p x1 s => f.ct S' G' σ' H' p (x.trans x1) s⟩
/-- the state may be told otherwise ahead of statements -/
theorem WS.pre (p : Imp S S1) (h : WS c sts S1 P) : WS c sts S P := fun X hX => (h X hX).wk fun D σ H ⟨B, G, st, f⟩ => by
  obtain ⟨G1, x1, st1⟩ := p B G H σ st
  exact ⟨B, G1, st1, f.ext x1⟩
theorem WS.mono {P' : Oc → Prop} (h : WS c sts S P) (k : ∀ o, P o → P' o) : WS c sts S P' := fun X hX => (h X hX).wk fun D σ H ⟨B, G, st, f⟩ =>
  ⟨B, G, st, fun S' G' σ' H' p x s => f.nx S' G' σ' H' (k _ p) x s, fun w S' v G' σ' H' p x s => f.rt w S' v G' σ' H' (k _ p) x s, fun S' G' σ' H' p x s => f.bk S' G' σ' H' (k _ p) x s, fun S' G' σ' H' p x s => f.ct S' G' σ' H' (k _ p) x s⟩
theorem ws_nil (h : P (.nx S)) : WS c [] S P := fun X hX => pss_nil.wk fun D σ H ⟨B, G, st, f⟩ => f.nx S G σ H h (Ext.refl _ _) st
/-- what comes behind -/
def Then (c : CC) (sts : List Stmt) (P : Oc → Prop) : Oc → Prop
  | .nx S => WS c sts S P
  | o => P o
/-- some statements that come to P, as a reading -/
def tSU (c : CC) (sts : List Stmt) : TS := fun D σ H => ∃ S P, WS c sts S P ∧ tS S P D σ H
theorem pss_U {X : Cx} (hX : c.In X) : PSs X sts (tSU c sts) := ⟨fun pins s σ H D I ⟨S, P, h, q⟩ => (h X hX).run pins s σ H D I q⟩
theorem ws_cons (h : W1 c st S (Then c sts P)) : WS c (st :: sts) S P := fun X hX =>
  (pss_cons (h X hX) (pss_U hX)).wk fun D σ H ⟨B, G, s, f⟩ => ⟨B, G, s, fun S' G' σ' H' p x s' => ⟨S', P, p, B, G', s', f.ext x⟩, fun w S' v G' σ' H' p x s' => f.rt w S' v G' σ' H' p x s', fun S' G' σ' H' p x s' => f.bk S' G' σ' H' p x s', fun S' G' σ' H' p x s' => f.ct S' G' σ' H' p x s'⟩
/-- a statement that goes on from S1 -/
theorem ws_step (h : W1 c st S fun o => o = .nx S1) (k : WS c sts S1 P) : WS c (st :: sts) S P := ws_cons fun X hX => (h X hX).wk fun D σ H ⟨B, G, s, f⟩ =>
  ⟨B, G, s, fun S' G' σ' H' p x s' => by cases p; exact f.nx S1 G' σ' H' k x s', fun w S' v G' σ' H' p x s' => (nomatch p), fun S' G' σ' H' p x s' => (nomatch p), fun S' G' σ' H' p x s' => (nomatch p)⟩
theorem w1_pass : W1 c (.Pass pos) S fun o => o = .nx S := fun X hX => ps_pass.wk fun D σ H ⟨B, G, s, f⟩ => f.nx S G σ H rfl (Ext.refl _ _) s
theorem w1_break (h : P (.bk S)) : W1 c (.Break pos) S P := fun X hX => ps_break.wk fun D σ H ⟨B, G, s, f⟩ => f.bk S G σ H h (Ext.refl _ _) s
theorem w1_continue (h : P (.ct S)) : W1 c (.Continue pos) S P := fun X hX => ps_continue.wk fun D σ H ⟨B, G, s, f⟩ => f.ct S G σ H h (Ext.refl _ _) s
theorem w1_ret (h : EX c e S w S1) (p : P (.rt w S1)) : W1 c (.Return (some e) pos) S P := fun X hX => (ps_ret (h X hX)).wk fun D σ H ⟨B, G, s, f⟩ => ⟨B, G, s, fun v H' G' x s' => f.rt w S1 v G' σ H' p x s'⟩
theorem ws_ret (h : EX c e S w S1) (p : P (.rt w S1)) : WS c (.Return (some e) pos :: sts) S P := ws_cons (w1_ret h (by exact p))
theorem w1_retN (p : P (.rt (.val .none) S)) : W1 c (.Return none pos) S P := fun X hX => ps_retN.wk fun D σ H ⟨B, G, s, f⟩ => f.rt _ S .non G σ H p (Ext.refl _ _) (s.push .non)
theorem w1_expr (h : EX c e S w S1) (hs : ∀ env, swapsWith e none pos.line env = pure false := by intro _; rfl) : W1 c (.Expr e pos) S fun o => o = .nx S1 := fun X hX =>
  (ps_expr (h X hX) (hs _)).wk fun D σ H ⟨B, G, s, f⟩ => ⟨B, G, s, fun v H' G' x s' => f.nx S1 G' σ H' rfl x s'.tail⟩
theorem w1_if {k : Bool} (hc : TX c e S k S1) (ha : k = true → WS c A1 S1 P) (hb : k = false → WS c A2 S1 P) : W1 c (.If e A1 A2 pos) S P := fun X hX => by
  cases k with
  | true =>
    have h2 : PSs X A2 tNever := pss_never
    exact (ps_if (hc X hX) (ha rfl X hX) h2).wk fun D σ H ⟨B, G, s, f⟩ => ⟨B, G, s, fun H1 G1 x s1 => iteT ⟨B, G1, s1, f.ext x⟩⟩
  | false =>
    have h2 : PSs X A1 tNever := pss_never
    exact (ps_if (hc X hX) h2 (hb rfl X hX)).wk fun D σ H ⟨B, G, s, f⟩ => ⟨B, G, s, fun H1 G1 x s1 => iteF ⟨B, G1, s1, f.ext x⟩⟩
theorem ws_if {k : Bool} (hc : TX c e S k S1) (ha : k = true → WS c A1 S1 (Then c sts P)) (hb : k = false → WS c A2 S1 (Then c sts P)) : WS c (.If e A1 A2 pos :: sts) S P := ws_cons (w1_if hc ha hb)
/-- x = e -/
theorem w1_set {i : Nat} {x : Str} {p' : Pos} (nd : c.N.Nodup) (h : EX c e S w S1) (hN : c.N[i]? = some x := by rfl) (hl : Loc c.lc x := by first | exact Or.inl rfl | exact Or.inr rfl) (hi : i < S1.length := by decide)
    (hs : ∀ env : Env, env.scope = c.sc → swapsWith e (some (.Name x p')) pos.line env = pure false := by intro _ _; rfl) : W1 c (.Assign [.Name x p'] e pos) S fun o => o = .nx (S1.set i w) := fun X hX => by
  obtain ⟨l1, l2⟩ := hX.loc x hl
  have ee := hX.sc
  exact (ps_set (i := i) (by rw [hX.N]; exact nd) (by rw [hX.N]; exact hN) (by rw [ee]; exact l1) (h X hX) (hs _ ee) (by rw [ee]; exact l2)).wk fun D σ H ⟨B, G, s, f⟩ => ⟨B, G, s, fun v H' G' x s' => f.nx _ G' _ H' rfl x (s'.put hi)⟩
theorem ws_set {i : Nat} {x : Str} {p' : Pos} (nd : c.N.Nodup) (h : EX c e S w S1) (k : WS c sts (S1.set i w) P) (hN : c.N[i]? = some x := by rfl) (hl : Loc c.lc x := by first | exact Or.inl rfl | exact Or.inr rfl) (hi : i < S1.length := by decide)
    (hs : ∀ env : Env, env.scope = c.sc → swapsWith e (some (.Name x p')) pos.line env = pure false := by intro _ _; rfl) : WS c (.Assign [.Name x p'] e pos :: sts) S P := ws_step (w1_set nd h hN hl hi hs) k
theorem ws_expr (h : EX c e S w S1) (k : WS c sts S1 P) (hs : ∀ env, swapsWith e none pos.line env = pure false := by intro _; rfl) : WS c (.Expr e pos :: sts) S P := ws_step (w1_expr h hs) k
/-- (a, b, ..) = e, e data -/
theorem w1_asg {tg : Expr} {vs : List Nat} (h : EX c e S w S1) (g : GX c tg vs S1 w S2) (hs : ∀ env : Env, env.scope = c.sc → swapsWithSole [tg] e pos.line env = pure false := by intro _ _; rfl)
    (hw : ∀ env : Env, env.scope = c.sc → swappedStores [tg] e env = pure none := by intro _ _; rfl) (h1 : ∀ env, (assignEach [tg] env).map (·.2) = [assign tg env] := by intro _; rfl) : W1 c (.Assign [tg] e pos) S fun o => o = .nx S2 := fun X hX =>
  (ps_asg (h X hX) (g X hX) (hs _ hX.sc) (hw _ hX.sc) (h1 _)).wk fun D σ H ⟨B, G, s, f⟩ => ⟨B, G, s, fun v H' G' x s' => ⟨B, G', s', fun σ2 H2 G2 x2 _ s2 => f.nx S2 G2 σ2 H2 rfl (x.trans x2) s2⟩⟩
/-- (a, b, ..) = (e, f, ..) where the pair is made: what is fresh stays one's own -/
theorem w1_asgT {ts es : List Expr} {kt k2 n : Nat} {pt p2 : Pos} {vs : List Nat} (h : AX c es S ws S1) (g : GsX c ts vs S1 ws S2) (hz : ws.length = n) (hn : ∀ env, (assignEach ts env).length = n := by intro _; rfl) (hst : ∀ env, (assignEach ts env).findIdx? (·.1) = none := by intro _; rfl)
    (hw : ∀ env : Env, env.scope = c.sc → swappedStores [.Tuple ts kt pt] (.Tuple es k2 p2) env = pure none) (hs : ∀ env : Env, env.scope = c.sc → swapsWithSole [.Tuple ts kt pt] (.Tuple es k2 p2) pos.line env = pure false := by intro _ _; rfl)
    (h1 : ∀ env, (assignEach [.Tuple ts kt pt] env).map (·.2) = [assign (.Tuple ts kt pt) env] := by intro _; rfl) (hl : ws.length ≤ 64 := by decide) : W1 c (.Assign [.Tuple ts kt pt] (.Tuple es k2 p2) pos) S fun o => o = .nx S2 := fun X hX =>
  (ps_asg (pe_tup (h X hX)) (pg_tup hX.calm (g X hX) (hn _) (hst _)) (hs _ hX.sc) (hw _ hX.sc) (h1 _)).wk fun D σ H ⟨B, G, s, f⟩ => ⟨B, G, s, fun us H1 G1 x hlen s1 => ⟨by rw [hlen]; exact le_line hl, fun p hp =>
    ⟨p, us, rfl, SqT.of upd_same, by rw [hlen]; exact hz, B, G1, hlen, s1.grow hp, fun σ2 H2 G2 x2 _ s2 => f.nx S2 G2 σ2 H2 rfl (x.trans x2) s2⟩⟩⟩
/-- a, b = e, f with plain locals -/
theorem w1_par {i j : Nat} {x y : Str} {px py pt : Pos} {kt k2 : Nat} {pt2 : Pos} {wa wb : SV} (nd : c.N.Nodup) (h : AX c [a, b] S [wa, wb] S1) (hi : c.N[i]? = some x := by rfl) (hj : c.N[j]? = some y := by rfl) (hij : i ≠ j := by decide) (hx : c.sc.names.lookup x = some .local := by rfl) (hy : c.sc.names.lookup y = some .local := by rfl)
    (hw : ∀ env : Env, env.scope = c.sc → swappedStores [.Tuple [.Name x px, .Name y py] kt pt] (.Tuple [a, b] k2 pt2) env = pure (some [x, y]))
    (l1 : i < S1.length := by decide) (l2 : j < S1.length := by decide)
    (hs : ∀ env : Env, env.scope = c.sc → swapsWithSole [.Tuple [.Name x px, .Name y py] kt pt] (.Tuple [a, b] k2 pt2) pos.line env = pure false := by intro _ _; rfl) : W1 c (.Assign [.Tuple [.Name x px, .Name y py] kt pt] (.Tuple [a, b] k2 pt2) pos) S fun o => o = .nx ((S1.set i wa).set j wb) := fun X hX => by
  have e := hX.sc
  refine (ps_par (i := i) (j := j) hX.calm (by rw [hX.N]; exact nd) (by rw [hX.N]; exact hi) (by rw [hX.N]; exact hj) hij (by rw [e]; exact hx) (by rw [e]; exact hy) (h X hX) (hw _ e) (hs _ e)).wk fun D σ H ⟨B, G, s, f⟩ => ⟨B, G, s, fun vs H1 G1 x hl s1 => ?_⟩
  match vs, hl with
  | [u, v], _ =>
    refine ⟨u, v, rfl, f.nx _ G1 _ H1 rfl x ?_⟩
    have s2 : Stt B G1 H1 ((wb :: S1).set (i + 1) wa) ((some v :: σ).set (i + 1) (some u)) := Stt.put (S := wb :: S1) (σ := some v :: σ) s1 (by simpa using l1)
    exact Stt.put (S := S1.set i wa) (σ := σ.set i (some u)) s2 (by simpa using l2)
theorem w1_par3 {i j l : Nat} {x y z : Str} {px py pz pt : Pos} {kt k2 : Nat} {pt2 : Pos} {d : Expr} {wa wb wd : SV} (nd : c.N.Nodup) (h : AX c [a, b, d] S [wa, wb, wd] S1) (hi : c.N[i]? = some x := by rfl) (hj : c.N[j]? = some y := by rfl) (hl : c.N[l]? = some z := by rfl) (hij : i ≠ j := by decide) (hil : i ≠ l := by decide) (hjl : j ≠ l := by decide)
    (hx : c.sc.names.lookup x = some .local := by rfl) (hy : c.sc.names.lookup y = some .local := by rfl) (hz : c.sc.names.lookup z = some .local := by rfl)
    (hw : ∀ env : Env, env.scope = c.sc → swappedStores [.Tuple [.Name x px, .Name y py, .Name z pz] kt pt] (.Tuple [a, b, d] k2 pt2) env = pure (some [x, y, z]))
    (l1 : i < S1.length := by decide) (l2 : j < S1.length := by decide) (l3 : l < S1.length := by decide)
    (hs : ∀ env : Env, env.scope = c.sc → swapsWithSole [.Tuple [.Name x px, .Name y py, .Name z pz] kt pt] (.Tuple [a, b, d] k2 pt2) pos.line env = pure false := by intro _ _; rfl) :
    W1 c (.Assign [.Tuple [.Name x px, .Name y py, .Name z pz] kt pt] (.Tuple [a, b, d] k2 pt2) pos) S fun o => o = .nx (((S1.set i wa).set j wb).set l wd) := fun X hX => by
  have e := hX.sc
  refine (ps_par3 (i := i) (j := j) (l := l) hX.calm (by rw [hX.N]; exact nd) (by rw [hX.N]; exact hi) (by rw [hX.N]; exact hj) (by rw [hX.N]; exact hl) hij hil hjl (by rw [e]; exact hx) (by rw [e]; exact hy) (by rw [e]; exact hz) (h X hX) (hw _ e) (hs _ e)).wk fun D σ H ⟨B, G, s, f⟩ => ⟨B, G, s, fun vs H1 G1 x hl s1 => ?_⟩
  match vs, hl with
  | [u, v, q], _ =>
    refine ⟨u, v, q, rfl, f.nx _ G1 _ H1 rfl x ?_⟩
    have s2 : Stt B G1 H1 ((wb :: wd :: S1).set (i + 2) wa) ((some v :: some q :: σ).set (i + 2) (some u)) := Stt.put (S := wb :: wd :: S1) (σ := some v :: some q :: σ) s1 (by simpa using l1)
    have s3 : Stt B G1 H1 ((wd :: S1.set i wa).set (j + 1) wb) ((some q :: σ.set i (some u)).set (j + 1) (some v)) := Stt.put (S := wd :: S1.set i wa) (σ := some q :: σ.set i (some u)) s2 (by simpa using l2)
    exact Stt.put (S := (S1.set i wa).set j wb) (σ := (σ.set i (some u)).set j (some v)) s3 (by simpa using l3)
end
end DL

/-! DL, part d: what is walked, for, while, comprehensions. -/
namespace DL
open PySem PySem.Spec PyProof.Rows L2

/-! ### what is walked -/
/-- J gives the data ds one by one, while G1 stands -/
structure WalkD (J : It) (ds : List D) (G1 : Hp) : Prop where
  line : ds.length ≤ sizeLine
  goes : ∀ i H2, i < ds.length → Same G1 H2 → J.go i H2
  stops : ∀ H2, Same G1 H2 → J.stop ds.length H2
  yields : ∀ i d x H2 H3, ds[i]? = some d → Same G1 H2 → J.yld i H2 x H3 → ∀ B G2 S σ, Same G1 G2 → Stt B G2 H2 S σ → ∃ G3, Ext B G2 G3 ∧ Stt B G3 H3 (.val d :: S) (some x :: σ)
def tI (S : List SV) (ds : List D) (S1 : List SV) : TI := fun σ H R => ∃ B G, Stt B G H S σ ∧ ∀ J H1 G1, Ext B G G1 → Stt B G1 H1 S1 σ → WalkD J ds G1 → R J H1
/-- iter, walked into tg, gives ds -/
def IX (c : CC) (tg iter : Expr) (S : List SV) (ds : List D) (S1 : List SV) : Prop := ∀ X, c.In X → PI X tg iter (tI S ds S1)
theorem _root_.L2.PI.wk {X : Cx} {tg e : Expr} {t t' : TI} (h : PI X tg e t) (k : ∀ σ H R, t' σ H R → t σ H R) : PI X tg e t' := ⟨fun pins s σ H R I q => h.run pins s σ H R I (k σ H R q)⟩
section
variable {c : CC} {tg e a b : Expr} {S S1 S2 : List SV} {pos p : Pos}
theorem walkD_at {J : It} {xs : List V} {ds : List D} {G1 : Hp} (hl : xs.length = ds.length) (hg : ∀ i H2, i < xs.length → Same G1 H2 → J.go i H2) (hs : ∀ H2, Same G1 H2 → J.stop xs.length H2) (hy : ∀ i H2 x H3, Same G1 H2 → J.yld i H2 x H3 → H3 = H2 ∧ xs[i]? = some x) (r : RpA G1 xs ds) (z : ds.length ≤ sizeLine) : WalkD J ds G1 :=
  ⟨z, fun i H2 hi g => hg i H2 (by omega) g, fun H2 g => by rw [← hl]; exact hs H2 g, fun i d x H2 H3 hd g y B G2 S σ g2 st => by
    obtain ⟨rfl, hx⟩ := hy i H2 x H3 g y
    obtain ⟨d', hd', rd⟩ := r.get' hx
    rw [hd] at hd'; cases hd'
    exact ⟨G2, Ext.refl _ _, st.push (rd.mono g2)⟩⟩
theorem walkD_list {K : PySem.W.Frag} {G1 : Hp} {q : Addr} {xs : List V} {ds : List D} (e : G1 q = some (.lst xs)) (r : RpA G1 xs ds) (z : ds.length ≤ sizeLine) : WalkD (Itl K q) ds G1 :=
  walkD_at r.length (fun i H2 hi g => ⟨xs, xs[i], SqL.of (g _ _ e), by simp [hi]⟩) (fun H2 g => ⟨xs, SqL.of (g _ _ e), Nat.le_refl _⟩) (fun i H2 x H3 g y => ⟨y.1, y.2 xs (SqL.of (g _ _ e))⟩) r z
theorem walkD_tup {K : PySem.W.Frag} {G1 : Hp} {q : Addr} {xs : List V} {ds : List D} (e : G1 q = some (.tup xs)) (r : RpA G1 xs ds) (z : ds.length ≤ sizeLine) : WalkD (Itt K q) ds G1 :=
  walkD_at r.length (fun i H2 hi g => ⟨xs, xs[i], SqT.of (g _ _ e), by simp [hi]⟩) (fun H2 g => ⟨xs, SqT.of (g _ _ e), Nat.le_refl _⟩) (fun i H2 x H3 g y => ⟨y.1, y.2 xs (SqT.of (g _ _ e))⟩) r z
/-- a list, a tuple -/
theorem itx_list {ds : List D} (h : EX c e S (.val (.list ds)) S1) : IX c tg e S ds S1 := fun X hX => (pi_list (h X hX)).wk fun σ H R ⟨B, G, st, k⟩ => ⟨B, G, st, fun v H1 G1 x s1 => by
  have r := s1.headV
  cases r with
  | lst e1 zz ra => exact ⟨_, rfl, ⟨_, SqL.of (s1.g _ _ e1)⟩, k _ H1 G1 x s1.tail (walkD_list e1 ra zz)⟩⟩
theorem itx_tup {ds : List D} (h : EX c e S (.val (.tuple ds)) S1) : IX c tg e S ds S1 := fun X hX => (pi_tup (h X hX)).wk fun σ H R ⟨B, G, st, k⟩ => ⟨B, G, st, fun v H1 G1 x s1 => by
  have r := s1.headV
  cases r with
  | tup e1 zz ra => exact ⟨_, rfl, ⟨_, SqT.of (s1.g _ _ e1)⟩, k _ H1 G1 x s1.tail (walkD_tup e1 ra zz)⟩⟩
/-- the numbers from lo on, n of them -/
def rngN (lo : Int) (n : Nat) : List Int := (List.range n).map fun (i : Nat) => lo + (i : Int)
/-- range(a, b) -/
def rng (lo hi : Int) : List Int := rngN lo (hi - lo).toNat
theorem rngN_length (lo : Int) (n : Nat) : (rngN lo n).length = n := by simp [rngN]
theorem rngN_get {lo : Int} {n i : Nat} (h : i < n) : (rngN lo n)[i]? = some (lo + (i : Int)) := by simp [rngN, h]
theorem walkD_rng {G1 : Hp} {lo : Int} {n : Nat} (z : n ≤ sizeLine) : WalkD (Itr lo n) ((rngN lo n).map PyData.int) G1 :=
  ⟨by rw [List.length_map, rngN_length]; exact z, fun i H2 hi _ => by rw [List.length_map, rngN_length] at hi; exact hi, fun H2 _ => by rw [List.length_map, rngN_length]; exact Nat.le_refl _, fun i d x H2 H3 hd _ y B G2 S σ _ st => by
    obtain ⟨rfl, rfl⟩ := y
    have hi : i < n := by
      have := (List.getElem?_eq_some_iff.mp hd).1
      rw [List.length_map, rngN_length] at this
      exact this
    rw [List.getElem?_map, rngN_get hi] at hd
    cases hd
    exact ⟨G2, Ext.refl _ _, st.push (.int _)⟩⟩
/-- the ends of a range -/
def RngOk (i : Int) : Prop := -8388608 ≤ i ∧ i ≤ 8388608
theorem RngOk.wide {i : Int} (h : RngOk i) : -(2 ^ 62) ≤ i ∧ i < 2 ^ 62 := by unfold RngOk at h; omega
theorem RngOk.line {i j : Int} (h : RngOk i) (h' : RngOk j) : (j - i).toNat ≤ sizeLine := by unfold RngOk at h h'; rw [sizeLine_eq]; omega
/-- the module's names that are built in -/
class Bt (c : CC) : Prop where
  no : ∀ x ∈ (["range", "len", "sorted", "list", "tuple", "enumerate", "zip", "sum", "max", "min", "all", "any", "abs", "int", "repr", "dict", "isinstance", "bool", "str", "set"] : List Str), c.mg x = none
instance {c : CC} {sc : Scope} [h : Bt c] : Bt (c.blk sc) := ⟨h.no⟩
def GlC (c : CC) (x : Str) : Prop := c.sc.names.lookup x = some .globalImplicit
theorem CC.In.gl {c : CC} {X : Cx} (h : c.In X) {x : Str} (g : GlC c x) : Gl X x := by
  show X.env.scope.names.lookup x = _
  rw [h.sc]; exact g
theorem CC.In.mgN {c : CC} {X : Cx} (h : c.In X) {x : Str} (g : c.mg x = none) : X.mg x = none := by rw [h.mg]; exact g
theorem itx_range1 {j : Int} [bt : Bt c] (h : EX c a S (.val (.int j)) S1) (hj : RngOk j) (hg : GlC c "range" := by rfl) (hs : ∀ env, starEach [a] env = [(false, eval a env)] := by intro _; rfl) : IX c tg (.Call (.Name "range" p) [a] [] pos) S ((rng 0 j).map PyData.int) S1 := fun X hX =>
  (pi_range1 (hX.gl hg) (hX.mgN (bt.no _ (by decide +kernel))) (pa_cons (h X hX) pa_nil (by rw [hs]; rfl)) (hs _)).wk fun σ H R ⟨B, G, st, k⟩ => ⟨B, G, st, fun v H1 G1 x s1 => by
    have r := s1.headV
    cases r
    refine ⟨j, rfl, hj.wide.1, hj.wide.2, k _ H1 G1 x s1.tail ?_⟩
    have z := RngOk.line (i := 0) (by unfold RngOk; omega) hj
    unfold rng
    rw [Int.sub_zero] at z ⊢
    exact walkD_rng z⟩
theorem itx_range2 {i j : Int} [bt : Bt c] (ha : EX c a S (.val (.int i)) S1) (hb : EX c b S1 (.val (.int j)) S2) (hi : RngOk i) (hj : RngOk j) (hg : GlC c "range" := by rfl) (hs : ∀ env, starEach [a, b] env = [(false, eval a env), (false, eval b env)] := by intro _; rfl) (hs2 : ∀ env, starEach [b] env = [(false, eval b env)] := by intro _; rfl) :
    IX c tg (.Call (.Name "range" p) [a, b] [] pos) S ((rng i j).map PyData.int) S2 := fun X hX =>
  (pi_range2 (hX.gl hg) (hX.mgN (bt.no _ (by decide +kernel))) (pa_cons (ha X hX) (pa_cons (hb X hX) pa_nil (by rw [hs2]; rfl)) (by rw [hs, hs2])) (hs _) (hs2 _)).wk fun σ H R ⟨B, G, st, k⟩ => ⟨B, G, st, fun v H1 G1 x s1 => by
    obtain ⟨B1, s1', back⟩ := s1.bracket
    refine ⟨B1, G1, s1', fun u H2 G2 x2 s2 => ?_⟩
    obtain ⟨x3, s3⟩ := back G2 H2 _ _ x2 s2
    obtain ⟨r1, r2⟩ := s3.heads
    cases r1; cases r2
    exact ⟨i, j, rfl, ⟨hi.wide.1, hi.wide.2, hj.wide.1, hj.wide.2⟩, k _ H2 G2 (x.trans x3) s3.drop2 (walkD_rng (hi.line hj))⟩⟩
end

/-! ### loops -/
section
variable {c : CC} {tg iter e : Expr} {body sts : List Stmt} {S S0 S1 : List SV} {pos : Pos} {P : Oc → Prop} {vs : List Nat}
def tGU (c : CC) (tg : Expr) (vs : List Nat) : TG := fun v σ H Q => ∃ S w S', GX c tg vs S w S' ∧ tG vs S w S' v σ H Q
theorem pg_U {X : Cx} (hX : c.In X) : PG X tg (tGU c tg vs) := ⟨fun pins s σ H v u Q I r ⟨S, w, S', h, q⟩ => (h X hX).run pins s σ H v u Q I r q⟩
def tTU (c : CC) (e : Expr) : TT := fun σ H Q => ∃ S b S', TX c e S b S' ∧ tT S b S' σ H Q
theorem pt_U {X : Cx} (hX : c.In X) : PT X e (tTU c e) := ⟨fun pins s σ H Q I ⟨S, b, S', h, q⟩ => (h X hX).run pins s σ H Q I q⟩
def tDU (c : CC) (e : Expr) : TE := fun σ H Q => ∃ S w S', EX c e S w S' ∧ tD S w S' σ H Q
theorem pe_U {X : Cx} (hX : c.In X) : PE X e (tDU c e) := ⟨fun pins s σ H Q I ⟨S, w, S', h, q⟩ => (h X hX).run pins s σ H Q I q⟩
/-- a turn's end: on to Iv, or out -/
def Turned (Iv : List SV → Prop) (P : Oc → Prop) : Oc → Prop
  | .nx S => ∃ S', Imp S S' ∧ Iv S'
  | .ct S => ∃ S', Imp S S' ∧ Iv S'
  | .bk S => P (.nx S)
  | .rt w S => P (.rt w S)
theorem nox_eq {X : Cx} (hX : c.In X) : PassesOwn (model X.prog X.w) X.A X.env X.xe := by rw [hX.xe]; exact PassesOwn.never
theorem w1_for {ds : List D} (Iv : Nat → List SV → Prop) (hi : IX c tg iter S ds S0) (h0 : ∃ S1, Imp S0 S1 ∧ Iv 0 S1)
    (hb : ∀ i d S2, ds[i]? = some d → Iv i S2 → ∃ S3, GX c tg vs S2 (.val d) S3 ∧ WS c body S3 (Turned (Iv (i + 1)) P)) (hd : ∀ S2, Iv ds.length S2 → P (.nx S2))
    (hs : ∀ env x, foldedSetIterable iter env x = pure x := by intro _ _; rfl) : W1 c (.For tg iter body [] pos) S P := fun X hX =>
  (ps_for (nox_eq hX) hX.calm (hi X hX) (pg_U (vs := vs) hX) (pss_U (sts := body) hX) (hs _)).wk fun D σ H ⟨B, G, st, f⟩ => ⟨B, G, st, fun J H1 G1 x s1 wk => by
    obtain ⟨S1, i1, v1⟩ := h0
    obtain ⟨G1', x1', s1'⟩ := i1 B G1 H1 σ s1
    refine ⟨fun i m σ' H' => m = ds.length - i ∧ i ≤ ds.length ∧ ∃ G' S', Ext B G G' ∧ Same G1 G' ∧ Stt B G' H' S' σ' ∧ Iv i S', ⟨ds.length, by simp, Nat.zero_le _, G1', S1, x.trans x1', x1'.1, s1', v1⟩, ?_⟩
    rintro i m σ' H' ⟨rfl, hi, G', S', x', g', s', v'⟩
    have gH : Same G1 H' := g'.trans s'.g
    by_cases hlt : i < ds.length
    · obtain ⟨S3, g3, w3⟩ := hb i ds[i] S' (by simp [hlt]) v'
      refine .inr ⟨wk.goes i H' hlt gH, fun σ2 H2 => ∃ G2 S2, Ext B G G2 ∧ Same G1 G2 ∧ Stt B G2 H2 S2 σ2 ∧ Iv (i + 1) S2, fun σ2 H2 q => ⟨ds.length - (i + 1), by omega, rfl, hlt, q⟩, fun xv H3 y => ?_⟩
      obtain ⟨G3, x3, s3⟩ := wk.yields i ds[i] xv H' H3 (by simp [hlt]) gH y B G' S' σ' g' s'
      refine ⟨S', .val ds[i], S3, g3, B, G3, s3, fun σ4 H4 G4 x4 _ s4 => ⟨S3, _, w3, B, G4, s4, ?_⟩⟩
      have xx : Ext B G G4 := (x'.trans x3).trans x4
      have gg : Same G1 G4 := (g'.trans x3.1).trans x4.1
      exact ⟨fun S5 G5 σ5 H5 p5 x5 s5 => by
          obtain ⟨S6, i6, v6⟩ := p5
          obtain ⟨G6, x6, s6⟩ := i6 B G5 H5 σ5 s5
          exact ⟨G6, S6, (xx.trans x5).trans x6, (gg.trans x5.1).trans x6.1, s6, v6⟩,
        fun w S5 v G5 σ5 H5 p5 x5 s5 => f.rt w S5 v G5 σ5 H5 p5 (xx.trans x5) s5,
        fun S5 G5 σ5 H5 p5 x5 s5 => f.nx S5 G5 σ5 H5 p5 (xx.trans x5) s5,
        fun S5 G5 σ5 H5 p5 x5 s5 => by
          obtain ⟨S6, i6, v6⟩ := p5
          obtain ⟨G6, x6, s6⟩ := i6 B G5 H5 σ5 s5
          exact ⟨G6, S6, (xx.trans x5).trans x6, (gg.trans x5.1).trans x6.1, s6, v6⟩⟩
    · obtain rfl : i = ds.length := by omega
      exact .inl ⟨wk.stops H' gH, f.nx S' G' σ' H' (hd S' v') x' s'⟩⟩
theorem w1_while (Iv : Nat → List SV → Prop) {n0 : Nat} (h0 : ∃ S1, Imp S S1 ∧ Iv n0 S1)
    (hb : ∀ n S2, Iv n S2 → ∃ k S3, TX c e S2 k S3 ∧ (k = true → WS c body S3 (Turned (fun S' => ∃ m, m < n ∧ Iv m S') P)) ∧ (k = false → P (.nx S3))) : W1 c (.While e body [] pos) S P := fun X hX =>
  (ps_while (nox_eq hX) (pt_U hX) (pss_U (sts := body) hX)).wk fun D σ H ⟨B, G, st, f⟩ => by
    obtain ⟨S1, i1, v1⟩ := h0
    obtain ⟨G1, x1, s1⟩ := i1 B G H σ st
    refine ⟨fun m σ' H' => ∃ G' S', Ext B G G' ∧ Stt B G' H' S' σ' ∧ Iv m S', ⟨n0, G1, S1, x1, s1, v1⟩, ?_⟩
    rintro m σ' H' ⟨G', S', x', s', v'⟩
    obtain ⟨k, S3, t3, hy, hn⟩ := hb m S' v'
    refine ⟨S', k, S3, t3, B, G', s', fun H3 G3 x3 s3 => ?_⟩
    have xx : Ext B G G3 := x'.trans x3
    cases k with
    | false => exact iteF (f.nx S3 G3 σ' H3 (hn rfl) xx s3)
    | true =>
      refine iteT ⟨fun σ2 H2 => ∃ G2 S2, Ext B G G2 ∧ Stt B G2 H2 S2 σ2 ∧ ∃ m', m' < m ∧ Iv m' S2, fun σ2 H2 ⟨G2, S2, x2, s2, m', hm, v2⟩ => ⟨m', hm, G2, S2, x2, s2, v2⟩, S3, _, hy rfl, B, G3, s3, ?_⟩
      exact ⟨fun S5 G5 σ5 H5 p5 x5 s5 => by
          obtain ⟨S6, i6, v6⟩ := p5
          obtain ⟨G6, x6, s6⟩ := i6 B G5 H5 σ5 s5
          exact ⟨G6, S6, (xx.trans x5).trans x6, s6, v6⟩,
        fun w S5 v G5 σ5 H5 p5 x5 s5 => f.rt w S5 v G5 σ5 H5 p5 (xx.trans x5) s5,
        fun S5 G5 σ5 H5 p5 x5 s5 => f.nx S5 G5 σ5 H5 p5 (xx.trans x5) s5,
        fun S5 G5 σ5 H5 p5 x5 s5 => by
          obtain ⟨S6, i6, v6⟩ := p5
          obtain ⟨G6, x6, s6⟩ := i6 B G5 H5 σ5 s5
          exact ⟨G6, S6, (xx.trans x5).trans x6, s6, v6⟩⟩
end

/-! ### comprehensions -/
section
variable {B G H : Hp} {S : List SV} {σ τ : L2.St}
def wipeS (S : List SV) : List Nat → List SV
  | [] => S
  | v :: vs => (wipeS S vs).set v .un
theorem wipeS_length (S : List SV) : ∀ vs, (wipeS S vs).length = S.length
  | [] => rfl
  | v :: vs => by unfold wipeS; rw [List.length_set, wipeS_length S vs]
theorem wipeS_get (S : List SV) : ∀ (vs : List Nat) (i : Nat), (wipeS S vs)[i]? = if i ∈ vs then (if i < S.length then some .un else none) else S[i]?
  | [], i => by simp [wipeS]
  | v :: vs, i => by
    unfold wipeS
    by_cases hi : v = i
    · subst hi
      rw [if_pos List.mem_cons_self]
      by_cases hl : v < S.length
      · rw [List.getElem?_set_self (by rw [wipeS_length]; exact hl), if_pos hl]
      · rw [List.getElem?_eq_none (by rw [List.length_set, wipeS_length]; omega), if_neg hl]
    · rw [List.getElem?_set_ne hi, wipeS_get S vs i]
      by_cases hm : i ∈ vs
      · rw [if_pos hm, if_pos (List.mem_cons_of_mem _ hm)]
      · rw [if_neg hm, if_neg (by simp only [List.mem_cons, not_or]; exact ⟨fun e => hi e.symm, hm⟩)]
def SV.isOwn : SV → Bool
  | .un => false
  | .val _ => false
  | .pr _ => false
  | _ => true
/-- slots forgotten, or data in them told: told of T over τ, what S over σ tells elsewhere -/
theorem Stt.alter {T : List SV} (h : Stt B G H S σ) (hl : τ.length = σ.length) (hT : T.length = S.length)
    (k : ∀ (i : Nat) (w : SV), T[i]? = some w → w = SV.un ∨ (S[i]? = some w ∧ τ[i]? = σ[i]?) ∨ ∃ d v, w = SV.val d ∧ τ[i]? = some (some v) ∧ Rp G v d) : Stt B G H T τ := by
  obtain ⟨fp, o, z, dj, fr⟩ := h.own
  refine ⟨h.g, h.b, by rw [hT, hl]; exact h.len, fun i => if T[i]?.map SV.isOwn = some true then fp i else [], fun i w x e1 e2 => ?_, fun i hi => ?_, fun i j a h1 h2 => ?_, fun i a ha => ?_⟩
  · simp only [e1, Option.map_some]
    rcases k i w e1 with q | ⟨q1, q2⟩ | ⟨d, v, q, q3, q4⟩
    · subst q; exact rfl
    · have q := o i w x q1 (by rw [← q2]; exact e2)
      cases w with
      | un => exact rfl
      | val d =>
        obtain ⟨_, v, ev, r⟩ := q
        exact ⟨rfl, v, ev, r⟩
      | pr p =>
        obtain ⟨_, v, ev, r⟩ := q
        exact ⟨rfl, v, ev, r⟩
      | _ => exact q
    · subst q
      rw [e2] at q3; cases q3
      exact ⟨rfl, v, rfl, q4⟩
  · have : T[i]? = none := List.getElem?_eq_none hi
    simp [this]
  · by_cases c1 : T[i]?.map SV.isOwn = some true
    · by_cases c2 : T[j]?.map SV.isOwn = some true
      · simp only [if_pos c1] at h1; simp only [if_pos c2] at h2
        exact dj i j a h1 h2
      · simp only [if_neg c2] at h2; cases h2
    · simp only [if_neg c1] at h1; cases h1
  · by_cases c1 : T[i]?.map SV.isOwn = some true
    · simp only [if_pos c1] at ha; exact fr i a ha
    · simp only [if_neg c1] at ha; cases ha
theorem Stt.wipe (h : Stt B G H S σ) (vs : List Nat) : Stt B G H (wipeS S vs) (L2.wipe σ vs) := by
  refine h.alter (wipe_length _ _) (wipeS_length _ _) fun i w e => ?_
  rw [wipeS_get] at e
  by_cases hi : i ∈ vs
  · rw [if_pos hi] at e
    by_cases hl : i < S.length
    · rw [if_pos hl] at e; cases e; exact .inl rfl
    · rw [if_neg hl] at e; cases e
  · rw [if_neg hi] at e
    exact .inr (.inl ⟨e, by rw [wipe_get, if_neg hi]⟩)
/-- the slots at vs as they were ahead: data stays, the rest is forgotten -/
def unwipe (S S' : List SV) (vs : List Nat) : List SV := match vs with
  | [] => S'
  | v :: vs => (unwipe S S' vs).set v (match S[v]? with | some (.val d) => .val d | _ => .un)
theorem unwipe_length (S S' : List SV) : ∀ vs, (unwipe S S' vs).length = S'.length
  | [] => rfl
  | v :: vs => by unfold unwipe; rw [List.length_set, unwipe_length S S' vs]
theorem unwipe_get (S S' : List SV) : ∀ (vs : List Nat) (i : Nat) (w : SV), (unwipe S S' vs)[i]? = some w → (i ∉ vs ∧ S'[i]? = some w) ∨ (i ∈ vs ∧ (w = .un ∨ ∃ d, w = .val d ∧ S[i]? = some (.val d)))
  | [], i, w, e => .inl ⟨by simp, e⟩
  | v :: vs, i, w, e => by
    unfold unwipe at e
    by_cases hi : v = i
    · subst hi
      refine .inr ⟨List.mem_cons_self, ?_⟩
      have hl : v < (unwipe S S' vs).length := by
        have := (List.getElem?_eq_some_iff.mp e).1
        rw [List.length_set] at this; exact this
      rw [List.getElem?_set_self hl] at e
      cases e
      cases q : S[v]? with
      | none => exact .inl rfl
      | some u =>
        cases u with
        | val d => exact .inr ⟨d, rfl, rfl⟩
        | _ => exact .inl rfl
    · rw [List.getElem?_set_ne hi] at e
      rcases unwipe_get S S' vs i w e with ⟨h1, h2⟩ | ⟨h1, h2⟩
      · exact .inl ⟨by simp only [List.mem_cons, not_or]; exact ⟨fun z => hi z.symm, h1⟩, h2⟩
      · exact .inr ⟨List.mem_cons_of_mem _ h1, h2⟩
theorem Stt.unwipe {G0 : Hp} {H0 : Hp} {S0 : List SV} {vs : List Nat} (h0 : Stt B G0 H0 S0 σ) (x : Same G0 G) (h : Stt B G H S (L2.wipe σ vs)) : Stt B G H (DL.unwipe S0 S vs) σ := by
  refine h.alter (wipe_length _ _).symm (unwipe_length _ _ _) fun i w e => ?_
  rcases unwipe_get S0 S vs i w e with ⟨h1, h2⟩ | ⟨h1, h2⟩
  · exact .inr (.inl ⟨h2, by rw [wipe_get, if_neg h1]⟩)
  · rcases h2 with q | ⟨d, q, e0⟩
    · exact .inl q
    · obtain ⟨v, ev, r⟩ := h0.val e0
      exact .inr (.inr ⟨d, v, q, ev, r.mono x⟩)
end
end DL

/-! DL, part e: own lists and dicts changed; list comprehensions. -/
namespace DL
open PySem PySem.Spec PyProof.Rows L2
section
variable {B G H : Hp} {S T : List SV} {σ τ : L2.St} {w : SV} {x : Option V} {ds : List D}
theorem Stt.onTail (h : Stt B G H (w :: S) (x :: σ)) (f : ∀ B1, Stt B1 G H S σ → ∃ G', Ext B1 G G' ∧ Stt B1 G' H T τ) : ∃ G', Ext B G G' ∧ Stt B G' H (w :: T) (x :: τ) := by
  obtain ⟨B1, s1, back⟩ := h.bracket
  obtain ⟨G', x1, s2⟩ := f B1 s1
  obtain ⟨x3, s3⟩ := back G' H T τ x1 s2
  exact ⟨G', x3, s3⟩
/-- a list of one's own at slot i -/
theorem Stt.updL {i : Nat} (h : Stt B G H S σ) (e : S[i]? = some (.lst ds)) : ∃ a us, σ[i]? = some (some (.ref a)) ∧ H a = some (.lst us) ∧ RpA G us ds ∧ ds.length ≤ sizeLine ∧
    ∀ us' ds', RpA G us' ds' → ds'.length ≤ sizeLine → Stt B G (upd H a (.lst us')) (S.set i (.lst ds')) σ := by
  obtain ⟨y, ey⟩ := h.at e
  obtain ⟨fp, o, _, _, fr⟩ := id h.own
  obtain ⟨a, us, rfl, ef, ea, r, z⟩ := o i _ y e ey
  have ga : G a = none := (fr i a (by rw [ef]; simp)).1
  refine ⟨a, us, ey, ea, r, z, fun us' ds' r' z' => h.chg e ey (Same.refl _) (fun b u q => ?_) fun f of ff => ?_⟩
  · rw [upd_ne (by rintro rfl; rw [ga] at q; cases q)]
    exact h.g b u q
  · obtain ⟨b, vs, e1, rfl, e2, r2, _⟩ := of
    cases e1
    refine ⟨[a], ⟨a, us', rfl, rfl, upd_same, r', z'⟩, fun b hb => ?_, fun b hb _ => upd_ne (by simpa using hb), fun b o hb h1 h2 => by rw [h1] at h2; cases h2⟩
    obtain rfl : b = a := by simpa using hb
    exact ⟨.inl hb, ga⟩
theorem Stt.updK {i : Nat} {ks : List (Key × D)} (h : Stt B G H S σ) (e : S[i]? = some (.dk ks)) : ∃ a us, σ[i]? = some (some (.ref a)) ∧ H a = some (.dK us) ∧ RpV G us ks ∧ ks.length ≤ sizeLine ∧
    ∀ us' ks', RpV G us' ks' → ks'.length ≤ sizeLine → Stt B G (upd H a (.dK us')) (S.set i (.dk ks')) σ := by
  obtain ⟨y, ey⟩ := h.at e
  obtain ⟨fp, o, _, _, fr⟩ := id h.own
  obtain ⟨a, us, rfl, ef, ea, r, z⟩ := o i _ y e ey
  have ga : G a = none := (fr i a (by rw [ef]; simp)).1
  refine ⟨a, us, ey, ea, r, z, fun us' ds' r' z' => h.chg e ey (Same.refl _) (fun b u q => ?_) fun f of ff => ?_⟩
  · rw [upd_ne (by rintro rfl; rw [ga] at q; cases q)]
    exact h.g b u q
  · obtain ⟨b, vs, e1, rfl, e2, r2, _⟩ := of
    cases e1
    refine ⟨[a], ⟨a, us', rfl, rfl, upd_same, r', z'⟩, fun b hb => ?_, fun b hb _ => upd_ne (by simpa using hb), fun b o hb h1 h2 => by rw [h1] at h2; cases h2⟩
    obtain rfl : b = a := by simpa using hb
    exact ⟨.inl hb, ga⟩
theorem Stt.updT {i : Nat} {ks : List (List Key × D)} (h : Stt B G H S σ) (e : S[i]? = some (.dt ks)) : ∃ a us, σ[i]? = some (some (.ref a)) ∧ H a = some (.dT us) ∧ RpV G us ks ∧ ks.length ≤ sizeLine ∧
    ∀ us' ks', RpV G us' ks' → ks'.length ≤ sizeLine → Stt B G (upd H a (.dT us')) (S.set i (.dt ks')) σ := by
  obtain ⟨y, ey⟩ := h.at e
  obtain ⟨fp, o, _, _, fr⟩ := id h.own
  obtain ⟨a, us, rfl, ef, ea, r, z⟩ := o i _ y e ey
  have ga : G a = none := (fr i a (by rw [ef]; simp)).1
  refine ⟨a, us, ey, ea, r, z, fun us' ds' r' z' => h.chg e ey (Same.refl _) (fun b u q => ?_) fun f of ff => ?_⟩
  · rw [upd_ne (by rintro rfl; rw [ga] at q; cases q)]
    exact h.g b u q
  · obtain ⟨b, vs, e1, rfl, e2, r2, _⟩ := of
    cases e1
    refine ⟨[a], ⟨a, us', rfl, rfl, upd_same, r', z'⟩, fun b hb => ?_, fun b hb _ => upd_ne (by simpa using hb), fun b o hb h1 h2 => by rw [h1] at h2; cases h2⟩
    obtain rfl : b = a := by simpa using hb
    exact ⟨.inl hb, ga⟩
theorem wipe_wipe (σ : L2.St) (vs : List Nat) : L2.wipe (L2.wipe σ vs) vs = L2.wipe σ vs := by
  refine List.ext_getElem? fun j => ?_
  rw [wipe_get, wipe_get, wipe_length]
  by_cases hj : j ∈ vs
  · simp only [if_pos hj]
  · simp only [if_neg hj]
end

/-! ### list comprehensions -/
section
variable {c : CC} {tg iter elt t : Expr} {ifs : List Expr} {scope : Scope} {S S0 S1 S' Sn : List SV} {pos : Pos} {vs : List Nat} {ds res : List D}
/-- a clause's tests: none or one -/
def TsX (c : CC) (ifs : List Expr) (S : List SV) (b : Bool) (S' : List SV) : Prop := match ifs with
  | [] => b = true ∧ S' = S
  | [t] => TX c t S b S'
  | _ => False
def tTs (c : CC) (ifs : List Expr) : TT := match ifs with
  | [] => tYes
  | [t] => tTU c t
  | _ => fun _ _ _ => False
theorem pts_U {X : Cx} (hX : c.In X) : PTs X ifs (tTs c ifs) := by
  match ifs with
  | [] => exact pts_nil
  | [t] => exact pts_one (pt_U hX)
  | _ :: _ :: _ => exact ⟨fun _ _ _ _ _ _ z => z.elim⟩
theorem tTs_run {S : List SV} {b : Bool} {S' : List SV} {B G H : Hp} {σ : L2.St} {Q : Bool → Hp → Prop} (h : TsX c ifs S b S') (st : Stt B G H S σ) (k : ∀ H' G', Ext B G G' → Stt B G' H' S' σ → Q b H') : tTs c ifs σ H Q := by
  match ifs, h with
  | [], h => obtain ⟨rfl, rfl⟩ := h; exact k H G (Ext.refl _ _) st
  | [t], h => exact ⟨S, b, S', h, B, G, st, k⟩
/-- a turn: what is drawn, whether it is taken, what is made -/
structure TurnL (cb : CC) (tg elt : Expr) (ifs : List Expr) (vs : List Nat) (Iv : Nat → List D → List SV → Prop) (i : Nat) (d : D) (acc : List D) (S : List SV) : Prop where
  ex : ∃ S3, GX cb tg vs S (.val d) S3 ∧ ∃ k S4, TsX cb ifs S3 k S4 ∧ (k = true → ∃ d' S5, EX cb elt S4 (.val d') S5 ∧ ∃ S6, Imp (wipeS S5 vs) S6 ∧ Iv (i + 1) (acc ++ [d']) S6) ∧ (k = false → ∃ S6, Imp (wipeS S4 vs) S6 ∧ Iv (i + 1) acc S6)
theorem lc_reads (Iv : Nat → List D → List SV → Prop) (h0 : ∃ S1, Imp (wipeS S0 vs) S1 ∧ Iv 0 [] S1)
    (hb : ∀ i d acc S, ds[i]? = some d → acc.length ≤ i → Iv i acc S → TurnL (c.blk scope) tg elt ifs vs Iv i d acc S) (hd : ∀ acc S, Iv ds.length acc S → acc = res ∧ S = Sn) :
    ∀ σ H Q, tD S (.lst res) (unwipe S0 Sn vs) σ H Q → tLc (tI S ds S0) (tGU (c.blk scope) tg vs) (tTs (c.blk scope) ifs) (tDU (c.blk scope) elt) vs σ H Q := by
  rintro σ H Q ⟨B, G, st, k⟩
  refine ⟨B, G, st, fun J H1 G1 x s1 wk D hD => ?_⟩
  obtain ⟨S1, i1, v1⟩ := h0
  obtain ⟨G1', x1', s1'⟩ := i1 B G1 H1 _ (s1.wipe vs)
  refine ⟨fun i m H' => m = ds.length - i ∧ i ≤ ds.length ∧ ∃ G' S' acc, Ext B G G' ∧ Same G1 G' ∧ Stt B G' H' (.lst acc :: S') (some (.ref D) :: L2.wipe σ vs) ∧ acc.length ≤ i ∧ Iv i acc S',
    ⟨ds.length, by simp, Nat.zero_le _, G1', S1, [], x.trans x1', x1'.1, s1'.newLst hD .nil (Nat.zero_le _), Nat.zero_le _, v1⟩, ?_⟩
  rintro i m H' ⟨rfl, hi, G', S', acc, x', g', s', ha, v'⟩
  have gH : Same G1 H' := g'.trans s'.g
  by_cases hlt : i < ds.length
  · have hdi : ds[i]? = some ds[i] := by simp [hlt]
    obtain ⟨S3, g3, kk, S4, t4, yes, no⟩ := (hb i ds[i] acc S' hdi ha v').ex
    refine .inr ⟨wk.goes i H' hlt gH, fun H2 => ∃ G2 S2 acc2, Ext B G G2 ∧ Same G1 G2 ∧ Stt B G2 H2 (.lst acc2 :: S2) (some (.ref D) :: L2.wipe σ vs) ∧ acc2.length ≤ i + 1 ∧ Iv (i + 1) acc2 S2, fun H2 q => ⟨ds.length - (i + 1), by omega, rfl, hlt, q⟩, fun xv H3 y => ?_⟩
    obtain ⟨G3, x3, s3⟩ := wk.yields i ds[i] xv H' H3 hdi gH y B G' _ _ g' s'
    obtain ⟨B1, s3', back⟩ := s3.swap.bracket
    refine ⟨S', .val ds[i], S3, g3, B1, G3, s3', fun σ4 H4 G4 x4 hw s4 => ⟨hw.trans (wipe_wipe _ _), ?_⟩⟩
    rw [wipe_wipe] at hw
    -- a turn's end over σ4
    have fin : ∀ {G5 H5 acc5 S5}, Ext B G G5 → Same G1 G5 → Stt B G5 H5 (.lst acc5 :: S5) (some (.ref D) :: σ4) → acc5.length ≤ i + 1 → (∃ S6, Imp (wipeS S5 vs) S6 ∧ Iv (i + 1) acc5 S6) →
        ∃ G2 S2 acc2, Ext B G G2 ∧ Same G1 G2 ∧ Stt B G2 H5 (.lst acc2 :: S2) (some (.ref D) :: L2.wipe σ vs) ∧ acc2.length ≤ i + 1 ∧ Iv (i + 1) acc2 S2 := by
      rintro G5 H5 acc5 S5 x5 g5 s5 hl ⟨S6, i6, v6⟩
      obtain ⟨G6, x6, s6⟩ := s5.onTail (T := S6) (τ := L2.wipe σ vs) fun B2 q => by
        have q2 := q.wipe vs
        rw [hw] at q2
        exact i6 B2 G5 H5 _ q2
      exact ⟨G6, S6, acc5, x5.trans x6, g5.trans x6.1, s6, hl, v6⟩
    refine tTs_run t4 s4 fun H5 G5 x5 s5 => ?_
    cases kk with
    | false =>
      refine iteF ?_
      obtain ⟨xb, sb⟩ := back G5 H5 _ _ (x4.trans x5) s5
      exact fin ((x'.trans x3).trans xb) ((g'.trans x3.1).trans xb.1) sb (Nat.le_succ_of_le ha) (no rfl)
    | true =>
      refine iteT ?_
      obtain ⟨d', S5, e5, S6, i6, v6⟩ := yes rfl
      refine ⟨S4, .val d', S5, e5, B1, G5, s5, fun yv H6 G6 x6 s6 => ?_⟩
      obtain ⟨xb, sb⟩ := back G6 H6 _ _ ((x4.trans x5).trans x6) s6
      have ry : Rp G6 yv d' := s6.headV
      have sc : Stt B G6 H6 (.lst acc :: S5) (some (.ref D) :: σ4) := sb.swap.tail
      obtain ⟨a, us, ea, eu, ru, _, up⟩ := sc.updL (i := 0) rfl
      cases ea
      have hz := wk.line
      refine ⟨us, eu, by rw [ru.length]; omega, ?_⟩
      exact fin ((x'.trans x3).trans xb) ((g'.trans x3.1).trans xb.1) (up (us ++ [yv]) (acc ++ [d']) (ru.append (.cons ry .nil)) (by rw [List.length_append]; simp; omega)) (by rw [List.length_append]; simp; omega) ⟨S6, i6, v6⟩
  · obtain rfl : i = ds.length := by omega
    refine .inl ⟨wk.stops H' gH, ?_⟩
    obtain ⟨rfl, rfl⟩ := hd acc S' v'
    obtain ⟨G6, x6, s6⟩ := s'.onTail (T := unwipe S0 S' vs) (τ := σ) fun B2 q => by
      have z : Stt B2 G1 H1 S0 σ → Stt B2 G' H' (unwipe S0 S' vs) σ := fun z => z.unwipe g' q
      refine ⟨G', Ext.refl _ _, ?_⟩
      -- only what S0 says of data is asked
      refine q.alter (wipe_length _ _).symm (unwipe_length _ _ _) fun j w e => ?_
      rcases unwipe_get S0 S' vs j w e with ⟨h1, h2⟩ | ⟨h1, h2⟩
      · exact .inr (.inl ⟨h2, by rw [wipe_get, if_neg h1]⟩)
      · rcases h2 with q | ⟨d, q, e0⟩
        · exact .inl q
        · obtain ⟨v, ev, r⟩ := s1.val e0
          exact .inr (.inr ⟨d, v, q, ev, r.mono g'⟩)
    exact k _ H' G6 (x'.trans x6) s6
/-- the names of a comprehension's own: their places are vs -/
structure Blk (c : CC) (scope : Scope) (own : List (Str × Nat)) : Prop where
  ok : BlkOk c.N c.sc scope own
theorem ex_lc {own : List (Str × Nat)} (Iv : Nat → List D → List SV → Prop) (nd : c.N.Nodup) (ok : BlkOk c.N c.sc scope own) (hi : IX c tg iter S ds S0) (h0 : ∃ S1, Imp (wipeS S0 (own.map (·.2))) S1 ∧ Iv 0 [] S1)
    (hb : ∀ i d acc S, ds[i]? = some d → acc.length ≤ i → Iv i acc S → TurnL (c.blk scope) tg elt ifs (own.map (·.2)) Iv i d acc S) (hd : ∀ acc S, Iv ds.length acc S → acc = res ∧ S = Sn)
    (hs : ∀ env x, foldedSetIterable iter env x = pure x := by intro _ _; rfl) : EX c (.ListComp elt [⟨tg, iter, ifs, 0⟩] scope pos) S (.lst res) (unwipe S0 Sn (own.map (·.2))) := fun X hX =>
  (pe_lc hX.calm (by rw [hX.N]; exact nd) (hi X hX) (by rw [hX.N, hX.sc]; exact ok) (fun s H C cl fp => pg_U (hX.blk s H scope cl C fp)) (fun s H C cl fp => pts_U (hX.blk s H scope cl C fp)) (fun s H C cl fp => pe_U (hX.blk s H scope cl C fp)) (hs _)).wk (lc_reads Iv h0 hb hd)
/-- x = [..] on one line, x a plain local -/
theorem w1_setLc {own : List (Str × Nat)} {j : Nat} {y : Str} {py spos : Pos} (Iv : Nat → List D → List SV → Prop) (nd : c.N.Nodup) (ok : BlkOk c.N c.sc scope own) (hi : IX c tg iter S ds S0) (h0 : ∃ S1, Imp (wipeS S0 (own.map (·.2))) S1 ∧ Iv 0 [] S1)
    (hb : ∀ i d acc S, ds[i]? = some d → acc.length ≤ i → Iv i acc S → TurnL (c.blk scope) tg elt ifs (own.map (·.2)) Iv i d acc S) (hd : ∀ acc S, Iv ds.length acc S → acc = res ∧ S = Sn)
    (hy : c.N[j]? = some y := by rfl) (hyl : c.sc.names.lookup y = some .local := by rfl) (hl : (py.line == pos.line) = true := by rfl) (hll : (pos.line == spos.line) = true := by rfl) (hown : (scope.names.any fun (n, k) => n == y && (k == .local || k == .cell)) = false := by decide +kernel) (hj : j < (unwipe S0 Sn (own.map (·.2))).length := by decide)
    (hk : c.sc.kind = .function := by rfl) (hs : ∀ env x, foldedSetIterable iter env x = pure x := by intro _ _; rfl) :
    W1 c (.Assign [.Name y py] (.ListComp elt [⟨tg, iter, ifs, 0⟩] scope pos) spos) S fun o => o = .nx ((unwipe S0 Sn (own.map (·.2))).set j (.lst res)) := fun X hX =>
  (ps_setLc (i := j) (y := y) (py := py) (spos := spos) hX.calm (by rw [hX.N]; exact nd) (by rw [hX.N]; exact hy) (by rw [hX.sc]; exact hyl) (sw_true (by rw [hX.sc]; exact hk) (by rw [hX.sc]; exact hyl) hl hown) (hi X hX) (by rw [hX.N, hX.sc]; exact ok) (fun s H C cl fp => pg_U (hX.blk s H scope cl C fp)) (fun s H C cl fp => pts_U (hX.blk s H scope cl C fp)) (fun s H C cl fp => pe_U (hX.blk s H scope cl C fp)) (hs _)).wk
    fun D σ H ⟨B, G, s, f⟩ => lc_reads Iv h0 hb hd σ H _ ⟨B, G, s, fun v H' G' x s' => f.nx _ G' _ H' rfl x (s'.put hj)⟩
end
end DL

/-! DL, part f: reading what is one's own for a while (borrowing). -/
namespace DL
open PySem PySem.Spec PyProof.Rows L2

/-! ### data without lists: it never goes -/
mutual
def imm : D → Bool
  | .list _ => false
  | .dict _ => false
  | .tuple ds => imms ds
  | _ => true
def imms : List D → Bool
  | [] => true
  | d :: ds => imm d && imms ds
end
section
variable {B H : Hp} {S : List SV} {σ : L2.St}
mutual
theorem Stt.addData {G H0 : Hp} (h0 : Same H0 H) (h : Stt B G H S σ) : ∀ {d : D} {v : V}, imm d = true → Rp H0 v d → ∃ G', Ext B G G' ∧ Stt B G' H S σ ∧ Rp G' v d
  | .none, _, _, r => by cases r; exact ⟨G, Ext.refl _ _, h, .non⟩
  | .bool b, _, _, r => by cases r; exact ⟨G, Ext.refl _ _, h, .bl b⟩
  | .int i, _, _, r => by cases r; exact ⟨G, Ext.refl _ _, h, .int i⟩
  | .str x, _, _, r => by cases r; exact ⟨G, Ext.refl _ _, h, .str x⟩
  | .tuple ds, _, n, r => by
    cases r with
    | tup e z q =>
      obtain ⟨G1, x1, h1, q1⟩ := Stt.addDatas h0 h (by simpa [imm] using n) q
      obtain ⟨h2, x2⟩ := h1.addTup (h0 _ _ e)
      exact ⟨_, x1.trans x2, h2, .tup upd_same z (q1.mono x2.1)⟩
  | .list _, _, n, _ => by simp [imm] at n
  | .dict _, _, n, _ => by simp [imm] at n
theorem Stt.addDatas {G H0 : Hp} (h0 : Same H0 H) (h : Stt B G H S σ) : ∀ {ds : List D} {vs : List V}, imms ds = true → RpA H0 vs ds → ∃ G', Ext B G G' ∧ Stt B G' H S σ ∧ RpA G' vs ds
  | [], _, _, r => by cases r; exact ⟨G, Ext.refl _ _, h, .nil⟩
  | d :: ds, _, n, r => by
    cases r with
    | cons a b =>
      simp only [imms, Bool.and_eq_true] at n
      obtain ⟨G1, x1, h1, q1⟩ := Stt.addDatas h0 h n.2 b
      obtain ⟨G2, x2, h2, q2⟩ := Stt.addData h0 h1 n.1 a
      exact ⟨G2, x1.trans x2, h2, .cons q2 (q1.mono x2.1)⟩
end
end

/-! ### all that is one's own, read as data -/
def kvD (ks : List (Key × D)) : List (D × D) := ks.map fun p => (kD p.1, p.2)
def kvT (ks : List (List Key × D)) : List (D × D) := ks.map fun p => (.tuple (p.1.map kD), p.2)
/-- v is a dict that never changes: at an int or a text, at a tuple of such -/
def isDk (ks : List (Key × D)) : V → Hp → Prop := fun v G => ∃ a us, v = .ref a ∧ G a = some (.dK us) ∧ RpV G us ks ∧ ks.length ≤ sizeLine
def isDt (ks : List (List Key × D)) : V → Hp → Prop := fun v G => ∃ a us, v = .ref a ∧ G a = some (.dT us) ∧ RpV G us ks ∧ ks.length ≤ sizeLine
theorem isDk.mono {ks : List (Key × D)} {v : V} {G G' : Hp} (h : isDk ks v G) (g : Same G G') : isDk ks v G' := let ⟨a, us, e, q, r, z⟩ := h; ⟨a, us, e, g _ _ q, r.mono g, z⟩
theorem isDt.mono {ks : List (List Key × D)} {v : V} {G G' : Hp} (h : isDt ks v G) (g : Same G G') : isDt ks v G' := let ⟨a, us, e, q, r, z⟩ := h; ⟨a, us, e, g _ _ q, r.mono g, z⟩
theorem ref_inj : ∀ {as bs : List Addr}, as.map V.ref = bs.map V.ref → as = bs
  | [], [], _ => rfl
  | [], _ :: _, h => by simp at h
  | _ :: _, [], h => by simp at h
  | a :: as, b :: bs, h => by
    simp only [List.map_cons, List.cons.injEq] at h
    obtain ⟨h1, h2⟩ := h
    cases h1
    rw [ref_inj h2]
theorem zip_inj {κ : Type} : ∀ {ks : List κ} {xs ys : List V}, xs.length = ks.length → ys.length = ks.length → ks.zip xs = ks.zip ys → xs = ys
  | [], [], [], _, _, _ => rfl
  | k :: ks, x :: xs, y :: ys, h1, h2, h => by
    simp only [List.zip_cons_cons, List.cons.injEq, Prod.mk.injEq, true_and] at h
    rw [h.1, zip_inj (by simpa using h1) (by simpa using h2) h.2]
theorem Own.det {G H : Hp} {w : SV} {x : Option V} {f f' : List Addr} (h : Own G H w x f) (h' : Own G H w x f') : f = f' := by
  cases w with
  | un => exact (show f = [] from h).trans (show f' = [] from h').symm
  | val d => exact h.1.trans h'.1.symm
  | pr d => exact h.1.trans h'.1.symm
  | lst ds => obtain ⟨a, _, ex, ef, _⟩ := h; obtain ⟨b, _, ex', ef', _⟩ := h'; rw [ex] at ex'; cases ex'; rw [ef, ef']
  | dk ds => obtain ⟨a, _, ex, ef, _⟩ := h; obtain ⟨b, _, ex', ef', _⟩ := h'; rw [ex] at ex'; cases ex'; rw [ef, ef']
  | dt ds => obtain ⟨a, _, ex, ef, _⟩ := h; obtain ⟨b, _, ex', ef', _⟩ := h'; rw [ex] at ex'; cases ex'; rw [ef, ef']
  | ll dss =>
    obtain ⟨a, as, ex, ef, _, _, e, _⟩ := h; obtain ⟨b, bs, ex', ef', _, _, e', _⟩ := h'
    rw [ex] at ex'; cases ex'
    rw [e] at e'
    have := ref_inj (HO.lst.inj (Option.some.inj e'))
    rw [ef, ef', this]
  | dkl ks =>
    obtain ⟨a, as, ex, ef, _, _, e, r⟩ := h; obtain ⟨b, bs, ex', ef', _, _, e', r'⟩ := h'
    rw [ex] at ex'; cases ex'
    rw [e] at e'
    have := ref_inj (zip_inj (by have := r.length; simpa using this) (by have := r'.length; simpa using this) (HO.dK.inj (Option.some.inj e')))
    rw [ef, ef', this]
  | dtl ks =>
    obtain ⟨a, as, ex, ef, _, _, e, r⟩ := h; obtain ⟨b, bs, ex', ef', _, _, e', r'⟩ := h'
    rw [ex] at ex'; cases ex'
    rw [e] at e'
    have := ref_inj (zip_inj (by have := r.length; simpa using this) (by have := r'.length; simpa using this) (HO.dT.inj (Option.some.inj e')))
    rw [ef, ef', this]
  | src p q s => exact h.2.1.trans h'.2.1.symm
/-- freezing what slot i owns -/
theorem Stt.frzG {B G H : Hp} {S : List SV} {σ : L2.St} {i : Nat} {w w' : SV} (h : Stt B G H S σ) (e : S[i]? = some w) (hk : ∀ x f, Own G H w x f → ∀ G', Same G G' → (∀ a ∈ f, G' a = H a) → Own G' H w' x []) : ∃ G', Ext B G G' ∧ Stt B G' H (S.set i w') σ := by
  obtain ⟨x, ex⟩ := h.at e
  have own0 : ∃ f, Own G H w x f ∧ ∀ a ∈ f, G a = none ∧ B a = none := by
    obtain ⟨fp, o, z, dj, fr⟩ := h.own
    exact ⟨fp i, o i w x e ex, fr i⟩
  obtain ⟨f, of, ff⟩ := own0
  have gg : Same G (fun a => if a ∈ f then H a else G a) := fun a u q => by
    by_cases m : a ∈ f
    · rw [(ff a m).1] at q; cases q
    · simp only [if_neg m]; exact q
  refine ⟨fun a => if a ∈ f then H a else G a, ⟨gg, fun a o h1 h2 => ?_⟩, ?_⟩
  · by_cases m : a ∈ f
    · exact .inl (ff a m).2
    · simp only [if_neg m] at h2; rw [h1] at h2; cases h2
  · refine h.chg e ex gg (fun a u q => ?_) fun f' of' _ => ?_
    · by_cases m : a ∈ f
      · simp only [if_pos m] at q; exact q
      · simp only [if_neg m] at q; exact h.g a u q
    · obtain rfl := of.det of'
      refine ⟨[], hk x f of _ gg fun a m => if_pos m, fun a ha => absurd ha (by simp), fun a _ _ => rfl, fun a o m h1 h2 => ?_⟩
      simp only [if_neg m] at h2; rw [h1] at h2; cases h2
theorem OwnL.rp {G H G' : Hp} (g : Same G G') : ∀ {as : List Addr} {dss : List (List D)}, OwnL G H as dss → (∀ a ∈ as, G' a = H a) → RpA G' (as.map V.ref) (dss.map PyData.list)
  | _, _, .nil, _ => .nil
  | _, _, .cons e r z t, k => .cons (.lst (by rw [k _ List.mem_cons_self]; exact e) z (r.mono g)) (t.rp g fun a ha => k a (List.mem_cons_of_mem _ ha))
theorem RpA.zip {κ : Type} {G : Hp} : ∀ {ks : List κ} {vs : List V} {ds : List D}, RpA G vs ds → ds.length = ks.length → RpV G (ks.zip vs) (ks.zip ds)
  | [], _, _, .nil, _ => .nil
  | k :: ks, _, _, .cons r t, h => .cons ⟨rfl, r⟩ (RpA.zip t (by simpa using h))
def lkv {κ : Type} (ks : List (κ × List D)) : List (κ × D) := ks.map fun p => (p.1, .list p.2)
theorem lkv_zip {κ : Type} : ∀ ks : List (κ × List D), (ks.map (·.1)).zip ((ks.map (·.2)).map PyData.list) = lkv ks
  | [] => rfl
  | p :: ks => by simp only [List.map_cons, List.zip_cons_cons, lkv]; rw [lkv_zip ks]; rfl
def frzV : SV → SV
  | .lst ds => .val (.list ds)
  | .dk ks => .pr (isDk ks)
  | .dt ks => .pr (isDt ks)
  | .val d => .val d
  | .pr p => .pr p
  | .ll dss => .val (.list (dss.map PyData.list))
  | .dkl ks => .pr (isDk (lkv ks))
  | .dtl ks => .pr (isDt (lkv ks))
  | .un => .un
  | .src _ _ _ => .un
theorem Own.frz {G H G' : Hp} {w : SV} {x : Option V} {f : List Addr} (o : Own G H w x f) (g : Same G G') (k : ∀ a ∈ f, G' a = H a) : Own G' H (frzV w) x [] := by
  cases w with
  | un => exact rfl
  | src _ _ _ => exact rfl
  | val d => obtain ⟨_, v, ev, r⟩ := o; exact ⟨rfl, v, ev, r.mono g⟩
  | pr p => obtain ⟨_, v, ev, r⟩ := o; exact ⟨rfl, v, ev, fun G2 g2 => r G2 (g.trans g2)⟩
  | lst ds => obtain ⟨a, vs, ex, ef, ea, r, zz⟩ := o; subst ef; exact ⟨rfl, _, ex, .lst (by rw [k a (by simp)]; exact ea) zz (r.mono g)⟩
  | dk ks => obtain ⟨a, vs, ex, ef, ea, r, zz⟩ := o; subst ef; exact ⟨rfl, _, ex, fun G2 g2 => isDk.mono ⟨a, vs, rfl, by rw [k a (by simp)]; exact ea, r.mono g, zz⟩ g2⟩
  | dt ks => obtain ⟨a, vs, ex, ef, ea, r, zz⟩ := o; subst ef; exact ⟨rfl, _, ex, fun G2 g2 => isDt.mono ⟨a, vs, rfl, by rw [k a (by simp)]; exact ea, r.mono g, zz⟩ g2⟩
  | ll dss =>
    obtain ⟨a, as, ex, ef, _, zz, ea, r⟩ := o; subst ef
    exact ⟨rfl, _, ex, .lst (by rw [k a (by simp)]; exact ea) (by rw [List.length_map]; exact zz) (r.rp g fun b hb => k b (by simp [hb]))⟩
  | dkl ks =>
    obtain ⟨a, as, ex, ef, _, zz, ea, r⟩ := o; subst ef
    refine ⟨rfl, _, ex, fun G2 g2 => isDk.mono ⟨a, _, rfl, by rw [k a (by simp)]; exact ea, ?_, by rw [lkv, List.length_map]; exact zz⟩ g2⟩
    have q := RpA.zip (ks := ks.map (·.1)) (r.rp g fun b hb => k b (by simp [hb])) (by simp)
    rw [lkv_zip] at q
    exact q
  | dtl ks =>
    obtain ⟨a, as, ex, ef, _, zz, ea, r⟩ := o; subst ef
    refine ⟨rfl, _, ex, fun G2 g2 => isDt.mono ⟨a, _, rfl, by rw [k a (by simp)]; exact ea, ?_, by rw [lkv, List.length_map]; exact zz⟩ g2⟩
    have q := RpA.zip (ks := ks.map (·.1)) (r.rp g fun b hb => k b (by simp [hb])) (by simp)
    rw [lkv_zip] at q
    exact q
theorem Imp.frzAt {S : List SV} {i : Nat} {w : SV} (e : S[i]? = some w) : Imp S (S.set i (frzV w)) := fun B G H σ st => st.frzG e fun x f o G' g k => o.frz g k
def frzS (S : List SV) : List SV := S.map frzV
section
variable {B G H : Hp} {S : List SV} {σ : L2.St}
theorem Stt.frzAll (h : Stt B G H S σ) : ∃ G', Same G G' ∧ Stt H G' H (frzS S) σ := by
  obtain ⟨fp, o, z, dj, fr⟩ := h.own
  -- H itself: everything that stands
  refine ⟨H, h.g, Same.refl _, Same.refl _, by rw [frzS, List.length_map]; exact h.len, fun _ => [], fun i w x e1 e2 => ?_, fun _ _ => rfl, fun _ _ _ q => absurd q (by simp), fun _ _ q => absurd q (by simp)⟩
  rw [frzS, List.getElem?_map] at e1
  cases e : S[i]? with
  | none => rw [e] at e1; cases e1
  | some u =>
    rw [e] at e1
    have e1 : frzV u = w := Option.some.inj e1
    subst e1
    have q := o i u x e e2
    exact q.frz h.g fun a ha => rfl
/-- nothing that stood has changed -/
theorem Stt.grown {H' : Hp} (h : Stt B G H S σ) (g : Same H H') : Stt B G H' S σ :=
  h.heap (h.g.trans g) (h.b.trans g) fun a _ _ n => by
    cases e : H a with
    | none => exact absurd e n
    | some u => exact g a u e
end
section
variable {c : CC} {e : Expr} {S S1 : List SV} {d : D} {ds : List D} {k : Bool}
theorem ex_bor (h : EX c e (frzS S) (.val d) S1) (hd : imm d = true) : EX c e S (.val d) S := fun X hX => (h X hX).wk fun σ H Q ⟨B, G, st, q⟩ => by
  obtain ⟨G1, g1, s1⟩ := st.frzAll
  refine ⟨H, G1, s1, fun v H' G' x s' => ?_⟩
  obtain ⟨G2, x2, s2, r2⟩ := (st.grown s'.b).addData s'.g hd s'.headV
  exact q v H' G2 x2 (s2.push r2)
theorem tx_bor (h : TX c e (frzS S) k S1) : TX c e S k S := fun X hX => (h X hX).wk fun σ H Q ⟨B, G, st, q⟩ => by
  obtain ⟨G1, g1, s1⟩ := st.frzAll
  exact ⟨H, G1, s1, fun H' G' x s' => q H' G (Ext.refl _ _) (st.grown s'.b)⟩
/-- a new object on top of what only grew -/
theorem bor_top {B G H G' H' : Hp} {S S1 : List SV} {σ : L2.St} {a : Addr} {o : HO} (st : Stt B G H S σ) (s' : Stt H G' H' S1 σ) (na : H a = none) (ga : G' a = none) (ea : H' a = some o) :
    ∃ H2 : Hp, H2 a = none ∧ upd H2 a o = H' ∧ Stt B G H2 S σ ∧ Same G' H2 := by
  refine ⟨fun b => if b = a then none else H' b, if_pos rfl, ?_, st.grown fun b u e => ?_, fun b u e => ?_⟩
  · funext b
    unfold upd
    by_cases hb : b = a
    · subst hb; rw [if_pos rfl, ea]
    · rw [if_neg hb]; exact if_neg hb
  · have hb : b ≠ a := by rintro rfl; rw [na] at e; cases e
    show (if b = a then none else H' b) = _
    rw [if_neg hb]; exact s'.b b u e
  · have hb : b ≠ a := by rintro rfl; rw [ga] at e; cases e
    show (if b = a then none else H' b) = _
    rw [if_neg hb]; exact s'.g b u e
/-- a new list of such -/
theorem ex_borL (h : EX c e (frzS S) (.lst ds) S1) (hd : imms ds = true) : EX c e S (.lst ds) S := fun X hX => (h X hX).wk fun σ H Q ⟨B, G, st, q⟩ => by
  obtain ⟨G1, g1, s1⟩ := st.frzAll
  refine ⟨H, G1, s1, fun v H' G' x s' => ?_⟩
  obtain ⟨fp, o, _, _, fr⟩ := id s'.own
  obtain ⟨a, vs, ev, ef, ea, r, z⟩ := o 0 _ _ rfl rfl
  obtain ⟨ga, na⟩ := fr 0 a (by rw [ef]; simp)
  cases ev
  obtain ⟨H2, n2, e2, st2, g2⟩ := bor_top st s'.tail na ga ea
  obtain ⟨G2, x2, s2, r2⟩ := st2.addDatas g2 hd r
  have := s2.newLst n2 r2 z
  rw [e2] at this
  exact q _ H' G2 x2 this
def immV {κ : Type} (ks : List (κ × D)) : Bool := imms (ks.map (·.2))
theorem Stt.addV {κ : Type} {B H G H0 : Hp} {S : List SV} {σ : L2.St} (h0 : Same H0 H) (h : Stt B G H S σ) : ∀ {ks : List (κ × D)} {us : List (κ × V)}, immV ks = true → RpV H0 us ks → ∃ G', Ext B G G' ∧ Stt B G' H S σ ∧ RpV G' us ks
  | _, _, _, .nil => ⟨G, Ext.refl _ _, h, .nil⟩
  | (k, d) :: ks, (k', v) :: us, n, .cons a b => by
    simp only [immV, List.map_cons, imms, Bool.and_eq_true] at n
    obtain ⟨G1, x1, h1, q1⟩ := Stt.addV h0 h n.2 b
    obtain ⟨G2, x2, h2, q2⟩ := Stt.addData h0 h1 n.1 a.2
    exact ⟨G2, x1.trans x2, h2, .cons ⟨a.1, q2⟩ (q1.mono x2.1)⟩
theorem ex_borK {ks : List (Key × D)} (h : EX c e (frzS S) (.dk ks) S1) (hd : immV ks = true) : EX c e S (.dk ks) S := fun X hX => (h X hX).wk fun σ H Q ⟨B, G, st, q⟩ => by
  obtain ⟨G1, g1, s1⟩ := st.frzAll
  refine ⟨H, G1, s1, fun v H' G' x s' => ?_⟩
  obtain ⟨fp, o, _, _, fr⟩ := id s'.own
  obtain ⟨a, vs, ev, ef, ea, r, z⟩ := o 0 _ _ rfl rfl
  obtain ⟨ga, na⟩ := fr 0 a (by rw [ef]; simp)
  cases ev
  obtain ⟨H2, n2, e2, st2, g2⟩ := bor_top st s'.tail na ga ea
  obtain ⟨G2, x2, s2, r2⟩ := st2.addV g2 hd r
  have := s2.newDk n2 r2 z
  rw [e2] at this
  exact q _ H' G2 x2 this
theorem ex_borT {ks : List (List Key × D)} (h : EX c e (frzS S) (.dt ks) S1) (hd : immV ks = true) : EX c e S (.dt ks) S := fun X hX => (h X hX).wk fun σ H Q ⟨B, G, st, q⟩ => by
  obtain ⟨G1, g1, s1⟩ := st.frzAll
  refine ⟨H, G1, s1, fun v H' G' x s' => ?_⟩
  obtain ⟨fp, o, _, _, fr⟩ := id s'.own
  obtain ⟨a, vs, ev, ef, ea, r, z⟩ := o 0 _ _ rfl rfl
  obtain ⟨ga, na⟩ := fr 0 a (by rw [ef]; simp)
  cases ev
  obtain ⟨H2, n2, e2, st2, g2⟩ := bor_top st s'.tail na ga ea
  obtain ⟨G2, x2, s2, r2⟩ := st2.addV g2 hd r
  have := s2.newDt n2 r2 z
  rw [e2] at this
  exact q _ H' G2 x2 this
/-- encodings that make no list -/
class Im {α : Type} (e : α → D) : Prop where
  imm : ∀ a, imm (e a) = true
theorem Im.all {α : Type} (e : α → D) [Im e] : ∀ xs : List α, imms (xs.map e) = true
  | [] => rfl
  | x :: xs => by rw [List.map_cons, imms, Im.imm x, Im.all e xs]; rfl
instance : Im PyData.int := ⟨fun _ => rfl⟩
instance : Im PyData.bool := ⟨fun _ => rfl⟩
instance : Im PyData.str := ⟨fun _ => rfl⟩
instance {α : Type} (e : α → D) [Im e] : Im (eT e) := ⟨fun xs => by simp only [eT, DL.imm]; exact Im.all e xs⟩
instance {α β : Type} (ea : α → D) (eb : β → D) [Im ea] [Im eb] : Im (eP ea eb) := ⟨fun p => by simp [eP, DL.imm, imms, Im.imm]⟩
instance {α β γ : Type} (ea : α → D) (eb : β → D) (ec : γ → D) [Im ea] [Im eb] [Im ec] : Im (eP3 ea eb ec) := ⟨fun p => by simp [eP3, DL.imm, imms, Im.imm]⟩
instance {α : Type} (e : α → D) [Im e] : Im (eO e) := ⟨fun x => by cases x with | none => rfl | some a => exact Im.imm a⟩
theorem ex_borE {α : Type} {en : α → D} [Im en] {x : α} (h : EX c e (frzS S) (.val (en x)) S1) : EX c e S (.val (en x)) S := ex_bor h (Im.imm x)
theorem ex_borEL {α : Type} {en : α → D} [Im en] {xs : List α} (h : EX c e (frzS S) (.lst (xs.map en)) S1) : EX c e S (.lst (xs.map en)) S := ex_borL h (Im.all en xs)
end
end DL

/-! DL, part g: items, slices, lengths, sums of lists, calls of built-in functions. -/
namespace DL
open PySem PySem.Spec PyProof.Rows L2
instance : Inhabited PyData := ⟨.none⟩

/-! ### items -/
section
variable {α : Type}
def nth [Inhabited α] (xs : List α) (i : Int) : α := if 0 ≤ i then xs.getD i.toNat default else xs.getD (i + xs.length).toNat default
def InB (xs : List α) (i : Int) : Prop := -(xs.length : Int) ≤ i ∧ i < xs.length
def slc (xs : List α) (lo hi : Option Int) : List α := (xs.drop (HT.sIx xs.length 0 lo)).take (HT.sIx xs.length xs.length hi - HT.sIx xs.length 0 lo)
theorem slc_length (xs : List α) (lo hi : Option Int) : (slc xs lo hi).length ≤ xs.length := by
  unfold slc
  rw [List.length_take, List.length_drop]
  omega
theorem RpA.nth [Inhabited α] {G : Hp} {e : α → D} {xs : List α} {vs : List V} {i : Int} (r : RpA G vs (xs.map e)) (h : InB xs i) : ∃ v, atI vs i = some v ∧ Rp G v (e (nth xs i)) := by
  have hl : vs.length = xs.length := by rw [r.length, List.length_map]
  obtain ⟨h1, h2⟩ := h
  unfold atI ixN DL.nth
  by_cases h0 : 0 ≤ i
  · have hi : i.toNat < xs.length := by omega
    obtain ⟨v, hv, rv⟩ := r.get (i := i.toNat) (d := e xs[i.toNat]) (by simp [hi])
    rw [if_pos h0, if_pos h0, if_pos (by omega)]
    refine ⟨v, hv, ?_⟩
    rw [List.getD_eq_getElem?_getD, List.getElem?_eq_getElem hi]
    exact rv
  · have hi : (i + xs.length).toNat < xs.length := by omega
    obtain ⟨v, hv, rv⟩ := r.get (i := (i + xs.length).toNat) (d := e xs[(i + xs.length).toNat]) (by simp [hi])
    rw [if_neg h0, if_neg h0, if_pos (by omega), hl]
    refine ⟨v, hv, ?_⟩
    rw [List.getD_eq_getElem?_getD, List.getElem?_eq_getElem hi]
    exact rv
theorem RpA.slc {G : Hp} {ds : List D} {vs : List V} (r : RpA G vs ds) (lo hi : Option Int) : RpA G (cutV vs lo hi) (DL.slc ds lo hi) := by
  unfold cutV DL.slc
  rw [r.length]
  exact (r.drop _).take _
theorem slc_map {β : Type} (e : α → β) (xs : List α) (lo hi : Option Int) : slc (xs.map e) lo hi = (slc xs lo hi).map e := by
  unfold slc
  rw [List.length_map, List.map_take, List.map_drop]
theorem slc_whole (xs : List α) (lo hi : Option Int) (h : HT.sIx xs.length 0 lo = 0 ∧ HT.sIx xs.length xs.length hi = xs.length) : slc xs lo hi = xs := by
  unfold slc
  rw [h.1, h.2]
  simp
end
section
variable {c : CC} {a b e : Expr} {es : List Expr} {S S1 S2 S3 : List SV} {pos p p2 : Pos} {α : Type} {en : α → D} {xs ys : List α} {i j : Int} {w : SV} {ws : List SV} {ds : List D} {d : D}
/-- a[b] by what is known of the items -/
theorem ex_ixG {wa : SV} (ho : ∀ X, c.In X → ∃ r, IxR X r ∧ VR2 r wa (.val (.int i)) w) (ha : EX c a S wa S1) (hb : EX c b S1 (.val (.int i)) S2) (hs : PlainIx b) : EX c (.Subscript a b pos) S w S2 := fun X hX =>
  (pe_ix (ho X hX).choose_spec.1 (ha X hX) (hb X hX) hs).wk fun σ H Q h => two (ho X hX).choose_spec.2 h
theorem ex_ixT [Inhabited α] (ha : EX c a S (.val (eT en xs)) S1) (hb : EX c b S1 (.val (.int i)) S2) (h : InB xs i) (hs : PlainIx b := by intro _ _; rfl) : EX c (.Subscript a b pos) S (.val (en (nth xs i))) S2 := ex_ixG (fun X hX => ⟨_, L2.ix_tup, fun B G H S σ x y Q st k => by
  obtain ⟨r1, r2⟩ := st.heads
  cases r2
  cases r1 with
  | tup e1 zz rv =>
    obtain ⟨v, hv, rr⟩ := rv.nth h
    exact ⟨_, _, i, v, rfl, rfl, SqT.of (st.g _ _ e1), hv, k v H G (Ext.refl _ _) (st.drop2.push rr)⟩⟩) ha hb hs
theorem ex_ixL [Inhabited α] (ha : EX c a S (.val (eL en xs)) S1) (hb : EX c b S1 (.val (.int i)) S2) (h : InB xs i) (hs : PlainIx b := by intro _ _; rfl) : EX c (.Subscript a b pos) S (.val (en (nth xs i))) S2 := ex_ixG (fun X hX => ⟨_, L2.ix_list, fun B G H S σ x y Q st k => by
  obtain ⟨r1, r2⟩ := st.heads
  cases r2
  cases r1 with
  | lst e1 zz rv =>
    obtain ⟨v, hv, rr⟩ := rv.nth h
    exact ⟨_, _, i, v, rfl, rfl, SqL.of (st.g _ _ e1), hv, k v H G (Ext.refl _ _) (st.drop2.push rr)⟩⟩) ha hb hs
/-- an item of a tuple of some things of unlike kinds -/
theorem ex_ixD (ha : EX c a S (.val (.tuple ds)) S1) (hb : EX c b S1 (.val (.int i)) S2) (h : atI ds i = some d) (hs : PlainIx b := by intro _ _; rfl) : EX c (.Subscript a b pos) S (.val d) S2 := ex_ixG (fun X hX => ⟨_, L2.ix_tup, fun B G H S σ x y Q st k => by
  obtain ⟨r1, r2⟩ := st.heads
  cases r2
  cases r1 with
  | tup e1 zz rv =>
    obtain ⟨j, hj, hd, _⟩ := atI_get h
    obtain ⟨v, hv, rr⟩ := rv.get hd
    refine ⟨_, _, i, v, rfl, rfl, SqT.of (st.g _ _ e1), ?_, k v H G (Ext.refl _ _) (st.drop2.push rr)⟩
    unfold atI at h ⊢
    rw [rv.length]
    cases q : ixN ds.length i with
    | none => rw [q] at h; cases h
    | some m =>
      rw [q] at h
      have e2 := (ixN_seq q).1
      rw [hj] at e2
      cases e2
      exact hv⟩) ha hb hs
/-! ### slices -/
abbrev TO' := L2.St → Hp → (Option Int → Hp → Prop) → Prop
def tO (S : List SV) (o : Option Int) (S' : List SV) : TO' := fun σ H Q => ∃ B G, Stt B G H S σ ∧ ∀ H' G', Ext B G G' → Stt B G' H' S' σ → Q o H'
def OX (c : CC) (e : Option Expr) (S : List SV) (o : Option Int) (S' : List SV) : Prop := ∀ X, c.In X → PO X e (tO S o S')
theorem ox_none : OX c none S none S := fun X hX => ⟨fun pins s σ H Q I ⟨B, G, st, k⟩ => (po_none (X := X)).run pins s σ H Q I (k H G (Ext.refl _ _) st)⟩
theorem ox_some (h : EX c e S (.val (.int i)) S1) : OX c (some e) S (some i) S1 := fun X hX => ⟨fun pins s σ H Q I ⟨B, G, st, k⟩ => (po_some (h X hX)).run pins s σ H Q I ⟨B, G, st, fun v H' G' x s' => by
  have r := s'.headV
  cases r
  exact ⟨i, rfl, k H' G' x s'.tail⟩⟩⟩
def VR1S (r : V → Option Int → Option Int → Hp → VK → Prop) (wa : SV) (lo hi : Option Int) (w : SV) : Prop := ∀ B G H S σ x Q, Stt B G H (wa :: S) (some x :: σ) → (∀ v H' G', Ext B G G' → Stt B G' H' (w :: S) (some v :: σ) → Q v H') → r x lo hi H Q
theorem ex_slG {wa : SV} {lo hi : Option Expr} {l u : Option Int} (ho : ∀ X, c.In X → ∃ r, SlR X r ∧ VR1S r wa l u w) (ha : EX c a S wa S1) (hl : OX c lo S1 l S2) (hu : OX c hi S2 u S3) : EX c (.Subscript a (.Slice lo hi none p2) pos) S w S3 := fun X hX =>
  (pe_slice (ho X hX).choose_spec.1 (ha X hX) (hl X hX) (hu X hX)).wk fun σ H Q ⟨B, G, st, k⟩ => ⟨B, G, st, fun x H1 G1 x1 s1 => by
    obtain ⟨B1, s1', back⟩ := s1.bracket
    refine ⟨B1, G1, s1', fun H2 G2 x2 s2 => ⟨B1, G2, s2, fun H3 G3 x3 s3 => ?_⟩⟩
    obtain ⟨x4, s4⟩ := back G3 H3 _ _ (x2.trans x3) s3
    exact (ho X hX).choose_spec.2 B G3 H3 S3 σ x Q s4 fun v H' G' x5 s5 => k v H' G' ((x1.trans x4).trans x5) s5⟩
theorem ex_slT {lo hi : Option Expr} {l u : Option Int} (ha : EX c a S (.val (eT en xs)) S1) (hl : OX c lo S1 l S2) (hu : OX c hi S2 u S3) : EX c (.Subscript a (.Slice lo hi none p2) pos) S (.val (eT en (slc xs l u))) S3 := ex_slG (fun X hX => ⟨_, sl_tupA, fun B G H S σ x Q st k => by
  have r1 := st.headV
  cases r1 with
  | @tup q vs _ e1 zz rv =>
    have hlen : vs.length = xs.length := by rw [rv.length, List.length_map]
    refine ⟨_, vs, rfl, SqT.of (st.g _ _ e1), fun hw => ?_, fun hw p hp => ?_⟩
    · rw [hlen] at hw
      rw [slc_whole xs l u hw] at k
      exact k _ H G (Ext.refl _ _) st
    · have rc := rv.slc l u
      rw [slc_map] at rc
      obtain ⟨G', x', s'⟩ := st.tail.newTup hp rc (by rw [List.length_map]; exact Nat.le_trans (slc_length xs l u) (by simpa using zz))
      exact k _ _ G' x' s'⟩) ha hl hu
theorem ex_slL {lo hi : Option Expr} {l u : Option Int} (ha : EX c a S (.val (eL en xs)) S1) (hl : OX c lo S1 l S2) (hu : OX c hi S2 u S3) : EX c (.Subscript a (.Slice lo hi none p2) pos) S (.lst ((slc xs l u).map en)) S3 := ex_slG (fun X hX => ⟨_, sl_list, fun B G H S σ x Q st k => by
  have r1 := st.headV
  cases r1 with
  | @lst q vs _ e1 zz rv =>
    have rc := rv.slc l u
    rw [slc_map] at rc
    exact ⟨_, vs, rfl, SqL.of (st.g _ _ e1), fun p hp => k _ _ G (Ext.refl _ _) (st.tail.newLst hp rc (by rw [List.length_map]; exact Nat.le_trans (slc_length xs l u) (by simpa using zz)))⟩⟩) ha hl hu
/-- xs[::-1] of a list -/
theorem ex_revL {k : Nat} {p1 p3 : Pos} (ha : EX c a S (.val (eL en xs)) S1) : EX c (.Subscript a (.Slice none none (some (.UnaryOp .USub (.Constant (.int 1) k p1) p2)) p3) pos) S (.lst (xs.reverse.map en)) S1 := fun X hX =>
  (pe_revL (ha X hX)).wk fun σ H Q ⟨B, G, st, kk⟩ => ⟨B, G, st, fun x H1 G1 x1 s1 => by
    have r1 := s1.headV
    cases r1 with
    | @lst q vs _ e1 zz rv =>
      refine ⟨_, vs, rfl, SqL.of (s1.g _ _ e1), fun p hp => kk _ _ G1 x1 (s1.tail.newLst hp ?_ ?_)⟩
      · rw [List.map_reverse]; exact rv.reverse
      · rw [List.length_map, List.length_reverse]; simpa using zz⟩

/-! ### sums of sequences -/
theorem ex_catL (ha : EX c a S (.val (eL en xs)) S1) (hb : EX c b S1 (.val (eL en ys)) S2) (hz : xs.length + ys.length ≤ sizeLine) : EX c (.BinOp a .Add b pos) S (.lst ((xs ++ ys).map en)) S2 := ex_bin (fun X hX => ⟨_, op_cat, fun B G H S σ x y Q st k => by
  obtain ⟨r1, r2⟩ := st.heads
  cases r1 with
  | lst e1 zz1 rv1 =>
    cases r2 with
    | lst e2 zz2 rv2 =>
      refine ⟨_, _, _, _, rfl, rfl, st.g _ _ e1, st.g _ _ e2, by rw [rv1.length, rv2.length, List.length_map, List.length_map]; exact hz, fun p hp => k _ _ G (Ext.refl _ _) (st.drop2.newLst hp ?_ (by simpa using hz))⟩
      rw [List.map_append]; exact rv1.append rv2⟩) ha hb
theorem ex_catT (ha : EX c a S (.val (eT en xs)) S1) (hb : EX c b S1 (.val (eT en ys)) S2) (hz : xs.length + ys.length ≤ sizeLine) : EX c (.BinOp a .Add b pos) S (.val (eT en (xs ++ ys))) S2 := ex_bin (fun X hX => ⟨_, op_catA, fun B G H S σ x y Q st k => by
  obtain ⟨r1, r2⟩ := st.heads
  cases r1 with
  | @tup qa va _ e1 zz1 rv1 =>
    cases r2 with
    | @tup qb vb _ e2 zz2 rv2 =>
      have l1 : va.length = xs.length := by rw [rv1.length, List.length_map]
      have l2 : vb.length = ys.length := by rw [rv2.length, List.length_map]
      refine ⟨_, _, va, vb, rfl, rfl, SqT.of (st.g _ _ e1), SqT.of (st.g _ _ e2), by rw [l1, l2]; exact hz, fun q => ?_, fun _ q => ?_, fun _ _ p hp => ?_⟩
      · have : xs = [] := List.eq_nil_of_length_eq_zero (by rw [← l1, q]; rfl)
        subst this
        exact k _ H G (Ext.refl _ _) st.tail
      · have : ys = [] := List.eq_nil_of_length_eq_zero (by rw [← l2, q]; rfl)
        subst this
        rw [List.append_nil] at k
        exact k _ H G (Ext.refl _ _) (st.drop2.push (.tup e1 zz1 rv1))
      · obtain ⟨G', x', s'⟩ := st.drop2.newTup hp (rv1.append rv2) (by simpa using hz)
        refine k _ _ G' x' ?_
        unfold eT
        rw [List.map_append]
        exact s'⟩) ha hb
theorem ex_repL (ha : EX c a S (.val (eL en xs)) S1) (hb : EX c b S1 (.val (.int i)) S2) (h1 : -(2 ^ 63) ≤ i) (h2 : i < 2 ^ 63) (hz : xs.length * i.toNat ≤ sizeLine) : EX c (.BinOp a .Mult b pos) S (.lst (((List.replicate i.toNat xs).flatten).map en)) S2 := ex_bin (fun X hX => ⟨_, op_rep, fun B G H S σ x y Q st k => by
  obtain ⟨r1, r2⟩ := st.heads
  cases r2
  cases r1 with
  | @lst qa va _ e1 zz1 rv1 =>
    have l1 : va.length = xs.length := by rw [rv1.length, List.length_map]
    refine ⟨_, i, va, rfl, rfl, st.g _ _ e1, h1, h2, by rw [l1]; exact hz, fun p hp => k _ _ G (Ext.refl _ _) (st.drop2.newLst hp ?_ ?_)⟩
    · have := rv1.flatten i.toNat
      rw [← List.map_replicate, ← List.map_flatten] at this
      exact this
    · rw [List.length_map, List.length_flatten, List.map_replicate, List.sum_replicate_nat, Nat.mul_comm]
      exact hz⟩) ha hb
end

/-! ### calls of built-in functions -/
def VRA (r : List V → Hp → VK → Prop) (ws : List SV) (w : SV) : Prop := ∀ B G H S σ vs Q, vs.length = ws.length → Stt B G H (ws ++ S) (vs.map some ++ σ) → (∀ v H' G', Ext B G G' → Stt B G' H' (w :: S) (some v :: σ) → Q v H') → r vs H Q
section
variable {c : CC} {a b e : Expr} {es : List Expr} {S S1 S2 : List SV} {pos p : Pos} {α : Type} {en : α → D} {xs ys : List α} {i j : Int} {w : SV} {ws : List SV}
theorem ex_callB {id : String} {f : Str} [bt : Bt c] (ho : ∀ X, c.In X → ∃ r, CallR X (.builtin id) r ∧ VRA r ws w) (ha : AX c (e :: es) S ws S1) (hf : f ∈ (["range", "len", "sorted", "list", "tuple", "enumerate", "zip", "sum", "max", "min", "all", "any", "abs", "int", "repr", "dict", "isinstance", "bool", "str", "set"] : List Str)) (hv : bootBuiltins f = some (.builtin id)) (hg : GlC c f)
    (hn : f ≠ "__name__" := by decide) (hdb : (f == ("__debug__" : Str)) = false := by decide)
    (he : ∀ env, starEach (e :: es) env = (false, eval e env) :: starEach es env := by intro _; rfl) (hpl : ∀ env pos, (backTo pos (starEach es env)).any (·.1) = false := by intro _ _; rfl) : EX c (.Call (.Name f p) (e :: es) [] pos) S w S1 := fun X hX =>
  (pe_callB (ho X hX).choose_spec.1 (hX.gl hg) (hX.mgN (bt.no _ hf)) hv (ha X hX) hn hdb (he _) (hpl _ _)).wk fun σ H Q ⟨B, G, st, k⟩ => ⟨B, G, st, fun vs H1 G1 x1 hl s1 => (ho X hX).choose_spec.2 B G1 H1 S1 σ vs Q hl s1 fun v H' G' x2 s2 => k v H' G' (x1.trans x2) s2⟩
theorem ex_callTy {id : String} {f : Str} [bt : Bt c] (ho : ∀ X, c.In X → ∃ r, CallR X (.type id) r ∧ VRA r ws w) (ha : AX c (e :: es) S ws S1) (hf : f ∈ (["range", "len", "sorted", "list", "tuple", "enumerate", "zip", "sum", "max", "min", "all", "any", "abs", "int", "repr", "dict", "isinstance", "bool", "str", "set"] : List Str)) (hv : bootBuiltins f = some (.type id)) (hg : GlC c f)
    (hn : f ≠ "__name__" := by decide) (hdb : (f == ("__debug__" : Str)) = false := by decide)
    (he : ∀ env, starEach (e :: es) env = (false, eval e env) :: starEach es env := by intro _; rfl) (hpl : ∀ env pos, (backTo pos (starEach es env)).any (·.1) = false := by intro _ _; rfl) : EX c (.Call (.Name f p) (e :: es) [] pos) S w S1 := fun X hX =>
  (pe_callTy (ho X hX).choose_spec.1 (hX.gl hg) (hX.mgN (bt.no _ hf)) hv (ha X hX) hn hdb (he _) (hpl _ _)).wk fun σ H Q ⟨B, G, st, k⟩ => ⟨B, G, st, fun vs H1 G1 x1 hl s1 => (ho X hX).choose_spec.2 B G1 H1 S1 σ vs Q hl s1 fun v H' G' x2 s2 => k v H' G' (x1.trans x2) s2⟩
/-- one argument that is data -/
theorem vra1 {r : List V → Hp → VK → Prop} {d : D} (h : ∀ B G H S σ x Q, Stt B G H S σ → Rp G x d → (∀ v H' G', Ext B G G' → Stt B G' H' (w :: S) (some v :: σ) → Q v H') → r [x] H Q) : VRA r [.val d] w := fun B G H S σ vs Q hl st k => by
  match vs, hl with
  | [x], _ => exact h B G H S σ x Q (Stt.tail (S := S) (σ := σ) st) (Stt.headV (S := S) (σ := σ) st) k
theorem vra2 {r : List V → Hp → VK → Prop} {d1 d2 : D} (h : ∀ B G H S σ x y Q, Stt B G H S σ → Rp G x d1 → Rp G y d2 → (∀ v H' G', Ext B G G' → Stt B G' H' (w :: S) (some v :: σ) → Q v H') → r [x, y] H Q) : VRA r [.val d1, .val d2] w := fun B G H S σ vs Q hl st k => by
  match vs, hl with
  | [x, y], _ =>
    have st : Stt B G H (.val d1 :: .val d2 :: S) (some x :: some y :: σ) := st
    exact h B G H S σ x y Q st.drop2 st.heads.1 st.heads.2 k
theorem ex_arg1 {d : D} (h : EX c e S (.val d) S1) (hs : ∀ env, starEach [e] env = (false, eval e env) :: starEach [] env := by intro _; rfl) : AX c [e] S [.val d] S1 := ax_cons h ax_nil hs
theorem ex_lenT [Bt c] (h : EX c e S (.val (eT en xs)) S1) (hg : GlC c "len" := by rfl) (hs : ∀ env, starEach [e] env = (false, eval e env) :: starEach [] env := by intro _; rfl) : EX c (.Call (.Name "len" p) [e] [] pos) S (.val (.int xs.length)) S1 :=
  ex_callB (fun X hX => ⟨_, call_len_seq, vra1 fun B G H S σ x Q st r k => by
    cases r with
    | tup e1 zz rv => exact ⟨_, _, rfl, .inr (SqT.of (st.g _ _ e1)), k _ H G (Ext.refl _ _) (st.push (by rw [rv.length, List.length_map]; exact .int _))⟩⟩) (ex_arg1 h hs) (by decide +kernel) PySem.boot_len hg (he := hs)
theorem ex_lenL [Bt c] (h : EX c e S (.val (eL en xs)) S1) (hg : GlC c "len" := by rfl) (hs : ∀ env, starEach [e] env = (false, eval e env) :: starEach [] env := by intro _; rfl) : EX c (.Call (.Name "len" p) [e] [] pos) S (.val (.int xs.length)) S1 :=
  ex_callB (fun X hX => ⟨_, call_len_seq, vra1 fun B G H S σ x Q st r k => by
    cases r with
    | lst e1 zz rv => exact ⟨_, _, rfl, .inl (SqL.of (st.g _ _ e1)), k _ H G (Ext.refl _ _) (st.push (by rw [rv.length, List.length_map]; exact .int _))⟩⟩) (ex_arg1 h hs) (by decide +kernel) PySem.boot_len hg (he := hs)
theorem ex_sum [Bt c] {ns : List Int} (h : EX c e S (.val (eL PyData.int ns)) S1) (hg : GlC c "sum" := by rfl) (hs : ∀ env, starEach [e] env = (false, eval e env) :: starEach [] env := by intro _; rfl) : EX c (.Call (.Name "sum" p) [e] [] pos) S (.val (.int ns.sum)) S1 :=
  ex_callB (fun X hX => ⟨_, cr_sum hX.calm, vra1 fun B G H S σ x Q st r k => by
    cases r with
    | lst e1 zz rv =>
      rw [rv.of_ints] at e1
      exact ⟨_, ns, rfl, SqL.of (st.g _ _ e1), k _ H G (Ext.refl _ _) (st.push (.int _))⟩⟩) (ex_arg1 h hs) (by decide +kernel) (by decide +kernel) hg (he := hs)
/-- the greatest, the least of some numbers -/
def maxL (ns : List Int) : Int := ns.foldl max (ns.headD 0)
def minL (ns : List Int) : Int := ns.foldl min (ns.headD 0)
theorem maxL_spec {ns : List Int} {m : Int} (hm : m ∈ ns) (h : ∀ y ∈ ns, y ≤ m) : m = maxL ns := by
  have key : ∀ (l : List Int) (a : Int), (∀ y ∈ l, y ≤ m) → a ≤ m → l.foldl max a ≤ m ∧ a ≤ l.foldl max a ∧ ∀ y ∈ l, y ≤ l.foldl max a := by
    intro l
    induction l with
    | nil => intro a _ ha; exact ⟨ha, Int.le_refl _, fun _ h => nomatch h⟩
    | cons z l ih =>
      intro a hl ha
      have hz := hl z List.mem_cons_self
      obtain ⟨h1, h2, h3⟩ := ih (max a z) (fun y hy => hl y (List.mem_cons_of_mem _ hy)) (by omega)
      refine ⟨h1, by rw [List.foldl_cons]; omega, fun y hy => ?_⟩
      rw [List.foldl_cons]
      rcases List.mem_cons.mp hy with rfl | hy
      · omega
      · exact h3 y hy
  cases ns with
  | nil => cases hm
  | cons z l =>
    obtain ⟨h1, h2, h3⟩ := key (z :: l) z h (h z List.mem_cons_self)
    have := h3 m hm
    unfold maxL
    show m = (z :: l).foldl max z
    omega
theorem minL_spec {ns : List Int} {m : Int} (hm : m ∈ ns) (h : ∀ y ∈ ns, m ≤ y) : m = minL ns := by
  have key : ∀ (l : List Int) (a : Int), (∀ y ∈ l, m ≤ y) → m ≤ a → m ≤ l.foldl min a ∧ l.foldl min a ≤ a ∧ ∀ y ∈ l, l.foldl min a ≤ y := by
    intro l
    induction l with
    | nil => intro a _ ha; exact ⟨ha, Int.le_refl _, fun _ h => nomatch h⟩
    | cons z l ih =>
      intro a hl ha
      have hz := hl z List.mem_cons_self
      obtain ⟨h1, h2, h3⟩ := ih (min a z) (fun y hy => hl y (List.mem_cons_of_mem _ hy)) (by omega)
      refine ⟨h1, by rw [List.foldl_cons]; omega, fun y hy => ?_⟩
      rw [List.foldl_cons]
      rcases List.mem_cons.mp hy with rfl | hy
      · omega
      · exact h3 y hy
  cases ns with
  | nil => cases hm
  | cons z l =>
    obtain ⟨h1, h2, h3⟩ := key (z :: l) z h (h z List.mem_cons_self)
    have := h3 m hm
    unfold minL
    show m = (z :: l).foldl min z
    omega
theorem ex_maxL [Bt c] {ns : List Int} (h : EX c e S (.val (eL PyData.int ns)) S1) (hne : 0 < ns.length) (hg : GlC c "max" := by rfl) (hs : ∀ env, starEach [e] env = (false, eval e env) :: starEach [] env := by intro _; rfl) : EX c (.Call (.Name "max" p) [e] [] pos) S (.val (.int (maxL ns))) S1 :=
  ex_callB (fun X hX => ⟨_, cr_max hX.calm, vra1 fun B G H S σ x Q st r k => by
    cases r with
    | lst e1 zz rv =>
      rw [rv.of_ints] at e1
      exact ⟨_, ns, rfl, SqL.of (st.g _ _ e1), hne, fun m h1 h2 => k _ H G (Ext.refl _ _) (st.push (by rw [maxL_spec h1 h2]; exact .int _))⟩⟩) (ex_arg1 h hs) (by decide +kernel) (by decide +kernel) hg (he := hs)
theorem ex_minL [Bt c] {ns : List Int} (h : EX c e S (.val (eL PyData.int ns)) S1) (hne : 0 < ns.length) (hg : GlC c "min" := by rfl) (hs : ∀ env, starEach [e] env = (false, eval e env) :: starEach [] env := by intro _; rfl) : EX c (.Call (.Name "min" p) [e] [] pos) S (.val (.int (minL ns))) S1 :=
  ex_callB (fun X hX => ⟨_, cr_min hX.calm, vra1 fun B G H S σ x Q st r k => by
    cases r with
    | lst e1 zz rv =>
      rw [rv.of_ints] at e1
      exact ⟨_, ns, rfl, SqL.of (st.g _ _ e1), hne, fun m h1 h2 => k _ H G (Ext.refl _ _) (st.push (by rw [minL_spec h1 h2]; exact .int _))⟩⟩) (ex_arg1 h hs) (by decide +kernel) (by decide +kernel) hg (he := hs)
theorem ex_all [Bt c] {bs : List Bool} (h : EX c e S (.val (eL PyData.bool bs)) S1) (hg : GlC c "all" := by rfl) (hs : ∀ env, starEach [e] env = (false, eval e env) :: starEach [] env := by intro _; rfl) : EX c (.Call (.Name "all" p) [e] [] pos) S (.val (.bool (bs.all id))) S1 :=
  ex_callB (fun X hX => ⟨_, cr_all hX.calm, vra1 fun B G H S σ x Q st r k => by
    cases r with
    | lst e1 zz rv =>
      rw [rv.of_bools] at e1
      exact ⟨_, bs, rfl, SqL.of (st.g _ _ e1), k _ H G (Ext.refl _ _) (st.push (.bl _))⟩⟩) (ex_arg1 h hs) (by decide +kernel) (by decide +kernel) hg (he := hs)
theorem ex_any [Bt c] {bs : List Bool} (h : EX c e S (.val (eL PyData.bool bs)) S1) (hg : GlC c "any" := by rfl) (hs : ∀ env, starEach [e] env = (false, eval e env) :: starEach [] env := by intro _; rfl) : EX c (.Call (.Name "any" p) [e] [] pos) S (.val (.bool (bs.any id))) S1 :=
  ex_callB (fun X hX => ⟨_, cr_any hX.calm, vra1 fun B G H S σ x Q st r k => by
    cases r with
    | lst e1 zz rv =>
      rw [rv.of_bools] at e1
      exact ⟨_, bs, rfl, SqL.of (st.g _ _ e1), k _ H G (Ext.refl _ _) (st.push (.bl _))⟩⟩) (ex_arg1 h hs) (by decide +kernel) (by decide +kernel) hg (he := hs)
theorem ex_abs [Bt c] (h : EX c e S (.val (.int i)) S1) (hg : GlC c "abs" := by rfl) (hs : ∀ env, starEach [e] env = (false, eval e env) :: starEach [] env := by intro _; rfl) : EX c (.Call (.Name "abs" p) [e] [] pos) S (.val (.int (if i < 0 then -i else i))) S1 :=
  ex_callB (fun X hX => ⟨_, call_abs, vra1 fun B G H S σ x Q st r k => by
    cases r
    exact ⟨i, rfl, k _ H G (Ext.refl _ _) (st.push (.int _))⟩⟩) (ex_arg1 h hs) (by decide +kernel) (by decide +kernel) hg (he := hs)
theorem ex_max2 [Bt c] (ha : EX c a S (.val (.int i)) S1) (hb : EX c b S1 (.val (.int j)) S2) (hg : GlC c "max" := by rfl) (hs : ∀ env, starEach [a, b] env = (false, eval a env) :: starEach [b] env := by intro _; rfl) (hs2 : ∀ env, starEach [b] env = (false, eval b env) :: starEach [] env := by intro _; rfl) : EX c (.Call (.Name "max" p) [a, b] [] pos) S (.val (.int (max i j))) S2 :=
  ex_callB (fun X hX => ⟨_, call_max2 hX.calm, vra2 fun B G H S σ x y Q st r1 r2 k => by
    cases r1; cases r2
    refine ⟨i, j, rfl, k _ H G (Ext.refl _ _) (st.push ?_)⟩
    have : (if j > i then j else i) = max i j := by split <;> omega
    rw [this]; exact .int _⟩) (ax_cons ha (ex_arg1 hb hs2) hs) (by decide +kernel) (by decide +kernel) hg (he := hs) (hpl := fun env pos => by rw [hs2]; rfl)
theorem ex_min2 [Bt c] (ha : EX c a S (.val (.int i)) S1) (hb : EX c b S1 (.val (.int j)) S2) (hg : GlC c "min" := by rfl) (hs : ∀ env, starEach [a, b] env = (false, eval a env) :: starEach [b] env := by intro _; rfl) (hs2 : ∀ env, starEach [b] env = (false, eval b env) :: starEach [] env := by intro _; rfl) : EX c (.Call (.Name "min" p) [a, b] [] pos) S (.val (.int (min i j))) S2 :=
  ex_callB (fun X hX => ⟨_, call_min2 hX.calm, vra2 fun B G H S σ x y Q st r1 r2 k => by
    cases r1; cases r2
    refine ⟨i, j, rfl, k _ H G (Ext.refl _ _) (st.push ?_)⟩
    have : (if j < i then j else i) = min i j := by split <;> omega
    rw [this]; exact .int _⟩) (ax_cons ha (ex_arg1 hb hs2) hs) (by decide +kernel) (by decide +kernel) hg (he := hs) (hpl := fun env pos => by rw [hs2]; rfl)
/-- int(n), int(flag) -/
def b2n (b : Bool) : Int := if b then 1 else 0
theorem ex_intI [Bt c] (h : EX c e S (.val (.int i)) S1) (hg : GlC c "int" := by rfl) (hs : ∀ env, starEach [e] env = (false, eval e env) :: starEach [] env := by intro _; rfl) : EX c (.Call (.Name "int" p) [e] [] pos) S (.val (.int i)) S1 :=
  ex_callTy (fun X hX => ⟨_, call_int1, vra1 fun B G H S σ x Q st r k => by
    cases r
    exact .inl ⟨i, rfl, k _ H G (Ext.refl _ _) (st.push (.int _))⟩⟩) (ex_arg1 h hs) (by decide +kernel) (by decide +kernel) hg (he := hs)
theorem ex_intB [Bt c] {b : Bool} (h : EX c e S (.val (.bool b)) S1) (hg : GlC c "int" := by rfl) (hs : ∀ env, starEach [e] env = (false, eval e env) :: starEach [] env := by intro _; rfl) : EX c (.Call (.Name "int" p) [e] [] pos) S (.val (.int (b2n b))) S1 :=
  ex_callTy (fun X hX => ⟨_, call_int1, vra1 fun B G H S σ x Q st r k => by
    cases r
    exact .inr ⟨b, rfl, k _ H G (Ext.refl _ _) (st.push (.int _))⟩⟩) (ex_arg1 h hs) (by decide +kernel) (by decide +kernel) hg (he := hs)
/-- list(..), tuple(..) of lists and tuples -/
theorem ex_listL [Bt c] (h : EX c e S (.val (eL en xs)) S1) (hg : GlC c "list" := by rfl) (hs : ∀ env, starEach [e] env = (false, eval e env) :: starEach [] env := by intro _; rfl) : EX c (.Call (.Name "list" p) [e] [] pos) S (.lst (xs.map en)) S1 :=
  ex_callTy (fun X hX => ⟨_, call_list_of, vra1 fun B G H S σ x Q st r k => by
    cases r with
    | lst e1 zz rv => exact ⟨_, _, rfl, .inl (SqL.of (st.g _ _ e1)), fun l hl => k _ _ G (Ext.refl _ _) (st.newLst hl rv zz)⟩⟩) (ex_arg1 h hs) (by decide +kernel) (by decide +kernel) hg (he := hs)
theorem ex_listT [Bt c] (h : EX c e S (.val (eT en xs)) S1) (hg : GlC c "list" := by rfl) (hs : ∀ env, starEach [e] env = (false, eval e env) :: starEach [] env := by intro _; rfl) : EX c (.Call (.Name "list" p) [e] [] pos) S (.lst (xs.map en)) S1 :=
  ex_callTy (fun X hX => ⟨_, call_list_of, vra1 fun B G H S σ x Q st r k => by
    cases r with
    | tup e1 zz rv => exact ⟨_, _, rfl, .inr (SqT.of (st.g _ _ e1)), fun l hl => k _ _ G (Ext.refl _ _) (st.newLst hl rv zz)⟩⟩) (ex_arg1 h hs) (by decide +kernel) (by decide +kernel) hg (he := hs)
theorem ex_tupL [Bt c] (h : EX c e S (.val (eL en xs)) S1) (hg : GlC c "tuple" := by rfl) (hs : ∀ env, starEach [e] env = (false, eval e env) :: starEach [] env := by intro _; rfl) : EX c (.Call (.Name "tuple" p) [e] [] pos) S (.val (eT en xs)) S1 :=
  ex_callTy (fun X hX => ⟨_, call_tuple_of, vra1 fun B G H S σ x Q st r k => by
    cases r with
    | lst e1 zz rv => exact ⟨_, _, rfl, .inl ⟨SqL.of (st.g _ _ e1), fun l hl => by
        obtain ⟨G', x', s'⟩ := st.newTup hl rv zz
        exact k _ _ G' x' s'⟩⟩⟩) (ex_arg1 h hs) (by decide +kernel) (by decide +kernel) hg (he := hs)
theorem ex_tupT [Bt c] (h : EX c e S (.val (eT en xs)) S1) (hg : GlC c "tuple" := by rfl) (hs : ∀ env, starEach [e] env = (false, eval e env) :: starEach [] env := by intro _; rfl) : EX c (.Call (.Name "tuple" p) [e] [] pos) S (.val (eT en xs)) S1 :=
  ex_callTy (fun X hX => ⟨_, call_tuple_of, vra1 fun B G H S σ x Q st r k => by
    cases r with
    | tup e1 zz rv => exact ⟨_, _, rfl, .inr ⟨SqT.of (st.g _ _ e1), k _ H G (Ext.refl _ _) (st.push (.tup e1 zz rv))⟩⟩⟩) (ex_arg1 h hs) (by decide +kernel) (by decide +kernel) hg (he := hs)
end
end DL

/-! DL, part h: what a def keeps, told by data; calls. -/
namespace DL
open PySem PySem.Spec PyProof.Rows L2

/-! ### promises, where no repr is under way -/
abbrev SpG := List V → Hp → VK → Prop
structure FnG (P : Program) (w : World) (K : PySem.W.Frag) (mg : Str → Option Value) (base : Heap) (k : Nat) (f : Addr) (fd : FuncData) (ps : List Str) (sp : SpG) : Prop where
  len : ∀ vs H Q, sp vs H Q → vs.length = ps.length
  run : ∀ (A : Around) (outer : List Env) (s : Shared) (H : Hp) (args : Args) (us : List Value) (vs : List V) (Q : VK), Room k A → A.guards = some [] → Env0 P w K mg base A outer s H → BindsTo s fd args (ps.zip us) → Vals vs us → sp vs H Q →
    codeAny (model P w) A (.call (.ref f) args) (CR CX0 outer P w H s Q E0) s
section
variable {P : Program} {w : World} {K : PySem.W.Frag} {mg : Str → Option Value} {base : Heap} {x qual : Str} {params : Arguments} {body : List Stmt} {scope : Scope} {f : Addr} {fd : FuncData}
theorem FnG.mono {j k : Nat} {ps : List Str} {sp : SpG} (F : FnG P w K mg base j f fd ps sp) (h : j ≤ k) : FnG P w K mg base k f fd ps sp :=
  ⟨F.len, fun A outer s H args us vs Q hr => F.run A outer s H args us vs Q (hr.mono h)⟩
/-- a def keeps its promise by its body -/
theorem fnG_of {N ps : List Str} {k : Nat} {sp : SpG} (F : FunD K x qual params body scope [] [] f fd) (S : FnScope N ps scope) (len : ∀ vs H Q, sp vs H Q → vs.length = ps.length)
    (hbody : ∀ (cdv : Value) (A : Around) (outer : List Env) (s : Shared) (H : Hp) (vs : List V) (Q : VK), Room k (A.deeper (envOfC qual scope s.heap.objs.size f cdv)) → A.guards = some [] → sp vs H Q →
      ∃ t, PSs (cxOf CX0 P w K mg base N qual scope f cdv A outer s H E0).nox body t ∧ t { nx := fun _ H' => Q .non H', rt := Q } (L2.start N vs) H) : FnG P w K mg base (k + 1) f fd ps sp := by
  obtain ⟨oc, od, dV, kV, doc, pm, an, cdv, ct, osl, rfl, lk, hcd, _, _⟩ := F.ex
  constructor
  · exact len
  intro A outer s H args us vs Q hr hg e0 hb r hsp
  have heapK : K.In s.heap := e0.mod.kin.keeps fun b o q => (e0.bs b o q).1
  have noLim : s.heap.NoLimit := e0.mod.nolimit.keeps fun b o q => (e0.bs b o q).1
  have kinds : ∀ y ∈ ps.zip us, scope.names.lookup y.1 = some .local ∨ (scope.names.lookup y.1 = some .cell ∧ ((cellsFrom (s.heap.objs.size + 1) scope.names []).lookup y.1).isSome = true) := by
    rintro ⟨n, v⟩ hy
    have := S.par n (List.of_mem_zip hy).1
    exact this.imp id fun q => ⟨q, PySem.W.cellsFrom_some _ _ _ (.inl q)⟩
  obtain ⟨t, ht, hq⟩ := hbody cdv A outer s H vs Q (hr.deeper _) hg hsp
  apply codeAny_call_function hr.depth (heapK _ _ lk) rfl S.co S.gen rfl (PySem.W.codeRec_of heapK hcd)
  apply hb
  apply wpAny_newFunctionEnv_cells S.kind kinds
  intro env he s1 q1
  subst he
  have start0 : Inv (cxOf CX0 P w K mg base N qual scope f cdv A outer s H E0) [] (L2.start N vs) H s1 := inv_start S hr.hd e0 (len _ _ _ hsp) r q1
  have ends : ∀ {σ' : L2.St} {H' : Hp} {v : V} {u : Value} {s' : Shared}, Inv (cxOf CX0 P w K mg base N qual scope f cdv A outer s H E0) [] σ' H' s' → RelV v u → Q v H' → CE outer P w H s Q u s' :=
    fun {_ H' v _ _} J rv q => ⟨v, H', J.os, J.bare, J.base, J.hok, rv, q⟩
  refine ⟨noLim.keeps q1.toInCall.keep, codeAny_func ?_⟩
  apply wpAny_mono (ht.nox.run [] s1 (L2.start N vs) H _ start0 hq)
  · intro fl s' hs
    cases fl with
    | brk => obtain ⟨_, _, _, q⟩ := hs; exact q.elim
    | cont => obtain ⟨_, _, _, q⟩ := hs; exact q.elim
    | next => obtain ⟨_, _, J, q⟩ := hs; exact ends (v := V.non) (u := Value.none) J rfl q
    | ret u => obtain ⟨_, _, _, J, rv, q⟩ := hs; exact ends J rv q
  · intro e s' hs
    exact hs
end
/-- a def that may be called by its name -/
structure Callee (P : Program) (w : World) (K : PySem.W.Frag) (mg : Str → Option Value) (base : Heap) (x : Str) (k : Nat) (ps : List Str) (sp : SpG) : Prop where
  ex : ∃ f fd, mg x = some (.ref f) ∧ PySem.W.keepIn K (.ref f) = true ∧ Binds K fd ps [] ∧ FnG P w K mg base k f fd ps sp

/-! ### states put together -/
section
variable {B G H : Hp} {S : List SV} {σ : L2.St} {w : SV} {x : Option V}
theorem Stt.pad (h : Stt B G H S σ) (n : Nat) : Stt B G H (S ++ List.replicate n SV.un) (σ ++ List.replicate n none) := by
  obtain ⟨fp, o, z, dj, fr⟩ := h.own
  refine ⟨h.g, h.b, by simp [h.len], fp, fun i u y e1 e2 => ?_, fun i hi => z i (by simp at hi; omega), dj, fr⟩
  by_cases hi : i < S.length
  · rw [List.getElem?_append_left hi] at e1
    rw [List.getElem?_append_left (by rw [← h.len]; exact hi)] at e2
    exact o i u y e1 e2
  · rw [List.getElem?_append_right (by omega), List.getElem?_replicate] at e1
    split at e1
    · cases e1
      exact z i (by omega)
    · cases e1
theorem Stt.mk0 (g : Same G H) (b : Same B H) : Stt B G H [] [] := ⟨g, b, rfl, fun _ => [], fun i u y e1 => by simp at e1, fun _ _ => rfl, fun _ _ _ q => absurd q (by simp), fun _ _ q => absurd q (by simp)⟩
/-- the head alone, data behind it -/
theorem Stt.headOn (h : Stt B G H (w :: S) (x :: σ)) : Stt B G H [w] [x] := by
  obtain ⟨fp, o, z, dj, fr⟩ := h.own
  refine ⟨h.g, h.b, rfl, fun i => if i = 0 then fp 0 else [], fun i u y e1 e2 => ?_, fun i hi => if_neg (by simp at hi; omega), fun i j a h1 h2 => ?_, fun i a ha => ?_⟩
  · cases i with
    | zero => exact o 0 u y (by simpa using e1) (by simpa using e2)
    | succ i => simp at e1
  · by_cases hi : i = 0 <;> by_cases hj : j = 0
    · rw [hi, hj]
    · simp [hj] at h2
    · simp [hi] at h1
    · simp [hi] at h1
  · by_cases hi : i = 0
    · simp only [hi, if_true] at ha; exact fr 0 a ha
    · simp [hi] at ha
theorem Stt.head2 {w2 : SV} {x2 : Option V} (h : Stt B G H (w :: w2 :: S) (x :: x2 :: σ)) : Stt B G H [w, w2] [x, x2] := by
  obtain ⟨B1, s1, back⟩ := h.bracket
  exact (back G H _ _ (Ext.refl _ _) s1.headOn).2
/-- behind a call that leaves all as it was: what it hands back stands beside what stood -/
theorem Stt.join {B1 G1 H1 : Hp} (h : Stt B G H S σ) (h1 : Stt B1 G1 H1 [w] [x]) (e : Ext B1 G G1) (k : ∀ a u, H a = some u → B1 a = some u) : Ext B G G1 ∧ Stt B G1 H1 (w :: S) (x :: σ) := by
  obtain ⟨fp, o, z, dj, fr⟩ := h.own
  obtain ⟨fp1, o1, z1, dj1, fr1⟩ := h1.own
  have kH : Same H H1 := fun a u q => h1.b a u (k a u q)
  have off : ∀ i a, a ∈ fp i → ∃ u, H a = some u ∧ isTup u = false := fun i a ha => by
    have hl : i < S.length := by
      apply Classical.byContradiction
      intro hn
      rw [z i (by omega)] at ha
      cases ha
    exact (o i _ _ (List.getElem?_eq_getElem hl) (List.getElem?_eq_getElem (by rw [← h.len]; exact hl))).there a ha
  have nB : ∀ a, B1 a = none → H a = none := fun a q => by
    cases q2 : H a with
    | none => rfl
    | some u => rw [k a u q2] at q; cases q
  have xx : Ext B G G1 := ⟨e.1, fun a u q1 q2 => by
    rcases e.2 a u q1 q2 with q | q
    · exact .inl (h.b.free (nB a q))
    · exact .inr q⟩
  refine ⟨xx, h1.g, h.b.trans kH, by simp [h.len], fun i => match i with | 0 => fp1 0 | j + 1 => fp j, fun i u y e1 e2 => ?_, fun i hi => ?_, fun i j a q1 q2 => ?_, fun i a ha => ?_⟩
  · cases i with
    | zero => exact o1 0 u y (by simpa using e1) (by simpa using e2)
    | succ i =>
      refine (o i u y (by simpa using e1) (by simpa using e2)).mono e.1 fun a ha => ?_
      obtain ⟨u', e', _⟩ := off i a ha
      rw [e', kH a _ e']
  · cases i with
    | zero => simp at hi
    | succ i => exact z i (by simpa using hi)
  · have key : ∀ i a, a ∈ fp1 0 → a ∈ fp i → False := fun i a p1 p2 => by
      obtain ⟨u', e', _⟩ := off i a p2
      rw [nB a (fr1 0 a p1).2] at e'; cases e'
    cases i with
    | zero =>
      cases j with
      | zero => rfl
      | succ j => exact (key j a q1 q2).elim
    | succ i =>
      cases j with
      | zero => exact (key i a q2 q1).elim
      | succ j => rw [dj i j a q1 q2]
  · cases i with
    | zero => exact ⟨(fr1 0 a ha).1, h.b.free (nB a (fr1 0 a ha).2)⟩
    | succ i =>
      refine ⟨?_, (fr i a ha).2⟩
      obtain ⟨u', e', t'⟩ := off i a ha
      cases q : G1 a with
      | none => rfl
      | some u =>
        exfalso
        have q2 := h1.g a u q
        rw [kH a _ e'] at q2
        cases q2
        rcases e.2 a _ (fr i a ha).1 q with q3 | q3
        · rw [nB a q3] at e'; cases e'
        · rw [t'] at q3; cases q3
end

/-! ### a def of data -/
/-- R: the arguments' data, what comes -/
def spP (R : List D → SV → Prop) : SpG := fun vs H Q => ∃ ds w B G, R ds w ∧ Same G H ∧ Same B H ∧ RpA G vs ds ∧ ∀ v H' G', Ext B G G' → Stt B G' H' [w] [some v] → Q v H'
/-- a def whose first argument is the law's source -/
def spS (R : Src → List D → SV → Src → Prop) : SpG := fun us H Q => ∃ p q s vs ds w s' B G, us = .ref p :: vs ∧ R s ds w s' ∧ Stt B G H [SV.src p q s] [some (.ref p)] ∧ RpA G vs ds ∧
  ∀ v H' G', Ext B G G' → Stt B G' H' [w, SV.src p q s'] [some v, some (.ref p)] → Q v H'
section
variable {c : CC} {e : Expr} {es : List Expr} {S S1 : List SV} {w : SV} {pos p : Pos} {ds : List D} {x : Str} {k : Nat} {ps : List Str}
theorem run_G {X : Cx} (hX : c.In X) {f : Addr} {fd : FuncData} {sp : SpG} (F : FnG c.P c.w c.K c.mg c.base k f fd ps sp) (hk : k ≤ c.k) (hb : Binds c.K fd ps []) {pins : List (Addr × Obj)} {σ : L2.St} {H : Hp} {s : Shared} {Q : VK} {us : List Value} {vs : List V}
    (I : Inv X pins σ H s) (r : Vals vs us) (h : sp vs H Q) : wpAny (model X.prog X.w) X.A (call (.ref f) us) (EP X pins σ Q) X.xe s := by
  have hl : us.length = ps.length := by rw [← r.length]; exact F.len _ _ _ h
  have e0 := I.env0
  rw [hX.prog, hX.w, hX.K, hX.mg, hX.base] at e0
  have kin := I.kIn
  rw [hX.K] at kin
  have hb' := hb s us kin (by simpa using hl)
  rw [List.append_nil] at hb'
  rw [hX.prog, hX.w]
  refine wpAny_call (codeAny_mono (F.run X.A X.stack s H ⟨us, []⟩ us vs Q (hX.room.mono hk) hX.gd e0 hb' r h) fun r' s' hq => ?_)
  cases r' with
  | error e => exact hq.elim
  | ok fl =>
    cases fl with
    | ret u =>
      have hq : CE X.stack c.P c.w H s Q u s' := hq
      rw [← hX.prog, ← hX.w] at hq
      exact I.after hq
    | next => exact hq.elim
    | brk => exact hq.elim
    | cont => exact hq.elim
/-- a call of a def of the text -/
theorem pe_G {X : Cx} (hX : c.In X) {sp : SpG} {t : TA} (C : Callee c.P c.w c.K c.mg c.base x k ps sp) (hk : k ≤ c.k) (hg : GlC c x) (ha : PA X (e :: es) t) (hdb : (x == ("__debug__" : Str)) = false) (he : starEach (e :: es) X.env = (false, eval e X.env) :: starEach es X.env)
    (hpl : (backTo pos (starEach es X.env)).any (·.1) = false) : PE X (.Call (.Name x p) (e :: es) [] pos) (fun σ H Q => t σ H fun vs H1 => sp vs H1 Q) := by
  obtain ⟨f, fd, hm, hkp, hb, F⟩ := C.ex
  constructor
  intro pins s σ H Q I h
  refine wpAny_Call_Name_kw (ld_glob (hd := hdb) I (hX.gl hg) (by rw [hX.mg]; exact hm) ?_)
  apply PySem.W.callWith_K (h₀ := X.base) I.ok.mod.kin (by rw [hX.K]; exact hkp) _ he hpl
  exact thn (ha.run pos pins s σ H _ I h) fun us s1 ⟨vs, H1, I1, r, q⟩ => ⟨I1.kIn, run_G hX F hk hb I1 r q⟩
theorem pe_G0 {X : Cx} (hX : c.In X) {sp : SpG} (C : Callee c.P c.w c.K c.mg c.base x k ps sp) (hk : k ≤ c.k) (hg : GlC c x) (hdb : (x == ("__debug__" : Str)) = false) : PE X (.Call (.Name x p) [] [] pos) (fun σ H Q => sp [] H Q) := by
  obtain ⟨f, fd, hm, hkp, hb, F⟩ := C.ex
  constructor
  intro pins s σ H Q I h
  refine wpAny_Call_Name_kw (ld_glob (hd := hdb) I (hX.gl hg) (by rw [hX.mg]; exact hm) ?_)
  exact PySem.W.callWith_K0 I.kIn (by rw [hX.K]; exact hkp) (run_G (us := []) hX F hk hb I .nil h)
theorem ex_call {R : List D → SV → Prop} (C : Callee c.P c.w c.K c.mg c.base x k ps (spP R)) (ha : AV c (e :: es) S ds S1) (hR : R ds w) (hk : k ≤ c.k := by decide) (hg : GlC c x := by rfl) (hdb : (x == ("__debug__" : Str)) = false := by decide)
    (he : ∀ env, starEach (e :: es) env = (false, eval e env) :: starEach es env := by intro _; rfl) (hpl : ∀ env pos, (backTo pos (starEach es env)).any (·.1) = false := by intro _ _; rfl) : EX c (.Call (.Name x p) (e :: es) [] pos) S w S1 := fun X hX =>
  (pe_G hX C hk hg (ha X hX) hdb (he _) (hpl _ _)).wk fun σ H Q ⟨B, G, st, kk⟩ => ⟨B, G, st, fun vs H1 G1 x1 hl s1 => by
    have r := Stt.vals (by simpa using hl) s1
    have s2 := Stt.drops (by simpa using hl.symm) s1
    refine ⟨ds, w, H1, G1, hR, s2.g, Same.refl _, r, fun v H' G' x2 s3 => ?_⟩
    obtain ⟨x4, s4⟩ := s2.join s3 x2 fun a u q => q
    exact kk v H' G' (x1.trans x4) s4⟩
theorem ex_call0 {R : List D → SV → Prop} (C : Callee c.P c.w c.K c.mg c.base x k ps (spP R)) (hR : R [] w) (hk : k ≤ c.k := by decide) (hg : GlC c x := by rfl) (hdb : (x == ("__debug__" : Str)) = false := by decide) : EX c (.Call (.Name x p) [] [] pos) S w S := fun X hX =>
  (pe_G0 hX C hk hg hdb).wk fun σ H Q ⟨B, G, st, kk⟩ => ⟨[], w, H, G, hR, st.g, Same.refl _, .nil, fun v H' G' x2 s3 => by
    obtain ⟨x4, s4⟩ := st.join s3 x2 fun a u q => q
    exact kk v H' G' x4 s4⟩
/-- a call with the source ahead -/
theorem ex_callS {R : Src → List D → SV → Src → Prop} {i : Nat} {pa qa : Addr} {s s' : Src} {y : Str} {py : Pos} (C : Callee c.P c.w c.K c.mg c.base x k ps (spS R)) (hN : c.N[i]? = some y) (hv : Vis c.sc y) (ha : AV c es S ds S1) (hs : S1[i]? = some (SV.src pa qa s)) (hs0 : ∃ s0, S[i]? = some (SV.src pa qa s0)) (hR : R s ds w s') (hk : k ≤ c.k := by decide) (hg : GlC c x := by rfl) (hdb : (x == ("__debug__" : Str)) = false := by decide)
    (hyd : (y == ("__debug__" : Str)) = false := by decide) (hyc : (y == ("__classdict__" : Str)) = false := by decide) (hpl : ∀ env pos, (backTo pos (starEach es env)).any (·.1) = false := by intro _ _; rfl) : EX c (.Call (.Name x p) (.Name y py :: es) [] pos) S w (S1.set i (SV.src pa qa s')) := fun X hX =>
  (pe_G hX C hk hg (pa_cons (pe_var (i := i) (by rw [hX.N]; exact hN) (by rw [hX.sc]; exact hv) hyd hyc) (ha X hX) rfl) hdb rfl (hpl _ _)).wk fun σ H Q ⟨B, G, st, kk⟩ => by
    obtain ⟨s0, e0⟩ := hs0
    obtain ⟨y0, ey0⟩ := st.at e0
    obtain ⟨fp0, o0, _⟩ := id st.own
    obtain ⟨rfl, _⟩ := o0 i _ y0 e0 ey0
    refine ⟨.ref pa, ey0, B, G, st, fun vs H1 G1 x1 hl s1 => ?_⟩
    have r := Stt.vals (by simpa using hl) s1
    have s2 := Stt.drops (by simpa using hl.symm) s1
    obtain ⟨fp, o, z, dj, fr⟩ := id s2.own
    have oi := o i _ _ hs ey0
    obtain ⟨_, ef, ne, ep, eq⟩ := oi
    have fri : ∀ a ∈ [pa, qa], G1 a = none ∧ B a = none := fun a ha => fr i a (by rw [ef]; exact ha)
    have hi : i < S1.length := (List.getElem?_eq_some_iff.mp hs).1
    refine ⟨pa, qa, s, vs, ds, w, s', fun a => if a ∈ [pa, qa] then none else H1 a, G1, rfl, hR, ⟨s2.g, fun a u q => ?_, rfl, fun j => if j = 0 then [pa, qa] else [], fun j u y e1 e2 => ?_, fun j hj => if_neg (by simp at hj; omega), fun j l a q1 q2 => ?_, fun j a ha => ?_⟩, r, fun v H' G' x2 s3 => ?_⟩
    · by_cases h : a ∈ [pa, qa]
      · simp only [if_pos h] at q; cases q
      · simp only [if_neg h] at q; exact q
    · cases j with
      | zero =>
        have e1 : SV.src pa qa s = u := by simpa using e1
        have e2 : some (V.ref pa) = y := by simpa using e2
        subst e1; subst e2
        exact ⟨rfl, rfl, ne, ep, eq⟩
      | succ j => simp at e1
    · by_cases hj : j = 0 <;> by_cases hl' : l = 0
      · rw [hj, hl']
      · simp [hl'] at q2
      · simp [hj] at q1
      · simp [hj] at q1
    · by_cases hj : j = 0
      · simp only [hj, if_true] at ha
        exact ⟨(fri a ha).1, by simp only [if_pos ha]⟩
      · simp [hj] at ha
    · -- behind the call: the source has turned, all else stands
      obtain ⟨fp3, o3, z3, dj3, fr3⟩ := id s3.own
      obtain ⟨_, ef3, _, ep3, eq3⟩ := o3 1 _ _ rfl rfl
      have hB : ∀ a u, a ∉ [pa, qa] → H1 a = some u → H' a = some u := fun a u h1 h2 => s3.b a u (by simp only [if_neg h1]; exact h2)
      have gn : ∀ a ∈ [pa, qa], G' a = none := fun a ha => (fr3 1 a (by rw [ef3]; exact ha)).1
      -- first the source's slot
      generalize hHm : (fun a => if a ∈ [pa, qa] then H' a else H1 a : Hp) = Hm
      have m1 : ∀ a, a ∈ [pa, qa] → Hm a = H' a := fun a h => by rw [← hHm]; exact if_pos h
      have m2 : ∀ a, a ∉ [pa, qa] → Hm a = H1 a := fun a h => by rw [← hHm]; exact if_neg h
      have s4 : Stt B G1 Hm (S1.set i (SV.src pa qa s')) σ := by
        refine s2.chg hs ey0 (Same.refl _) (fun a u q => ?_) fun f of ff => ⟨[pa, qa], ⟨rfl, rfl, ne, ?_, ?_⟩, fun a ha => ?_, fun a ha _ => ?_, fun a u _ q1 q2 => by rw [q1] at q2; cases q2⟩
        · have : a ∉ [pa, qa] := fun ha => by rw [(fri a ha).1] at q; cases q
          rw [m2 a this]
          exact s2.g a u q
        · rw [m1 pa (by simp)]; exact ep3
        · rw [m1 qa (by simp)]; exact eq3
        · obtain ⟨_, ef', _⟩ := of
          rw [ef']
          exact ⟨.inl ha, (fri a ha).1⟩
        · obtain ⟨_, ef', _⟩ := of
          rw [ef'] at ha
          exact m2 a ha
      -- then what has come
      have nf : ∀ a, a ∈ fp3 0 → a ∉ [pa, qa] := fun a h1 h2 => by
        have := dj3 0 1 a h1 (by rw [ef3]; exact h2)
        cases this
      have s5 : Stt Hm G' H' [w] [some v] := by
        refine ⟨s3.g, fun a u q => ?_, rfl, fun j => if j = 0 then fp3 0 else [], fun j u y e1 e2 => ?_, fun j hj => if_neg (by simp at hj; omega), fun j l a q1 q2 => ?_, fun j a ha => ?_⟩
        · by_cases h : a ∈ [pa, qa]
          · rw [m1 a h] at q; exact q
          · rw [m2 a h] at q; exact hB a u h q
        · cases j with
          | zero => exact o3 0 u y (by simpa using e1) (by simpa using e2)
          | succ j => simp at e1
        · by_cases hj : j = 0 <;> by_cases hl' : l = 0
          · rw [hj, hl']
          · simp [hl'] at q2
          · simp [hj] at q1
          · simp [hj] at q1
        · by_cases hj : j = 0
          · simp only [hj, if_true] at ha
            obtain ⟨g3, b3⟩ := fr3 0 a ha
            have h := nf a ha
            simp only [if_neg h] at b3
            exact ⟨g3, by rw [m2 a h]; exact b3⟩
          · simp [hj] at ha
      have x7 : Ext Hm G1 G' := ⟨x2.1, fun a u q1 q2 => by
        by_cases h : a ∈ [pa, qa]
        · rw [gn a h] at q2; cases q2
        · rcases x2.2 a u q1 q2 with q | q
          · simp only [if_neg h] at q
            exact .inl (by rw [m2 a h]; exact q)
          · exact .inr q⟩
      obtain ⟨x8, s8⟩ := s4.join s5 x7 fun a u q => q
      exact kk v H' G' (x1.trans x8) s8
end

/-! ### a def's body -/
section
variable {P : Program} {w : World} {K : PySem.W.Frag} {mg : Str → Option Value} {base : Heap}
abbrev dC (P : Program) (w : World) (K : PySem.W.Frag) (mg : Str → Option Value) (base : Heap) (N : List Str) (sc : Scope) (k : Nat) : CC := ⟨P, w, K, mg, base, N, sc, sc, k⟩
theorem in_def {N : List Str} {qual : Str} {scope : Scope} {f : Addr} {cdv : Value} {A : Around} {outer : List Env} {s : Shared} {H : Hp} {k : Nat} (hr : Room k (A.deeper (envOfC qual scope s.heap.objs.size f cdv))) (hg : A.guards = some []) :
    (dC P w K mg base N scope k).In (cxOf CX0 P w K mg base N qual scope f cdv A outer s H E0).nox where
  prog := rfl
  w := rfl
  K := rfl
  mg := rfl
  base := rfl
  N := rfl
  sc := rfl
  calm := rfl
  room := hr
  gd := hg
  xe := rfl
  loc := fun x hx => ⟨hx, .inl rfl⟩
theorem Stt.backOn {B G H : Hp} {S : List SV} {σ : L2.St} {w1 w2 : SV} {x1 x2 : Option V} (h : Stt B G H (w1 :: w2 :: S) (x1 :: x2 :: σ)) : Stt B G H [w1, w2] [x1, x2] := h.head2
/-- a def of data: R tells what it hands back -/
theorem ok_P {x qual : Str} {params : Arguments} {body : List Stmt} {scope : Scope} {f : Addr} {fd : FuncData} {N ps : List Str} {k : Nat} {R : List D → SV → Prop} (F : FunD K x qual params body scope [] [] f fd) (S : FnScope N ps scope) (hlen : ∀ ds v, R ds v → ds.length = ps.length)
    (h : ∀ ds v, R ds v → WS (dC P w K mg base N scope k) body (ds.map SV.val ++ List.replicate (N.length - ds.length) SV.un) fun o => ∃ S', o = .rt v S') : FnG P w K mg base (k + 1) f fd ps (spP R) := by
  refine fnG_of F S (fun vs H Q ⟨ds, v, B, G, hR, _, _, r, _⟩ => by rw [r.length]; exact hlen ds v hR) fun cdv A outer s H vs Q hr hg ⟨ds, v, B, G, hR, g, b, r, kk⟩ => ?_
  refine ⟨_, h ds v hR _ (in_def hr hg), B, G, ?_, ⟨fun S' G' σ' H' p _ _ => ?_, fun w' S' v' G' σ' H' p x s' => ?_, fun S' G' σ' H' p _ _ => ?_, fun S' G' σ' H' p _ _ => ?_⟩⟩
  · unfold L2.start
    rw [r.length]
    have s0 : Stt B G H (ds.map SV.val ++ []) (vs.map some ++ []) := Stt.pushes r (Stt.mk0 g b)
    rw [List.append_nil, List.append_nil] at s0
    exact s0.pad _
  · obtain ⟨_, e⟩ := p; cases e
  · obtain ⟨_, e⟩ := p
    cases e
    exact kk v' H' G' x s'.headOn
  · obtain ⟨_, e⟩ := p; cases e
  · obtain ⟨_, e⟩ := p; cases e
/-- a def whose first argument is the source, kept in slot 0 -/
theorem ok_S {x qual : Str} {params : Arguments} {body : List Stmt} {scope : Scope} {f : Addr} {fd : FuncData} {N ps : List Str} {k : Nat} {R : Src → List D → SV → Src → Prop} (F : FunD K x qual params body scope [] [] f fd) (S : FnScope N ps scope) (hlen : ∀ s ds v s', R s ds v s' → ds.length + 1 = ps.length)
    (h : ∀ p q s ds v s', R s ds v s' → WS (dC P w K mg base N scope k) body (SV.src p q s :: (ds.map SV.val ++ List.replicate (N.length - (ds.length + 1)) SV.un)) fun o => ∃ S', o = .rt v (SV.src p q s' :: S')) : FnG P w K mg base (k + 1) f fd ps (spS R) := by
  refine fnG_of F S (fun us H Q ⟨p, q, s, vs, ds, v, s', B, G, e, hR, _, r, _⟩ => by rw [e, List.length_cons, r.length]; exact hlen s ds v s' hR) fun cdv A outer sh H us Q hr hg ⟨p, q, s, vs, ds, v, s', B, G, e, hR, st, r, kk⟩ => ?_
  subst e
  refine ⟨_, h p q s ds v s' hR _ (in_def hr hg), B, G, ?_, ⟨fun S' G' σ' H' p _ _ => ?_, fun w' S' v' G' σ' H' pp x st' => ?_, fun S' G' σ' H' p _ _ => ?_, fun S' G' σ' H' p _ _ => ?_⟩⟩
  · unfold L2.start
    have s1 : Stt B G H (ds.map SV.val ++ [SV.src p q s]) (vs.map some ++ [some (.ref p)]) := Stt.pushes r st
    have s2 : Stt B G H (SV.src p q s :: (ds.map SV.val)) (some (.ref p) :: vs.map some) := by
      have rev : ∀ (ds : List D) (vs : List V), RpA G vs ds → Stt B G H (ds.map SV.val ++ [SV.src p q s]) (vs.map some ++ [some (.ref p)]) → Stt B G H (SV.src p q s :: (ds.map SV.val)) (some (.ref p) :: vs.map some) := by
        intro ds
        induction ds with
        | nil => intro vs r st; cases r; exact st
        | cons d ds ih =>
          intro vs r st
          cases r with
          | cons a b =>
            have st0 := Stt.tail (S := ds.map SV.val ++ [SV.src p q s]) (σ := _ ++ [some (V.ref p)]) st
            exact Stt.swap (S := ds.map SV.val) ((ih _ b st0).push a)
      exact rev ds vs r s1
    have s3 := s2.pad (N.length - (ds.length + 1))
    rw [List.map_cons, List.length_cons, r.length]
    exact s3
  · obtain ⟨_, e⟩ := p; cases e
  · obtain ⟨_, e⟩ := pp
    cases e
    have hl := st'.len
    match σ', hl with
    | y :: σ', _ =>
      obtain ⟨fp, o, _⟩ := id st'.own
      obtain ⟨rfl, _⟩ := o 1 _ y rfl rfl
      exact kk v' H' G' x st'.head2
  · obtain ⟨_, e⟩ := p; cases e
  · obtain ⟨_, e⟩ := p; cases e
end
end DL

/-! DL, part i: comprehensions and loops over typed lists, told as maps and folds. -/
namespace DL
open PySem PySem.Spec PyProof.Rows L2
section
variable {c : CC} {tg iter elt t : Expr} {ifs : List Expr} {scope : Scope} {S S0 : List SV} {pos : Pos} {α β : Type} {en : α → D} {em : β → D} {xs : List α} {vs : List Nat}
theorem map_get {i : Nat} {d : D} (h : (xs.map en)[i]? = some d) : ∃ x, xs[i]? = some x ∧ d = en x := by
  rw [List.getElem?_map] at h
  cases e : xs[i]? with
  | none => rw [e] at h; cases h
  | some x => rw [e] at h; cases h; exact ⟨x, rfl, rfl⟩
theorem take_succ {i : Nat} {x : α} (h : xs[i]? = some x) : xs.take (i + 1) = xs.take i ++ [x] := by
  rw [List.take_add_one, h]; rfl
/-- [f x for x in xs if p x] whose parts change nothing -/
structure PureLc (cb : CC) (tg elt : Expr) (ifs : List Expr) (vs : List Nat) (Sw : List SV) (en : α → D) (em : β → D) (S3 : α → List SV) (p : α → Bool) (f : α → β) (x : α) : Prop where
  g : GX cb tg vs Sw (.val (en x)) (S3 x)
  t : TsX cb ifs (S3 x) (p x) (S3 x)
  e : p x = true → EX cb elt (S3 x) (.val (em (f x))) (S3 x)
theorem pure_turn {Sw : List SV} {S3 : α → List SV} {p : α → Bool} {f : α → β} (hw : ∀ x, wipeS (S3 x) vs = Sw) (h : ∀ x ∈ xs, PureLc (c.blk scope) tg elt ifs vs Sw en em S3 p f x) :
    ∀ i d acc S, (xs.map en)[i]? = some d → acc.length ≤ i → (acc = (((xs.take i).filter p).map f).map em ∧ S = Sw) → TurnL (c.blk scope) tg elt ifs vs (fun i acc S => acc = (((xs.take i).filter p).map f).map em ∧ S = Sw) i d acc S := by
  rintro i d acc S hd _ ⟨rfl, rfl⟩
  obtain ⟨x, hx, rfl⟩ := map_get hd
  have hq := h x (List.mem_of_getElem? hx)
  refine ⟨S3 x, hq.g, p x, S3 x, hq.t, fun hp => ⟨em (f x), S3 x, hq.e hp, _, (hw x).symm ▸ Imp.refl _, ?_, rfl⟩, fun hp => ⟨_, (hw x).symm ▸ Imp.refl _, ?_, rfl⟩⟩
  · rw [take_succ hx, List.filter_append, List.map_append, List.map_append]
    simp [hp]
  · rw [take_succ hx, List.filter_append, List.map_append, List.map_append]
    simp [hp]
theorem ex_lcP {own : List (Str × Nat)} {Sw : List SV} {S3 : α → List SV} {p : α → Bool} {f : α → β} (nd : c.N.Nodup) (ok : BlkOk c.N c.sc scope own) (hi : IX c tg iter S (xs.map en) S0) (h : ∀ x ∈ xs, PureLc (c.blk scope) tg elt ifs (own.map (·.2)) Sw en em S3 p f x)
    (hS : wipeS S0 (own.map (·.2)) = Sw := by rfl) (hw : ∀ x, wipeS (S3 x) (own.map (·.2)) = Sw := by intro _; rfl) (hs : ∀ env x, foldedSetIterable iter env x = pure x := by intro _ _; rfl) : EX c (.ListComp elt [⟨tg, iter, ifs, 0⟩] scope pos) S (.lst (((xs.filter p).map f).map em)) (unwipe S0 Sw (own.map (·.2))) :=
  ex_lc (fun i acc S => acc = (((xs.take i).filter p).map f).map em ∧ S = Sw) nd ok hi ⟨Sw, by rw [hS]; exact Imp.refl _, by simp, rfl⟩ (pure_turn hw h) (fun acc S ⟨e1, e2⟩ => ⟨by rw [e1, List.length_map, List.take_length], e2⟩) hs
/-- without a test -/
theorem ex_lcM {own : List (Str × Nat)} {Sw : List SV} {S3 : α → List SV} {f : α → β} (nd : c.N.Nodup) (ok : BlkOk c.N c.sc scope own) (hi : IX c tg iter S (xs.map en) S0) (hg : ∀ x ∈ xs, GX (c.blk scope) tg (own.map (·.2)) Sw (.val (en x)) (S3 x)) (he : ∀ x ∈ xs, EX (c.blk scope) elt (S3 x) (.val (em (f x))) (S3 x))
    (hS : wipeS S0 (own.map (·.2)) = Sw := by rfl) (hw : ∀ x, wipeS (S3 x) (own.map (·.2)) = Sw := by intro _; rfl) (hs : ∀ env x, foldedSetIterable iter env x = pure x := by intro _ _; rfl) : EX c (.ListComp elt [⟨tg, iter, [], 0⟩] scope pos) S (.lst ((xs.map f).map em)) (unwipe S0 Sw (own.map (·.2))) := by
  have := ex_lcP (c := c) (ifs := []) (p := fun _ => true) (pos := pos) (xs := xs) (f := f) nd ok hi (fun x hx => ⟨hg x hx, show TsX _ [] _ _ _ from ⟨rfl, rfl⟩, fun _ => he x hx⟩) hS hw hs
  rwa [show xs.filter (fun _ => true) = xs from List.filter_eq_self.mpr fun _ _ => rfl] at this
theorem w1_lcP {own : List (Str × Nat)} {Sw : List SV} {S3 : α → List SV} {p : α → Bool} {f : α → β} {j : Nat} {y : Str} {py spos : Pos} (nd : c.N.Nodup) (ok : BlkOk c.N c.sc scope own) (hi : IX c tg iter S (xs.map en) S0) (h : ∀ x ∈ xs, PureLc (c.blk scope) tg elt ifs (own.map (·.2)) Sw en em S3 p f x)
    (hS : wipeS S0 (own.map (·.2)) = Sw := by rfl) (hw : ∀ x, wipeS (S3 x) (own.map (·.2)) = Sw := by intro _; rfl)
    (hy : c.N[j]? = some y := by rfl) (hyl : c.sc.names.lookup y = some .local := by rfl) (hl : (py.line == pos.line) = true := by rfl) (hll : (pos.line == spos.line) = true := by rfl) (hown : (scope.names.any fun (n, k) => n == y && (k == .local || k == .cell)) = false := by decide +kernel) (hj : j < (unwipe S0 Sw (own.map (·.2))).length := by decide)
    (hk : c.sc.kind = .function := by rfl) (hs : ∀ env x, foldedSetIterable iter env x = pure x := by intro _ _; rfl) :
    W1 c (.Assign [.Name y py] (.ListComp elt [⟨tg, iter, ifs, 0⟩] scope pos) spos) S fun o => o = .nx ((unwipe S0 Sw (own.map (·.2))).set j (.lst (((xs.filter p).map f).map em))) :=
  w1_setLc (fun i acc S => acc = (((xs.take i).filter p).map f).map em ∧ S = Sw) nd ok hi ⟨Sw, by rw [hS]; exact Imp.refl _, by simp, rfl⟩ (pure_turn hw h) (fun acc S ⟨e1, e2⟩ => ⟨by rw [e1, List.length_map, List.take_length], e2⟩) hy hyl hl hll hown hj hk hs
theorem w1_lcM {own : List (Str × Nat)} {Sw : List SV} {S3 : α → List SV} {f : α → β} {j : Nat} {y : Str} {py spos : Pos} (nd : c.N.Nodup) (ok : BlkOk c.N c.sc scope own) (hi : IX c tg iter S (xs.map en) S0) (hg : ∀ x ∈ xs, GX (c.blk scope) tg (own.map (·.2)) Sw (.val (en x)) (S3 x)) (he : ∀ x ∈ xs, EX (c.blk scope) elt (S3 x) (.val (em (f x))) (S3 x))
    (hS : wipeS S0 (own.map (·.2)) = Sw := by rfl) (hw : ∀ x, wipeS (S3 x) (own.map (·.2)) = Sw := by intro _; rfl)
    (hy : c.N[j]? = some y := by rfl) (hyl : c.sc.names.lookup y = some .local := by rfl) (hl : (py.line == pos.line) = true := by rfl) (hll : (pos.line == spos.line) = true := by rfl) (hown : (scope.names.any fun (n, k) => n == y && (k == .local || k == .cell)) = false := by decide +kernel) (hj : j < (unwipe S0 Sw (own.map (·.2))).length := by decide)
    (hk : c.sc.kind = .function := by rfl) (hs : ∀ env x, foldedSetIterable iter env x = pure x := by intro _ _; rfl) :
    W1 c (.Assign [.Name y py] (.ListComp elt [⟨tg, iter, [], 0⟩] scope pos) spos) S fun o => o = .nx ((unwipe S0 Sw (own.map (·.2))).set j (.lst ((xs.map f).map em))) := by
  have := w1_lcP (c := c) (ifs := []) (p := fun _ => true) (pos := pos) (y := y) (py := py) (spos := spos) (xs := xs) (f := f) nd ok hi (fun x hx => ⟨hg x hx, show TsX _ [] _ _ _ from ⟨rfl, rfl⟩, fun _ => he x hx⟩) hS hw hy hyl hl hll hown hj hk hs
  rwa [show xs.filter (fun _ => true) = xs from List.filter_eq_self.mpr fun _ _ => rfl] at this
end

/-! ### loops as folds -/
section
variable {α σ ρ : Type}
/-- what must hold at each turn of a fold -/
def LOk (f : σ → α → σ) (ok : σ → α → Prop) : σ → List α → Prop
  | _, [] => True
  | s, x :: xs => ok s x ∧ LOk f ok (f s x) xs
theorem LOk.at {f : σ → α → σ} {ok : σ → α → Prop} : ∀ {xs : List α} {s : σ}, LOk f ok s xs → ∀ {i : Nat} {x : α}, xs[i]? = some x → ok ((xs.take i).foldl f s) x
  | [], _, _, _, _, h => by simp at h
  | y :: xs, s, q, 0, x, h => by
    have : y = x := by simpa using h
    subst this
    exact q.1
  | y :: xs, s, q, i + 1, x, h => q.2.at (i := i) (by simpa using h)
theorem LOk.of_inv {f : σ → α → σ} {ok : σ → α → Prop} (I : σ → Prop) : ∀ {xs : List α} {s : σ}, I s → (∀ s x, x ∈ xs → I s → ok s x ∧ I (f s x)) → LOk f ok s xs
  | [], _, _, _ => trivial
  | x :: xs, s, h, k => ⟨(k s x List.mem_cons_self h).1, LOk.of_inv I (k s x List.mem_cons_self h).2 fun s y hy => k s y (List.mem_cons_of_mem _ hy)⟩
/-- a fold that may be left -/
def foldE (f : σ → α → Except ρ σ) : σ → List α → Except ρ σ
  | s, [] => .ok s
  | s, x :: xs => match f s x with
    | .error r => .error r
    | .ok s' => foldE f s' xs
def LOkE (f : σ → α → Except ρ σ) (ok : σ → α → Prop) : σ → List α → Prop
  | _, [] => True
  | s, x :: xs => ok s x ∧ match f s x with
    | .error _ => True
    | .ok s' => LOkE f ok s' xs
theorem LOkE.of_inv {f : σ → α → Except ρ σ} {ok : σ → α → Prop} (I : σ → Prop) : ∀ {xs : List α} {s : σ}, I s → (∀ s x, x ∈ xs → I s → ok s x ∧ ∀ s', f s x = .ok s' → I s') → LOkE f ok s xs
  | [], _, _, _ => trivial
  | x :: xs, s, h, k => ⟨(k s x List.mem_cons_self h).1, by
    cases e : f s x with
    | error _ => trivial
    | ok s' => exact LOkE.of_inv I ((k s x List.mem_cons_self h).2 s' e) fun s y hy => k s y (List.mem_cons_of_mem _ hy)⟩
/-- a while, n turns at most -/
def whl (c : σ → Bool) (f : σ → σ) : Nat → σ → σ
  | 0, s => s
  | n + 1, s => if c s then whl c f n (f s) else s
def WOk (c : σ → Bool) (f : σ → σ) (okc okb : σ → Prop) : Nat → σ → Prop
  | 0, s => okc s ∧ c s = false
  | n + 1, s => okc s ∧ (c s = true → okb s ∧ WOk c f okc okb n (f s))
/-- a while that may be left by a return -/
def whlE (c : σ → Bool) (f : σ → Except ρ σ) : Nat → σ → Except ρ σ
  | 0, s => .ok s
  | n + 1, s => if c s then (match f s with | .error r => .error r | .ok s' => whlE c f n s') else .ok s
def WOkE (c : σ → Bool) (f : σ → Except ρ σ) (okc okb : σ → Prop) : Nat → σ → Prop
  | 0, s => okc s ∧ c s = false
  | n + 1, s => okc s ∧ (c s = true → okb s ∧ match f s with | .error _ => True | .ok s' => WOkE c f okc okb n s')
end
section
variable {c : CC} {tg iter e : Expr} {body sts : List Stmt} {S S0 : List SV} {pos : Pos} {P : Oc → Prop} {vs : List Nat} {α σ ρ : Type} {en : α → D} {xs : List α}
/-- what a turn that goes on comes to -/
def Nxt (S : List SV) : Oc → Prop
  | .nx S' => Imp S' S
  | .ct S' => Imp S' S
  | _ => False
theorem ws_forF (Sf : σ → List SV) (f : σ → α → σ) (ok : σ → α → Prop) (s0 : σ) (hi : IX c tg iter S (xs.map en) S0) (h0 : Imp S0 (Sf s0)) (hok : LOk f ok s0 xs)
    (hb : ∀ s x, x ∈ xs → ok s x → ∃ S3, GX c tg vs (Sf s) (.val (en x)) S3 ∧ WS c body S3 (Nxt (Sf (f s x)))) (k : WS c sts (Sf (xs.foldl f s0)) P)
    (hs : ∀ env x, foldedSetIterable iter env x = pure x := by intro _ _; rfl) : WS c (.For tg iter body [] pos :: sts) S P := by
  refine ws_cons (w1_for (vs := vs) (fun i S => S = Sf ((xs.take i).foldl f s0)) hi ⟨_, h0, rfl⟩ ?_ ?_ hs)
  · rintro i d S2 hd rfl
    obtain ⟨x, hx, rfl⟩ := map_get hd
    obtain ⟨S3, g3, w3⟩ := hb _ x (List.mem_of_getElem? hx) (hok.at hx)
    have e : (xs.take (i + 1)).foldl f s0 = f ((xs.take i).foldl f s0) x := by rw [take_succ hx, List.foldl_append]; rfl
    refine ⟨S3, g3, w3.mono fun o q => ?_⟩
    cases o with
    | nx S' => exact ⟨_, q, by rw [e]⟩
    | ct S' => exact ⟨_, q, by rw [e]⟩
    | bk S' => exact q.elim
    | rt w S' => exact q.elim
  · rintro S2 rfl
    rw [List.length_map, List.take_length]
    exact k
/-- a turn may also leave by a return -/
def NxtE (Sf : σ → List SV) (P : ρ → Oc → Prop) (r : Except ρ σ) : Oc → Prop
  | .nx S' => ∃ s, r = .ok s ∧ Imp S' (Sf s)
  | .ct S' => ∃ s, r = .ok s ∧ Imp S' (Sf s)
  | .rt w S' => ∃ q, r = .error q ∧ P q (.rt w S')
  | .bk _ => False
theorem foldE_take {f : σ → α → Except ρ σ} : ∀ (xs : List α) (s0 : σ) (i : Nat) (x : α) (s : σ), foldE f s0 (xs.take i) = .ok s → xs[i]? = some x → foldE f s0 (xs.take (i + 1)) = f s x
  | [], _, _, _, _, _, h => by simp at h
  | y :: xs, s0, 0, x, s, h1, h2 => by
    have e1 : s0 = s := by simpa [foldE] using h1
    have e2 : y = x := by simpa using h2
    subst e1; subst e2
    simp only [List.take_succ_cons, List.take_zero, foldE]
    cases f s0 y <;> rfl
  | y :: xs, s0, i + 1, x, s, h1, h2 => by
    rw [List.take_succ_cons] at h1 ⊢
    simp only [foldE] at h1 ⊢
    cases e : f s0 y with
    | error r => rw [e] at h1; cases h1
    | ok s' =>
      rw [e] at h1
      exact foldE_take xs s' i x s h1 (by simpa using h2)
theorem foldE_err {f : σ → α → Except ρ σ} {r : ρ} : ∀ (xs : List α) (s0 : σ) (i : Nat), foldE f s0 (xs.take i) = .error r → foldE f s0 xs = .error r
  | [], _, _, h => by simpa [foldE] using h
  | y :: xs, s0, 0, h => by simp [foldE] at h
  | y :: xs, s0, i + 1, h => by
    rw [List.take_succ_cons] at h
    simp only [foldE] at h ⊢
    cases e : f s0 y with
    | error r' => rw [e] at h; exact h
    | ok s' => rw [e] at h; exact foldE_err xs s' i h
theorem LOkE.at {f : σ → α → Except ρ σ} {ok : σ → α → Prop} : ∀ {xs : List α} {s0 : σ}, LOkE f ok s0 xs → ∀ {i : Nat} {x : α} {s : σ}, foldE f s0 (xs.take i) = .ok s → xs[i]? = some x → ok s x
  | [], _, _, _, _, _, _, h => by simp at h
  | y :: xs, s0, q, 0, x, s, h1, h2 => by
    have e1 : s0 = s := by simpa [foldE] using h1
    have e2 : y = x := by simpa using h2
    subst e1; subst e2
    exact q.1
  | y :: xs, s0, q, i + 1, x, s, h1, h2 => by
    rw [List.take_succ_cons] at h1
    simp only [foldE] at h1
    have q2 := q.2
    cases e : f s0 y with
    | error r => rw [e] at h1; cases h1
    | ok s' =>
      rw [e] at h1 q2
      exact LOkE.at (xs := xs) q2 h1 (by simpa using h2)
theorem ws_forE (Sf : σ → List SV) (f : σ → α → Except ρ σ) (ok : σ → α → Prop) (s0 : σ) (PR : ρ → Oc → Prop) (hi : IX c tg iter S (xs.map en) S0) (h0 : Imp S0 (Sf s0)) (hok : LOkE f ok s0 xs)
    (hb : ∀ s x, x ∈ xs → ok s x → ∃ S3, GX c tg vs (Sf s) (.val (en x)) S3 ∧ WS c body S3 (NxtE Sf PR (f s x))) (hr : ∀ r w S', foldE f s0 xs = .error r → PR r (.rt w S') → P (.rt w S')) (k : ∀ s, foldE f s0 xs = .ok s → WS c sts (Sf s) P)
    (hs : ∀ env x, foldedSetIterable iter env x = pure x := by intro _ _; rfl) : WS c (.For tg iter body [] pos :: sts) S P := by
  refine ws_cons (w1_for (vs := vs) (fun i S => ∃ s, foldE f s0 (xs.take i) = .ok s ∧ S = Sf s) hi ⟨_, h0, s0, rfl, rfl⟩ ?_ ?_ hs)
  · rintro i d S2 hd ⟨s, e, rfl⟩
    obtain ⟨x, hx, rfl⟩ := map_get hd
    obtain ⟨S3, g3, w3⟩ := hb s x (List.mem_of_getElem? hx) (hok.at e hx)
    have e2 := foldE_take xs s0 i x s e hx
    refine ⟨S3, g3, w3.mono fun o q => ?_⟩
    cases o with
    | nx S' => obtain ⟨s', q1, q2⟩ := q; exact ⟨_, q2, s', by rw [e2, q1], rfl⟩
    | ct S' => obtain ⟨s', q1, q2⟩ := q; exact ⟨_, q2, s', by rw [e2, q1], rfl⟩
    | bk S' => exact q.elim
    | rt w S' => obtain ⟨r, q1, q2⟩ := q; exact hr r w S' (foldE_err xs s0 (i + 1) (by rw [e2, q1])) q2
  · rintro S2 ⟨s, e, rfl⟩
    rw [List.length_map, List.take_length] at e
    exact k s e
theorem ws_whl (Sf : σ → List SV) (cc : σ → Bool) (f : σ → σ) (okc okb : σ → Prop) (n : Nat) (s0 : σ) (h0 : Imp S (Sf s0)) (hok : WOk cc f okc okb n s0)
    (hc : ∀ s, okc s → TX c e (Sf s) (cc s) (Sf s)) (hb : ∀ s, okb s → cc s = true → WS c body (Sf s) (Nxt (Sf (f s)))) (k : WS c sts (Sf (whl cc f n s0)) P) : WS c (.While e body [] pos :: sts) S P := by
  have zero : ∀ m s, WOk cc f okc okb m s → okc s := fun m s h => by cases m with | zero => exact h.1 | succ m => exact h.1
  refine ws_cons (w1_while (fun m S => ∃ s, S = Sf s ∧ WOk cc f okc okb m s ∧ whl cc f m s = whl cc f n s0) ⟨_, h0, s0, rfl, hok, rfl⟩ ?_)
  rintro m S2 ⟨s, rfl, ho, he⟩
  refine ⟨cc s, Sf s, hc s (zero m s ho), fun hk => ?_, fun hk => ?_⟩
  · cases m with
    | zero => rw [ho.2] at hk; cases hk
    | succ m =>
      obtain ⟨q1, q2⟩ := ho.2 hk
      refine (hb s q1 hk).mono fun o q => ?_
      have e2 : whl cc f m (f s) = whl cc f n s0 := by rw [← he]; simp [whl, hk]
      cases o with
      | nx S' => exact ⟨_, q, m, Nat.lt_succ_self m, f s, rfl, q2, e2⟩
      | ct S' => exact ⟨_, q, m, Nat.lt_succ_self m, f s, rfl, q2, e2⟩
      | bk S' => exact q.elim
      | rt w S' => exact q.elim
  · have : s = whl cc f n s0 := by
      rw [← he]
      cases m with
      | zero => rfl
      | succ m => simp [whl, hk]
    show WS c sts (Sf s) P
    rw [this]; exact k
theorem ws_whlE (Sf : σ → List SV) (cc : σ → Bool) (f : σ → Except ρ σ) (okc okb : σ → Prop) (n : Nat) (s0 : σ) (PR : ρ → Oc → Prop) (h0 : Imp S (Sf s0)) (hok : WOkE cc f okc okb n s0)
    (hc : ∀ s, okc s → TX c e (Sf s) (cc s) (Sf s)) (hb : ∀ s, okb s → cc s = true → WS c body (Sf s) (NxtE Sf PR (f s))) (hr : ∀ r w S', whlE cc f n s0 = .error r → PR r (.rt w S') → P (.rt w S')) (k : ∀ s, whlE cc f n s0 = .ok s → WS c sts (Sf s) P) : WS c (.While e body [] pos :: sts) S P := by
  have zero : ∀ m s, WOkE cc f okc okb m s → okc s := fun m s h => by cases m with | zero => exact h.1 | succ m => exact h.1
  refine ws_cons (w1_while (fun m S => ∃ s, S = Sf s ∧ WOkE cc f okc okb m s ∧ whlE cc f m s = whlE cc f n s0) ⟨_, h0, s0, rfl, hok, rfl⟩ ?_)
  rintro m S2 ⟨s, rfl, ho, he⟩
  refine ⟨cc s, Sf s, hc s (zero m s ho), fun hk => ?_, fun hk => ?_⟩
  · cases m with
    | zero => rw [ho.2] at hk; cases hk
    | succ m =>
      obtain ⟨q1, q2⟩ := ho.2 hk
      refine (hb s q1 hk).mono fun o q => ?_
      have e2 : whlE cc f (m + 1) s = (match f s with | .error r => .error r | .ok s' => whlE cc f m s') := by simp [whlE, hk]
      cases o with
      | nx S' =>
        obtain ⟨s', q3, q4⟩ := q
        rw [q3] at q2 e2
        exact ⟨_, q4, m, Nat.lt_succ_self m, s', rfl, q2, by rw [← he, e2]⟩
      | ct S' =>
        obtain ⟨s', q3, q4⟩ := q
        rw [q3] at q2 e2
        exact ⟨_, q4, m, Nat.lt_succ_self m, s', rfl, q2, by rw [← he, e2]⟩
      | bk S' => exact q.elim
      | rt w S' =>
        obtain ⟨r, q3, q4⟩ := q
        rw [q3] at e2
        exact hr r w S' (by rw [← he, e2]) q4
  · refine k s ?_
    rw [← he]
    cases m with
    | zero => rfl
    | succ m => simp [whlE, hk]
end
end DL

/-! DL, part j: the law at the head, called where no repr is under way. -/
namespace DL
open PySem PySem.Spec PyProof.Rows L2
/-- a heap of which at most the script is told -/
structure Sole (P : Program) (w : World) (K : PySem.W.Frag) (a : Addr) (h : Heap) (H : Hp) : Prop where
  hok : HOk P w H h
  at_ : ∀ b u, H b = some u → b = a ∧ K.lookup a = none ∧ ∃ o xs, u = .frz o (.lst xs)
section
variable {P : Program} {w : World} {K : PySem.W.Frag} {mg mb : Str → Option Value} {a fa : Addr} {s : Shared} {H : Hp} {ol : Obj}
theorem Sole.low (z : Sole P w K a s.heap H) {b : Addr} {o : Obj} (e : s.heap.get? b = some o) (n : b ≠ a ∨ K.lookup a ≠ none) : (hidT s.heap H).get? b = some o := hidT_get e (by
  cases q : H b with
  | none => rfl
  | some u =>
    obtain ⟨e1, e2, _⟩ := z.at_ b u q
    rcases n with n | n
    · exact (n e1).elim
    · exact (n e2).elim)
theorem Sole.env (z : Sole P w K a s.heap H) (ga : s.heap.get? a = some ol) (nd : ∀ es n, ol.data ≠ .dict es n) (KX : K.In s.heap) (hm : s.heap.Ns mainGlobals mg) (hb : s.heap.Ns builtinsNs mb) (hbb : ∀ x : Str, x ≠ "__name__" → mb x = bootBuiltins x) (hl : s.heap.NoLimit) (hg : s.gens = #[]) :
    K.In (hidT s.heap H) ∧ (hidT s.heap H).Ns mainGlobals mg ∧ Env0 P w K mg (hidT s.heap H) callerA [] s H := by
  have ns : ∀ {b : Addr} {m : Str → Option Value}, s.heap.Ns b m → (hidT s.heap H).Ns b m := by
    rintro b m ⟨o, es, ep, e, d, r⟩
    refine ⟨o, es, ep, z.low e (.inl ?_), d, r⟩
    rintro rfl
    rw [ga] at e
    cases e
    exact nd _ _ d
  have kin : K.In (hidT s.heap H) := fun b o e => z.low (KX b o e) (by
    by_cases q : b = a
    · subst q
      exact .inr (by rw [e]; simp)
    · exact .inl q)
  obtain ⟨mc, l1, l2⟩ := hl
  have md : Mod K mg (hidT s.heap H) := ⟨kin, ns hm, ⟨mb, ns hb, hbb⟩, ⟨mc, ns l1, l2⟩⟩
  exact ⟨kin, ns hm, ⟨rfl, md, fun _ _ e => of_hidT e, Nat.le_of_eq (hidT_size _ _), trivial, fun _ h => (nomatch h), z.hok, .of_eq hg⟩⟩
/-- the law's promise, at a heap of which at most the script is told -/
theorem law_at {k : Nat} {fd : FuncData} {x : Str} {sp : SpG} (z : Sole P w K a s.heap H) (ga : s.heap.get? a = some ol) (nd : ∀ es n, ol.data ≠ .dict es n) (KX : K.In s.heap) (hm : s.heap.Ns mainGlobals mg) (hb : s.heap.Ns builtinsNs mb) (hbb : ∀ x : Str, x ≠ "__name__" → mb x = bootBuiltins x)
    (hl : s.heap.NoLimit) (hg : s.gens = #[]) (hr : Room k callerA) (F : ∀ base : Heap, K.In base → base.Ns mainGlobals mg → FnG P w K mg base k fa fd [x] sp) (bind : ∀ (s : Shared) (u : Value), BindsTo s fd ⟨[u], []⟩ [(x, u)]) (hsp : sp [.ref a] H (fun v _ => v = .bl true)) :
    codeAny (model P w) callerA (.call (.ref fa) ⟨[.ref a], []⟩) (fun r s' => r = .ok (.ret (.bool true)) ∧ OldK s.heap s'.heap ∧ s'.os = s.os ∧ AllBare s'.gens) s := by
  obtain ⟨kin, ns, e0⟩ := z.env ga nd KX hm hb hbb hl hg
  have go := (F _ kin ns).run callerA [] s H ⟨[.ref a], []⟩ [.ref a] [.ref a] _ hr rfl e0 (bind s (.ref a)) (.cons rfl .nil) hsp
  refine codeAny_mono go fun r s' q => ?_
  match r, q with
  | .ok (.ret u), ⟨v, H', qo, qb, un, q1, q2, q3⟩ =>
    have q3' : v = .bl true := q3
    subst q3'
    have q2' : u = Value.bool true := q2
    subst q2'
    refine ⟨rfl, OldK.of_keep fun b o e => ?_, qo, qb⟩
    cases t : H b with
    | none => exact un.keep b o e t (fun h => nomatch h) (by simp)
    | some y =>
      obtain ⟨_, _, o1, xs, rfl⟩ := z.at_ b y t
      have g1 := (z.hok b _ t).1
      have g2 := (q1 b _ (un.frzs b o1 _ t)).1
      rw [e] at g1
      cases g1
      exact g2
end
theorem law_walk {l : PySem.W.OpenLaw} {n k : Nat} {q : Program} {loose : List Str} {XP : (Str → Option Value) → Heap → Prop} {YP : World → Heap → Prop} {d : DefRec} {x : Str}
    (hn : l.most = some n) (hn2 : n ≤ sizeLine) (hdf : d.params.defaults = []) (hr : Room k callerA)
    (F : ∀ (w : World) (mg : Str → Option Value) (fa : Addr) (h : Heap), YP w h → h.Ns mainGlobals mg → mg d.name = some (.ref fa) →
      ∃ (K : PySem.W.Frag) (fd : FuncData), K.In h ∧ (∀ (s : Shared) (u : Value), BindsTo s fd ⟨[u], []⟩ [(x, u)]) ∧
        ∀ base : Heap, K.In base → base.Ns mainGlobals mg → FnG l.prog w K mg base k fa fd [x] fun vs H Q => ∃ (a : Addr) (ns : List Int), ns.length ≤ n ∧ vs = [.ref a] ∧ SqL K H a (ns.map V.int) ∧ ∀ H', Q (.bl true) H') :
    PySem.W.WalkO q loose XP YP l.row.toRowW d [] (fun f vs => PySem.call f vs) := by
  refine Att.attach_call hn hdf fun w s₀ s mg mb fa o pm cd doc a vs ns G Y ho hd hcd hmg hobj hints hlen hg => ?_
  obtain ⟨K, fd, KX, hb, hF⟩ := F w mg fa _ Y G.T.g hmg
  have rv := vals_ints hints
  have nd : ∀ es n, (Obj.data { cls := .type "list", data := .seq vs.toArray } : Data) ≠ .dict es n := fun _ _ e => nomatch e
  have hz : vs.toArray.size ≤ sizeLine := by rw [List.size_toArray, hints.length]; exact Nat.le_trans hlen hn2
  cases hk : K.lookup a with
  | some o2 =>
    have e := KX a o2 hk
    rw [hobj] at e
    cases e
    exact law_at (H := fun _ => none) ⟨fun _ _ z => (nomatch (z : (none : Option HO) = some _)), fun _ _ z => (nomatch (z : (none : Option HO) = some _))⟩ hobj nd KX G.T.g G.T.b G.T.builtins G.T.nolimit hg hr hF hb
      ⟨a, ns, hlen, rfl, .inr ⟨_, vs.toArray, _, hk, rfl, rfl, rfl, hz, by simpa using rv⟩, fun _ => rfl⟩
  | none =>
    have one : ∀ b u, (if b = a then some (HO.frz { cls := .type "list", data := .seq vs.toArray } (.lst (ns.map V.int))) else none) = some u → b = a ∧ u = .frz { cls := .type "list", data := .seq vs.toArray } (.lst (ns.map V.int)) := fun b u z => by
      split at z
      · next hba => exact ⟨hba, (Option.some.inj z).symm⟩
      · cases z
    exact law_at (H := fun b => if b = a then some (HO.frz { cls := .type "list", data := .seq vs.toArray } (.lst (ns.map V.int))) else none)
      ⟨fun b u z => by
        obtain ⟨rfl, rfl⟩ := one b u z
        exact ⟨hobj, by rw [List.length_map]; exact Nat.le_trans hlen hn2, vs, _, rv, hobj⟩, fun b u z => by
        obtain ⟨rfl, rfl⟩ := one b u z
        exact ⟨rfl, hk, _, _, rfl⟩⟩ hobj nd KX G.T.g G.T.b G.T.builtins G.T.nolimit hg hr hF hb
      ⟨a, ns, hlen, rfl, .inl (.inr ⟨_, if_pos rfl⟩), fun _ => rfl⟩
end DL

/-! DL, part k: lists of one's own written to. -/
namespace DL
open PySem PySem.Spec PyProof.Rows L2
/-! ### a state weakened slot by slot -/
inductive Wk : List SV → List SV → Prop
  | nil : Wk [] []
  | k {w : SV} {S T : List SV} : Wk S T → Wk (w :: S) (w :: T)
  | d {w : SV} {S T : List SV} : Wk S T → Wk (w :: S) (.un :: T)
  | f {w : SV} {S T : List SV} : Wk S T → Wk (w :: S) (frzV w :: T)
theorem Imp.cons {w : SV} {S T : List SV} (h : Imp S T) : Imp (w :: S) (w :: T) := fun B G H σ st => by
  obtain ⟨x, τ, rfl⟩ : ∃ x τ, σ = x :: τ := by
    cases σ with
    | nil => exact absurd st.len (by simp)
    | cons x τ => exact ⟨x, τ, rfl⟩
  exact st.onTail fun B1 s1 => h B1 G H τ s1
theorem Stt.forget {B G H : Hp} {w : SV} {S : List SV} {σ : L2.St} (h : Stt B G H (w :: S) σ) : Stt B G H (.un :: S) σ := by
  refine h.alter rfl (by simp) fun i u e => ?_
  cases i with
  | zero => exact .inl (Option.some.inj e).symm
  | succ i => exact .inr (.inl ⟨e, rfl⟩)
theorem Imp.forget {w : SV} {S : List SV} : Imp (w :: S) (.un :: S) := fun B G H σ st => ⟨G, Ext.refl _ _, st.forget⟩
theorem Imp.frzHead {w : SV} {S : List SV} : Imp (w :: S) (frzV w :: S) := Imp.frzAt (i := 0) rfl
theorem Wk.imp {S T : List SV} (h : Wk S T) : Imp S T := by
  induction h with
  | nil => exact Imp.refl _
  | k _ ih => exact ih.cons
  | d _ ih => exact ih.cons.trans Imp.forget
  | f _ ih => exact ih.cons.trans Imp.frzHead

section
variable {c : CC} {e : Expr} {es : List Expr} {S S1 S2 : List SV} {pos p py apos cpos : Pos} {y : Str} {i : Nat} {d : D} {ds ds0 : List D} {α : Type} {en : α → D} {xs xs0 zs : List α} {x : α} {j : Int} {ws : List SV} {w : SV}
theorem Stt.tyL {B G H : Hp} {σ : L2.St} {K : PySem.W.Frag} (st : Stt B G H S σ) (e : S[i]? = some (.lst ds)) : ∃ a, σ[i]? = some (some (.ref a)) ∧ tyV K "list" (.ref a) H := by
  obtain ⟨a, us, e1, e2, _⟩ := st.updL e
  exact ⟨a, e1, .inl ⟨rfl, us, SqL.of e2⟩⟩
/-- a method of the list at slot i: what it makes of the arguments on top -/
def VM (r : V → List V → Hp → VK → Prop) (i : Nat) (ws : List SV) (ds : List D) (w : SV) (S2 : List SV) : Prop := ∀ B G H S σ vs Q a, vs.length = ws.length → Stt B G H (ws ++ S) (vs.map some ++ σ) → S[i]? = some (.lst ds) → σ[i]? = some (some (.ref a)) →
  (∀ v H' G' S', Ext B G G' → S' = S2 → Stt B G' H' (w :: S') (some v :: σ) → Q v H') → r (.ref a) vs H Q
theorem ex_mL {id : String} {name : Str} {r : V → List V → Hp → VK → Prop} (slot : Slot "list" name id) (hty : typeOf (.builtin id) = pure (.type "method_descriptor")) (hm : ∀ X, c.In X → MtM X id r)
    (hN : c.N[i]? = some y) (hv : Vis c.sc y) (h0 : S[i]? = some (.lst ds0)) (ha : AX c (e :: es) S ws S1) (hr : ∀ B G H σ vs Q a, vs.length = ws.length → Stt B G H (ws ++ S1) (vs.map some ++ σ) → σ[i]? = some (some (.ref a)) → (∀ v H' G', Ext B G G' → Stt B G' H' (w :: S2) (some v :: σ) → Q v H') → r (.ref a) vs H Q)
    (hd : (y == ("__debug__" : Str)) = false) (hcd : (y == ("__classdict__" : Str)) = false) (hb : ∀ env, attributeBase (.Name y py) name env (eval (.Name y py) env) = eval (.Name y py) env)
    (hf : ∀ env, ((backTo cpos (starEach (e :: es) env)).all (fun x => !x.1) && (backToKw cpos (keywordEach [] env)).all (fun x => x.1.isSome) && decide ((e :: es).length + ([] : List Keyword).length + (if ([] : List Keyword).isEmpty then 0 else 1) < 30)) = true)
    (hl : (apos.endLine == cpos.line) = true) (hs : ∀ env, starEach (e :: es) env = (false, eval e env) :: starEach es env) (hp : ∀ env, (backTo cpos (starEach es env)).any (·.1) = false) : EX c (.Call (.Attribute (.Name y py) name apos) (e :: es) [] cpos) S w S2 := fun X hX =>
  (pe_bm PySem.F.plainAttrs_list slot hty (hm X hX) (pe_var (i := i) (by rw [hX.N]; exact hN) (by rw [hX.sc]; exact hv) hd hcd) (ha X hX) (hb _) (hf _) hl (hs _) (hp _)).wk fun σ H Q ⟨B, G, st, k⟩ => by
    obtain ⟨a, e1, ty⟩ := st.tyL (K := X.K) h0
    exact ⟨.ref a, e1, ty, B, G, st, fun vs H1 G1 x1 hl s1 => hr B G1 H1 σ vs Q a hl s1 e1 fun v H' G' x2 s2 => k v H' G' (x1.trans x2) s2⟩
theorem ex_append (ha : EX c e S (.val (en x)) S1) (hN : c.N[i]? = some y := by rfl) (hv : Vis c.sc y := by first | exact Or.inl rfl | exact Or.inr (Or.inl rfl) | exact Or.inr (Or.inr rfl)) (h0 : S[i]? = some (.lst ds0) := by rfl) (h1 : S1[i]? = some (.lst (xs.map en)) := by rfl) (hz : xs.length < sizeLine)
    (hd : (y == ("__debug__" : Str)) = false := by decide) (hcd : (y == ("__classdict__" : Str)) = false := by decide) (hb : ∀ env, attributeBase (.Name y py) "append" env (eval (.Name y py) env) = eval (.Name y py) env := by intro _; rfl)
    (hf : ∀ env, ((backTo cpos (starEach [e] env)).all (fun x => !x.1) && (backToKw cpos (keywordEach [] env)).all (fun x => x.1.isSome) && decide ([e].length + ([] : List Keyword).length + (if ([] : List Keyword).isEmpty then 0 else 1) < 30)) = true := by intro _; rfl)
    (hl : (apos.endLine == cpos.line) = true := by rfl) (hs : ∀ env, starEach [e] env = (false, eval e env) :: starEach [] env := by intro _; rfl) (hp : ∀ env, (backTo cpos (starEach [] env)).any (·.1) = false := by intro _; rfl) :
    EX c (.Call (.Attribute (.Name y py) "append" apos) [e] [] cpos) S (.val .none) (S1.set i (.lst ((xs ++ [x]).map en))) :=
  ex_mL PySem.F.slot_list_append PySem.F.type_list_append (fun X hX => mt_append) hN hv h0 (ex_arg1 ha hs) (fun B G H σ vs Q a hl st ea k => by
    obtain ⟨v, rfl⟩ : ∃ v, vs = [v] := match vs, hl with | [v], _ => ⟨v, rfl⟩
    have st : Stt B G H (.val _ :: S1) (some v :: σ) := st
    obtain ⟨a', us, e1, e2, r, z, up⟩ := st.tail.updL h1
    rw [ea] at e1; cases e1
    have rv := st.headV
    refine ⟨a, us, v, rfl, rfl, e2, by rw [r.length, List.length_map]; exact hz, ?_⟩
    have s2 := up (us ++ [v]) ((xs ++ [x]).map en) (by rw [List.map_append]; exact r.append (.cons rv .nil)) (by simp; omega)
    exact k .non _ G (Ext.refl _ _) (s2.push .non)) hd hcd hb hf hl hs hp
theorem ex_extend (ha : EX c e S (.val (eL en zs)) S1) (hN : c.N[i]? = some y := by rfl) (hv : Vis c.sc y := by first | exact Or.inl rfl | exact Or.inr (Or.inl rfl) | exact Or.inr (Or.inr rfl)) (h0 : S[i]? = some (.lst ds0) := by rfl) (h1 : S1[i]? = some (.lst (xs.map en)) := by rfl) (hz : xs.length + zs.length ≤ sizeLine)
    (hd : (y == ("__debug__" : Str)) = false := by decide) (hcd : (y == ("__classdict__" : Str)) = false := by decide) (hb : ∀ env, attributeBase (.Name y py) "extend" env (eval (.Name y py) env) = eval (.Name y py) env := by intro _; rfl)
    (hf : ∀ env, ((backTo cpos (starEach [e] env)).all (fun x => !x.1) && (backToKw cpos (keywordEach [] env)).all (fun x => x.1.isSome) && decide ([e].length + ([] : List Keyword).length + (if ([] : List Keyword).isEmpty then 0 else 1) < 30)) = true := by intro _; rfl)
    (hl : (apos.endLine == cpos.line) = true := by rfl) (hs : ∀ env, starEach [e] env = (false, eval e env) :: starEach [] env := by intro _; rfl) (hp : ∀ env, (backTo cpos (starEach [] env)).any (·.1) = false := by intro _; rfl) :
    EX c (.Call (.Attribute (.Name y py) "extend" apos) [e] [] cpos) S (.val .none) (S1.set i (.lst ((xs ++ zs).map en))) :=
  ex_mL PySem.F.slot_list_extend PySem.F.type_list_extend (fun X hX => mt_extend) hN hv h0 (ex_arg1 ha hs) (fun B G H σ vs Q a hl st ea k => by
    obtain ⟨v, rfl⟩ : ∃ v, vs = [v] := match vs, hl with | [v], _ => ⟨v, rfl⟩
    have st : Stt B G H (.val _ :: S1) (some v :: σ) := st
    obtain ⟨a', us, e1, e2, r, z, up⟩ := st.tail.updL h1
    rw [ea] at e1; cases e1
    have rv := st.headV
    cases rv with
    | @lst b vs _ eb zb rb =>
    refine ⟨a, b, us, vs, rfl, rfl, e2, st.g _ _ eb, by rw [r.length, rb.length, List.length_map, List.length_map]; exact hz, ?_⟩
    have s2 := up (us ++ vs) ((xs ++ zs).map en) (by rw [List.map_append]; exact r.append rb) (by simp; omega)
    exact k .non _ G (Ext.refl _ _) (s2.push .non)) hd hcd hb hf hl hs hp
/-- y.pop() -/
theorem ex_pop [Inhabited α] (hN : c.N[i]? = some y := by rfl) (hv : Vis c.sc y := by first | exact Or.inl rfl | exact Or.inr (Or.inl rfl) | exact Or.inr (Or.inr rfl)) (h0 : S[i]? = some (.lst (xs.map en)) := by rfl) (hz : xs ≠ [])
    (hd : (y == ("__debug__" : Str)) = false := by decide) (hcd : (y == ("__classdict__" : Str)) = false := by decide) (hb : ∀ env, attributeBase (.Name y py) "pop" env (eval (.Name y py) env) = eval (.Name y py) env := by intro _; rfl)
    (hl : (apos.endLine == cpos.line) = true := by rfl) : EX c (.Call (.Attribute (.Name y py) "pop" apos) [] [] cpos) S (.val (en (xs.getLastD default))) (S.set i (.lst (xs.dropLast.map en))) := fun X hX =>
  (pe_bm0 PySem.F.plainAttrs_list PySem.F.slot_list_pop PySem.F.type_list_pop mt_pop (pe_var (i := i) (by rw [hX.N]; exact hN) (by rw [hX.sc]; exact hv) hd hcd) (hb _) hl).wk fun σ H Q ⟨B, G, st, k⟩ => by
    obtain ⟨a, e1, ty⟩ := st.tyL (K := X.K) h0
    obtain ⟨a', us, e2, e3, r, z, up⟩ := st.updL h0
    rw [e1] at e2; cases e2
    have hlast : (xs.map en)[us.length - 1]? = some (en (xs.getLastD default)) := by
      rw [r.length, List.length_map, List.getElem?_map]
      cases xs with
      | nil => exact absurd rfl hz
      | cons a t => rw [List.getLastD_cons, List.getLastD_eq_getLast?, ← List.getLast?_eq_getElem?, List.getLast?_cons]; rfl
    obtain ⟨v, ev, rv⟩ := r.get hlast
    refine ⟨.ref a, e1, ty, a, us, v, rfl, rfl, e3, ev, ?_⟩
    have s2 := up us.dropLast (xs.dropLast.map en) (by rw [List.map_dropLast]; exact r.dropLast) (by simp at z ⊢; omega)
    exact k v _ G (Ext.refl _ _) (s2.push rv)
/-- y[j] = v -/
theorem gx_setL {vs : List Nat} {e : Expr} (hj : EX c e S (.val (.int j)) S1) (hN : c.N[i]? = some y := by rfl) (hv : Vis c.sc y := by first | exact Or.inl rfl | exact Or.inr (Or.inl rfl) | exact Or.inr (Or.inr rfl)) (h0 : S[i]? = some (.lst ds0) := by rfl) (h1 : S1[i]? = some (.lst (xs.map en)) := by rfl) (hz : InB xs j)
    (hd : (y == ("__debug__" : Str)) = false := by decide) (hcd : (y == ("__classdict__" : Str)) = false := by decide)
    (has : ∀ env v, assign (.Subscript (.Name y py) e pos) env v = (do
      let ov ← holding [v] (eval (.Name y py) env)
      let iv ← holding [v, ov] (eval e env)
      standAt pos
      holding [v, ov, iv] (setItem ov iv v)
      release [v, ov, iv] []) := by intro _ _; rfl) : GX c (.Subscript (.Name y py) e pos) vs S (.val (en x)) (S1.set i (.lst ((xs.set (if 0 ≤ j then j.toNat else (j + xs.length).toNat) x).map en))) := fun X hX =>
  (pg_sub (pe_var (i := i) (by rw [hX.N]; exact hN) (by rw [hX.sc]; exact hv) hd hcd) (hj X hX) set_list (has _)).wk fun v σ H Q ⟨B, G, st, k⟩ => by
    obtain ⟨a, e1, _⟩ := st.tail.tyL (K := X.K) h0
    obtain ⟨B1, s0, back⟩ := st.bracket
    refine ⟨.ref a, e1, B1, G, s0, fun u H1 G1 x1 s1 => ?_⟩
    have ej : u = .int j := by
      have r := s1.headV
      cases r; rfl
    subst ej
    obtain ⟨xb, sb⟩ := back G1 H1 _ _ x1 s1.tail
    have rv := sb.headV
    obtain ⟨a', us, e2, e3, r, z, up⟩ := sb.tail.updL h1
    rw [e1] at e2; cases e2
    have hlen : us.length = xs.length := by rw [r.length, List.length_map]
    refine ⟨a, us, j, if 0 ≤ j then j.toNat else (j + xs.length).toNat, rfl, rfl, e3, ?_, ?_⟩
    · unfold ixN
      rw [hlen]
      obtain ⟨b1, b2⟩ := hz
      by_cases h : 0 ≤ j
      · rw [if_pos h, if_pos h, if_pos b2]
      · rw [if_neg h, if_neg h, if_pos b1]
    · have s2 := up (us.set (if 0 ≤ j then j.toNat else (j + xs.length).toNat) v) ((xs.set (if 0 ≤ j then j.toNat else (j + xs.length).toNat) x).map en) (by rw [List.map_set]; exact r.set rv _) (by simp at z ⊢; omega)
      exact k σ _ G1 xb rfl s2
end
end DL

/-! DL, part l: dicts. -/
namespace DL
open PySem PySem.Spec PyProof.Rows L2
/-! ### tables -/
section
variable {κ β γ : Type} [DecidableEq κ]
def dget (m : List (κ × β)) (k : κ) : Option β := (m.find? fun p => decide (p.1 = k)).map (·.2)
def dput (m : List (κ × β)) (k : κ) (v : β) : List (κ × β) := if (m.any fun p => decide (p.1 = k)) = true then m.map (fun p => if p.1 = k then (p.1, v) else p) else m ++ [(k, v)]
def dmerge (m n : List (κ × β)) : List (κ × β) := n.foldl (fun a p => dput a p.1 p.2) m
theorem dget_nil (k : κ) : dget ([] : List (κ × β)) k = none := rfl
theorem dget_cons (p : κ × β) (m : List (κ × β)) (k : κ) : dget (p :: m) k = if p.1 = k then some p.2 else dget m k := by
  unfold dget
  rw [List.find?_cons]
  by_cases h : p.1 = k
  · simp [h]
  · simp [h]
theorem dget_any (m : List (κ × β)) (k : κ) : (m.any fun p => decide (p.1 = k)) = (dget m k).isSome := by
  induction m with
  | nil => rfl
  | cons p m ih =>
    rw [List.any_cons, dget_cons, ih]
    by_cases h : p.1 = k
    · simp [h]
    · simp [h]
theorem dput_length (m : List (κ × β)) (k : κ) (v : β) : (dput m k v).length ≤ m.length + 1 := by
  unfold dput
  split
  · simp
  · simp
theorem dget_map {κ' : Type} [DecidableEq κ'] {f : κ → κ'} {g : β → γ} (hf : ∀ a b, f a = f b → a = b) (m : List (κ × β)) (k : κ) : dget (m.map fun p => (f p.1, g p.2)) (f k) = (dget m k).map g := by
  induction m with
  | nil => rfl
  | cons p m ih =>
    rw [List.map_cons, dget_cons, dget_cons, ih]
    by_cases h : p.1 = k
    · simp [h]
    · have : ¬ f p.1 = f k := fun e => h (hf _ _ e)
      simp [h, this]
theorem dput_map {κ' : Type} [DecidableEq κ'] {f : κ → κ'} {g : β → γ} (hf : ∀ a b, f a = f b → a = b) (m : List (κ × β)) (k : κ) (v : β) : dput (m.map fun p => (f p.1, g p.2)) (f k) (g v) = (dput m k v).map fun p => (f p.1, g p.2) := by
  unfold dput
  rw [dget_any, dget_any, dget_map hf, Option.isSome_map]
  split
  · rw [List.map_map, List.map_map]
    refine List.map_congr_left fun p _ => ?_
    by_cases h : p.1 = k
    · simp [h]
    · have : ¬ f p.1 = f k := fun e => h (hf _ _ e)
      simp [h, this]
  · rw [List.map_append]; rfl
theorem dmerge_map {κ' : Type} [DecidableEq κ'] {f : κ → κ'} {g : β → γ} (hf : ∀ a b, f a = f b → a = b) (n : List (κ × β)) : ∀ m : List (κ × β), dmerge (m.map fun p => (f p.1, g p.2)) (n.map fun p => (f p.1, g p.2)) = (dmerge m n).map fun p => (f p.1, g p.2) := by
  induction n with
  | nil => intro m; rfl
  | cons p n ih =>
    intro m
    have e := dput_map (g := g) hf m p.1 p.2
    unfold dmerge at ih ⊢
    rw [List.map_cons, List.foldl_cons, List.foldl_cons, e, ih]
theorem dmerge_length (n m : List (κ × β)) : (dmerge m n).length ≤ m.length + n.length := by
  induction n generalizing m with
  | nil => exact Nat.le_refl _
  | cons p n ih =>
    have h1 := ih (dput m p.1 p.2)
    have h2 := dput_length m p.1 p.2
    unfold dmerge at h1 ⊢
    rw [List.foldl_cons, List.length_cons]
    omega
theorem RpV.get {G : Hp} {us : List (κ × V)} {ks : List (κ × D)} (r : RpV G us ks) (k : κ) : (valV us k = none ∧ dget ks k = none) ∨ ∃ v d, valV us k = some v ∧ dget ks k = some d ∧ Rp G v d := by
  induction r with
  | nil => exact .inl ⟨rfl, rfl⟩
  | @cons p q ps qs h t ih =>
    rw [dget_cons]
    by_cases e : p.1 = k
    · rw [valV_pos e, if_pos (h.1 ▸ e)]
      exact .inr ⟨_, _, rfl, rfl, h.2⟩
    · rw [valV_neg e, if_neg (fun z => e (h.1.trans z))]
      exact ih
theorem RpV.map {G : Hp} {us : List (κ × V)} {ks : List (κ × D)} (r : RpV G us ks) (k : κ) {v : V} {d : D} (h : Rp G v d) : RpV G (us.map fun p => if p.1 = k then (p.1, v) else p) (ks.map fun p => if p.1 = k then (p.1, d) else p) := by
  induction r with
  | nil => exact .nil
  | @cons p q ps qs hq t ih =>
    refine .cons ?_ ih
    show (if p.1 = k then (p.1, v) else p).1 = (if q.1 = k then (q.1, d) else q).1 ∧ Rp G (if p.1 = k then (p.1, v) else p).2 (if q.1 = k then (q.1, d) else q).2
    by_cases e : p.1 = k
    · rw [if_pos e, if_pos (hq.1 ▸ e)]; exact ⟨hq.1, h⟩
    · rw [if_neg e, if_neg (fun z => e (hq.1.trans z))]; exact hq
theorem RpV.put {G : Hp} {us : List (κ × V)} {ks : List (κ × D)} (r : RpV G us ks) (k : κ) {v : V} {d : D} (h : Rp G v d) : RpV G (putK us k v) (dput ks k d) := by
  unfold putK dput
  rw [valV_any, dget_any]
  rcases r.get k with ⟨e1, e2⟩ | ⟨v', d', e1, e2, _⟩
  · rw [e1, e2, if_neg (by simp), if_neg (by simp)]
    exact Paired.snoc r ⟨rfl, h⟩
  · rw [e1, e2, if_pos (show (some v').isSome = true from rfl), if_pos (show (some d').isSome = true from rfl)]
    exact r.map k h
theorem RpV.merge {G : Hp} {ns : List (κ × V)} {es : List (κ × D)} (q : RpV G ns es) : ∀ {us : List (κ × V)} {ks : List (κ × D)}, RpV G us ks → RpV G (ns.foldl (fun a p => putK a p.1 p.2) us) (dmerge ks es) := by
  induction q with
  | nil => exact fun r => r
  | @cons p q ps qs h t ih =>
    intro us ks r
    unfold dmerge
    rw [List.foldl_cons, List.foldl_cons]
    have := ih (r.put p.1 h.2)
    rw [← h.1]
    exact this
end
/-! ### typed tables: keys that are ints or texts, keys that are tuples of such -/
class Ky {κ : Type} (e : κ → D) where
  key : κ → Key
  eq : ∀ a, e a = kD (key a)
  inj : ∀ a b, key a = key b → a = b
class Kt {κ : Type} (e : κ → D) where
  keys : κ → List Key
  eq : ∀ a, e a = .tuple ((keys a).map kD)
  inj : ∀ a b, keys a = keys b → a = b
instance : Ky PyData.int := ⟨Sum.inl, fun _ => rfl, fun _ _ h => Sum.inl.inj h⟩
instance : Ky PyData.str := ⟨Sum.inr, fun _ => rfl, fun _ _ h => Sum.inr.inj h⟩
instance {κ : Type} (e : κ → D) [Ky e] : Kt (eT e) := ⟨fun xs => xs.map (Ky.key e), fun xs => by simp only [eT, List.map_map]; congr 1; exact List.map_congr_left fun a _ => Ky.eq a, fun xs ys h => by
  induction xs generalizing ys with
  | nil => cases ys with | nil => rfl | cons y ys => simp at h
  | cons x xs ih => cases ys with | nil => simp at h | cons y ys => simp only [List.map_cons, List.cons.injEq] at h; rw [Ky.inj (e := e) _ _ h.1, ih _ h.2]⟩
instance {α β : Type} (ea : α → D) (eb : β → D) [Ky ea] [Ky eb] : Kt (eP ea eb) := ⟨fun p => [Ky.key ea p.1, Ky.key eb p.2], fun p => by simp [eP, Ky.eq (e := ea), Ky.eq (e := eb)], fun a b h => by
  simp only [List.cons.injEq, and_true] at h
  exact Prod.ext (Ky.inj (e := ea) _ _ h.1) (Ky.inj (e := eb) _ _ h.2)⟩
instance {α β γ : Type} (ea : α → D) (eb : β → D) (ec : γ → D) [Ky ea] [Ky eb] [Ky ec] : Kt (eP3 ea eb ec) := ⟨fun p => [Ky.key ea p.1, Ky.key eb p.2.1, Ky.key ec p.2.2], fun p => by simp [eP3, Ky.eq (e := ea), Ky.eq (e := eb), Ky.eq (e := ec)], fun a b h => by
  simp only [List.cons.injEq, and_true] at h
  exact Prod.ext (Ky.inj (e := ea) _ _ h.1) (Prod.ext (Ky.inj (e := eb) _ _ h.2.1) (Ky.inj (e := ec) _ _ h.2.2))⟩
section
variable {κ β : Type}
def kvK (ek : κ → D) [Ky ek] (ev : β → D) (m : List (κ × β)) : List (Key × D) := m.map fun p => (Ky.key ek p.1, ev p.2)
def kvU (ek : κ → D) [Kt ek] (ev : β → D) (m : List (κ × β)) : List (List Key × D) := m.map fun p => (Kt.keys ek p.1, ev p.2)
theorem kvK_length (ek : κ → D) [Ky ek] (ev : β → D) (m : List (κ × β)) : (kvK ek ev m).length = m.length := by simp [kvK]
theorem kvU_length (ek : κ → D) [Kt ek] (ev : β → D) (m : List (κ × β)) : (kvU ek ev m).length = m.length := by simp [kvU]
theorem kvK_get [DecidableEq κ] (ek : κ → D) [Ky ek] (ev : β → D) (m : List (κ × β)) (k : κ) : dget (kvK ek ev m) (Ky.key ek k) = (dget m k).map ev := dget_map (fun a b h => Ky.inj (e := ek) a b h) m k
theorem kvU_get [DecidableEq κ] (ek : κ → D) [Kt ek] (ev : β → D) (m : List (κ × β)) (k : κ) : dget (kvU ek ev m) (Kt.keys ek k) = (dget m k).map ev := dget_map (fun a b h => Kt.inj (e := ek) a b h) m k
theorem kvK_put [DecidableEq κ] (ek : κ → D) [Ky ek] (ev : β → D) (m : List (κ × β)) (k : κ) (v : β) : dput (kvK ek ev m) (Ky.key ek k) (ev v) = kvK ek ev (dput m k v) := dput_map (fun a b h => Ky.inj (e := ek) a b h) m k v
theorem kvU_put [DecidableEq κ] (ek : κ → D) [Kt ek] (ev : β → D) (m : List (κ × β)) (k : κ) (v : β) : dput (kvU ek ev m) (Kt.keys ek k) (ev v) = kvU ek ev (dput m k v) := dput_map (fun a b h => Kt.inj (e := ek) a b h) m k v
theorem kvK_merge [DecidableEq κ] (ek : κ → D) [Ky ek] (ev : β → D) (m n : List (κ × β)) : dmerge (kvK ek ev m) (kvK ek ev n) = kvK ek ev (dmerge m n) := dmerge_map (fun a b h => Ky.inj (e := ek) a b h) n m
theorem kvU_merge [DecidableEq κ] (ek : κ → D) [Kt ek] (ev : β → D) (m n : List (κ × β)) : dmerge (kvU ek ev m) (kvU ek ev n) = kvU ek ev (dmerge m n) := dmerge_map (fun a b h => Kt.inj (e := ek) a b h) n m
theorem Ky.kv {ek : κ → D} [Ky ek] {G : Hp} {v : V} {k : κ} (r : Rp G v (ek k)) : v = kV (Ky.key ek k) := by
  rw [Ky.eq (e := ek) k] at r
  cases h : Ky.key ek k with
  | inl i => rw [h] at r; cases r; rfl
  | inr x => rw [h] at r; cases r; rfl
theorem Rp.keys {G : Hp} : ∀ {ks : List Key} {vs : List V}, RpA G vs (ks.map kD) → vs = ks.map kV
  | [], _, r => by cases r; rfl
  | k :: ks, _, r => by
    rw [List.map_cons] at r
    cases r with
    | cons r t =>
      rw [Rp.keys t, List.map_cons]
      congr 1
      cases k with
      | inl i => cases r; rfl
      | inr x => cases r; rfl
theorem Kt.kv {ek : κ → D} [Kt ek] {G : Hp} {v : V} {k : κ} (r : Rp G v (ek k)) : ∃ b, v = .ref b ∧ G b = some (.tup ((Kt.keys ek k).map kV)) := by
  rw [Kt.eq (e := ek) k] at r
  cases r with
  | tup e z q =>
    have := Rp.keys q
    subst this
    exact ⟨_, rfl, e⟩
end
/-! ### readings -/
section
variable {c : CC} {e a b : Expr} {es : List Expr} {S S1 S2 : List SV} {pos p py apos cpos : Pos} {x y : Str} {i : Nat} {κ β : Type} [DecidableEq κ] {ek : κ → D} {ev : β → D} {m n : List (κ × β)} {k : κ} {w : SV}
theorem ex_nameP {q : V → Hp → Prop} {i : Nat} (hN : c.N[i]? = some x := by rfl) (hv : Vis c.sc x := by first | exact Or.inl rfl | exact Or.inr (Or.inl rfl) | exact Or.inr (Or.inr rfl)) (hs : S[i]? = some (.pr q) := by rfl)
    (hd : (x == ("__debug__" : Str)) = false := by decide) (hcd : (x == ("__classdict__" : Str)) = false := by decide) : EX c (.Name x pos) S (.pr q) S := fun X hX =>
  (pe_var (i := i) (by rw [hX.N]; exact hN) (by rw [hX.sc]; exact hv) hd hcd).wk fun σ H Q ⟨B, G, st, k⟩ => by
    obtain ⟨u, eu⟩ := st.at hs
    obtain ⟨fp, o, z, dj, fr⟩ := id st.own
    obtain ⟨_, v, ev, r⟩ := o i _ u hs eu
    subst ev
    refine ⟨v, eu, k v H G (Ext.refl _ _) ⟨st.g, st.b, by simp [st.len], fun i => match i with | 0 => [] | j + 1 => fp j, fun j u y e1 e2 => ?_, fun j hj => ?_, fun j l a h1 h2 => ?_, fun j a ha => ?_⟩⟩
    · cases j with
      | zero =>
        have e1 : SV.pr q = u := Option.some.inj e1
        have e2 : some v = y := Option.some.inj e2
        subst e1; subst e2
        exact ⟨rfl, v, rfl, r⟩
      | succ j => exact o j u y (by simpa using e1) (by simpa using e2)
    · cases j with
      | zero => rfl
      | succ j => exact z j (by simpa using hj)
    · cases j with
      | zero => cases h1
      | succ j =>
        cases l with
        | zero => cases h2
        | succ l => rw [dj j l a h1 h2]
    · cases j with
      | zero => cases ha
      | succ j => exact fr j a ha
theorem Stt.headP {B G H : Hp} {σ : L2.St} {v : V} {q : V → Hp → Prop} (h : Stt B G H (.pr q :: S) (some v :: σ)) : q v G := by
  obtain ⟨fp, o, _⟩ := h.own
  obtain ⟨_, u, eu, r⟩ := o 0 _ _ rfl rfl
  cases eu
  exact r G (Same.refl _)
/-- y's value at a dict, by what both hold -/
theorem DGet.dk {G H : Hp} [Ky ek] (g : Same G H) {a : Addr} {us : List (Key × V)} (e : G a = some (.dK us)) (r : RpV G us (kvK ek ev m)) {v : V} (rk : Rp G v (ek k)) : ∃ o, DGet H a v o ∧ ((o = none ∧ dget m k = none) ∨ ∃ u d, o = some u ∧ dget m k = some d ∧ Rp G u (ev d)) := by
  have ev' := Ky.kv rk
  subst ev'
  refine ⟨_, DGet.k (g _ _ e), ?_⟩
  rcases r.get (Ky.key ek k) with ⟨h1, h2⟩ | ⟨u, d, h1, h2, h3⟩
  · rw [kvK_get] at h2
    exact .inl ⟨h1, by simpa using h2⟩
  · rw [kvK_get] at h2
    obtain ⟨d', e1, e2⟩ := Option.map_eq_some_iff.mp h2
    subst e2
    exact .inr ⟨u, d', h1, e1, h3⟩
theorem DGet.dt {G H : Hp} [Kt ek] (g : Same G H) {a : Addr} {us : List (List Key × V)} (e : G a = some (.dT us)) (r : RpV G us (kvU ek ev m)) {v : V} (rk : Rp G v (ek k)) : ∃ o, DGet H a v o ∧ ((o = none ∧ dget m k = none) ∨ ∃ u d, o = some u ∧ dget m k = some d ∧ Rp G u (ev d)) := by
  obtain ⟨b, ev', gb⟩ := Kt.kv rk
  subst ev'
  refine ⟨_, DGet.t (g _ _ e) (g _ _ gb), ?_⟩
  rcases r.get (Kt.keys ek k) with ⟨h1, h2⟩ | ⟨u, d, h1, h2, h3⟩
  · rw [kvU_get] at h2
    exact .inl ⟨h1, by simpa using h2⟩
  · rw [kvU_get] at h2
    obtain ⟨d', e1, e2⟩ := Option.map_eq_some_iff.mp h2
    subst e2
    exact .inr ⟨u, d', h1, e1, h3⟩
/-- the dict at hand: of either kind -/
def isD (ek : κ → D) (ev : β → D) (m : List (κ × β)) (q : V → Hp → Prop) : Prop := ∀ v G, q v G → ∃ a, v = .ref a ∧ (∀ H, Same G H → IsD H a) ∧ ∀ (k : κ) (y : V) (H : Hp) (G2 : Hp), Same G G2 → Same G2 H → Rp G2 y (ek k) → ∃ o, DGet H a y o ∧ ((o = none ∧ dget m k = none) ∨ ∃ u d, o = some u ∧ dget m k = some d ∧ Rp G2 u (ev d))
theorem isD_k [Ky ek] : isD ek ev m (isDk (kvK ek ev m)) := fun v G ⟨a, us, e, q, r, z⟩ => ⟨a, e, fun H g => .inl ⟨us, .inl (g _ _ q)⟩, fun k y H G2 g1 g2 rk => DGet.dk g2 (g1 _ _ q) (r.mono g1) rk⟩
theorem isD_t [Kt ek] : isD ek ev m (isDt (kvU ek ev m)) := fun v G ⟨a, us, e, q, r, z⟩ => ⟨a, e, fun H g => .inr ⟨us, .inl (g _ _ q)⟩, fun k y H G2 g1 g2 rk => DGet.dt g2 (g1 _ _ q) (r.mono g1) rk⟩
variable {q : V → Hp → Prop}
theorem CC.In.u1 {X : Cx} (h : c.In X) : X.A.units + 1 < cLine := by have := h.room.units; omega
/-- k in d -/
theorem tx_inD (hq : isD ek ev m q) (ha : EX c a S (.val (ek k)) S1) (hb : EX c b S1 (.pr q) S2) (hm : behindInMarks .In b = false := by rfl) : TX c (.Compare a [.In] [b] pos) S (dget m k).isSome S2 := fun X hX =>
  (pt_cmp (pc_din hX.u1 (ha X hX) (hb X hX)) hm).wk fun σ H Q ⟨B, G, st, kk⟩ => by
    obtain ⟨B0, st0, _⟩ : ∃ B0, Stt B0 G H S σ ∧ True := ⟨B, st, trivial⟩
    refine ⟨B, G, st, fun y H1 G1 x1 s1 => ?_⟩
    obtain ⟨B1, s1', back⟩ := s1.bracket
    refine ⟨B1, G1, s1', fun v H2 G2 x2 s2 => ?_⟩
    obtain ⟨xb, sb⟩ := back G2 H2 _ _ x2 s2.tail
    obtain ⟨av, e1, _, h3⟩ := hq v G2 s2.headP
    obtain ⟨o, g, hh⟩ := h3 k y H2 G2 (Same.refl _) s2.g (sb.headV)
    refine ⟨av, o, e1, g, ?_⟩
    have : o.isSome = (dget m k).isSome := by
      rcases hh with ⟨h1, h2⟩ | ⟨u, d, h1, h2, _⟩ <;> rw [h1, h2] <;> rfl
    rw [this]
    exact ⟨_, rfl, kk H2 G2 (x1.trans xb) sb.tail⟩
theorem tx_ninD (hq : isD ek ev m q) (ha : EX c a S (.val (ek k)) S1) (hb : EX c b S1 (.pr q) S2) (hm : behindInMarks .NotIn b = false := by rfl) : TX c (.Compare a [.NotIn] [b] pos) S (!(dget m k).isSome) S2 := fun X hX =>
  (pt_cmp (pc_dnotin hX.u1 (ha X hX) (hb X hX)) hm).wk fun σ H Q ⟨B, G, st, kk⟩ => by
    refine ⟨B, G, st, fun y H1 G1 x1 s1 => ?_⟩
    obtain ⟨B1, s1', back⟩ := s1.bracket
    refine ⟨B1, G1, s1', fun v H2 G2 x2 s2 => ?_⟩
    obtain ⟨xb, sb⟩ := back G2 H2 _ _ x2 s2.tail
    obtain ⟨av, e1, _, h3⟩ := hq v G2 s2.headP
    obtain ⟨o, g, hh⟩ := h3 k y H2 G2 (Same.refl _) s2.g (sb.headV)
    refine ⟨av, o, e1, g, ?_⟩
    have : o.isSome = (dget m k).isSome := by
      rcases hh with ⟨h1, h2⟩ | ⟨u, d, h1, h2, _⟩ <;> rw [h1, h2] <;> rfl
    rw [this]
    exact ⟨_, rfl, kk H2 G2 (x1.trans xb) sb.tail⟩
theorem ex_inD (hq : isD ek ev m q) (ha : EX c a S (.val (ek k)) S1) (hb : EX c b S1 (.pr q) S2) (hm : behindInMarks .In b = false := by rfl) : EX c (.Compare a [.In] [b] pos) S (.val (.bool (dget m k).isSome)) S2 := fun X hX =>
  (pe_cmp (pc_din hX.u1 (ha X hX) (hb X hX)) hm).wk fun σ H Q ⟨B, G, st, kk⟩ => by
    refine ⟨B, G, st, fun y H1 G1 x1 s1 => ?_⟩
    obtain ⟨B1, s1', back⟩ := s1.bracket
    refine ⟨B1, G1, s1', fun v H2 G2 x2 s2 => ?_⟩
    obtain ⟨xb, sb⟩ := back G2 H2 _ _ x2 s2.tail
    obtain ⟨av, e1, _, h3⟩ := hq v G2 s2.headP
    obtain ⟨o, g, hh⟩ := h3 k y H2 G2 (Same.refl _) s2.g (sb.headV)
    refine ⟨av, o, e1, g, ?_⟩
    have : o.isSome = (dget m k).isSome := by
      rcases hh with ⟨h1, h2⟩ | ⟨u, d, h1, h2, _⟩ <;> rw [h1, h2] <;> rfl
    rw [this]
    exact kk _ H2 G2 (x1.trans xb) (sb.tail.push (.bl _))
theorem ex_ninD (hq : isD ek ev m q) (ha : EX c a S (.val (ek k)) S1) (hb : EX c b S1 (.pr q) S2) (hm : behindInMarks .NotIn b = false := by rfl) : EX c (.Compare a [.NotIn] [b] pos) S (.val (.bool (!(dget m k).isSome))) S2 := fun X hX =>
  (pe_cmp (pc_dnotin hX.u1 (ha X hX) (hb X hX)) hm).wk fun σ H Q ⟨B, G, st, kk⟩ => by
    refine ⟨B, G, st, fun y H1 G1 x1 s1 => ?_⟩
    obtain ⟨B1, s1', back⟩ := s1.bracket
    refine ⟨B1, G1, s1', fun v H2 G2 x2 s2 => ?_⟩
    obtain ⟨xb, sb⟩ := back G2 H2 _ _ x2 s2.tail
    obtain ⟨av, e1, _, h3⟩ := hq v G2 s2.headP
    obtain ⟨o, g, hh⟩ := h3 k y H2 G2 (Same.refl _) s2.g (sb.headV)
    refine ⟨av, o, e1, g, ?_⟩
    have : o.isSome = (dget m k).isSome := by
      rcases hh with ⟨h1, h2⟩ | ⟨u, d, h1, h2, _⟩ <;> rw [h1, h2] <;> rfl
    rw [this]
    exact kk _ H2 G2 (x1.trans xb) (sb.tail.push (.bl _))
/-- d[k] -/
theorem ex_ixDict [Inhabited β] (hq : isD ek ev m q) (ha : EX c a S (.pr q) S1) (hb : EX c b S1 (.val (ek k)) S2) (h : (dget m k).isSome = true) (hs : NoSl b := by intro _ _; rfl) : EX c (.Subscript a b pos) S (.val (ev ((dget m k).getD default))) S2 := fun X hX =>
  (pe_dget hX.u1 (ha X hX) (hb X hX) hs).wk fun σ H Q ⟨B, G, st, kk⟩ => by
    refine ⟨B, G, st, fun v H1 G1 x1 s1 => ?_⟩
    obtain ⟨av, e1, _, h3⟩ := hq v G1 s1.headP
    obtain ⟨B1, s1', back⟩ := s1.bracket
    refine ⟨B1, G1, s1', fun y H2 G2 x2 s2 => ?_⟩
    obtain ⟨xb, sb⟩ := back G2 H2 _ _ x2 s2.tail
    obtain ⟨o, g, hh⟩ := h3 k y H2 G2 x2.1 s2.g s2.headV
    rcases hh with ⟨h1, h2⟩ | ⟨u, d, h1, h2, h4⟩
    · rw [h2] at h; cases h
    · rw [h1] at g
      refine ⟨av, u, e1, g, ?_⟩
      rw [h2] at kk
      exact kk u H2 G2 (x1.trans xb) (sb.tail.push h4)
/-- what must be seen of the text of o.m(e) -/
structure MC1 (o : Expr) (m : Str) (apos : Pos) (e : Expr) (cpos : Pos) : Prop where
  base : ∀ env, attributeBase o m env (eval o env) = eval o env
  few : ∀ env, ((backTo cpos (starEach [e] env)).all (fun x => !x.1) && (backToKw cpos (keywordEach [] env)).all (fun x => x.1.isSome) && decide (([e] : List Expr).length + ([] : List Keyword).length + (if ([] : List Keyword).isEmpty then 0 else 1) < 30)) = true
  line : (apos.endLine == cpos.line) = true
  trees : ∀ env, backTo cpos (starEach [e] env) = [(false, eval e env)]
theorem MC1.at {o : Expr} {m : Str} (h : MC1 o m apos e cpos) (X : Cx) : M1 X o m apos e cpos := ⟨h.base _, h.few _, h.line, h.trees _⟩
/-- d.get(k) -/
theorem ex_get (hq : isD ek ev m q) (ha : EX c a S (.pr q) S1) (hb : EX c b S1 (.val (ek k)) S2) (h : MC1 a "get" apos b cpos := by exact ⟨fun _ => rfl, fun _ => rfl, rfl, fun _ => rfl⟩) : EX c (.Call (.Attribute a "get" apos) [b] [] cpos) S (.val (eO ev (dget m k))) S2 := fun X hX =>
  (pe_dget1 hX.u1 (ha X hX) (hb X hX) (h.at X)).wk fun σ H Q ⟨B, G, st, kk⟩ => by
    refine ⟨B, G, st, fun v H1 G1 x1 s1 => ?_⟩
    obtain ⟨av, e1, h2, h3⟩ := hq v G1 s1.headP
    obtain ⟨B1, s1', back⟩ := s1.bracket
    refine ⟨av, e1, h2 _ s1.g, B1, G1, s1', fun y H2 G2 x2 s2 => ?_⟩
    obtain ⟨xb, sb⟩ := back G2 H2 _ _ x2 s2.tail
    obtain ⟨o, g, hh⟩ := h3 k y H2 G2 x2.1 s2.g s2.headV
    refine ⟨o, g, kk _ H2 G2 (x1.trans xb) (sb.tail.push ?_)⟩
    rcases hh with ⟨h1, h2⟩ | ⟨u, d, h1, h2, h4⟩
    · rw [h1, h2]; exact .non
    · rw [h1, h2]; exact h4
/-! ### made, written -/
def sK (ek : κ → D) [Ky ek] (ev : β → D) (m : List (κ × β)) : SV := .dk (kvK ek ev m)
def sU (ek : κ → D) [Kt ek] (ev : β → D) (m : List (κ × β)) : SV := .dt (kvU ek ev m)
def pK (ek : κ → D) [Ky ek] (ev : β → D) (m : List (κ × β)) : SV := .pr (isDk (kvK ek ev m))
def pU (ek : κ → D) [Kt ek] (ev : β → D) (m : List (κ × β)) : SV := .pr (isDt (kvU ek ev m))
theorem ex_dnewK [Ky ek] : EX c (.Dict [] [] pos) S (sK ek ev ([] : List (κ × β))) S := fun X hX => pe_dnewK.wk fun σ H Q ⟨B, G, st, k⟩ p hp =>
  k (.ref p) _ G (Ext.refl _ _) (st.newDk hp .nil (Nat.zero_le _))
theorem ex_dnewU [Kt ek] : EX c (.Dict [] [] pos) S (sU ek ev ([] : List (κ × β))) S := fun X hX => pe_dnewT.wk fun σ H Q ⟨B, G, st, k⟩ p hp =>
  k (.ref p) _ G (Ext.refl _ _) (st.newDt hp .nil (Nat.zero_le _))
variable {v : β}
/-- {k: v} -/
theorem ex_disp1K [Ky ek] (ha : EX c a S (.val (ek k)) S1) (hb : EX c b S1 (.val (ev v)) S2) : EX c (.Dict [some a] [b] pos) S (sK ek ev [(k, v)]) S2 := fun X hX =>
  (pe_disp (pps_cons (ha X hX) (hb X hX) pps_nil) rfl rfl (by simp) (by simp)).wk fun σ H Q ⟨B, G, st, kk⟩ p hp => by
    have s0 : Stt B G (upd H p (.dK [])) (.dk [] :: S) (some (.ref p) :: σ) := st.newDk hp .nil (Nat.zero_le _)
    obtain ⟨B0, s0', back0⟩ := s0.bracket
    refine ⟨B0, G, s0', fun y H1 G1 x1 s1 => ?_⟩
    obtain ⟨B1, s1', back1⟩ := s1.bracket
    refine ⟨B1, G1, s1', fun z H2 G2 x2 s2 => ?_⟩
    have rv := s2.headV
    obtain ⟨xb, sb⟩ := back1 G2 H2 _ _ x2 s2.tail
    have rk := sb.headV
    obtain ⟨xc, sc⟩ := back0 G2 H2 _ _ (x1.trans xb) sb.tail
    obtain ⟨a', us, e1, e2, r, z', up⟩ := sc.updK (i := 0) rfl
    cases e1
    cases r
    have ey := Ky.kv rk
    subst ey
    refine ⟨e2, [(Ky.key ek k, z)], rfl, by simp, kk _ _ G2 xc ?_⟩
    exact up [(Ky.key ek k, z)] (kvK ek ev [(k, v)]) (.cons ⟨rfl, rv⟩ .nil) (by rw [kvK_length]; exact Nat.le_trans (by simp) (le_line (n := 1) (by decide)))
/-- y[k] = v -/
def HasAs (o : Expr) (e : Expr) (pos : Pos) : Prop := ∀ env v, assign (.Subscript o e pos) env v = (do
      let ov ← holding [v] (eval o env)
      let iv ← holding [v, ov] (eval e env)
      standAt pos
      holding [v, ov, iv] (setItem ov iv v)
      release [v, ov, iv] [])
theorem gx_setK [Ky ek] {vs : List Nat} {m0 : List (Key × D)} (hj : EX c e S (.val (ek k)) S1) (hN : c.N[i]? = some y := by rfl) (hv : Vis c.sc y := by first | exact Or.inl rfl | exact Or.inr (Or.inl rfl) | exact Or.inr (Or.inr rfl)) (h0 : S[i]? = some (.dk m0) := by rfl) (h1 : S1[i]? = some (sK ek ev m) := by rfl) (hz : m.length < sizeLine)
    (hd : (y == ("__debug__" : Str)) = false := by decide) (hcd : (y == ("__classdict__" : Str)) = false := by decide) (has : HasAs (.Name y py) e pos := by intro _ _; rfl) : GX c (.Subscript (.Name y py) e pos) vs S (.val (ev v)) (S1.set i (sK ek ev (dput m k v))) := fun X hX =>
  (pg_sub (pe_var (i := i) (by rw [hX.N]; exact hN) (by rw [hX.sc]; exact hv) hd hcd) (hj X hX) (set_dict hX.u1) (has _)).wk fun u σ H Q ⟨B, G, st, kk⟩ => by
    obtain ⟨a, us0, e1, _⟩ := st.tail.updK h0
    obtain ⟨B1, s0, back⟩ := st.bracket
    refine ⟨.ref a, e1, B1, G, s0, fun yk H1 G1 x1 s1 => ?_⟩
    have ey := Ky.kv s1.headV
    subst ey
    obtain ⟨xb, sb⟩ := back G1 H1 _ _ x1 s1.tail
    have rv := sb.headV
    obtain ⟨a', us, e2, e3, r, z, up⟩ := sb.tail.updK h1
    rw [e1] at e2; cases e2
    have hl : us.length < sizeLine := by rw [r.length, kvK_length]; exact hz
    refine ⟨a, _, rfl, DPut.k e3 hl, kk σ _ G1 xb rfl ?_⟩
    have q := r.put (Ky.key ek k) rv
    rw [kvK_put] at q
    exact up _ _ q (by rw [kvK_length]; exact Nat.le_trans (dput_length m k v) hz)
theorem gx_setU [Kt ek] {vs : List Nat} {m0 : List (List Key × D)} (hj : EX c e S (.val (ek k)) S1) (hN : c.N[i]? = some y := by rfl) (hv : Vis c.sc y := by first | exact Or.inl rfl | exact Or.inr (Or.inl rfl) | exact Or.inr (Or.inr rfl)) (h0 : S[i]? = some (.dt m0) := by rfl) (h1 : S1[i]? = some (sU ek ev m) := by rfl) (hz : m.length < sizeLine)
    (hd : (y == ("__debug__" : Str)) = false := by decide) (hcd : (y == ("__classdict__" : Str)) = false := by decide) (has : HasAs (.Name y py) e pos := by intro _ _; rfl) : GX c (.Subscript (.Name y py) e pos) vs S (.val (ev v)) (S1.set i (sU ek ev (dput m k v))) := fun X hX =>
  (pg_sub (pe_var (i := i) (by rw [hX.N]; exact hN) (by rw [hX.sc]; exact hv) hd hcd) (hj X hX) (set_dict hX.u1) (has _)).wk fun u σ H Q ⟨B, G, st, kk⟩ => by
    obtain ⟨a, us0, e1, _⟩ := st.tail.updT h0
    obtain ⟨B1, s0, back⟩ := st.bracket
    refine ⟨.ref a, e1, B1, G, s0, fun yk H1 G1 x1 s1 => ?_⟩
    obtain ⟨b, ey, eb⟩ := Kt.kv s1.headV
    subst ey
    obtain ⟨xb, sb⟩ := back G1 H1 _ _ x1 s1.tail
    have rv := sb.headV
    obtain ⟨a', us, e2, e3, r, z, up⟩ := sb.tail.updT h1
    rw [e1] at e2; cases e2
    have hl : us.length < sizeLine := by rw [r.length, kvU_length]; exact hz
    refine ⟨a, _, rfl, DPut.t e3 (s1.g _ _ eb) hl, kk σ _ G1 xb rfl ?_⟩
    have q := r.put (Kt.keys ek k) rv
    rw [kvU_put] at q
    exact up _ _ q (by rw [kvU_length]; exact Nat.le_trans (dput_length m k v) hz)
end
/-! ### y.update(d) -/
def rUpdK : V → List V → Hp → VK → Prop := fun x vs H Q => ∃ a b us ns, x = .ref a ∧ vs = [.ref b] ∧ H a = some (.dK us) ∧ H b = some (.dK ns) ∧ a ≠ b ∧ us.length + ns.length ≤ sizeLine ∧ Q .non (upd H a (.dK (ns.foldl (fun q p => putK q p.1 p.2) us)))
theorem mt_updK {X : Cx} : MtM X "dict.update" rUpdK := by
  intro pins s σ H x vs v us Q I rx rv h
  obtain ⟨a, b, ms, ns, rfl, rfl, ha, hb, ne, hz, q⟩ := h
  cases rx
  obtain ⟨u, rfl, ru⟩ := rv.one
  cases ru
  obtain ⟨z1, lo1, v1, k1, d1⟩ := dk_of I.hok ha
  obtain ⟨z2, lo2, v2, k2, d2⟩ := dk_of I.hok hb
  have hl : (mergeK ms ns).length ≤ sizeLine := Nat.le_trans (length_mergeK ns ms) hz
  refine call_meetsIn PySem.F.slot_dict_update d1.typeIs PySem.F.entry_dict_update (PySem.F.args_dict_update_2 _ _) (meets_dict_update (mixKind X.prog X.w) a b ne lo2) ⟨v1, v2, d1, d2, by rw [← k1.length, ← k2.length]; exact hz, fun h' m1 _ sb => ?_⟩
  have he : ∃ q, h'.get? a = some q := let ⟨q, _, _, hq, _⟩ := m1; ⟨q, hq⟩
  exact ⟨.non, _, d_write (t' := s.toks) I (by rw [ha]; exact True.intro) sb he (dk_new hl lo1 (k2.merge k1) m1), rfl, q⟩
section
variable {c : CC} {e : Expr} {S S1 : List SV} {y : Str} {i : Nat} {py apos cpos : Pos} {κ β : Type} [DecidableEq κ] {ek : κ → D} {ev : β → D} {m n : List (κ × β)} {m0 : List (Key × D)}
theorem ex_updK [Ky ek] (ha : EX c e S (pK ek ev n) S1) (hN : c.N[i]? = some y := by rfl) (hv : Vis c.sc y := by first | exact Or.inl rfl | exact Or.inr (Or.inl rfl) | exact Or.inr (Or.inr rfl)) (h0 : S[i]? = some (.dk m0) := by rfl) (h1 : S1[i]? = some (sK ek ev m) := by rfl) (hz : m.length + n.length ≤ sizeLine)
    (hd : (y == ("__debug__" : Str)) = false := by decide) (hcd : (y == ("__classdict__" : Str)) = false := by decide) (h : MC1 (.Name y py) "update" apos e cpos := by exact ⟨fun _ => rfl, fun _ => rfl, rfl, fun _ => rfl⟩)
    (hs : ∀ env, starEach [e] env = (false, eval e env) :: starEach [] env := by intro _; rfl) (hp : ∀ env, (backTo cpos (starEach [] env)).any (·.1) = false := by intro _; rfl) :
    EX c (.Call (.Attribute (.Name y py) "update" apos) [e] [] cpos) S (.val .none) (S1.set i (sK ek ev (dmerge m n))) := fun X hX =>
  (pe_bm PySem.F.plainAttrs_dict PySem.F.slot_dict_update PySem.F.type_dict_update mt_updK (pe_var (i := i) (by rw [hX.N]; exact hN) (by rw [hX.sc]; exact hv) hd hcd) (pa_cons (ha X hX) pa_nil (hs _)) (h.base _) (h.few _) h.line (hs _) (hp _)).wk fun σ H Q ⟨B, G, st, k⟩ => by
    obtain ⟨a, us0, e1, e2, _⟩ := st.updK h0
    refine ⟨.ref a, e1, .inr (.inr (.inl ⟨rfl, .inl ⟨_, e2⟩⟩)), B, G, st, fun u H1 G1 x1 s1 => ?_⟩
    obtain ⟨b, ns, rfl, eb, rb, zb⟩ := s1.headP
    obtain ⟨a', us, e3, e4, r, z, up⟩ := s1.tail.updK h1
    rw [e1] at e3; cases e3
    have ne : a ≠ b := by
      rintro rfl
      obtain ⟨fp, o, _, _, fr⟩ := s1.own
      have q := o (i + 1) _ _ (by simpa using h1) (by simpa using e1)
      obtain ⟨a2, _, q1, q2, _⟩ := q
      cases q1
      have := (fr (i + 1) a (by rw [q2]; simp)).1
      rw [this] at eb; cases eb
    refine ⟨a, b, us, ns, rfl, rfl, e4, s1.g _ _ eb, ne, by rw [r.length, rb.length, kvK_length, kvK_length]; exact hz, ?_⟩
    have q := rb.merge r
    rw [kvK_merge] at q
    have s2 := up _ _ q (by rw [kvK_length]; exact Nat.le_trans (dmerge_length n m) hz)
    exact k .non _ G1 x1 (s2.push .non)
end
end DL

/-! DL, part m: dict comprehensions over keys that are ints or texts. -/
namespace DL
open PySem PySem.Spec PyProof.Rows L2
section
variable {c : CC} {tg iter kx vx t : Expr} {ifs : List Expr} {scope : Scope} {S S0 S1 S' Sn : List SV} {pos : Pos} {vs : List Nat} {ds : List D} {res : List (Key × D)}
/-- a turn: what is drawn, whether it is taken, the pair that is made -/
structure TurnK (cb : CC) (tg kx vx : Expr) (ifs : List Expr) (vs : List Nat) (Iv : Nat → List (Key × D) → List SV → Prop) (i : Nat) (d : D) (acc : List (Key × D)) (S : List SV) : Prop where
  ex : ∃ S3, GX cb tg vs S (.val d) S3 ∧ ∃ k S4, TsX cb ifs S3 k S4 ∧ (k = true → ∃ kk d' S5 S6, EX cb kx S4 (.val (kD kk)) S5 ∧ EX cb vx S5 (.val d') S6 ∧ ∃ S7, Imp (wipeS S6 vs) S7 ∧ Iv (i + 1) (dput acc kk d') S7) ∧ (k = false → ∃ S6, Imp (wipeS S4 vs) S6 ∧ Iv (i + 1) acc S6)
theorem kD_val {G : Hp} {v : V} : ∀ {k : Key}, Rp G v (kD k) → v = kV k
  | .inl i, r => by cases r; rfl
  | .inr x, r => by cases r; rfl
theorem dc_reads (Iv : Nat → List (Key × D) → List SV → Prop) (h0 : ∃ S1, Imp (wipeS S0 vs) S1 ∧ Iv 0 [] S1)
    (hb : ∀ i d acc S, ds[i]? = some d → acc.length ≤ i → Iv i acc S → TurnK (c.blk scope) tg kx vx ifs vs Iv i d acc S) (hd : ∀ acc S, Iv ds.length acc S → acc = res ∧ S = Sn) :
    ∀ σ H Q, tD S (.dk res) (unwipe S0 Sn vs) σ H Q → tDc (tI S ds S0) (tGU (c.blk scope) tg vs) (tTs (c.blk scope) ifs) (tDU (c.blk scope) kx) (tDU (c.blk scope) vx) vs σ H Q := by
  rintro σ H Q ⟨B, G, st, k⟩
  refine ⟨B, G, st, fun J H1 G1 x s1 wk D hD => ?_⟩
  obtain ⟨S1, i1, v1⟩ := h0
  obtain ⟨G1', x1', s1'⟩ := i1 B G1 H1 _ (s1.wipe vs)
  refine ⟨fun i m H' => m = ds.length - i ∧ i ≤ ds.length ∧ ∃ G' S' acc, Ext B G G' ∧ Same G1 G' ∧ Stt B G' H' (.dk acc :: S') (some (.ref D) :: L2.wipe σ vs) ∧ acc.length ≤ i ∧ Iv i acc S',
    ⟨ds.length, by simp, Nat.zero_le _, G1', S1, [], x.trans x1', x1'.1, s1'.newDk hD .nil (Nat.zero_le _), Nat.zero_le _, v1⟩, ?_⟩
  rintro i m H' ⟨rfl, hi, G', S', acc, x', g', s', ha, v'⟩
  have gH : Same G1 H' := g'.trans s'.g
  by_cases hlt : i < ds.length
  · have hdi : ds[i]? = some ds[i] := by simp [hlt]
    obtain ⟨S3, g3, kk, S4, t4, yes, no⟩ := (hb i ds[i] acc S' hdi ha v').ex
    refine .inr ⟨wk.goes i H' hlt gH, fun H2 => ∃ G2 S2 acc2, Ext B G G2 ∧ Same G1 G2 ∧ Stt B G2 H2 (.dk acc2 :: S2) (some (.ref D) :: L2.wipe σ vs) ∧ acc2.length ≤ i + 1 ∧ Iv (i + 1) acc2 S2, fun H2 q => ⟨ds.length - (i + 1), by omega, rfl, hlt, q⟩, fun xv H3 y => ?_⟩
    obtain ⟨G3, x3, s3⟩ := wk.yields i ds[i] xv H' H3 hdi gH y B G' _ _ g' s'
    obtain ⟨B1, s3', back⟩ := s3.swap.bracket
    refine ⟨S', .val ds[i], S3, g3, B1, G3, s3', fun σ4 H4 G4 x4 hw s4 => ⟨hw.trans (wipe_wipe _ _), ?_⟩⟩
    rw [wipe_wipe] at hw
    have fin : ∀ {G5 H5 acc5 S5}, Ext B G G5 → Same G1 G5 → Stt B G5 H5 (.dk acc5 :: S5) (some (.ref D) :: σ4) → acc5.length ≤ i + 1 → (∃ S6, Imp (wipeS S5 vs) S6 ∧ Iv (i + 1) acc5 S6) →
        ∃ G2 S2 acc2, Ext B G G2 ∧ Same G1 G2 ∧ Stt B G2 H5 (.dk acc2 :: S2) (some (.ref D) :: L2.wipe σ vs) ∧ acc2.length ≤ i + 1 ∧ Iv (i + 1) acc2 S2 := by
      rintro G5 H5 acc5 S5 x5 g5 s5 hl ⟨S6, i6, v6⟩
      obtain ⟨G6, x6, s6⟩ := s5.onTail (T := S6) (τ := L2.wipe σ vs) fun B2 q => by
        have q2 := q.wipe vs
        rw [hw] at q2
        exact i6 B2 G5 H5 _ q2
      exact ⟨G6, S6, acc5, x5.trans x6, g5.trans x6.1, s6, hl, v6⟩
    refine tTs_run t4 s4 fun H5 G5 x5 s5 => ?_
    cases kk with
    | false =>
      refine iteF ?_
      obtain ⟨xb, sb⟩ := back G5 H5 _ _ (x4.trans x5) s5
      exact fin ((x'.trans x3).trans xb) ((g'.trans x3.1).trans xb.1) sb (Nat.le_succ_of_le ha) (no rfl)
    | true =>
      refine iteT ?_
      obtain ⟨key, d', S5, S6, e5, e6, S7, i7, v7⟩ := yes rfl
      refine ⟨S4, .val (kD key), S5, e5, B1, G5, s5, fun yk H6 G6 x6 s6 => ?_⟩
      obtain ⟨B2, s6', back2⟩ := s6.bracket
      refine ⟨S5, .val d', S6, e6, B2, G6, s6', fun yv H7 G7 x7 s7 => ?_⟩
      have ry : Rp G7 yv d' := s7.headV
      obtain ⟨xc, sc⟩ := back2 G7 H7 _ _ x7 s7.tail
      have ek := kD_val sc.headV
      subst ek
      obtain ⟨xb, sb⟩ := back G7 H7 _ _ (((x4.trans x5).trans x6).trans xc) sc.tail
      obtain ⟨a, us, ea, eu, ru, _, up⟩ := sb.updK (i := 0) rfl
      cases ea
      have hz := wk.line
      have dl := dput_length acc key d'
      refine ⟨us, key, rfl, eu, by rw [ru.length]; omega, ?_⟩
      exact fin ((x'.trans x3).trans xb) ((g'.trans x3.1).trans xb.1) (up (putK us key yv) (dput acc key d') (ru.put key ry) (by omega)) (by omega) ⟨S7, i7, v7⟩
  · obtain rfl : i = ds.length := by omega
    refine .inl ⟨wk.stops H' gH, ?_⟩
    obtain ⟨rfl, rfl⟩ := hd acc S' v'
    obtain ⟨G6, x6, s6⟩ := s'.onTail (T := unwipe S0 S' vs) (τ := σ) fun B2 q => by
      refine ⟨G', Ext.refl _ _, ?_⟩
      refine q.alter (wipe_length _ _).symm (unwipe_length _ _ _) fun j w e => ?_
      rcases unwipe_get S0 S' vs j w e with ⟨h1, h2⟩ | ⟨h1, h2⟩
      · exact .inr (.inl ⟨h2, by rw [wipe_get, if_neg h1]⟩)
      · rcases h2 with q | ⟨d, q, e0⟩
        · exact .inl q
        · obtain ⟨v, ev, r⟩ := s1.val e0
          exact .inr (.inr ⟨d, v, q, ev, r.mono g'⟩)
    exact k _ H' G6 (x'.trans x6) s6
theorem ex_dc {own : List (Str × Nat)} (Iv : Nat → List (Key × D) → List SV → Prop) (nd : c.N.Nodup) (ok : BlkOk c.N c.sc scope own) (hi : IX c tg iter S ds S0) (h0 : ∃ S1, Imp (wipeS S0 (own.map (·.2))) S1 ∧ Iv 0 [] S1)
    (hb : ∀ i d acc S, ds[i]? = some d → acc.length ≤ i → Iv i acc S → TurnK (c.blk scope) tg kx vx ifs (own.map (·.2)) Iv i d acc S) (hd : ∀ acc S, Iv ds.length acc S → acc = res ∧ S = Sn)
    (hs : ∀ env x, foldedSetIterable iter env x = pure x := by intro _ _; rfl) : EX c (.DictComp kx vx [⟨tg, iter, ifs, 0⟩] scope pos) S (.dk res) (unwipe S0 Sn (own.map (·.2))) := fun X hX =>
  (pe_dc hX.calm (by rw [hX.N]; exact nd) (hi X hX) (by rw [hX.N, hX.sc]; exact ok) (fun s H C cl fp => pg_U (hX.blk s H scope cl C fp)) (fun s H C cl fp => pts_U (hX.blk s H scope cl C fp)) (fun s H C cl fp => pe_U (hX.blk s H scope cl C fp)) (fun s H C cl fp => pe_U (hX.blk s H scope cl C fp)) (hs _)).wk (dc_reads Iv h0 hb hd)
variable {α κ β : Type} [DecidableEq κ] {en : α → D} {ek : κ → D} {ev : β → D} {xs : List α}
/-- a turn whose parts change nothing -/
structure PureDc (cb : CC) (tg kx vx : Expr) (ifs : List Expr) (vs : List Nat) (Sw : List SV) (en : α → D) (ek : κ → D) (ev : β → D) (S3 : α → List SV) (p : α → Bool) (f : α → κ) (g : α → β) (x : α) : Prop where
  gx : GX cb tg vs Sw (.val (en x)) (S3 x)
  t : TsX cb ifs (S3 x) (p x) (S3 x)
  k : p x = true → EX cb kx (S3 x) (.val (ek (f x))) (S3 x)
  v : p x = true → EX cb vx (S3 x) (.val (ev (g x))) (S3 x)
/-- {f x: g x for x in xs if p x} -/
def dictOf (xs : List α) (p : α → Bool) (f : α → κ) (g : α → β) : List (κ × β) := (xs.filter p).foldl (fun m x => dput m (f x) (g x)) []
theorem dictOf_snoc (xs : List α) (x : α) (p : α → Bool) (f : α → κ) (g : α → β) : dictOf (xs ++ [x]) p f g = if p x = true then dput (dictOf xs p f g) (f x) (g x) else dictOf xs p f g := by
  unfold dictOf
  rw [List.filter_append]
  by_cases h : p x = true
  · rw [if_pos h]; simp [h]
  · rw [if_neg h]; simp [h]
theorem ex_dcK [Ky ek] {own : List (Str × Nat)} {Sw : List SV} {S3 : α → List SV} {p : α → Bool} {f : α → κ} {g : α → β} (nd : c.N.Nodup) (ok : BlkOk c.N c.sc scope own) (hi : IX c tg iter S (xs.map en) S0) (h : ∀ x ∈ xs, PureDc (c.blk scope) tg kx vx ifs (own.map (·.2)) Sw en ek ev S3 p f g x)
    (hS : wipeS S0 (own.map (·.2)) = Sw := by rfl) (hw : ∀ x, wipeS (S3 x) (own.map (·.2)) = Sw := by intro _; rfl) (hs : ∀ env x, foldedSetIterable iter env x = pure x := by intro _ _; rfl) : EX c (.DictComp kx vx [⟨tg, iter, ifs, 0⟩] scope pos) S (sK ek ev (dictOf xs p f g)) (unwipe S0 Sw (own.map (·.2))) := by
  refine ex_dc (fun i acc S => acc = kvK ek ev (dictOf (xs.take i) p f g) ∧ S = Sw) nd ok hi ⟨Sw, by rw [hS]; exact Imp.refl _, rfl, rfl⟩ ?_ (fun acc S ⟨e1, e2⟩ => ⟨by rw [e1, List.length_map, List.take_length], e2⟩) hs
  rintro i d acc S hd _ ⟨rfl, rfl⟩
  obtain ⟨x, hx, rfl⟩ := map_get hd
  have hq := h x (List.mem_of_getElem? hx)
  refine ⟨S3 x, hq.gx, p x, S3 x, hq.t, fun hp => ⟨Ky.key ek (f x), ev (g x), S3 x, S3 x, ?_, hq.v hp, _, (hw x).symm ▸ Imp.refl _, ?_, rfl⟩, fun hp => ⟨_, (hw x).symm ▸ Imp.refl _, ?_, rfl⟩⟩
  · rw [← Ky.eq (e := ek)]; exact hq.k hp
  · rw [take_succ hx, dictOf_snoc, if_pos hp, kvK_put]
  · rw [take_succ hx, dictOf_snoc, hp, if_neg (by simp)]
end
/-! ### a dict's keys -/
section
variable {c : CC} {e : Expr} {S S1 : List SV} {p pos : Pos} {κ β : Type} [DecidableEq κ] {ek : κ → D} {ev : β → D} {m : List (κ × β)}
def dkeys (m : List (κ × β)) : List κ := m.map (·.1)
theorem RpV.keysK {G : Hp} [Ky ek] {us : List (Key × V)} (r : RpV G us (kvK ek ev m)) : RpA G (us.map fun kv => kV kv.1) ((dkeys m).map ek) := by
  induction m generalizing us with
  | nil => cases r; exact .nil
  | cons q m ih =>
    cases r with
    | @cons a b as bs h t =>
      refine .cons ?_ (ih t)
      rw [Ky.eq (e := ek), ← show a.1 = Ky.key ek q.1 from h.1]
      show Rp G (kV a.1) (kD a.1)
      cases a.1 with
      | inl i => exact .int i
      | inr x => exact .str x
/-- list(d) -/
theorem ex_listD [Bt c] [Ky ek] (h : EX c e S (pK ek ev m) S1) (hg : GlC c "list" := by rfl) (hs : ∀ env, starEach [e] env = (false, eval e env) :: starEach [] env := by intro _; rfl) : EX c (.Call (.Name "list" p) [e] [] pos) S (.lst ((dkeys m).map ek)) S1 :=
  ex_callTy (w := .lst ((dkeys m).map ek)) (ws := [pK ek ev m]) (fun X hX => ⟨_, call_listD hX.calm, fun B G H S σ vs Q hl st k => by
    obtain ⟨v, rfl⟩ : ∃ v, vs = [v] := match vs, hl with | [v], _ => ⟨v, rfl⟩
    have st : Stt B G H (pK ek ev m :: S) (some v :: σ) := st
    obtain ⟨a, us, rfl, ea, r, z⟩ := st.headP
    refine ⟨a, us, rfl, .inl (st.g _ _ ea), fun q hq => k _ _ G (Ext.refl _ _) (st.tail.newLst hq r.keysK ?_)⟩
    rw [kvK_length] at z
    simpa [dkeys] using z⟩) (ax_cons h ax_nil hs) (by decide +kernel) (by decide +kernel) hg (he := hs)
end
end DL

/-! DL, part n: enumerate and zip, over lists and tuples alike. -/
namespace PySem
open Sem (wp)
set_option maxHeartbeats 1000000 in
theorem dl_new_enum {v : Value} {o : Obj} {Hd : Heap → Prop} (B : Begins v o Hd) : Meets (Builtin.«enumerate.__new__» ⟨[.type "enumerate", v], []⟩) (fun _ R s => Hd s.heap ∧
    R (.ok (.ret (.ref (s.heap.push o).objs.size))) { s with heap := (s.heap.push o).push ⟨.type "enumerate", .none, .fields #[.none, .bool false, .ref s.heap.objs.size, rawInt 0, .none, .none], #[]⟩ }) := .of_wp fun P w A R s h => by
  obtain ⟨hp, gn, dr, tk, os⟩ := s
  obtain ⟨hb, hr⟩ := h
  have isEnum := sub_enumerate
  have it : ∀ {A' : Around} {E Q : Value → Shared → Prop}, Q (.ref hp.objs.size) ⟨hp.push o, gn, dr, tk, os⟩ → wpAny (model P w) A' (pyIter v) Q E ⟨hp, gn, dr, tk, os⟩ := fun q => B.iter P w _ _ ⟨hp, gn, dr, tk, os⟩ _ hb q
  wp_walk using it
  refine wpAny_stack_any fun _ => wpAny_pure ?_
  split
  next cl _ _ _ _ _ =>
    cases hc : (cl == Value.type "enumerate") <;> (simp only [hc]; wp_walk using it; exact ⟨_, rfl, hr⟩)
  next =>
    wp_walk using it
    exact ⟨_, rfl, hr⟩
theorem dl_call_enum {P : Program} {w : World} {A : Around} {E Q : Value → Shared → Prop} {s : Shared} {v : Value} {o : Obj} {Hd : Heap → Prop} (B : Begins v o Hd) (hb : Hd s.heap)
    (k : ∀ h, IsEnum h (s.heap.objs.size + 1) s.heap.objs.size 0 .none → h.get? s.heap.objs.size = some o → (∀ b u, s.heap.get? b = some u → h.get? b = some u) → Q (.ref (s.heap.objs.size + 1)) { s with heap := h }) : wpAny (model P w) A (call (.type "enumerate") [v]) Q E s := by
  refine callType_new F.called_enumerate (by decide) (F.typeCall_enumerate_1 _) (F.newCall_enumerate_1 _) (fun _ => F.args_object_init_2 _ _) F.entry_enumerate_new (dl_new_enum B) ⟨hb, ?_⟩
  have z : (s.heap.push o).objs.size = s.heap.objs.size + 1 := Heap.size_push ..
  generalize he : ((s.heap.push o).push ⟨.type "enumerate", .none, .fields #[.none, .bool false, .ref s.heap.objs.size, rawInt 0, .none, .none], #[]⟩) = h
  have e1 : IsEnum h (s.heap.objs.size + 1) s.heap.objs.size 0 .none := by
    rw [← he, ← z]
    exact Heap.get?_push_size _ rfl
  show (Shared.TypeIs _ _ _) ∧ _
  rw [z]
  exact ⟨⟨_, e1, rfl⟩, k h e1 (by rw [← he]; exact Heap.get?_push_of_some _ (Heap.get?_push_size _ B.free)) fun b u q => by rw [← he]; exact Heap.get?_push_of_some _ (Heap.get?_push_of_some _ q)⟩
end PySem
namespace DL
open PySem PySem.Spec PyProof.Rows L2
/-! ### what is walked: a list, or a tuple -/
structure SeqIt (P : Program) (w : World) (a : Addr) (xs : List V) where
  o : Obj
  hd : Heap → Prop
  ic : Addr → Nat → Heap → Prop
  begins : Begins (.ref a) o hd
  draws : ∀ A : Around, A.handled = none → ∀ it, a ≠ it → Draws P w A it [it, a] xs.length (fun i v => ∃ x, xs[i]? = some x ∧ RelV x v) (fun i h => ic it i h ∧ hd h)
  start : ∀ it (h : Heap), h.get? it = some o → ic it 0 h
  icObj : ∀ it i h, ic it i h → ∃ ob, h.get? it = some ob ∧ ∀ v, ob.data ≠ .cell v
  icKeep : ∀ it i h h', ic it i h → (∀ ob, h.get? it = some ob → h'.get? it = some ob) → ic it i h'
theorem vals_get' {xs : List V} {its : List Value} (r : Vals xs its) : ∀ {i : Nat} {u : Value}, its[i]? = some u → ∃ x, xs[i]? = some x ∧ RelV x u := by
  induction r with
  | nil => intro i u h; simp at h
  | cons r t ih =>
    intro i u h
    cases i with
    | zero =>
      cases (Option.some.inj h)
      exact ⟨_, rfl, r⟩
    | succ i => exact ih (i := i) (by simpa using h)
def drawsR {P : Program} {w : World} {A : Around} {it a : Addr} {xs : List V} {ic : Nat → Heap → Prop} {hd : Array Value → Heap → Prop} (D : ∀ items : Array Value, Draws P w A it [it, a] items.size (fun i v => items[i]? = some v) (fun i h => ic i h ∧ hd items h)) :
    Draws P w A it [it, a] xs.length (fun i v => ∃ x, xs[i]? = some x ∧ RelV x v) (fun i h => ic i h ∧ ∃ its : List Value, Vals xs its ∧ hd its.toArray h) where
  live := fun i h ⟨s1, its, _, s2⟩ => (D its.toArray).live i h ⟨s1, s2⟩
  frame := fun i h h' ⟨s1, its, r, s2⟩ k => let q := (D its.toArray).frame i h h' ⟨s1, s2⟩ k; ⟨q.1, its, r, q.2⟩
  item := fun i s Q E hi ⟨s1, its, r, s2⟩ hQ => (D its.toArray).item i s Q E (by rw [List.size_toArray, ← r.length]; exact hi) ⟨s1, s2⟩ fun x h' tk e st sb => by
    have e' : its[i]? = some x := by simpa using e
    obtain ⟨y, hy, ry⟩ := vals_get' r e'
    exact hQ x h' tk ⟨y, hy, ry⟩ ⟨st.1, its, r, st.2⟩ sb
  done := fun s Q E ⟨s1, its, r, s2⟩ hQ => (D its.toArray).done s Q E (by rw [List.size_toArray, ← r.length]; exact ⟨s1, s2⟩) hQ
theorem beginsR {v : Value} {o : Obj} {hd : Array Value → Heap → Prop} {xs : List V} (B : ∀ items, Begins v o (hd items)) : Begins v o (fun h => ∃ its : List Value, Vals xs its ∧ hd its.toArray h) where
  iter := fun P w A E s Q ⟨its, _, h⟩ q => (B its.toArray).iter P w A E s Q h q
  keeps := fun h h' ⟨its, r, x⟩ k => ⟨its, r, (B its.toArray).keeps h h' x k⟩
  free := (B #[]).free
def seqL (P : Program) (w : World) (a : Addr) (xs : List V) : SeqIt P w a xs where
  o := _
  hd h := ∃ its : List Value, Vals xs its ∧ h.IsList a its.toArray
  ic it i h := h.IsListIter it a i
  begins := beginsR fun items => begins_list a items
  draws A hh it ne := drawsR fun items => Draws.list hh it a ne items
  start it h e := ⟨_, e, rfl, rfl⟩
  icObj it i h := fun ⟨ob, e, _, d⟩ => ⟨ob, e, fun v q => by rw [d] at q; cases q⟩
  icKeep it i h h' x k := x.at k
def seqT (P : Program) (w : World) (a : Addr) (xs : List V) : SeqIt P w a xs where
  o := _
  hd h := ∃ its : List Value, Vals xs its ∧ h.IsTuple a its.toArray
  ic it i h := h.IsTupleIter it a i
  begins := beginsR fun items => begins_tuple a items
  draws A hh it ne := drawsR fun items => Draws.tuple hh it a ne items
  start it h e := ⟨_, e, rfl, rfl⟩
  icObj it i h := fun ⟨ob, e, _, d⟩ => ⟨ob, e, fun v q => by rw [d] at q; cases q⟩
  icKeep it i h h' x k := x.at k
/-- the sequence that stands at a -/
def SeqAt (K : PySem.W.Frag) (H : Hp) (b : Bool) (a : Addr) (xs : List V) : Prop := if b then SqL K H a xs else SqT K H a xs
def seqB (P : Program) (w : World) (b : Bool) (a : Addr) (xs : List V) : SeqIt P w a xs := match b with | true => seqL P w a xs | false => seqT P w a xs
theorem SeqAt.there {X : Cx} {pins : List (Addr × Obj)} {σ : L2.St} {H : Hp} {s : Shared} {b : Bool} {a : Addr} {xs : List V} (I : Inv X pins σ H s) (h : SeqAt X.K H b a xs) : (seqB X.prog X.w b a xs).hd s.heap ∧ xs.length ≤ sizeLine ∧ a < s.heap.objs.size := by
  cases b with
  | true =>
    obtain ⟨its, r, p, z⟩ := I.list h
    exact ⟨⟨its, r, p.isList⟩, z, p.lt⟩
  | false =>
    obtain ⟨its, r, p, z⟩ := I.tuple h
    obtain ⟨o, ho, _⟩ := id p
    exact ⟨⟨its, r, p⟩, z, Heap.lt_size ho⟩
/-- each turn gives a new tuple, told by Pv -/
def ItN (n : Nat) (Go : Hp → Prop) (Pv : Nat → List V → Prop) : It :=
  ⟨fun i H => i < n ∧ Go H, fun i H v H' => ∃ T xs, v = .ref T ∧ H T = none ∧ H' = upd H T (.tup xs) ∧ Pv i xs ∧ xs.length ≤ sizeLine, fun i H => i = n ∧ Go H⟩
theorem turn_goesN {P : Program} {w : World} {K : PySem.W.Frag} {tg : Expr} {I : Addr} {fp fpc wr : List Addr} {n : Nat} {Pt : Nat → Array Value → Prop} {St StC : Nat → Heap → Prop} {StD : Heap → Prop} {Go : Hp → Prop} {Pv : Nat → List V → Prop}
    (W : ∀ A : Around, A.handled = none → GoesN P w A tg I fp wr n (fun i h₀ v h => ∃ T vals, v = .ref T ∧ h₀.objs.size ≤ T ∧ Pt i vals ∧ h.IsTuple T vals) St)
    (join : ∀ i h, StC i h → StD h → St i h) (part : ∀ i h, St i h → StC i h) (hm : I ∈ fpc) (hw : ∀ b ∈ wr, b ∈ fpc) (objs : ∀ i h, StC i h → ∀ b ∈ fpc, ∃ o, h.get? b = some o ∧ ∀ v, o.data ≠ .cell v)
    (keep : ∀ i h h', StC i h → (∀ b ∈ fpc, ∀ o, h.get? b = some o → h'.get? b = some o) → StC i h') (self : ∀ (A : Around) (i : Nat) (s : Shared) (Q : Value → Shared → Prop) (E : Value → Shared → Prop), StC i s.heap → Q (.ref I) s → wpAny (model P w) A (pyIter (.ref I)) Q E s)
    (dat : ∀ (X : Cx), X.prog = P → X.w = w → X.K = K → ∀ (pins : List (Addr × Obj)) (s : Shared) (σ : L2.St) (H : Hp), Inv X pins σ H s → Go H → StD s.heap)
    (rel : ∀ i vals, i < n → Pt i vals → ∃ xs, Vals xs vals.toList ∧ Pv i xs ∧ xs.length ≤ sizeLine) : Turn P w K tg (ItN n Go Pv) fpc I StC where
  mem := hm
  obj := objs
  keep := keep
  item := by
    intro X hP hW hK hc i pins s σ H E Iv hf st ⟨hi, hg⟩
    have sd := dat X hP hW hK pins s σ H Iv hg
    refine (W X.A (Iv.ok.hd hc)).goes i s (fun u s2 => ∃ x H', Inv X pins σ H' s2 ∧ RelV x u ∧ (ItN n Go Pv).yld i H x H' ∧ StC (i + 1) s2.heap ∧ ∀ b ∈ fpc, H' b = none) E hi (join i _ st sd) fun v h' tk y st' hk _ => ?_
    obtain ⟨T, vals, rfl, hT, pt, tup⟩ := y
    obtain ⟨xs, rv, pv, zz⟩ := rel i vals hi pt
    obtain ⟨ob, e1, e2, nn, e3⟩ := tup
    have new : ObjOk X.prog X.w (upd H T (.tup xs)) h' T (.tup xs) := ⟨zz, vals.toList, rv, ⟨ob, e1, e2, nn, by simpa using e3⟩⟩
    have hn : H T = none := Iv.hok.fresh hT
    refine ⟨.ref T, upd H T (.tup xs), Iv.turnedNew (ch := fpc) (fun b o hb q => hk b o (fun z => hb (hw b z)) q) hf hT new, rfl, ⟨T, xs, rfl, hn, rfl, pv, zz⟩, part _ _ st', fun b hb => ?_⟩
    obtain ⟨o, e, _⟩ := objs i _ st b hb
    rw [upd_ne (Nat.ne_of_lt (Nat.lt_of_lt_of_le (Heap.lt_size e) hT))]
    exact (hf b hb).1
  done := by
    intro X hP hW hK hc i pins s σ H E Iv hf st ⟨hi, hg⟩
    subst hi
    have sd := dat X hP hW hK pins s σ H Iv hg
    refine (W X.A (Iv.ok.hd hc)).stops s _ E (join _ _ st sd) fun h' tk hk _ => ?_
    exact Iv.turnedL (ch := fpc) (fun b o hb q => hk b o (fun z => hb (hw b z)) q) hf
  self := self
/-! ### enumerate(xs) -/
def iEnB (K : PySem.W.Frag) (ta : TA) : TI := fun σ H R => ta σ H fun vs H1 => ∃ b a xs, vs = [.ref a] ∧ SeqAt K H1 b a xs ∧ R (ItN xs.length (fun H => SeqAt K H b a xs) fun i zs => ∃ x, xs[i]? = some x ∧ zs = [.int (i : Nat), x]) H1
theorem pi_enB {X : Cx} {e : Expr} {ta : TA} {p pos tpos : Pos} {elts : List Expr} {kk : Nat} (hg : Gl X "enumerate") (hm : X.mg "enumerate" = none) (ha : PA X [e] ta) (hs : starEach [e] X.env = [(false, eval e X.env)]) : PI X (.Tuple elts kk tpos) (.Call (.Name "enumerate" p) [e] [] pos) (iEnB X.K ta) := ⟨fun pins s σ H R I h => by
  refine Call_ (ld_blt I hg hm PyProof.Rows.boot_enumerate (PyProof.Rows.callWith_type1 (thn (ha.run pos pins s σ H _ I h) fun us s1 q0 => ?_) hs rfl))
  obtain ⟨vs, H1, I1, r1, b, a, xs, rfl, sq, q⟩ := q0
  obtain rfl := Vals.ref1 r1
  obtain ⟨hd, zz, la⟩ := sq.there I1
  generalize hN : s1.heap.objs.size = N at la
  refine dl_call_enum (seqB X.prog X.w b a xs).begins hd fun h' he hi hk => wpAny_pyIter_enum he ?_
  rw [hN] at he hi ⊢
  have I2 : Inv X pins σ H1 { s1 with heap := h' } := I1.kept (t' := s1.toks) hk
  have ne : a ≠ N := Nat.ne_of_lt la
  have ne1 : N + 1 ≠ a := Nat.ne_of_gt (Nat.lt_succ_of_lt la)
  refine ⟨N + 1, [N + 1, N], _, _, H1, rfl, I2, turn_goesN (StC := fun i h => (∃ old, IsEnum h (N + 1) N ((0 : Int) + (i : Int)) old) ∧ (seqB X.prog X.w b a xs).ic N i h) (StD := (seqB X.prog X.w b a xs).hd)
    (Pt := fun i vals => ∃ t x, (∃ y, xs[i]? = some y ∧ RelV y x) ∧ vals = #[.int ((0 : Int) + (i : Int)) t, x]) (Pv := fun i zs => ∃ x, xs[i]? = some x ∧ zs = [.int (i : Nat), x])
    (fun A hh => GoesN.ofWalksT (WalksT.enumFrom 0 ((seqB X.prog X.w b a xs).draws A.in1 hh N ne) (N + 1) (Nat.succ_ne_self N) (by simp; exact ne1) (by simp))) (fun i h c d => ⟨c.1, c.2, d⟩) (fun i h st => ⟨st.1, st.2.1⟩) (by simp) (by simp) (fun i h st c hc => ?_) (fun i h h' st k => ?_)
    (fun A i s Q E st q => wpAny_pyIter_enum st.1.choose_spec q) (fun Y hP hw hK pins s σ H J g => ?_) (fun i vals hi pt => ?_), ⟨⟨_, he⟩, (seqB X.prog X.w b a xs).start N h' hi⟩, fun c hc => ?_, q⟩
  · obtain ⟨⟨old, e1⟩, e2⟩ := st
    rcases List.mem_cons.mp hc with rfl | hc
    · exact ⟨_, e1, fun v q => nomatch q⟩
    · obtain rfl : c = N := by simpa using hc
      exact (seqB X.prog X.w b a xs).icObj _ _ _ e2
  · obtain ⟨⟨old, e1⟩, e2⟩ := st
    exact ⟨⟨old, k _ (by simp) _ e1⟩, (seqB X.prog X.w b a xs).icKeep _ _ _ _ e2 fun o q => k N (by simp) o q⟩
  · rw [← hK] at g
    have := (g.there J).1
    rw [hP, hw] at this
    exact this
  · obtain ⟨t, x, ⟨y, hy, ry⟩, rfl⟩ := pt
    exact ⟨[.int ((0 : Int) + (i : Int)), y], .cons ⟨t, rfl⟩ (.cons ry .nil), ⟨y, hy, by simp⟩, by show 2 ≤ sizeLine; decide⟩
  · have hle : s1.heap.objs.size ≤ c := by
      rw [hN]
      rcases List.mem_cons.mp hc with rfl | hc
      · exact Nat.le_succ _
      · obtain rfl : c = N := by simpa using hc
        exact Nat.le_refl _
    exact I1.fpOk hle (I1.hok.fresh hle)⟩
/-! ### zip(xs, ys) -/
def iZipB (K : PySem.W.Frag) (ta : TA) : TI := fun σ H R => ta σ H fun vs H1 => ∃ b1 a1 xs b2 a2 ys, vs = [.ref a1, .ref a2] ∧ SeqAt K H1 b1 a1 xs ∧ SeqAt K H1 b2 a2 ys ∧ R (ItN (min xs.length ys.length) (fun H => SeqAt K H b1 a1 xs ∧ SeqAt K H b2 a2 ys) fun i zs => ∃ x y, xs[i]? = some x ∧ ys[i]? = some y ∧ zs = [x, y]) H1
theorem pi_zipB {X : Cx} {e e2 : Expr} {ta : TA} {p pos tpos : Pos} {elts : List Expr} {kk : Nat} (hg : Gl X "zip") (hm : X.mg "zip" = none) (ha : PA X [e, e2] ta) (hs : starEach [e, e2] X.env = (false, eval e X.env) :: starEach [e2] X.env) (hpl : (backTo pos (starEach [e2] X.env)).any (·.1) = false) :
    PI X (.Tuple elts kk tpos) (.Call (.Name "zip" p) [e, e2] [] pos) (iZipB X.K ta) := ⟨fun pins s σ H R I h => by
  refine Call_ (ld_blt I hg hm PyProof.Rows.boot_zip (PyProof.Rows.callWith_type1 (thn (ha.run pos pins s σ H _ I h) fun us s1 q0 => ?_) hs hpl))
  obtain ⟨vs, H1, I1, r1, b1, a1, xs, b2, a2, ys, rfl, sq1, sq2, q⟩ := q0
  obtain ⟨u, v, rfl, ru, rv⟩ := r1.two
  cases ru
  cases rv
  obtain ⟨hd1, z1, l1⟩ := sq1.there I1
  obtain ⟨hd2, z2, l2⟩ := sq2.there I1
  generalize hN : s1.heap.objs.size = N at l1 l2
  refine zip_begins2 (seqB X.prog X.w b1 a1 xs).begins (seqB X.prog X.w b2 a2 ys).begins hd1 hd2 fun h' hz hTI hTO hi1 hi2 _ hk => ?_
  rw [hN] at hz hTI hTO hi1 hi2 ⊢
  refine wpAny_pyIter_zip hz ?_
  have I2 : Inv X pins σ H1 { s1 with heap := h' } := I1.kept (t' := s1.toks) hk
  have n1 : a1 ≠ N := Nat.ne_of_lt l1
  have n2 : a2 ≠ N + 1 := Nat.ne_of_lt (Nat.lt_succ_of_lt l2)
  have sep : ZipSep2 (N + 4) (N + 2) (N + 3) N (N + 1) [N, a1] [N + 1, a2] := zip_sep2 (fp1 := [a1]) (fp2 := [a2]) (fun c hc => by obtain rfl : c = a1 := by simpa using hc
                                                                                                                                   exact l1) (fun c hc => by obtain rfl : c = a2 := by simpa using hc
                                                                                                                                                             exact l2)
  refine ⟨N + 4, [N + 4, N + 2, N + 3, N, N + 1], _, _, H1, rfl, I2, turn_goesN (wr := [N + 4, N + 3, N, N + 1]) (StC := fun i h => IsZip h (N + 4) (N + 2) (N + 3) .none ∧ IsTupOf2 h (N + 2) (.ref N) (.ref (N + 1)) ∧ (∃ x y, IsTupOf2 h (N + 3) x y) ∧ (seqB X.prog X.w b1 a1 xs).ic N i h ∧ (seqB X.prog X.w b2 a2 ys).ic (N + 1) i h) (StD := fun h => (seqB X.prog X.w b1 a1 xs).hd h ∧ (seqB X.prog X.w b2 a2 ys).hd h)
    (Pt := fun i vals => ∃ x y, (∃ z, xs[i]? = some z ∧ RelV z x) ∧ (∃ z, ys[i]? = some z ∧ RelV z y) ∧ vals = #[x, y]) (Pv := fun i zs => ∃ x y, xs[i]? = some x ∧ ys[i]? = some y ∧ zs = [x, y])
    (fun A hh => GoesN.ofWalksT (WalksT.zipD2 sep ((seqB X.prog X.w b1 a1 xs).draws A.in1 hh N n1) ((seqB X.prog X.w b2 a2 ys).draws A.in1 hh (N + 1) n2))) (fun i h c d => ⟨c.1, c.2.1, c.2.2.1, ⟨c.2.2.2.1, d.1⟩, ⟨c.2.2.2.2, d.2⟩⟩) (fun i h st => ⟨st.1, st.2.1, st.2.2.1, st.2.2.2.1.1, st.2.2.2.2.1⟩) (by simp) (by simp) (fun i h st c hc => ?_) (fun i h h' st k => ?_)
    (fun A i s Q E st q => wpAny_pyIter_zip st.1 q) (fun Y hP hw hK pins s σ H J g => ?_) (fun i vals hi pt => ?_), ⟨hz, hTI, ⟨_, _, hTO⟩, (seqB X.prog X.w b1 a1 xs).start N h' hi1, (seqB X.prog X.w b2 a2 ys).start (N + 1) h' hi2⟩, fun c hc => ?_, q⟩
  · obtain ⟨c1, c2, ⟨x, y, c3⟩, c4, c5⟩ := st
    have hc : c = N + 4 ∨ c = N + 2 ∨ c = N + 3 ∨ c = N ∨ c = N + 1 := by simpa using hc
    rcases hc with rfl | rfl | rfl | rfl | rfl
    · exact ⟨_, c1, fun v q => nomatch q⟩
    · exact ⟨_, c2, fun v q => nomatch q⟩
    · exact ⟨_, c3, fun v q => nomatch q⟩
    · exact (seqB X.prog X.w b1 a1 xs).icObj _ _ _ c4
    · exact (seqB X.prog X.w b2 a2 ys).icObj _ _ _ c5
  · obtain ⟨c1, c2, ⟨x, y, c3⟩, c4, c5⟩ := st
    exact ⟨k _ (by simp) _ c1, k _ (by simp) _ c2, ⟨x, y, k _ (by simp) _ c3⟩, (seqB X.prog X.w b1 a1 xs).icKeep _ _ _ _ c4 fun o q => k N (by simp) o q, (seqB X.prog X.w b2 a2 ys).icKeep _ _ _ _ c5 fun o q => k (N + 1) (by simp) o q⟩
  · rw [← hK] at g
    have h1 := (g.1.there J).1
    have h2 := (g.2.there J).1
    rw [hP, hw] at h1 h2
    exact ⟨h1, h2⟩
  · obtain ⟨x, y, ⟨x', hx, rx⟩, ⟨y', hy, ry⟩, rfl⟩ := pt
    exact ⟨[x', y'], .cons rx (.cons ry .nil), ⟨x', y', hx, hy, rfl⟩, by show 2 ≤ sizeLine; decide⟩
  · have hle : s1.heap.objs.size ≤ c := by
      rw [hN]
      have hc : c = N + 4 ∨ c = N + 2 ∨ c = N + 3 ∨ c = N ∨ c = N + 1 := by simpa using hc
      rcases hc with rfl | rfl | rfl | rfl | rfl
      · exact Nat.le_add_right _ _
      · exact Nat.le_add_right _ _
      · exact Nat.le_add_right _ _
      · exact Nat.le_refl _
      · exact Nat.le_add_right _ _
    exact I1.fpOk hle (I1.hok.fresh hle)⟩
/-! ### what is walked, as typed lists -/
section
variable {c : CC} {e e1 e2 : Expr} {S S1 S2 : List SV} {p pos tpos : Pos} {elts : List Expr} {kk : Nat} {d d1 d2 : D} {ds es : List D}
theorem SeqAt.of {G H : Hp} {v : V} (g : Same G H) (hd : d = .tuple ds ∨ d = .list ds) (r : Rp G v d) : ∃ b a xs, v = .ref a ∧ (∀ (K : PySem.W.Frag) H', Same G H' → SeqAt K H' b a xs) ∧ RpA G xs ds ∧ ds.length ≤ sizeLine := by
  rcases hd with rfl | rfl
  · cases r with
    | tup e z q => exact ⟨false, _, _, rfl, fun K H' g' => SqT.of (g' _ _ e), q, z⟩
  · cases r with
    | lst e z q => exact ⟨true, _, _, rfl, fun K H' g' => SqL.of (g' _ _ e), q, z⟩
/-- new tuples, told by data -/
theorem walkD_N {n : Nat} {Go : Hp → Prop} {Pv : Nat → List V → Prop} {fs : List (List D)} {G1 : Hp} (hn : fs.length = n) (hz : n ≤ sizeLine) (hgo : ∀ H2, Same G1 H2 → Go H2)
    (hv : ∀ i f xs, fs[i]? = some f → Pv i xs → RpA G1 xs f) (hf : ∀ f ∈ fs, f.length ≤ 64) : WalkD (ItN n Go Pv) (fs.map PyData.tuple) G1 where
  line := by rw [List.length_map, hn]; exact hz
  goes := fun i H2 hi g => ⟨by rw [List.length_map, hn] at hi; exact hi, hgo H2 g⟩
  stops := fun H2 g => ⟨by rw [List.length_map, hn], hgo H2 g⟩
  yields := by
    rintro i d xv H' H3 hi g ⟨T, xs, rfl, hT, rfl, pv, zz⟩ B G' S σ g' st
    rw [List.getElem?_map] at hi
    obtain ⟨f, ef, rfl⟩ := Option.map_eq_some_iff.mp hi
    exact st.newTup hT ((hv i f xs ef pv).mono g') (Nat.le_trans (hf f (List.mem_of_getElem? ef)) (le_line (n := 64) (by decide)))
def enumI {α : Type} (k : Int) : List α → List (Int × α)
  | [] => []
  | x :: xs => (k, x) :: enumI (k + 1) xs
theorem enumI_length {α : Type} : ∀ (xs : List α) (k : Int), (enumI k xs).length = xs.length
  | [], _ => rfl
  | _ :: xs, k => by rw [enumI, List.length_cons, List.length_cons, enumI_length xs]
theorem enumI_get {α : Type} : ∀ (xs : List α) (k : Int) (i : Nat), (enumI k xs)[i]? = xs[i]?.map fun x => (k + (i : Int), x)
  | [], _, _ => by simp [enumI]
  | x :: xs, k, 0 => by simp [enumI]
  | x :: xs, k, i + 1 => by
    rw [enumI, List.getElem?_cons_succ, List.getElem?_cons_succ, enumI_get xs (k + 1) i]
    congr 1
    funext y
    simp; omega
variable {α β : Type} {en : α → D} {eb : β → D} {xs : List α} {ys : List β}
theorem itx_enum [Bt c] (h : EX c e S (.val d) S1) (hd : d = .tuple (xs.map en) ∨ d = .list (xs.map en)) (hg : GlC c "enumerate" := by rfl) (hs : ∀ env, starEach [e] env = [(false, eval e env)] := by intro _; rfl) : IX c (.Tuple elts kk tpos) (.Call (.Name "enumerate" p) [e] [] pos) S ((enumI 0 xs).map (eP PyData.int en)) S1 := fun X hX =>
  (pi_enB (hX.gl hg) (hX.mgN (Bt.no _ (by decide +kernel))) (pa_cons (h X hX) pa_nil (hs _)) (hs _)).wk fun σ H R ⟨B, G, st, k⟩ => ⟨B, G, st, fun v H1 G1 x1 s1 => by
    obtain ⟨b, a, vs, rfl, sq, r, z⟩ := SeqAt.of s1.g hd s1.headV
    have hl : vs.length = xs.length := by rw [r.length, List.length_map]
    refine ⟨b, a, vs, rfl, sq X.K H1 s1.g, k _ _ G1 x1 s1.tail ?_⟩
    have e0 : (enumI 0 xs).map (eP PyData.int en) = ((enumI 0 xs).map fun q => [PyData.int q.1, en q.2]).map PyData.tuple := by rw [List.map_map]; rfl
    rw [e0]
    refine walkD_N (by rw [List.length_map, enumI_length, hl]) (by rw [hl]; rw [List.length_map] at z; exact z) (fun H2 g => sq X.K H2 g) (fun i f us ef pv => ?_) fun f hf => ?_
    · rw [List.getElem?_map, enumI_get, Option.map_map] at ef
      obtain ⟨x, hx, rfl⟩ := Option.map_eq_some_iff.mp ef
      obtain ⟨u, hu, rfl⟩ := pv
      obtain ⟨d', hd', rd⟩ := r.get' hu
      rw [List.getElem?_map, hx] at hd'
      cases hd'
      simp only [Function.comp, Int.zero_add]
      exact .cons (.int _) (.cons rd .nil)
    · obtain ⟨q, _, rfl⟩ := List.mem_map.mp hf
      exact (by decide : 2 ≤ 64)⟩
theorem itx_zip [Bt c] (h1 : EX c e1 S (.val d1) S1) (hd1 : d1 = .tuple (xs.map en) ∨ d1 = .list (xs.map en)) (h2 : EX c e2 S1 (.val d2) S2) (hd2 : d2 = .tuple (ys.map eb) ∨ d2 = .list (ys.map eb)) (hg : GlC c "zip" := by rfl)
    (hs : ∀ env, starEach [e1, e2] env = (false, eval e1 env) :: starEach [e2] env := by intro _; rfl) (hs2 : ∀ env, starEach [e2] env = (false, eval e2 env) :: starEach [] env := by intro _; rfl) (hpl : ∀ env, (backTo pos (starEach [e2] env)).any (·.1) = false := by intro _; rfl) :
    IX c (.Tuple elts kk tpos) (.Call (.Name "zip" p) [e1, e2] [] pos) S ((xs.zip ys).map (eP en eb)) S2 := fun X hX =>
  (pi_zipB (hX.gl hg) (hX.mgN (Bt.no _ (by decide +kernel))) ((av_cons h1 (av_cons h2 av_nil hs2) hs : AV c [e1, e2] S [d1, d2] S2) X hX) (hs _) (hpl _)).wk fun σ H R ⟨B, G, st, k⟩ => ⟨B, G, st, fun vs H1 G1 x1 hl s1 => by
    obtain ⟨u, v, rfl⟩ : ∃ u v, vs = [u, v] := match vs, hl with | [u, v], _ => ⟨u, v, rfl⟩
    have s1 : Stt B G1 H1 (.val d1 :: .val d2 :: S2) (some u :: some v :: σ) := s1
    obtain ⟨ba, a, us, rfl, sq1, r1, z1⟩ := SeqAt.of s1.g hd1 s1.headV
    obtain ⟨bb, b, ws, rfl, sq2, r2, z2⟩ := SeqAt.of s1.g hd2 s1.tail.headV
    have l1 : us.length = xs.length := by rw [r1.length, List.length_map]
    have l2 : ws.length = ys.length := by rw [r2.length, List.length_map]
    refine ⟨ba, a, us, bb, b, ws, rfl, sq1 X.K H1 s1.g, sq2 X.K H1 s1.g, k _ _ G1 x1 s1.tail.tail ?_⟩
    have e0 : (xs.zip ys).map (eP en eb) = ((xs.zip ys).map fun q => [en q.1, eb q.2]).map PyData.tuple := by rw [List.map_map]; rfl
    rw [e0]
    refine walkD_N (by rw [List.length_map, List.length_zip, l1, l2]) (Nat.le_trans (Nat.min_le_left _ _) (by rw [l1]; rw [List.length_map] at z1; exact z1)) (fun H2 g => ⟨sq1 X.K H2 g, sq2 X.K H2 g⟩) (fun i f fs ef pv => ?_) fun f hf => ?_
    · rw [List.getElem?_map] at ef
      obtain ⟨q, hq, rfl⟩ := Option.map_eq_some_iff.mp ef
      obtain ⟨x, y, hx, hy, rfl⟩ := pv
      obtain ⟨q1, q2⟩ := List.getElem?_zip_eq_some.mp hq
      obtain ⟨dx, hdx, rx⟩ := r1.get' hx
      obtain ⟨dy, hdy, ry⟩ := r2.get' hy
      rw [List.getElem?_map, q1] at hdx
      rw [List.getElem?_map, q2] at hdy
      cases hdx; cases hdy
      exact .cons rx (.cons ry .nil)
    · obtain ⟨q, _, rfl⟩ := List.mem_map.mp hf
      exact (by decide : 2 ≤ 64)⟩
end
end DL

/-! DL, part o: repr, sorted, is. -/
namespace DL
open PySem PySem.Spec PyProof.Rows L2
section
variable {c : CC} {e a b : Expr} {S S1 S2 : List SV} {p pos : Pos} {d : D}
/-! ### repr -/
def ReprOk (d : D) : Prop := d.showable = true ∧ d.shown.length ≤ sizeLine
def reprR (d : D) : List V → Hp → VK → Prop := fun xs H Q => ∃ G x, Same G H ∧ xs = [x] ∧ Rp G x d ∧ Q (.str d.shown) H
mutual
theorem plain_noDict : ∀ {d : D}, d.plain = true → d.hasDict = false
  | .none, _ | .bool _, _ | .int _, _ | .str _, _ => by simp [PyData.hasDict]
  | .list xs, h => by simp only [PyData.hasDict]; exact plain_noDicts (by simpa [PyData.plain] using h)
  | .tuple xs, h => by simp only [PyData.hasDict]; exact plain_noDicts (by simpa [PyData.plain] using h)
  | .dict _, h => by simp [PyData.plain] at h
theorem plain_noDicts : ∀ {ds : List D}, PyData.plainAll ds = true → PyData.hasDictAll ds = false
  | [], _ => by simp [PyData.hasDictAll]
  | d :: ds, h => by
    simp only [PyData.plainAll, Bool.and_eq_true] at h
    simp only [PyData.hasDictAll, plain_noDict h.1, plain_noDicts h.2, Bool.or_false]
end
theorem call_reprD {X : Cx} (hX : c.In X) (h1 : d.plain = true) (h2 : d.depth ≤ 60) (h3 : ReprOk d) : CallR X (.builtin "repr") (reprR d) := by
  intro pins s σ H xs us Q I r h
  obtain ⟨G, x, g, rfl, rx, q⟩ := h
  obtain ⟨u, rfl, ru⟩ := r.one
  obtain ⟨as, rd⟩ := Dp.reads I d x u (rx.dp g h1) ru
  have hu : X.A.units + (d.depth + 1) < cLine := by have := hX.units; omega
  have away : ∀ a, u = .ref a → wpAny (model X.prog X.w) X.A (call (.builtin "repr") [u]) (EP X pins σ Q) X.xe s := fun a ea => by
    subst ea
    exact repr_of_reads' (prog := X.prog) rd h3.1 (fun z => by rw [plain_noDict h1] at z; cases z) hX.gd hu (fun _ _ e => e) (fun h' t tk k => ⟨.str d.shown, H, I.kept (t' := tk) k, ⟨t, rfl⟩, q⟩) h3.2
  cases rx with
  | non => cases ru; exact PySem.P.repr_of_none ⟨.str _, H, I.tok _, ⟨_, rfl⟩, q⟩
  | bl b => cases ru; exact PySem.P.repr_of_bool ⟨.str _, H, I.tok _, ⟨_, rfl⟩, q⟩
  | int i =>
    obtain ⟨t, rfl⟩ := ru
    have := h3.1
    simp only [PyData.showable, decide_eq_true_eq] at this
    exact PySem.P.repr_of_int this ⟨.str _, H, I.tok _, ⟨_, rfl⟩, q⟩
  | str y =>
    obtain ⟨t, rfl⟩ := ru
    exact PySem.P.repr_of_str ⟨.str _, H, I.tok _, ⟨_, rfl⟩, q⟩ h3.2
  | tup e z t => exact away _ ru
  | lst e z t => exact away _ ru
  | dk e z t => exact away _ ru
  | dt e z t => exact away _ ru
theorem ex_repr [Bt c] (h : EX c e S (.val d) S1) (h1 : d.plain = true) (h2 : d.depth ≤ 60) (h3 : ReprOk d) (hg : GlC c "repr" := by rfl) (hs : ∀ env, starEach [e] env = (false, eval e env) :: starEach [] env := by intro _; rfl) : EX c (.Call (.Name "repr" p) [e] [] pos) S (.val (.str d.shown)) S1 :=
  ex_callB (ws := [.val d]) (fun X hX => ⟨_, call_reprD hX h1 h2 h3, vra1 fun B G H S σ x Q st r k => ⟨G, x, st.g, rfl, r, k _ H G (Ext.refl _ _) (st.push (.str _))⟩⟩) (ex_arg1 h hs) (by decide +kernel) (by decide +kernel) hg (he := hs)
/-! ### is -/
theorem op_isB (X : Cx) {k l : Bool} : ∃ r, OpR X (compareOp .Is) r ∧ VR2 r (.val (.bool k)) (.val (.bool l)) (.val (.bool (decide (k = l)))) := ⟨_, op_isBl, fun B G H S σ x y Q st q => by
  obtain ⟨r1, r2⟩ := st.heads
  cases r1; cases r2
  exact ⟨k, l, rfl, rfl, q _ H G (Ext.refl _ _) (st.drop2.push (.bl _))⟩⟩
theorem op_notB (X : Cx) {k l : Bool} : ∃ r, OpR X (compareOp .IsNot) r ∧ VR2 r (.val (.bool k)) (.val (.bool l)) (.val (.bool (!decide (k = l)))) := ⟨_, op_notBl, fun B G H S σ x y Q st q => by
  obtain ⟨r1, r2⟩ := st.heads
  cases r1; cases r2
  exact ⟨k, l, rfl, rfl, q _ H G (Ext.refl _ _) (st.drop2.push (.bl _))⟩⟩
variable {k l : Bool}
theorem ex_isB (ha : EX c a S (.val (.bool k)) S1) (hb : EX c b S1 (.val (.bool l)) S2) : EX c (.Compare a [.Is] [b] pos) S (.val (.bool (decide (k = l)))) S2 := ex_cmpG (fun X _ => op_isB X) ha hb (nomark _)
theorem ex_isnotB (ha : EX c a S (.val (.bool k)) S1) (hb : EX c b S1 (.val (.bool l)) S2) : EX c (.Compare a [.IsNot] [b] pos) S (.val (.bool (!decide (k = l)))) S2 := ex_cmpG (fun X _ => op_notB X) ha hb (nomark _)
theorem tx_isB (ha : EX c a S (.val (.bool k)) S1) (hb : EX c b S1 (.val (.bool l)) S2) : TX c (.Compare a [.Is] [b] pos) S (decide (k = l)) S2 := tx_cmpG (fun X _ => op_isB X) ha hb (nomark _)
theorem tx_isnotB (ha : EX c a S (.val (.bool k)) S1) (hb : EX c b S1 (.val (.bool l)) S2) : TX c (.Compare a [.IsNot] [b] pos) S (!decide (k = l)) S2 := tx_cmpG (fun X _ => op_notB X) ha hb (nomark _)
def isNoneD : D → Bool
  | .none => true
  | _ => false
theorem Rp.isNone {G : Hp} {v : V} (r : Rp G v d) : decide (v = .non) = isNoneD d := by cases r <;> simp [isNoneD]
theorem op_isNo (X : Cx) : ∃ r, OpR X (compareOp .Is) r ∧ VR2 r (.val d) (.val .none) (.val (.bool (isNoneD d))) := ⟨_, op_isN, fun B G H S σ x y Q st q => by
  obtain ⟨r1, r2⟩ := st.heads
  cases r2
  refine ⟨rfl, ?_⟩
  rw [r1.isNone]
  exact q _ H G (Ext.refl _ _) (st.drop2.push (.bl _))⟩
theorem op_notNo (X : Cx) : ∃ r, OpR X (compareOp .IsNot) r ∧ VR2 r (.val d) (.val .none) (.val (.bool (!isNoneD d))) := ⟨_, op_notN, fun B G H S σ x y Q st q => by
  obtain ⟨r1, r2⟩ := st.heads
  cases r2
  refine ⟨rfl, ?_⟩
  rw [r1.isNone]
  exact q _ H G (Ext.refl _ _) (st.drop2.push (.bl _))⟩
theorem ex_isN (ha : EX c a S (.val d) S1) (hb : EX c b S1 (.val .none) S2) : EX c (.Compare a [.Is] [b] pos) S (.val (.bool (isNoneD d))) S2 := ex_cmpG (fun X _ => op_isNo X) ha hb (nomark _)
theorem ex_isnotN (ha : EX c a S (.val d) S1) (hb : EX c b S1 (.val .none) S2) : EX c (.Compare a [.IsNot] [b] pos) S (.val (.bool (!isNoneD d))) S2 := ex_cmpG (fun X _ => op_notNo X) ha hb (nomark _)
theorem tx_isN (ha : EX c a S (.val d) S1) (hb : EX c b S1 (.val .none) S2) : TX c (.Compare a [.Is] [b] pos) S (isNoneD d) S2 := tx_cmpG (fun X _ => op_isNo X) ha hb (nomark _)
theorem tx_isnotN (ha : EX c a S (.val d) S1) (hb : EX c b S1 (.val .none) S2) : TX c (.Compare a [.IsNot] [b] pos) S (!isNoneD d) S2 := tx_cmpG (fun X _ => op_notNo X) ha hb (nomark _)
/-- .. of an encoding that is never None -/
class Nn {α : Type} (e : α → D) : Prop where
  no : ∀ a, isNoneD (e a) = false
instance : Nn PyData.int := ⟨fun _ => rfl⟩
instance : Nn PyData.bool := ⟨fun _ => rfl⟩
instance : Nn PyData.str := ⟨fun _ => rfl⟩
instance {α : Type} (e : α → D) : Nn (eT e) := ⟨fun _ => rfl⟩
instance {α : Type} (e : α → D) : Nn (eL e) := ⟨fun _ => rfl⟩
instance {α β : Type} (ea : α → D) (eb : β → D) : Nn (eP ea eb) := ⟨fun _ => rfl⟩
instance {α β γ : Type} (ea : α → D) (eb : β → D) (ec : γ → D) : Nn (eP3 ea eb ec) := ⟨fun _ => rfl⟩
instance {α β γ δ : Type} (ea : α → D) (eb : β → D) (ec : γ → D) (ed : δ → D) : Nn (eP4 ea eb ec ed) := ⟨fun _ => rfl⟩
theorem isNone_eO {α : Type} {en : α → D} [Nn en] (o : Option α) : isNoneD (eO en o) = !o.isSome := by
  cases o with
  | none => rfl
  | some a => exact Nn.no a
end
/-! ### sorted -/
/-- any two are alike; with an order -/
class Al {α : Type} (e : α → D) : Prop where
  al : ∀ a b, PySem.W.alike (e a) (e b) = true
instance : Al PyData.int := ⟨fun _ _ => by simp [PySem.W.alike]⟩
instance : Al PyData.bool := ⟨fun _ _ => by simp [PySem.W.alike]⟩
theorem Al.all {α : Type} (e : α → D) [Al e] : ∀ xs ys : List α, PySem.W.alikeAll (xs.map e) (ys.map e) = true
  | [], _ => by simp [PySem.W.alikeAll]
  | _ :: _, [] => by simp [PySem.W.alikeAll]
  | x :: xs, y :: ys => by simp [PySem.W.alikeAll, Al.al x y, Al.all e xs ys]
instance {α : Type} (e : α → D) [Al e] : Al (eT e) := ⟨fun a b => by simp only [eT, PySem.W.alike]; exact Al.all e a b⟩
instance {α β : Type} (ea : α → D) (eb : β → D) [Al ea] [Al eb] : Al (eP ea eb) := ⟨fun a b => by simp [eP, PySem.W.alike, PySem.W.alikeAll, Al.al]⟩
instance {α β γ : Type} (ea : α → D) (eb : β → D) (ec : γ → D) [Al ea] [Al eb] [Al ec] : Al (eP3 ea eb ec) := ⟨fun a b => by simp [eP3, PySem.W.alike, PySem.W.alikeAll, Al.al]⟩
/-- what sorted makes -/
def srt {α : Type} (e : α → D) (xs : List α) : List α := xs.mergeSort (PySem.W.dataLe false e)
section
variable {c : CC} {e : Expr} {S S1 : List SV} {p pos : Pos} {d : D} {α : Type} {en : α → D} {xs : List α}
theorem collect_seqZ {P : Program} {w : World} {A : Around} {E : Value → Shared → Prop} {F : List Value → Shared → Prop} {s : Shared} (a : Addr) {T : String} {o : Obj} {its : Array Value} {n : Nat} (hT : T = "list" ∨ T = "tuple") (e1 : s.heap.get? a = some o) (e2 : o.cls = .type T) (e3 : o.data = .seq its n) (hz : its.size ≤ sizeLine)
    (k : ∀ h', s.heap.objs.size ≤ h'.objs.size → (∀ b u, s.heap.get? b = some u → h'.get? b = some u) → F its.toList { s with heap := h' }) : wpAny (model P w) A (collect (.ref a)) F E s := by
  unfold collect
  refine wpAny_bind (wpAny_runValue (codeAny_builtin PySem.F.entry_proto_collect ?_))
  rw [Around.under_plainId PySem.F.plain_proto_collect _]
  show wpAny _ A.in1 (newList [] >>= fun acc => again (.builtin "list.__iadd__" ⟨[acc, .ref a], []⟩)) _ _ s
  refine wpAny_bind (wpAny_newObj_type (wpAny_pure ⟨plainId_quiet PySem.F.plain_list_iadd _, codeAny_builtin PySem.F.entry_list_iadd ?_⟩))
  rw [Around.under_plainId PySem.F.plain_list_iadd _]
  generalize hn : s.heap.push { cls := .type "list", data := .seq ([] : List Value).toArray } = h1
  have at1 : h1.get? s.heap.objs.size = some { cls := .type "list", data := .seq #[] 0 } := by rw [← hn]; exact Heap.get?_push_size _ rfl
  have old : ∀ b u, s.heap.get? b = some u → h1.get? b = some u := fun b u q => by rw [← hn]; exact Heap.get?_push_of_some _ q
  have z1 : h1.objs.size = s.heap.objs.size + 1 := by rw [← hn]; exact Heap.size_push ..
  have at2 := Heap.get?_update_self (Obj.mapSeq (· ++ its)) at1 rfl
  have last : F ((#[] : Array Value) ++ its).toList { s with heap := h1.update s.heap.objs.size (Obj.mapSeq (· ++ its)) } := by
    have e : ((#[] : Array Value) ++ its).toList = its.toList := by simp
    rw [e]
    refine k _ (by rw [Heap.size_update, z1]; exact Nat.le_succ _) fun b u q => ?_
    exact (Heap.get?_update_other _ _ (Nat.ne_of_gt (Heap.lt_size q))).trans (old b u q)
  refine wpAny_mono (wpAny_extend_seq (hsz := hz) (A := A) (R := fun r s' => r = .ok (.ret (.ref s.heap.objs.size)) ∧ s' = { s with heap := h1.update s.heap.objs.size (Obj.mapSeq (· ++ its)) }) (s := { s with heap := h1 }) _ a _ 0 hT at1 (old _ _ e1) e2 e3 ⟨rfl, rfl⟩) (fun f s' q => ?_) fun e s' q => by cases q.1
  have go : wpAny (model P w) A (match Value.ref s.heap.objs.size with
      | Value.ref l => do
        match (← load l).data with
          | Data.seq ys _ => pure ys.toList
          | _ => unsupported "internal:collect"
      | _ => unsupported "internal:collect") F E { s with heap := h1.update s.heap.objs.size (Obj.mapSeq (· ++ its)) } := wpAny_bind (wpAny_load at2 (wpAny_pure last))
  match f, q with
  | .done _, ⟨q1, q2⟩ =>
    cases q1
    subst q2
    exact go
  | .again _, ⟨q1, q2⟩ =>
    refine ⟨q1, codeAny_mono q2 fun r s2 q3 => ?_⟩
    obtain ⟨rfl, rfl⟩ := q3
    exact go
theorem paired_split {G : Hp} : ∀ {us : List Value} {bs : List α}, PySem.W.EachIs (fun u b => ∃ x, RelV x u ∧ Rp G x (en b)) us bs → ∃ ws, Vals ws us ∧ RpA G ws (bs.map en)
  | _, _, .nil => ⟨[], .nil, .nil⟩
  | _, _, .cons ⟨x, r, q⟩ t => by
    obtain ⟨ws, h1, h2⟩ := paired_split t
    exact ⟨x :: ws, .cons r h1, .cons q h2⟩
theorem paired_join {G : Hp} {ws : List V} {us : List Value} (v : Vals ws us) : ∀ {bs : List α}, RpA G ws (bs.map en) → PySem.W.EachIs (fun u b => ∃ x, RelV x u ∧ Rp G x (en b)) us bs := by
  induction v with
  | nil =>
    intro bs r
    cases bs with
    | nil => exact .nil
    | cons b bs => cases r
  | cons g t ih =>
    intro bs r
    cases bs with
    | nil => cases r
    | cons b bs =>
      rw [List.map_cons] at r
      cases r with
      | cons h t => exact .cons ⟨_, g, h⟩ (ih t)
theorem each_mono {β : Type} {R R' : Value → β → Prop} (k : ∀ u b, R u b → R' u b) : ∀ {us : List Value} {bs : List β}, PySem.W.EachIs R us bs → PySem.W.EachIs R' us bs
  | _, _, .nil => .nil
  | _, _, .cons h t => .cons (k _ _ h) (each_mono k t)
/-- sorted(x), x told by what collect finds -/
theorem sorted_coll {P : Program} {w : World} {A : Around} {E Q : Value → Shared → Prop} {s : Shared} {x : Value} {R : Value → α → Prop} (coll : ∀ (A' : Around) (F : List Value → Shared → Prop) (E' : Value → Shared → Prop), A'.handled = A.handled → (∀ h' tk vs, s.heap.objs.size ≤ h'.objs.size → (∀ b o, s.heap.get? b = some o → h'.get? b = some o) → PySem.W.EachIs R vs xs → F vs { s with heap := h', toks := tk }) → wpAny (model P w) A' (collect x) F E' s)
    (rd : ∀ u b, R u b → b ∈ xs → ∃ as, PySem.Reads s.heap u (en b) as) (hal : PySem.W.AllAlike (xs.map en)) (hs : PySem.W.Sortable (xs.map en)) (hz : xs.length ≤ sizeLine) (hu : ∀ b, b ∈ xs → A.units + 2 + (en b).depth < cLine)
    (k : ∀ h' tk p out ep, s.heap.objs.size ≤ p → (∀ b o, s.heap.get? b = some o → h'.get? b = some o) → h'.get? p = some { cls := .type "list", data := .seq (List.toArray out) ep } → PySem.W.EachIs R out (srt en xs) → Q (.ref p) { s with heap := h', toks := tk }) :
    wpAny (model P w) A (call (.builtin "sorted") [x]) Q E s := by
  refine Calls.call_function_entry PyProof.Rows.kind_sorted PyProof.Rows.plain_sorted PyProof.Rows.entry_sorted (PyProof.Rows.args_sorted1 _) ?_
  unfold Builtin.«sorted»
  refine wpAny_bind (m := checkCount "sorted" 1 1 _) (wpAny_pure ?_)
  refine wpAny_bind (coll _ _ _ rfl fun h1 tk vs le1 k1 ev => ?_)
  have hl : vs.length ≤ sizeLine := by rw [ev.length]; exact hz
  refine wpAny_bind (wpAny_newList ?_ hl)
  generalize hp : h1.objs.size = q at le1
  have g2 : (h1.push { cls := .type "list", data := .seq vs.toArray }).get? q = some (PyProof.Rows.seqObj "list" vs.toArray 0) := by rw [← hp]; exact Heap.get?_push_size _ rfl
  generalize hh : h1.push { cls := .type "list", data := .seq vs.toArray } = h2 at g2
  have k2 : ∀ b o, s.heap.get? b = some o → h2.get? b = some o ∧ b ≠ q := fun b o e => ⟨by rw [← hh]; exact Heap.get?_push_of_some _ (k1 b o e), Nat.ne_of_lt (Nat.lt_of_lt_of_le (Heap.lt_size e) le1)⟩
  show wpAny _ _ _ _ _ (⟨h2, s.gens, s.drawn, tk, s.os⟩ : Shared)
  have ek : PySem.W.EachIs (fun v d => ∃ as, PySem.Reads (PySem.W.sortingHeap h2 q vs) v d as) vs (xs.map en) := PySem.W.each_map en (each_mono (fun u b ⟨h, hb⟩ => by
    obtain ⟨as, r⟩ := rd u b h hb
    exact ⟨as, PyProof.Rows.Reads.keeps (fun b o e => PySem.W.sortingHeap_old (k2 b o e).2 (k2 b o e).1) r⟩) (PySem.W.each_mem ev))
  have st := PySem.W.SortsAt.data (prog := P) (w := w) (A := A.in1.in1) (s := ⟨PySem.W.sortingHeap h2 q vs, s.gens, s.drawn, tk, s.os⟩) ek hal hs (PySem.W.bound_map hu)
  refine wpAny_bind (wpAny_holding (wpAny_call_entry_kw PyProof.Rows.slot_list_sort ⟨_, g2, rfl⟩ PyProof.Rows.entry_list_sort (PySem.W.list_sort_vals (s := ⟨h2, s.gens, s.drawn, tk, s.os⟩) g2 st hl ⟨.none, rfl, ?_⟩) (PyProof.Rows.args_list_sort _)))
  obtain ⟨ep, h3⟩ := PyProof.Rows.sortedHeap_at (vs := vs) (out := (PySem.W.sortVals (PySem.W.dataKind (PySem.W.sortingHeap h2 q vs) (xs.map en)) false vs vs).toArray) g2
  refine wpAny_pure ⟨_, rfl, k _ tk q _ ep le1 (fun b o e => ?_) h3 (PySem.W.sortVals_data (R := R) false ev (PySem.W.each_of_map en ek) hal)⟩
  obtain ⟨e1, e2⟩ := k2 b o e
  rw [PyProof.Rows.sortedHeap_old e2 (Heap.lt_size e1)]
  exact e1
def sortR (en : α → D) (xs : List α) : List V → Hp → VK → Prop := fun us H Q => ∃ G b a vs, xs.length ≤ sizeLine ∧ Same G H ∧ us = [.ref a] ∧ (∀ K, SeqAt K H b a vs) ∧ RpA G vs (xs.map en) ∧ ∀ q ws, H q = none → RpA G ws ((srt en xs).map en) → Q (.ref q) (upd H q (.lst ws))
theorem srt_length (en : α → D) (xs : List α) : (srt en xs).length = xs.length := List.length_mergeSort _
theorem srt_perm (en : α → D) (xs : List α) : (srt en xs).Perm xs := List.mergeSort_perm _ _
structure SortOk (en : α → D) (xs : List α) : Prop where
  al : ∀ x ∈ xs, ∀ y ∈ xs, PySem.W.alike (en x) (en y) = true
  pl : ∀ x ∈ xs, (en x).plain = true
  dp : ∀ x ∈ xs, (en x).depth ≤ 60
  st : PySem.W.Sortable (xs.map en)
theorem SortOk.all (o : SortOk en xs) : PySem.W.AllAlike (xs.map en) := fun d h1 d' h2 => by
  obtain ⟨x, hx, rfl⟩ := List.mem_map.mp h1
  obtain ⟨y, hy, rfl⟩ := List.mem_map.mp h2
  exact o.al x hx y hy
theorem call_sortD {X : Cx} (hX : c.In X) (o : SortOk en xs) : CallR X (.builtin "sorted") (sortR en xs) := by
  intro pins s σ H us vs Q I r h
  obtain ⟨G, b, a, ws, hz, g, rfl, sq, ra, q⟩ := h
  rw [Vals.ref1 r]
  have hu : ∀ b, b ∈ xs → X.A.units + 2 + (en b).depth < cLine := fun b hb => by have := hX.units; have := o.dp b hb; omega
  obtain ⟨T, ob, its, n, hT, e1, e2, e3, rv⟩ : ∃ (T : String) (ob : Obj) (its : Array Value) (n : Nat), (T = "list" ∨ T = "tuple") ∧ s.heap.get? a = some ob ∧ ob.cls = .type T ∧ ob.data = .seq its n ∧ Vals ws its.toList := by
    cases b with
    | true =>
      obtain ⟨its, rv, ⟨ob, n, e1, e2, _, e3⟩, _⟩ := I.list (sq X.K)
      exact ⟨"list", ob, its.toArray, n, .inl rfl, e1, e2, e3, by simpa using rv⟩
    | false =>
      obtain ⟨its, rv, ⟨ob, e1, e2, n, e3⟩, _⟩ := I.tuple (sq X.K)
      exact ⟨"tuple", ob, its.toArray, n, .inr rfl, e1, e2, e3, by simpa using rv⟩
  have ev := paired_join rv ra
  have zz : its.size ≤ sizeLine := by rw [← Array.length_toList, ev.length]; exact hz
  refine sorted_coll (R := fun u b => ∃ x, RelV x u ∧ Rp G x (en b)) (xs := xs) (en := en) (fun A' F E' _ k => collect_seqZ a hT e1 e2 e3 zz fun h' le kk => k h' s.toks its.toList le kk ev) (fun u b ⟨x, h1, h2⟩ hb => Dp.reads I (en b) x u (h2.dp g (o.pl b hb)) h1) o.all o.st hz hu fun h' tk p out ep hp kk gp eo => ?_
  obtain ⟨zs, h1, h2⟩ := paired_split eo
  have hlen : zs.length ≤ sizeLine := by rw [h2.length, List.length_map, srt_length]; exact hz
  exact ⟨.ref p, upd H p (.lst zs), I.laid (t' := tk) kk hp ⟨hlen, out, ep, h1, gp⟩, rfl, q _ _ (I.hok.fresh hp) h2⟩
/-- sorted(xs), a list or a tuple -/
theorem ex_sorted [Bt c] (h : EX c e S (.val d) S1) (hd : d = .tuple (xs.map en) ∨ d = .list (xs.map en)) (o : SortOk en xs) (hg : GlC c "sorted" := by rfl) (hs : ∀ env, starEach [e] env = (false, eval e env) :: starEach [] env := by intro _; rfl) : EX c (.Call (.Name "sorted" p) [e] [] pos) S (.lst ((srt en xs).map en)) S1 :=
  ex_callB (ws := [.val d]) (w := .lst ((srt en xs).map en)) (fun X hX => ⟨_, call_sortD hX o, vra1 fun B G H S σ x Q st r k => by
    obtain ⟨b, a, vs, rfl, sq, ra, z⟩ := SeqAt.of st.g hd r
    rw [List.length_map] at z
    exact ⟨G, b, a, vs, z, st.g, rfl, fun K => sq K H st.g, ra, fun q ws hq rw' => k _ _ G (Ext.refl _ _) (st.newLst hq rw' (by rw [List.length_map, srt_length]; exact z))⟩⟩) (ex_arg1 h hs) (by decide +kernel) (by decide +kernel) hg (he := hs)
end
end DL

/-! DL, part p: the law's source: made from the script, drawn from. -/
namespace DL
open PySem PySem.Spec PyProof.Rows L2
/-! ### the script -/
def scrP (K : PySem.W.Frag) (ns : List Int) : V → Hp → Prop := fun v G => ∃ a, v = .ref a ∧ SqL K G a (ns.map V.int) ∧ ns.length ≤ sizeLine
theorem SqL.mono {K : PySem.W.Frag} {G H : Hp} {a : Addr} {xs : List V} (g : Same G H) (h : SqL K G a xs) : SqL K H a xs := by
  rcases h with (h | ⟨o, h⟩) | h
  · exact .inl (.inl (g _ _ h))
  · exact .inl (.inr ⟨o, g _ _ h⟩)
  · exact .inr h
section
variable {B G H : Hp} {S T : List SV} {σ τ : L2.St} {w wa wb : SV} {x y : Option V}
theorem Stt.rise : ∀ {B : Hp} {ws : List SV} {xs : L2.St}, ws.length = xs.length → Stt B G H (ws ++ w :: S) (xs ++ x :: σ) → Stt B G H (w :: (ws ++ S)) (x :: (xs ++ σ))
  | _, [], [], _, h => h
  | _, [], _ :: _, e, _ => by simp at e
  | _, _ :: _, [], e, _ => by simp at e
  | _, a :: ws, y :: xs, e, h => by
    obtain ⟨B1, h3, back⟩ := Stt.bracket (S := ws ++ w :: S) (σ := xs ++ x :: σ) h
    have h4 := Stt.rise (ws := ws) (xs := xs) (by simpa using e) h3
    exact Stt.swap (S := ws ++ S) (σ := xs ++ σ) (back _ _ _ _ (Ext.refl _ _) h4).2
/-- one more thing on top of ws -/
theorem Stt.step {B G H : Hp} {ws : List SV} {xs : L2.St} {Q : VK} {S1 : List SV} (hl : ws.length = xs.length) (st : Stt B G H (ws ++ S) (xs ++ σ)) (k : ∀ v H' G', Ext B G G' → Stt B G' H' (w :: (ws ++ S1)) (some v :: (xs ++ σ)) → Q v H') : tD S w S1 σ H Q := by
  obtain ⟨B1, s1, back⟩ := Stt.brackets hl st
  refine ⟨B1, G, s1, fun v H' G' x1 s2 => ?_⟩
  obtain ⟨x2, s3⟩ := back G' H' (w :: S1) (some v :: σ) x1 s2
  exact k v H' G' x2 (Stt.rise hl s3)
end
section
variable {c : CC} {e e1 e2 e3 e4 k1 k2 k3 k4 tg : Expr} {S S1 : List SV} {sts : List Stmt} {P : Oc → Prop} {pos pos2 p py apos cpos : Pos} {y : Str} {i : Nat} {ns : List Int} {m : Int}
theorem itx_scr (h : EX c e S (.pr (scrP c.K ns)) S1) : IX c tg e S (ns.map PyData.int) S1 := fun X hX => (pi_list (h X hX)).wk fun σ H R ⟨B, G, st, k⟩ => ⟨B, G, st, fun v H1 G1 x s1 => by
  obtain ⟨a, rfl, sq, z⟩ := s1.headP
  have sq' : ∀ H2, Same G1 H2 → SqL X.K H2 a (ns.map V.int) := fun H2 g => by rw [hX.K]; exact SqL.mono g sq
  refine ⟨a, rfl, ⟨_, sq' H1 s1.g⟩, k _ H1 G1 x s1.tail (walkD_at (xs := ns.map V.int) (by simp) (fun i H2 hi g => ⟨_, (ns.map V.int)[i], sq' H2 g, by simp [hi]⟩) (fun H2 g => ⟨_, sq' H2 g, Nat.le_refl _⟩) (fun i H2 x H3 g y => ⟨y.1, y.2 _ (sq' H2 g)⟩) (RpA.ints ns) (by rw [List.length_map]; exact z))⟩⟩
theorem Stt.mkSrc {B G H : Hp} {σ : L2.St} {p q : Addr} (h : Stt B G H (.lst (ns.map PyData.int) :: .dk [] :: S) (some (.ref q) :: some (.ref p) :: σ)) : Stt B G (upd H p (.dK (srcKvs q ⟨ns, 1, m, 0⟩))) (.src p q ⟨ns, 1, m, 0⟩ :: S) (some (.ref p) :: σ) := by
  obtain ⟨fp, o, z, dj, fr⟩ := id h.own
  obtain ⟨a, us, ea, ef, eq, r, _⟩ := o 0 _ _ rfl rfl
  cases ea
  obtain ⟨a, us', ea, ef', ep, r', _⟩ := o 1 _ _ rfl rfl
  cases ea
  have ne : p ≠ q := by
    rintro rfl
    have := dj 0 1 p (by rw [ef]; simp) (by rw [ef']; simp)
    cases this
  obtain ⟨gp, bp⟩ := fr 1 p (by rw [ef']; simp)
  have hus := RpA.of_ints r
  subst hus
  refine ⟨fun a u q => ?_, fun a u q => ?_, by simpa using h.len, fun j => match j with | 0 => [p, q] | j + 1 => fp (j + 2), fun j u x e1 e2 => ?_, fun j hj => ?_, fun j l a h1 h2 => ?_, fun j a ha => ?_⟩
  · rw [upd_ne (by rintro rfl; rw [gp] at q; cases q)]; exact h.g a u q
  · rw [upd_ne (by rintro rfl; rw [bp] at q; cases q)]; exact h.b a u q
  · cases j with
    | zero =>
      have e1 : SV.src p q ⟨ns, 1, m, 0⟩ = u := Option.some.inj e1
      have e2 : some (V.ref p) = x := Option.some.inj e2
      subst e1; subst e2
      exact ⟨rfl, rfl, ne, upd_same, by rw [upd_ne (Ne.symm ne)]; exact eq⟩
    | succ j =>
      refine (o (j + 2) u x (by simpa using e1) (by simpa using e2)).mono (Same.refl _) fun a ha => upd_ne ?_
      rintro rfl
      have := dj (j + 2) 1 a ha (by rw [ef']; simp)
      omega
  · cases j with
    | zero => simp at hj
    | succ j => exact z (j + 2) (by simpa using hj)
  · cases j with
    | zero =>
      cases l with
      | zero => rfl
      | succ l =>
        exfalso
        have h1 : a = p ∨ a = q := by simpa using h1
        rcases h1 with rfl | rfl
        · have := dj (l + 2) 1 a h2 (by rw [ef']; simp)
          omega
        · have := dj (l + 2) 0 a h2 (by rw [ef]; simp)
          omega
    | succ j =>
      cases l with
      | zero =>
        exfalso
        have h2 : a = p ∨ a = q := by simpa using h2
        rcases h2 with rfl | rfl
        · have := dj (j + 2) 1 a h1 (by rw [ef']; simp)
          omega
        · have := dj (j + 2) 0 a h1 (by rw [ef]; simp)
          omega
      | succ l =>
        have := dj _ _ a h1 h2
        omega
  · cases j with
    | zero =>
      have ha : a = p ∨ a = q := by simpa using ha
      rcases ha with rfl | rfl
      · exact ⟨gp, bp⟩
      · exact fr 0 a (by rw [ef]; simp)
    | succ j => exact fr (j + 2) a ha
/-- return {'cells': .., 'left': 1, 'mixed': .., 'turn': 0} -/
theorem ws_retSrc {ka kb kc kd ja jb : Nat} {pa pb pc pd qa qb : Pos} (h1 : EX c e1 S (.lst (ns.map PyData.int)) S) (h3 : EX c e3 S (.val (.int m)) S) (kp : ∀ p q, P (.rt (.src p q ⟨ns, 1, m, 0⟩) S)) :
    WS c (.Return (some (.Dict [some (.Constant (.str "cells") ka pa), some (.Constant (.str "left") kb pb), some (.Constant (.str "mixed") kc pc), some (.Constant (.str "turn") kd pd)] [e1, .Constant (.int 1) ja qa, e3, .Constant (.int 0) jb qb] pos)) pos2 :: sts) S P := ws_cons fun X hX =>
  (ps_ret (pe_disp (pps_cons (ex_str X hX) (h1 X hX) (pps_cons (ex_str X hX) (ex_int X hX) (pps_cons (ex_str X hX) (h3 X hX) (pps_cons (ex_str X hX) (ex_int X hX) pps_nil)))) rfl rfl (by simp) (by simp))).wk fun D σ H ⟨B, G, st, f⟩ p hp => by
    have s0 : Stt B G (upd H p (.dK [])) (.dk [] :: S) (some (.ref p) :: σ) := st.newDk hp .nil (Nat.zero_le _)
    refine Stt.step (ws := [.dk []]) (xs := [some (.ref p)]) rfl s0 fun v1 H1 G1 x1 s1 => ?_
    refine Stt.step (ws := [_, .dk []]) (xs := [some v1, some (.ref p)]) rfl s1 fun v2 H2 G2 x2 s2 => ?_
    refine Stt.step (ws := [_, _, .dk []]) (xs := [some v2, some v1, some (.ref p)]) rfl s2 fun v3 H3 G3 x3 s3 => ?_
    refine Stt.step (ws := [_, _, _, .dk []]) (xs := [some v3, some v2, some v1, some (.ref p)]) rfl s3 fun v4 H4 G4 x4 s4 => ?_
    refine Stt.step (ws := [_, _, _, _, .dk []]) (xs := [some v4, some v3, some v2, some v1, some (.ref p)]) rfl s4 fun v5 H5 G5 x5 s5 => ?_
    refine Stt.step (ws := [_, _, _, _, _, .dk []]) (xs := [some v5, some v4, some v3, some v2, some v1, some (.ref p)]) rfl s5 fun v6 H6 G6 x6 s6 => ?_
    refine Stt.step (ws := [_, _, _, _, _, _, .dk []]) (xs := [some v6, some v5, some v4, some v3, some v2, some v1, some (.ref p)]) rfl s6 fun v7 H7 G7 x7 s7 => ?_
    refine Stt.step (ws := [_, _, _, _, _, _, _, .dk []]) (xs := [some v7, some v6, some v5, some v4, some v3, some v2, some v1, some (.ref p)]) rfl s7 fun v8 H8 G8 x8 s8 => ?_
    have s8 : Stt B G8 H8 (.val (.int 0) :: .val (.str "turn") :: .val (.int m) :: .val (.str "mixed") :: .val (.int 1) :: .val (.str "left") :: .lst (ns.map PyData.int) :: .val (.str "cells") :: .dk [] :: S) (some v8 :: some v7 :: some v6 :: some v5 :: some v4 :: some v3 :: some v2 :: some v1 :: some (.ref p) :: σ) := s8
    have r8 := s8.headV
    have t7 := s8.tail
    have r7 := t7.headV
    have t6 := t7.tail
    have r6 := t6.headV
    have t5 := t6.tail
    have r5 := t5.headV
    have t4 := t5.tail
    have r4 := t4.headV
    have t3 := t4.tail
    have r3 := t3.headV
    have t2 := t3.tail
    have t1 := t2.swap
    have r1 := t1.headV
    have t0 := t1.tail
    cases r8; cases r7; cases r6; cases r5; cases r4; cases r3; cases r1
    obtain ⟨q, us, eq, _⟩ := t0.updL (i := 0) rfl
    have eq : v2 = .ref q := Option.some.inj (Option.some.inj eq)
    subst eq
    have dp : H8 p = some (.dK []) := by
      obtain ⟨a, us', ea, e2, r, _⟩ := t0.updK (i := 1) rfl
      cases ea
      cases r
      exact e2
    have xx : Ext B G G8 := ((((((x1.trans x2).trans x3).trans x4).trans x5).trans x6).trans x7).trans x8
    refine ⟨dp, [(sKey "cells", .ref q), (sKey "left", .int 1), (sKey "mixed", .int m), (sKey "turn", .int 0)], rfl, by simp, ?_⟩
    have e : mergeK [] [(sKey "cells", .ref q), (sKey "left", .int 1), (sKey "mixed", .int m), (sKey "turn", .int 0)] = srcKvs q ⟨ns, 1, m, 0⟩ := by
      have n1 : (sKey "cells" = sKey "left") = False := eq_false (by decide)
      have n2 : (sKey "cells" = sKey "mixed") = False := eq_false (by decide)
      have n3 : (sKey "left" = sKey "mixed") = False := eq_false (by decide)
      have n4 : (sKey "cells" = sKey "turn") = False := eq_false (by decide)
      have n5 : (sKey "left" = sKey "turn") = False := eq_false (by decide)
      have n6 : (sKey "mixed" = sKey "turn") = False := eq_false (by decide)
      simp [mergeK, putK, srcKvs, n1, n2, n3, n4, n5, n6]
    rw [e]
    exact f.rt _ S _ G8 σ _ (kp p q) xx t0.mkSrc
/-! ### drawing -/
variable {pa qa : Addr} {s : Src} {j : Nat} {d : D}
theorem Stt.srcAt {B G H : Hp} {σ : L2.St} (h : Stt B G H S σ) (e : S[i]? = some (.src pa qa s)) : σ[i]? = some (some (.ref pa)) ∧ H pa = some (.dK (srcKvs qa s)) ∧ H qa = some (.lst (s.cells.map V.int)) ∧ pa ≠ qa ∧ G pa = none ∧ G qa = none := by
  obtain ⟨y, ey⟩ := h.at e
  obtain ⟨fp, o, _, _, fr⟩ := id h.own
  obtain ⟨rfl, ef, ne, ep, eq⟩ := o i _ y e ey
  exact ⟨ey, ep, eq, ne, (fr i pa (by rw [ef]; simp)).1, (fr i qa (by rw [ef]; simp)).1⟩
/-- the source's slot written -/
theorem Stt.srcSet {B G H : Hp} {σ : L2.St} {s' : Src} {H' : Hp} (h : Stt B G H S σ) (e : S[i]? = some (.src pa qa s)) (h1 : H' pa = some (.dK (srcKvs qa s'))) (h2 : H' qa = some (.lst (s'.cells.map V.int))) (h3 : ∀ a, a ≠ pa → a ≠ qa → H' a = H a) : Stt B G H' (S.set i (.src pa qa s')) σ := by
  obtain ⟨ey, ep, eq, ne, gp, gq⟩ := h.srcAt e
  refine h.chg e ey (Same.refl _) (fun a u q => ?_) fun f of ff => ⟨[pa, qa], ⟨rfl, rfl, ne, h1, h2⟩, fun a ha => ?_, fun a ha _ => ?_, fun a u _ q1 q2 => by rw [q1] at q2; cases q2⟩
  · rw [h3 a (by rintro rfl; rw [gp] at q; cases q) (by rintro rfl; rw [gq] at q; cases q)]
    exact h.g a u q
  · obtain ⟨_, rfl, _⟩ := of
    exact ⟨.inl ha, (ff a ha).1⟩
  · obtain ⟨_, rfl, _⟩ := of
    exact h3 a (fun z => ha (by rw [z]; simp)) (fun z => ha (by rw [z]; simp))
theorem key_ne {x y : Str} (h : (x == y) = false) : (sKey x = sKey y) = False := eq_false fun e => by
  have e := Sum.inr.inj e
  rw [e] at h
  simp at h
theorem src_left : valV (srcKvs qa s) (sKey "left") = some (.int s.left) := by simp [valV, srcKvs, key_ne (x := "cells") (y := "left") (by decide)]
theorem src_mixed : valV (srcKvs qa s) (sKey "mixed") = some (.int s.mixed) := by simp [valV, srcKvs, key_ne (x := "cells") (y := "mixed") (by decide), key_ne (x := "left") (y := "mixed") (by decide)]
theorem src_turn : valV (srcKvs qa s) (sKey "turn") = some (.int s.turn) := by simp [valV, srcKvs, key_ne (x := "cells") (y := "turn") (by decide), key_ne (x := "left") (y := "turn") (by decide), key_ne (x := "mixed") (y := "turn") (by decide)]
theorem src_cells : valV (srcKvs qa s) (sKey "cells") = some (.ref qa) := by simp [valV, srcKvs]
theorem put_left {v : Int} : putK (srcKvs qa s) (sKey "left") (.int v) = srcKvs qa { s with left := v } := by
  simp [putK, srcKvs, key_ne (x := "cells") (y := "left") (by decide), key_ne (x := "mixed") (y := "left") (by decide), key_ne (x := "turn") (y := "left") (by decide)]
theorem put_mixed {v : Int} : putK (srcKvs qa s) (sKey "mixed") (.int v) = srcKvs qa { s with mixed := v } := by
  simp [putK, srcKvs, key_ne (x := "cells") (y := "mixed") (by decide), key_ne (x := "left") (y := "mixed") (by decide), key_ne (x := "turn") (y := "mixed") (by decide)]
theorem put_turn {v : Int} : putK (srcKvs qa s) (sKey "turn") (.int v) = srcKvs qa { s with turn := v } := by
  simp [putK, srcKvs, key_ne (x := "cells") (y := "turn") (by decide), key_ne (x := "left") (y := "turn") (by decide), key_ne (x := "mixed") (y := "turn") (by decide)]
def isAt (a : Addr) : V → Hp → Prop := fun v _ => v = .ref a
theorem Stt.pushP {B G H : Hp} {σ : L2.St} {v : V} {q : V → Hp → Prop} (h : Stt B G H S σ) (r : ∀ G', Same G G' → q v G') : Stt B G H (.pr q :: S) (some v :: σ) := by
  obtain ⟨fp, o, z, dj, fr⟩ := h.own
  refine ⟨h.g, h.b, by simpa using h.len, fun i => match i with | 0 => [] | j + 1 => fp j, fun i u y e1 e2 => ?_, fun i hi => ?_, fun i j a h1 h2 => ?_, fun i a ha => ?_⟩
  · cases i with
    | zero =>
      have e1 : SV.pr q = u := Option.some.inj e1
      have e2 : some v = y := Option.some.inj e2
      subst e1; subst e2
      exact ⟨rfl, v, rfl, r⟩
    | succ i => exact o i u y (by simpa using e1) (by simpa using e2)
  · cases i with
    | zero => rfl
    | succ i => exact z i (by simpa using hi)
  · cases i with
    | zero => cases h1
    | succ i =>
      cases j with
      | zero => cases h2
      | succ j => rw [dj i j a h1 h2]
  · cases i with
    | zero => cases ha
    | succ i => exact fr i a ha
variable {kn : Nat} {py2 : Pos}
theorem ex_srcG {f : Str} {w : SV} {v : V} (hN : c.N[i]? = some y) (hv : Vis c.sc y) (h0 : S[i]? = some (.src pa qa s)) (hd : (y == ("__debug__" : Str)) = false) (hcd : (y == ("__classdict__" : Str)) = false) (hs : NoSl (.Constant (.str f) kn py2)) (hk : valV (srcKvs qa s) (sKey f) = some v)
    (hw : ∀ B G H σ, Stt B G H S σ → Stt B G H (w :: S) (some v :: σ)) : EX c (.Subscript (.Name y py) (.Constant (.str f) kn py2) pos) S w S := fun X hX =>
  (pe_dget hX.u1 (pe_var (i := i) (by rw [hX.N]; exact hN) (by rw [hX.sc]; exact hv) hd hcd) pe_str hs).wk fun σ H Q ⟨B, G, st, k⟩ => by
    obtain ⟨ey, ep, eq, _⟩ := st.srcAt h0
    refine ⟨.ref pa, ey, pa, v, rfl, ?_, k v H G (Ext.refl _ _) (hw _ _ _ _ st)⟩
    have g := DGet.k (k := sKey f) ep
    rw [hk] at g
    exact g
theorem ex_srcLeft (hN : c.N[i]? = some y := by rfl) (hv : Vis c.sc y := by first | exact Or.inl rfl | exact Or.inr (Or.inl rfl) | exact Or.inr (Or.inr rfl)) (h0 : S[i]? = some (.src pa qa s) := by rfl) (hd : (y == ("__debug__" : Str)) = false := by decide) (hcd : (y == ("__classdict__" : Str)) = false := by decide) : EX c (.Subscript (.Name y py) (.Constant (.str "left") kn py2) pos) S (.val (.int s.left)) S :=
  ex_srcG hN hv h0 hd hcd (fun _ _ => rfl) src_left fun B G H σ st => st.push (.int _)
theorem ex_srcMixed (hN : c.N[i]? = some y := by rfl) (hv : Vis c.sc y := by first | exact Or.inl rfl | exact Or.inr (Or.inl rfl) | exact Or.inr (Or.inr rfl)) (h0 : S[i]? = some (.src pa qa s) := by rfl) (hd : (y == ("__debug__" : Str)) = false := by decide) (hcd : (y == ("__classdict__" : Str)) = false := by decide) : EX c (.Subscript (.Name y py) (.Constant (.str "mixed") kn py2) pos) S (.val (.int s.mixed)) S :=
  ex_srcG hN hv h0 hd hcd (fun _ _ => rfl) src_mixed fun B G H σ st => st.push (.int _)
theorem ex_srcTurn (hN : c.N[i]? = some y := by rfl) (hv : Vis c.sc y := by first | exact Or.inl rfl | exact Or.inr (Or.inl rfl) | exact Or.inr (Or.inr rfl)) (h0 : S[i]? = some (.src pa qa s) := by rfl) (hd : (y == ("__debug__" : Str)) = false := by decide) (hcd : (y == ("__classdict__" : Str)) = false := by decide) : EX c (.Subscript (.Name y py) (.Constant (.str "turn") kn py2) pos) S (.val (.int s.turn)) S :=
  ex_srcG hN hv h0 hd hcd (fun _ _ => rfl) src_turn fun B G H σ st => st.push (.int _)
theorem ex_srcCells (hN : c.N[i]? = some y := by rfl) (hv : Vis c.sc y := by first | exact Or.inl rfl | exact Or.inr (Or.inl rfl) | exact Or.inr (Or.inr rfl)) (h0 : S[i]? = some (.src pa qa s) := by rfl) (hd : (y == ("__debug__" : Str)) = false := by decide) (hcd : (y == ("__classdict__" : Str)) = false := by decide) : EX c (.Subscript (.Name y py) (.Constant (.str "cells") kn py2) pos) S (.pr (isAt qa)) S :=
  ex_srcG hN hv h0 hd hcd (fun _ _ => rfl) src_cells fun B G H σ st => st.pushP fun _ _ => rfl
theorem gx_srcG {vs : List Nat} {f : Str} {v : Int} {s' : Src} (hN : c.N[i]? = some y) (hv : Vis c.sc y) (h0 : S[i]? = some (.src pa qa s)) (hd : (y == ("__debug__" : Str)) = false) (hcd : (y == ("__classdict__" : Str)) = false) (has : HasAs (.Name y py) (.Constant (.str f) kn py2) pos)
    (hp : putK (srcKvs qa s) (sKey f) (.int v) = srcKvs qa s') (hc : s'.cells = s.cells) : GX c (.Subscript (.Name y py) (.Constant (.str f) kn py2) pos) vs S (.val (.int v)) (S.set i (.src pa qa s')) := fun X hX =>
  (pg_sub (pe_var (i := i) (by rw [hX.N]; exact hN) (by rw [hX.sc]; exact hv) hd hcd) pe_str (set_dict hX.u1) (has _)).wk fun u σ H Q ⟨B, G, st, k⟩ => by
    have r := st.headV
    cases r
    have st := st.tail
    obtain ⟨ey, ep, eq, ne, _⟩ := st.srcAt h0
    refine ⟨.ref pa, ey, pa, _, rfl, DPut.k (k := sKey f) ep (Nat.lt_of_lt_of_le (show 4 < 64 by decide) (le_line (Nat.le_refl _))), k σ _ G (Ext.refl _ _) rfl ?_⟩
    rw [hp]
    exact st.srcSet h0 upd_same (by rw [upd_ne (Ne.symm ne), hc]; exact eq) fun a h1 _ => upd_ne h1
theorem gx_srcLeft {vs : List Nat} {v : Int} (hN : c.N[i]? = some y := by rfl) (hv : Vis c.sc y := by first | exact Or.inl rfl | exact Or.inr (Or.inl rfl) | exact Or.inr (Or.inr rfl)) (h0 : S[i]? = some (.src pa qa s) := by rfl) (hd : (y == ("__debug__" : Str)) = false := by decide) (hcd : (y == ("__classdict__" : Str)) = false := by decide) (has : HasAs (.Name y py) (.Constant (.str "left") kn py2) pos := by intro _ _; rfl) : GX c (.Subscript (.Name y py) (.Constant (.str "left") kn py2) pos) vs S (.val (.int v)) (S.set i (.src pa qa { s with left := v })) := gx_srcG hN hv h0 hd hcd has put_left rfl
theorem gx_srcMixed {vs : List Nat} {v : Int} (hN : c.N[i]? = some y := by rfl) (hv : Vis c.sc y := by first | exact Or.inl rfl | exact Or.inr (Or.inl rfl) | exact Or.inr (Or.inr rfl)) (h0 : S[i]? = some (.src pa qa s) := by rfl) (hd : (y == ("__debug__" : Str)) = false := by decide) (hcd : (y == ("__classdict__" : Str)) = false := by decide) (has : HasAs (.Name y py) (.Constant (.str "mixed") kn py2) pos := by intro _ _; rfl) : GX c (.Subscript (.Name y py) (.Constant (.str "mixed") kn py2) pos) vs S (.val (.int v)) (S.set i (.src pa qa { s with mixed := v })) := gx_srcG hN hv h0 hd hcd has put_mixed rfl
theorem gx_srcTurn {vs : List Nat} {v : Int} (hN : c.N[i]? = some y := by rfl) (hv : Vis c.sc y := by first | exact Or.inl rfl | exact Or.inr (Or.inl rfl) | exact Or.inr (Or.inr rfl)) (h0 : S[i]? = some (.src pa qa s) := by rfl) (hd : (y == ("__debug__" : Str)) = false := by decide) (hcd : (y == ("__classdict__" : Str)) = false := by decide) (has : HasAs (.Name y py) (.Constant (.str "turn") kn py2) pos := by intro _ _; rfl) : GX c (.Subscript (.Name y py) (.Constant (.str "turn") kn py2) pos) vs S (.val (.int v)) (S.set i (.src pa qa { s with turn := v })) := gx_srcG hN hv h0 hd hcd has put_turn rfl
/-- len of the cells; the last of them drawn -/
theorem ex_srcLen [Bt c] (h : EX c e S (.pr (isAt qa)) S) (h0 : S[i]? = some (.src pa qa s)) (hg : GlC c "len" := by rfl) (hs : ∀ env, starEach [e] env = (false, eval e env) :: starEach [] env := by intro _; rfl) : EX c (.Call (.Name "len" p) [e] [] pos) S (.val (.int s.cells.length)) S :=
  fun X hX => (pe_callB (r := fun xs H Q => ∃ p ys, xs = [.ref p] ∧ (SqL X.K H p ys ∨ SqT X.K H p ys) ∧ Q (.int ys.length) H) call_len_seq (hX.gl hg) (hX.mgN (Bt.no _ (by decide +kernel))) (by decide +kernel) ((ax_cons h ax_nil hs : AX c [e] S [.pr (isAt qa)] S) X hX) (by decide) (by decide) (hs _) rfl).wk fun σ H Q ⟨B, G, st, k⟩ => ⟨B, G, st, fun vs H1 G1 x1 hl s1 => by
    obtain ⟨v, rfl⟩ : ∃ v, vs = [v] := match vs, hl with | [v], _ => ⟨v, rfl⟩
    have s1 : Stt B G1 H1 (.pr (isAt qa) :: S) (some v :: σ) := s1
    have ev : v = .ref qa := s1.headP
    subst ev
    obtain ⟨_, _, eq, _⟩ := s1.tail.srcAt h0
    refine ⟨qa, s.cells.map V.int, rfl, .inl (SqL.of eq), ?_⟩
    rw [List.length_map]
    exact k _ H1 G1 x1 (s1.tail.push (.int _))⟩
theorem ex_srcPop (h : EX c e S (.pr (isAt qa)) S) (h0 : S[i]? = some (.src pa qa s)) (hz : s.cells ≠ []) (hb : ∀ env, attributeBase e "pop" env (eval e env) = eval e env := by intro _; rfl) (hl : (apos.endLine == cpos.line) = true := by rfl) : EX c (.Call (.Attribute e "pop" apos) [] [] cpos) S (.val (.int (s.cells.getLastD 0))) (S.set i (.src pa qa { s with cells := s.cells.dropLast })) := fun X hX =>
  (pe_bm0 PySem.F.plainAttrs_list PySem.F.slot_list_pop PySem.F.type_list_pop mt_pop (h X hX) (hb _) hl).wk fun σ H Q ⟨B, G, st, k⟩ => ⟨B, G, st, fun v H1 G1 x1 s1 => by
    have ev : v = .ref qa := s1.headP
    subst ev
    have st := s1.tail
    obtain ⟨ey, ep, eq, ne, _⟩ := st.srcAt h0
    refine ⟨.inl ⟨rfl, _, SqL.of eq⟩, qa, s.cells.map V.int, .int (s.cells.getLastD 0), rfl, rfl, eq, ?_, ?_⟩
    · rw [List.length_map, List.getElem?_map]
      cases hc : s.cells with
      | nil => exact absurd hc hz
      | cons a t => rw [List.getLastD_cons, List.getLastD_eq_getLast?, ← List.getLast?_eq_getElem?, List.getLast?_cons]; rfl
    · rw [← List.map_dropLast]
      exact k _ _ G1 x1 ((st.srcSet (s' := { s with cells := s.cells.dropLast }) h0 (by rw [upd_ne ne]; exact ep) upd_same fun a _ h2 => upd_ne h2).push (.int _))⟩
end
end DL

/-! DL, part q: what the printed proofs lean on. -/
namespace DL
open PySem PySem.Spec PyProof.Rows L2
/-! ### ends of blocks -/
def Ret (W : SV) : Oc → Prop := fun o => ∃ S, o = .rt W S
def NoB (mg : Str → Option Value) : Prop := ∀ x ∈ (["range", "len", "sorted", "list", "tuple", "enumerate", "zip", "sum", "max", "min", "all", "any", "abs", "int", "repr", "dict", "isinstance", "bool", "str", "set"] : List Str), mg x = none
theorem lt_b {a b : Nat} (h : Nat.blt a b = true) : a < b := Nat.le_of_ble_eq_true h
theorem le_b {a b : Nat} (h : Nat.ble a b = true) : a ≤ b := Nat.le_of_ble_eq_true h
@[irreducible] def FU : Nat := 16777216

section
variable {α β ρ σ τ : Type}
theorem cond_t {k : Bool} {x y : α} (h : k = true) : cond k x y = x := by rw [h]; rfl
theorem cond_f {k : Bool} {x y : α} (h : k = false) : cond k x y = y := by rw [h]; rfl
def thenE (x : Except ρ σ) (k : σ → ρ) : ρ := match x with | .error r => r | .ok s => k s
def bindE (x : Except ρ σ) (k : σ → Except ρ τ) : Except ρ τ := match x with | .error r => .error r | .ok s => k s
theorem thenE_ok {x : Except ρ σ} {k : σ → ρ} {s : σ} (h : x = .ok s) : thenE x k = k s := by rw [h]; rfl
theorem thenE_err {x : Except ρ σ} {k : σ → ρ} {r : ρ} (h : x = .error r) : thenE x k = r := by rw [h]; rfl
theorem bindE_ok {x : Except ρ σ} {k : σ → Except ρ τ} {s : σ} (h : x = .ok s) : bindE x k = k s := by rw [h]; rfl
theorem bindE_err {x : Except ρ σ} {k : σ → Except ρ τ} {r : ρ} (h : x = .error r) : bindE x k = .error r := by rw [h]; rfl
theorem ret_ok {Wf : ρ → SV} {r v : ρ} {S : List SV} (E : r = v) : Ret (Wf r) (.rt (Wf v) S) := ⟨S, by rw [E]⟩
theorem retE_ok {Sf : σ → List SV} {Wf : ρ → SV} {r : Except ρ σ} {v : ρ} {S : List SV} (E : r = .error v) : NxtE Sf (fun q => Ret (Wf q)) r (.rt (Wf v) S) := ⟨v, E, S, rfl⟩
theorem ret_up {Wf : ρ → SV} {r0 r : ρ} {o : Oc} (E : r0 = r) (h : Ret (Wf r) o) : Ret (Wf r0) o := E ▸ h
theorem retE_up {Sf : σ → List SV} {Wf : ρ → SV} {r0 : Except ρ σ} {r : ρ} {w : SV} {S : List SV} (E : r0 = .error r) (h : Ret (Wf r) (.rt w S)) : NxtE Sf (fun q => Ret (Wf q)) r0 (.rt w S) := ⟨r, E, h⟩
theorem nxt_ok {Sf : σ → List SV} {r v : σ} {S : List SV} (E : r = v) (h : Wk S (Sf v)) : Nxt (Sf r) (.nx S) := by rw [E]; exact h.imp
theorem nxtE_ok {Sf : σ → List SV} {PR : ρ → Oc → Prop} {r : Except ρ σ} {v : σ} {S : List SV} (E : r = .ok v) (h : Wk S (Sf v)) : NxtE Sf PR r (.nx S) := ⟨v, E, h.imp⟩
theorem ct_ok {Sf : σ → List SV} {r v : σ} {S : List SV} (E : r = v) (h : Wk S (Sf v)) : Nxt (Sf r) (.ct S) := by rw [E]; exact h.imp
theorem ctE_ok {Sf : σ → List SV} {PR : ρ → Oc → Prop} {r : Except ρ σ} {v : σ} {S : List SV} (E : r = .ok v) (h : Wk S (Sf v)) : NxtE Sf PR r (.ct S) := ⟨v, E, h.imp⟩
def NxJ (T : List SV) : Oc → Prop
  | .nx S => Imp S T
  | _ => False
theorem nxj_ok {Sf : σ → List SV} {r v : σ} {S : List SV} (E : r = v) (h : Wk S (Sf v)) : NxJ (Sf r) (.nx S) := by rw [E]; exact h.imp
end
section
variable {c : CC} {e a b t : Expr} {es : List Expr} {A1 A2 sts : List Stmt} {S S1 S2 S3 : List SV} {pos p pos2 apos cpos py : Pos} {P : Oc → Prop} {σ α β : Type} {en : α → D} {x y : α} {xs ys : List α} {k : Bool} {d : D} {ds : List D} {i j : Int}
theorem ws_step_c (h : P (.ct S)) : WS c (.Continue pos :: sts) S P := ws_cons (w1_continue (by exact h))
theorem ws_none (h : P (.nx S) := by trivial) : WS c [] S P := ws_nil h
theorem ws_ifJ {Sf : σ → List SV} {r : σ} (hc : TX c e S k S1) (ha : k = true → WS c A1 S1 (NxJ (Sf r))) (hb : k = false → WS c A2 S1 (NxJ (Sf r))) (h : WS c sts (Sf r) P) : WS c (.If e A1 A2 pos :: sts) S P := by
  refine ws_if hc (fun hk => (ha hk).mono fun o q => ?_) (fun hk => (hb hk).mono fun o q => ?_)
  · cases o with
    | nx S' => exact WS.pre q h
    | rt w S' => exact q.elim
    | bk S' => exact q.elim
    | ct S' => exact q.elim
  · cases o with
    | nx S' => exact WS.pre q h
    | rt w S' => exact q.elim
    | bk S' => exact q.elim
    | ct S' => exact q.elim
/-! ### typed forms -/
theorem itx_listE {tg : Expr} (h : EX c e S (.val (eL en xs)) S1) : IX c tg e S (xs.map en) S1 := itx_list h
theorem itx_tupE {tg : Expr} (h : EX c e S (.val (eT en xs)) S1) : IX c tg e S (xs.map en) S1 := itx_tup h
abbrev SzOk (n : Nat) : Prop := n ≤ sizeLine
theorem EX.fzE (h : EX c e S (.lst (xs.map en)) S1) : EX c e S (.val (eL en xs)) S1 := h.fz
theorem ex_borEK {κ : Type} {ek : κ → D} {eb : β → D} [Ky ek] [Im eb] {m : List (κ × β)} (h : EX c e (frzS S) (sK ek eb m) S1) : EX c e S (sK ek eb m) S := ex_borK h (by
  simp only [immV, kvK, List.map_map]
  have := Im.all eb (m.map (·.2))
  rwa [List.map_map] at this)
theorem ex_borEU {κ : Type} {ek : κ → D} {eb : β → D} [Kt ek] [Im eb] {m : List (κ × β)} (h : EX c e (frzS S) (sU ek eb m) S1) : EX c e S (sU ek eb m) S := ex_borT h (by
  simp only [immV, kvU, List.map_map]
  have := Im.all eb (m.map (·.2))
  rwa [List.map_map] at this)
theorem EX.fzPK {κ : Type} {ek : κ → D} {eb : β → D} [Ky ek] {m : List (κ × β)} (h : EX c e S (sK ek eb m) S1) : EX c e S (pK ek eb m) S1 := h.post (show Imp (.dk (kvK ek eb m) :: S1) (frzV (.dk (kvK ek eb m)) :: S1) from Imp.frzHead)
theorem EX.fzPU {κ : Type} {ek : κ → D} {eb : β → D} [Kt ek] {m : List (κ × β)} (h : EX c e S (sU ek eb m) S1) : EX c e S (pU ek eb m) S1 := h.post (show Imp (.dt (kvU ek eb m) :: S1) (frzV (.dt (kvU ek eb m)) :: S1) from Imp.frzHead)
theorem ex_some (h : EX c e S (.val (en x)) S1) : EX c e S (.val (eO en (some x))) S1 := h
def getO [Inhabited α] (o : Option α) : α := o.getD default
theorem ex_getO [Inhabited α] {o : Option α} (h : EX c e S (.val (eO en o)) S1) (hs : o.isSome = true) : EX c e S (.val (en (getO o))) S1 := by
  cases o with
  | none => cases hs
  | some a => exact h
section
variable [Nn en]
theorem ex_isNO {o : Option α} (ha : EX c a S (.val (eO en o)) S1) (hb : EX c b S1 (.val .none) S2) : EX c (.Compare a [.Is] [b] pos) S (.val (.bool (!o.isSome))) S2 := by rw [← isNone_eO (en := en)]; exact ex_isN ha hb
theorem tx_isNO {o : Option α} (ha : EX c a S (.val (eO en o)) S1) (hb : EX c b S1 (.val .none) S2) : TX c (.Compare a [.Is] [b] pos) S (!o.isSome) S2 := by rw [← isNone_eO (en := en)]; exact tx_isN ha hb
theorem ex_isnotNO {o : Option α} (ha : EX c a S (.val (eO en o)) S1) (hb : EX c b S1 (.val .none) S2) : EX c (.Compare a [.IsNot] [b] pos) S (.val (.bool o.isSome)) S2 := by
  have := ex_isnotN (pos := pos) ha hb
  rw [isNone_eO, Bool.not_not] at this
  exact this
theorem tx_isnotNO {o : Option α} (ha : EX c a S (.val (eO en o)) S1) (hb : EX c b S1 (.val .none) S2) : TX c (.Compare a [.IsNot] [b] pos) S o.isSome S2 := by
  have := tx_isnotN (pos := pos) ha hb
  rw [isNone_eO, Bool.not_not] at this
  exact this
end
instance [DecidableEq α] (e : α → D) [En e] [Nn e] : En (eO e) := ⟨En.dp e, fun o => by cases o with | none => rfl | some a => exact En.plain a, fun o => by cases o with | none => exact Nat.zero_le _ | some a => exact En.depth a, fun o o' => by
  cases o with
  | none =>
    cases o' with
    | none => rfl
    | some b =>
      have := Nn.no (e := e) b
      simp only [eO]
      cases h : e b with
      | none => rw [h] at this; cases this
      | _ => simp [PyData.eqv]
  | some a =>
    cases o' with
    | none =>
      have := Nn.no (e := e) a
      simp only [eO]
      cases h : e a with
      | none => rw [h] at this; cases this
      | _ => simp [PyData.eqv]
    | some b => simp only [eO]; rw [En.eqv]; simp⟩
theorem ex_tupE (h : AV c es S (xs.map en) S1) (hz : xs.length ≤ 64 := by simp) : EX c (.Tuple es 0 pos) S (.val (eT en xs)) S1 := ex_tup h (by rw [List.length_map]; exact le_line hz)
theorem ex_tupS {k : Nat} (h : AV c es S (xs.map en) S1) (hz : SzOk xs.length) : EX c (.Tuple es k pos) S (.val (eT en xs)) S1 := ex_tup h (by rw [List.length_map]; exact hz)
theorem ex_lstE (h : AV c es S (xs.map en) S1) (hz : xs.length ≤ 64 := by simp) : EX c (.List es pos) S (.lst (xs.map en)) S1 := ex_lst h (by rw [List.length_map]; exact le_line hz)
theorem av_starE (hd : d = .tuple (xs.map en) ∨ d = .list (xs.map en)) (ha : EX c e S (.val d) S1) (hr : AV c es S1 (ys.map en) S2) : AV c (.Starred e p :: es) S ((xs ++ ys).map en) S2 := by
  rw [List.map_append]; exact av_star hd ha hr
theorem av_consE (ha : EX c e S (.val (en x)) S1) (hr : AV c es S1 (ys.map en) S2) (hs : ∀ env, starEach (e :: es) env = (false, eval e env) :: starEach es env := by intro _; rfl) : AV c (e :: es) S (([x] ++ ys).map en) S2 := av_cons ha hr hs
def rep (xs : List α) (i : Int) : List α := (List.replicate i.toNat xs).flatten
def RepOk (n : Nat) (i : Int) : Prop := i < 2 ^ 62 ∧ -(2 ^ 62) ≤ i ∧ n * i.toNat ≤ sizeLine
theorem ex_repLE (ha : EX c a S (.val (eL en xs)) S1) (hb : EX c b S1 (.val (.int i)) S2) (h : RepOk xs.length i) : EX c (.BinOp a .Mult b pos) S (.lst ((rep xs i).map en)) S2 := ex_repL ha hb (by have := h.2.1; omega) (by have := h.1; omega) h.2.2
theorem MulOk.litL {i j : Int} (h : -(2 ^ 63) ≤ i ∧ i < 2 ^ 63) : MulOk i j := by
  unfold MulOk CMul
  omega
theorem MulOk.litR {i j : Int} (h : -(2 ^ 63) ≤ j ∧ j < 2 ^ 63) : MulOk i j := by
  unfold MulOk CMul
  omega
theorem ex_ifE {en : α → D} (hc : TX c t S k S1) (ha : k = true → EX c a S1 (.val (en x)) S2) (hb : k = false → EX c b S1 (.val (en y)) S2) : EX c (.IfExp t a b pos) S (.val (en (cond k x y))) S2 := ex_if (en := .un) hc (fun h => by rw [h]; exact ha h) (fun h => by rw [h]; exact hb h)
theorem ex_reprE [Bt c] [DecidableEq α] [En en] (h : EX c e S (.val (en x)) S1) (h3 : ReprOk (en x)) (hd : En.dp en ≤ 60 := by decide) (hg : GlC c "repr" := by rfl) (hs : ∀ env, starEach [e] env = (false, eval e env) :: starEach [] env := by intro _; rfl) : EX c (.Call (.Name "repr" p) [e] [] pos) S (.val (.str (en x).shown)) S1 := ex_repr h (En.plain x) (Nat.le_trans (En.depth x) hd) h3 hg hs
def setI (xs : List α) (j : Int) (v : α) : List α := xs.set (if 0 ≤ j then j.toNat else (j + xs.length).toNat) v
/-! ### sorted, of encodings that are alike -/
def SrtOk (en : α → D) (xs : List α) : Prop := SortOk en xs
theorem SrtOk.ok (h : SrtOk en xs) : SortOk en xs := h
theorem SrtOk.int (xs : List Int) : SrtOk PyData.int xs := ⟨fun _ _ _ _ => Al.al _ _, fun _ _ => rfl, fun _ _ => Nat.zero_le _, .inr fun d hd => by
  obtain ⟨i, _, rfl⟩ := List.mem_map.mp hd
  exact ⟨by simp, fun _ => by simp⟩⟩
/-! ### sorted(d), keys ints -/
theorem perm_sorted_int : ∀ {xs ys : List Int}, xs.Perm ys → xs.Pairwise (· ≤ ·) → ys.Pairwise (· ≤ ·) → xs = ys
  | xs, ys, h, h1, h2 => h.eq_of_pairwise (fun a b _ _ q1 q2 => Int.le_antisymm q1 q2) h1 h2
def SortDOk (ek : α → D) (m : List (α × β)) : Prop := m.length < 64
end
section
variable {c : CC} {e : Expr} {S S1 : List SV} {p pos : Pos} {β : Type} {ev : β → D} {m : List (Int × β)}
theorem RpV.keys {κ : Type} {G : Hp} {us : List (κ × V)} {ks : List (κ × D)} (r : RpV G us ks) : us.map (·.1) = ks.map (·.1) := by
  induction r with
  | nil => rfl
  | cons h t ih => rw [List.map_cons, List.map_cons, ih, h.1]
theorem srt_int_sorted (xs : List Int) : (srt PyData.int xs).Pairwise (· ≤ ·) := by
  have h := List.pairwise_mergeSort (le := PySem.W.dataLe false PyData.int) (fun a b c h1 h2 => ?_) (fun a b => ?_) xs
  · exact h.imp fun {a b} q => by rw [PySem.W.dataLe_int] at q; simpa using q
  · rw [PySem.W.dataLe_int] at h1 h2 ⊢
    simp at h1 h2 ⊢
    omega
  · rw [PySem.W.dataLe_int]
    simp
    omega
theorem ex_sortD [Bt c] (h : EX c e S (pK PyData.int ev m) S1) (hz : SortDOk PyData.int m) (hg : GlC c "sorted" := by rfl) (hs : ∀ env, starEach [e] env = (false, eval e env) :: starEach [] env := by intro _; rfl) : EX c (.Call (.Name "sorted" p) [e] [] pos) S (.lst ((srt PyData.int (dkeys m)).map PyData.int)) S1 :=
  ex_callB (w := .lst ((srt PyData.int (dkeys m)).map PyData.int)) (ws := [pK PyData.int ev m]) (fun X hX => ⟨_, call_sortedDI hX.calm, fun B G H S σ vs Q hl st k => by
    obtain ⟨v, rfl⟩ : ∃ v, vs = [v] := match vs, hl with | [v], _ => ⟨v, rfl⟩
    have st : Stt B G H (pK PyData.int ev m :: S) (some v :: σ) := st
    obtain ⟨a, us, rfl, ea, r, z⟩ := st.headP
    have ek : us.map (·.1) = (dkeys m).map Sum.inl := by
      have : us.map (·.1) = (kvK PyData.int ev m).map (·.1) := r.keys
      rw [this, kvK, dkeys, List.map_map, List.map_map]; rfl
    refine ⟨a, us, dkeys m, rfl, .inl (st.g _ _ ea), ek, by rw [dkeys, List.length_map]; exact hz, fun ys q hp hsrt hq => ?_⟩
    have e1 : ys = srt PyData.int (dkeys m) := perm_sorted_int (hp.trans (srt_perm _ _).symm) hsrt (srt_int_sorted _)
    rw [e1]
    exact k _ _ G (Ext.refl _ _) (st.tail.newLst hq (RpA.ints _) (by rw [List.length_map, srt_length, dkeys, List.length_map]; exact Nat.le_trans (Nat.le_of_lt hz) (le_line (Nat.le_refl _))))⟩) (ax_cons h ax_nil hs) (by decide +kernel) (by decide +kernel) hg (he := hs)
end
/-! ### loops whose outcome has a name -/
section
variable {c : CC} {tg iter e : Expr} {body sts : List Stmt} {S S0 : List SV} {pos : Pos} {P : Oc → Prop} {vs : List Nat} {α σ ρ : Type} {en : α → D} {xs : List α}
theorem ws_forFR (Sf : σ → List SV) (f : σ → α → σ) (ok : σ → α → Prop) (s0 : σ) (r : σ) (er : r = xs.foldl f s0) (hi : IX c tg iter S (xs.map en) S0) (h0 : Imp S0 (Sf s0)) (hok : LOk f ok s0 xs)
    (hb : ∀ s x, x ∈ xs → ok s x → ∃ S3, GX c tg vs (Sf s) (.val (en x)) S3 ∧ WS c body S3 (Nxt (Sf (f s x)))) (k : WS c sts (Sf r) P)
    (hs : ∀ env x, foldedSetIterable iter env x = pure x := by intro _ _; rfl) : WS c (.For tg iter body [] pos :: sts) S P := ws_forF Sf f ok s0 hi h0 hok hb (er ▸ k) hs
theorem ws_forER (Sf : σ → List SV) (f : σ → α → Except ρ σ) (ok : σ → α → Prop) (s0 : σ) (PR : ρ → Oc → Prop) (r : Except ρ σ) (er : r = foldE f s0 xs) (hi : IX c tg iter S (xs.map en) S0) (h0 : Imp S0 (Sf s0)) (hok : LOkE f ok s0 xs)
    (hb : ∀ s x, x ∈ xs → ok s x → ∃ S3, GX c tg vs (Sf s) (.val (en x)) S3 ∧ WS c body S3 (NxtE Sf PR (f s x))) (hr : ∀ q w S', r = .error q → PR q (.rt w S') → P (.rt w S')) (k : ∀ s, r = .ok s → WS c sts (Sf s) P)
    (hs : ∀ env x, foldedSetIterable iter env x = pure x := by intro _ _; rfl) : WS c (.For tg iter body [] pos :: sts) S P := ws_forE Sf f ok s0 PR hi h0 hok hb (fun q w S' e => hr q w S' (er.trans e)) (fun s e => k s (er.trans e)) hs
theorem ws_whlR (Sf : σ → List SV) (cc : σ → Bool) (f : σ → σ) (okc okb : σ → Prop) (n : Nat) (s0 : σ) (r : σ) (er : r = whl cc f n s0) (h0 : Imp S (Sf s0)) (hok : WOk cc f okc okb n s0)
    (hc : ∀ s, okc s → TX c e (Sf s) (cc s) (Sf s)) (hb : ∀ s, okb s → cc s = true → WS c body (Sf s) (Nxt (Sf (f s)))) (k : WS c sts (Sf r) P) : WS c (.While e body [] pos :: sts) S P := ws_whl Sf cc f okc okb n s0 h0 hok hc hb (er ▸ k)
end
/-! ### how a tuple is stored -/
def swA (sc : Scope) (ts vs : List Expr) : Bool := !(ts.length == 2 || ts.length == 3) || vs.length != ts.length || (if sc.kind.isAnnotationScope then .function else sc.kind) != .function
def swB (vs : List Expr) : Bool := vs.any fun | .Starred .. => true | _ => false
def swN (sc : Scope) (ts : List Expr) : List Str := ts.filterMap fun
    | .Name id pos => if sc.names.lookup id == some .local && pos.line == (ts.head?.map (·.pos.line)).getD 0 then some id else none
    | _ => none
def swD (sc : Scope) (ts : List Expr) : Bool := (swN sc ts).length != ts.length || (swN sc ts).eraseDups.length != (swN sc ts).length
def swS (sc : Scope) (ts vs : List Expr) : Option (Option (List Str)) :=
  if swA sc ts vs = true then some none else
  if swB vs = true then some none else
  if swD sc ts = true then some none else
  if vs.all (foldedForSure 8) = true then some none else
  if vs.all (constantsAlone 8) = true then none else some (some (swN sc ts))
theorem sw_eq {sc : Scope} {ts vs : List Expr} {k k2 : Nat} {p p2 : Pos} {env : Env} {r : Option (List Str)} (he : env.scope = sc) (h : swS sc ts vs = some r) : swappedStores [.Tuple ts k p] (.Tuple vs k2 p2) env = pure r := by
  subst he
  unfold swS at h
  unfold swappedStores
  by_cases h1 : swA env.scope ts vs = true
  · rw [if_pos h1] at h; cases h; exact if_pos h1
  rw [if_neg h1] at h
  refine (if_neg h1).trans ?_
  by_cases h2 : swB vs = true
  · rw [if_pos h2] at h; cases h; exact if_pos h2
  rw [if_neg h2] at h
  refine (if_neg h2).trans ?_
  by_cases h3 : swD env.scope ts = true
  · rw [if_pos h3] at h; cases h; exact if_pos h3
  rw [if_neg h3] at h
  refine (if_neg h3).trans ?_
  by_cases h4 : vs.all (foldedForSure 8) = true
  · rw [if_pos h4] at h; cases h; exact if_pos h4
  rw [if_neg h4] at h
  refine (if_neg h4).trans ?_
  by_cases h5 : vs.all (constantsAlone 8) = true
  · rw [if_pos h5] at h; cases h
  rw [if_neg h5] at h
  cases h
  exact if_neg h5
/-! ### blocks' names -/
def isLoc : NameKind → Bool
  | .local => true
  | .cell => true
  | _ => false
def eqStr (x y : Str) : Bool := decide (x = y)
def blkB (N : List Str) (sc scope : Scope) (own : List (Str × Nat)) : Bool :=
  decide (scope.kind = .function) && (scope.names.all fun y => decide (scope.names.lookup y.1 = some y.2)) && (own.all fun p => decide (N[p.2]? = some p.1)) &&
    (scope.names.all fun y => !decide (y.2 = .free) || decide (sc.names.lookup y.1 = some .cell) || decide (sc.names.lookup y.1 = some .free)) && scope.names.all fun y => !(decide (y.2 = .local) || decide (y.2 = .cell)) || decide (y.1 ∈ own.map (·.1)) || !decide (y.1 ∈ N)
theorem _root_.L2.BlkOk.of {N : List Str} {sc scope : Scope} {own : List (Str × Nat)} (h : blkB N sc scope own = true) : BlkOk N sc scope own := by
  unfold blkB at h
  simp only [Bool.and_eq_true, List.all_eq_true, decide_eq_true_eq, Bool.or_eq_true, Bool.not_eq_true', decide_eq_false_iff_not] at h
  obtain ⟨⟨⟨⟨h1, h2⟩, h3⟩, h4⟩, h5⟩ := h
  refine ⟨h1, h2, h3, fun y hy e => ?_, fun y hy e => ?_⟩
  · rcases h4 y hy with (q | q) | q
    · exact absurd e q
    · exact .inl q
    · exact .inr q
  · rcases h5 y hy with (q | q) | q
    · rcases e with e | e
      · simp [e] at q
      · simp [e] at q
    · exact .inl q
    · exact .inr q
end DL

/-! DL, part r: more that printed proofs lean on. -/
namespace DL
open PySem PySem.Spec PyProof.Rows L2
section
variable {α β : Type}
/-- a value given a name -/
@[irreducible] def letC {β : Sort _} (v : α) (k : α → β) : β := k v
theorem letC_def {β : Sort _} (v : α) (k : α → β) : letC v k = k v := by unfold letC; rfl
theorem letC_eq {v r : α} {k : α → β} (h : r = v) : letC v k = k r := by rw [letC_def, h]
theorem letC_mp {v r : α} {k : α → Prop} (h : r = v) (x : letC v k) : k r := by rw [letC_def] at x; rw [h]; exact x
end
end DL

/-! DL, part s: dict comprehensions, keys that are tuples. -/
namespace L2
open PySem PySem.Spec PyProof.Rows
/-- d[k] = v by a comprehension, keys of any kind -/
theorem d_dictSetG {X : Cx} {pins : List (Addr × Obj)} {σ : St} {H H' : Hp} {s : Shared} {E : Value → Shared → Prop} {D : Addr} {y v : V} {u r : Value} {Q : Unit → Shared → Prop} {A : Around} (hu : A.units + 1 < cLine) (I : Inv X pins σ H s) (g : DPut H D y v H')
    (ry : RelV y u) (rv : RelV v r) (h : ∀ s', Inv X pins σ H' s' → Q () s') : wpAny (model X.prog X.w) A (dictSet D u r) Q E s := by
  rcases g with ⟨kvs, k, e, ey, l, eH⟩ | ⟨kvs, k, b, e, ey, eb, l, eH⟩
  · subst ey eH
    obtain ⟨z, hd, vs, rel, dd⟩ := dk_of I.hok e
    have hzv : vs.length ≤ sizeLine := by rw [← rel.length]; exact z
    have hlk : (putK kvs k v).length ≤ sizeLine := by have := length_putK kvs k v; omega
    refine wpAny_dictSet_pairs (hsz := hzv) (kV_is ry) dd fun h' dd' hs => h _ ?_
    exact d_write I (by rw [e]; exact True.intro) hs (let ⟨q, _, _, hq, _⟩ := dd'; ⟨q, hq⟩) (dk_new hlk hd (rel.put k rv) dd')
  · subst ey eH
    cases (show u = Value.ref b from ry)
    obtain ⟨z, hd, xs, rel, dd⟩ := dt_of I.hok e
    have hzv : xs.length ≤ sizeLine := by rw [← Paired.length rel]; exact z
    have hlk : (putK kvs k v).length ≤ sizeLine := by have := length_putK kvs k v; omega
    refine wpAny_dictSet_heap (hsz := hzv) (show (tupleKind (mixKind X.prog X.w)).room A from by first | exact hu | (show A.units < cLine; omega)) (key_of I.hok eb) dd fun h' dd' hs => h _ ?_
    obtain ⟨q, es, ep, hq, h2, h3, h4, _, h5⟩ := dd'
    refine d_write I (by rw [e]; exact True.intro) hs ⟨q, hq⟩ ⟨hlk, hd, _, (rel.put k eb rv).keeps fun c ys ec => (upd_ne (ne_of ec e (fun z => nomatch z))).trans ec, q, es, ep, hq, h2, h3, h4, h5⟩
section
variable {X : Cx}
/-- {k: v for target in iter if ..}, o0 what the new dict is at first -/
def tDcG (o0 : HO) (wi : TI) (g : TG) (tt : TT) (tk tv : TE) (vs : List Nat) : TE := fun σ H Q => wi σ H fun J H1 => ∀ D, H1 D = none → ∃ W : Nat → Nat → Hp → Prop, (∃ m, W 0 m (upd H1 D o0)) ∧ ∀ i m H, W i m H →
  (J.stop i H ∧ Q (.ref D) H) ∨ (J.go i H ∧ ∃ Nx : Hp → Prop, (∀ H', Nx H' → ∃ m', m' < m ∧ W (i + 1) m' H') ∧ ∀ x H', J.yld i H x H' → g x (wipe σ vs) H' fun σ2 H2 => wipe σ2 vs = wipe σ vs ∧ tt σ2 H2 fun b H3 =>
    if b = true then tk σ2 H3 fun y H4 => tv σ2 H4 fun z H5 => ∃ H6, DPut H5 D y z H6 ∧ Nx H6 else Nx H3)
theorem dcG_core {o0 : HO} {pins : List (Addr × Obj)} {s : Shared} {σ : St} {H : Hp} {Q : VK} {kx vx tg iter : Expr} {ifs : List Expr} {scope : Scope} {own : List (Str × Nat)} {pos pos' : Pos} {wi : TI} {g : TG} {tt : TT} {tk tv : TE} {use : Option (Value → Sem Unit)} {Qf : Value → Shared → Prop}
    (ho0 : ∀ (H : Hp) (h : Heap), sysModules < h.objs.size → ObjOk X.prog X.w H (h.push { cls := .type "dict", data := .dict #[] }) h.objs.size o0) (hu : ∀ s H cl fp, (X.blk s H scope (compEnvC scope cl s.heap.objs.size X.env) fp).A.units + 1 < cLine)
    (hc : X.calm = true) (hN : X.N.Nodup) (I : Inv X pins σ H s) (hi : PI X tg iter wi) (ok : BlkOk X.N X.env.scope scope own)
    (hg : ∀ (sa : Shared) (Ha : Hp) (C : Addr) (cl : List (Str × Addr)) (fp : List Addr), PG (X.blk sa Ha scope (compEnvC scope cl C X.env) fp) tg g) (ht : ∀ (sa : Shared) (Ha : Hp) (C : Addr) (cl : List (Str × Addr)) (fp : List Addr), PTs (X.blk sa Ha scope (compEnvC scope cl C X.env) fp) ifs tt)
    (hk : ∀ (sa : Shared) (Ha : Hp) (C : Addr) (cl : List (Str × Addr)) (fp : List Addr), PE (X.blk sa Ha scope (compEnvC scope cl C X.env) fp) kx tk)
    (he : ∀ (sa : Shared) (Ha : Hp) (C : Addr) (cl : List (Str × Addr)) (fp : List Addr), PE (X.blk sa Ha scope (compEnvC scope cl C X.env) fp) vx tv) (hs : ∀ x, foldedSetIterable iter X.env x = pure x)
    (h : tDcG o0 wi g tt tk tv (own.map (·.2)) σ H Q)
    (hRR : ∀ D C sa m H', Inv X pins σ H' sa → Q (.ref D) H' → sa.heap.Ns C m → FpOk X pins H' C → compPost (model X.prog X.w) X.A X.xe use Qf (.ref D) C (.ok .next) sa) :
    wpAny (model X.prog X.w) X.A (comprehension (.DictComp kx vx [⟨tg, iter, ifs, 0⟩] scope pos) scope X.env pos' newDict false (eval iter X.env) use) Qf X.xe s := by
  have hfree : ∀ y ∈ scope.names, y.2 = .free → ∃ c, X.env.cells.lookup y.1 = some c := fun y hy e => (ok.free y hy e).elim (fun k => I.ok.has _ (.inl k)) fun k => I.ok.has _ (.inr k)
  refine wpAny_comprehension_free (use := use) rfl hs (closure_ok hfree) ok.kind (fun y hy e => by rw [ok.uniq y hy, e]) (thn (hi.run pins s σ H _ I h) fun xv s1 hx => thn hx fun itv s2 h2 => ?_)
  obtain ⟨it, fp, tn, J, H2, e, I2, T, st2, f2, q⟩ := h2; subst e
  refine wpAny_newObj_type (newEnv_comp ?_); generalize hD : s2.heap.objs.size = D
  have hDn : H2 D = none := I2.hok.fresh (Nat.le_of_eq hD); obtain ⟨W, ⟨m0, w0⟩, turn⟩ := q D hDn
  generalize hs3 : ({ s2 with heap := s2.heap.push { cls := .type "dict", data := .dict #[] } } : Shared) = s3
  have I3 : Inv X pins σ (upd H2 D o0) s3 := by
    rw [← hs3]; refine I2.laid (t' := s2.toks) (fun b o e => Heap.get?_push_of_some _ e) (Nat.le_of_eq hD) ?_
    rw [← hD]; exact ho0 _ s2.heap I2.big
  have h3 : s3.heap = s2.heap.push { cls := .type "dict", data := .dict #[] } := by rw [← hs3]
  have sz : ∀ b ∈ fp, b < s2.heap.objs.size := fun b hb => let ⟨o, e, _⟩ := T.obj _ _ st2 b hb; Heap.lt_size e
  have f3 : ∀ b ∈ fp, FpOk X pins (upd H2 D o0) b ∧ b < s3.heap.objs.size := fun b hb => by
    have hlt := sz b hb
    exact ⟨⟨(upd_ne (by rw [← hD]; exact Nat.ne_of_lt hlt)).trans (f2 b hb).1, (f2 b hb).2⟩, by rw [h3, Heap.size_push]; exact Nat.lt_succ_of_lt hlt⟩
  have st3 : tn 0 s3.heap := T.keep _ _ _ st2 fun b _ o e => by rw [h3]; exact Heap.get?_push_of_some _ e
  have I4 := block_start I3 ok hN f3
  have pg := hg s3 (upd H2 D o0) s3.heap.objs.size (cellsFrom (s3.heap.objs.size + 1) scope.names (cloFrom X.env.cells scope.names [])) fp
  have pt := ht s3 (upd H2 D o0) s3.heap.objs.size (cellsFrom (s3.heap.objs.size + 1) scope.names (cloFrom X.env.cells scope.names [])) fp
  have pk := hk s3 (upd H2 D o0) s3.heap.objs.size (cellsFrom (s3.heap.objs.size + 1) scope.names (cloFrom X.env.cells scope.names [])) fp
  have pe := he s3 (upd H2 D o0) s3.heap.objs.size (cellsFrom (s3.heap.objs.size + 1) scope.names (cloFrom X.env.cells scope.names [])) fp
  have hu' := hu s3 (upd H2 D o0) (cellsFrom (s3.heap.objs.size + 1) scope.names (cloFrom X.env.cells scope.names [])) fp
  show codeAny _ _ (.compStart (.DictComp kx vx [⟨tg, iter, ifs, 0⟩] scope pos) 0 (.ref it) (.ref D) (compEnvC scope (cellsFrom (s3.heap.objs.size + 1) scope.names (cloFrom X.env.cells scope.names [])) s3.heap.objs.size X.env)) (compPost (model X.prog X.w) X.A X.xe use Qf (.ref D) s3.heap.objs.size) { s3 with heap := pushCells (s3.heap.push { cls := .type "dict", data := .dict #[] }) scope.names }
  have nfp : ∀ b ∈ fp, (upd H2 D o0) b = none := fun b hb => (f3 b hb).1.1
  generalize hce : compEnvC scope (cellsFrom (s3.heap.objs.size + 1) scope.names (cloFrom X.env.cells scope.names [])) s3.heap.objs.size X.env = ce at I4 pg pt pk pe hu' ⊢
  have cL : ce.locals = s3.heap.objs.size := by rw [← hce]; rfl
  generalize hH3 : upd H2 D o0 = H3 at I3 I4 pg pt pk pe w0 nfp f3 hu'
  generalize hs4 : ({ s3 with heap := pushCells (s3.heap.push { cls := .type "dict", data := .dict #[] }) scope.names } : Shared) = s4 at I4 ⊢
  have st4 : tn 0 s4.heap := T.keep _ _ _ st3 fun b _ o e => by rw [← hs4]; exact pushCells_keeps _ _ _ _ (Heap.get?_push_of_some _ e)
  have stat : ∀ {σ' : St} {H' : Hp} {sa : Shared}, Inv (X.blk s3 H3 scope ce fp) [] σ' H' sa → (∀ b ∈ fp, H' b = none) → ∀ b ∈ fp, FpOk (X.blk s3 H3 scope ce fp) [] H' b := fun {σ' H' sa} I' hn b hb =>
    ⟨hn b hb, (I'.ok.exf b hb).1, I'.ok.exfs b hb, .inl hb, fun x c e => (I'.ok.exf b hb).2 x c e, fun p hp => absurd (show p ∈ ([] : List (Addr × Obj)) ++ [] from hp) (by simp)⟩
  have loop : codeAny (model X.prog X.w) X.A (.compLoop (.DictComp kx vx [⟨tg, iter, ifs, 0⟩] scope pos) 0 (.ref it) (.ref D) ce) (compPost (model X.prog X.w) X.A X.xe use Qf (.ref D) s3.heap.objs.size) s4 := by
    refine compLoop_anyD (fun n sa => ∃ i H', Inv (X.blk s3 H3 scope ce fp) [] (wipe σ (own.map (·.2))) H' sa ∧ tn i sa.heap ∧ (∀ b ∈ fp, H' b = none) ∧ W i n H') ?_ m0 ⟨0, H3, I4, st4, nfp, w0⟩
    rintro n s5 ⟨i, H5, I5, st5, n5, w5⟩
    rcases turn i n H5 w5 with ⟨stop, qq⟩ | ⟨go, Nx, hNx, step⟩
    · have td := T.done (X.blk s3 H3 scope ce fp) rfl rfl rfl hc i [] s5 _ H5 (fun _ _ => False) I5 (stat I5 n5) st5 stop
      refine thnF td fun r s6 ⟨hr, I6⟩ => ?_
      rw [hr]
      have I7 : Inv X pins σ H5 s6 := I3.call' (ch := fp) I6.os I6.base I6.hok I6.bare fun b hb => ⟨(f3 b hb).1.2.2.2.1, (f3 b hb).1.2.1, (f3 b hb).1.2.2.2.2.1, (f3 b hb).1.2.2.2.2.2⟩
      have nC : H5 s3.heap.objs.size = none := cL ▸ (show H5 ce.locals = none from I6.free)
      obtain ⟨m, hn, _⟩ := I6.loc
      exact hRR D s3.heap.objs.size s6 m H5 I7 qq (cL ▸ (show s6.heap.Ns ce.locals m from hn)) (I3.fpOk (Nat.le_refl _) nC)
    · have ti := T.item (X.blk s3 H3 scope ce fp) rfl rfl rfl hc i [] s5 _ H5 (fun _ _ => False) I5 (stat I5 n5) st5 go
      refine thnF ti fun r s6 ⟨u, hr, h6⟩ => ?_
      rw [hr]
      refine thnF h6 fun _ s7 ⟨x, H7, I7, r7, y7, st7, n7⟩ => ?_
      refine thnF (pg.run _ s7 _ H7 x u _ (I7.pinned (stat I7 n7) (T.obj _ _ st7)) r7 (step x H7 y7)) fun _ s8 ⟨σ8, H8, I8, hw8, q8⟩ => ?_
      refine thnF (pt.run _ s8 σ8 H8 _ I8 q8) fun b s9 ⟨H9, I9, q9⟩ => ?_
      have fin : ∀ {sa : Shared} {H' : Hp}, Inv (X.blk s3 H3 scope ce fp) ([] ++ pinsAt fp s7.heap) σ8 H' sa → Nx H' → ∃ m, m < n ∧ ∃ i H', Inv (X.blk s3 H3 scope ce fp) [] (wipe σ (own.map (·.2))) H' sa ∧ tn i sa.heap ∧ (∀ b ∈ fp, H' b = none) ∧ W i m H' := fun {sa H'} I' nx => by
        obtain ⟨m', hm, w'⟩ := hNx H' nx
        have pin' : ∀ b ∈ fp, ∀ o, s7.heap.get? b = some o → sa.heap.get? b = some o ∧ H' b = none := fun b hb o e =>
          ⟨(I'.pin (b, o) (List.mem_append_right _ (List.mem_append_right _ (mem_pinsAt hb e)))).1, (I'.pin (b, o) (List.mem_append_right _ (List.mem_append_right _ (mem_pinsAt hb e)))).2.1⟩
        refine ⟨m', hm, i + 1, H', (I'.unpinned (pins := [])).weak (by rw [← hw8, wipe_length]) (fun j v e => ?_), T.keep _ _ _ st7 fun b hb o e => (pin' b hb o e).1, fun b hb => ?_, w'⟩
        · exact (wipe_some (hw8 ▸ e)).1
        · obtain ⟨o, e, _⟩ := T.obj _ _ st7 b hb; exact (pin' b hb o e).2
      cases b with
      | false => simp only [Bool.false_eq_true, if_false] at q9 ⊢; exact fin I9 q9
      | true =>
        simp only [if_true] at q9 ⊢; refine thnF (pk.run _ s9 σ8 H9 _ I9 q9) fun z s10 ⟨yk, H10, I10, r10, q10⟩ => ?_
        refine thnF (pe.run _ s10 σ8 H10 _ I10 q10) fun z2 s11 ⟨yv, H11, I11, r11, H12, dp, nx⟩ => ?_
        exact d_dictSetG (X := X.blk s3 H3 scope ce fp) hu' I11 dp r10 r11 fun s12 I12 => fin I12 nx
  exact codeAny_compStart_dict loop (T.self X.A 0 _ _ _ st4 loop)
theorem pe_dcG {o0 : HO} {kx vx tg iter : Expr} {ifs : List Expr} {scope : Scope} {own : List (Str × Nat)} {pos : Pos} {wi : TI} {g : TG} {tt : TT} {tk tv : TE}
    (ho0 : ∀ (H : Hp) (h : Heap), sysModules < h.objs.size → ObjOk X.prog X.w H (h.push { cls := .type "dict", data := .dict #[] }) h.objs.size o0) (hu : ∀ s H cl fp, (X.blk s H scope (compEnvC scope cl s.heap.objs.size X.env) fp).A.units + 1 < cLine)
    (hc : X.calm = true) (hN : X.N.Nodup) (hi : PI X tg iter wi) (ok : BlkOk X.N X.env.scope scope own)
    (hg : ∀ (sa : Shared) (Ha : Hp) (C : Addr) (cl : List (Str × Addr)) (fp : List Addr), PG (X.blk sa Ha scope (compEnvC scope cl C X.env) fp) tg g) (ht : ∀ (sa : Shared) (Ha : Hp) (C : Addr) (cl : List (Str × Addr)) (fp : List Addr), PTs (X.blk sa Ha scope (compEnvC scope cl C X.env) fp) ifs tt)
    (hk : ∀ (sa : Shared) (Ha : Hp) (C : Addr) (cl : List (Str × Addr)) (fp : List Addr), PE (X.blk sa Ha scope (compEnvC scope cl C X.env) fp) kx tk)
    (he : ∀ (sa : Shared) (Ha : Hp) (C : Addr) (cl : List (Str × Addr)) (fp : List Addr), PE (X.blk sa Ha scope (compEnvC scope cl C X.env) fp) vx tv) (hs : ∀ x, foldedSetIterable iter X.env x = pure x := by intro _; rfl) :
    PE X (.DictComp kx vx [⟨tg, iter, ifs, 0⟩] scope pos) (tDcG o0 wi g tt tk tv (own.map (·.2))) := by
  refine ⟨fun pins s σ H Q I h => ?_⟩
  rw [arm_eval_DictComp]
  refine dcG_core ho0 hu hc hN I hi ok hg ht hk he hs h fun D C sa m H' I' q hn f => ⟨m, hn, fun h'' sb => ?_⟩
  obtain ⟨f0, f1, f2, f3, f4, f5⟩ := f
  exact ⟨.ref D, H', I'.turned (t' := sa.toks) (fun b o hb e => (sb.2 b hb).trans e) f0 f1 f3 f4 f5, rfl, q⟩
/-- a dict comprehension stored to a plain local on its line -/
theorem ps_setDcG {o0 : HO} {i : Nat} {y : Str} {py : Pos} {kx vx tg iter : Expr} {ifs : List Expr} {scope : Scope} {own : List (Str × Nat)} {pos spos : Pos} {wi : TI} {g : TG} {tt : TT} {tk tv : TE}
    (ho0 : ∀ (H : Hp) (h : Heap), sysModules < h.objs.size → ObjOk X.prog X.w H (h.push { cls := .type "dict", data := .dict #[] }) h.objs.size o0) (hu : ∀ s H cl fp, (X.blk s H scope (compEnvC scope cl s.heap.objs.size X.env) fp).A.units + 1 < cLine)
    (hc : X.calm = true) (hN : X.N.Nodup) (hy : X.N[i]? = some y) (hyl : X.env.scope.names.lookup y = some .local) (hsw : swapsWith (.DictComp kx vx [⟨tg, iter, ifs, 0⟩] scope pos) (some (.Name y py)) spos.line X.env = pure true) (hi : PI X tg iter wi) (ok : BlkOk X.N X.env.scope scope own)
    (hg : ∀ (sa : Shared) (Ha : Hp) (C : Addr) (cl : List (Str × Addr)) (fp : List Addr), PG (X.blk sa Ha scope (compEnvC scope cl C X.env) fp) tg g) (ht : ∀ (sa : Shared) (Ha : Hp) (C : Addr) (cl : List (Str × Addr)) (fp : List Addr), PTs (X.blk sa Ha scope (compEnvC scope cl C X.env) fp) ifs tt)
    (hk : ∀ (sa : Shared) (Ha : Hp) (C : Addr) (cl : List (Str × Addr)) (fp : List Addr), PE (X.blk sa Ha scope (compEnvC scope cl C X.env) fp) kx tk)
    (he : ∀ (sa : Shared) (Ha : Hp) (C : Addr) (cl : List (Str × Addr)) (fp : List Addr), PE (X.blk sa Ha scope (compEnvC scope cl C X.env) fp) vx tv) (hs : ∀ x, foldedSetIterable iter X.env x = pure x) :
    PS X (.Assign [.Name y py] (.DictComp kx vx [⟨tg, iter, ifs, 0⟩] scope pos) spos) (tAsg (tDcG o0 wi g tt tk tv (own.map (·.2))) (gName i)) := by
  refine ⟨fun pins s σ H D I h => ?_⟩
  rw [exec_Assign_Name_used _ _ _ _ hsw]; refine wpAny_bind (wpAny_standAt (wpAny_bind ?_))
  show wpAny _ X.A (do let _ ← comprehension (.DictComp kx vx [⟨tg, iter, ifs, 0⟩] scope pos) scope X.env (firstIterPos [⟨tg, iter, ifs, 0⟩] pos) newDict false (eval iter X.env) (some (assign (.Name y py) X.env))) _ _ s
  have h : tDcG o0 wi g tt tk tv (own.map (·.2)) σ H (fun x H1 => gName i x σ H1 D.nx) := h
  refine wpAny_bind (thn (dcG_core (Qf := fun _ sa => SP X pins D .next sa) ho0 hu hc hN I hi ok hg ht hk he hs h fun L C sa m H' I' q hn f => ?_) fun _ sa hq => wpAny_pure (wpAny_pure hq))
  show wpAny _ _ (assign (.Name y py) X.env (.ref L)) _ _ _; refine wpAny_assign_Name (store_ok2 (v := V.ref L) I' hN hy (.inl hyl) rfl (fun s2 I2 ⟨a, sb, ha⟩ => ?_) (.inr hyl))
  obtain ⟨f0, f1, f2, f3, f4, f5⟩ := f
  refine ⟨m, hn.sameBut sb (ha.elim (fun z => z ▸ f1) fun z e => f4 y a z e.symm), fun h3 sb3 => ⟨_, H', I2.turned (t' := s2.toks) (fun b o hb e => (sb3.2 b hb).trans e) f0 f1 f3 f4 f5, q⟩⟩
theorem sw_trueD {kx vx : Expr} {gs : List Comprehension} {scope : Scope} {pos py : Pos} {y : Str} {l : Nat} {env : Env} (hk : env.scope.kind = .function) (hy : env.scope.names.lookup y = some .local) (hl : (py.line == pos.line) = true)
    (ha : (scope.names.any fun (n, k) => n == y && (k == .local || k == .cell)) = false) : swapsWith (.DictComp kx vx gs scope pos) (some (.Name y py)) l env = pure true := by
  have kf : env.kindOf y = some .local := hy
  have bf : env.blockKind = .function := by unfold Env.blockKind; rw [hk]; rfl
  unfold swapsWith; simp only [bf, kf, ha, Expr.pos, hl]; rfl
end
end L2

/-! DL, part t: lists and dicts of one's own lists; dict comprehensions with tuple keys. -/
namespace DL
open PySem PySem.Spec PyProof.Rows L2
section
variable {B G H : Hp} {S T : List SV} {σ τ : L2.St} {w w0 w1 w' : SV} {x x0 x1 : Option V} {ds : List D} {D p q : Addr} {o : HO}
theorem Stt.merge (h : Stt B G H (w0 :: w1 :: S) (x0 :: x1 :: σ)) (k : ∀ f0 f1, Own G H w0 x0 f0 → Own G H w1 x1 f1 → (∀ a ∈ f0, a ∉ f1) → D ∈ f1 ∧ ∃ f', Own G (upd H D o) w' x1 f' ∧ ∀ a ∈ f', a ∈ f0 ∨ a ∈ f1) : Stt B G (upd H D o) (w' :: S) (x1 :: σ) := by
  obtain ⟨fp, ow, z, dj, fr⟩ := h.own
  obtain ⟨hD, f', o', sub⟩ := k (fp 0) (fp 1) (ow 0 _ _ rfl rfl) (ow 1 _ _ rfl rfl) fun a ha hb => by have := dj 0 1 a ha hb; omega
  have off : ∀ i, 2 ≤ i → D ∉ fp i := fun i hi hb => by have := dj 1 i D hD hb; omega
  have nD := fr 1 D hD
  refine ⟨fun a u e => ?_, fun a u e => ?_, by simpa using h.len, fun i => match i with | 0 => f' | j + 1 => fp (j + 2), fun i u y e1 e2 => ?_, fun i hi => ?_, fun i j a h1 h2 => ?_, fun i a ha => ?_⟩
  · rw [upd_ne (by rintro rfl; rw [nD.1] at e; cases e)]; exact h.g a u e
  · rw [upd_ne (by rintro rfl; rw [nD.2] at e; cases e)]; exact h.b a u e
  · cases i with
    | zero =>
      have e1 : w' = u := Option.some.inj e1
      have e2 : x1 = y := Option.some.inj e2
      rw [← e1, ← e2]; exact o'
    | succ i => exact (ow (i + 2) u y (by simpa using e1) (by simpa using e2)).mono (Same.refl _) fun a ha => upd_ne (by rintro rfl; exact off _ (by omega) ha)
  · cases i with
    | zero => simp at hi
    | succ i => exact z (i + 2) (by simp at hi ⊢; omega)
  · have key : ∀ i a, a ∈ f' → a ∈ fp (i + 2) → False := fun i a h1 h2 => by
      rcases sub a h1 with q | q
      · have := dj _ _ _ q h2; omega
      · have := dj _ _ _ q h2; omega
    cases i with
    | zero =>
      cases j with
      | zero => rfl
      | succ j => exact (key j a h1 h2).elim
    | succ i =>
      cases j with
      | zero => exact (key i a h2 h1).elim
      | succ j => have := dj _ _ _ h1 h2; omega
  · cases i with
    | zero => exact (sub a ha).elim (fr _ _) (fr _ _)
    | succ i => exact fr _ _ ha
theorem OwnL.append {G H : Hp} : ∀ {as bs : List Addr} {dss ess : List (List DL.D)}, OwnL G H as dss → OwnL G H bs ess → OwnL G H (as ++ bs) (dss ++ ess)
  | [], _, [], _, _, r => r
  | _ :: _, _, _ :: _, _, .cons a b c d, r => .cons a b c (d.append r)
theorem Stt.newLL (h : Stt B G H S σ) (hp : H p = none) : Stt B G (upd H p (.lst [])) (.ll [] :: S) (some (.ref p) :: σ) :=
  h.newOwn hp ⟨p, [], rfl, rfl, by simp, Nat.zero_le _, upd_same, .nil⟩
theorem Stt.newDkl (h : Stt B G H S σ) (hp : H p = none) : Stt B G (upd H p (.dK [])) (.dkl [] :: S) (some (.ref p) :: σ) :=
  h.newOwn hp ⟨p, [], rfl, rfl, by simp, Nat.zero_le _, upd_same, .nil⟩
theorem Stt.newDtl (h : Stt B G H S σ) (hp : H p = none) : Stt B G (upd H p (.dT [])) (.dtl [] :: S) (some (.ref p) :: σ) :=
  h.newOwn hp ⟨p, [], rfl, rfl, by simp, Nat.zero_le _, upd_same, .nil⟩
theorem OwnL.offD {as : List Addr} {dss : List (List DL.D)} (r : OwnL G H as dss) (hn : D ∉ as) : OwnL G (upd H D o) as dss := r.mono (Same.refl _) fun a ha => upd_ne (by rintro rfl; exact hn ha)
theorem Stt.joinLL {dss : List (List DL.D)} (h : Stt B G H (.lst ds :: .ll dss :: S) (some (.ref q) :: some (.ref D) :: σ)) (hz : dss.length < sizeLine) :
    ∃ as : List Addr, H D = some (.lst (as.map V.ref)) ∧ as.length = dss.length ∧ Stt B G (upd H D (.lst (as.map V.ref ++ [.ref q]))) (.ll (dss ++ [ds]) :: S) (some (.ref D) :: σ) := by
  obtain ⟨fp, ow, _⟩ := id h.own
  obtain ⟨a, as, e1, e2, e3, e4, e5, e6⟩ := ow 1 _ _ rfl rfl
  cases e1
  refine ⟨as, e5, e6.length, h.merge fun f0 f1 o0 o1 dj => ?_⟩
  obtain ⟨q', us, q1, rfl, q3, q4, q5⟩ := o0
  cases q1
  obtain ⟨a', bs, r1, rfl, r3, r4, r5, r6⟩ := o1
  cases r1
  have hb : bs = as := ref_inj (HO.lst.inj (Option.some.inj (e5.symm.trans r5))).symm
  subst hb
  have nq : q ∉ D :: bs := dj q (by simp)
  have nq1 : q ≠ D := fun e => nq (by rw [e]; simp)
  have nq2 : q ∉ bs := fun e => nq (by simp [e])
  have nD : D ∉ bs := (List.nodup_cons.mp r3).1
  refine ⟨by simp, D :: (bs ++ [q]), ⟨D, bs ++ [q], rfl, rfl, ?_, by simp; omega, by rw [upd_same, List.map_append]; rfl, (r6.append (.cons q3 q4 q5 .nil)).offD (by simp; exact ⟨nD, Ne.symm nq1⟩)⟩, fun b hb => ?_⟩
  · simp only [List.nodup_cons, List.mem_append, List.mem_singleton, not_or]
    exact ⟨⟨nD, Ne.symm nq1⟩, List.nodup_append.mpr ⟨(List.nodup_cons.mp r3).2, by simp, by simp; intro b hb e; exact nq2 (e ▸ hb)⟩⟩
  · simp at hb ⊢
    rcases hb with z | z | z <;> simp [z]
theorem putK_new {κ : Type} [DecidableEq κ] {us : List (κ × V)} {k : κ} {v : V} (h : k ∉ us.map (·.1)) : putK us k v = us ++ [(k, v)] := by
  unfold putK
  rw [if_neg]
  intro e
  obtain ⟨p, hp, e⟩ := List.any_eq_true.mp e
  exact h (List.mem_map.mpr ⟨p, hp, by simpa using e⟩)
theorem zip_keys {κ : Type} : ∀ {ks : List κ} {as : List Addr}, ks.length = as.length → (ks.zip (as.map V.ref)).map (·.1) = ks
  | [], [], _ => rfl
  | k :: ks, a :: as, h => by simp only [List.map_cons, List.zip_cons_cons, List.cons.injEq, true_and]; exact zip_keys (by simpa using h)
theorem zip_snoc {κ : Type} {ks : List κ} {as : List Addr} {k : κ} {q : Addr} (h : ks.length = as.length) : (ks ++ [k]).zip ((as ++ [q]).map V.ref) = ks.zip (as.map V.ref) ++ [(k, .ref q)] := by
  rw [List.map_append, List.zip_append (by simpa using h)]; rfl
structure LDict (κ : Type) where
  mkO : List (κ × V) → HO
  mkS : List (κ × List DL.D) → SV
  inj : ∀ us vs, mkO us = mkO vs → us = vs
  own : ∀ G H ks x fp, Own G H (mkS ks) x fp = ∃ a as, x = some (.ref a) ∧ fp = a :: as ∧ fp.Nodup ∧ ks.length ≤ sizeLine ∧ H a = some (mkO ((ks.map (·.1)).zip (as.map V.ref))) ∧ OwnL G H as (ks.map (·.2))
def lK : LDict Key := ⟨.dK, .dkl, fun _ _ h => by cases h; rfl, fun _ _ _ _ _ => rfl⟩
def lT : LDict (List Key) := ⟨.dT, .dtl, fun _ _ h => by cases h; rfl, fun _ _ _ _ _ => rfl⟩
theorem Stt.joinD {κ : Type} (L : LDict κ) {ks : List (κ × List DL.D)} {k : κ} (h : Stt B G H (.lst ds :: L.mkS ks :: S) (some (.ref q) :: some (.ref D) :: σ)) (hz : ks.length < sizeLine) :
    ∃ us, H D = some (L.mkO us) ∧ us.map (·.1) = ks.map (·.1) ∧ us.length = ks.length ∧ Stt B G (upd H D (L.mkO (us ++ [(k, .ref q)]))) (L.mkS (ks ++ [(k, ds)]) :: S) (some (.ref D) :: σ) := by
  obtain ⟨fp, ow, _⟩ := id h.own
  have o1 := ow 1 _ _ rfl rfl
  rw [L.own] at o1
  obtain ⟨a, as, e1, e2, e3, e4, e5, e6⟩ := o1
  cases e1
  have el := e6.length
  rw [List.length_map] at el
  refine ⟨_, e5, zip_keys (by simpa using el.symm), by simp [el], h.merge fun f0 f1 o0 o1 dj => ?_⟩
  obtain ⟨q', us, q1, rfl, q3, q4, q5⟩ := o0
  cases q1
  rw [L.own] at o1
  obtain ⟨a', bs, r1, rfl, r3, r4, r5, r6⟩ := o1
  cases r1
  have rl := r6.length
  rw [List.length_map] at rl
  have hb : bs = as := ref_inj (zip_inj (ks := ks.map (·.1)) (by simpa using rl) (by simpa using el) (L.inj _ _ (by rw [e5] at r5; exact (Option.some.inj r5).symm)))
  subst hb
  have nq : q ∉ D :: bs := dj q (by simp)
  have nq1 : q ≠ D := fun e => nq (by rw [e]; simp)
  have nq2 : q ∉ bs := fun e => nq (by simp [e])
  have nD : D ∉ bs := (List.nodup_cons.mp r3).1
  refine ⟨by simp, D :: (bs ++ [q]), ?_, fun b hb => ?_⟩
  · rw [L.own]
    refine ⟨D, bs ++ [q], rfl, rfl, ?_, by simp; omega, ?_, ?_⟩
    · simp only [List.nodup_cons, List.mem_append, List.mem_singleton, not_or]
      exact ⟨⟨nD, Ne.symm nq1⟩, List.nodup_append.mpr ⟨(List.nodup_cons.mp r3).2, by simp, by simp; intro b hb e; exact nq2 (e ▸ hb)⟩⟩
    · rw [upd_same, List.map_append, List.map_cons, List.map_nil, zip_snoc (by simpa using rl.symm)]
    · rw [List.map_append]; exact (r6.append (.cons q3 q4 q5 .nil)).offD (by simp; exact ⟨nD, Ne.symm nq1⟩)
  · simp at hb ⊢
    rcases hb with z | z | z <;> simp [z]
/-! ### an item appended to a list within -/
theorem OwnL.at : ∀ {as : List Addr} {dss : List (List DL.D)}, OwnL G H as dss → ∀ {j : Nat} {a : Addr}, as[j]? = some a → ∃ vs ds, dss[j]? = some ds ∧ H a = some (.lst vs) ∧ RpA G vs ds ∧ ds.length ≤ sizeLine
  | [], _, _, j, a, e => by simp at e
  | b :: as, _, .cons (ds := ds) h1 h2 h3 h4, 0, a, e => by cases (show some b = some a from e); exact ⟨_, ds, rfl, h1, h2, h3⟩
  | b :: as, _, .cons h1 h2 h3 h4, j + 1, a, e => h4.at (j := j) (by simpa using e)
theorem OwnL.setAt : ∀ {as : List Addr} {dss : List (List DL.D)}, OwnL G H as dss → as.Nodup → ∀ {j : Nat} {a : Addr} {vs : List V} {ds : List DL.D}, as[j]? = some a → RpA G vs ds → ds.length ≤ sizeLine → OwnL G (upd H a (.lst vs)) as (dss.set j ds)
  | [], _, .nil, _, _, _, _, _, e, _, _ => by simp at e
  | b :: as, _, .cons (ds := ds) (dss := dss) h1 h2 h3 h4, hn, 0, a, vs, es, e, r, z => by
    cases (show some b = some a from e)
    exact .cons upd_same r z (h4.offD (List.nodup_cons.mp hn).1)
  | b :: as, _, .cons (ds := ds) (dss := dss) h1 h2 h3 h4, hn, j + 1, a, vs, es, e, r, z => by
    have e : as[j]? = some a := by simpa using e
    exact .cons (by rw [upd_ne (by rintro rfl; exact (List.nodup_cons.mp hn).1 (List.mem_of_getElem? e))]; exact h1) h2 h3 (h4.setAt (List.nodup_cons.mp hn).2 e r z)
/-- the list at place j within the list in slot i -/
theorem Stt.updLL {i j : Nat} {dss : List (List DL.D)} (h : Stt B G H S σ) (e : S[i]? = some (.ll dss)) (hj : j < dss.length) : ∃ a as b us ds0, σ[i]? = some (some (.ref a)) ∧ H a = some (.lst (List.map V.ref as)) ∧ as.length = dss.length ∧ as[j]? = some b ∧ H b = some (.lst us) ∧ dss[j]? = some ds0 ∧ RpA G us ds0 ∧
    ∀ us' ds', RpA G us' ds' → ds'.length ≤ sizeLine → Stt B G (upd H b (.lst us')) (S.set i (.ll (dss.set j ds'))) σ := by
  obtain ⟨y, ey⟩ := h.at e
  obtain ⟨fp, o, _, _, fr⟩ := id h.own
  obtain ⟨a, as, rfl, ef, nd, z, ea, r⟩ := o i _ y e ey
  have hj' : j < as.length := by rw [r.length]; exact hj
  have eb : as[j]? = some as[j] := List.getElem?_eq_getElem hj'
  obtain ⟨us, ds0, e1, e2, e3, e4⟩ := r.at eb
  have mb : as[j] ∈ fp i := by rw [ef]; exact List.mem_cons_of_mem _ (List.mem_of_getElem? eb)
  have gb : G as[j] = none := (fr i _ mb).1
  refine ⟨a, as, as[j], us, ds0, ey, ea, r.length, eb, e2, e1, e3, fun us' ds' r' z' => h.chg e ey (Same.refl _) (fun b u q => ?_) fun f of ff => ?_⟩
  · rw [upd_ne (by rintro rfl; rw [gb] at q; cases q)]
    exact h.g b u q
  · obtain ⟨a2, bs, q1, rfl, q3, q4, q5, q6⟩ := of
    cases q1
    have hb : bs = as := ref_inj (HO.lst.inj (Option.some.inj (ea.symm.trans q5))).symm
    subst hb
    have na : a ≠ bs[j] := fun e => (List.nodup_cons.mp q3).1 (e ▸ List.mem_of_getElem? eb)
    refine ⟨a :: bs, ⟨a, bs, rfl, rfl, q3, by rw [List.length_set]; exact q4, by rw [upd_ne na]; exact q5, q6.setAt (List.nodup_cons.mp q3).2 eb r' z'⟩, fun b hb => ⟨.inl hb, (ff b hb).1⟩, fun b hb _ => upd_ne (by rintro rfl; exact hb (List.mem_cons_of_mem _ (List.mem_of_getElem? eb))), fun b o hb h1 h2 => by rw [h1] at h2; cases h2⟩
/-- the list at the key in place j of a dict in slot i -/
theorem Stt.updD {κ : Type} (L : LDict κ) {i j : Nat} {ks : List (κ × List DL.D)} (h : Stt B G H S σ) (e : S[i]? = some (L.mkS ks)) (hj : j < ks.length) : ∃ a us b ws ds0, σ[i]? = some (some (.ref a)) ∧ H a = some (L.mkO us) ∧ us.map (·.1) = ks.map (·.1) ∧ us[j]?.map (·.2) = some (V.ref b) ∧ H b = some (.lst ws) ∧ ks[j]?.map (·.2) = some ds0 ∧ RpA G ws ds0 ∧
    ∀ ws' ds', RpA G ws' ds' → ds'.length ≤ sizeLine → Stt B G (upd H b (.lst ws')) (S.set i (L.mkS (ks.set j ((ks[j]).1, ds')))) σ := by
  obtain ⟨y, ey⟩ := h.at e
  obtain ⟨fp, o, _, _, fr⟩ := id h.own
  have oi := o i _ y e ey
  rw [L.own] at oi
  obtain ⟨a, as, rfl, ef, nd, z, ea, r⟩ := oi
  have hl : as.length = ks.length := by rw [r.length, List.length_map]
  have hj' : j < as.length := by omega
  have eb : as[j]? = some as[j] := List.getElem?_eq_getElem hj'
  obtain ⟨us, ds0, e1, e2, e3, e4⟩ := r.at eb
  have mb : as[j] ∈ fp i := by rw [ef]; exact List.mem_cons_of_mem _ (List.mem_of_getElem? eb)
  have gb : G as[j] = none := (fr i _ mb).1
  refine ⟨a, _, as[j], us, ds0, ey, ea, zip_keys (by simpa using hl.symm), ?_, e2, by rw [← List.getElem?_map]; exact e1, e3, fun us' ds' r' z' => h.chg e ey (Same.refl _) (fun b u q => ?_) fun f of ff => ?_⟩
  · rw [show ((ks.map (·.1)).zip (as.map V.ref))[j]? = some ((ks[j]).1, V.ref as[j]) from List.getElem?_zip_eq_some.mpr ⟨by simp [hj], by simp⟩]; rfl
  · rw [upd_ne (by rintro rfl; rw [gb] at q; cases q)]
    exact h.g b u q
  · rw [L.own] at of
    obtain ⟨a2, bs, q1, rfl, q3, q4, q5, q6⟩ := of
    cases q1
    have rl := q6.length
    rw [List.length_map] at rl
    have hb : bs = as := ref_inj (zip_inj (ks := ks.map (·.1)) (by simpa using rl) (by simpa using hl) (L.inj _ _ (by rw [ea] at q5; exact (Option.some.inj q5).symm)))
    subst hb
    have na : a ≠ bs[j] := fun e => (List.nodup_cons.mp q3).1 (e ▸ List.mem_of_getElem? eb)
    refine ⟨a :: bs, ?_, fun b hb => ⟨.inl hb, (ff b hb).1⟩, fun b hb _ => upd_ne (by rintro rfl; exact hb (List.mem_cons_of_mem _ (List.mem_of_getElem? eb))), fun b o hb h1 h2 => by rw [h1] at h2; cases h2⟩
    rw [L.own]
    have k1 : (ks.set j (ks[j].1, ds')).map (·.1) = ks.map (·.1) := by
      rw [List.map_set]; exact List.set_getElem_self (as := ks.map (·.1)) (i := j) (by simpa using hj) ▸ by simp
    refine ⟨a, bs, rfl, rfl, q3, by rw [List.length_set]; exact q4, by rw [upd_ne na, k1]; exact q5, ?_⟩
    rw [List.map_set]
    exact q6.setAt (List.nodup_cons.mp q3).2 eb r' z'
end
end DL

/-! DL, part u: comprehensions of every kind, as values, stored, borrowed. -/
namespace DL
open PySem PySem.Spec PyProof.Rows L2
section
variable {c : CC} {tg iter elt kx vx t : Expr} {ifs : List Expr} {scope : Scope} {own : List (Str × Nat)} {S S0 S1 S' Sn : List SV} {w : SV} {pos : Pos} {vs : List Nat} {ds : List D} {A : Type} {wA : A → SV} {a0 res : A}
/-- the new object D gets the item y -/
def PutL (wA : A → SV) (acc : A) (wv : SV) (acc' : A) : Prop := ∀ B G H S σ D y, Stt B G H (wv :: wA acc :: S) (some y :: some (.ref D) :: σ) → ∃ us, H D = some (.lst us) ∧ us.length < sizeLine ∧ Stt B G (upd H D (.lst (us ++ [y]))) (wA acc' :: S) (some (.ref D) :: σ)
def PutD (wA : A → SV) (acc : A) (kd : D) (wv : SV) (acc' : A) : Prop := ∀ B G H S σ D yk yv, Rp G yk kd → Stt B G H (wv :: wA acc :: S) (some yv :: some (.ref D) :: σ) → ∃ H', DPut H D yk yv H' ∧ Stt B G H' (wA acc' :: S) (some (.ref D) :: σ)
def Starts (wA : A → SV) (o0 : HO) (a0 : A) : Prop := ∀ B G H S σ D, Stt B G H S σ → H D = none → Stt B G (upd H D o0) (wA a0 :: S) (some (.ref D) :: σ)
structure TurnA (cb : CC) (tg elt : Expr) (ifs : List Expr) (vs : List Nat) (wA : A → SV) (Iv : Nat → A → List SV → Prop) (i : Nat) (d : D) (acc : A) (S : List SV) : Prop where
  ex : ∃ S3, GX cb tg vs S (.val d) S3 ∧ ∃ k S4, TsX cb ifs S3 k S4 ∧ (k = true → ∃ wv S5 acc', EX cb elt S4 wv S5 ∧ PutL wA acc wv acc' ∧ ∃ S6, Imp (wipeS S5 vs) S6 ∧ Iv (i + 1) acc' S6) ∧ (k = false → ∃ S6, Imp (wipeS S4 vs) S6 ∧ Iv (i + 1) acc S6)
structure TurnB (cb : CC) (tg kx vx : Expr) (ifs : List Expr) (vs : List Nat) (wA : A → SV) (Iv : Nat → A → List SV → Prop) (i : Nat) (d : D) (acc : A) (S : List SV) : Prop where
  ex : ∃ S3, GX cb tg vs S (.val d) S3 ∧ ∃ k S4, TsX cb ifs S3 k S4 ∧ (k = true → ∃ kd wv S5 S6 acc', EX cb kx S4 (.val kd) S5 ∧ EX cb vx S5 wv S6 ∧ PutD wA acc kd wv acc' ∧ ∃ S7, Imp (wipeS S6 vs) S7 ∧ Iv (i + 1) acc' S7) ∧ (k = false → ∃ S6, Imp (wipeS S4 vs) S6 ∧ Iv (i + 1) acc S6)
/-- a turn's end -/
theorem turn_fin {Iv : A → List SV → Prop} {B G G1 G5 : Hp} {H5 : Hp} {σ σ4 : L2.St} {acc5 : A} {S5 : List SV} {D : Addr} (hw : wipe σ4 vs = wipe σ vs) (x5 : Ext B G G5) (g5 : Same G1 G5) (s5 : Stt B G5 H5 (wA acc5 :: S5) (some (.ref D) :: σ4)) (h : ∃ S6, Imp (wipeS S5 vs) S6 ∧ Iv acc5 S6) :
    ∃ G2 S2 acc2, Ext B G G2 ∧ Same G1 G2 ∧ Stt B G2 H5 (wA acc2 :: S2) (some (.ref D) :: wipe σ vs) ∧ Iv acc2 S2 := by
  obtain ⟨S6, i6, v6⟩ := h
  obtain ⟨G6, x6, s6⟩ := s5.onTail (T := S6) (τ := wipe σ vs) fun B2 q => by
    have q2 := q.wipe vs
    rw [hw] at q2
    exact i6 B2 G5 H5 _ q2
  exact ⟨G6, S6, acc5, x5.trans x6, g5.trans x6.1, s6, v6⟩
theorem lcA_reads {o0 : HO} (ho : o0 = .lst []) (hst : Starts wA o0 a0) (Iv : Nat → A → List SV → Prop) (h0 : ∃ S1, Imp (wipeS S0 vs) S1 ∧ Iv 0 a0 S1)
    (hb : ds.length ≤ sizeLine → ∀ i d acc S, ds[i]? = some d → Iv i acc S → TurnA (c.blk scope) tg elt ifs vs wA Iv i d acc S) (hd : ∀ acc S, Iv ds.length acc S → acc = res ∧ S = Sn) :
    ∀ σ H Q, tD S (wA res) (unwipe S0 Sn vs) σ H Q → tLc (tI S ds S0) (tGU (c.blk scope) tg vs) (tTs (c.blk scope) ifs) (tDU (c.blk scope) elt) vs σ H Q := by
  rintro σ H Q ⟨B, G, st, k⟩
  refine ⟨B, G, st, fun J H1 G1 x s1 wk D hD => ?_⟩
  obtain ⟨S1, i1, v1⟩ := h0
  obtain ⟨G1', x1', s1'⟩ := i1 B G1 H1 _ (s1.wipe vs)
  refine ⟨fun i m H' => m = ds.length - i ∧ i ≤ ds.length ∧ ∃ G' S' acc, Ext B G G' ∧ Same G1 G' ∧ Stt B G' H' (wA acc :: S') (some (.ref D) :: L2.wipe σ vs) ∧ Iv i acc S', ⟨ds.length, by simp, Nat.zero_le _, G1', S1, a0, x.trans x1', x1'.1, ho ▸ hst _ _ _ _ _ _ s1' hD, v1⟩, ?_⟩
  rintro i m H' ⟨rfl, hi, G', S', acc, x', g', s', v'⟩
  have gH : Same G1 H' := g'.trans s'.g
  by_cases hlt : i < ds.length
  · have hdi : ds[i]? = some ds[i] := by simp [hlt]
    obtain ⟨S3, g3, kk, S4, t4, yes, no⟩ := (hb wk.line i ds[i] acc S' hdi v').ex
    refine .inr ⟨wk.goes i H' hlt gH, fun H2 => ∃ G2 S2 acc2, Ext B G G2 ∧ Same G1 G2 ∧ Stt B G2 H2 (wA acc2 :: S2) (some (.ref D) :: L2.wipe σ vs) ∧ Iv (i + 1) acc2 S2, fun H2 q => ⟨ds.length - (i + 1), by omega, rfl, hlt, q⟩, fun xv H3 y => ?_⟩
    obtain ⟨G3, x3, s3⟩ := wk.yields i ds[i] xv H' H3 hdi gH y B G' _ _ g' s'
    obtain ⟨B1, s3', back⟩ := s3.swap.bracket
    refine ⟨S', .val ds[i], S3, g3, B1, G3, s3', fun σ4 H4 G4 x4 hw s4 => ⟨hw.trans (wipe_wipe _ _), ?_⟩⟩
    rw [wipe_wipe] at hw
    refine tTs_run t4 s4 fun H5 G5 x5 s5 => ?_
    cases kk with
    | false =>
      refine iteF ?_
      obtain ⟨xb, sb⟩ := back G5 H5 _ _ (x4.trans x5) s5
      exact turn_fin hw ((x'.trans x3).trans xb) ((g'.trans x3.1).trans xb.1) sb (no rfl)
    | true =>
      refine iteT ?_
      obtain ⟨wv, S5, acc', e5, pt, i6⟩ := yes rfl
      refine ⟨S4, wv, S5, e5, B1, G5, s5, fun yv H6 G6 x6 s6 => ?_⟩
      obtain ⟨xb, sb⟩ := back G6 H6 _ _ ((x4.trans x5).trans x6) s6
      obtain ⟨us, eu, hz, s7⟩ := pt _ _ _ _ _ _ _ sb.swap
      exact ⟨us, eu, hz, turn_fin hw ((x'.trans x3).trans xb) ((g'.trans x3.1).trans xb.1) s7 i6⟩
  · obtain rfl : i = ds.length := by omega
    refine .inl ⟨wk.stops H' gH, ?_⟩
    obtain ⟨rfl, rfl⟩ := hd acc S' v'
    obtain ⟨G6, x6, s6⟩ := s'.onTail (T := unwipe S0 S' vs) (τ := σ) fun B2 q => by
      refine ⟨G', Ext.refl _ _, ?_⟩
      refine q.alter (wipe_length _ _).symm (unwipe_length _ _ _) fun j w e => ?_
      rcases unwipe_get S0 S' vs j w e with ⟨h1, h2⟩ | ⟨h1, h2⟩
      · exact .inr (.inl ⟨h2, by rw [wipe_get, if_neg h1]⟩)
      · rcases h2 with q | ⟨d, q, e0⟩
        · exact .inl q
        · obtain ⟨v, ev, r⟩ := s1.val e0
          exact .inr (.inr ⟨d, v, q, ev, r.mono g'⟩)
    exact k _ H' G6 (x'.trans x6) s6
theorem dcB_reads {o0 : HO} (hst : Starts wA o0 a0) (Iv : Nat → A → List SV → Prop) (h0 : ∃ S1, Imp (wipeS S0 vs) S1 ∧ Iv 0 a0 S1)
    (hb : ds.length ≤ sizeLine → ∀ i d acc S, ds[i]? = some d → Iv i acc S → TurnB (c.blk scope) tg kx vx ifs vs wA Iv i d acc S) (hd : ∀ acc S, Iv ds.length acc S → acc = res ∧ S = Sn) :
    ∀ σ H Q, tD S (wA res) (unwipe S0 Sn vs) σ H Q → tDcG o0 (tI S ds S0) (tGU (c.blk scope) tg vs) (tTs (c.blk scope) ifs) (tDU (c.blk scope) kx) (tDU (c.blk scope) vx) vs σ H Q := by
  rintro σ H Q ⟨B, G, st, k⟩
  refine ⟨B, G, st, fun J H1 G1 x s1 wk D hD => ?_⟩
  obtain ⟨S1, i1, v1⟩ := h0
  obtain ⟨G1', x1', s1'⟩ := i1 B G1 H1 _ (s1.wipe vs)
  refine ⟨fun i m H' => m = ds.length - i ∧ i ≤ ds.length ∧ ∃ G' S' acc, Ext B G G' ∧ Same G1 G' ∧ Stt B G' H' (wA acc :: S') (some (.ref D) :: L2.wipe σ vs) ∧ Iv i acc S', ⟨ds.length, by simp, Nat.zero_le _, G1', S1, a0, x.trans x1', x1'.1, hst _ _ _ _ _ _ s1' hD, v1⟩, ?_⟩
  rintro i m H' ⟨rfl, hi, G', S', acc, x', g', s', v'⟩
  have gH : Same G1 H' := g'.trans s'.g
  by_cases hlt : i < ds.length
  · have hdi : ds[i]? = some ds[i] := by simp [hlt]
    obtain ⟨S3, g3, kk, S4, t4, yes, no⟩ := (hb wk.line i ds[i] acc S' hdi v').ex
    refine .inr ⟨wk.goes i H' hlt gH, fun H2 => ∃ G2 S2 acc2, Ext B G G2 ∧ Same G1 G2 ∧ Stt B G2 H2 (wA acc2 :: S2) (some (.ref D) :: L2.wipe σ vs) ∧ Iv (i + 1) acc2 S2, fun H2 q => ⟨ds.length - (i + 1), by omega, rfl, hlt, q⟩, fun xv H3 y => ?_⟩
    obtain ⟨G3, x3, s3⟩ := wk.yields i ds[i] xv H' H3 hdi gH y B G' _ _ g' s'
    obtain ⟨B1, s3', back⟩ := s3.swap.bracket
    refine ⟨S', .val ds[i], S3, g3, B1, G3, s3', fun σ4 H4 G4 x4 hw s4 => ⟨hw.trans (wipe_wipe _ _), ?_⟩⟩
    rw [wipe_wipe] at hw
    refine tTs_run t4 s4 fun H5 G5 x5 s5 => ?_
    cases kk with
    | false =>
      refine iteF ?_
      obtain ⟨xb, sb⟩ := back G5 H5 _ _ (x4.trans x5) s5
      exact turn_fin hw ((x'.trans x3).trans xb) ((g'.trans x3.1).trans xb.1) sb (no rfl)
    | true =>
      refine iteT ?_
      obtain ⟨kd, wv, S5, S6, acc', e5, e6, pt, i7⟩ := yes rfl
      refine ⟨S4, .val kd, S5, e5, B1, G5, s5, fun yk H6 G6 x6 s6 => ?_⟩
      obtain ⟨B2, s6', back2⟩ := s6.bracket
      refine ⟨S5, wv, S6, e6, B2, G6, s6', fun yv H7 G7 x7 s7 => ?_⟩
      obtain ⟨xc, sc⟩ := back2 G7 H7 _ _ x7 s7
      have rk := sc.headV
      obtain ⟨xb, sb⟩ := back G7 H7 _ _ (((x4.trans x5).trans x6).trans xc) sc.tail
      obtain ⟨H8, dp, s8⟩ := pt _ _ _ _ _ _ _ _ rk sb.swap
      exact ⟨H8, dp, turn_fin hw ((x'.trans x3).trans xb) ((g'.trans x3.1).trans xb.1) s8 i7⟩
  · obtain rfl : i = ds.length := by omega
    refine .inl ⟨wk.stops H' gH, ?_⟩
    obtain ⟨rfl, rfl⟩ := hd acc S' v'
    obtain ⟨G6, x6, s6⟩ := s'.onTail (T := unwipe S0 S' vs) (τ := σ) fun B2 q => by
      refine ⟨G', Ext.refl _ _, ?_⟩
      refine q.alter (wipe_length _ _).symm (unwipe_length _ _ _) fun j w e => ?_
      rcases unwipe_get S0 S' vs j w e with ⟨h1, h2⟩ | ⟨h1, h2⟩
      · exact .inr (.inl ⟨h2, by rw [wipe_get, if_neg h1]⟩)
      · rcases h2 with q | ⟨d, q, e0⟩
        · exact .inl q
        · obtain ⟨v, ev, r⟩ := s1.val e0
          exact .inr (.inr ⟨d, v, q, ev, r.mono g'⟩)
    exact k _ H' G6 (x'.trans x6) s6
/-! ### one form for all -/
structure LcX (c : CC) (elt tg iter : Expr) (ifs : List Expr) (scope : Scope) (own : List (Str × Nat)) (S : List SV) (w : SV) (S' : List SV) : Prop where
  nd : c.N.Nodup
  ok : BlkOk c.N c.sc scope own
  hs : ∀ env x, foldedSetIterable iter env x = pure x
  rd : ∃ wi : TI, (∀ X, c.In X → PI X tg iter wi) ∧ ∀ σ H Q, tD S w S' σ H Q → tLc wi (tGU (c.blk scope) tg (own.map (·.2))) (tTs (c.blk scope) ifs) (tDU (c.blk scope) elt) (own.map (·.2)) σ H Q
structure DcX (c : CC) (kx vx tg iter : Expr) (ifs : List Expr) (scope : Scope) (own : List (Str × Nat)) (S : List SV) (w : SV) (S' : List SV) : Prop where
  nd : c.N.Nodup
  ok : BlkOk c.N c.sc scope own
  hs : ∀ env x, foldedSetIterable iter env x = pure x
  rd : ∃ (o0 : HO) (wi : TI), (∀ (P : Program) (w : World) (H : Hp) (h : Heap), sysModules < h.objs.size → ObjOk P w H (h.push { cls := .type "dict", data := .dict #[] }) h.objs.size o0) ∧ (∀ X, c.In X → PI X tg iter wi) ∧
    ∀ σ H Q, tD S w S' σ H Q → tDcG o0 wi (tGU (c.blk scope) tg (own.map (·.2))) (tTs (c.blk scope) ifs) (tDU (c.blk scope) kx) (tDU (c.blk scope) vx) (own.map (·.2)) σ H Q
theorem LcX.ex (h : LcX c elt tg iter ifs scope own S w S') : EX c (.ListComp elt [⟨tg, iter, ifs, 0⟩] scope pos) S w S' := fun X hX =>
  let ⟨_, hi, rd⟩ := h.rd
  (pe_lc hX.calm (by rw [hX.N]; exact h.nd) (hi X hX) (by rw [hX.N, hX.sc]; exact h.ok) (fun s H C cl fp => pg_U (hX.blk s H scope cl C fp)) (fun s H C cl fp => pts_U (hX.blk s H scope cl C fp)) (fun s H C cl fp => pe_U (hX.blk s H scope cl C fp)) (h.hs _)).wk rd
theorem LcX.w1 {j : Nat} {y : Str} {py spos : Pos} (h : LcX c elt tg iter ifs scope own S w S') (hj : j < S'.length) (hy : c.N[j]? = some y := by rfl) (hyl : c.sc.names.lookup y = some .local := by rfl) (hl : (py.line == pos.line) = true := by rfl) (hll : (pos.line == spos.line) = true := by rfl)
    (hown : (scope.names.any fun (n, k) => n == y && (k == .local || k == .cell)) = false := by decide +kernel) (hk : c.sc.kind = .function := by rfl) : W1 c (.Assign [.Name y py] (.ListComp elt [⟨tg, iter, ifs, 0⟩] scope pos) spos) S fun o => o = .nx (S'.set j w) := fun X hX =>
  let ⟨_, hi, rd⟩ := h.rd
  (ps_setLc (i := j) (y := y) (py := py) (spos := spos) hX.calm (by rw [hX.N]; exact h.nd) (by rw [hX.N]; exact hy) (by rw [hX.sc]; exact hyl) (sw_true (by rw [hX.sc]; exact hk) (by rw [hX.sc]; exact hyl) hl hown) (hi X hX) (by rw [hX.N, hX.sc]; exact h.ok) (fun s H C cl fp => pg_U (hX.blk s H scope cl C fp)) (fun s H C cl fp => pts_U (hX.blk s H scope cl C fp)) (fun s H C cl fp => pe_U (hX.blk s H scope cl C fp)) (h.hs _)).wk
    fun D σ H ⟨B, G, s, f⟩ => rd σ H _ ⟨B, G, s, fun v H' G' x s' => f.nx _ G' _ H' rfl x (s'.put hj)⟩
theorem CC.In.uB {X : Cx} (h : c.In X) (s : Shared) (H : Hp) (cl : List (Str × Addr)) (fp : List Addr) : (X.blk s H scope (compEnvC scope cl s.heap.objs.size X.env) fp).A.units + 1 < cLine := (h.blk s H scope cl s.heap.objs.size fp).u1
theorem DcX.ex (h : DcX c kx vx tg iter ifs scope own S w S') : EX c (.DictComp kx vx [⟨tg, iter, ifs, 0⟩] scope pos) S w S' := fun X hX =>
  let ⟨_, _, ho, hi, rd⟩ := h.rd
  (pe_dcG (ho X.prog X.w) hX.uB hX.calm (by rw [hX.N]; exact h.nd) (hi X hX) (by rw [hX.N, hX.sc]; exact h.ok) (fun s H C cl fp => pg_U (hX.blk s H scope cl C fp)) (fun s H C cl fp => pts_U (hX.blk s H scope cl C fp)) (fun s H C cl fp => pe_U (hX.blk s H scope cl C fp)) (fun s H C cl fp => pe_U (hX.blk s H scope cl C fp)) (h.hs _)).wk rd
theorem DcX.w1 {j : Nat} {y : Str} {py spos : Pos} (h : DcX c kx vx tg iter ifs scope own S w S') (hj : j < S'.length) (hy : c.N[j]? = some y := by rfl) (hyl : c.sc.names.lookup y = some .local := by rfl) (hl : (py.line == pos.line) = true := by rfl) (hll : (pos.line == spos.line) = true := by rfl)
    (hown : (scope.names.any fun (n, k) => n == y && (k == .local || k == .cell)) = false := by decide +kernel) (hk : c.sc.kind = .function := by rfl) : W1 c (.Assign [.Name y py] (.DictComp kx vx [⟨tg, iter, ifs, 0⟩] scope pos) spos) S fun o => o = .nx (S'.set j w) := fun X hX =>
  let ⟨_, _, ho, hi, rd⟩ := h.rd
  (ps_setDcG (i := j) (y := y) (py := py) (spos := spos) (ho X.prog X.w) hX.uB hX.calm (by rw [hX.N]; exact h.nd) (by rw [hX.N]; exact hy) (by rw [hX.sc]; exact hyl) (sw_trueD (by rw [hX.sc]; exact hk) (by rw [hX.sc]; exact hyl) hl hown) (hi X hX) (by rw [hX.N, hX.sc]; exact h.ok) (fun s H C cl fp => pg_U (hX.blk s H scope cl C fp)) (fun s H C cl fp => pts_U (hX.blk s H scope cl C fp)) (fun s H C cl fp => pe_U (hX.blk s H scope cl C fp)) (fun s H C cl fp => pe_U (hX.blk s H scope cl C fp)) (h.hs _)).wk
    fun D σ H ⟨B, G, s, f⟩ => rd σ H _ ⟨B, G, s, fun v H' G' x s' => f.nx _ G' _ H' rfl x (s'.put hj)⟩
/-! ### borrowed -/
theorem bor_rdL {ds : List D} (hd : imms ds = true) {σ : L2.St} {H : Hp} {Q : VK} (h : tD S (.lst ds) S σ H Q) : tD (frzS S) (.lst ds) S1 σ H Q := by
  obtain ⟨B, G, st, q⟩ := h
  obtain ⟨G1, g1, s1⟩ := st.frzAll
  refine ⟨H, G1, s1, fun v H' G' x s' => ?_⟩
  obtain ⟨fp, o, _, _, fr⟩ := id s'.own
  obtain ⟨a, vs, ev, ef, ea, r, z⟩ := o 0 _ _ rfl rfl
  obtain ⟨ga, na⟩ := fr 0 a (by rw [ef]; simp)
  cases ev
  obtain ⟨H2, n2, e2, st2, g2⟩ := bor_top st s'.tail na ga ea
  obtain ⟨G2, x2, s2, r2⟩ := st2.addDatas g2 hd r
  have := s2.newLst n2 r2 z
  rw [e2] at this
  exact q _ H' G2 x2 this
theorem bor_rdK {ks : List (Key × D)} (hd : immV ks = true) {σ : L2.St} {H : Hp} {Q : VK} (h : tD S (.dk ks) S σ H Q) : tD (frzS S) (.dk ks) S1 σ H Q := by
  obtain ⟨B, G, st, q⟩ := h
  obtain ⟨G1, g1, s1⟩ := st.frzAll
  refine ⟨H, G1, s1, fun v H' G' x s' => ?_⟩
  obtain ⟨fp, o, _, _, fr⟩ := id s'.own
  obtain ⟨a, vs, ev, ef, ea, r, z⟩ := o 0 _ _ rfl rfl
  obtain ⟨ga, na⟩ := fr 0 a (by rw [ef]; simp)
  cases ev
  obtain ⟨H2, n2, e2, st2, g2⟩ := bor_top st s'.tail na ga ea
  obtain ⟨G2, x2, s2, r2⟩ := st2.addV g2 hd r
  have := s2.newDk n2 r2 z
  rw [e2] at this
  exact q _ H' G2 x2 this
theorem bor_rdT {ks : List (List Key × D)} (hd : immV ks = true) {σ : L2.St} {H : Hp} {Q : VK} (h : tD S (.dt ks) S σ H Q) : tD (frzS S) (.dt ks) S1 σ H Q := by
  obtain ⟨B, G, st, q⟩ := h
  obtain ⟨G1, g1, s1⟩ := st.frzAll
  refine ⟨H, G1, s1, fun v H' G' x s' => ?_⟩
  obtain ⟨fp, o, _, _, fr⟩ := id s'.own
  obtain ⟨a, vs, ev, ef, ea, r, z⟩ := o 0 _ _ rfl rfl
  obtain ⟨ga, na⟩ := fr 0 a (by rw [ef]; simp)
  cases ev
  obtain ⟨H2, n2, e2, st2, g2⟩ := bor_top st s'.tail na ga ea
  obtain ⟨G2, x2, s2, r2⟩ := st2.addV g2 hd r
  have := s2.newDt n2 r2 z
  rw [e2] at this
  exact q _ H' G2 x2 this
theorem LcX.bor {α : Type} {em : α → D} [Im em] {xs : List α} (h : LcX c elt tg iter ifs scope own (frzS S) (.lst (xs.map em)) S1) : LcX c elt tg iter ifs scope own S (.lst (xs.map em)) S :=
  ⟨h.nd, h.ok, h.hs, let ⟨wi, hi, rd⟩ := h.rd; ⟨wi, hi, fun σ H Q q => rd σ H Q (bor_rdL (Im.all em xs) q)⟩⟩
theorem DcX.borK {κ β : Type} {ek : κ → D} {eb : β → D} [Ky ek] [Im eb] {m : List (κ × β)} (h : DcX c kx vx tg iter ifs scope own (frzS S) (sK ek eb m) S1) : DcX c kx vx tg iter ifs scope own S (sK ek eb m) S :=
  ⟨h.nd, h.ok, h.hs, let ⟨o0, wi, ho, hi, rd⟩ := h.rd; ⟨o0, wi, ho, hi, fun σ H Q q => rd σ H Q (bor_rdK (by have z := Im.all eb (m.map (·.2)); simp only [immV, kvK, List.map_map]; rwa [List.map_map] at z) q)⟩⟩
theorem DcX.borU {κ β : Type} {ek : κ → D} {eb : β → D} [Kt ek] [Im eb] {m : List (κ × β)} (h : DcX c kx vx tg iter ifs scope own (frzS S) (sU ek eb m) S1) : DcX c kx vx tg iter ifs scope own S (sU ek eb m) S :=
  ⟨h.nd, h.ok, h.hs, let ⟨o0, wi, ho, hi, rd⟩ := h.rd; ⟨o0, wi, ho, hi, fun σ H Q q => rd σ H Q (bor_rdT (by have z := Im.all eb (m.map (·.2)); simp only [immV, kvU, List.map_map]; rwa [List.map_map] at z) q)⟩⟩
end
end DL

/-! DL, part v: comprehensions told as maps. -/
namespace DL
open PySem PySem.Spec PyProof.Rows L2
section
variable {c : CC} {tg iter elt kx vx t : Expr} {ifs : List Expr} {scope : Scope} {own : List (Str × Nat)} {S S0 S1 S' Sn Sw : List SV} {w : SV} {pos : Pos} {vs : List Nat} {α β κ : Type} [DecidableEq κ] {en : α → D} {em : β → D} {ek : κ → D} {ev : β → D} {xs : List α} {S3 : α → List SV}
theorem wi_of {ds : List D} (hi : IX c tg iter S ds S0) : ∀ X, c.In X → PI X tg iter (tI S ds S0) := hi
/-! ### accumulators -/
theorem starts_lst : Starts (fun ds : List D => .lst ds) (.lst []) [] := fun _ _ _ _ _ _ st h => st.newLst h .nil (Nat.zero_le _)
theorem starts_ll : Starts (fun dss : List (List D) => .ll dss) (.lst []) [] := fun _ _ _ _ _ _ st h => st.newLL h
theorem starts_dk : Starts (fun ks : List (Key × D) => .dk ks) (.dK []) [] := fun _ _ _ _ _ _ st h => st.newDk h .nil (Nat.zero_le _)
theorem starts_dt : Starts (fun ks : List (List Key × D) => .dt ks) (.dT []) [] := fun _ _ _ _ _ _ st h => st.newDt h .nil (Nat.zero_le _)
theorem starts_dkl : Starts (fun ks : List (Key × List D) => .dkl ks) (.dK []) [] := fun _ _ _ _ _ _ st h => st.newDkl h
theorem starts_dtl : Starts (fun ks : List (List Key × List D) => .dtl ks) (.dT []) [] := fun _ _ _ _ _ _ st h => st.newDtl h
theorem put_lst {acc : List D} {d : D} (h : acc.length < sizeLine) : PutL (fun ds : List D => .lst ds) acc (.val d) (acc ++ [d]) := fun B G H S σ D y st => by
  have ry := st.headV
  obtain ⟨a, us, ea, eu, ru, _, up⟩ := st.tail.updL (i := 0) rfl
  cases ea
  exact ⟨us, eu, by rw [ru.length]; exact h, up (us ++ [y]) (acc ++ [d]) (ru.append (.cons ry .nil)) (by simp; omega)⟩
theorem put_ll {acc : List (List D)} {ds : List D} (h : acc.length < sizeLine) : PutL (fun dss : List (List D) => .ll dss) acc (.lst ds) (acc ++ [ds]) := fun B G H S σ D y st => by
  obtain ⟨fp, ow, _⟩ := id st.own
  obtain ⟨q, us, e1, e2, e3, e4, e5⟩ := ow 0 _ _ rfl rfl
  cases e1
  obtain ⟨as, f1, f2, f3⟩ := st.joinLL h
  exact ⟨_, f1, by rw [List.length_map, f2]; exact h, f3⟩
theorem put_dk {acc : List (Key × D)} {k : Key} {d : D} (h : acc.length < sizeLine) : PutD (fun ks : List (Key × D) => .dk ks) acc (kD k) (.val d) (dput acc k d) := fun B G H S σ D yk yv rk st => by
  obtain rfl := kD_val rk
  have ry := st.headV
  obtain ⟨a, us, ea, eu, ru, _, up⟩ := st.tail.updK (i := 0) rfl
  cases ea
  have dl := dput_length acc k d
  exact ⟨_, DPut.k eu (by rw [ru.length]; exact h), up (putK us k yv) (dput acc k d) (ru.put k ry) (by omega)⟩
theorem put_dt {acc : List (List Key × D)} {k : List Key} {d : D} (h : acc.length < sizeLine) : PutD (fun ks : List (List Key × D) => .dt ks) acc (.tuple (k.map kD)) (.val d) (dput acc k d) := fun B G H S σ D yk yv rk st => by
  cases rk with
  | tup e z r =>
    have := Rp.keys r
    subst this
    have ry := st.headV
    obtain ⟨a, us, ea, eu, ru, _, up⟩ := st.tail.updT (i := 0) rfl
    cases ea
    have dl := dput_length acc k d
    exact ⟨_, DPut.t eu (st.g _ _ e) (by rw [ru.length]; exact h), up (putK us k yv) (dput acc k d) (ru.put k ry) (by omega)⟩
theorem put_dkl {acc : List (Key × List D)} {k : Key} {ds : List D} (h : acc.length < sizeLine) (hk : k ∉ acc.map (·.1)) : PutD (fun ks : List (Key × List D) => .dkl ks) acc (kD k) (.lst ds) (acc ++ [(k, ds)]) := fun B G H S σ D yk yv rk st => by
  obtain rfl := kD_val rk
  obtain ⟨fp, ow, _⟩ := id st.own
  obtain ⟨q, us, e1, e2, e3, e4, e5⟩ := ow 0 _ _ rfl rfl
  cases e1
  obtain ⟨us, f1, f2, f3, f4⟩ := Stt.joinD lK (k := k) st h
  rw [← putK_new (by rw [f2]; exact hk)] at f4
  exact ⟨_, DPut.k f1 (by rw [f3]; exact h), f4⟩
theorem put_dtl {acc : List (List Key × List D)} {k : List Key} {ds : List D} (h : acc.length < sizeLine) (hk : k ∉ acc.map (·.1)) : PutD (fun ks : List (List Key × List D) => .dtl ks) acc (.tuple (k.map kD)) (.lst ds) (acc ++ [(k, ds)]) := fun B G H S σ D yk yv rk st => by
  cases rk with
  | tup e z r =>
    have := Rp.keys r
    subst this
    obtain ⟨fp, ow, _⟩ := id st.own
    obtain ⟨q, us, e1, e2, e3, e4, e5⟩ := ow 0 _ _ rfl rfl
    cases e1
    obtain ⟨us, f1, f2, f3, f4⟩ := Stt.joinD lT (k := k) st h
    rw [← putK_new (by rw [f2]; exact hk)] at f4
    exact ⟨_, DPut.t f1 (st.g _ _ e) (by rw [f3]; exact h), f4⟩
/-! ### list comprehensions -/
theorem lcx_P {p : α → Bool} {f : α → β} (nd : c.N.Nodup) (ok : BlkOk c.N c.sc scope own) (hi : IX c tg iter S (xs.map en) S0) (h : ∀ x ∈ xs, PureLc (c.blk scope) tg elt ifs (own.map (·.2)) Sw en em S3 p f x)
    (hS : wipeS S0 (own.map (·.2)) = Sw := by rfl) (hw : ∀ x, wipeS (S3 x) (own.map (·.2)) = Sw := by intro _; rfl) (hs : ∀ env x, foldedSetIterable iter env x = pure x := by intro _ _; rfl) : LcX c elt tg iter ifs scope own S (.lst (((xs.filter p).map f).map em)) (unwipe S0 Sw (own.map (·.2))) :=
  ⟨nd, ok, hs, _, hi, lc_reads (fun i acc S => acc = (((xs.take i).filter p).map f).map em ∧ S = Sw) ⟨Sw, by rw [hS]; exact Imp.refl _, by simp, rfl⟩ (pure_turn hw h) (fun acc S ⟨e1, e2⟩ => ⟨by rw [e1, List.length_map, List.take_length], e2⟩)⟩
theorem lcx_M {f : α → β} (nd : c.N.Nodup) (ok : BlkOk c.N c.sc scope own) (hi : IX c tg iter S (xs.map en) S0) (hg : ∀ x ∈ xs, GX (c.blk scope) tg (own.map (·.2)) Sw (.val (en x)) (S3 x)) (he : ∀ x ∈ xs, EX (c.blk scope) elt (S3 x) (.val (em (f x))) (S3 x))
    (hS : wipeS S0 (own.map (·.2)) = Sw := by rfl) (hw : ∀ x, wipeS (S3 x) (own.map (·.2)) = Sw := by intro _; rfl) (hs : ∀ env x, foldedSetIterable iter env x = pure x := by intro _ _; rfl) : LcX c elt tg iter [] scope own S (.lst ((xs.map f).map em)) (unwipe S0 Sw (own.map (·.2))) := by
  have := lcx_P (c := c) (ifs := []) (p := fun _ => true) (xs := xs) (f := f) nd ok hi (fun x hx => ⟨hg x hx, show TsX _ [] _ _ _ from ⟨rfl, rfl⟩, fun _ => he x hx⟩) hS hw hs
  rwa [show xs.filter (fun _ => true) = xs from List.filter_eq_self.mpr fun _ _ => rfl] at this
/-- lists of one's own within a list of one's own -/
def sLL (em : β → D) (m : List (List β)) : SV := .ll (m.map fun xs => xs.map em)
def sKL (ek : κ → D) [Ky ek] (em : β → D) (m : List (κ × List β)) : SV := .dkl (m.map fun p => (Ky.key ek p.1, p.2.map em))
def sUL (ek : κ → D) [Kt ek] (em : β → D) (m : List (κ × List β)) : SV := .dtl (m.map fun p => (Kt.keys ek p.1, p.2.map em))
theorem lcx_LL (em : β → D) (nd : c.N.Nodup) (ok : BlkOk c.N c.sc scope own) (hi : IX c tg iter S (xs.map en) S0) (hg : ∀ x ∈ xs, GX (c.blk scope) tg (own.map (·.2)) Sw (.val (en x)) (S3 x))
    (hS : wipeS S0 (own.map (·.2)) = Sw := by rfl) (hw : ∀ x, wipeS (S3 x) (own.map (·.2)) = Sw := by intro _; rfl) (hs : ∀ env x, foldedSetIterable iter env x = pure x := by intro _ _; rfl) : LcX c (.List [] pos) tg iter [] scope own S (sLL em (xs.map fun _ => [])) (unwipe S0 Sw (own.map (·.2))) :=
  ⟨nd, ok, hs, _, hi, lcA_reads (wA := fun dss : List (List D) => .ll dss) rfl starts_ll (fun i acc S => acc = (xs.take i).map (fun _ => []) ∧ S = Sw) ⟨Sw, by rw [hS]; exact Imp.refl _, by simp, rfl⟩ (by
    rintro hz i d acc S hd ⟨rfl, rfl⟩
    obtain ⟨x, hx, rfl⟩ := map_get hd
    rw [List.length_map] at hz
    have hl := (List.getElem?_eq_some_iff.mp hx).1
    refine ⟨S3 x, hg x (List.mem_of_getElem? hx), true, S3 x, ⟨rfl, rfl⟩, fun _ => ⟨.lst [], S3 x, _, ex_lst av_nil (Nat.zero_le _), put_ll (by simp; omega), S, by rw [hw]; exact Imp.refl _, ?_, rfl⟩, fun h => by cases h⟩
    rw [take_succ hx, List.map_append]; rfl) fun acc S ⟨e1, e2⟩ => ⟨by rw [e1, List.length_map, List.take_length, List.map_map]; rfl, e2⟩⟩
/-! ### dict comprehensions -/
theorem dcx_K [Ky ek] {p : α → Bool} {f : α → κ} {g : α → β} (nd : c.N.Nodup) (ok : BlkOk c.N c.sc scope own) (hi : IX c tg iter S (xs.map en) S0) (h : ∀ x ∈ xs, PureDc (c.blk scope) tg kx vx ifs (own.map (·.2)) Sw en ek ev S3 p f g x)
    (hS : wipeS S0 (own.map (·.2)) = Sw := by rfl) (hw : ∀ x, wipeS (S3 x) (own.map (·.2)) = Sw := by intro _; rfl) (hs : ∀ env x, foldedSetIterable iter env x = pure x := by intro _ _; rfl) : DcX c kx vx tg iter ifs scope own S (sK ek ev (dictOf xs p f g)) (unwipe S0 Sw (own.map (·.2))) :=
  ⟨nd, ok, hs, _, _, fun _ _ H h => dk_empty h, hi, dcB_reads (wA := fun ks : List (Key × D) => .dk ks) starts_dk (fun i acc S => acc = kvK ek ev (dictOf (xs.take i) p f g) ∧ acc.length ≤ i ∧ S = Sw) ⟨Sw, by rw [hS]; exact Imp.refl _, rfl, Nat.zero_le _, rfl⟩ (by
    rintro hz i d acc S hd ⟨rfl, hl, rfl⟩
    obtain ⟨x, hx, rfl⟩ := map_get hd
    rw [List.length_map] at hz
    have hq := h x (List.mem_of_getElem? hx)
    have hl' := (List.getElem?_eq_some_iff.mp hx).1
    refine ⟨S3 x, hq.gx, p x, S3 x, hq.t, fun hp => ⟨kD (Ky.key ek (f x)), _, S3 x, S3 x, _, by rw [← Ky.eq (e := ek)]; exact hq.k hp, hq.v hp, put_dk (by omega), S, by rw [hw]; exact Imp.refl _, ?_, ?_, rfl⟩, fun hp => ⟨S, by rw [hw]; exact Imp.refl _, ?_, by omega, rfl⟩⟩
    · rw [take_succ hx, dictOf_snoc, if_pos hp, kvK_put]
    · have := dput_length (kvK ek ev (dictOf (xs.take i) p f g)) (Ky.key ek (f x)) (ev (g x)); omega
    · rw [take_succ hx, dictOf_snoc, hp, if_neg (by simp)]) fun acc S ⟨e1, _, e2⟩ => ⟨by rw [e1, List.length_map, List.take_length], e2⟩⟩
theorem dcx_U [Kt ek] {p : α → Bool} {f : α → κ} {g : α → β} (nd : c.N.Nodup) (ok : BlkOk c.N c.sc scope own) (hi : IX c tg iter S (xs.map en) S0) (h : ∀ x ∈ xs, PureDc (c.blk scope) tg kx vx ifs (own.map (·.2)) Sw en ek ev S3 p f g x)
    (hS : wipeS S0 (own.map (·.2)) = Sw := by rfl) (hw : ∀ x, wipeS (S3 x) (own.map (·.2)) = Sw := by intro _; rfl) (hs : ∀ env x, foldedSetIterable iter env x = pure x := by intro _ _; rfl) : DcX c kx vx tg iter ifs scope own S (sU ek ev (dictOf xs p f g)) (unwipe S0 Sw (own.map (·.2))) :=
  ⟨nd, ok, hs, _, _, fun _ _ H h => dt_empty h, hi, dcB_reads (wA := fun ks : List (List Key × D) => .dt ks) starts_dt (fun i acc S => acc = kvU ek ev (dictOf (xs.take i) p f g) ∧ acc.length ≤ i ∧ S = Sw) ⟨Sw, by rw [hS]; exact Imp.refl _, rfl, Nat.zero_le _, rfl⟩ (by
    rintro hz i d acc S hd ⟨rfl, hl, rfl⟩
    obtain ⟨x, hx, rfl⟩ := map_get hd
    rw [List.length_map] at hz
    have hq := h x (List.mem_of_getElem? hx)
    have hl' := (List.getElem?_eq_some_iff.mp hx).1
    refine ⟨S3 x, hq.gx, p x, S3 x, hq.t, fun hp => ⟨.tuple ((Kt.keys ek (f x)).map kD), _, S3 x, S3 x, _, by rw [← Kt.eq (e := ek)]; exact hq.k hp, hq.v hp, put_dt (by omega), S, by rw [hw]; exact Imp.refl _, ?_, ?_, rfl⟩, fun hp => ⟨S, by rw [hw]; exact Imp.refl _, ?_, by omega, rfl⟩⟩
    · rw [take_succ hx, dictOf_snoc, if_pos hp, kvU_put]
    · have := dput_length (kvU ek ev (dictOf (xs.take i) p f g)) (Kt.keys ek (f x)) (ev (g x)); omega
    · rw [take_succ hx, dictOf_snoc, hp, if_neg (by simp)]) fun acc S ⟨e1, _, e2⟩ => ⟨by rw [e1, List.length_map, List.take_length], e2⟩⟩
theorem nodup_take {κ : Type} {f : α → κ} {i : Nat} {x : α} (hn : (xs.map f).Nodup) (hx : xs[i]? = some x) : f x ∉ (xs.take i).map f := by
  intro hm
  have e : (xs.take (i + 1)).map f = (xs.take i).map f ++ [f x] := by rw [take_succ hx, List.map_append]; rfl
  have h2 : ((xs.take (i + 1)).map f).Nodup := (List.take_sublist (i + 1) xs |>.map f).nodup hn
  rw [e] at h2
  exact (List.nodup_append.mp h2).2.2 _ hm _ (List.mem_singleton_self _) rfl
theorem dcx_LK [Ky ek] (em : β → D) {f : α → κ} (nd : c.N.Nodup) (ok : BlkOk c.N c.sc scope own) (hi : IX c tg iter S (xs.map en) S0) (hn : (xs.map f).Nodup) (hg : ∀ x ∈ xs, GX (c.blk scope) tg (own.map (·.2)) Sw (.val (en x)) (S3 x)) (hk : ∀ x ∈ xs, EX (c.blk scope) kx (S3 x) (.val (ek (f x))) (S3 x))
    (hS : wipeS S0 (own.map (·.2)) = Sw := by rfl) (hw : ∀ x, wipeS (S3 x) (own.map (·.2)) = Sw := by intro _; rfl) (hs : ∀ env x, foldedSetIterable iter env x = pure x := by intro _ _; rfl) : DcX c kx (.List [] pos) tg iter [] scope own S (sKL ek em (xs.map fun x => (f x, []))) (unwipe S0 Sw (own.map (·.2))) :=
  ⟨nd, ok, hs, _, _, fun _ _ H h => dk_empty h, hi, dcB_reads (wA := fun ks : List (Key × List D) => .dkl ks) starts_dkl (fun i acc S => acc = (xs.take i).map (fun x => (Ky.key ek (f x), [])) ∧ S = Sw) ⟨Sw, by rw [hS]; exact Imp.refl _, rfl, rfl⟩ (by
    rintro hz i d acc S hd ⟨rfl, rfl⟩
    obtain ⟨x, hx, rfl⟩ := map_get hd
    rw [List.length_map] at hz
    have hl := (List.getElem?_eq_some_iff.mp hx).1
    have hm := List.mem_of_getElem? hx
    refine ⟨S3 x, hg x hm, true, S3 x, ⟨rfl, rfl⟩, fun _ => ⟨kD (Ky.key ek (f x)), .lst [], S3 x, S3 x, _, by rw [← Ky.eq (e := ek)]; exact hk x hm, ex_lst av_nil (Nat.zero_le _), put_dkl (by simp; omega) ?_, S, by rw [hw]; exact Imp.refl _, ?_, rfl⟩, fun h => by cases h⟩
    · intro hq
      refine nodup_take hn hx ?_
      rw [List.map_map] at hq
      obtain ⟨y, hy, e⟩ := List.mem_map.mp hq
      exact List.mem_map.mpr ⟨y, hy, Ky.inj (e := ek) _ _ e⟩
    · rw [take_succ hx, List.map_append]; rfl) fun acc S ⟨e1, e2⟩ => ⟨by rw [e1, List.length_map, List.take_length, List.map_map]; rfl, e2⟩⟩
theorem dcx_LU [Kt ek] (em : β → D) {f : α → κ} (nd : c.N.Nodup) (ok : BlkOk c.N c.sc scope own) (hi : IX c tg iter S (xs.map en) S0) (hn : (xs.map f).Nodup) (hg : ∀ x ∈ xs, GX (c.blk scope) tg (own.map (·.2)) Sw (.val (en x)) (S3 x)) (hk : ∀ x ∈ xs, EX (c.blk scope) kx (S3 x) (.val (ek (f x))) (S3 x))
    (hS : wipeS S0 (own.map (·.2)) = Sw := by rfl) (hw : ∀ x, wipeS (S3 x) (own.map (·.2)) = Sw := by intro _; rfl) (hs : ∀ env x, foldedSetIterable iter env x = pure x := by intro _ _; rfl) : DcX c kx (.List [] pos) tg iter [] scope own S (sUL ek em (xs.map fun x => (f x, []))) (unwipe S0 Sw (own.map (·.2))) :=
  ⟨nd, ok, hs, _, _, fun _ _ H h => dt_empty h, hi, dcB_reads (wA := fun ks : List (List Key × List D) => .dtl ks) starts_dtl (fun i acc S => acc = (xs.take i).map (fun x => (Kt.keys ek (f x), [])) ∧ S = Sw) ⟨Sw, by rw [hS]; exact Imp.refl _, rfl, rfl⟩ (by
    rintro hz i d acc S hd ⟨rfl, rfl⟩
    obtain ⟨x, hx, rfl⟩ := map_get hd
    rw [List.length_map] at hz
    have hl := (List.getElem?_eq_some_iff.mp hx).1
    have hm := List.mem_of_getElem? hx
    refine ⟨S3 x, hg x hm, true, S3 x, ⟨rfl, rfl⟩, fun _ => ⟨.tuple ((Kt.keys ek (f x)).map kD), .lst [], S3 x, S3 x, _, by rw [← Kt.eq (e := ek)]; exact hk x hm, ex_lst av_nil (Nat.zero_le _), put_dtl (by simp; omega) ?_, S, by rw [hw]; exact Imp.refl _, ?_, rfl⟩, fun h => by cases h⟩
    · intro hq
      refine nodup_take hn hx ?_
      rw [List.map_map] at hq
      obtain ⟨y, hy, e⟩ := List.mem_map.mp hq
      exact List.mem_map.mpr ⟨y, hy, Kt.inj (e := ek) _ _ e⟩
    · rw [take_succ hx, List.map_append]; rfl) fun acc S ⟨e1, e2⟩ => ⟨by rw [e1, List.length_map, List.take_length, List.map_map]; rfl, e2⟩⟩
end
end DL

/-! DL, part w: appending to a list within a list or dict; two clauses. -/
namespace DL
open PySem PySem.Spec PyProof.Rows L2
section
variable {B G H : Hp} {S T : List SV} {σ τ : L2.St} {w : SV} {x : Option V}
/-- slot i is taken out -/
theorem Stt.lift {i : Nat} (h : Stt B G H S σ) (ew : S[i]? = some w) (ex : σ[i]? = some x) : Stt B G H (w :: S.set i .un) (x :: σ) := by
  obtain ⟨fp, o, z, dj, fr⟩ := h.own
  have hi : i < S.length := (List.getElem?_eq_some_iff.mp ew).1
  refine ⟨h.g, h.b, by simpa using h.len, fun j => match j with | 0 => fp i | k + 1 => if k = i then [] else fp k, fun j u y e1 e2 => ?_, fun j hj => ?_, fun j k a h1 h2 => ?_, fun j a ha => ?_⟩
  · cases j with
    | zero =>
      have e1 : w = u := Option.some.inj e1
      have e2 : x = y := Option.some.inj e2
      rw [← e1, ← e2]; exact o i w x ew ex
    | succ k =>
      have e1 : (S.set i .un)[k]? = some u := by simpa using e1
      have e2 : σ[k]? = some y := by simpa using e2
      by_cases hk : k = i
      · subst hk
        rw [List.getElem?_set_self hi] at e1
        cases e1
        simp only [if_true]; exact (show ([] : List Addr) = [] from rfl)
      · rw [List.getElem?_set_ne (Ne.symm hk)] at e1
        simp only [if_neg hk]; exact o k u y e1 e2
  · cases j with
    | zero => simp at hj
    | succ k =>
      simp at hj
      simp only [if_neg (show k ≠ i by omega)]; exact z k hj
  · cases j with
    | zero =>
      cases k with
      | zero => rfl
      | succ k =>
        by_cases hk : k = i
        · simp only [if_pos hk] at h2; cases h2
        · simp only [if_neg hk] at h2; exact absurd (dj _ _ _ h1 h2).symm hk
    | succ j =>
      by_cases hj : j = i
      · simp only [if_pos hj] at h1; cases h1
      · simp only [if_neg hj] at h1
        cases k with
        | zero => exact absurd (dj _ _ _ h1 h2) hj
        | succ k =>
          by_cases hk : k = i
          · simp only [if_pos hk] at h2; cases h2
          · simp only [if_neg hk] at h2; rw [dj _ _ _ h1 h2]
  · cases j with
    | zero => exact fr i a ha
    | succ k =>
      by_cases hk : k = i
      · simp only [if_pos hk] at ha; cases ha
      · simp only [if_neg hk] at ha; exact fr k a ha
theorem set_same {α : Type} : ∀ {l : List α} {i : Nat} {x : α}, l[i]? = some x → l.set i x = l
  | [], _, _, h => by simp at h
  | a :: l, 0, x, h => by cases (show some a = some x from h); rfl
  | a :: l, i + 1, x, h => by rw [List.set_cons_succ, set_same (by simpa using h)]
theorem Stt.lower {i : Nat} (h : Stt B G H (w :: S.set i .un) (x :: σ)) (hi : i < S.length) (ex : σ[i]? = some x) : Stt B G H (S.set i w) σ := by
  have := h.put (i := i) (by rw [List.length_set]; exact hi)
  rwa [List.set_set, set_same ex] at this
theorem Stt.bracketK (h : Stt B G H (w :: S) (x :: σ)) : ∃ B1, Stt B1 G H S σ ∧ (∀ f, Own G H w x f → ∀ a ∈ f, ∀ u, H a = some u → B1 a = some u) ∧
    ∀ G' H' T τ, Ext B1 G G' → Stt B1 G' H' T τ → Ext B G G' ∧ Stt B G' H' (w :: T) (x :: τ) := by
  obtain ⟨fp, o, z, dj, fr⟩ := h.own
  have o0 := o 0 w x rfl rfl
  have inB : ∀ a u, B a = some u → a ∉ fp 0 := fun a u e ha => by rw [(fr 0 a ha).2] at e; cases e
  refine ⟨fun a => if a ∈ fp 0 then H a else B a, ⟨h.g, fun a u e => ?_, by simpa using h.len, fun i => fp (i + 1), fun i u y e1 e2 => o (i + 1) u y (by simpa using e1) (by simpa using e2), fun i hi => z (i + 1) (by simpa using hi), fun i j a h1 h2 => ?_, fun i a ha => ?_⟩, fun f hf a ha u e => by rw [Own.det hf o0] at ha; simp only [if_pos ha]; exact e, ?_⟩
  · by_cases ha : a ∈ fp 0
    · simp only [if_pos ha] at e; exact e
    · simp only [if_neg ha] at e; exact h.b a u e
  · have := dj _ _ _ h1 h2
    omega
  · obtain ⟨g1, b1⟩ := fr _ a ha
    refine ⟨g1, ?_⟩
    have : a ∉ fp 0 := fun hb => by have := dj _ _ _ ha hb; omega
    simp only [if_neg this]
    exact b1
  · intro G' H' T τ xt st
    have sB : Same B H' := fun a u e => st.b a u (by simp only [if_neg (inB a u e)]; exact e)
    have sH : ∀ a ∈ fp 0, H' a = H a := fun a ha => by
      obtain ⟨u, e, _⟩ := o0.there a ha
      rw [e]
      exact st.b a u (by simp only [if_pos ha]; exact e)
    refine ⟨⟨xt.1, fun a u e1 e2 => ?_⟩, ?_⟩
    · rcases xt.2 a u e1 e2 with q | q
      · by_cases ha : a ∈ fp 0
        · exact .inl (fr 0 a ha).2
        · simp only [if_neg ha] at q; exact .inl q
      · exact .inr q
    · obtain ⟨fp', o', z', dj', fr'⟩ := st.own
      have off : ∀ i a, a ∈ fp' i → a ∉ fp 0 := fun i a ha hb => by
        have q := (fr' i a ha).2
        simp only [if_pos hb] at q
        obtain ⟨u, e, _⟩ := o0.there a hb
        rw [e] at q; cases q
      refine ⟨st.g, sB, by simpa using st.len, fun i => match i with | 0 => fp 0 | j + 1 => fp' j, fun i u y e1 e2 => ?_, fun i hi => ?_, fun i j a h1 h2 => ?_, fun i a ha => ?_⟩
      · cases i with
        | zero =>
          have e1 : w = u := Option.some.inj e1
          have e2 : x = y := Option.some.inj e2
          subst e1; subst e2
          exact o0.mono xt.1 sH
        | succ i => exact o' i u y (by simpa using e1) (by simpa using e2)
      · cases i with
        | zero => simp at hi
        | succ i => exact z' i (by simpa using hi)
      · cases i with
        | zero =>
          cases j with
          | zero => rfl
          | succ j => exact (off j a h2 h1).elim
        | succ i =>
          cases j with
          | zero => exact (off i a h1 h2).elim
          | succ j => rw [dj' i j a h1 h2]
      · cases i with
        | zero =>
          refine ⟨?_, (fr 0 a ha).2⟩
          cases e : G' a with
          | none => rfl
          | some u =>
            exfalso
            obtain ⟨u', e', t'⟩ := o0.there a ha
            have e2 := st.g a u e
            rw [sH a ha, e'] at e2
            cases e2
            rcases xt.2 a _ (fr 0 a ha).1 e with q | q
            · simp only [if_pos ha] at q
              rw [e'] at q; cases q
            · rw [t'] at q; cases q
        | succ i =>
          obtain ⟨g1, b1⟩ := fr' i a ha
          simp only [if_neg (off i a ha)] at b1
          exact ⟨g1, b1⟩
end
section
variable {c : CC} {e ke : Expr} {S S1 S2 : List SV} {pos p py apos cpos : Pos} {y : Str} {i : Nat} {α κ : Type} [DecidableEq κ] {en : α → D} {ek : κ → D} {x : α} {j : Int} {k : κ} {m : List (List α)} {md : List (κ × List α)} {n : Nat}
theorem atI_at {α : Type} {xs : List α} {j : Int} {n : Nat} (h : -(n : Int) ≤ j ∧ j < n) (hn : xs.length = n) : atI xs j = xs[(if 0 ≤ j then j.toNat else (j + n).toNat)]? := by
  obtain ⟨h1, h2⟩ := h
  unfold atI ixN
  rw [hn]
  by_cases h0 : 0 ≤ j
  · rw [if_pos h0, if_pos h0, if_pos (by omega)]; rfl
  · rw [if_neg h0, if_neg h0, if_pos (by omega)]; rfl
theorem nth_at {α : Type} [Inhabited α] {xs : List α} {j : Int} (h : InB xs j) : xs[(if 0 ≤ j then j.toNat else (j + xs.length).toNat)]? = some (nth xs j) := by
  unfold InB at h
  unfold nth
  by_cases h0 : 0 ≤ j
  · rw [if_pos h0, if_pos h0, List.getD_eq_getElem?_getD, List.getElem?_eq_getElem (by omega)]; rfl
  · rw [if_neg h0, if_neg h0, List.getD_eq_getElem?_getD, List.getElem?_eq_getElem (by omega)]; rfl
/-- xs[j].append(x) where xs is a list of lists of one's own -/
theorem ex_appLL (hk : EX c ke S (.val (.int j)) S) (he : EX c e (S.set i .un) (.val (en x)) (S.set i .un)) (hb : InB m j) (hz : (nth m j).length < sizeLine) (hN : c.N[i]? = some y := by rfl) (hv : Vis c.sc y := by first | exact Or.inl rfl | exact Or.inr (Or.inl rfl) | exact Or.inr (Or.inr rfl)) (h0 : S[i]? = some (sLL en m) := by rfl)
    (hd : (y == ("__debug__" : Str)) = false := by decide) (hcd : (y == ("__classdict__" : Str)) = false := by decide) (hp : PlainIx ke := by intro _ _; rfl) (h : MC1 (.Subscript (.Name y py) ke p) "append" apos e cpos := by exact ⟨fun _ => rfl, fun _ => rfl, rfl, fun _ => rfl⟩)
    (hs : ∀ env, starEach [e] env = (false, eval e env) :: starEach [] env := by intro _; rfl) (hq : ∀ env, (backTo cpos (starEach [] env)).any (·.1) = false := by intro _; rfl) :
    EX c (.Call (.Attribute (.Subscript (.Name y py) ke p) "append" apos) [e] [] cpos) S (.val .none) (S.set i (sLL en (setI m j (nth m j ++ [x])))) := fun X hX =>
  (pe_bm PySem.F.plainAttrs_list PySem.F.slot_list_append PySem.F.type_list_append mt_append (pe_ix ix_list (pe_var (i := i) (by rw [hX.N]; exact hN) (by rw [hX.sc]; exact hv) hd hcd) (hk X hX) hp) (pa_cons (he X hX) pa_nil (hs _)) (h.base _) (h.few _) h.line (hs _) (hq _)).wk fun σ H Q ⟨B, G, st, kk⟩ => by
    obtain ⟨y0, ey⟩ := st.at h0
    obtain ⟨fp, o, _⟩ := id st.own
    obtain ⟨a, as, e1, _⟩ := o i _ _ h0 ey
    subst e1
    refine ⟨.ref a, ey, B, G, st, fun kv H1 G1 x1 s1 => ?_⟩
    have rk := s1.headV
    cases rk
    have st1 := s1.tail
    -- the place
    let jn : Nat := if 0 ≤ j then j.toNat else (j + m.length).toNat
    have hjn : jn < m.length := by unfold InB at hb; show (if 0 ≤ j then j.toNat else (j + m.length).toNat) < _; split <;> omega
    obtain ⟨a', as', b, us, ds0, f1, f2, f3, f4, f5, f6, f7, _⟩ := st1.updLL h0 (j := jn) (by simpa using hjn)
    rw [ey] at f1; cases f1
    have hl : as'.length = m.length := by simpa using f3
    refine ⟨a, as'.map V.ref, j, .ref b, rfl, rfl, SqL.of f2, ?_, .inl ⟨rfl, us, SqL.of f5⟩, ?_⟩
    · rw [atI_at (xs := as'.map V.ref) (n := m.length) hb (by rw [List.length_map, hl]), List.getElem?_map, f4]; rfl
    · have lf := st1.lift h0 ey
      obtain ⟨fp2, o2, _⟩ := id lf.own
      obtain ⟨B1, sB, keep, back⟩ := lf.bracketK
      have own1 := o2 0 _ _ rfl rfl
      refine ⟨B1, G1, sB, fun v H2 G2 x2 s2 => ?_⟩
      obtain ⟨x3, s3⟩ := back G2 H2 _ _ x2 s2
      have rx := s2.headV
      obtain ⟨a2, as2, q1, q2, _, _, q5, q6⟩ := id own1
      cases q1
      have has : as2 = as' := ref_inj (HO.lst.inj (Option.some.inj (q5.symm.trans f2)))
      subst has
      have hA2 : H2 a = some (.lst (as2.map V.ref)) := s2.b _ _ (keep _ own1 a (by rw [q2]; simp) _ q5)
      have s4 : Stt B G2 H2 S σ := by
        have := (Stt.lower (x := some (.ref a)) (w := sLL en m) (S := S) (i := i) s3.swap.tail (List.getElem?_eq_some_iff.mp h0).1 ey)
        rwa [set_same h0] at this
      obtain ⟨a3, as3, b3, us3, ds3, g1, g2, g3, g4, g5, g6, g7, up⟩ := s4.updLL h0 (j := jn) (by simpa using hjn)
      rw [ey] at g1; cases g1
      have has3 : as3 = as2 := ref_inj (HO.lst.inj (Option.some.inj (g2.symm.trans hA2)))
      subst has3
      rw [f4] at g4; cases g4
      have hds : ds3 = (nth m j).map en := by
        rw [List.getElem?_map, show m[jn]? = some (nth m j) from nth_at hb] at g6
        exact (Option.some.inj g6).symm
      subst hds
      refine ⟨b, us3, v, rfl, rfl, g5, by rw [g7.length, List.length_map]; exact hz, ?_⟩
      have s5 := up (us3 ++ [v]) ((nth m j).map en ++ [en x]) (g7.append (.cons rx .nil)) (by simp; omega)
      have e6 : (List.map (fun xs => List.map en xs) m).set jn ((nth m j).map en ++ [en x]) = (setI m j (nth m j ++ [x])).map fun xs => xs.map en := by
        unfold setI; rw [List.map_set, List.map_append]; rfl
      rw [e6] at s5
      exact kk .non _ G2 (x1.trans x3) (s5.push .non)
/-- the list at the key k gets one item more (the first such key alone) -/
def dapp (m : List (κ × List α)) (k : κ) (x : α) : List (κ × List α) := match m with
  | [] => []
  | p :: t => if p.1 = k then (p.1, p.2 ++ [x]) :: t else p :: dapp t k x
theorem dapp_at : ∀ {m : List (κ × List α)} {k : κ} {x : α} {l : List α}, dget m k = some l → ∃ n : Nat, ∃ h : n < m.length, m[n].1 = k ∧ m[n].2 = l ∧ (∀ i (hi : i < n), m[i].1 ≠ k) ∧ dapp m k x = m.set n (m[n].1, l ++ [x])
  | [], _, _, _, h => by simp [dget_nil] at h
  | p :: t, k, x, l, h => by
    rw [dget_cons] at h
    by_cases e : p.1 = k
    · rw [if_pos e] at h
      have h := Option.some.inj h
      refine ⟨0, by simp, e, h, fun i hi => by omega, ?_⟩
      simp only [dapp, if_pos e, List.getElem_cons_zero, List.set_cons_zero, ← h]
    · rw [if_neg e] at h
      obtain ⟨n, hn, h1, h2, h3, h4⟩ := dapp_at (x := x) h
      refine ⟨n + 1, by simpa using hn, h1, h2, fun i hi => ?_, ?_⟩
      · cases i with
        | zero => exact e
        | succ i => exact h3 i (by omega)
      · simp only [dapp, if_neg e, h4, List.getElem_cons_succ, List.set_cons_succ]
theorem valV_first {κ : Type} [DecidableEq κ] : ∀ {us : List (κ × V)} {k : κ} {n : Nat} {v : V}, us[n]? = some (k, v) → (∀ i p, i < n → us[i]? = some p → p.1 ≠ k) → valV us k = some v
  | [], _, _, _, h, _ => by simp at h
  | p :: t, k, 0, v, h, _ => by cases (show some p = some (k, v) from h); exact valV_pos rfl
  | p :: t, k, n + 1, v, h, hf => by
    rw [valV_neg (hf 0 p (by omega) rfl)]
    exact valV_first (n := n) (by simpa using h) fun i q hi hq => hf (i + 1) q (by omega) (by simpa using hq)
/-- xs[k].append(x), xs a dict of lists of one's own; what is common -/
theorem app_dict {κ' : Type} (L : LDict κ') [DecidableEq κ'] {X : Cx} (hX : c.In X) {ks : List (κ' × List D)} {kk : κ'} {dk d : D} {ds : List D} {n : Nat} (hn : n < ks.length) (hk1 : ks[n].1 = kk) (hk2 : ks[n].2 = ds) (hkf : ∀ i (hi : i < n), ks[i].1 ≠ kk)
    (hget : ∀ (G H : Hp) (a : Addr) (us : List (κ' × V)) (yk : V), Same G H → H a = some (L.mkO us) → Rp G yk dk → DGet H a yk (valV us kk)) (htab : ∀ H a us, H a = some (L.mkO us) → tyV X.K "dict" (.ref a) H)
    (hk : EX c ke S (.val dk) S) (he : EX c e (S.set i .un) (.val d) (S.set i .un)) (hz : ds.length < sizeLine) (hN : c.N[i]? = some y) (hv : Vis c.sc y) (h0 : S[i]? = some (L.mkS ks))
    (hd : (y == ("__debug__" : Str)) = false) (hcd : (y == ("__classdict__" : Str)) = false) (hp : NoSl ke) (h : MC1 (.Subscript (.Name y py) ke p) "append" apos e cpos)
    (hs : ∀ env, starEach [e] env = (false, eval e env) :: starEach [] env) (hq : ∀ env, (backTo cpos (starEach [] env)).any (·.1) = false) :
    PE X (.Call (.Attribute (.Subscript (.Name y py) ke p) "append" apos) [e] [] cpos) (tD S (.val .none) (S.set i (L.mkS (ks.set n (ks[n].1, ds ++ [d]))))) :=
  (pe_bm PySem.F.plainAttrs_list PySem.F.slot_list_append PySem.F.type_list_append mt_append (pe_dget hX.u1 (pe_var (i := i) (by rw [hX.N]; exact hN) (by rw [hX.sc]; exact hv) hd hcd) (hk X hX) hp) (pa_cons (he X hX) pa_nil (hs _)) (h.base _) (h.few _) h.line (hs _) (hq _)).wk fun σ H Q ⟨B, G, st, fin⟩ => by
    obtain ⟨y0, ey⟩ := st.at h0
    obtain ⟨fp, o, _⟩ := id st.own
    have oi := o i _ _ h0 ey
    rw [L.own] at oi
    obtain ⟨a, as, e1, _⟩ := oi
    subst e1
    refine ⟨.ref a, ey, B, G, st, fun kv H1 G1 x1 s1 => ?_⟩
    have rk := s1.headV
    have st1 := s1.tail
    obtain ⟨a', us', b, us, ds0, f1, f2, f3, f4, f5, f6, f7, _⟩ := st1.updD L h0 hn
    rw [ey] at f1; cases f1
    have hus : us'[n]? = some (kk, .ref b) := by
      cases hu : us'[n]? with
      | none => rw [hu] at f4; cases f4
      | some p =>
        rw [hu] at f4
        have e2 : p.2 = .ref b := Option.some.inj f4
        have e3 : (us'.map (·.1))[n]? = some p.1 := by rw [List.getElem?_map, hu]; rfl
        rw [f3, List.getElem?_map, List.getElem?_eq_getElem hn] at e3
        have e4 : p.1 = kk := by rw [← hk1]; exact (Option.some.inj e3).symm
        rw [← e2, ← e4]
    have hval : valV us' kk = some (.ref b) := valV_first hus fun i p hi hp => by
      have e3 : (us'.map (·.1))[i]? = some p.1 := by rw [List.getElem?_map, hp]; rfl
      rw [f3, List.getElem?_map, List.getElem?_eq_getElem (by omega)] at e3
      have := Option.some.inj e3
      exact this ▸ hkf i hi
    refine ⟨a, .ref b, rfl, hval ▸ hget _ _ _ _ _ st1.g f2 rk, .inl ⟨rfl, us, SqL.of f5⟩, ?_⟩
    have lf := st1.lift h0 ey
    obtain ⟨fp2, o2, _⟩ := id lf.own
    obtain ⟨B1, sB, keep, back⟩ := lf.bracketK
    have own1 := o2 0 _ _ rfl rfl
    refine ⟨B1, G1, sB, fun v H2 G2 x2 s2 => ?_⟩
    obtain ⟨x3, s3⟩ := back G2 H2 _ _ x2 s2
    have rx := s2.headV
    have own1' := own1
    rw [L.own] at own1'
    obtain ⟨a2, as2, q1, q2, _, _, q5, q6⟩ := own1'
    cases q1
    have hA2 : H2 a = some (L.mkO us') := s2.b _ _ (keep _ own1 a (by rw [q2]; simp) _ f2)
    have s4 : Stt B G2 H2 S σ := by
      have := (Stt.lower (x := some (.ref a)) (w := L.mkS ks) (S := S) (i := i) s3.swap.tail (List.getElem?_eq_some_iff.mp h0).1 ey)
      rwa [set_same h0] at this
    obtain ⟨a3, us3, b3, ws3, ds3, g1, g2, g3, g4, g5, g6, g7, up⟩ := s4.updD L h0 hn
    rw [ey] at g1; cases g1
    have hu3 : us3 = us' := L.inj _ _ (Option.some.inj (g2.symm.trans hA2))
    subst hu3
    rw [hus] at g4
    cases (show some (V.ref b) = some (V.ref b3) from g4)
    have hds : ds3 = ds := by
      rw [List.getElem?_eq_getElem hn] at g6
      rw [← hk2]; exact (Option.some.inj g6).symm
    subst hds
    refine ⟨b, ws3, v, rfl, rfl, g5, by rw [g7.length]; exact hz, ?_⟩
    exact fin .non _ G2 (x1.trans x3) ((up (ws3 ++ [v]) (ds3 ++ [d]) (g7.append (.cons rx .nil)) (by simp; omega)).push .non)
theorem ex_appKL [Ky ek] (hk : EX c ke S (.val (ek k)) S) (he : EX c e (S.set i .un) (.val (en x)) (S.set i .un)) (hb : (dget md k).isSome = true) (hz : ((dget md k).getD []).length < sizeLine) (hN : c.N[i]? = some y := by rfl) (hv : Vis c.sc y := by first | exact Or.inl rfl | exact Or.inr (Or.inl rfl) | exact Or.inr (Or.inr rfl)) (h0 : S[i]? = some (sKL ek en md) := by rfl)
    (hd : (y == ("__debug__" : Str)) = false := by decide) (hcd : (y == ("__classdict__" : Str)) = false := by decide) (hp : NoSl ke := by intro _ _; rfl) (h : MC1 (.Subscript (.Name y py) ke p) "append" apos e cpos := by exact ⟨fun _ => rfl, fun _ => rfl, rfl, fun _ => rfl⟩)
    (hs : ∀ env, starEach [e] env = (false, eval e env) :: starEach [] env := by intro _; rfl) (hq : ∀ env, (backTo cpos (starEach [] env)).any (·.1) = false := by intro _; rfl) :
    EX c (.Call (.Attribute (.Subscript (.Name y py) ke p) "append" apos) [e] [] cpos) S (.val .none) (S.set i (sKL ek en (dapp md k x))) := fun X hX => by
  obtain ⟨l, hl⟩ := Option.isSome_iff_exists.mp hb
  rw [hl] at hz
  obtain ⟨n, hn, h1, h2, h3, h4⟩ := dapp_at (x := x) hl
  have := app_dict lK hX (ks := md.map fun p : κ × List α => (Ky.key ek p.1, p.2.map en)) (kk := Ky.key ek k) (dk := ek k) (d := en x) (ds := l.map en) (n := n) (by simpa using hn) (by simp [h1]) (by simp [h2]) (fun i hi e => h3 i hi (Ky.inj (e := ek) _ _ (by simpa using e)))
    (fun G H a us yk g e r => by
      have := Ky.kv r
      subst this
      exact DGet.k e) (fun H a us e => .inr (.inr (.inl ⟨rfl, .inl ⟨_, e⟩⟩))) hk he (by simpa using hz) hN hv h0 hd hcd hp h hs hq (apos := apos) (cpos := cpos) (py := py)
  have e : (md.map fun p : κ × List α => (Ky.key ek p.1, p.2.map en)).set n (((md.map fun p : κ × List α => (Ky.key ek p.1, p.2.map en))[n]'(by simpa using hn)).1, l.map en ++ [en x]) = (dapp md k x).map fun p => (Ky.key ek p.1, p.2.map en) := by
    rw [h4, List.map_set]; simp [h1]
  rw [e] at this
  exact this
theorem ex_appUL [Kt ek] (hk : EX c ke S (.val (ek k)) S) (he : EX c e (S.set i .un) (.val (en x)) (S.set i .un)) (hb : (dget md k).isSome = true) (hz : ((dget md k).getD []).length < sizeLine) (hN : c.N[i]? = some y := by rfl) (hv : Vis c.sc y := by first | exact Or.inl rfl | exact Or.inr (Or.inl rfl) | exact Or.inr (Or.inr rfl)) (h0 : S[i]? = some (sUL ek en md) := by rfl)
    (hd : (y == ("__debug__" : Str)) = false := by decide) (hcd : (y == ("__classdict__" : Str)) = false := by decide) (hp : NoSl ke := by intro _ _; rfl) (h : MC1 (.Subscript (.Name y py) ke p) "append" apos e cpos := by exact ⟨fun _ => rfl, fun _ => rfl, rfl, fun _ => rfl⟩)
    (hs : ∀ env, starEach [e] env = (false, eval e env) :: starEach [] env := by intro _; rfl) (hq : ∀ env, (backTo cpos (starEach [] env)).any (·.1) = false := by intro _; rfl) :
    EX c (.Call (.Attribute (.Subscript (.Name y py) ke p) "append" apos) [e] [] cpos) S (.val .none) (S.set i (sUL ek en (dapp md k x))) := fun X hX => by
  obtain ⟨l, hl⟩ := Option.isSome_iff_exists.mp hb
  rw [hl] at hz
  obtain ⟨n, hn, h1, h2, h3, h4⟩ := dapp_at (x := x) hl
  have := app_dict lT hX (ks := md.map fun p : κ × List α => (Kt.keys ek p.1, p.2.map en)) (kk := Kt.keys ek k) (dk := ek k) (d := en x) (ds := l.map en) (n := n) (by simpa using hn) (by simp [h1]) (by simp [h2]) (fun i hi e => h3 i hi (Kt.inj (e := ek) _ _ (by simpa using e)))
    (fun G H a us yk g e r => by
      obtain ⟨b, rfl, eb⟩ := Kt.kv r
      exact DGet.t e (g _ _ eb)) (fun H a us e => .inr (.inr (.inl ⟨rfl, .inr ⟨_, e⟩⟩))) hk he (by simpa using hz) hN hv h0 hd hcd hp h hs hq (apos := apos) (cpos := cpos) (py := py)
  have e : (md.map fun p : κ × List α => (Kt.keys ek p.1, p.2.map en)).set n (((md.map fun p : κ × List α => (Kt.keys ek p.1, p.2.map en))[n]'(by simpa using hn)).1, l.map en ++ [en x]) = (dapp md k x).map fun p => (Kt.keys ek p.1, p.2.map en) := by
    rw [h4, List.map_set]; simp [h1]
  rw [e] at this
  exact this
/-! ### frozen -/
theorem frz_LL (en : α → D) (m : List (List α)) : frzV (sLL en m) = .val (eL (eL en) m) := by
  show SV.val (.list ((m.map fun xs => xs.map en).map PyData.list)) = _
  rw [List.map_map]; rfl
theorem frz_KL (ek : κ → D) [Ky ek] (en : α → D) (m : List (κ × List α)) : frzV (sKL ek en m) = pK ek (eL en) m := by
  show SV.pr (isDk (lkv (m.map fun p => (Ky.key ek p.1, p.2.map en)))) = SV.pr (isDk (kvK ek (eL en) m))
  rw [lkv, List.map_map]; rfl
theorem frz_UL (ek : κ → D) [Kt ek] (en : α → D) (m : List (κ × List α)) : frzV (sUL ek en m) = pU ek (eL en) m := by
  show SV.pr (isDt (lkv (m.map fun p => (Kt.keys ek p.1, p.2.map en)))) = SV.pr (isDt (kvU ek (eL en) m))
  rw [lkv, List.map_map]; rfl
theorem Wk.fe {w w' : SV} {S T : List SV} (h : frzV w = w') (k : Wk S T) : Wk (w :: S) (w' :: T) := h ▸ Wk.f k
end
end DL

/-! DL, part x: list comprehensions of two clauses. -/
namespace DL
open PySem PySem.Spec PyProof.Rows L2
section
variable {c : CC} {tg iter tg1 iter1 elt : Expr} {ifs ifs1 : List Expr} {scope : Scope} {own : List (Str × Nat)} {vs vs1 : List Nat} {S S0 S1 S' Sn Sw : List SV} {w : SV} {pos : Pos} {α β γ : Type} {en : α → D} {en1 : β → D} {em : γ → D} {xs : List α} {S3 : α → List SV} {S4 : α → β → List SV} {p : α → Bool} {q : α → β → Bool} {ys : α → List β} {f : α → β → γ}
def tIU (c : CC) (tg iter : Expr) : TI := fun σ H R => ∃ S ds S1, IX c tg iter S ds S1 ∧ tI S ds S1 σ H R
theorem pi_U {X : Cx} (hX : c.In X) : PI X tg iter (tIU c tg iter) := ⟨fun pins s σ H R I ⟨S, ds, S1, h, q⟩ => (h X hX).run pins s σ H R I q⟩
structure Lc2X (c : CC) (elt tg iter tg1 iter1 : Expr) (ifs ifs1 : List Expr) (scope : Scope) (own : List (Str × Nat)) (S : List SV) (w : SV) (S' : List SV) : Prop where
  nd : c.N.Nodup
  ok : BlkOk c.N c.sc scope own
  hs : ∀ env x, foldedSetIterable iter env x = pure x
  hs1 : ∀ env x, foldedSetIterable iter1 env x = pure x
  rd : ∃ (wi : TI) (vs1 : List Nat), (∀ i ∈ vs1, i ∈ own.map (·.2)) ∧ (∀ X, c.In X → PI X tg iter wi) ∧ ∀ σ H Q, tD S w S' σ H Q → tLc2 wi (tGU (c.blk scope) tg (own.map (·.2))) (tTs (c.blk scope) ifs) (tIU (c.blk scope) tg1 iter1) (tGU (c.blk scope) tg1 vs1) (tTs (c.blk scope) ifs1) (tDU (c.blk scope) elt) (own.map (·.2)) vs1 σ H Q
theorem Lc2X.ex (h : Lc2X c elt tg iter tg1 iter1 ifs ifs1 scope own S w S') : EX c (.ListComp elt [⟨tg, iter, ifs, 0⟩, ⟨tg1, iter1, ifs1, 0⟩] scope pos) S w S' := fun X hX =>
  let ⟨_, _, hv, hi, rd⟩ := h.rd
  (pe_lc2 hX.calm (by rw [hX.N]; exact h.nd) (hi X hX) (by rw [hX.N, hX.sc]; exact h.ok) hv (fun s H C cl fp => pg_U (hX.blk s H scope cl C fp)) (fun s H C cl fp => pts_U (hX.blk s H scope cl C fp)) (fun s H C cl fp => pi_U (hX.blk s H scope cl C fp)) (fun s H C cl fp => pg_U (hX.blk s H scope cl C fp)) (fun s H C cl fp => pts_U (hX.blk s H scope cl C fp)) (fun s H C cl fp => pe_U (hX.blk s H scope cl C fp)) (h.hs _) h.hs1).wk rd
theorem Lc2X.w1 {j : Nat} {y : Str} {py spos : Pos} (h : Lc2X c elt tg iter tg1 iter1 ifs ifs1 scope own S w S') (hj : j < S'.length) (hy : c.N[j]? = some y := by rfl) (hyl : c.sc.names.lookup y = some .local := by rfl) (hl : (py.line == pos.line) = true := by rfl) (hll : (pos.line == spos.line) = true := by rfl)
    (hown : (scope.names.any fun (n, k) => n == y && (k == .local || k == .cell)) = false := by decide +kernel) (hk : c.sc.kind = .function := by rfl) : W1 c (.Assign [.Name y py] (.ListComp elt [⟨tg, iter, ifs, 0⟩, ⟨tg1, iter1, ifs1, 0⟩] scope pos) spos) S fun o => o = .nx (S'.set j w) := fun X hX =>
  let ⟨_, _, hv, hi, rd⟩ := h.rd
  (ps_setLc2 (i := j) (y := y) (py := py) (spos := spos) hX.calm (by rw [hX.N]; exact h.nd) (by rw [hX.N]; exact hy) (by rw [hX.sc]; exact hyl) (sw_true (by rw [hX.sc]; exact hk) (by rw [hX.sc]; exact hyl) hl hown) (hi X hX) (by rw [hX.N, hX.sc]; exact h.ok) hv (fun s H C cl fp => pg_U (hX.blk s H scope cl C fp)) (fun s H C cl fp => pts_U (hX.blk s H scope cl C fp)) (fun s H C cl fp => pi_U (hX.blk s H scope cl C fp)) (fun s H C cl fp => pg_U (hX.blk s H scope cl C fp)) (fun s H C cl fp => pts_U (hX.blk s H scope cl C fp)) (fun s H C cl fp => pe_U (hX.blk s H scope cl C fp)) (h.hs _) h.hs1).wk
    fun D σ H ⟨B, G, s, f⟩ => rd σ H _ ⟨B, G, s, fun v H' G' x s' => f.nx _ G' _ H' rfl x (s'.put hj)⟩
theorem Lc2X.bor [Im em] {xs : List γ} (h : Lc2X c elt tg iter tg1 iter1 ifs ifs1 scope own (frzS S) (.lst (xs.map em)) S1) : Lc2X c elt tg iter tg1 iter1 ifs ifs1 scope own S (.lst (xs.map em)) S :=
  ⟨h.nd, h.ok, h.hs, h.hs1, let ⟨wi, v1, hv, hi, rd⟩ := h.rd; ⟨wi, v1, hv, hi, fun σ H Q q => rd σ H Q (bor_rdL (Im.all em xs) q)⟩⟩
theorem wipe_sub {σ : L2.St} (h : ∀ i ∈ vs1, i ∈ vs) : wipe (wipe σ vs1) vs = wipe σ vs := by
  apply List.ext_getElem?
  intro i
  rw [wipe_get, wipe_get, wipe_get, wipe_length]
  by_cases hi : i ∈ vs
  · rw [if_pos hi, if_pos hi]
  · rw [if_neg hi, if_neg hi, if_neg (fun h1 => hi (h i h1))]
structure PureLc2 (cb : CC) (tg tg1 iter1 elt : Expr) (ifs ifs1 : List Expr) (vs vs1 : List Nat) (Sw : List SV) (en : α → D) (en1 : β → D) (em : γ → D) (S3 : α → List SV) (S4 : α → β → List SV) (p : α → Bool) (ys : α → List β) (q : α → β → Bool) (f : α → β → γ) (x : α) : Prop where
  g : GX cb tg vs Sw (.val (en x)) (S3 x)
  t : TsX cb ifs (S3 x) (p x) (S3 x)
  i1 : p x = true → IX cb tg1 iter1 (S3 x) ((ys x).map en1) (S3 x)
  g1 : p x = true → ∀ z ∈ ys x, GX cb tg1 vs1 (wipeS (S3 x) vs1) (.val (en1 z)) (S4 x z)
  t1 : p x = true → ∀ z ∈ ys x, TsX cb ifs1 (S4 x z) (q x z) (S4 x z)
  e : p x = true → ∀ z ∈ ys x, q x z = true → EX cb elt (S4 x z) (.val (em (f x z))) (S4 x z)
def lc2 (xs : List α) (p : α → Bool) (ys : α → List β) (q : α → β → Bool) (f : α → β → γ) : List γ := (xs.filter p).flatMap fun x => ((ys x).filter (q x)).map (f x)
theorem lc2_snoc (xs : List α) (x : α) : lc2 (xs ++ [x]) p ys q f = lc2 xs p ys q f ++ if p x = true then ((ys x).filter (q x)).map (f x) else [] := by
  unfold lc2
  rw [List.filter_append, List.flatMap_append]
  by_cases h : p x = true <;> simp [h]
theorem lc2_take_le (i : Nat) : (lc2 (xs.take i) p ys q f).length ≤ (lc2 xs p ys q f).length := by
  conv => rhs; rw [← List.take_append_drop i xs]
  unfold lc2
  rw [List.filter_append, List.flatMap_append, List.length_append]; omega
theorem lc2_turn_le {i : Nat} {x : α} (hx : xs[i]? = some x) (hp : p x = true) : (lc2 (xs.take i) p ys q f).length + (((ys x).filter (q x)).map (f x)).length ≤ (lc2 xs p ys q f).length := by
  have := lc2_take_le (xs := xs) (p := p) (ys := ys) (q := q) (f := f) (i + 1)
  rw [take_succ hx, lc2_snoc, if_pos hp, List.length_append] at this
  exact this
theorem lc2x_P (nd : c.N.Nodup) (ok : BlkOk c.N c.sc scope own) (hv : ∀ i ∈ vs1, i ∈ own.map (·.2)) (hi : IX c tg iter S (xs.map en) S0) (hz : (lc2 xs p ys q f).length ≤ sizeLine) (h : ∀ x ∈ xs, PureLc2 (c.blk scope) tg tg1 iter1 elt ifs ifs1 (own.map (·.2)) vs1 Sw en en1 em S3 S4 p ys q f x)
    (hS : wipeS S0 (own.map (·.2)) = Sw := by rfl) (hw : ∀ x, wipeS (S3 x) (own.map (·.2)) = Sw := by intro _; rfl) (hw1 : ∀ x z, wipeS (S4 x z) vs1 = wipeS (S3 x) vs1 := by intro _ _; rfl) (hw2 : ∀ x, wipeS (wipeS (S3 x) vs1) (own.map (·.2)) = Sw := by intro _; rfl)
    (hs : ∀ env x, foldedSetIterable iter env x = pure x := by intro _ _; rfl) (hs1 : ∀ env x, foldedSetIterable iter1 env x = pure x := by intro _ _; rfl) :
    Lc2X c elt tg iter tg1 iter1 ifs ifs1 scope own S (.lst ((lc2 xs p ys q f).map em)) (unwipe S0 Sw (own.map (·.2))) := by
  refine ⟨nd, ok, hs, hs1, _, vs1, hv, hi, ?_⟩
  generalize hvs : own.map (·.2) = vs at *
  rintro σ H Q ⟨B, G, st, k⟩
  refine ⟨B, G, st, fun J H1 G1 x s1 wk D hD => ?_⟩
  have s1' : Stt B G1 H1 Sw (wipe σ vs) := hS ▸ s1.wipe vs
  refine ⟨fun i m H' => m = xs.length - i ∧ i ≤ xs.length ∧ ∃ G', Ext B G G' ∧ Same G1 G' ∧ Stt B G' H' (.lst ((lc2 (xs.take i) p ys q f).map em) :: Sw) (some (.ref D) :: L2.wipe σ vs), ⟨xs.length, by simp, Nat.zero_le _, G1, x, Same.refl _, s1'.newLst hD .nil (Nat.zero_le _)⟩, ?_⟩
  rintro i m H' ⟨rfl, hi, G', x', g', s'⟩
  have gH : Same G1 H' := g'.trans s'.g
  have wl := wk.line
  rw [List.length_map] at wl
  by_cases hlt : i < xs.length
  · have hxi : xs[i]? = some xs[i] := by simp [hlt]
    generalize hx0 : xs[i] = x0 at hxi
    have hm := List.mem_of_getElem? hxi
    have hp := h x0 hm
    refine .inr ⟨wk.goes i H' (by rw [List.length_map]; exact hlt) gH, fun H2 => ∃ G2, Ext B G G2 ∧ Same G1 G2 ∧ Stt B G2 H2 (.lst ((lc2 (xs.take (i + 1)) p ys q f).map em) :: Sw) (some (.ref D) :: L2.wipe σ vs), fun H2 q => ⟨xs.length - (i + 1), by omega, rfl, hlt, q⟩, fun xv H3 y => ?_⟩
    obtain ⟨G3, x3, s3⟩ := wk.yields i (en x0) xv H' H3 (by rw [List.getElem?_map, hxi]; rfl) gH y B G' _ _ g' s'
    obtain ⟨B1, s3', back⟩ := s3.swap.bracket
    refine ⟨Sw, .val (en x0), S3 x0, hp.g, B1, G3, s3', fun σ4 H4 G4 x4 hw4 s4 => ⟨hw4.trans (wipe_wipe _ _), ?_⟩⟩
    rw [wipe_wipe] at hw4
    refine tTs_run hp.t s4 fun H5 G5 x5 s5 => ?_
    by_cases hpx : p x0 = true
    · rw [hpx]
      refine iteT ?_
      refine ⟨S3 x0, (ys x0).map en1, S3 x0, hp.i1 hpx, B1, G5, s5, fun J1 H6 G6 x6 s6 wk1 => ?_⟩
      obtain ⟨xb, sb⟩ := back G6 H6 _ _ ((x4.trans x5).trans x6) s6
      have wl1 := wk1.line
      rw [List.length_map] at wl1
      have tl := lc2_turn_le (p := p) (ys := ys) (q := q) (f := f) hxi hpx
      obtain ⟨G6', x6', s6'⟩ := sb.onTail (T := wipeS (S3 x0) vs1) (τ := wipe σ4 vs1) fun B2 q => ⟨_, Ext.refl _ _, q.wipe vs1⟩
      refine ⟨fun j k H' => k = (ys x0).length - j ∧ j ≤ (ys x0).length ∧ ∃ G2, Ext B G G2 ∧ Same G1 G2 ∧ Same G6 G2 ∧ Stt B G2 H' (.lst ((lc2 (xs.take i) p ys q f ++ (((ys x0).take j).filter (q x0)).map (f x0)).map em) :: wipeS (S3 x0) vs1) (some (.ref D) :: wipe σ4 vs1),
        ⟨(ys x0).length, by simp, Nat.zero_le _, G6', ((x'.trans x3).trans xb).trans x6', ((g'.trans x3.1).trans xb.1).trans x6'.1, x6'.1, by simpa using s6'⟩, ?_⟩
      rintro j k H7 ⟨rfl, hj, G7, x7, g7, g67, s7⟩
      have gH7 : Same G6 H7 := g67.trans s7.g
      by_cases hlt1 : j < (ys x0).length
      · have hzj : (ys x0)[j]? = some (ys x0)[j] := by simp [hlt1]
        generalize hz0 : (ys x0)[j] = z0 at hzj
        have hm1 := List.mem_of_getElem? hzj
        refine .inr ⟨wk1.goes j H7 (by rw [List.length_map]; exact hlt1) gH7, fun H2 => ∃ G2, Ext B G G2 ∧ Same G1 G2 ∧ Same G6 G2 ∧ Stt B G2 H2 (.lst ((lc2 (xs.take i) p ys q f ++ (((ys x0).take (j + 1)).filter (q x0)).map (f x0)).map em) :: wipeS (S3 x0) vs1) (some (.ref D) :: wipe σ4 vs1),
          fun H2 q => ⟨(ys x0).length - (j + 1), by omega, rfl, hlt1, q⟩, fun yv H8 y8 => ?_⟩
        obtain ⟨G8, x8, s8⟩ := wk1.yields j (en1 z0) yv H7 H8 (by rw [List.getElem?_map, hzj]; rfl) gH7 y8 B G7 _ _ g67 s7
        obtain ⟨B2, s8', back2⟩ := s8.swap.bracket
        refine ⟨wipeS (S3 x0) vs1, .val (en1 z0), S4 x0 z0, hp.g1 hpx z0 hm1, B2, G8, s8', fun σ5 H9 G9 x9 hw9 s9 => ⟨hw9.trans (wipe_wipe _ _), ?_⟩⟩
        rw [wipe_wipe] at hw9
        have hl : ((ys x0).take (j + 1)).filter (q x0) = ((ys x0).take j).filter (q x0) ++ (if q x0 z0 = true then [z0] else []) := by
          rw [take_succ hzj, List.filter_append]
          by_cases hq : q x0 z0 = true <;> simp [hq]
        have sub : ((((ys x0).take (j + 1)).filter (q x0))).length ≤ ((ys x0).filter (q x0)).length := ((List.take_sublist _ _).filter _).length_le
        refine tTs_run (hp.t1 hpx z0 hm1) s9 fun H10 G10 x10 s10 => ?_
        by_cases hq : q x0 z0 = true
        · rw [hq]
          refine iteT ?_
          refine ⟨S4 x0 z0, .val (em (f x0 z0)), S4 x0 z0, hp.e hpx z0 hm1 hq, B2, G10, s10, fun ev H11 G11 x11 s11 => ?_⟩
          obtain ⟨xc, sc⟩ := back2 G11 H11 _ _ ((x9.trans x10).trans x11) s11
          have re := s11.headV
          have sd : Stt B G11 H11 (.lst _ :: S4 x0 z0) (some (.ref D) :: σ5) := sc.swap.tail
          obtain ⟨a, us, ea, eu, ru, _, up⟩ := sd.updL (i := 0) rfl
          cases ea
          rw [if_pos hq] at hl
          have hlen : (lc2 (xs.take i) p ys q f ++ (((ys x0).take j).filter (q x0)).map (f x0)).length < sizeLine := by
            rw [hl] at sub
            simp only [List.length_append, List.length_map, List.length_singleton] at sub tl ⊢
            omega
          refine ⟨us, eu, by rw [ru.length, List.length_map]; exact hlen, ?_⟩
          have s12 := up (us ++ [ev]) ((lc2 (xs.take i) p ys q f ++ (((ys x0).take (j + 1)).filter (q x0)).map (f x0)).map em) (by
            rw [hl, List.map_append (l₁ := List.filter _ _), ← List.append_assoc, List.map_append (l₂ := List.map (f x0) [z0])]
            exact ru.append (.cons re .nil)) (by
            rw [hl]
            simp only [List.length_append, List.length_map, List.length_singleton, List.map_append] at hlen ⊢
            omega)
          obtain ⟨G12, x12, s13⟩ := s12.onTail (T := wipeS (S3 x0) vs1) (τ := wipe σ4 vs1) fun B3 q => ⟨_, Ext.refl _ _, by
            have := q.wipe vs1
            rw [hw9, hw1] at this
            exact this⟩
          exact ⟨G12, ((x7.trans x8).trans xc).trans x12, ((g7.trans x8.1).trans xc.1).trans x12.1, ((g67.trans x8.1).trans xc.1).trans x12.1, s13⟩
        · have hq : q x0 z0 = false := by simpa using hq
          rw [hq]
          refine iteF ?_
          obtain ⟨xc, sc⟩ := back2 G10 H10 _ _ (x9.trans x10) s10
          rw [hq, if_neg (by simp)] at hl
          rw [List.append_nil] at hl
          obtain ⟨G12, x12, s13⟩ := sc.onTail (T := wipeS (S3 x0) vs1) (τ := wipe σ4 vs1) fun B3 q => ⟨_, Ext.refl _ _, by
            have := q.wipe vs1
            rw [hw9, hw1] at this
            exact this⟩
          exact ⟨G12, ((x7.trans x8).trans xc).trans x12, ((g7.trans x8.1).trans xc.1).trans x12.1, ((g67.trans x8.1).trans xc.1).trans x12.1, by rw [hl]; exact s13⟩
      · obtain rfl : j = (ys x0).length := by omega
        refine .inl ⟨by have := wk1.stops H7 gH7; rwa [List.length_map] at this, ?_⟩
        obtain ⟨G8, x8, s8⟩ := s7.onTail (T := Sw) (τ := wipe σ vs) fun B3 qq => ⟨_, Ext.refl _ _, by
          have := qq.wipe vs
          rw [wipe_sub (fun i hi => hvs ▸ hv i hi), hw4, hw2] at this
          exact this⟩
        refine ⟨G8, x7.trans x8, g7.trans x8.1, ?_⟩
        rw [take_succ hxi, lc2_snoc, if_pos hpx]
        rwa [List.take_length] at s8
    · have hpx : p x0 = false := by simpa using hpx
      rw [hpx]
      refine iteF ?_
      obtain ⟨xb, sb⟩ := back G5 H5 _ _ (x4.trans x5) s5
      obtain ⟨G6, x6, s6⟩ := sb.onTail (T := Sw) (τ := wipe σ vs) fun B2 q => ⟨_, Ext.refl _ _, by
        have := q.wipe vs
        rw [hw4, hw] at this
        exact this⟩
      refine ⟨G6, ((x'.trans x3).trans xb).trans x6, ((g'.trans x3.1).trans xb.1).trans x6.1, ?_⟩
      rw [take_succ hxi, lc2_snoc, hpx, if_neg (by simp), List.append_nil]
      exact s6
  · obtain rfl : i = xs.length := by omega
    refine .inl ⟨by have := wk.stops H' gH; rwa [List.length_map] at this, ?_⟩
    obtain ⟨G6, x6, s6⟩ := s'.onTail (T := unwipe S0 Sw vs) (τ := σ) fun B2 q => ⟨G', Ext.refl _ _, q.alter (wipe_length _ _).symm (unwipe_length _ _ _) fun j w e => by
      rcases unwipe_get S0 Sw vs j w e with ⟨h1, h2⟩ | ⟨h1, h2⟩
      · exact .inr (.inl ⟨h2, by rw [wipe_get, if_neg h1]⟩)
      · rcases h2 with q | ⟨d, q, e0⟩
        · exact .inl q
        · obtain ⟨v, ev, r⟩ := s1.val e0
          exact .inr (.inr ⟨d, v, q, ev, r.mono g'⟩)⟩
    rw [List.take_length] at s6
    exact k _ H' G6 (x'.trans x6) s6
end
end DL

/-! DL, part y: comprehensions that change what they run in; more built-in functions. -/
namespace DL
open PySem PySem.Spec PyProof.Rows L2
section
variable {α β τ : Type}
/-- a comprehension whose test and element change a state -/
def lcS (p : τ → α → Bool × τ) (f : τ → α → β × τ) : τ → List α → List β × τ
  | t, [] => ([], t)
  | t, x :: xs => bif (p t x).1 then ((f (p t x).2 x).1 :: (lcS p f (f (p t x).2 x).2 xs).1, (lcS p f (f (p t x).2 x).2 xs).2) else lcS p f (p t x).2 xs
def LokS (p : τ → α → Bool × τ) (f : τ → α → β × τ) (ok : τ → α → Prop) : τ → List α → Prop
  | _, [] => True
  | t, x :: xs => ok t x ∧ LokS p f ok (bif (p t x).1 then (f (p t x).2 x).2 else (p t x).2) xs
variable {p : τ → α → Bool × τ} {f : τ → α → β × τ} {ok : τ → α → Prop}
theorem lcS_app : ∀ (xs ys : List α) (t : τ), lcS p f t (xs ++ ys) = ((lcS p f t xs).1 ++ (lcS p f (lcS p f t xs).2 ys).1, (lcS p f (lcS p f t xs).2 ys).2)
  | [], ys, t => rfl
  | x :: xs, ys, t => by
    rw [List.cons_append]
    show (bif (p t x).1 then _ else _) = _
    have e : lcS p f t (x :: xs) = bif (p t x).1 then ((f (p t x).2 x).1 :: (lcS p f (f (p t x).2 x).2 xs).1, (lcS p f (f (p t x).2 x).2 xs).2) else lcS p f (p t x).2 xs := rfl
    rw [e, lcS_app xs ys, lcS_app xs ys]
    cases (p t x).1 <;> rfl
theorem LokS.at : ∀ {xs : List α} {t : τ}, LokS p f ok t xs → ∀ {i : Nat} {x : α}, xs[i]? = some x → ok (lcS p f t (xs.take i)).2 x
  | y :: xs, t, h, 0, x, e => by cases (show some y = some x from e); exact h.1
  | y :: xs, t, h, i + 1, x, e => by
    have := LokS.at h.2 (i := i) (x := x) (by simpa using e)
    rw [List.take_succ_cons]
    unfold lcS
    cases hp : (p t y).1 <;> rw [hp] at this <;> exact this
theorem LokS.of_inv (I : τ → Prop) : ∀ {xs : List α} {t : τ}, I t → (∀ t x, x ∈ xs → I t → ok t x ∧ I (bif (p t x).1 then (f (p t x).2 x).2 else (p t x).2)) → LokS p f ok t xs
  | [], _, _, _ => trivial
  | x :: xs, t, h, k => ⟨(k t x (by simp) h).1, LokS.of_inv I (k t x (by simp) h).2 fun t y hy => k t y (List.mem_cons_of_mem _ hy)⟩
end
section
variable {c : CC} {tg iter elt : Expr} {ifs : List Expr} {scope : Scope} {own : List (Str × Nat)} {S S0 : List SV} {pos : Pos} {α β τ : Type} {en : α → D} {em : β → D} {xs : List α}
structure PureLcS (cb : CC) (tg elt : Expr) (ifs : List Expr) (vs : List Nat) (en : α → D) (em : β → D) (Sw : τ → List SV) (S3 : τ → α → List SV) (p : τ → α → Bool × τ) (f : τ → α → β × τ) (u : τ) (x : α) : Prop where
  g : GX cb tg vs (Sw u) (.val (en x)) (S3 u x)
  t : TsX cb ifs (S3 u x) (p u x).1 (S3 (p u x).2 x)
  e : (p u x).1 = true → EX cb elt (S3 (p u x).2 x) (.val (em (f (p u x).2 x).1)) (S3 (f (p u x).2 x).2 x)
theorem lcx_S {Sw : τ → List SV} {S3 : τ → α → List SV} {p : τ → α → Bool × τ} {f : τ → α → β × τ} {ok : τ → α → Prop} {t0 : τ} (nd : c.N.Nodup) (okb : BlkOk c.N c.sc scope own) (hi : IX c tg iter S (xs.map en) S0) (hok : LokS p f ok t0 xs)
    (h : ∀ t x, x ∈ xs → ok t x → PureLcS (c.blk scope) tg elt ifs (own.map (·.2)) en em Sw S3 p f t x) (hS : wipeS S0 (own.map (·.2)) = Sw t0 := by rfl) (hw : ∀ t x, wipeS (S3 t x) (own.map (·.2)) = Sw t := by intro _ _; rfl) (hs : ∀ env x, foldedSetIterable iter env x = pure x := by intro _ _; rfl) :
    LcX c elt tg iter ifs scope own S (.lst ((lcS p f t0 xs).1.map em)) (unwipe S0 (Sw (lcS p f t0 xs).2) (own.map (·.2))) :=
  ⟨nd, okb, hs, _, hi, lc_reads (fun i acc S => acc = (lcS p f t0 (xs.take i)).1.map em ∧ S = Sw (lcS p f t0 (xs.take i)).2) ⟨Sw t0, by rw [hS]; exact Imp.refl _, by simp [lcS], by simp [lcS]⟩ (by
    rintro i d acc S hd _ ⟨rfl, rfl⟩
    obtain ⟨x, hx, rfl⟩ := map_get hd
    have hq := h _ x (List.mem_of_getElem? hx) (hok.at hx)
    have e1 : lcS p f t0 (xs.take (i + 1)) = ((lcS p f t0 (xs.take i)).1 ++ (lcS p f (lcS p f t0 (xs.take i)).2 [x]).1, (lcS p f (lcS p f t0 (xs.take i)).2 [x]).2) := by rw [take_succ hx, lcS_app]
    generalize lcS p f t0 (xs.take i) = r at hq e1 ⊢
    obtain ⟨acc, t⟩ := r
    refine ⟨S3 t x, hq.g, (p t x).1, _, hq.t, fun hp => ⟨_, _, hq.e hp, _, by rw [hw]; exact Imp.refl _, ?_⟩, fun hp => ⟨_, by rw [hw]; exact Imp.refl _, ?_⟩⟩
    · have : lcS p f t [x] = ([(f (p t x).2 x).1], (f (p t x).2 x).2) := by simp only [lcS, hp, cond_true]
      show _ = (lcS p f t0 (xs.take (i + 1))).1.map em ∧ _ = Sw (lcS p f t0 (xs.take (i + 1))).2
      rw [e1, this, List.map_append]; exact ⟨rfl, rfl⟩
    · have : lcS p f t [x] = ([], (p t x).2) := by simp only [lcS, hp, cond_false]
      show _ = (lcS p f t0 (xs.take (i + 1))).1.map em ∧ _ = Sw (lcS p f t0 (xs.take (i + 1))).2
      rw [e1, this, List.append_nil]; exact ⟨rfl, rfl⟩) fun acc S ⟨e1, e2⟩ => by rw [List.length_map, List.take_length] at e1 e2; exact ⟨e1, e2⟩⟩
end
end DL

/-! DL, part z: the source made and handed on; the law itself. -/
namespace DL
open PySem PySem.Spec PyProof.Rows L2
/-! ### a def that makes the source of the script -/
def spO (K : PySem.W.Frag) (f : List Int → Src) : SpG := fun vs H Q => ∃ a ns B G, vs = [.ref a] ∧ SqL K G a (ns.map V.int) ∧ ns.length ≤ sizeLine ∧ Same G H ∧ Same B H ∧ ∀ p q H' G', Ext B G G' → Stt B G' H' [.src p q (f ns)] [some (.ref p)] → Q (.ref p) H'
def spLaw (K : PySem.W.Frag) (n : Nat) : SpG := fun vs H Q => ∃ (a : Addr) (ns : List Int), ns.length ≤ n ∧ vs = [.ref a] ∧ SqL K H a (ns.map V.int) ∧ ∀ H', Q (.bl true) H'
section
variable {P : Program} {w : World} {K : PySem.W.Frag} {mg : Str → Option Value} {base : Heap}
theorem ok_O {x qual : Str} {params : Arguments} {body : List Stmt} {scope : Scope} {f : Addr} {fd : FuncData} {N : List Str} {y : Str} {k : Nat} {r : List Int → Src} (F : FunD K x qual params body scope [] [] f fd) (S : FnScope N [y] scope)
    (h : ∀ ns, ns.length ≤ sizeLine → WS (dC P w K mg base N scope k) body (.pr (scrP K ns) :: List.replicate (N.length - 1) SV.un) fun o => ∃ S' p q, o = .rt (.src p q (r ns)) S') : FnG P w K mg base (k + 1) f fd [y] (spO K r) := by
  refine fnG_of F S (fun vs H Q ⟨a, ns, B, G, e, _⟩ => by rw [e]; rfl) fun cdv A outer s H vs Q hr hg ⟨a, ns, B, G, e, sq, hl, g, b, kk⟩ => ?_
  subst e
  refine ⟨_, h ns hl _ (in_def hr hg), B, G, ?_, ⟨fun S' G' σ' H' p _ _ => ?_, fun w' S' v' G' σ' H' p x s' => ?_, fun S' G' σ' H' p _ _ => ?_, fun S' G' σ' H' p _ _ => ?_⟩⟩
  · unfold L2.start
    exact Stt.pad ((Stt.mk0 g b).pushP (v := .ref a) (q := scrP K ns) fun G' g' => ⟨a, rfl, SqL.mono g' sq, hl⟩) (N.length - 1)
  · obtain ⟨_, _, _, e⟩ := p; cases e
  · obtain ⟨_, p, q, e⟩ := p
    cases e
    have s2 := s'.headOn
    obtain ⟨fp, o, _⟩ := id s2.own
    obtain ⟨e1, _⟩ := o 0 _ _ rfl rfl
    cases e1
    exact kk p q H' G' x s2
  · obtain ⟨_, _, _, e⟩ := p; cases e
  · obtain ⟨_, _, _, e⟩ := p; cases e
theorem ok_law {x qual : Str} {params : Arguments} {body : List Stmt} {scope : Scope} {f : Addr} {fd : FuncData} {N : List Str} {y : Str} {k n : Nat} (F : FunD K x qual params body scope [] [] f fd) (S : FnScope N [y] scope) (hn : n ≤ sizeLine)
    (h : ∀ ns, ns.length ≤ n → WS (dC P w K mg base N scope k) body (.pr (scrP K ns) :: List.replicate (N.length - 1) SV.un) fun o => ∃ S', o = .rt (.val (.bool true)) S') : FnG P w K mg base (k + 1) f fd [y] (spLaw K n) := by
  refine fnG_of F S (fun vs H Q ⟨a, ns, _, e, _⟩ => by rw [e]; rfl) fun cdv A outer s H vs Q hr hg ⟨a, ns, hl, e, sq, kk⟩ => ?_
  subst e
  refine ⟨_, h ns hl _ (in_def hr hg), H, H, ?_, ⟨fun S' G' σ' H' p _ _ => ?_, fun w' S' v' G' σ' H' p x s' => ?_, fun S' G' σ' H' p _ _ => ?_, fun S' G' σ' H' p _ _ => ?_⟩⟩
  · unfold L2.start
    exact Stt.pad ((Stt.mk0 (Same.refl _) (Same.refl _)).pushP (v := .ref a) (q := scrP K ns) fun G' g' => ⟨a, rfl, SqL.mono g' sq, Nat.le_trans hl hn⟩) (N.length - 1)
  · obtain ⟨_, e⟩ := p; cases e
  · obtain ⟨_, e⟩ := p
    cases e
    have := s'.headV
    cases this
    exact kk H'
  · obtain ⟨_, e⟩ := p; cases e
  · obtain ⟨_, e⟩ := p; cases e
end
section
variable {c : CC} {e a b t : Expr} {es sts : List Stmt} {S S1 S2 : List SV} {pos p pos2 apos cpos py : Pos} {P : Oc → Prop} {k : Nat} {ps : List Str} {x y : Str} {i : Nat} {ns : List Int} {f : List Int → Src}
/-- y = make(script) -/
theorem ws_open (nd : c.N.Nodup) (C : Callee c.P c.w c.K c.mg c.base x k ps (spO c.K f)) (ha : EX c e S (.pr (scrP c.K ns)) S) (kk : ∀ p q, WS c sts (S.set i (.src p q (f ns))) P) (hi : i < S.length) (hk : k ≤ c.k) (hN : c.N[i]? = some y := by rfl) (hl : Loc c.lc y := by first | exact Or.inl rfl | exact Or.inr rfl)
    (hg : GlC c x := by rfl) (hdb : (x == ("__debug__" : Str)) = false := by decide) (he : ∀ env, starEach [e] env = (false, eval e env) :: starEach [] env := by intro _; rfl) (hpl : ∀ env pos, (backTo pos (starEach [] env)).any (·.1) = false := by intro _ _; rfl)
    (hs : ∀ env : Env, env.scope = c.sc → swapsWith (.Call (.Name x p) [e] [] cpos) (some (.Name y py)) pos.line env = pure false := by intro _ _; rfl) : WS c (.Assign [.Name y py] (.Call (.Name x p) [e] [] cpos) pos :: sts) S P := by
  refine ws_cons fun X hX => ?_
  obtain ⟨l1, l2⟩ := hX.loc y hl
  have ee := hX.sc
  refine (ps_set (i := i) (by rw [hX.N]; exact nd) (by rw [hX.N]; exact hN) (by rw [ee]; exact l1) (pe_G hX C hk hg (pa_cons (ha X hX) pa_nil (he _)) hdb (he _) (hpl _ _)) (hs _ ee) (by rw [ee]; exact l2)).wk fun D σ H ⟨B, G, st, fi⟩ => ?_
  refine ⟨B, G, st, fun v H1 G1 x1 s1 => ?_⟩
  obtain ⟨av, ev, sq, hl⟩ := s1.headP
  subst ev
  refine ⟨av, ns, H1, G1, rfl, sq, hl, s1.g, Same.refl _, fun pa qa H' G' x2 s3 => ?_⟩
  obtain ⟨x4, s4⟩ := s1.tail.join s3 x2 fun a u q => q
  exact fi.nx (S.set i (.src pa qa (f ns))) G' _ H' (kk pa qa) (x1.trans x4) (s4.put hi)
/-! ### ends with the source -/
def RetS (pa qa : Addr) (W : SV) (s : Src) : Oc → Prop := fun o => ∃ S, o = .rt W (.src pa qa s :: S)
variable {ρ σ τ α : Type} {en : α → D} {u v : α} {kb : Bool} {pa qa : Addr}
theorem retS_ok {Wf : ρ → SV} {r : ρ × Src} {v : ρ} {s : Src} {S : List SV} (E : r = (v, s)) : RetS pa qa (Wf r.1) r.2 (.rt (Wf v) (.src pa qa s :: S)) := ⟨S, by rw [E]⟩
theorem retSE_ok {Sf : σ → List SV} {Wf : ρ → SV} {r : Except (ρ × Src) σ} {v : ρ} {s : Src} {S : List SV} (E : r = .error (v, s)) : NxtE Sf (fun q => RetS pa qa (Wf q.1) q.2) r (.rt (Wf v) (.src pa qa s :: S)) := ⟨(v, s), E, S, rfl⟩
theorem retS_up {Wf : ρ → SV} {r0 r : ρ × Src} {o : Oc} (E : r0 = r) (h : RetS pa qa (Wf r.1) r.2 o) : RetS pa qa (Wf r0.1) r0.2 o := E ▸ h
theorem retSE_up {Sf : σ → List SV} {Wf : ρ → SV} {r0 : Except (ρ × Src) σ} {r : ρ × Src} {w : SV} {S : List SV} (E : r0 = .error r) (h : RetS pa qa (Wf r.1) r.2 (.rt w S)) : NxtE Sf (fun q => RetS pa qa (Wf q.1) q.2) r0 (.rt w S) := ⟨r, E, h⟩
/-! ### ways that change the state -/
theorem ex_ifS {F : τ → List SV} {x y : τ} (hc : TX c t S kb S1) (ha : kb = true → EX c a S1 (.val (en u)) (F x)) (hb : kb = false → EX c b S1 (.val (en v)) (F y)) : EX c (.IfExp t a b pos) S (.val (en (cond kb u v))) (F (cond kb x y)) := by
  cases kb
  · exact ex_if (en := .un) hc (fun h => by cases h) hb
  · exact ex_if (en := .un) hc ha (fun h => by cases h)
theorem wx_andS {ka kb : Bool} {rest : List Expr} {F : τ → List SV} {x y : τ} (ha : TX c a S ka (F y)) (hb : ka = true → WX c (.BoolOp .And (b :: rest) pos) (F y) kb (F x)) : WX c (.BoolOp .And (a :: b :: rest) pos) S (ka && kb) (F (cond ka x y)) := by
  cases ka
  · exact wx_and ha (fun h => by cases h) fun _ => Imp.refl _
  · exact wx_and ha hb (fun h => by cases h)
theorem wx_orS {ka kb : Bool} {rest : List Expr} {F : τ → List SV} {x y : τ} (ha : TX c a S ka (F y)) (hb : ka = false → WX c (.BoolOp .Or (b :: rest) pos) (F y) kb (F x)) : WX c (.BoolOp .Or (a :: b :: rest) pos) S (ka || kb) (F (cond ka y x)) := by
  cases ka
  · exact wx_or ha hb (fun h => by cases h)
  · exact wx_or ha (fun h => by cases h) fun _ => Imp.refl _
end
end DL

/-! DL, part M a: stateful comprehensions as printed; own lists read at once; more built-in functions. -/
namespace DL
open PySem PySem.Spec PyProof.Rows L2
section
variable {α β τ : Type}
def mapS (f : τ → α → β × τ) : τ → List α → List β × τ
  | t, [] => ([], t)
  | t, x :: xs => ((f t x).1 :: (mapS f (f t x).2 xs).1, (mapS f (f t x).2 xs).2)
def LokM (f : τ → α → β × τ) (ok : τ → α → Prop) : τ → List α → Prop
  | _, [] => True
  | t, x :: xs => ok t x ∧ LokM f ok (f t x).2 xs
theorem mapS_lcS (f : τ → α → β × τ) : ∀ (xs : List α) (t : τ), lcS (fun t _ => (true, t)) f t xs = mapS f t xs
  | [], t => rfl
  | x :: xs, t => by
    show ((f t x).1 :: (lcS _ f (f t x).2 xs).1, (lcS _ f (f t x).2 xs).2) = _
    rw [mapS_lcS f xs]; rfl
theorem LokM.toS {f : τ → α → β × τ} {ok : τ → α → Prop} : ∀ {xs : List α} {t : τ}, LokM f ok t xs → LokS (fun t _ => (true, t)) f ok t xs
  | [], _, _ => trivial
  | _ :: _, _, h => ⟨h.1, h.2.toS⟩
theorem LokM.of_inv {f : τ → α → β × τ} {ok : τ → α → Prop} (I : τ → Prop) : ∀ {xs : List α} {t : τ}, I t → (∀ t x, x ∈ xs → I t → ok t x ∧ I (f t x).2) → LokM f ok t xs
  | [], _, _, _ => trivial
  | x :: xs, t, h, k => ⟨(k t x (by simp) h).1, LokM.of_inv I (k t x (by simp) h).2 fun t y hy => k t y (List.mem_cons_of_mem _ hy)⟩
end
section
variable {c : CC} {tg iter elt : Expr} {ifs : List Expr} {scope : Scope} {own : List (Str × Nat)} {S S0 : List SV} {pos : Pos} {α β τ : Type} {en : α → D} {em : β → D} {xs : List α}
theorem lcx_SP {Sw : τ → List SV} {S3 : τ → α → List SV} {p : τ → α → Bool × τ} {f : τ → α → β × τ} {ok : τ → α → Prop} {t0 : τ} {r : List β × τ} (er : r = lcS p f t0 xs) (nd : c.N.Nodup) (okb : BlkOk c.N c.sc scope own) (hi : IX c tg iter S (xs.map en) S0) (hok : LokS p f ok t0 xs)
    (h : ∀ t x, x ∈ xs → ok t x → GX (c.blk scope) tg (own.map (·.2)) (Sw t) (.val (en x)) (S3 t x) ∧ TsX (c.blk scope) ifs (S3 t x) (p t x).1 (S3 (p t x).2 x) ∧ ∀ t', t' = (p t x).2 → (p t x).1 = true → EX (c.blk scope) elt (S3 t' x) (.val (em (f t' x).1)) (S3 (f t' x).2 x))
    (hS : wipeS S0 (own.map (·.2)) = Sw t0 := by rfl) (hw : ∀ t x, wipeS (S3 t x) (own.map (·.2)) = Sw t := by intro _ _; rfl) (hs : ∀ env x, foldedSetIterable iter env x = pure x := by intro _ _; rfl) :
    LcX c elt tg iter ifs scope own S (.lst (r.1.map em)) (unwipe S0 (Sw r.2) (own.map (·.2))) := by
  subst er
  exact lcx_S nd okb hi hok (fun t x hx o => ⟨(h t x hx o).1, (h t x hx o).2.1, fun k => (h t x hx o).2.2 _ rfl k⟩) hS hw hs
theorem lcx_SM {Sw : τ → List SV} {S3 : τ → α → List SV} {f : τ → α → β × τ} {ok : τ → α → Prop} {t0 : τ} {r : List β × τ} (er : r = mapS f t0 xs) (nd : c.N.Nodup) (okb : BlkOk c.N c.sc scope own) (hi : IX c tg iter S (xs.map en) S0) (hok : LokM f ok t0 xs)
    (h : ∀ t x, x ∈ xs → ok t x → GX (c.blk scope) tg (own.map (·.2)) (Sw t) (.val (en x)) (S3 t x) ∧ EX (c.blk scope) elt (S3 t x) (.val (em (f t x).1)) (S3 (f t x).2 x))
    (hS : wipeS S0 (own.map (·.2)) = Sw t0 := by rfl) (hw : ∀ t x, wipeS (S3 t x) (own.map (·.2)) = Sw t := by intro _ _; rfl) (hs : ∀ env x, foldedSetIterable iter env x = pure x := by intro _ _; rfl) :
    LcX c elt tg iter [] scope own S (.lst (r.1.map em)) (unwipe S0 (Sw r.2) (own.map (·.2))) := by
  subst er
  rw [← mapS_lcS]
  exact lcx_S (p := fun t _ => (true, t)) nd okb hi hok.toS (fun t x hx o => ⟨(h t x hx o).1, ⟨rfl, rfl⟩, fun _ => (h t x hx o).2⟩) hS hw hs
end
section
variable {c : CC} {e a b : Expr} {es : List Expr} {S S1 S2 : List SV} {w : SV} {pos p py apos cpos : Pos} {x y : Str} {i k : Nat} {ps : List Str} {ds : List D} {pa qa : Addr} {s s' : Src}
theorem ex_callE {R : Src → List D → SV → Src → Prop} (C : Callee c.P c.w c.K c.mg c.base x k ps (spS R)) (ha : AV c es S ds S1) (hR : R s ds w s') (hN : c.N[i]? = some y := by rfl) (hv : Vis c.sc y := by first | exact Or.inl rfl | exact Or.inr (Or.inl rfl) | exact Or.inr (Or.inr rfl)) (hs : S1[i]? = some (SV.src pa qa s) := by rfl) (hs0 : ∃ s0, S[i]? = some (SV.src pa qa s0) := by exact ⟨_, rfl⟩) (hk : k ≤ c.k) (hg : GlC c x := by rfl) (hdb : (x == ("__debug__" : Str)) = false := by decide)
    (hyd : (y == ("__debug__" : Str)) = false := by decide) (hyc : (y == ("__classdict__" : Str)) = false := by decide) (hpl : ∀ env pos, (backTo pos (starEach es env)).any (·.1) = false := by intro _ _; rfl) : EX c (.Call (.Name x p) (.Name y py :: es) [] pos) S w (S1.set i (SV.src pa qa s')) :=
  ex_callS C hN hv ha hs hs0 hR hk hg hdb hyd hyc hpl
abbrev Src.popC (s : Src) : Src := { s with cells := s.cells.dropLast }
abbrev Src.setL (s : Src) (v : Int) : Src := { s with left := v }
abbrev Src.setM (s : Src) (v : Int) : Src := { s with mixed := v }
abbrev Src.setT (s : Src) (v : Int) : Src := { s with turn := v }
/-- data of unlike kinds -/
abbrev eD : D → D := fun d => d
def ReprD (d : D) : Prop := d.plain = true ∧ d.depth ≤ 60 ∧ ReprOk d
theorem ex_reprD {d : D} [Bt c] (h : EX c e S (.val d) S1) (h3 : ReprD d) (hg : GlC c "repr" := by rfl) (hs : ∀ env, starEach [e] env = (false, eval e env) :: starEach [] env := by intro _; rfl) : EX c (.Call (.Name "repr" p) [e] [] pos) S (.val (.str d.shown)) S1 := ex_repr h h3.1 h3.2.1 h3.2.2 hg hs
variable {α : Type} {en : α → D} {xs : List α} {j : Int}
/-! ### list(range(..)) -/
theorem ex_listR1 [Bt c] {p2 pos2 : Pos} (h : EX c e S (.val (.int j)) S1) (hj : RngOk j) (hg : GlC c "list" := by rfl) (hg2 : GlC c "range" := by rfl) (hs : ∀ env, starEach [e] env = (false, eval e env) :: starEach [] env := by intro _; rfl)
    (hs2 : ∀ env, starEach [Expr.Call (.Name "range" p2) [e] [] pos2] env = (false, eval (.Call (.Name "range" p2) [e] [] pos2) env) :: starEach [] env := by intro _; rfl) : EX c (.Call (.Name "list" p) [.Call (.Name "range" p2) [e] [] pos2] [] pos) S (.lst ((rng 0 j).map PyData.int)) S1 := fun X hX =>
  (pe_listRg hX.calm (hX.gl hg) (hX.mgN (Bt.no (c := c) "list" (by decide +kernel))) (prg_1 (hX.gl hg2) (hX.mgN (Bt.no (c := c) "range" (by decide +kernel))) (h X hX) (hs _)) (hs2 _)).wk fun σ H Q ⟨B, G, st, k⟩ => ⟨B, G, st, fun v H1 G1 x1 s1 => by
    have r := s1.headV
    cases r
    have w := hj.wide
    refine ⟨j, rfl, ⟨by omega, by omega, by omega, by omega, by have := hj; unfold RngOk at this; omega⟩, fun q hq => ?_⟩
    have e : rgV 0 j = (rng 0 j).map V.int := by unfold rgV rng rngN; rw [List.map_map]; rfl
    rw [e]
    exact k _ _ G1 x1 (s1.tail.newLst hq (RpA.ints _) (by rw [List.length_map, rng, rngN_length]; exact RngOk.line (i := 0) (show -8388608 ≤ (0 : Int) ∧ (0 : Int) ≤ 8388608 by decide) hj))⟩
theorem ex_listR2 [Bt c] {p2 pos2 : Pos} {i0 : Int} (h : EX c e S (.val (.int i0)) S1) (h2 : EX c a S1 (.val (.int j)) S2) (hi : RngOk i0) (hj : RngOk j) (hg : GlC c "list" := by rfl) (hg2 : GlC c "range" := by rfl) (hs : ∀ env, starEach [e, a] env = (false, eval e env) :: starEach [a] env := by intro _; rfl) (hs1 : ∀ env, starEach [a] env = (false, eval a env) :: starEach [] env := by intro _; rfl)
    (hp : ∀ env, (backTo pos2 (starEach [a] env)).any (·.1) = false := by intro _; rfl) (hs2 : ∀ env, starEach [Expr.Call (.Name "range" p2) [e, a] [] pos2] env = (false, eval (.Call (.Name "range" p2) [e, a] [] pos2) env) :: starEach [] env := by intro _; rfl) : EX c (.Call (.Name "list" p) [.Call (.Name "range" p2) [e, a] [] pos2] [] pos) S (.lst ((rng i0 j).map PyData.int)) S2 := fun X hX =>
  (pe_listRg hX.calm (hX.gl hg) (hX.mgN (Bt.no (c := c) "list" (by decide +kernel))) (prg_2 (hX.gl hg2) (hX.mgN (Bt.no (c := c) "range" (by decide +kernel))) (h X hX) (h2 X hX) (hs _) (hs1 _) (hp _)) (hs2 _)).wk fun σ H Q ⟨B, G, st, k⟩ => ⟨B, G, st, fun v H1 G1 x1 s1 => by
    obtain ⟨B1, s1', back⟩ := s1.bracket
    refine ⟨B1, G1, s1', fun v2 H2 G2 x2 s2 => ?_⟩
    obtain ⟨xb, sb⟩ := back G2 H2 _ _ x2 s2
    have r := sb.headV
    have r2 := s2.headV
    cases r; cases r2
    have w := hj.wide
    have w' := hi.wide
    refine ⟨i0, j, rfl, rfl, ⟨by omega, by omega, by omega, by omega, by have := hj; have := hi; unfold RngOk at *; omega⟩, fun q hq => ?_⟩
    have e : rgV i0 j = (rng i0 j).map V.int := by unfold rgV rng rngN; rw [List.map_map]; rfl
    rw [e]
    exact k _ _ G2 (x1.trans xb) (sb.tail.tail.newLst hq (RpA.ints _) (by rw [List.length_map, rng, rngN_length]; exact RngOk.line hi hj))⟩
theorem map_eraseIdx {β : Type} (f : α → β) : ∀ (l : List α) (n : Nat), (l.eraseIdx n).map f = (l.map f).eraseIdx n
  | [], _ => rfl
  | _ :: _, 0 => rfl
  | x :: l, n + 1 => by simp only [List.eraseIdx_cons_succ, List.map_cons, map_eraseIdx f l n]
/-! ### y.pop(j) -/
def delI (xs : List α) (j : Int) : List α := xs.eraseIdx (if 0 ≤ j then j.toNat else (j + xs.length).toNat)
theorem ex_popI [Inhabited α] (ha : EX c e S (.val (.int j)) S1) (hb : InB xs j) (hN : c.N[i]? = some y := by rfl) (hv : Vis c.sc y := by first | exact Or.inl rfl | exact Or.inr (Or.inl rfl) | exact Or.inr (Or.inr rfl)) (h0 : S[i]? = some (.lst (xs.map en)) := by rfl) (h1 : S1[i]? = some (.lst (xs.map en)) := by rfl)
    (hd : (y == ("__debug__" : Str)) = false := by decide) (hcd : (y == ("__classdict__" : Str)) = false := by decide) (hbs : ∀ env, attributeBase (.Name y py) "pop" env (eval (.Name y py) env) = eval (.Name y py) env := by intro _; rfl)
    (hf : ∀ env, ((backTo cpos (starEach [e] env)).all (fun x => !x.1) && (backToKw cpos (keywordEach [] env)).all (fun x => x.1.isSome) && decide ([e].length + ([] : List Keyword).length + (if ([] : List Keyword).isEmpty then 0 else 1) < 30)) = true := by intro _; rfl)
    (hl : (apos.endLine == cpos.line) = true := by rfl) (hs : ∀ env, starEach [e] env = (false, eval e env) :: starEach [] env := by intro _; rfl) (hp : ∀ env, (backTo cpos (starEach [] env)).any (·.1) = false := by intro _; rfl) :
    EX c (.Call (.Attribute (.Name y py) "pop" apos) [e] [] cpos) S (.val (en (nth xs j))) (S1.set i (.lst ((delI xs j).map en))) :=
  ex_mL PySem.F.slot_list_pop PySem.F.type_list_pop (fun X hX => mt_popAt) hN hv h0 (ex_arg1 ha hs) (fun B G H σ vs Q a hl st ea k => by
    obtain ⟨v, rfl⟩ : ∃ v, vs = [v] := match vs, hl with | [v], _ => ⟨v, rfl⟩
    have st : Stt B G H (.val _ :: S1) (some v :: σ) := st
    obtain ⟨a', us, e1, e2, r, z, up⟩ := st.tail.updL h1
    rw [ea] at e1; cases e1
    have rv := st.headV
    cases rv
    have hlu : us.length = xs.length := by rw [r.length, List.length_map]
    rw [List.length_map] at z
    have hz := sizeLine_eq
    have hb' := hb
    unfold InB at hb'
    obtain ⟨v, ev, rv⟩ := r.nth hb
    unfold atI at ev
    obtain ⟨kx, e3, e4⟩ := Option.bind_eq_some_iff.mp ev
    obtain ⟨e5, _⟩ := ixN_seq e3
    have ek : kx = if 0 ≤ j then j.toNat else (j + xs.length).toNat := by
      unfold ixN at e3
      rw [hlu] at e3
      split at e3
      · next h => rw [if_pos h]; split at e3 <;> simp_all
      · next h => rw [if_neg h]; split at e3 <;> simp_all
    refine ⟨a, us, j, kx, v, rfl, rfl, e2, by omega, by omega, e5, e4, ?_⟩
    have s2 := up (us.eraseIdx kx) ((delI xs j).map en) (by unfold delI; rw [← ek, map_eraseIdx]; exact r.eraseIdx kx) (by unfold delI; simp only [List.length_map]; have := List.length_eraseIdx_le xs (if 0 ≤ j then j.toNat else (j + ↑xs.length).toNat); omega)
    exact k _ _ G (Ext.refl _ _) (s2.push rv)) hd hcd hbs hf hl hs hp
/-! ### xs.index(x) -/
def rIndexE [DecidableEq α] (K : PySem.W.Frag) (en : α → D) (bb : Bool) (xs : List α) (x : α) : V → List V → Hp → VK → Prop := fun v vs H Q => ∃ G a y us, Same G H ∧ v = .ref a ∧ vs = [y] ∧ SeqAt K H bb a us ∧ RpA G us (xs.map en) ∧ Rp G y (en x) ∧ x ∈ xs ∧ Q (.int (xs.idxOf x : Nat)) H
variable [DecidableEq α] [En en] {z : α}
theorem index_items {X : Cx} (hX : c.In X) {pins : List (Addr × Obj)} {σ : L2.St} {H : Hp} {s : Shared} {G : Hp} {us : List V} {its : List Value} {y : V} {u : Value} (I : Inv X pins σ H s) (g : Same G H) (rv : Vals us its) (ra : RpA G us (xs.map en)) (ru : RelV y u) (ry : Rp G y (en z)) (hd : En.dp en ≤ 60) : PySem.SeqAt.ItemsEq X.A.in1 s its xs u z := by
  have hl : us.length = xs.length := by rw [ra.length, List.length_map]
  refine ⟨by rw [← rv.length, hl], fun j h1 h2 => ?_⟩
  have hj : (xs.map en)[j]? = some (en xs[j]) := by rw [List.getElem?_map, List.getElem?_eq_getElem h2]; rfl
  obtain ⟨vj, ev, rj⟩ := ra.get hj
  obtain ⟨uj, eu, relj⟩ := rv.get ev
  rw [List.getElem?_eq_getElem h1] at eu
  have eu := Option.some.inj eu
  obtain ⟨as, q1⟩ := Dp.reads I (en xs[j]) vj _ (rj.dp g (En.plain _)) relj
  obtain ⟨bs, q2⟩ := Dp.reads I (en z) y u (ry.dp g (En.plain _)) ru
  rw [eu, ← En.eqv (e := en) xs[j] z]
  have d1 := En.depth (e := en) xs[j]
  have hu := hX.units
  exact PySem.SeqAt.eqAt_plain _ _ _ _ _ _ _ _ q1 q2 (En.plain _) (En.plain _) (by show X.A.units + 1 + _ < cLine; have := Nat.min_le_left (en xs[j]).depth (en z).depth; omega)
end
end DL

/-! DL, part M b: dicts out of pairs; dicts sorted. -/
namespace DL
open PySem PySem.Spec PyProof.Rows L2
section
variable {c : CC} {e : Expr} {S S1 : List SV} {p pos : Pos} {κ β : Type} [DecidableEq κ] {ek : κ → D} {ev : β → D}
def dpairs (ps : List (κ × β)) : List (κ × β) := dmerge [] ps
theorem dpairs_length (ps : List (κ × β)) : (dpairs ps).length ≤ ps.length := by have := dmerge_length ps []; unfold dpairs; simpa using this
/-- the pairs, as they lie -/
theorem pairs_laid {X : Cx} {pins : List (Addr × Obj)} {σ : L2.St} {H G : Hp} {s : Shared} [Kt ek] (I : Inv X pins σ H s) (g : Same G H) : ∀ {ps : List (κ × β)} {us : List V} {its : List Value}, RpA G us (ps.map (eP ek ev)) → Vals us its →
    ∃ (Ts : List Addr) (vs : List V) (qs : List (List Key × Addr × Value)), its = Ts.map Value.ref ∧ Ts.length = ps.length ∧ qs.length = ps.length ∧ (∀ (j : Nat) (k : List Key) (b : Addr) (v : Value), qs[j]? = some (k, b, v) → ∃ T, Ts[j]? = some T ∧ PySem.PairAt s.heap T (.ref b) v) ∧
      KT H (((ps.map fun x => Kt.keys ek x.1)).zip vs) qs ∧ RpV G ((ps.map fun x => Kt.keys ek x.1).zip vs) (kvU ek ev ps)
  | [], _, _, r, v => by
    cases r; cases v
    exact ⟨[], [], [], rfl, rfl, rfl, fun j k b v h => by simp at h, .nil, .nil⟩
  | x :: ps, _, _, .cons r1 r2, .cons v1 v2 => by
    obtain ⟨Ts, vs, qs, e1, e2, e3, e4, e5, e6⟩ := pairs_laid I g r2 v2
    cases r1 with
    | @tup T zs _ eT zz rz =>
      cases rz with
      | cons rk rz =>
        cases rz with
        | cons rv rz =>
          cases rz
          rename_i vk vv
          obtain ⟨b, rfl, eb⟩ := Kt.kv rk
          cases v1
          obtain ⟨_, itz, rvz, o, ho, hc, n, hd⟩ := (show ObjOk X.prog X.w H s.heap T (.tup [.ref b, vv]) from I.hok T _ (g _ _ eT))
          cases rvz with
          | cons q1 q2 =>
            cases q2 with
            | cons q2 q3 =>
              cases q3
              cases q1
              rename_i wv
              refine ⟨T :: Ts, vv :: vs, (Kt.keys ek x.1, b, wv) :: qs, by rw [e1]; rfl, by simp [e2], by simp [e3], fun j k b' v h => ?_, ?_, ?_⟩
              · cases j with
                | zero =>
                  cases (show some (Kt.keys ek x.1, b, wv) = some (k, b', v) from h)
                  exact ⟨T, rfl, .inl ⟨o, ho, hc, n, hd⟩⟩
                | succ j => exact e4 j k b' v (by simpa using h)
              · exact .cons ⟨rfl, g _ _ eb, q2⟩ e5
              · exact .cons ⟨rfl, rv⟩ e6
theorem paired_mem {α β : Type} {F : α → β → Prop} : ∀ {l₁ : List α} {l₂ : List β}, Paired F l₁ l₂ → ∀ b ∈ l₂, ∃ a ∈ l₁, F a b
  | _, _, .nil, b, h => by cases h
  | _, _, .cons h t, b, hb => by
    rcases List.mem_cons.mp hb with rfl | hb
    · exact ⟨_, List.mem_cons_self, h⟩
    · obtain ⟨a, ha, f⟩ := paired_mem t b hb
      exact ⟨a, List.mem_cons_of_mem _ ha, f⟩
theorem dict_fold {H : Hp} : ∀ {kvs acc : List (List Key × V)} {qs a2 : List (List Key × Addr × Value)}, KT H acc a2 → KT H kvs qs → KT H (kvs.foldl (fun a p => putK a p.1 p.2) acc) (PySem.storedAllH a2 qs)
  | [], _, _, _, r, q => by cases q; exact r
  | (k, v) :: kvs, acc, _, a2, r, q => by
    cases q with
    | cons h t =>
      obtain ⟨h1, h2, h3⟩ := h
      rename_i y _
      obtain ⟨k', b, u⟩ := y
      cases h1
      exact dict_fold (acc := putK acc k v) (a2 := storedH a2 k b u) (r.put k h2 h3) t
theorem call_dictPU {X : Cx} (hX : c.In X) [Kt ek] (ps : List (κ × β)) : CallR X (.type "dict") (fun us H Q => ∃ G a ws, us = [.ref a] ∧ Same G H ∧ SqL X.K H a ws ∧ RpA G ws (ps.map (eP ek ev)) ∧ ∀ q ks, H q = none → RpV G ks (kvU ek ev (dpairs ps)) → Q (.ref q) (upd H q (.dT ks))) := by
  intro pins s σ H us vs Q I r h
  obtain ⟨G, a, ws, rfl, g, sq, ra, q⟩ := h
  rw [Vals.ref1 r]
  obtain ⟨its, rv, ⟨o, n, ho, hc, hdn, hdat⟩, hz⟩ := I.list sq
  obtain ⟨Ts, zs, qs, e1, e2, e3, e4, e5, e6⟩ := pairs_laid I g ra rv
  have hl : ws.length = ps.length := by rw [ra.length, List.length_map]
  have hu := hX.u1
  refine PySem.call_dict_pairsH (knd := tupleKind (mixKind X.prog X.w)) (ps := qs) (PySem.PairArg.list a its.toArray (fun j => Ts.getD j 0) (qs.map fun z => (Value.ref z.2.1, z.2.2))) (I.ok.hd hX.calm) (by show X.A.units + 1 + 1 < cLine; have := hX.units; omega)
    ⟨⟨o, n, ho, hc, hdn, hdat⟩, ?_, ?_⟩ ⟨by simp, ?_⟩ ?_ (by rw [List.length_map, e3, ← hl]; exact hz) ?_
  · rw [e1]; simp [e2, e3]
  · intro j k v hj
    rw [List.getElem?_map] at hj
    cases hq : qs[j]? with
    | none => rw [hq] at hj; cases hj
    | some z =>
      rw [hq] at hj
      cases hj
      obtain ⟨T, eT, pT⟩ := e4 j z.1 z.2.1 z.2.2 hq
      have eg : Ts.getD j 0 = T := by rw [List.getD_eq_getElem?_getD, eT]; rfl
      exact ⟨by rw [e1]; simp [eT, eg], by show PySem.PairAt _ (Ts.getD j 0) _ _; rw [eg]; exact pT⟩
  · intro i key v hi
    rw [PySem.PairRel, List.getElem?_map] at hi
    cases hq : qs[i]? with
    | none => rw [hq] at hi; cases hi
    | some z =>
      rw [hq] at hi
      cases hi
      exact ⟨z.1, z.2.1, rfl, rfl⟩
  · intro h' hk x hx
    obtain ⟨y, hy, e, hh, _⟩ := paired_mem e5 x hx
    exact key_of (I.kept (t' := s.toks) fun b o e => hk b o (Nat.ne_of_lt (Heap.lt_size e)) (by simp) e).hok (e ▸ hh)
  · intro h' tk dd kk
    have hlen : (dmerge [] (kvU ek ev ps)).length ≤ sizeLine := by
      have := dmerge_length (kvU ek ev ps) []
      rw [kvU_length] at this
      simp at this; omega
    have hm : (s.heap.objs.size == sysModules) = false := beq_eq_false_iff_ne.mpr (Nat.ne_of_gt I.big)
    have kt := dict_fold (Paired.nil : KT H [] []) e5
    have rp : RpV G ((((ps.map fun x => Kt.keys ek x.1)).zip zs).foldl (fun a p => putK a p.1 p.2) []) (kvU ek ev (dpairs ps)) := by
      have := e6.merge (us := []) (ks := []) .nil
      rw [dpairs, ← kvU_merge]; exact this
    have fr := I.hok.fresh (Nat.le_refl _)
    obtain ⟨qo, es, ep, hq, h2, h3, h4, _, h5⟩ := dd
    refine ⟨.ref s.heap.objs.size, _, I.laid (t' := tk) (o := .dT ((((ps.map fun x => Kt.keys ek x.1)).zip zs).foldl (fun a p => putK a p.1 p.2) [])) (fun b u e => kk b u (by simp) e) (Nat.le_refl _) ?_, rfl, q _ _ fr rp⟩
    exact ⟨by rw [rp.length, kvU_length]; exact Nat.le_trans (dpairs_length ps) (by rw [← hl]; exact hz), hm, _, kt.keeps fun c ys ec => (upd_ne (fun e => by rw [e, fr] at ec; cases ec)).trans ec, qo, es, ep, hq, h2, h3, h4, h5⟩
theorem ex_dictPU [Bt c] [Kt ek] {ps : List (κ × β)} (h : EX c e S (.val (eL (eP ek ev) ps)) S1) (hg : GlC c "dict" := by rfl) (hs : ∀ env, starEach [e] env = (false, eval e env) :: starEach [] env := by intro _; rfl) : EX c (.Call (.Name "dict" p) [e] [] pos) S (sU ek ev (dpairs ps)) S1 :=
  ex_callTy (w := sU ek ev (dpairs ps)) (ws := [.val (eL (eP ek ev) ps)]) (fun X hX => ⟨_, call_dictPU hX ps (ek := ek) (ev := ev), vra1 fun B G H S σ x Q st r k => by
    cases r with
    | lst e1 zz rv =>
      refine ⟨G, _, _, rfl, st.g, SqL.of (st.g _ _ e1), rv, fun q ks hq rk => k _ _ G (Ext.refl _ _) (st.newDt hq rk ?_)⟩
      rw [kvU_length]
      rw [List.length_map] at zz
      exact Nat.le_trans (dpairs_length ps) zz⟩) (ex_arg1 h hs) (by decide +kernel) (by decide +kernel) hg (he := hs)
theorem pairs_refs [Ky ek] {H G : Hp} (g : Same G H) {K : PySem.W.Frag} : ∀ {ps : List (κ × β)} {us : List V}, RpA G us (ps.map (eP ek ev)) → ∃ (ts : List Addr) (kvs : List (Key × V)), us = ts.map V.ref ∧ Paired (fun p kv => SqT K H p [kV kv.1, kv.2]) ts kvs ∧ RpV G kvs (kvK ek ev ps)
  | [], _, .nil => ⟨[], [], rfl, .nil, .nil⟩
  | x :: ps, _, .cons r1 r2 => by
    obtain ⟨ts, kvs, e1, e2, e3⟩ := pairs_refs g (K := K) r2
    cases r1 with
    | @tup T zs _ eT zz rz =>
      cases rz with
      | cons rk rz =>
        cases rz with
        | cons rv rz =>
          cases rz
          have := Ky.kv rk
          subst this
          exact ⟨T :: ts, (Ky.key ek x.1, _) :: kvs, by rw [e1]; rfl, .cons (.inl (.inl (g _ _ eT))) e2, .cons ⟨rfl, rv⟩ e3⟩
theorem ex_dictPK [Bt c] [Ky ek] {ps : List (κ × β)} (h : EX c e S (.val (eL (eP ek ev) ps)) S1) (hg : GlC c "dict" := by rfl) (hs : ∀ env, starEach [e] env = (false, eval e env) :: starEach [] env := by intro _; rfl) : EX c (.Call (.Name "dict" p) [e] [] pos) S (sK ek ev (dpairs ps)) S1 :=
  ex_callTy (w := sK ek ev (dpairs ps)) (ws := [.val (eL (eP ek ev) ps)]) (fun X hX => ⟨_, call_dictP hX.calm, vra1 fun B G H S σ x Q st r k => by
    cases r with
    | lst e1 zz rv =>
      obtain ⟨ts, kvs, rfl, e2, e3⟩ := pairs_refs (K := X.K) st.g rv
      refine ⟨_, ts, kvs, rfl, SqL.of (st.g _ _ e1), e2, fun q hq => k _ _ G (Ext.refl _ _) ?_⟩
      have := e3.merge (us := []) (ks := []) .nil
      have em : mergeK [] kvs = kvs.foldl (fun a p => putK a p.1 p.2) [] := rfl
      rw [em]
      refine st.newDk (ks := kvK ek ev (dpairs ps)) hq (by rw [dpairs, ← kvK_merge]; exact this) ?_
      rw [kvK_length]
      rw [List.length_map] at zz
      exact Nat.le_trans (dpairs_length ps) zz⟩) (ex_arg1 h hs) (by decide +kernel) (by decide +kernel) hg (he := hs)
end
/-! ### sorted(d) -/
section
variable {c : CC} {e : Expr} {S S1 : List SV} {p pos : Pos} {α β : Type} {en : α → D} {xs : List α} {ev : β → D}
theorem sorted_collK {P : Program} {w : World} {A : Around} {E Q : Value → Shared → Prop} {s : Shared} {x : Value} {R : Value → α → Prop} (coll : ∀ (A' : Around) (F : List Value → Shared → Prop) (E' : Value → Shared → Prop), A'.handled = A.handled → (∀ h' tk vs, (∀ b o, s.heap.get? b = some o → h'.get? b = some o) → PySem.W.EachIs R vs xs → F vs { s with heap := h', toks := tk }) → wpAny (model P w) A' (collect x) F E' s)
    (rd : ∀ u b, R u b → b ∈ xs → ∃ as, PySem.Reads s.heap u (en b) as) (hal : PySem.W.AllAlike (xs.map en)) (hs : PySem.W.Sortable (xs.map en)) (hz : xs.length ≤ sizeLine) (hu : ∀ b, b ∈ xs → A.units + 2 + (en b).depth < cLine)
    (k : ∀ (h1 h' : Heap) tk out ep, (∀ b o, s.heap.get? b = some o → h1.get? b = some o) → (∀ b o, h1.get? b = some o → h'.get? b = some o) → h'.get? h1.objs.size = some { cls := .type "list", data := .seq (List.toArray out) ep } → PySem.W.EachIs R out (srt en xs) → Q (.ref h1.objs.size) { s with heap := h', toks := tk }) :
    wpAny (model P w) A (call (.builtin "sorted") [x]) Q E s := by
  refine Calls.call_function_entry PyProof.Rows.kind_sorted PyProof.Rows.plain_sorted PyProof.Rows.entry_sorted (PyProof.Rows.args_sorted1 _) ?_
  unfold Builtin.«sorted»
  refine wpAny_bind (m := checkCount "sorted" 1 1 _) (wpAny_pure ?_)
  refine wpAny_bind (coll _ _ _ rfl fun h1 tk vs k1 ev => ?_)
  have hl : vs.length ≤ sizeLine := by rw [ev.length]; exact hz
  refine wpAny_bind (wpAny_newList ?_ hl)
  generalize hp : h1.objs.size = q
  have g2 : (h1.push { cls := .type "list", data := .seq vs.toArray }).get? q = some (PyProof.Rows.seqObj "list" vs.toArray 0) := by rw [← hp]; exact Heap.get?_push_size _ rfl
  generalize hh : h1.push { cls := .type "list", data := .seq vs.toArray } = h2 at g2
  have k2 : ∀ b o, h1.get? b = some o → h2.get? b = some o ∧ b ≠ q := fun b o e => ⟨by rw [← hh]; exact Heap.get?_push_of_some _ e, by rw [← hp]; exact Nat.ne_of_lt (Heap.lt_size e)⟩
  show wpAny _ _ _ _ _ (⟨h2, s.gens, s.drawn, tk, s.os⟩ : Shared)
  have ek : PySem.W.EachIs (fun v d => ∃ as, PySem.Reads (PySem.W.sortingHeap h2 q vs) v d as) vs (xs.map en) := PySem.W.each_map en (each_mono (fun u b ⟨h, hb⟩ => by
    obtain ⟨as, r⟩ := rd u b h hb
    exact ⟨as, PyProof.Rows.Reads.keeps (fun b o e => PySem.W.sortingHeap_old (k2 b o (k1 b o e)).2 (k2 b o (k1 b o e)).1) r⟩) (PySem.W.each_mem ev))
  have st := PySem.W.SortsAt.data (prog := P) (w := w) (A := A.in1.in1) (s := ⟨PySem.W.sortingHeap h2 q vs, s.gens, s.drawn, tk, s.os⟩) ek hal hs (PySem.W.bound_map hu)
  refine wpAny_bind (wpAny_holding (wpAny_call_entry_kw PyProof.Rows.slot_list_sort ⟨_, g2, rfl⟩ PyProof.Rows.entry_list_sort (PySem.W.list_sort_vals (s := ⟨h2, s.gens, s.drawn, tk, s.os⟩) g2 st hl ⟨.none, rfl, ?_⟩) (PyProof.Rows.args_list_sort _)))
  subst hp
  obtain ⟨ep, h3⟩ := PyProof.Rows.sortedHeap_at (vs := vs) (out := (PySem.W.sortVals (PySem.W.dataKind (PySem.W.sortingHeap h2 h1.objs.size vs) (xs.map en)) false vs vs).toArray) g2
  refine wpAny_pure ⟨_, rfl, k h1 _ tk _ ep k1 (fun b o e => ?_) h3 (PySem.W.sortVals_data (R := R) false ev (PySem.W.each_of_map en ek) hal)⟩
  obtain ⟨e1, e2⟩ := k2 b o e
  rw [PyProof.Rows.sortedHeap_old e2 (Heap.lt_size e1)]
  exact e1
variable {ek : α → D} {m : List (α × β)}
theorem keys_laid {X : Cx} {pins : List (Addr × Obj)} {σ : L2.St} {H : Hp} {s : Shared} [Kt ek] (I : Inv X pins σ H s) : ∀ {ks : List α} {kvs : List (List Key × V)} {bs : List Addr}, kvs.map (·.1) = ks.map (Kt.keys ek) → IsKeys H kvs bs → RpA H (bs.map V.ref) (ks.map ek)
  | [], [], _, _, h => by cases h; exact .nil
  | k :: ks, p :: kvs, _, e, h => by
    simp only [List.map_cons, List.cons.injEq] at e
    cases h with
    | cons h1 h2 =>
      refine .cons ?_ (keys_laid I e.2 h2)
      rw [Kt.eq (e := ek) k]
      rw [e.1] at h1
      obtain ⟨z, _⟩ := (show ObjOk X.prog X.w H s.heap _ (.tup _) from I.hok _ _ h1)
      refine .tup h1 (by simpa using z) ?_
      have : ∀ l : List Key, RpA H (l.map kV) (l.map kD) := fun l => by
        induction l with
        | nil => exact .nil
        | cons x l ih => exact .cons (by cases x; exact .int _; exact .str _) ih
      exact this _
theorem call_sortedU {X : Cx} (hX : c.In X) [Kt ek] (o : SortOk ek (dkeys m)) : CallR X (.builtin "sorted") (fun us H Q => ∃ a kvs, us = [.ref a] ∧ Rd H a (.dT kvs) ∧ kvs.map (·.1) = (dkeys m).map (Kt.keys ek) ∧ ∀ q ws, H q = none → RpA H ws ((srt ek (dkeys m)).map ek) → Q (.ref q) (upd H q (.lst ws))) := by
  intro pins s σ H us vs Q I r h
  obtain ⟨a, kvs, rfl, hd, ek', q⟩ := h
  rw [Vals.ref1 r]
  obtain ⟨z, hs, ks, pr, ob, es, ep, ho, hx, hdt, he, hn⟩ := (show ObjOk X.prog X.w H s.heap a (.dT kvs) from hd.ok I.hok)
  have l1 : es.size = ks.length := size_of_entries he
  have l2 : kvs.length = ks.length := Paired.length pr
  have l3 : kvs.length = (dkeys m).length := by have := congrArg List.length ek'; simpa using this
  have hu : ∀ b, b ∈ dkeys m → X.A.units + 2 + (ek b).depth < cLine := fun b hb => by have := hX.units; have := o.dp b hb; omega
  have hz : (dkeys m).length ≤ sizeLine := by omega
  have rk := keys_laid I ek' (isKeys_of pr)
  refine sorted_collK (R := fun u b => ∃ x, RelV x u ∧ Rp H x (ek b)) (xs := dkeys m) (en := ek) (fun A' F E' hA k => PySem.W.kdu_collect (kdl_raw hs hx hdt) (hA.trans (I.ok.hd hX.calm)) ho (by omega) fun h' tk acc kk it => k h' tk acc.toList kk (paired_join ?_ rk)) (fun u b ⟨x, h1, h2⟩ hb => Dp.reads I (ek b) x u (h2.dp (Same.refl _) (o.pl b hb)) h1) o.all o.st hz hu fun h1 h' tk out ep k1 k2 gp eo => ?_
  · have eb : acc.toList = (ks.map fun x => x.2.1).map Value.ref := by
      apply List.ext_getElem?
      intro j
      have hl : acc.toList.length = ks.length := by rw [Array.length_toList, it.1]; exact l1
      rw [List.map_map, List.getElem?_map]
      cases hj : acc.toList[j]? with
      | none =>
        have h1 := List.getElem?_eq_none_iff.mp hj
        rw [List.getElem?_eq_none (by omega)]; rfl
      | some v =>
        obtain ⟨en, hen, hv⟩ := it.2 j v (by rw [← Array.getElem?_toList]; exact hj)
        have qe := entry_at he j
        rw [hen] at qe
        cases hb : ks[j]? with
        | none => rw [hb] at qe; cases qe
        | some b => rw [hb] at qe; rw [hv, show en = entryOfKey (tupleKind (mixKind X.prog X.w)) b from Option.some.inj qe]; rfl
    rw [eb]
    exact vals_refs _
  · obtain ⟨zs, q1, q2⟩ := paired_split eo
    have hlen : zs.length ≤ sizeLine := by rw [q2.length, List.length_map, srt_length]; exact hz
    have I1 := I.kept (t' := tk) k1
    exact ⟨.ref h1.objs.size, upd H h1.objs.size (.lst zs), I1.laid (t' := tk) k2 (Nat.le_refl _) ⟨hlen, out, ep, q1, gp⟩, rfl, q _ zs (I1.hok.fresh (Nat.le_refl _)) q2⟩
theorem ex_sortDU [Bt c] [Kt ek] [Im ek] (h : EX c e S (pU ek ev m) S1) (o : SrtOk ek (dkeys m)) (hg : GlC c "sorted" := by rfl) (hs : ∀ env, starEach [e] env = (false, eval e env) :: starEach [] env := by intro _; rfl) : EX c (.Call (.Name "sorted" p) [e] [] pos) S (.lst ((srt ek (dkeys m)).map ek)) S1 :=
  ex_callB (w := .lst ((srt ek (dkeys m)).map ek)) (ws := [pU ek ev m]) (fun X hX => ⟨_, call_sortedU hX o, fun B G H S σ vs Q hl st k => by
    obtain ⟨v, rfl⟩ : ∃ v, vs = [v] := match vs, hl with | [v], _ => ⟨v, rfl⟩
    have st : Stt B G H (pU ek ev m :: S) (some v :: σ) := st
    obtain ⟨a, us, rfl, ea, r, z⟩ := st.headP
    have ekk : us.map (·.1) = (dkeys m).map (Kt.keys ek) := by
      have : us.map (·.1) = (kvU ek ev m).map (·.1) := r.keys
      rw [this, kvU, dkeys, List.map_map, List.map_map]; rfl
    refine ⟨a, us, rfl, .inl (st.g _ _ ea), ekk, fun q ws hq rw' => ?_⟩
    obtain ⟨G', x', s', r'⟩ := st.tail.addDatas (Same.refl _) (Im.all ek _) rw'
    refine k _ _ G' x' (s'.newLst hq r' ?_)
    rw [kvU_length] at z
    rw [List.length_map, srt_length, dkeys, List.length_map]; exact z⟩) (ax_cons h ax_nil hs) (by decide +kernel) (by decide +kernel) hg (he := hs)
end
section
variable {c : CC} {e : Expr} {es : List Expr} {S S1 : List SV} {p pos : Pos} {k : Nat} {α β γ δ : Type} {ea : α → D} {eb : β → D} {ec : γ → D} {ed : δ → D} {x : α} {y : β} {z : γ} {u : δ}
theorem ex_pair (h : AV c es S [ea x, eb y] S1) : EX c (.Tuple es k pos) S (.val (eP ea eb (x, y))) S1 := ex_tup h (le_line (le_b rfl))
theorem ex_pair3 (h : AV c es S [ea x, eb y, ec z] S1) : EX c (.Tuple es k pos) S (.val (eP3 ea eb ec (x, y, z))) S1 := ex_tup h (le_line (le_b rfl))
theorem ex_pair4 (h : AV c es S [ea x, eb y, ec z, ed u] S1) : EX c (.Tuple es k pos) S (.val (eP4 ea eb ec ed (x, y, z, u))) S1 := ex_tup h (le_line (le_b rfl))
theorem srt_two (i j : Int) : srt PyData.int [i, j] = [min i j, max i j] := by
  have h1 := srt_int_sorted [i, j]
  have h2 := srt_perm PyData.int [i, j]
  refine perm_sorted_int (h2.trans ?_) h1 ?_
  · by_cases h : i ≤ j
    · rw [Int.min_eq_left h, Int.max_eq_right h]
    · rw [Int.min_eq_right (by omega), Int.max_eq_left (by omega)]; exact List.Perm.swap _ _ _
  · simp; omega
theorem ex_sort2 {i j : Int} (h : EX c e S (.val (eT PyData.int (srt PyData.int [i, j]))) S1) : EX c e S (.val (eP PyData.int PyData.int (min i j, max i j))) S1 := by
  rw [srt_two] at h; exact h
end
/-- membership, told with one instance for all types -/
def mem {α : Type} [DecidableEq α] (x : α) (xs : List α) : Bool := decide (x ∈ xs)
theorem mem_iff {α : Type} [DecidableEq α] {x : α} {xs : List α} : mem x xs = true ↔ x ∈ xs := by simp [mem]
theorem sw_cell {elt : Expr} {gs : List Comprehension} {scope sc : Scope} {pos py : Pos} {y : Str} {l : Nat} {env : Env} (he : env.scope = sc) (hy : (sc.names.lookup y == some .local) = false) : swapsWith (.ListComp elt gs scope pos) (some (.Name y py)) l env = pure false := by
  have kf : (env.kindOf y == some .local) = false := by rw [← hy, ← he]; rfl
  unfold swapsWith
  simp only [kf, Bool.and_false, Bool.false_and]
theorem sw_cellD {kx vx : Expr} {gs : List Comprehension} {scope sc : Scope} {pos py : Pos} {y : Str} {l : Nat} {env : Env} (he : env.scope = sc) (hy : (sc.names.lookup y == some .local) = false) : swapsWith (.DictComp kx vx gs scope pos) (some (.Name y py)) l env = pure false := by
  have kf : (env.kindOf y == some .local) = false := by rw [← hy, ← he]; rfl
  unfold swapsWith
  simp only [kf, Bool.and_false, Bool.false_and]
end DL

/-! DL, part M c: dicts walked (locked for a while). -/
namespace DL
open PySem PySem.Spec PyProof.Rows L2
mutual
theorem Rp.off {G : Hp} {a : Addr} (h : ∀ vs, G a ≠ some (.tup vs)) : ∀ {d : D} {v : V}, imm d = true → Rp G v d → Rp (fun b => if b = a then none else G b) v d
  | .none, _, _, r => by cases r; exact .non
  | .bool b, _, _, r => by cases r; exact .bl b
  | .int i, _, _, r => by cases r; exact .int i
  | .str x, _, _, r => by cases r; exact .str x
  | .tuple ds, _, i, r => by
    cases r with
    | @tup q vs _ e z k =>
      have i : imms ds = true := by simpa [imm] using i
      have hq : q ≠ a := fun e' => h vs (e' ▸ e)
      exact .tup (by simp only [if_neg hq]; exact e) z (RpA.off h i k)
  | .list ds, _, i, _ => by simp [imm] at i
  | .dict ds, _, i, _ => by simp [imm] at i
theorem RpA.off {G : Hp} {a : Addr} (h : ∀ vs, G a ≠ some (.tup vs)) : ∀ {ds : List D} {vs : List V}, imms ds = true → RpA G vs ds → RpA (fun b => if b = a then none else G b) vs ds
  | [], _, _, r => by cases r; exact .nil
  | d :: ds, _, i, r => by
    cases r with
    | cons p q =>
      have i : imm d = true ∧ imms ds = true := by simpa [imms] using i
      exact .cons (Rp.off h i.1 p) (RpA.off h i.2 q)
end
section
variable {κ β : Type} {ek : κ → D} {ev : β → D} {m : List (κ × β)}
def isLU (ek : κ → D) [Kt ek] (ev : β → D) (m : List (κ × β)) : V → Hp → Prop := fun v G => ∃ a o us, v = .ref a ∧ G a = some (.frz o (.dT us)) ∧ RpV G us (kvU ek ev m) ∧ (kvU ek ev m).length ≤ sizeLine ∧ ∀ k ∈ dkeys m, (Kt.keys ek k).length ≤ sizeLine
def isLK (ek : κ → D) [Ky ek] (ev : β → D) (m : List (κ × β)) : V → Hp → Prop := fun v G => ∃ a o us, v = .ref a ∧ G a = some (.frz o (.dK us)) ∧ RpV G us (kvK ek ev m) ∧ (kvK ek ev m).length ≤ sizeLine
variable {c : CC} {e tg : Expr} {S S1 : List SV} {i : Nat} {α : Type} {en : α → D} [Im en] {x : α} [DecidableEq κ]
theorem lock_reads {B G H : Hp} {σ : L2.St} {p : V → Hp → Prop} {d : Addr} {u : HO} {Q : VK} {w : SV} (st : Stt B G H S σ) (h0 : S[i]? = some w) (hd : σ[i]? = some (some (.ref d))) (hu : H d = some u) (hm : Mut (some u)) (hf : ∀ f, Own G H w (some (.ref d)) f → d ∈ f)
    (hp : ∀ od (G' : Hp), Same G G' → G' d = some (.frz od u) → p (.ref d) G') (hpm : ∀ v G G', Same G G' → p v G → p v G') (k : ∀ v H' G', Ext B G G' → Stt B G' H' (.val (en x) :: S) (some v :: σ) → Q v H') : tLockE (tD ((frzS S).set i (.pr p)) (.val (en x)) S1) σ H Q := by
  refine ⟨d, u, hu, hm, fun od => ?_⟩
  obtain ⟨fp, o, z, dj, fr⟩ := id st.own
  have mi := hf _ (o i _ _ h0 hd)
  have gd : G d = none := (fr i d mi).1
  have sg : Same G (upd H d (.frz od u)) := fun a q e => by rw [upd_ne (by rintro rfl; rw [gd] at e; cases e)]; exact st.g a q e
  refine ⟨upd H d (.frz od u), upd H d (.frz od u), ⟨Same.refl _, Same.refl _, by rw [List.length_set, frzS, List.length_map]; exact st.len, fun _ => [], fun j w y e1 e2 => ?_, fun _ _ => rfl, fun _ _ _ q => absurd q (by simp), fun _ _ q => absurd q (by simp)⟩, fun v H' G' x' s' => ?_⟩
  · have hi : i < (frzS S).length := by rw [frzS, List.length_map]; exact (List.getElem?_eq_some_iff.mp h0).1
    by_cases hj : j = i
    · subst hj
      rw [List.getElem?_set_self hi] at e1
      cases e1
      rw [hd] at e2; cases e2
      exact ⟨rfl, _, rfl, fun G' g' => hpm _ _ _ g' (hp od _ sg upd_same)⟩
    · rw [List.getElem?_set_ne (Ne.symm hj), frzS, List.getElem?_map] at e1
      cases hs : S[j]? with
      | none => rw [hs] at e1; cases e1
      | some w0 =>
        rw [hs] at e1
        have e1 : frzV w0 = w := Option.some.inj e1
        have oj := o j w0 y hs e2
        have dk := oj.frz (G' := upd H d (.frz od u)) sg fun a ha => upd_ne (by rintro rfl; exact hj (dj _ _ _ ha mi))
        rw [e1] at dk
        have : Own (upd H d (.frz od u)) (upd H d (.frz od u)) w y [] := by
          rw [← e1]
          exact (e1 ▸ dk).mono (Same.refl _) fun a ha => by cases ha
        exact this
  · have hd' : H' d = some (.frz od u) := s'.b _ _ upd_same
    refine ⟨hd', ?_⟩
    have sH : Same H (upd H' d u) := fun a q e => by
      by_cases ha : a = d
      · subst ha; rw [hu] at e; rw [upd_same]; exact e
      · rw [upd_ne ha]; exact s'.b _ _ (by rw [upd_ne ha]; exact e)
    have st2 := st.grown sH
    have nt : ∀ vs, G' d ≠ some (.tup vs) := fun vs e => by have := s'.g _ _ e; rw [hd'] at this; cases this
    have sG : Same (fun b => if b = d then none else G' b) (upd H' d u) := fun a q e => by
      by_cases ha : a = d
      · simp only [if_pos ha] at e; cases e
      · simp only [if_neg ha] at e; rw [upd_ne ha]; exact s'.g _ _ e
    obtain ⟨G2, x2, s2, r2⟩ := st2.addData sG (Im.imm x) (Rp.off nt (Im.imm x) s'.headV)
    exact k v _ G2 x2 (s2.push r2)
theorem ex_lockU [Kt ek] (h : EX c e ((frzS S).set i (.pr (isLU ek ev m))) (.val (en x)) S1) (hz : ∀ k ∈ dkeys m, (Kt.keys ek k).length ≤ sizeLine) (h0 : S[i]? = some (sU ek ev m) := by rfl) : EX c e S (.val (en x)) S := fun X hX => (pe_lock (h X hX)).wk fun σ H Q ⟨B, G, st, k⟩ => by
  obtain ⟨a, us, e1, e2, r, z, _⟩ := st.updT h0
  exact lock_reads st h0 e1 e2 True.intro (fun f ⟨b, _, q1, q2, _⟩ => by cases q1; rw [q2]; simp) (fun od G' g e => ⟨a, od, us, rfl, e, r.mono g, z, hz⟩) (fun v G G' g ⟨a, o, us, q1, q2, q3, q4⟩ => ⟨a, o, us, q1, g _ _ q2, q3.mono g, q4⟩) k
theorem ex_lockK [Ky ek] (h : EX c e ((frzS S).set i (.pr (isLK ek ev m))) (.val (en x)) S1) (h0 : S[i]? = some (sK ek ev m) := by rfl) : EX c e S (.val (en x)) S := fun X hX => (pe_lock (h X hX)).wk fun σ H Q ⟨B, G, st, k⟩ => by
  obtain ⟨a, us, e1, e2, r, z, _⟩ := st.updK h0
  exact lock_reads st h0 e1 e2 True.intro (fun f ⟨b, _, q1, q2, _⟩ => by cases q1; rw [q2]; simp) (fun od G' g e => ⟨a, od, us, rfl, e, r.mono g, z⟩) (fun v G G' g ⟨a, o, us, q1, q2, q3, q4⟩ => ⟨a, o, us, q1, g _ _ q2, q3.mono g, q4⟩) k
theorem itx_dictU [Kt ek] [Im ek] (h : EX c e S (.pr (isLU ek ev m)) S1) : IX c tg e S ((dkeys m).map ek) S1 := fun X hX => (pi_keys (h X hX)).wk fun σ H R ⟨B, G, st, k⟩ => ⟨B, G, st, fun v H1 G1 x1 s1 => by
  obtain ⟨a, o, us, rfl, ea, r, z, hz⟩ := s1.headP
  have ekk : us.map (·.1) = (dkeys m).map (Kt.keys ek) := by
    have : us.map (·.1) = (kvU ek ev m).map (·.1) := r.keys
    rw [this, kvU, dkeys, List.map_map, List.map_map]; rfl
  have lk : us.length = (dkeys m).length := by have := congrArg List.length ekk; simpa using this
  refine ⟨a, o, rfl, .inr ⟨us, s1.g _ _ ea, k _ H1 G1 x1 s1.tail ⟨?_, fun i H2 hi g2 => ⟨g2 _ _ ea, by rw [List.length_map] at hi; omega⟩, fun H2 g2 => ⟨g2 _ _ ea, by rw [List.length_map]; omega⟩, fun i d x H2 H3 hd g1 y B2 G2 S2 σ2 g12 s2 => ?_⟩⟩⟩
  · rw [List.length_map, dkeys, List.length_map]; rw [kvU_length] at z; exact z
  · obtain ⟨rfl, kk, vv, q, e1, rfl, e3⟩ := y
    obtain ⟨k0, hk0, rfl⟩ := map_get hd
    have e4 : (us.map (·.1))[i]? = some kk := by rw [List.getElem?_map, e1]; rfl
    rw [ekk, List.getElem?_map, hk0] at e4
    have e4 := Option.some.inj e4
    subst e4
    have rq : Rp H3 (.ref q) (ek k0) := by
      rw [Kt.eq (e := ek) k0]
      refine .tup e3 (by rw [List.length_map]; exact hz _ (List.mem_of_getElem? hk0)) ?_
      have : ∀ l : List Key, RpA H3 (l.map kV) (l.map kD) := fun l => by
        induction l with
        | nil => exact .nil
        | cons x l ih => exact .cons (by cases x; exact .int _; exact .str _) ih
      exact this _
    obtain ⟨G3, x3, s3, r3⟩ := s2.addData (Same.refl _) (Im.imm k0) rq
    exact ⟨G3, x3, s3.push r3⟩⟩
theorem itx_dictK [Ky ek] (h : EX c e S (.pr (isLK ek ev m)) S1) : IX c tg e S ((dkeys m).map ek) S1 := fun X hX => (pi_keys (h X hX)).wk fun σ H R ⟨B, G, st, k⟩ => ⟨B, G, st, fun v H1 G1 x1 s1 => by
  obtain ⟨a, o, us, rfl, ea, r, z⟩ := s1.headP
  have ekk : us.map (·.1) = (dkeys m).map (Ky.key ek) := by
    have : us.map (·.1) = (kvK ek ev m).map (·.1) := r.keys
    rw [this, kvK, dkeys, List.map_map, List.map_map]; rfl
  have lk : us.length = (dkeys m).length := by have := congrArg List.length ekk; simpa using this
  refine ⟨a, o, rfl, .inl ⟨us, s1.g _ _ ea, k _ H1 G1 x1 s1.tail ⟨?_, fun i H2 hi g2 => ⟨g2 _ _ ea, by rw [List.length_map] at hi; omega⟩, fun H2 g2 => ⟨g2 _ _ ea, by rw [List.length_map]; omega⟩, fun i d x H2 H3 hd g1 y B2 G2 S2 σ2 g12 s2 => ?_⟩⟩⟩
  · rw [List.length_map, dkeys, List.length_map]; rw [kvK_length] at z; exact z
  · obtain ⟨rfl, kk, vv, e1, rfl⟩ := y
    obtain ⟨k0, hk0, rfl⟩ := map_get hd
    have e4 : (us.map (·.1))[i]? = some kk := by rw [List.getElem?_map, e1]; rfl
    rw [ekk, List.getElem?_map, hk0] at e4
    have e4 := Option.some.inj e4
    subst e4
    refine ⟨G2, Ext.refl _ _, s2.push ?_⟩
    rw [Ky.eq (e := ek) k0]
    cases Ky.key ek k0
    · exact .int _
    · exact .str _⟩
end
end DL

/-! DL, part M d: isinstance over data. -/
namespace DL
open PySem PySem.Spec PyProof.Rows L2
/-- the name of a type, as a value -/
def tyNm (id : String) : V → Hp → Prop := fun v _ => v = .ty id
/-- the class of data -/
def tyN : D → String
  | .none => "NoneType"
  | .bool _ => "bool"
  | .int _ => "int"
  | .str _ => "str"
  | .list _ => "list"
  | .tuple _ => "tuple"
  | .dict _ => "dict"
/-- isinstance of data, the class by its name -/
def isiB (T : String) (d : D) : Bool := match d with
  | .none => T == "NoneType"
  | .bool _ => T == "bool" || T == "int"
  | .int _ => T == "int"
  | .str _ => T == "str"
  | .list _ => T == "list"
  | .tuple _ => T == "tuple"
  | .dict _ => T == "dict"
section
variable {c : CC} {e : Expr} {S S1 : List SV} {p p2 pos : Pos} {d : D}
theorem ex_tyN {T : Str} {id : String} [bt : Bt c] (hf : T ∈ (["range", "len", "sorted", "list", "tuple", "enumerate", "zip", "sum", "max", "min", "all", "any", "abs", "int", "repr", "dict", "isinstance", "bool", "str", "set"] : List Str)) (hv : bootBuiltins T = some (.type id)) (hg : GlC c T) (hn : T ≠ "__name__" := by decide) (hdb : (T == ("__debug__" : Str)) = false := by decide) : EX c (.Name T p) S (.pr (tyNm id)) S := fun X hX =>
  (pe_bltn (hX.gl hg) (hX.mgN (bt.no _ hf)) hv (v := .ty id) rfl hn hdb).wk fun σ H Q ⟨B, G, st, k⟩ => k (.ty id) H G (Ext.refl _ _) (st.pushP fun _ _ => rfl)
theorem Rp.ty {G H : Hp} {v : V} {K : PySem.W.Frag} (g : Same G H) (r : Rp G v d) : TyOf K H v (.type (tyN d)) := by
  cases r with
  | non => exact .non
  | bl b => exact .bl b
  | int i => exact .int i
  | str x => exact .str x
  | tup e _ _ => exact .tup (g _ _ e)
  | lst e _ _ => exact .lst (g _ _ e)
  | _ => first | exact .dK (g _ _ ‹_›) | exact .dT (g _ _ ‹_›)
def isiT (id : String) : Prop := kitB "NoneType" id = some (isiB id .none) ∧ kitB "bool" id = some (isiB id (.bool true)) ∧ kitB "int" id = some (isiB id (.int 0)) ∧ kitB "str" id = some (isiB id (.str "")) ∧ kitB "list" id = some (isiB id (.list [])) ∧ kitB "tuple" id = some (isiB id (.tuple [])) ∧ kitB "dict" id = some (isiB id (.dict []))
theorem isiT.at {id : String} (h : isiT id) (d : D) : kitB (tyN d) id = some (isiB id d) := by
  obtain ⟨h1, h2, h3, h4, h5, h6, h7⟩ := h
  cases d with
  | none => exact h1
  | bool b => exact h2
  | int i => exact h3
  | str x => exact h4
  | list xs => exact h5
  | tuple xs => exact h6
  | dict xs => exact h7
theorem isiT_int : isiT "int" := by unfold isiT; decide +kernel
theorem isiT_bool : isiT "bool" := by unfold isiT; decide +kernel
theorem isiT_str : isiT "str" := by unfold isiT; decide +kernel
theorem isiT_tuple : isiT "tuple" := by unfold isiT; decide +kernel
theorem isiT_list : isiT "list" := by unfold isiT; decide +kernel
theorem isiT_dict : isiT "dict" := by unfold isiT; decide +kernel
theorem ex_isi {T : Str} {id : String} [bt : Bt c] (h : EX c e S (.val d) S1) (ht : isiT id) (hf : T ∈ (["range", "len", "sorted", "list", "tuple", "enumerate", "zip", "sum", "max", "min", "all", "any", "abs", "int", "repr", "dict", "isinstance", "bool", "str", "set"] : List Str) := by decide +kernel) (hv : bootBuiltins T = some (.type id) := by rfl) (hg : GlC c "isinstance" := by rfl) (hgT : GlC c T := by rfl) (hn : T ≠ "__name__" := by decide) (hdb : (T == ("__debug__" : Str)) = false := by decide)
    (hs : ∀ env, starEach [e, .Name T p2] env = (false, eval e env) :: starEach [.Name T p2] env := by intro _; rfl) (hs2 : ∀ env, starEach [.Name T p2] env = (false, eval (.Name T p2) env) :: starEach [] env := by intro _; rfl) (hpl : ∀ env pos, (backTo pos (starEach [.Name T p2] env)).any (·.1) = false := by intro _ _; rfl) :
    EX c (.Call (.Name "isinstance" p) [e, .Name T p2] [] pos) S (.val (.bool (isiB id d))) S1 :=
  ex_callB (w := .val (.bool (isiB id d))) (ws := [.val d, .pr (tyNm id)]) (fun X hX => ⟨_, call_isi, fun B G H S σ vs Q hl st k => by
    match vs, hl with
    | [x, y], _ =>
      have st : Stt B G H (.val d :: .pr (tyNm id) :: S) (some x :: some y :: σ) := st
      have s2 := st.tail
      obtain rfl : y = .ty id := s2.headP
      exact ⟨x, _, _, _, _, rfl, .ty id, .base (st.headV.ty st.g), kit_ty (ht.at d), k _ H G (Ext.refl _ _) (s2.tail.push (.bl _))⟩⟩)
    (ax_cons h (ax_cons (ex_tyN hf hv hgT hn hdb) ax_nil hs2) hs) (by decide +kernel) (by rfl) hg (he := hs) (hpl := hpl)
end
end DL

/-! DL, part M e: sum, max, min of tuples; a star at the end. -/
namespace DL
open PySem PySem.Spec PyProof.Rows L2
section
variable {prog : Program} {w : World} {A : Around} {E : Value → Shared → Prop} {s : Shared} {t : Addr} {xs : Array (Int × Tok)}
theorem iter_tupI {Q : Value → Shared → Prop} (hl : s.heap.IsTuple t (intItems xs))
    (h : ∀ s₂ : Shared, s₂ = { s with heap := s.heap.push { cls := .type "tuple_iterator", data := .fields #[.ref t, .int 0 0] } } →
      (s₂.heap.IsTupleIter s.heap.objs.size t 0 ∧ s₂.heap.IsTuple t (intItems xs)) → (∀ b ∈ [s.heap.objs.size, t], b < s₂.heap.objs.size) → t ≠ s.heap.objs.size → Q (.ref s.heap.objs.size) s₂) :
    wpAny (model prog w) A (pyIter (.ref t)) Q E s := by
  have hlt : t < s.heap.objs.size := by obtain ⟨_, e, _⟩ := hl; exact Heap.lt_size e
  refine wpAny_pyIter_tuple hl (h _ rfl ⟨⟨_, Heap.get?_push_size _ rfl, rfl, rfl⟩, ?_⟩ (fun b hb => ?_) (Nat.ne_of_lt hlt))
  · obtain ⟨o, e1, e2, n, e3⟩ := hl
    exact ⟨o, Heap.get?_push_of_some _ e1, e2, n, e3⟩
  · show b < (s.heap.push _).objs.size
    rw [Heap.size_push]
    rcases List.mem_cons.mp hb with rfl | hb
    · exact Nat.lt_succ_self _
    · rcases List.mem_cons.mp hb with rfl | hb
      · exact Nat.lt_succ_of_lt hlt
      · cases hb
theorem kept_tupI {h' : Heap} (hk : ∀ b o, b ∉ [s.heap.objs.size] → (s.heap.push { cls := .type "tuple_iterator", data := .fields #[.ref t, .int 0 0] }).get? b = some o → h'.get? b = some o) :
    ∀ b o, s.heap.get? b = some o → h'.get? b = some o := fun b o e => by
  refine hk b o (fun hm => ?_) (Heap.get?_push_of_some _ e)
  rcases List.mem_cons.mp hm with e1 | hm
  · exact absurd (e1 ▸ Heap.lt_size e) (Nat.lt_irrefl _)
  · cases hm
variable {its : List Value} {ns : List Int} {Q : Value → Shared → Prop}
theorem sum_tupI (hh : A.handled = none) (hl : s.heap.IsTuple t its.toArray) (hi : IntsAre its ns)
    (h : ∀ h' tk t', (∀ b o, s.heap.get? b = some o → h'.get? b = some o) → Q (.int ns.sum t') { s with heap := h', toks := tk }) : wpAny (model prog w) A (call (.builtin "sum") [.ref t]) Q E s := by
  obtain ⟨xs, e⟩ := hi.allInts.items
  have hn : numsOf (intItems xs).toList = ns := by rw [← e]; exact hi.numsOf
  rw [nums_intItems] at hn
  rw [e] at hl
  refine call_sum_walkG (iter_tupI hl fun s₂ e st hfp hlI => ?_)
  subst e
  refine ⟨_, _, _, _, _, _, numAt xs, rfl, Walks.tuple (A := A.in1) hh _ t hlI (intItems xs), st, hfp, (fun _ _ => intItems_at), fun h' tk t' hk => ?_⟩
  have := h h' tk t' (kept_tupI hk)
  rw [show preSum (numAt xs) (intItems xs).size = ns.sum by rw [preSum_eq, List.take_of_length_le (by simp [intItems]), hn]]
  exact this
theorem max_tupI (hh : A.handled = none) (hl : s.heap.IsTuple t its.toArray) (hi : IntsAre its ns) (hne : 0 < ns.length)
    (h : ∀ h' tk M t', (∀ b o, s.heap.get? b = some o → h'.get? b = some o) → M ∈ ns → (∀ a, a ∈ ns → a ≤ M) → Q (.int M t') { s with heap := h', toks := tk }) : wpAny (model prog w) A (call (.builtin "max") [.ref t]) Q E s := by
  obtain ⟨xs, e⟩ := hi.allInts.items
  have hn : numsOf (intItems xs).toList = ns := by rw [← e]; exact hi.numsOf
  rw [nums_intItems] at hn
  subst hn
  rw [e] at hl
  have hsz : 0 < xs.size := by simpa using hne
  refine call_max_walk (iter_tupI hl fun s₂ e st hfp hlI => ?_)
  subst e
  refine ⟨_, _, _, _, _, _, _, rfl, Walks.tuple (A := A.in1) hh _ t hlI (intItems xs), st, hfp, by simpa [intItems] using hsz, CmpOf.ints_gt (numAt xs) (fun _ _ => intItems_at), fun v h' tk hP hk => ?_⟩
  obtain ⟨t, rfl⟩ := intItems_at hP
  obtain ⟨h1, h2⟩ := argBest_gt (numAt xs) ((intItems xs).size - 1)
  have zz : (intItems xs).size = xs.size := by simp [intItems]
  refine h h' tk _ t (kept_tupI hk) ?_ fun a ha => ?_
  · rw [numAt_eq]; exact PySem.getD_mem (by rw [List.length_map, Array.length_toList]; omega)
  · obtain ⟨j, hj, rfl⟩ := mem_getD ha
    rw [List.length_map, Array.length_toList] at hj
    rw [← numAt_eq]; exact h2 j (by omega)
theorem min_tupI (hh : A.handled = none) (hl : s.heap.IsTuple t its.toArray) (hi : IntsAre its ns) (hne : 0 < ns.length)
    (h : ∀ h' tk M t', (∀ b o, s.heap.get? b = some o → h'.get? b = some o) → M ∈ ns → (∀ a, a ∈ ns → M ≤ a) → Q (.int M t') { s with heap := h', toks := tk }) : wpAny (model prog w) A (call (.builtin "min") [.ref t]) Q E s := by
  obtain ⟨xs, e⟩ := hi.allInts.items
  have hn : numsOf (intItems xs).toList = ns := by rw [← e]; exact hi.numsOf
  rw [nums_intItems] at hn
  subst hn
  rw [e] at hl
  have hsz : 0 < xs.size := by simpa using hne
  refine call_min_walk (iter_tupI hl fun s₂ e st hfp hlI => ?_)
  subst e
  refine ⟨_, _, _, _, _, _, _, rfl, Walks.tuple (A := A.in1) hh _ t hlI (intItems xs), st, hfp, by simpa [intItems] using hsz, CmpOf.ints_lt (numAt xs) (fun _ _ => intItems_at), fun v h' tk hP hk => ?_⟩
  obtain ⟨t, rfl⟩ := intItems_at hP
  obtain ⟨h1, h2⟩ := argBest_lt (numAt xs) ((intItems xs).size - 1)
  have zz : (intItems xs).size = xs.size := by simp [intItems]
  refine h h' tk _ t (kept_tupI hk) ?_ fun a ha => ?_
  · rw [numAt_eq]; exact PySem.getD_mem (by rw [List.length_map, Array.length_toList]; omega)
  · obtain ⟨j, hj, rfl⟩ := mem_getD ha
    rw [List.length_map, Array.length_toList] at hj
    rw [← numAt_eq]; exact h2 j (by omega)
end
section
variable {X : Cx}
def rSumT (K : PySem.W.Frag) : List V → Hp → VK → Prop := fun vs H Q => ∃ (a : Addr) (ns : List Int), vs = [V.ref a] ∧ SqT K H a (ns.map V.int) ∧ Q (.int ns.sum) H
def rMaxT (K : PySem.W.Frag) : List V → Hp → VK → Prop := fun vs H Q => ∃ (a : Addr) (ns : List Int), vs = [V.ref a] ∧ SqT K H a (ns.map V.int) ∧ 0 < ns.length ∧ ∀ m, m ∈ ns → (∀ y, y ∈ ns → y ≤ m) → Q (.int m) H
def rMinT (K : PySem.W.Frag) : List V → Hp → VK → Prop := fun vs H Q => ∃ (a : Addr) (ns : List Int), vs = [V.ref a] ∧ SqT K H a (ns.map V.int) ∧ 0 < ns.length ∧ ∀ m, m ∈ ns → (∀ y, y ∈ ns → m ≤ y) → Q (.int m) H
theorem cr_sumT (hc : X.calm = true) : CallR X (.builtin "sum") (rSumT X.K) := by
  intro pins s σ H vs us Q I r h
  obtain ⟨a, ns, rfl, hs, q⟩ := h
  obtain ⟨its, rv, hl, _⟩ := I.tuple hs
  rw [Vals.ref1 r]
  exact sum_tupI (I.ok.hd hc) hl rv.ints fun h' tk t' hk => ⟨.int _, H, I.kept hk, ⟨_, rfl⟩, q⟩
theorem cr_maxT (hc : X.calm = true) : CallR X (.builtin "max") (rMaxT X.K) := by
  intro pins s σ H vs us Q I r h
  obtain ⟨a, ns, rfl, hs, hne, q⟩ := h
  obtain ⟨its, rv, hl, _⟩ := I.tuple hs
  rw [Vals.ref1 r]
  exact max_tupI (I.ok.hd hc) hl rv.ints hne fun h' tk m t' hk h1 h2 => ⟨.int _, H, I.kept hk, ⟨_, rfl⟩, q m h1 h2⟩
theorem cr_minT (hc : X.calm = true) : CallR X (.builtin "min") (rMinT X.K) := by
  intro pins s σ H vs us Q I r h
  obtain ⟨a, ns, rfl, hs, hne, q⟩ := h
  obtain ⟨its, rv, hl, _⟩ := I.tuple hs
  rw [Vals.ref1 r]
  exact min_tupI (I.ok.hd hc) hl rv.ints hne fun h' tk m t' hk h1 h2 => ⟨.int _, H, I.kept hk, ⟨_, rfl⟩, q m h1 h2⟩
end
section
variable {c : CC} {e : Expr} {es : List Expr} {S S1 S2 : List SV} {p p2 pos : Pos} {d : D} {α : Type} {en : α → D} {xs ys : List α}
theorem ex_sumT [Bt c] {ns : List Int} (h : EX c e S (.val (eT PyData.int ns)) S1) (hg : GlC c "sum" := by rfl) (hs : ∀ env, starEach [e] env = (false, eval e env) :: starEach [] env := by intro _; rfl) : EX c (.Call (.Name "sum" p) [e] [] pos) S (.val (.int ns.sum)) S1 :=
  ex_callB (fun X hX => ⟨_, cr_sumT hX.calm, vra1 fun B G H S σ x Q st r k => by
    cases r with
    | tup e1 zz rv =>
      rw [rv.of_ints] at e1
      exact ⟨_, ns, rfl, SqT.of (st.g _ _ e1), k _ H G (Ext.refl _ _) (st.push (.int _))⟩⟩) (ex_arg1 h hs) (by decide +kernel) (by decide +kernel) hg (he := hs)
theorem ex_maxT [Bt c] {ns : List Int} (h : EX c e S (.val (eT PyData.int ns)) S1) (hz : 0 < ns.length) (hg : GlC c "max" := by rfl) (hs : ∀ env, starEach [e] env = (false, eval e env) :: starEach [] env := by intro _; rfl) : EX c (.Call (.Name "max" p) [e] [] pos) S (.val (.int (maxL ns))) S1 :=
  ex_callB (fun X hX => ⟨_, cr_maxT hX.calm, vra1 fun B G H S σ x Q st r k => by
    cases r with
    | tup e1 zz rv =>
      rw [rv.of_ints] at e1
      exact ⟨_, ns, rfl, SqT.of (st.g _ _ e1), hz, fun m h1 h2 => k _ H G (Ext.refl _ _) (st.push (by rw [maxL_spec h1 h2]; exact .int _))⟩⟩) (ex_arg1 h hs) (by decide +kernel) (by decide +kernel) hg (he := hs)
theorem ex_minT [Bt c] {ns : List Int} (h : EX c e S (.val (eT PyData.int ns)) S1) (hz : 0 < ns.length) (hg : GlC c "min" := by rfl) (hs : ∀ env, starEach [e] env = (false, eval e env) :: starEach [] env := by intro _; rfl) : EX c (.Call (.Name "min" p) [e] [] pos) S (.val (.int (minL ns))) S1 :=
  ex_callB (fun X hX => ⟨_, cr_minT hX.calm, vra1 fun B G H S σ x Q st r k => by
    cases r with
    | tup e1 zz rv =>
      rw [rv.of_ints] at e1
      exact ⟨_, ns, rfl, SqT.of (st.g _ _ e1), hz, fun m h1 h2 => k _ H G (Ext.refl _ _) (st.push (by rw [minL_spec h1 h2]; exact .int _))⟩⟩) (ex_arg1 h hs) (by decide +kernel) (by decide +kernel) hg (he := hs)
theorem av_star1 (hd : d = .tuple (xs.map en) ∨ d = .list (xs.map en)) (ha : EX c e S (.val d) S1) : AV c [.Starred e p] S (xs.map en) S1 := by
  have := av_starE (ys := ([] : List α)) (p := p) hd ha av_nil
  rwa [List.append_nil] at this
end
end DL

/-! MB, part a: plain facts about what the mirrors use. -/
namespace DL
open PySem PySem.Spec PyProof.Rows L2
/-! ### rng, nth -/
theorem mem_rng {a b x : Int} : x ∈ rng a b ↔ a ≤ x ∧ x < b := by
  unfold rng rngN
  rw [List.mem_map]
  constructor
  · rintro ⟨i, h, rfl⟩
    rw [List.mem_range] at h
    omega
  · intro h
    exact ⟨(x - a).toNat, by rw [List.mem_range]; omega, by omega⟩
theorem rng_length (a b : Int) : (rng a b).length = (b - a).toNat := rngN_length ..
theorem rng_get {a b : Int} {i : Nat} (h : i < (b - a).toNat) : (rng a b)[i]? = some (a + i) := rngN_get h
theorem rng_nodup (a b : Int) : (rng a b).Nodup := by
  unfold rng rngN
  refine List.Pairwise.map _ (fun i j h => ?_) (List.nodup_range (n := (b - a).toNat))
  omega
theorem rng_sorted (a b : Int) : (rng a b).Pairwise (· < ·) := by
  unfold rng rngN
  refine List.Pairwise.map _ (fun i j h => ?_) (List.pairwise_lt_range (n := (b - a).toNat))
  omega
theorem rng_nil {a b : Int} (h : b ≤ a) : rng a b = [] := by
  unfold rng rngN
  rw [show (b - a).toNat = 0 by omega]; rfl
theorem rng_cons {a b : Int} (h : a < b) : rng a b = a :: rng (a + 1) b := by
  apply List.ext_getElem?
  intro i
  cases i with
  | zero => rw [rng_get (by omega)]; simp
  | succ i =>
    rw [List.getElem?_cons_succ]
    by_cases h1 : i + 1 < (b - a).toNat
    · rw [rng_get h1, rng_get (by omega)]; congr 1; omega
    · rw [List.getElem?_eq_none (by rw [rng_length]; omega), List.getElem?_eq_none (by rw [rng_length]; omega)]
theorem nth_nat {α : Type} [Inhabited α] {xs : List α} {i : Int} (h0 : 0 ≤ i) : nth xs i = xs.getD i.toNat default := by
  unfold nth; rw [if_pos h0]
theorem nth_get {α : Type} [Inhabited α] {xs : List α} {i : Int} {x : α} (h0 : 0 ≤ i) (h : xs[i.toNat]? = some x) : nth xs i = x := by
  rw [nth_nat h0, List.getD_eq_getElem?_getD, h]; rfl
theorem nth_mem {α : Type} [Inhabited α] {xs : List α} {i : Int} (h : InB xs i) : nth xs i ∈ xs := by
  have := nth_at h
  exact List.mem_of_getElem? this
theorem InB.mk {α : Type} {xs : List α} {i : Int} (h0 : 0 ≤ i) (h : i < xs.length) : InB xs i := ⟨by omega, h⟩
theorem nth_map_rng {α : Type} [Inhabited α] {f : Int → α} {n i : Int} (h0 : 0 ≤ i) (h : i < n) : nth ((rng 0 n).map f) i = f i := by
  refine nth_get h0 ?_
  rw [List.getElem?_map, rng_get (by omega)]
  simp only [Option.map_some]
  congr 2
  omega
theorem inB_map_rng {α : Type} {f : Int → α} {n i : Int} (h0 : 0 ≤ i) (h : i < n) : InB ((rng 0 n).map f) i := .mk h0 (by rw [List.length_map, rng_length]; omega)
theorem nth_map {α β : Type} [Inhabited α] [Inhabited β] {f : α → β} {xs : List α} {i : Int} (h0 : 0 ≤ i) (h : i < xs.length) : nth (xs.map f) i = f (nth xs i) := by
  have e : xs[i.toNat]? = some (nth xs i) := by
    have := nth_at (xs := xs) (j := i) (.mk h0 h)
    rwa [if_pos h0] at this
  exact nth_get h0 (by rw [List.getElem?_map, e]; rfl)
theorem ext_nth {α : Type} [Inhabited α] {xs ys : List α} (h : xs.length = ys.length) (k : ∀ i : Int, 0 ≤ i → i < xs.length → nth xs i = nth ys i) : xs = ys := by
  apply List.ext_getElem?
  intro i
  by_cases h1 : i < xs.length
  · have a1 := nth_at (xs := xs) (j := i) (.mk (by omega) (by omega))
    have a2 := nth_at (xs := ys) (j := i) (.mk (by omega) (by omega))
    rw [if_pos (by omega)] at a1 a2
    have e : (i : Int).toNat = i := by omega
    rw [e] at a1 a2
    rw [a1, a2, k i (by omega) (by omega)]
  · rw [List.getElem?_eq_none (by omega), List.getElem?_eq_none (by omega)]
theorem map_rng_of {α : Type} [Inhabited α] {xs : List α} {n : Int} (f : Int → α) (h : (xs.length : Int) = n) (k : ∀ i : Int, 0 ≤ i → i < n → nth xs i = f i) : xs = (rng 0 n).map f :=
  ext_nth (by rw [List.length_map, rng_length]; omega) fun i h0 h1 => by rw [k i h0 (by omega), nth_map_rng h0 (by omega)]
theorem exists_nth {α : Type} [Inhabited α] {xs : List α} {x : α} (h : x ∈ xs) : ∃ i : Int, 0 ≤ i ∧ i < xs.length ∧ nth xs i = x := by
  obtain ⟨i, hi, rfl⟩ := List.getElem_of_mem h
  exact ⟨i, by omega, by omega, nth_get (by omega) (by simp [hi])⟩
theorem setI_length {α : Type} (xs : List α) (j : Int) (v : α) : (setI xs j v).length = xs.length := by unfold setI; exact List.length_set
theorem nth_setI {α : Type} [Inhabited α] {xs : List α} {i j : Int} {v : α} (h0 : 0 ≤ i) (hi : i < xs.length) (g0 : 0 ≤ j) : nth (setI xs j v) i = if i = j then v else nth xs i := by
  unfold setI
  rw [if_pos g0, nth_nat h0, nth_nat h0, List.getD_eq_getElem?_getD, List.getD_eq_getElem?_getD, List.getElem?_set]
  by_cases e : i = j
  · subst e
    rw [if_pos rfl, if_pos rfl, if_pos (by omega)]; rfl
  · rw [if_neg e, if_neg (by omega)]
/-! ### loops -/
theorem foldl_ind {σ α : Type} {f : σ → α → σ} {ok : σ → α → Prop} (I : List α → σ → Prop) : ∀ {xs : List α} (pre : List α) {s : σ}, I pre s → (∀ p x q s, pre ++ xs = p ++ x :: q → I p s → ok s x ∧ I (p ++ [x]) (f s x)) → LOk f ok s xs ∧ I (pre ++ xs) (xs.foldl f s)
  | [], pre, s, h, _ => ⟨trivial, by simpa using h⟩
  | x :: xs, pre, s, h, k => by
    have a := k pre x xs s rfl h
    have b := foldl_ind (ok := ok) I (xs := xs) (pre ++ [x]) (s := f s x) a.2 fun p y q s e i => k p y q s (by rw [← e]; simp) i
    exact ⟨⟨a.1, b.1⟩, by simpa using b.2⟩
theorem foldl_at {σ α : Type} {f : σ → α → σ} {ok : σ → α → Prop} (I : List α → σ → Prop) {xs : List α} {s : σ} (h : I [] s) (k : ∀ p x q s, xs = p ++ x :: q → I p s → ok s x ∧ I (p ++ [x]) (f s x)) : LOk f ok s xs ∧ I xs (xs.foldl f s) := foldl_ind I [] h k
theorem foldl_inv {σ α : Type} {f : σ → α → σ} {ok : σ → α → Prop} (I : σ → Prop) {xs : List α} {s : σ} (h : I s) (k : ∀ s x, x ∈ xs → I s → ok s x ∧ I (f s x)) : LOk f ok s xs ∧ I (xs.foldl f s) :=
  foldl_at (fun _ => I) h fun p x q s e i => k s x (by rw [e]; simp) i
/-- a loop that may be left: from every turn, either it goes on with I, or it is left with R -/
theorem foldE_at {σ α ρ : Type} {f : σ → α → Except ρ σ} {ok : σ → α → Prop} (I : List α → σ → Prop) (R : ρ → Prop) : ∀ {xs : List α} (pre : List α) {s : σ}, I pre s → (∀ p x q s, pre ++ xs = p ++ x :: q → I p s → ok s x ∧ match f s x with | .ok s' => I (p ++ [x]) s' | .error r => R r) → LOkE f ok s xs ∧ match foldE f s xs with | .ok s' => I (pre ++ xs) s' | .error r => R r
  | [], pre, s, h, _ => ⟨trivial, by simpa [foldE] using h⟩
  | x :: xs, pre, s, h, k => by
    have a := k pre x xs s rfl h
    unfold LOkE foldE
    cases e : f s x with
    | error r =>
      rw [e] at a
      exact ⟨⟨a.1, trivial⟩, a.2⟩
    | ok s' =>
      rw [e] at a
      have b := foldE_at (ok := ok) I R (xs := xs) (pre ++ [x]) (s := s') a.2 fun p y q s e i => k p y q s (by rw [← e]; simp) i
      refine ⟨⟨a.1, b.1⟩, ?_⟩
      have b2 := b.2
      simp only [List.append_assoc, List.singleton_append] at b2
      exact b2
theorem whl_ind {σ : Type} {c : σ → Bool} {f : σ → σ} {okc okb : σ → Prop} (I : σ → Prop) (μ : σ → Nat) : ∀ (n : Nat) {s : σ}, I s → μ s < n → (∀ s, I s → okc s ∧ (c s = true → okb s ∧ I (f s) ∧ μ (f s) < μ s)) → WOk c f okc okb n s ∧ I (whl c f n s) ∧ c (whl c f n s) = false
  | 0, s, h, hm, k => by omega
  | n + 1, s, h, hm, k => by
    have a := k s h
    unfold WOk whl
    cases e : c s with
    | true =>
      rw [if_pos rfl]
      have b := whl_ind I μ n (a.2 e).2.1 (by have := (a.2 e).2.2; omega) k
      exact ⟨⟨a.1, fun _ => ⟨(a.2 e).1, b.1⟩⟩, b.2⟩
    | false =>
      simp
      exact ⟨a.1, h, e⟩
theorem whl_FU {σ : Type} {c : σ → Bool} {f : σ → σ} {okc okb : σ → Prop} (I : σ → Prop) (μ : σ → Nat) {s : σ} (h : I s) (hm : μ s < 16777216) (k : ∀ s, I s → okc s ∧ (c s = true → okb s ∧ I (f s) ∧ μ (f s) < μ s)) : WOk c f okc okb FU s ∧ I (whl c f FU s) ∧ c (whl c f FU s) = false :=
  whl_ind I μ FU h (by unfold FU; exact hm) k
theorem mapS_ind {τ α β : Type} {f : τ → α → β × τ} {ok : τ → α → Prop} (I : List α → List β → τ → Prop) : ∀ {xs : List α} (pre : List α) (out : List β) {t : τ}, I pre out t → (∀ p x q o t, pre ++ xs = p ++ x :: q → I p o t → ok t x ∧ I (p ++ [x]) (o ++ [(f t x).1]) (f t x).2) → LokM f ok t xs ∧ I (pre ++ xs) (out ++ (mapS f t xs).1) (mapS f t xs).2
  | [], pre, out, t, h, _ => ⟨trivial, by simpa [mapS] using h⟩
  | x :: xs, pre, out, t, h, k => by
    have a := k pre x xs out t rfl h
    have b := mapS_ind (ok := ok) I (xs := xs) (pre ++ [x]) (out ++ [(f t x).1]) a.2 fun p y q o t e i => k p y q o t (by rw [← e]; simp) i
    refine ⟨⟨a.1, b.1⟩, ?_⟩
    have b2 := b.2
    simp only [List.append_assoc, List.singleton_append] at b2
    simpa [mapS] using b2
theorem mapS_at {τ α β : Type} {f : τ → α → β × τ} {ok : τ → α → Prop} (I : List α → List β → τ → Prop) {xs : List α} {t : τ} (h : I [] [] t) (k : ∀ p x q o t, xs = p ++ x :: q → I p o t → ok t x ∧ I (p ++ [x]) (o ++ [(f t x).1]) (f t x).2) : LokM f ok t xs ∧ I xs (mapS f t xs).1 (mapS f t xs).2 := by
  have := mapS_ind (ok := ok) I [] [] h k
  simpa using this
/-! ### dicts -/
section
variable {κ β : Type} [DecidableEq κ]
theorem dget_some_mem {m : List (κ × β)} {k : κ} {v : β} (h : dget m k = some v) : (k, v) ∈ m := by
  unfold dget at h
  cases e : m.find? (fun p => decide (p.1 = k)) with
  | none => rw [e] at h; simp at h
  | some p =>
    rw [e] at h
    simp at h
    have h1 := List.find?_some e
    have h2 := List.mem_of_find?_eq_some e
    simp at h1
    rw [← h1, ← h]; exact h2
theorem mem_dkeys {m : List (κ × β)} {k : κ} : k ∈ dkeys m ↔ (dget m k).isSome = true := by
  rw [← dget_any]
  unfold dkeys
  simp
theorem dget_append (m n : List (κ × β)) (k : κ) : dget (m ++ n) k = (dget m k).or (dget n k) := by
  induction m with
  | nil => simp [dget_nil]
  | cons p m ih =>
    rw [List.cons_append, dget_cons, dget_cons, ih]
    split
    · simp
    · rfl
theorem dget_dput (m : List (κ × β)) (k k' : κ) (v : β) : dget (dput m k v) k' = if k = k' then some v else dget m k' := by
  unfold dput
  rw [dget_any]
  cases h : (dget m k).isSome with
  | false =>
    simp only [Bool.false_eq_true, if_false]
    rw [dget_append, dget_cons, dget_nil]
    by_cases e : k = k'
    · subst e
      have h2 : dget m k = none := by simpa using h
      rw [h2]; simp
    · rw [if_neg e, if_neg e]; simp
  | true =>
    simp only [if_true]
    induction m with
    | nil => simp [dget_nil] at h
    | cons p m ih =>
      rw [List.map_cons, dget_cons]
      rw [dget_cons] at h
      by_cases e : p.1 = k
      · rw [if_pos e]
        by_cases e2 : k = k'
        · rw [if_pos (by exact e.trans e2), if_pos e2]
        · rw [if_neg (by show ¬ p.1 = k'; rw [e]; exact e2), if_neg e2, dget_cons, if_neg (by rw [e]; exact e2)]
          clear ih h e
          induction m with
          | nil => rfl
          | cons q m ih =>
            rw [List.map_cons, dget_cons, dget_cons, ih]
            by_cases e : q.1 = k
            · rw [if_pos e, if_neg (by show ¬ q.1 = k'; rw [e]; exact e2), if_neg (by rw [e]; exact e2)]
            · rw [if_neg e]
      · rw [if_neg e] at h
        have := ih h
        rw [if_neg e, this, dget_cons]
        by_cases e2 : k = k'
        · subst e2; rw [if_neg e, if_pos rfl, if_pos rfl]
        · rw [if_neg e2, if_neg e2]
theorem dkeys_dput (m : List (κ × β)) (k : κ) (v : β) : dkeys (dput m k v) = if k ∈ dkeys m then dkeys m else dkeys m ++ [k] := by
  unfold dput
  rw [dget_any]
  by_cases h : k ∈ dkeys m
  · rw [if_pos h, if_pos (mem_dkeys.mp h)]
    unfold dkeys
    rw [List.map_map]
    refine List.map_congr_left fun p hp => ?_
    simp only [Function.comp]
    split <;> rfl
  · rw [if_neg h, if_neg (fun q => h (mem_dkeys.mpr q))]
    unfold dkeys
    simp
theorem dput_nodup {m : List (κ × β)} (h : (dkeys m).Nodup) (k : κ) (v : β) : (dkeys (dput m k v)).Nodup := by
  rw [dkeys_dput]
  split
  · exact h
  · rename_i h1
    rw [List.nodup_append]
    refine ⟨h, by simp, ?_⟩
    intro a ha b hb
    simp at hb
    subst hb
    intro e
    subst e
    exact h1 ha
theorem foldl_dput_nodup {α : Type} (f : α → κ) (g : α → β) : ∀ (xs : List α) {m : List (κ × β)}, (dkeys m).Nodup → (dkeys (xs.foldl (fun m x => dput m (f x) (g x)) m)).Nodup
  | [], _, h => h
  | x :: xs, m, h => foldl_dput_nodup f g xs (dput_nodup h _ _)
theorem dmerge_nodup {m : List (κ × β)} (h : (dkeys m).Nodup) (n : List (κ × β)) : (dkeys (dmerge m n)).Nodup := foldl_dput_nodup (α := κ × β) (fun p => p.1) (fun p => p.2) n h
theorem dictOf_nodup {α : Type} (xs : List α) (p : α → Bool) (f : α → κ) (g : α → β) : (dkeys (dictOf xs p f g)).Nodup := foldl_dput_nodup f g _ (by simp [dkeys])
theorem dpairs_nodup (ps : List (κ × β)) : (dkeys (dpairs ps)).Nodup := dmerge_nodup (by simp [dkeys]) ps
/-- folded writes, all the same value -/
theorem dget_foldl_const {α : Type} (f : α → κ) (v : β) (k : κ) : ∀ (xs : List α) (m : List (κ × β)), dget (xs.foldl (fun m x => dput m (f x) v) m) k = if ∃ x ∈ xs, f x = k then some v else dget m k
  | [], m => by simp
  | x :: xs, m => by
    rw [List.foldl_cons, dget_foldl_const f v k xs, dget_dput]
    by_cases h1 : ∃ y ∈ xs, f y = k
    · rw [if_pos h1, if_pos (let ⟨y, hy, e⟩ := h1; ⟨y, List.mem_cons_of_mem _ hy, e⟩)]
    · rw [if_neg h1]
      by_cases h2 : f x = k
      · rw [if_pos h2, if_pos ⟨x, by simp, h2⟩]
      · rw [if_neg h2, if_neg]
        rintro ⟨y, hy, e⟩
        rcases List.mem_cons.mp hy with rfl | hy
        · exact h2 e
        · exact h1 ⟨y, hy, e⟩
theorem dget_dictOf_const {α : Type} (xs : List α) (p : α → Bool) (f : α → κ) (v : β) (k : κ) : dget (dictOf xs p f (fun _ => v)) k = if ∃ x ∈ xs, p x = true ∧ f x = k then some v else none := by
  unfold dictOf
  rw [dget_foldl_const, dget_nil]
  simp only [List.mem_filter, and_assoc]
theorem dget_dmerge {n : List (κ × β)} (h : (dkeys n).Nodup) (k : κ) : ∀ m : List (κ × β), dget (dmerge m n) k = (dget n k).or (dget m k) := by
  induction n with
  | nil => intro m; simp [dmerge, dget_nil]
  | cons p n ih =>
    intro m
    have h : p.1 ∉ dkeys n ∧ (dkeys n).Nodup := by simpa [dkeys] using h
    show dget (dmerge (dput m p.1 p.2) n) k = _
    rw [ih h.2, dget_dput, dget_cons]
    by_cases e : p.1 = k
    · subst e
      have : dget n p.1 = none := by
        cases q : dget n p.1 with
        | none => rfl
        | some v => exact absurd (mem_dkeys.mpr (by rw [q]; rfl)) h.1
      rw [this, if_pos rfl, if_pos rfl]; simp
    · rw [if_neg e, if_neg e]
theorem mem_dkeys_dput {m : List (κ × β)} {k k' : κ} {v : β} : k' ∈ dkeys (dput m k v) ↔ k' = k ∨ k' ∈ dkeys m := by
  rw [mem_dkeys, dget_dput, mem_dkeys]
  by_cases e : k = k'
  · subst e; simp
  · rw [if_neg e]
    exact ⟨.inr, fun h => h.elim (fun q => absurd q.symm e) id⟩
theorem mem_dkeys_dmerge {n : List (κ × β)} {k : κ} : ∀ {m : List (κ × β)}, k ∈ dkeys (dmerge m n) ↔ k ∈ dkeys m ∨ k ∈ n.map (·.1) := by
  induction n with
  | nil => intro m; simp [dmerge]
  | cons p n ih =>
    intro m
    show k ∈ dkeys (dmerge (dput m p.1 p.2) n) ↔ _
    rw [ih, mem_dkeys_dput]
    simp only [List.map_cons, List.mem_cons]
    constructor
    · rintro ((h | h) | h)
      · exact .inr (.inl h)
      · exact .inl h
      · exact .inr (.inr h)
    · rintro (h | h | h)
      · exact .inl (.inr h)
      · exact .inl (.inl h)
      · exact .inr h
theorem mem_dkeys_dpairs {ps : List (κ × β)} {k : κ} : k ∈ dkeys (dpairs ps) ↔ k ∈ ps.map (·.1) := by
  unfold dpairs
  rw [mem_dkeys_dmerge]
  simp [dkeys]
end
/-! ### sorted -/
theorem mem_srt {α : Type} {e : α → D} {xs : List α} {x : α} : x ∈ srt e xs ↔ x ∈ xs := (srt_perm e xs).mem_iff
theorem srt_nodup {α : Type} {e : α → D} {xs : List α} (h : xs.Nodup) : (srt e xs).Nodup := (srt_perm e xs).nodup_iff.mpr h
theorem SrtOk.tup {α : Type} [DecidableEq α] {e : α → D} [En e] [Al e] {xs : List (List α)} (hd : En.dp (eT e) ≤ 60) (h : ∀ x ∈ xs, x ≠ []) : SrtOk (eT e) xs :=
  ⟨fun _ _ _ _ => Al.al _ _, fun x _ => En.plain x, fun x _ => Nat.le_trans (En.depth x) hd, .inl fun d hd => by
    obtain ⟨x, hx, rfl⟩ := List.mem_map.mp hd
    cases x with
    | nil => exact absurd rfl (h _ hx)
    | cons a l => exact ⟨e a, l.map e, rfl⟩⟩
theorem SrtOk.pair {α β : Type} [DecidableEq α] [DecidableEq β] {ea : α → D} {eb : β → D} [En ea] [En eb] [Al ea] [Al eb] (xs : List (α × β)) (hd : En.dp (eP ea eb) ≤ 60) : SrtOk (eP ea eb) xs :=
  ⟨fun _ _ _ _ => Al.al _ _, fun x _ => En.plain x, fun x _ => Nat.le_trans (En.depth x) hd, .inl fun d hd => by
    obtain ⟨x, hx, rfl⟩ := List.mem_map.mp hd
    exact ⟨ea x.1, [eb x.2], rfl⟩⟩
/-! ### sizes of reprs -/
def ReprB (B : Nat) (d : D) : Prop := d.showable = true ∧ d.shown.length ≤ B
theorem ReprB.ok {B : Nat} {d : D} (h : ReprB B d) (hB : B ≤ 16777216) : ReprOk d := ⟨h.1, by rw [sizeLine_eq]; have := h.2; omega⟩
theorem ReprB.mono {B B' : Nat} {d : D} (h : ReprB B d) (k : B ≤ B') : ReprB B' d := ⟨h.1, Nat.le_trans h.2 k⟩
theorem ReprB.int {i : Int} (h : i.natAbs < 10 ^ 12) : ReprB 13 (.int i) := by
  refine ⟨?_, PyData.shown_int_le h⟩
  simp only [PyData.showable, decide_eq_true_eq]
  by_cases h0 : i.natAbs = 0
  · rw [h0]; decide
  · have : i.natAbs.log2 < 40 := by
      rw [Nat.log2_lt h0]
      exact Nat.lt_of_lt_of_le h (by decide)
    omega
theorem ReprB.none : ReprB 4 .none := ⟨rfl, Nat.le_refl 4⟩
theorem showableAll_of : ∀ {ds : List D}, (∀ d ∈ ds, d.showable = true) → PyData.showableAll ds = true
  | [], _ => rfl
  | d :: ds, h => by
    simp only [PyData.showableAll, Bool.and_eq_true]
    exact ⟨h d (by simp), showableAll_of fun x hx => h x (by simp [hx])⟩
theorem shownAll_sum {B : Nat} : ∀ {ds : List D}, (∀ d ∈ ds, d.shown.length ≤ B) → ((PyData.shownAll ds).map (·.length)).sum ≤ ds.length * B
  | [], _ => by simp [PyData.shownAll]
  | d :: ds, h => by
    have a := h d (by simp)
    have b := shownAll_sum (B := B) (ds := ds) fun x hx => h x (by simp [hx])
    simp only [PyData.shownAll, List.map_cons, List.sum_cons, List.length_cons, Nat.add_mul]
    omega
theorem ReprB.tuple {B n : Nat} {ds : List D} (h : ∀ d ∈ ds, ReprB B d) (hn : ds.length ≤ n) : ReprB (n * (B + 2) + 3) (.tuple ds) := by
  refine ⟨by simp only [PyData.showable]; exact showableAll_of fun d hd => (h d hd).1, ?_⟩
  have a := tupleText_len_le (PyData.shownAll ds)
  have b := shownAll_sum fun d hd => (h d hd).2
  have c := PyData.shownAll_length ds
  have e : ds.length * B + 2 * ds.length ≤ n * (B + 2) := by rw [Nat.mul_comm 2, ← Nat.mul_add]; exact Nat.mul_le_mul_right _ hn
  simp only [PyData.shown]
  omega
theorem ReprB.eT {α : Type} {en : α → D} {B n : Nat} {xs : List α} (h : ∀ x ∈ xs, ReprB B (en x)) (hn : xs.length ≤ n) : ReprB (n * (B + 2) + 3) (eT en xs) :=
  .tuple (fun d hd => by obtain ⟨x, hx, rfl⟩ := List.mem_map.mp hd; exact h x hx) (by simpa using hn)
theorem ReprB.eP {α β : Type} {ea : α → D} {eb : β → D} {B : Nat} {p : α × β} (h1 : ReprB B (ea p.1)) (h2 : ReprB B (eb p.2)) : ReprB (2 * (B + 2) + 3) (eP ea eb p) :=
  .tuple (n := 2) (fun d hd => by
    rcases List.mem_cons.mp hd with rfl | hd
    · exact h1
    · rcases List.mem_cons.mp hd with rfl | hd
      · exact h2
      · simp at hd) (by simp)
theorem ReprB.eO {α : Type} {en : α → D} {B : Nat} {o : Option α} (hB : 4 ≤ B) (h : ∀ x, o = some x → ReprB B (en x)) : ReprB B (eO en o) := by
  cases o with
  | none => exact ReprB.none.mono hB
  | some x => exact h x rfl
/-! ### least -/
theorem exists_least {P : Nat → Prop} : ∀ {k : Nat}, P k → ∃ j, P j ∧ j ≤ k ∧ ∀ i, i < j → ¬ P i := by
  intro k
  induction k using Nat.strongRecOn with
  | _ k ih =>
    intro h
    by_cases q : ∃ i, i < k ∧ P i
    · obtain ⟨i, hi, pi⟩ := q
      obtain ⟨j, h1, h2, h3⟩ := ih i hi pi
      exact ⟨j, h1, by omega, h3⟩
    · exact ⟨k, h, Nat.le_refl _, fun i hi pi => q ⟨i, hi, pi⟩⟩
end DL

/-! MB, part b: webs and their distances. -/
namespace DL
open PySem PySem.Spec PyProof.Rows L2
theorem nodup_sub_len {α : Type} [DecidableEq α] : ∀ {xs ys : List α}, xs.Nodup → (∀ x ∈ xs, x ∈ ys) → xs.length ≤ ys.length
  | [], _, _, _ => by simp
  | x :: xs, ys, h, k => by
    rw [List.nodup_cons] at h
    have hx := k x (by simp)
    have := nodup_sub_len (xs := xs) (ys := ys.erase x) h.2 fun z hz => (List.mem_erase_of_ne (fun (e : z = x) => h.1 (by rw [← e]; exact hz))).mpr (k z (by simp [hz]))
    rw [List.length_erase_of_mem hx] at this
    have : 0 < ys.length := List.length_pos_of_mem hx
    simp only [List.length_cons]
    omega
theorem rep_one {α : Type} (x : α) (n : Int) : rep [x] n = List.replicate n.toNat x := by
  unfold rep
  induction n.toNat with
  | zero => rfl
  | succ k ih => rw [List.replicate_succ, List.flatten_cons, ih, List.replicate_succ]; rfl
theorem nth_rep {α : Type} [Inhabited α] {x : α} {n i : Int} (h0 : 0 ≤ i) (h : i < n) : nth (rep [x] n) i = x := by
  rw [rep_one]
  exact nth_get h0 (by rw [List.getElem?_replicate, if_pos (by omega)])
theorem rep_one_length {α : Type} (x : α) (n : Int) : (rep [x] n).length = n.toNat := by rw [rep_one]; simp
abbrev Rg (n x : Int) : Prop := 0 ≤ x ∧ x < n
def Adj (ties : List (Int × Int)) (a b : Int) : Prop := (a, b) ∈ ties ∨ (b, a) ∈ ties
instance (ties : List (Int × Int)) (a b : Int) : Decidable (Adj ties a b) := by unfold Adj; exact inferInstance
theorem Adj.symm {ties : List (Int × Int)} {a b : Int} (h : Adj ties a b) : Adj ties b a := Or.symm h
/-- ties named plainly: the lesser end first -/
structure Tied (n : Int) (ties : List (Int × Int)) : Prop where
  lo : 0 ≤ n
  hi : n < 64
  tl : ties.length ≤ 1048576
  rg : ∀ t ∈ ties, 0 ≤ t.1 ∧ t.1 < t.2 ∧ t.2 < n
/-- a web and its distances -/
structure Net (n : Int) (ties : List (Int × Int)) (d : Int → Int → Int) : Prop extends Tied n ties where
  nn : ∀ x y, Rg n x → Rg n y → 0 ≤ d x y ∧ d x y ≤ 1000000
  ze : ∀ x y, Rg n x → Rg n y → (d x y = 0 ↔ x = y)
  st : ∀ x a b, Rg n x → Adj ties a b → d x b ≤ d x a + 1
  bk : ∀ x y, Rg n x → Rg n y → x ≠ y → ∃ a, Rg n a ∧ Adj ties a y ∧ d x a + 1 = d x y
theorem Tied.adj {n : Int} {ties : List (Int × Int)} (h : Tied n ties) {a b : Int} (k : Adj ties a b) : Rg n a ∧ Rg n b ∧ a ≠ b := by
  rcases k with k | k
  · have := h.rg _ k; simp only at this; unfold Rg; omega
  · have := h.rg _ k; simp only at this; unfold Rg; omega
theorem Tied.adj_min {n : Int} {ties : List (Int × Int)} (h : Tied n ties) {a b : Int} : Adj ties a b ↔ (min a b, max a b) ∈ ties := by
  constructor
  · rintro (k | k)
    · have := h.rg _ k; simp only at this
      rwa [Int.min_eq_left (by omega), Int.max_eq_right (by omega)]
    · have := h.rg _ k; simp only at this
      rwa [Int.min_eq_right (by omega), Int.max_eq_left (by omega)]
  · intro k
    by_cases e : a ≤ b
    · rw [Int.min_eq_left e, Int.max_eq_right e] at k; exact .inl k
    · rw [Int.min_eq_right (by omega), Int.max_eq_left (by omega)] at k; exact .inr k
/-- every length below a length that is met is met -/
theorem Net.down {n : Int} {ties : List (Int × Int)} {d : Int → Int → Int} (h : Net n ties d) {x : Int} (hx : Rg n x) : ∀ (k : Nat) {y : Int}, Rg n y → d x y = k → ∀ j : Nat, j ≤ k → ∃ z, Rg n z ∧ d x z = j := by
  intro k
  induction k with
  | zero => intro y hy e j hj; exact ⟨y, hy, by omega⟩
  | succ k ih =>
    intro y hy e j hj
    by_cases q : j = k + 1
    · exact ⟨y, hy, by omega⟩
    · have ne : x ≠ y := fun e2 => by have := (h.ze x y hx hy).mpr e2; omega
      obtain ⟨a, ha, _, ea⟩ := h.bk x y hx hy ne
      exact ih ha (by omega) j (by omega)
def tab (n : Int) (d : Int → Int → Int) : List (List (Option Int)) := (rng 0 n).map fun x => (rng 0 n).map fun y => some (d x y)
theorem tab_row {n : Int} {d : Int → Int → Int} {x : Int} (hx : Rg n x) : nth (tab n d) x = (rng 0 n).map fun y => some (d x y) := nth_map_rng hx.1 hx.2
theorem tab_at {n : Int} {d : Int → Int → Int} {x y : Int} (hx : Rg n x) (hy : Rg n y) : nth (nth (tab n d) x) y = some (d x y) := by
  rw [tab_row hx, nth_map_rng hy.1 hy.2]
theorem tab_inB {n : Int} {d : Int → Int → Int} {x : Int} (hx : Rg n x) : InB (tab n d) x := inB_map_rng hx.1 hx.2
theorem tab_inB2 {n : Int} {d : Int → Int → Int} {x y : Int} (hx : Rg n x) (hy : Rg n y) : InB (nth (tab n d) x) y := by rw [tab_row hx]; exact inB_map_rng hy.1 hy.2
theorem tab_repr {n : Int} {ties : List (Int × Int)} {d : Int → Int → Int} (h : Net n ties d) : ReprOk ((eT (eT (eO PyData.int))) (tab n d)) := by
  refine ReprB.ok (B := 64 * (64 * (13 + 2) + 3 + 2) + 3) (ReprB.eT (n := 64) (fun r hr => ReprB.eT (n := 64) (fun o ho => ?_) ?_) ?_) (by decide)
  · obtain ⟨x, hx, rfl⟩ := List.mem_map.mp hr
    obtain ⟨y, hy, rfl⟩ := List.mem_map.mp ho
    rw [mem_rng] at hx hy
    have := h.nn x y hx hy
    refine ReprB.eO (by decide) fun i e => ReprB.int ?_
    cases e
    omega
  · obtain ⟨x, hx, rfl⟩ := List.mem_map.mp hr
    rw [List.length_map, rng_length]
    have := h.hi; omega
  · unfold tab
    rw [List.length_map, rng_length]
    have := h.hi; omega
/-! ### walks -/
def Wlk (ties : List (Int × Int)) : Nat → Int → Int → Prop
  | 0, x, y => x = y
  | k + 1, x, y => ∃ a, Wlk ties k x a ∧ Adj ties a y
theorem Wlk.app {ties : List (Int × Int)} {x y : Int} {k : Nat} (h : Wlk ties k x y) : ∀ {j : Nat} {z : Int}, Wlk ties j y z → Wlk ties (k + j) x z
  | 0, z, q => by cases q; exact h
  | j + 1, z, ⟨a, q, r⟩ => ⟨a, h.app q, r⟩
theorem Wlk.symm {ties : List (Int × Int)} : ∀ {k : Nat} {x y : Int}, Wlk ties k x y → Wlk ties k y x
  | 0, x, y, q => Eq.symm (show x = y from q)
  | k + 1, x, y, ⟨a, q, r⟩ => by
    have h1 : Wlk ties 1 y a := ⟨y, rfl, r.symm⟩
    have := h1.app q.symm
    rwa [Nat.add_comm] at this
/-- a web that hangs together has distances -/
theorem net_of {n : Int} {ties : List (Int × Int)} (h : Tied n ties) (B : Nat) (hB : B ≤ 1000000) (c : ∀ x y, Rg n x → Rg n y → ∃ k, k ≤ B ∧ Wlk ties k x y) : ∃ d, Net n ties d ∧ (∀ x y, Rg n x → Rg n y → d x y = d y x) := by
  have ch : ∀ x y, ∃ k : Nat, Rg n x → Rg n y → Wlk ties k x y ∧ k ≤ B ∧ ∀ i, i < k → ¬ Wlk ties i x y := fun x y => by
    by_cases q : Rg n x ∧ Rg n y
    · obtain ⟨k, h1, h2⟩ := c x y q.1 q.2
      obtain ⟨j, w, l, m⟩ := exists_least (P := fun k => Wlk ties k x y) h2
      exact ⟨j, fun _ _ => ⟨w, by omega, m⟩⟩
    · exact ⟨0, fun h1 h2 => absurd ⟨h1, h2⟩ q⟩
  obtain ⟨f, hf⟩ : ∃ f : Int → Int → Nat, ∀ x y, Rg n x → Rg n y → Wlk ties (f x y) x y ∧ f x y ≤ B ∧ ∀ i, i < f x y → ¬ Wlk ties i x y :=
    ⟨fun x y => (ch x y).choose, fun x y => (ch x y).choose_spec⟩
  have le : ∀ x y k, Rg n x → Rg n y → Wlk ties k x y → f x y ≤ k := fun x y k hx hy w => by
    by_cases q : f x y ≤ k
    · exact q
    · exact absurd w ((hf x y hx hy).2.2 k (by omega))
  have z0 : ∀ x y, Rg n x → Rg n y → (f x y = 0 ↔ x = y) := fun x y hx hy => by
    constructor
    · intro e; have := (hf x y hx hy).1; rw [e] at this; exact this
    · intro e; have := le x y 0 hx hy e; omega
  refine ⟨fun x y => f x y, ⟨h, fun x y hx hy => ?_, fun x y hx hy => ?_, fun x a b hx k => ?_, fun x y hx hy ne => ?_⟩, fun x y hx hy => ?_⟩
  · have := (hf x y hx hy).2.1; omega
  · rw [← z0 x y hx hy]; omega
  · have ⟨ha, hb, _⟩ := h.adj k
    have := le x b (f x a + 1) hx hb ⟨a, (hf x a hx ha).1, k⟩
    omega
  · have w := (hf x y hx hy).1
    cases e : f x y with
    | zero => exact absurd ((z0 x y hx hy).mp e) ne
    | succ k =>
      rw [e] at w
      obtain ⟨a, w, r⟩ := w
      have ha := (h.adj r).1
      refine ⟨a, ha, r, ?_⟩
      have l1 := le x a k hx ha w
      have l2 := le x y (f x a + 1) hx hy ⟨a, (hf x a hx ha).1, r⟩
      rw [e] at l2
      show (f x a : Int) + 1 = ((k + 1 : Nat) : Int)
      omega
  · have l1 := le x y _ hx hy (hf y x hy hx).1.symm
    have l2 := le y x _ hy hx (hf x y hx hy).1.symm
    show (f x y : Int) = f y x
    omega
end DL

/-! MB, part c: words, their distances, lots. -/
namespace DL
open PySem PySem.Spec PyProof.Rows L2
abbrev Wrd := List Int
def ham : Wrd → Wrd → Int
  | x :: xs, y :: ys => (if x = y then 0 else 1) + ham xs ys
  | _, _ => 0
theorem ham_zip : ∀ u v : Wrd, ((((List.zip u v).filter (fun (q3 : (Int × Int)) => (!(decide (q3.1 = q3.2))))).map (fun (q3 : (Int × Int)) => (1 : Int))).length : Int) = ham u v
  | [], _ => by simp [ham]
  | _ :: _, [] => by simp [ham]
  | x :: xs, y :: ys => by
    have := ham_zip xs ys
    rw [List.zip_cons_cons, List.filter_cons]
    unfold ham
    by_cases e : x = y
    · rw [if_pos e, if_neg (by simp [e])]; omega
    · rw [if_neg e, if_pos (by simp [e]), List.map_cons, List.length_cons]; omega
theorem ham_nonneg : ∀ u v : Wrd, 0 ≤ ham u v
  | [], _ => by simp [ham]
  | _ :: _, [] => by simp [ham]
  | x :: xs, y :: ys => by have := ham_nonneg xs ys; unfold ham; split <;> omega
theorem ham_le : ∀ u v : Wrd, ham u v ≤ u.length
  | [], _ => by simp [ham]
  | _ :: _, [] => by simp [ham]; omega
  | x :: xs, y :: ys => by have := ham_le xs ys; unfold ham; simp only [List.length_cons]; split <;> omega
theorem ham_symm : ∀ u v : Wrd, ham u v = ham v u
  | [], [] => rfl
  | [], _ :: _ => rfl
  | _ :: _, [] => rfl
  | x :: xs, y :: ys => by
    have := ham_symm xs ys
    unfold ham
    by_cases e : x = y
    · rw [if_pos e, if_pos e.symm, this]
    · rw [if_neg e, if_neg (fun q => e q.symm), this]
theorem ham_zero : ∀ {u v : Wrd}, u.length = v.length → (ham u v = 0 ↔ u = v)
  | [], [], _ => by simp [ham]
  | [], _ :: _, h => by simp at h
  | _ :: _, [], h => by simp at h
  | x :: xs, y :: ys, h => by
    have := ham_zero (u := xs) (v := ys) (by simpa using h)
    have := ham_nonneg xs ys
    unfold ham
    by_cases e : x = y
    · rw [if_pos e]; simp [e]; assumption
    · rw [if_neg e]; simp [e]; omega
theorem ham_self (u : Wrd) : ham u u = 0 := (ham_zero rfl).mpr rfl
theorem ham_tri : ∀ {u v w : Wrd}, u.length = v.length → v.length = w.length → ham u w ≤ ham u v + ham v w
  | [], [], [], _, _ => by simp [ham]
  | x :: xs, y :: ys, z :: zs, h1, h2 => by
    have := ham_tri (u := xs) (v := ys) (w := zs) (by simpa using h1) (by simpa using h2)
    unfold ham
    by_cases e : x = z
    · rw [if_pos e]; split <;> split <;> omega
    · rw [if_neg e]
      by_cases e2 : x = y
      · rw [if_pos e2, if_neg (fun q => e (e2.trans q))]; omega
      · rw [if_neg e2]; split <;> omega
  | [], _ :: _, _, h, _ => by simp at h
  | _ :: _, [], _, h, _ => by simp at h
  | [], [], _ :: _, _, h => by simp at h
  | _ :: _, _ :: _, [], _, h => by simp at h
theorem ham_snoc : ∀ {u v : Wrd} {a b : Int}, u.length = v.length → ham (u ++ [a]) (v ++ [b]) = ham u v + if a = b then 0 else 1
  | [], [], _, _, _ => by simp [ham]
  | [], _ :: _, _, _, h => by simp at h
  | _ :: _, [], _, _, h => by simp at h
  | x :: xs, y :: ys, a, b, h => by
    have := ham_snoc (u := xs) (v := ys) (a := a) (b := b) (by simpa using h)
    simp only [List.cons_append, ham, this]
    omega
/-- a word of k letters 0, 1 -/
def Bw (k : Nat) (w : Wrd) : Prop := w.length = k ∧ ∀ a ∈ w, a = 0 ∨ a = 1
theorem Bw.snoc {k : Nat} {w : Wrd} (h : Bw k w) {a : Int} (ha : a = 0 ∨ a = 1) : Bw (k + 1) (w ++ [a]) := ⟨by simp [h.1], fun b hb => by
  rcases List.mem_append.mp hb with hb | hb
  · exact h.2 b hb
  · rw [List.mem_singleton] at hb; subst hb; exact ha⟩
theorem Bw.cons_inv {k : Nat} {w : Wrd} (h : Bw (k + 1) w) : ∃ x xs, w = x :: xs ∧ (x = 0 ∨ x = 1) ∧ Bw k xs := by
  match w, h with
  | [], h => have := h.1; simp at this
  | x :: xs, h => exact ⟨x, xs, rfl, h.2 x (by simp), by have := h.1; simpa using this, fun a ha => h.2 a (by simp [ha])⟩
theorem Bw.nil_inv {w : Wrd} (h : Bw 0 w) : w = [] := List.length_eq_zero_iff.mp h.1
/-- parity -/
theorem ham_even : ∀ {k : Nat} {u v w : Wrd}, Bw k u → Bw k v → Bw k w → ∃ m, ham u v + ham v w + ham u w = 2 * m
  | 0, u, v, w, h1, h2, h3 => by rw [h1.nil_inv, h2.nil_inv, h3.nil_inv]; exact ⟨0, rfl⟩
  | k + 1, u, v, w, h1, h2, h3 => by
    obtain ⟨x, xs, rfl, hx, g1⟩ := h1.cons_inv
    obtain ⟨y, ys, rfl, hy, g2⟩ := h2.cons_inv
    obtain ⟨z, zs, rfl, hz, g3⟩ := h3.cons_inv
    obtain ⟨m, e⟩ := ham_even g1 g2 g3
    simp only [ham]
    rcases hx with rfl | rfl <;> rcases hy with rfl | rfl <;> rcases hz with rfl | rfl <;> simp
    · exact ⟨m, by omega⟩
    · exact ⟨m + 1, by omega⟩
    · exact ⟨m + 1, by omega⟩
    · exact ⟨m + 1, by omega⟩
    · exact ⟨m + 1, by omega⟩
    · exact ⟨m + 1, by omega⟩
    · exact ⟨m + 1, by omega⟩
    · exact ⟨m, by omega⟩
/-- five words -/
theorem penta : ∀ {k : Nat} {a b c u v : Wrd}, Bw k a → Bw k b → Bw k c → Bw k u → Bw k v → ham a b + ham a c + ham b c + ham u v - ham a u - ham a v - ham b u - ham b v - ham c u - ham c v ≤ 0
  | 0, a, b, c, u, v, h1, h2, h3, h4, h5 => by rw [h1.nil_inv, h2.nil_inv, h3.nil_inv, h4.nil_inv, h5.nil_inv]; decide
  | k + 1, a, b, c, u, v, h1, h2, h3, h4, h5 => by
    obtain ⟨x1, l1, rfl, e1, g1⟩ := h1.cons_inv
    obtain ⟨x2, l2, rfl, e2, g2⟩ := h2.cons_inv
    obtain ⟨x3, l3, rfl, e3, g3⟩ := h3.cons_inv
    obtain ⟨x4, l4, rfl, e4, g4⟩ := h4.cons_inv
    obtain ⟨x5, l5, rfl, e5, g5⟩ := h5.cons_inv
    have := penta g1 g2 g3 g4 g5
    simp only [ham]
    rcases e1 with rfl | rfl <;> rcases e2 with rfl | rfl <;> rcases e3 with rfl | rfl <;> rcases e4 with rfl | rfl <;> rcases e5 with rfl | rfl <;> simp <;> omega
/-! ### between -/
theorem nth_cons_succ {x : Int} {xs : Wrd} {i : Int} (h : 0 ≤ i) : nth (x :: xs) (i + 1) = nth xs i := by
  rw [nth_nat (by omega), nth_nat h, show (i + 1).toNat = i.toNat + 1 by omega]
  rfl
theorem btw_ham : ∀ {k : Nat} {w u v : Wrd}, Bw k w → Bw k u → Bw k v → ((∀ i : Int, 0 ≤ i → i < k → nth u i = nth v i → nth w i = nth u i) ↔ ham u w + ham w v = ham u v)
  | 0, w, u, v, h1, h2, h3 => by
    rw [h1.nil_inv, h2.nil_inv, h3.nil_inv]
    exact ⟨fun _ => rfl, fun _ i h0 h1 => by omega⟩
  | k + 1, w, u, v, h1, h2, h3 => by
    obtain ⟨x, xs, rfl, hx, g1⟩ := h1.cons_inv
    obtain ⟨y, ys, rfl, hy, g2⟩ := h2.cons_inv
    obtain ⟨z, zs, rfl, hz, g3⟩ := h3.cons_inv
    have ih := btw_ham g1 g2 g3
    have t := ham_tri (u := ys) (v := xs) (w := zs) (by rw [g1.1, g2.1]) (by rw [g1.1, g3.1])
    have split : (∀ i : Int, 0 ≤ i → i < (k + 1 : Nat) → nth (y :: ys) i = nth (z :: zs) i → nth (x :: xs) i = nth (y :: ys) i) ↔ (y = z → x = y) ∧ (∀ i : Int, 0 ≤ i → i < k → nth ys i = nth zs i → nth xs i = nth ys i) := by
      constructor
      · intro q
        refine ⟨q 0 (by omega) (by omega), fun i h0 h1 => ?_⟩
        have := q (i + 1) (by omega) (by omega)
        rwa [nth_cons_succ h0, nth_cons_succ h0, nth_cons_succ h0] at this
      · rintro ⟨q1, q2⟩ i h0 h1
        by_cases z0 : i = 0
        · subst z0; exact q1
        · have := q2 (i - 1) (by omega) (by omega)
          have e1 := nth_cons_succ (x := x) (xs := xs) (i := i - 1) (by omega)
          have e2 := nth_cons_succ (x := y) (xs := ys) (i := i - 1) (by omega)
          have e3 := nth_cons_succ (x := z) (xs := zs) (i := i - 1) (by omega)
          rw [show i - 1 + 1 = i by omega] at e1 e2 e3
          rw [e1, e2, e3]
          exact this
    rw [split, ih]
    simp only [ham]
    rcases hx with rfl | rfl <;> rcases hy with rfl | rfl <;> rcases hz with rfl | rfl <;> simp <;> omega
/-- a lot that keeps its distances -/
structure Iso (k : Nat) (lot : List Wrd) : Prop where
  nd : lot.Nodup
  bw : ∀ w ∈ lot, Bw k w
  st : ∀ x ∈ lot, ∀ y ∈ lot, x ≠ y → ∃ a ∈ lot, ham a y = 1 ∧ ham x a + 1 = ham x y
/-- with two words all words between, within the lot -/
def Cvx (lot C : List Wrd) : Prop := ∀ u ∈ C, ∀ v ∈ C, ∀ w ∈ lot, ham u w + ham w v = ham u v → w ∈ C
theorem Iso.blow {k : Nat} {lot one other new : List Wrd} (h : Iso k lot) (n1 : one.Nodup) (n2 : other.Nodup) (s1 : ∀ w ∈ one, w ∈ lot) (s2 : ∀ w ∈ other, w ∈ lot) (c1 : Cvx lot one) (c2 : Cvx lot other) (cov : ∀ w ∈ lot, w ∈ one ∨ w ∈ other) (mt : ∃ w, w ∈ one ∧ w ∈ other)
    (hn : new.Perm (one.map (· ++ [0]) ++ other.map (· ++ [1]))) : Iso (k + 1) new := by
  have mem : ∀ z, z ∈ new ↔ (∃ w ∈ one, w ++ [0] = z) ∨ ∃ w ∈ other, w ++ [1] = z := fun z => by
    rw [hn.mem_iff, List.mem_append, List.mem_map, List.mem_map]
  have len : ∀ u ∈ lot, ∀ v ∈ lot, u.length = v.length := fun u hu v hv => by rw [(h.bw u hu).1, (h.bw v hv).1]
  obtain ⟨w0, m1, m2⟩ := mt
  -- no tie between what only one has and what only the other has
  have noTie : ∀ a ∈ one, a ∉ other → ∀ b ∈ other, b ∉ one → ham a b ≠ 1 := fun a ha ha' b hb hb' e => by
    have b1 := h.bw a (s1 a ha)
    have b2 := h.bw b (s2 b hb)
    have b3 := h.bw w0 (s1 w0 m1)
    obtain ⟨m, em⟩ := ham_even b3 b1 b2
    have t1 := ham_tri (u := w0) (v := a) (w := b) (by rw [b3.1, b1.1]) (by rw [b1.1, b2.1])
    have t2 := ham_tri (u := w0) (v := b) (w := a) (by rw [b3.1, b2.1]) (by rw [b1.1, b2.1])
    rw [ham_symm b a] at t2
    by_cases q : ham w0 a < ham w0 b
    · exact ha' (c2 w0 m2 b hb a (s1 a ha) (by omega))
    · exact hb' (c1 w0 m1 a ha b (s2 b hb) (by rw [ham_symm b a]; omega))
  refine ⟨?_, ?_, ?_⟩
  · rw [hn.nodup_iff, List.nodup_append]
    refine ⟨List.Pairwise.map _ (fun x y e q => ?_) n1, List.Pairwise.map _ (fun x y e q => ?_) n2, ?_⟩
    · exact e (List.append_cancel_right q)
    · exact e (List.append_cancel_right q)
    · intro a ha b hb e
      obtain ⟨u, _, rfl⟩ := List.mem_map.mp ha
      obtain ⟨v, _, rfl⟩ := List.mem_map.mp hb
      have := List.append_inj' e rfl
      simp at this
  · intro z hz
    rcases (mem z).mp hz with ⟨w, hw, rfl⟩ | ⟨w, hw, rfl⟩
    · exact (h.bw w (s1 w hw)).snoc (.inl rfl)
    · exact (h.bw w (s2 w hw)).snoc (.inr rfl)
  · intro x hx y hy ne
    rcases (mem x).mp hx with ⟨u, hu, rfl⟩ | ⟨u, hu, rfl⟩ <;> rcases (mem y).mp hy with ⟨v, hv, rfl⟩ | ⟨v, hv, rfl⟩
    · have e : u ≠ v := fun e => ne (by rw [e])
      obtain ⟨a, ha, e1, e2⟩ := h.st u (s1 u hu) v (s1 v hv) e
      refine ⟨a ++ [0], (mem _).mpr (.inl ⟨a, c1 u hu v hv a ha (by omega), rfl⟩), ?_, ?_⟩
      · rw [ham_snoc (len a ha v (s1 v hv))]; simp [e1]
      · rw [ham_snoc (len u (s1 u hu) a ha), ham_snoc (len u (s1 u hu) v (s1 v hv))]; simp; omega
    · by_cases q : v ∈ one
      · refine ⟨v ++ [0], (mem _).mpr (.inl ⟨v, q, rfl⟩), ?_, ?_⟩
        · rw [ham_snoc rfl, ham_self]; rfl
        · rw [ham_snoc (len u (s1 u hu) v (s1 v q)), ham_snoc (len u (s1 u hu) v (s1 v q))]; simp
      · have e : u ≠ v := fun e => q (e ▸ hu)
        obtain ⟨a, ha, e1, e2⟩ := h.st u (s1 u hu) v (s2 v hv) e
        have ha2 : a ∈ other := by
          rcases cov a ha with r | r
          · by_cases r2 : a ∈ other
            · exact r2
            · exact absurd e1 (noTie a r r2 v hv q)
          · exact r
        refine ⟨a ++ [1], (mem _).mpr (.inr ⟨a, ha2, rfl⟩), ?_, ?_⟩
        · rw [ham_snoc (len a ha v (s2 v hv))]; simp [e1]
        · rw [ham_snoc (len u (s1 u hu) a ha), ham_snoc (len u (s1 u hu) v (s2 v hv))]; simp; omega
    · by_cases q : v ∈ other
      · refine ⟨v ++ [1], (mem _).mpr (.inr ⟨v, q, rfl⟩), ?_, ?_⟩
        · rw [ham_snoc rfl, ham_self]; rfl
        · rw [ham_snoc (len u (s2 u hu) v (s2 v q)), ham_snoc (len u (s2 u hu) v (s2 v q))]; simp
      · have e : u ≠ v := fun e => q (e ▸ hu)
        obtain ⟨a, ha, e1, e2⟩ := h.st u (s2 u hu) v (s1 v hv) e
        have ha2 : a ∈ one := by
          rcases cov a ha with r | r
          · exact r
          · by_cases r2 : a ∈ one
            · exact r2
            · exact absurd (by rw [ham_symm]; exact e1) (noTie v hv q a r r2)
        refine ⟨a ++ [0], (mem _).mpr (.inl ⟨a, ha2, rfl⟩), ?_, ?_⟩
        · rw [ham_snoc (len a ha v (s1 v hv))]; simp [e1]
        · rw [ham_snoc (len u (s2 u hu) a ha), ham_snoc (len u (s2 u hu) v (s1 v hv))]; simp; omega
    · have e : u ≠ v := fun e => ne (by rw [e])
      obtain ⟨a, ha, e1, e2⟩ := h.st u (s2 u hu) v (s2 v hv) e
      refine ⟨a ++ [1], (mem _).mpr (.inr ⟨a, c2 u hu v hv a ha (by omega), rfl⟩), ?_, ?_⟩
      · rw [ham_snoc (len a ha v (s2 v hv))]; simp [e1]
      · rw [ham_snoc (len u (s2 u hu) a ha), ham_snoc (len u (s2 u hu) v (s2 v hv))]; simp; omega
theorem nth_inj {α : Type} [Inhabited α] {xs : List α} (nd : xs.Nodup) {i j : Int} (hi : Rg xs.length i) (hj : Rg xs.length j) (e : nth xs i = nth xs j) : i = j := by
  have a1 := nth_at (xs := xs) (j := i) (.mk hi.1 hi.2)
  have a2 := nth_at (xs := xs) (j := j) (.mk hj.1 hj.2)
  rw [if_pos hi.1] at a1
  rw [if_pos hj.1, ← e, ← a1] at a2
  have := (List.getElem?_inj (i := j.toNat) (j := i.toNat) (by have := hj.2; have := hj.1; omega) nd).mp a2
  have := hi.1; have := hj.1
  omega
/-- the web of a lot: all pairs of words one letter apart -/
theorem Iso.net {k : Nat} {lot : List Wrd} {ties : List (Int × Int)} (h : Iso k lot) (hl : lot.length < 64) (hk : k ≤ 1000) (tl : ties.length ≤ 1048576) (ht : ∀ a b, (a, b) ∈ ties ↔ 0 ≤ a ∧ a < b ∧ b < lot.length ∧ ham (nth lot a) (nth lot b) = 1) : Net lot.length ties fun x y => ham (nth lot x) (nth lot y) := by
  have mem : ∀ x, Rg lot.length x → nth lot x ∈ lot := fun x hx => nth_mem (.mk hx.1 hx.2)
  have len : ∀ x y, Rg lot.length x → Rg lot.length y → (nth lot x).length = (nth lot y).length := fun x y hx hy => by rw [(h.bw _ (mem x hx)).1, (h.bw _ (mem y hy)).1]
  have td : Tied lot.length ties := ⟨by omega, by omega, tl, fun t ht' => by have := (ht t.1 t.2).mp ht'; omega⟩
  have adj : ∀ a b, Rg lot.length a → Rg lot.length b → ham (nth lot a) (nth lot b) = 1 → Adj ties a b := fun a b ha hb e => by
    have ne : a ≠ b := fun q => by rw [q, ham_self] at e; omega
    by_cases q : a < b
    · exact .inl ((ht a b).mpr ⟨ha.1, q, hb.2, e⟩)
    · exact .inr ((ht b a).mpr ⟨hb.1, by omega, ha.2, by rw [ham_symm]; exact e⟩)
  have adj1 : ∀ a b, Adj ties a b → ham (nth lot a) (nth lot b) = 1 := fun a b e => by
    rcases e with e | e
    · exact ((ht a b).mp e).2.2.2
    · rw [ham_symm]; exact ((ht b a).mp e).2.2.2
  refine ⟨td, fun x y hx hy => ⟨ham_nonneg _ _, ?_⟩, fun x y hx hy => ?_, fun x a b hx e => ?_, fun x y hx hy ne => ?_⟩
  · have := ham_le (nth lot x) (nth lot y)
    have := (h.bw _ (mem x hx)).1
    omega
  · rw [ham_zero (len x y hx hy)]
    exact ⟨fun e => nth_inj h.nd hx hy e, fun e => by rw [e]⟩
  · have ⟨ha, hb, _⟩ := td.adj e
    have := ham_tri (len x a hx ha) (len a b ha hb)
    have := adj1 a b e
    omega
  · obtain ⟨w, hw, e1, e2⟩ := h.st _ (mem x hx) _ (mem y hy) (fun e => ne (nth_inj h.nd hx hy e))
    obtain ⟨a, h1, h2, rfl⟩ := exists_nth hw
    exact ⟨a, ⟨h1, h2⟩, adj a y ⟨h1, h2⟩ hy e1, e2⟩
end DL

/-! MB, part d: webs looked through. -/
namespace DL
open PySem PySem.Spec PyProof.Rows L2
def netB (n : Int) (T : List (Int × Int)) (d : Int → Int → Int) : Bool :=
  decide (0 ≤ n) && decide (n < 64) && decide (T.length ≤ 1048576) && (T.all fun t => decide (0 ≤ t.1) && decide (t.1 < t.2) && decide (t.2 < n))
  && (rng 0 n).all fun x => ((rng 0 n).all fun y => decide (0 ≤ d x y) && decide (d x y ≤ 1000000) && (decide (d x y = 0) == decide (x = y)) && (decide (x = y) || (rng 0 n).any fun a => (decide ((a, y) ∈ T) || decide ((y, a) ∈ T)) && decide (d x a + 1 = d x y)))
    && T.all fun t => decide (d x t.2 ≤ d x t.1 + 1) && decide (d x t.1 ≤ d x t.2 + 1)
theorem netB_net {n : Int} {T T' : List (Int × Int)} {d : Int → Int → Int} (h : netB n T d = true) (p : T'.Perm T) : Net n T' d := by
  unfold netB at h
  simp only [Bool.and_eq_true, List.all_eq_true, decide_eq_true_eq, Bool.or_eq_true, List.any_eq_true, beq_iff_eq, mem_rng] at h
  obtain ⟨⟨⟨⟨h1, h2⟩, h3⟩, h4⟩, h5⟩ := h
  have am : ∀ a b, Adj T' a b ↔ (a, b) ∈ T ∨ (b, a) ∈ T := fun a b => by unfold Adj; rw [p.mem_iff, p.mem_iff]
  refine ⟨⟨h1, h2, by rw [p.length_eq]; exact h3, fun t ht => ?_⟩, fun x y hx hy => ?_, fun x y hx hy => ?_, fun x a b hx k => ?_, fun x y hx hy ne => ?_⟩
  · have := h4 t (p.mem_iff.mp ht); omega
  · have := ((h5 x hx).1 y hy).1.1; omega
  · have := ((h5 x hx).1 y hy).1.2
    constructor
    · intro e; rw [decide_eq_true e] at this; simpa using this.symm
    · intro e; rw [decide_eq_true e] at this; simpa using this
  · rcases (am a b).mp k with k | k
    · exact ((h5 x hx).2 _ k).1
    · exact ((h5 x hx).2 _ k).2
  · rcases ((h5 x hx).1 y hy).2 with q | ⟨a, ha, k, e⟩
    · exact absurd q ne
    · exact ⟨a, ha, (am a y).mpr k, e⟩
end DL

/-! MB, part e: what sorted gives; products of webs. -/
namespace DL
open PySem PySem.Spec PyProof.Rows L2
theorem toks_inj {x y : D} (h : PySem.W.alike x y = true) (e : PySem.W.keyToks x = PySem.W.keyToks y) : PyData.eqv x y = true := by
  cases q : PyData.eqv x y with
  | true => rfl
  | false =>
    have a := (PySem.W.toks_eqv x y h).2 q [] [Sum.inl 0]
    rw [e, PySem.W.lex_pre, PyProof.Rows.lex_irrefl] at a
    exact absurd a (by decide +kernel)
theorem srt_pw {α : Type} (en : α → D) (xs : List α) : (srt en xs).Pairwise fun a b => PySem.W.dataLt (en b) (en a) = false := by
  have h := List.pairwise_mergeSort (le := PySem.W.dataLe false en) (fun a b c h1 h2 => ?_) (fun a b => ?_) xs
  · exact h.imp fun {a b} q => by
      have : (!PySem.W.dataLt (en b) (en a)) = true := q
      simpa using this
  · have h1 : (!PySem.W.dataLt (en b) (en a)) = true := h1
    have h2 : (!PySem.W.dataLt (en c) (en b)) = true := h2
    show (!PySem.W.dataLt (en c) (en a)) = true
    cases q : PySem.W.dataLt (en c) (en a) with
    | false => rfl
    | true =>
      rcases PyProof.Rows.lex_negTrans _ (PySem.W.keyToks (en b)) _ q with r | r
      · have : PySem.W.dataLt (en c) (en b) = true := r
        rw [this] at h2; exact h2
      · have : PySem.W.dataLt (en b) (en a) = true := r
        rw [this] at h1; exact h1
  · show ((!PySem.W.dataLt (en b) (en a)) || (!PySem.W.dataLt (en a) (en b))) = true
    cases q : PySem.W.dataLt (en b) (en a) with
    | false => rfl
    | true =>
      cases r : PySem.W.dataLt (en a) (en b) with
      | false => rfl
      | true =>
        have := PyProof.Rows.lex_trans _ _ _ q r
        rw [PyProof.Rows.lex_irrefl] at this
        cases this
/-- sorted is told by its members and their order -/
theorem srt_uniq {α : Type} [DecidableEq α] {en : α → D} [En en] [Al en] {xs ys : List α} (p : ys.Perm xs) (h : ys.Pairwise fun a b => PySem.W.dataLt (en b) (en a) = false) : srt en xs = ys := by
  refine (List.Perm.eq_of_pairwise (fun a b _ _ q1 q2 => ?_) (srt_pw en xs) h ((srt_perm en xs).trans p.symm))
  have := PyProof.Rows.lex_total _ _ q2 q1
  have e := toks_inj (Al.al (e := en) a b) this
  rw [En.eqv] at e
  exact of_decide_eq_true e
theorem srt_fst {α β : Type} [DecidableEq α] [DecidableEq β] {ea : α → D} {eb : β → D} [En ea] [Al ea] [En eb] [Al eb] (xs : List (α × β)) : (srt (eP ea eb) xs).map (·.1) = srt ea (xs.map (·.1)) := by
  refine (srt_uniq ((srt_perm _ _).map _) ?_).symm
  refine List.Pairwise.map _ (fun a b q => ?_) (srt_pw (eP ea eb) xs)
  have q : PySem.W.dataLt (.tuple [ea b.1, eb b.2]) (.tuple [ea a.1, eb a.2]) = false := q
  rw [PySem.W.dataLt_pair (Al.al (e := ea) b.1 a.1) (Al.al (e := eb) b.2 a.2)] at q
  by_cases e : b.1 = a.1
  · rw [e]; exact PyProof.Rows.lex_irrefl _
  · rw [En.eqv, decide_eq_false e] at q
    simpa using q
theorem srt_congr {α : Type} [DecidableEq α] {en : α → D} [En en] [Al en] {xs ys : List α} (p : xs.Perm ys) : srt en xs = srt en ys := srt_uniq ((srt_perm en ys).trans p.symm) (srt_pw en ys)
/-! ### words side by side -/
theorem ham_append : ∀ {u v : Wrd} {a b : Wrd}, u.length = v.length → ham (u ++ a) (v ++ b) = ham u v + ham a b
  | [], [], a, b, _ => by simp [ham]
  | [], _ :: _, _, _, h => by simp at h
  | _ :: _, [], _, _, h => by simp at h
  | x :: xs, y :: ys, a, b, h => by
    have := ham_append (u := xs) (v := ys) (a := a) (b := b) (by simpa using h)
    simp only [List.cons_append, ham, this]
    omega
theorem Bw.append {k j : Nat} {u v : Wrd} (h : Bw k u) (g : Bw j v) : Bw (k + j) (u ++ v) := ⟨by simp [h.1, g.1], fun a ha => by
  rcases List.mem_append.mp ha with ha | ha
  · exact h.2 a ha
  · exact g.2 a ha⟩
/-! ### products of webs -/
theorem dm_at {m x y : Int} (hy : Rg m y) : (x * m + y) / m = x ∧ (x * m + y) % m = y := by
  have hm : 0 < m := by have := hy.1; have := hy.2; omega
  constructor
  · rw [Int.add_comm, Int.add_mul_ediv_right _ _ (by omega), Int.ediv_eq_zero_of_lt hy.1 hy.2]; omega
  · rw [Int.add_comm, Int.add_mul_emod_self_right, Int.emod_eq_of_lt hy.1 hy.2]
theorem dm_split {n m p : Int} (hm : 0 < m) (hp : Rg (n * m) p) : Rg n (p / m) ∧ Rg m (p % m) ∧ p / m * m + p % m = p := by
  refine ⟨⟨Int.ediv_nonneg hp.1 (by omega), Int.ediv_lt_of_lt_mul hm hp.2⟩, ⟨Int.emod_nonneg _ (by omega), Int.emod_lt_of_pos _ hm⟩, ?_⟩
  have := Int.mul_ediv_add_emod p m
  rw [Int.mul_comm] at this
  exact this
theorem dm_rg {n m x y : Int} (hx : Rg n x) (hy : Rg m y) : Rg (n * m) (x * m + y) := by
  have h0 : 0 ≤ x * m := Int.mul_nonneg hx.1 (by have := hy.1; have := hy.2; omega)
  have h1 : (x + 1) * m ≤ n * m := Int.mul_le_mul_of_nonneg_right (by have := hx.2; omega) (by have := hy.1; have := hy.2; omega)
  rw [Int.add_mul, Int.one_mul] at h1
  refine ⟨by have := hy.1; omega, by have := hy.2; omega⟩
theorem Net.prod {n m : Int} {T1 T2 T : List (Int × Int)} {d1 d2 : Int → Int → Int} (h1 : Net n T1 d1) (h2 : Net m T2 d2) (n0 : 0 < n) (m0 : 0 < m) (hnm : n * m < 64) (tl : T.length ≤ 1048576)
    (hd1 : ∀ x y, Rg n x → Rg n y → d1 x y ≤ 1000) (hd2 : ∀ x y, Rg m x → Rg m y → d2 x y ≤ 1000)
    (ht : ∀ t, t ∈ T ↔ (∃ x, Rg n x ∧ ∃ e ∈ T2, t = (x * m + e.1, x * m + e.2)) ∨ ∃ y, Rg m y ∧ ∃ e ∈ T1, t = (e.1 * m + y, e.2 * m + y)) :
    Net (n * m) T fun p q => d1 (p / m) (q / m) + d2 (p % m) (q % m) := by
  have td : Tied (n * m) T := by
    refine ⟨Int.mul_nonneg (by omega) (by omega), hnm, tl, fun t k => ?_⟩
    rcases (ht t).mp k with ⟨x, hx, e, he, rfl⟩ | ⟨y, hy, e, he, rfl⟩
    · have r := h2.rg e he
      have r2 := dm_rg hx (show Rg m e.2 from ⟨by omega, r.2.2⟩)
      have r1 := dm_rg hx (show Rg m e.1 from ⟨r.1, by omega⟩)
      refine ⟨r1.1, ?_, r2.2⟩
      simp only; omega
    · have r := h1.rg e he
      have r2 := dm_rg (show Rg n e.2 from ⟨by omega, r.2.2⟩) hy
      have r1 := dm_rg (show Rg n e.1 from ⟨r.1, by omega⟩) hy
      refine ⟨r1.1, ?_, r2.2⟩
      have : (e.1 + 1) * m ≤ e.2 * m := Int.mul_le_mul_of_nonneg_right (by omega) (by omega)
      rw [Int.add_mul, Int.one_mul] at this
      simp only; omega
  -- ties, told by both parts
  have adj : ∀ p q, Adj T p q → (p / m = q / m ∧ Rg n (p / m) ∧ Adj T2 (p % m) (q % m)) ∨ (p % m = q % m ∧ Rg m (p % m) ∧ Adj T1 (p / m) (q / m)) := fun p q k => by
    rcases k with k | k
    · rcases (ht _).mp k with ⟨x, hx, e, he, eq⟩ | ⟨y, hy, e, he, eq⟩
      · have e1 := congrArg Prod.fst eq; have e2 := congrArg Prod.snd eq
        simp only at e1 e2
        have r := h2.rg e he
        have a1 := dm_at (x := x) (show Rg m e.1 from ⟨r.1, by omega⟩)
        have a2 := dm_at (x := x) (show Rg m e.2 from ⟨by omega, r.2.2⟩)
        rw [← e1] at a1; rw [← e2] at a2
        rw [a1.1, a1.2, a2.1, a2.2]
        exact .inl ⟨rfl, hx, .inl he⟩
      · have e1 := congrArg Prod.fst eq; have e2 := congrArg Prod.snd eq
        simp only at e1 e2
        have a1 := dm_at (x := e.1) hy
        have a2 := dm_at (x := e.2) hy
        rw [← e1] at a1; rw [← e2] at a2
        rw [a1.1, a1.2, a2.1, a2.2]
        exact .inr ⟨rfl, hy, .inl he⟩
    · rcases (ht _).mp k with ⟨x, hx, e, he, eq⟩ | ⟨y, hy, e, he, eq⟩
      · have e1 := congrArg Prod.fst eq; have e2 := congrArg Prod.snd eq
        simp only at e1 e2
        have r := h2.rg e he
        have a1 := dm_at (x := x) (show Rg m e.1 from ⟨r.1, by omega⟩)
        have a2 := dm_at (x := x) (show Rg m e.2 from ⟨by omega, r.2.2⟩)
        rw [← e1] at a1; rw [← e2] at a2
        rw [a1.1, a1.2, a2.1, a2.2]
        exact .inl ⟨rfl, hx, .inr he⟩
      · have e1 := congrArg Prod.fst eq; have e2 := congrArg Prod.snd eq
        simp only at e1 e2
        have a1 := dm_at (x := e.1) hy
        have a2 := dm_at (x := e.2) hy
        rw [← e1] at a1; rw [← e2] at a2
        rw [a1.1, a1.2, a2.1, a2.2]
        exact .inr ⟨rfl, hy, .inr he⟩
  have mk2 : ∀ x a b, Rg n x → Adj T2 a b → Adj T (x * m + a) (x * m + b) := fun x a b hx k => by
    rcases k with k | k
    · exact .inl ((ht _).mpr (.inl ⟨x, hx, _, k, rfl⟩))
    · exact .inr ((ht _).mpr (.inl ⟨x, hx, _, k, rfl⟩))
  have mk1 : ∀ y a b, Rg m y → Adj T1 a b → Adj T (a * m + y) (b * m + y) := fun y a b hy k => by
    rcases k with k | k
    · exact .inl ((ht _).mpr (.inr ⟨y, hy, _, k, rfl⟩))
    · exact .inr ((ht _).mpr (.inr ⟨y, hy, _, k, rfl⟩))
  refine ⟨td, fun p q hp hq => ?_, fun p q hp hq => ?_, fun p a b hp k => ?_, fun p q hp hq ne => ?_⟩
  · obtain ⟨p1, p2, _⟩ := dm_split m0 hp
    obtain ⟨q1, q2, _⟩ := dm_split m0 hq
    have := h1.nn _ _ p1 q1; have := h2.nn _ _ p2 q2
    have := hd1 _ _ p1 q1; have := hd2 _ _ p2 q2
    omega
  · obtain ⟨p1, p2, p3⟩ := dm_split m0 hp
    obtain ⟨q1, q2, q3⟩ := dm_split m0 hq
    have a := h1.nn _ _ p1 q1; have b := h2.nn _ _ p2 q2
    have c := h1.ze _ _ p1 q1; have e := h2.ze _ _ p2 q2
    constructor
    · intro z
      have z1 := c.mp (by omega)
      have z2 := e.mp (by omega)
      rw [← p3, ← q3, z1, z2]
    · intro z
      rw [z] at c e ⊢
      have z1 := c.mpr rfl
      have z2 := e.mpr rfl
      omega
  · obtain ⟨p1, p2, p3⟩ := dm_split m0 hp
    rcases adj a b k with ⟨e, r, k2⟩ | ⟨e, r, k1⟩
    · have := h2.st _ _ _ p2 k2
      rw [e]; omega
    · have := h1.st _ _ _ p1 k1
      rw [e]; omega
  · obtain ⟨p1, p2, p3⟩ := dm_split m0 hp
    obtain ⟨q1, q2, q3⟩ := dm_split m0 hq
    by_cases e : p / m = q / m
    · have ne2 : p % m ≠ q % m := fun e2 => ne (by rw [← p3, ← q3, e, e2])
      obtain ⟨a, ha, k, ea⟩ := h2.bk _ _ p2 q2 ne2
      have da := dm_at (x := q / m) ha
      refine ⟨q / m * m + a, dm_rg q1 ha, ?_, ?_⟩
      · have := mk2 (q / m) a (q % m) q1 k
        rwa [q3] at this
      · rw [da.1, da.2]; omega
    · obtain ⟨a, ha, k, ea⟩ := h1.bk _ _ p1 q1 e
      have da := dm_at (x := a) q2
      refine ⟨a * m + q % m, dm_rg ha q2, ?_, ?_⟩
      · have := mk1 (q % m) a (q / m) q2 k
        rwa [q3] at this
      · rw [da.1, da.2]; omega
end DL

namespace K92
open PySem PySem.Spec PyProof.Rows L2 DL
def top (i : Nat) : Stmt := PySem.Challenge.pw_websincubes_k92_whole_told_words_twice.main.body.getD i (.Pass ⟨0, 0, 0, 0⟩)
abbrev FnP (K : PySem.W.Frag) (x : Str) (st : Stmt) (f : Addr) (fd : FuncData) : Prop := FunD K x x (defArgs st) (defBody st) (defScope st) [] [] f fd

/-! ### neighbours_of -/
abbrev s_neighbours_of : Stmt := top 1
abbrev N_neighbours_of : List Str := ["web", "found", "a", "b", "some"]
abbrev A_neighbours_of : List Str := ["web"]
theorem sc_neighbours_of : FnScope N_neighbours_of A_neighbours_of (defScope s_neighbours_of) := ⟨rfl, rfl, rfl, by decide +kernel, rfl, by decide +kernel, by decide +kernel⟩
def m_neighbours_of_l7_s  (s8 : (List (List Int))) (q9 : (Int × Int)) : (List (List Int)) :=
  let found13 : (List (List Int)) := (setI s8 q9.1 (nth s8 q9.1 ++ [q9.2]))
  let found16 : (List (List Int)) := (setI found13 q9.2 (nth found13 q9.2 ++ [q9.1]))
  found16
def m_neighbours_of_l7_o  (s8 : (List (List Int))) (q9 : (Int × Int)) : Prop :=
  And (InB s8 q9.1) <|
  And ((nth s8 q9.1).length < sizeLine) <|
  let found13 : (List (List Int)) := (setI s8 q9.1 (nth s8 q9.1 ++ [q9.2]))
  And (InB found13 q9.2) <|
  And ((nth found13 q9.2).length < sizeLine) <|
  let found16 : (List (List Int)) := (setI found13 q9.2 (nth found13 q9.2 ++ [q9.1]))
  True
@[irreducible] def m_neighbours_of_l7 (found5 : (List (List Int))) (xs6 : (List (Int × Int))) : (List (List Int)) :=
  List.foldl (m_neighbours_of_l7_s) found5 xs6
theorem m_neighbours_of_l7_eq (found5 : (List (List Int))) (xs6 : (List (Int × Int))) : m_neighbours_of_l7 found5 xs6 = List.foldl (m_neighbours_of_l7_s) found5 xs6 := by unfold m_neighbours_of_l7; rfl
def m_neighbours_of (web1 : (Int × (List (Int × Int)))) : (List (List Int)) :=
  let found5 : (List (List Int)) := (((rng 0 web1.1)).map fun (q3 : Int) => [])
  let xs6 : (List (Int × Int)) := web1.2
  letC (m_neighbours_of_l7 found5 xs6) fun (r18 : (List (List Int))) =>
  (r18.map (fun (q19 : (List Int)) => (srt PyData.int q19)))
def m_neighbours_of_ok (web1 : (Int × (List (Int × Int)))) : Prop :=
  And (RngOk web1.1) <|
  let found5 : (List (List Int)) := (((rng 0 web1.1)).map fun (q3 : Int) => [])
  let xs6 : (List (Int × Int)) := web1.2
  And (LOk (m_neighbours_of_l7_s) (m_neighbours_of_l7_o) found5 xs6) <|
  letC (m_neighbours_of_l7 found5 xs6) fun (r18 : (List (List Int))) =>
  And ((∀ q19 ∈ r18, (SrtOk PyData.int q19 ∧ True))) <|
  True
def R_m_neighbours_of : List D → SV → Prop := fun ds w => ∃ (web1 : (Int × (List (Int × Int)))), ds = [(eP PyData.int (eT (eP PyData.int PyData.int))) web1] ∧ m_neighbours_of_ok web1 ∧ w = (fun r => .lst (r.map (eL PyData.int))) (m_neighbours_of web1)
theorem R_m_neighbours_of.mk {web1 : (Int × (List (Int × Int)))} {r : (List (List Int))} (er : r = (m_neighbours_of web1)) (h : m_neighbours_of_ok web1) : R_m_neighbours_of [(eP PyData.int (eT (eP PyData.int PyData.int))) web1] ((fun r => .lst (r.map (eL PyData.int))) r) := ⟨web1, rfl, h, by rw [er]⟩
theorem ws_m_neighbours_of {P : Program} {w : World} {K : PySem.W.Frag} {mg : Str → Option Value} {base : Heap} (bt : NoB mg)  (web1 : (Int × (List (Int × Int)))) (h : m_neighbours_of_ok web1) : WS (dC P w K mg base N_neighbours_of (defScope s_neighbours_of) 0) (defBody s_neighbours_of) [.val ((eP PyData.int (eT (eP PyData.int PyData.int))) web1), .un, .un, .un, .un] (Ret ((fun r => .lst (r.map (eL PyData.int))) (m_neighbours_of web1))) := by
  haveI : Bt (dC P w K mg base N_neighbours_of (defScope s_neighbours_of) 0) := ⟨bt⟩
  haveI : ∀ sc, Bt ((dC P w K mg base N_neighbours_of (defScope s_neighbours_of) 0).blk sc) := fun sc => ⟨bt⟩
  haveI : ∀ sc sc2, Bt (((dC P w K mg base N_neighbours_of (defScope s_neighbours_of) 0).blk sc).blk sc2) := fun sc sc2 => ⟨bt⟩
  haveI : ∀ sc sc2 sc3, Bt ((((dC P w K mg base N_neighbours_of (defScope s_neighbours_of) 0).blk sc).blk sc2).blk sc3) := fun sc sc2 sc3 => ⟨bt⟩
  have nd := sc_neighbours_of.nd
  unfold m_neighbours_of_ok at h
  obtain ⟨o2, h⟩ := h
  let found5 : (List (List Int)) := (((rng 0 web1.1)).map fun (q3 : Int) => [])
  refine ws_step (LcX.w1 (j := 1) (lcx_LL PyData.int (own := [(("a" : Str), 2)]) (S3 := fun (q3 : Int) => [.val ((eP PyData.int (eT (eP PyData.int PyData.int))) web1), .un, .val (PyData.int q3), .un, .un]) (en := PyData.int) (Sw := [.val ((eP PyData.int (eT (eP PyData.int PyData.int))) web1), .un, .un, .un, .un]) nd (BlkOk.of (by kernel_rfl)) (itx_range1 (ex_ixD (ex_name (i := 0)) ex_int rfl) o2) (fun q3 m4 => (gx_name (i := 2) nd (hi := lt_b rfl)))) (lt_b rfl)) ?_
  let xs6 : (List (Int × Int)) := web1.2
  obtain ⟨o17, h⟩ := h
  obtain ⟨r18, hr18⟩ : ∃ r : (List (List Int)), r = m_neighbours_of_l7 found5 xs6 := ⟨_, rfl⟩
  replace h := letC_mp hr18 h
  refine ws_forFR (vs := [2, 3]) (xs := xs6) (en := (eP PyData.int PyData.int)) (fun (r : (List (List Int))) => [.val ((eP PyData.int (eT (eP PyData.int PyData.int))) web1), sLL PyData.int r, .un, .un, .un]) (m_neighbours_of_l7_s) (m_neighbours_of_l7_o) found5 (r18) (Eq.trans hr18 (m_neighbours_of_l7_eq found5 xs6)) (itx_tupE (ex_ixD (ex_name (i := 0)) ex_int rfl)) (Wk.imp (Wk.k (Wk.k (Wk.k (Wk.k (Wk.k Wk.nil)))))) o17 (fun s8 q9 m10 h => ⟨_, (gx_tup (ds := [PyData.int q9.1, PyData.int q9.2]) (gsx_cons (gx_name (i := 2) nd (hi := lt_b rfl)) (gsx_cons (gx_name (i := 3) nd (hi := lt_b rfl)) gsx_nil)) rfl), ?_⟩) ?_
  · obtain ⟨o11, o12, h⟩ := h
    refine ws_expr (ex_appLL (i := 1) (m := s8) (x := q9.2) (en := PyData.int) (ex_name (i := 2)) (ex_name (i := 3)) o11 o12) ?_
    let found13 : (List (List Int)) := (setI s8 q9.1 (nth s8 q9.1 ++ [q9.2]))
    obtain ⟨o14, o15, h⟩ := h
    refine ws_expr (ex_appLL (i := 1) (m := found13) (x := q9.1) (en := PyData.int) (ex_name (i := 3)) (ex_name (i := 2)) o14 o15) ?_
    let found16 : (List (List Int)) := (setI found13 q9.2 (nth found13 q9.2 ++ [q9.1]))
    exact ws_nil (nxt_ok (Sf := (fun (r : (List (List Int))) => [.val ((eP PyData.int (eT (eP PyData.int PyData.int))) web1), sLL PyData.int r, .un, .un, .un])) (v := found16) rfl (Wk.k (Wk.k (Wk.d (Wk.d (Wk.k Wk.nil))))))
  refine WS.pre (S1 := [.val ((eP PyData.int (eT (eP PyData.int PyData.int))) web1), .val ((eL (eL PyData.int)) r18), .un, .un, .un]) (Wk.imp (Wk.k (Wk.fe (frz_LL _ _) (Wk.k (Wk.k (Wk.k Wk.nil)))))) ?_
  obtain ⟨o22, h⟩ := h
  exact ws_ret (LcX.ex (lcx_M (own := [(("some" : Str), 4)]) (S3 := fun (q19 : (List Int)) => [.val ((eP PyData.int (eT (eP PyData.int PyData.int))) web1), .val ((eL (eL PyData.int)) r18), .un, .un, .val ((eL PyData.int) q19)]) (f := fun (q19 : (List Int)) => (srt PyData.int q19)) (en := (eL PyData.int)) (em := (eL PyData.int)) (Sw := [.val ((eP PyData.int (eT (eP PyData.int PyData.int))) web1), .val ((eL (eL PyData.int)) r18), .un, .un, .un]) nd (BlkOk.of (by kernel_rfl)) (itx_listE (ex_name (i := 1))) (fun q19 m20 => (gx_name (i := 4) nd (hi := lt_b rfl))) (fun q19 m20 => by obtain ⟨o21, -⟩ := o22 q19 m20; exact (EX.fzE (ex_sorted (ex_name (i := 4)) (.inr rfl) (SrtOk.ok o21)))))) (ret_ok (Wf := fun r => .lst (r.map (eL PyData.int))) (v := (r18.map (fun (q19 : (List Int)) => (srt PyData.int q19)))) (Eq.trans (letC_eq hr18) rfl))
theorem fn_m_neighbours_of {P : Program} {w : World} {K : PySem.W.Frag} {mg : Str → Option Value} {base : Heap} {f : Addr} {fd : FuncData} (bt : NoB mg)  (F : FnP K "neighbours_of" s_neighbours_of f fd) : FnG P w K mg base (0 + 1) f fd A_neighbours_of (spP R_m_neighbours_of) :=
  ok_P F sc_neighbours_of (fun ds v hR => by obtain ⟨web1, rfl, _, _⟩ := hR; rfl) fun ds v hR => by obtain ⟨web1, rfl, h, rfl⟩ := hR; exact ws_m_neighbours_of bt  web1 h
/-! ### distance_row -/
abbrev s_distance_row : Stmt := top 2
abbrev N_distance_row : List Str := ["near", "x", "found", "level", "step", "a", "late", "b"]
abbrev A_distance_row : List Str := ["near", "x"]
theorem sc_distance_row : FnScope N_distance_row A_distance_row (defScope s_distance_row) := ⟨rfl, rfl, rfl, by decide +kernel, rfl, by decide +kernel, by decide +kernel⟩
def m_distance_row_l11_s (near1 : (List (List Int))) (s7 : (List (Int × Int)) × (List Int) × Int) (step8 : Int) (s12 : (List (Int × Int))) (q13 : Int) : (List (Int × Int)) :=
  let late19 : (List (Int × Int)) := (dmerge s12 (dictOf (nth near1 q13) (fun (q16 : Int) => (!(dget s7.1 q16).isSome)) (fun (q16 : Int) => q16) (fun (q16 : Int) => step8)))
  late19
def m_distance_row_l11_o (near1 : (List (List Int))) (s7 : (List (Int × Int)) × (List Int) × Int) (step8 : Int) (s12 : (List (Int × Int))) (q13 : Int) : Prop :=
  And (InB near1 q13) <|
  And (SzOk (s12.length + (dictOf (nth near1 q13) (fun (q16 : Int) => (!(dget s7.1 q16).isSome)) (fun (q16 : Int) => q16) (fun (q16 : Int) => step8)).length)) <|
  let late19 : (List (Int × Int)) := (dmerge s12 (dictOf (nth near1 q13) (fun (q16 : Int) => (!(dget s7.1 q16).isSome)) (fun (q16 : Int) => q16) (fun (q16 : Int) => step8)))
  True
@[irreducible] def m_distance_row_l11 (near1 : (List (List Int))) (s7 : (List (Int × Int)) × (List Int) × Int) (step8 : Int) (late9 : (List (Int × Int))) (xs10 : (List Int)) : (List (Int × Int)) :=
  List.foldl (m_distance_row_l11_s near1 s7 step8) late9 xs10
theorem m_distance_row_l11_eq (near1 : (List (List Int))) (s7 : (List (Int × Int)) × (List Int) × Int) (step8 : Int) (late9 : (List (Int × Int))) (xs10 : (List Int)) : m_distance_row_l11 near1 s7 step8 late9 xs10 = List.foldl (m_distance_row_l11_s near1 s7 step8) late9 xs10 := by unfold m_distance_row_l11; rfl
def m_distance_row_w6_c (near1 : (List (List Int))) (s7 : (List (Int × Int)) × (List Int) × Int) : Bool :=
  (!(decide (s7.2.1 = ([] : List Int))))
def m_distance_row_w6_q (near1 : (List (List Int))) (s7 : (List (Int × Int)) × (List Int) × Int) : Prop :=
  (True)
def m_distance_row_w6_s (near1 : (List (List Int))) (s7 : (List (Int × Int)) × (List Int) × Int) : (List (Int × Int)) × (List Int) × Int :=
  let step8 : Int := (s7.2.2 + (1 : Int))
  let late9 : (List (Int × Int)) := ([] : (List (Int × Int)))
  let xs10 : (List Int) := s7.2.1
  letC (m_distance_row_l11 near1 s7 step8 late9 xs10) fun (r21 : (List (Int × Int))) =>
  let found23 : (List (Int × Int)) := (dmerge s7.1 r21)
  let level25 : (List Int) := (srt PyData.int (dkeys r21))
  (found23, level25, step8)
def m_distance_row_w6_o (near1 : (List (List Int))) (s7 : (List (Int × Int)) × (List Int) × Int) : Prop :=
  let step8 : Int := (s7.2.2 + (1 : Int))
  let late9 : (List (Int × Int)) := ([] : (List (Int × Int)))
  let xs10 : (List Int) := s7.2.1
  And (LOk (m_distance_row_l11_s near1 s7 step8) (m_distance_row_l11_o near1 s7 step8) late9 xs10) <|
  letC (m_distance_row_l11 near1 s7 step8 late9 xs10) fun (r21 : (List (Int × Int))) =>
  And (SzOk (s7.1.length + r21.length)) <|
  let found23 : (List (Int × Int)) := (dmerge s7.1 r21)
  And (SortDOk PyData.int r21) <|
  let level25 : (List Int) := (srt PyData.int (dkeys r21))
  True
@[irreducible] def m_distance_row_w6 (near1 : (List (List Int))) (found3 : (List (Int × Int))) (level4 : (List Int)) (step5 : Int) : (List (Int × Int)) × (List Int) × Int :=
  whl (m_distance_row_w6_c near1) (m_distance_row_w6_s near1) FU (found3, level4, step5)
theorem m_distance_row_w6_eq (near1 : (List (List Int))) (found3 : (List (Int × Int))) (level4 : (List Int)) (step5 : Int) : m_distance_row_w6 near1 found3 level4 step5 = whl (m_distance_row_w6_c near1) (m_distance_row_w6_s near1) FU (found3, level4, step5) := by unfold m_distance_row_w6; rfl
def m_distance_row (near1 : (List (List Int))) (x2 : Int) : (List (Option Int)) :=
  let found3 : (List (Int × Int)) := [(x2, (0 : Int))]
  let level4 : (List Int) := [x2]
  let step5 : Int := (0 : Int)
  letC (m_distance_row_w6 near1 found3 level4 step5) fun (r27 : (List (Int × Int)) × (List Int) × Int) =>
  ((rng 0 (near1.length : Int)).map (fun (q29 : Int) => (dget r27.1 q29)))
def m_distance_row_ok (near1 : (List (List Int))) (x2 : Int) : Prop :=
  let found3 : (List (Int × Int)) := [(x2, (0 : Int))]
  let level4 : (List Int) := [x2]
  let step5 : Int := (0 : Int)
  And (WOk (m_distance_row_w6_c near1) (m_distance_row_w6_s near1) (m_distance_row_w6_q near1) (m_distance_row_w6_o near1) FU (found3, level4, step5)) <|
  letC (m_distance_row_w6 near1 found3 level4 step5) fun (r27 : (List (Int × Int)) × (List Int) × Int) =>
  And (RngOk (near1.length : Int)) <|
  True
def R_m_distance_row : List D → SV → Prop := fun ds w => ∃ (near1 : (List (List Int))) (x2 : Int), ds = [(eL (eL PyData.int)) near1, PyData.int x2] ∧ m_distance_row_ok near1 x2 ∧ w = (fun r => .val ((eT (eO PyData.int)) r)) (m_distance_row near1 x2)
theorem R_m_distance_row.mk {near1 : (List (List Int))} {x2 : Int} {r : (List (Option Int))} (er : r = (m_distance_row near1 x2)) (h : m_distance_row_ok near1 x2) : R_m_distance_row [(eL (eL PyData.int)) near1, PyData.int x2] ((fun r => .val ((eT (eO PyData.int)) r)) r) := ⟨near1, x2, rfl, h, by rw [er]⟩
theorem ws_m_distance_row {P : Program} {w : World} {K : PySem.W.Frag} {mg : Str → Option Value} {base : Heap} (bt : NoB mg)  (near1 : (List (List Int))) (x2 : Int) (h : m_distance_row_ok near1 x2) : WS (dC P w K mg base N_distance_row (defScope s_distance_row) 0) (defBody s_distance_row) [.val ((eL (eL PyData.int)) near1), .val (PyData.int x2), .un, .un, .un, .un, .un, .un] (Ret ((fun r => .val ((eT (eO PyData.int)) r)) (m_distance_row near1 x2))) := by
  haveI : Bt (dC P w K mg base N_distance_row (defScope s_distance_row) 0) := ⟨bt⟩
  haveI : ∀ sc, Bt ((dC P w K mg base N_distance_row (defScope s_distance_row) 0).blk sc) := fun sc => ⟨bt⟩
  haveI : ∀ sc sc2, Bt (((dC P w K mg base N_distance_row (defScope s_distance_row) 0).blk sc).blk sc2) := fun sc sc2 => ⟨bt⟩
  haveI : ∀ sc sc2 sc3, Bt ((((dC P w K mg base N_distance_row (defScope s_distance_row) 0).blk sc).blk sc2).blk sc3) := fun sc sc2 sc3 => ⟨bt⟩
  have nd := sc_distance_row.nd
  unfold m_distance_row_ok at h
  refine ws_step (w1_asgT (vs := [2, 3, 4]) (ax_cons (ex_disp1K (ek := PyData.int) (ev := PyData.int) (ex_name (i := 1)) ex_int) (ax_cons (EX.fzE (ex_lstE (en := PyData.int) (xs := [x2]) (av_cons (ex_name (i := 1)) av_nil))) (ax_cons ex_int ax_nil))) (gsx_cons (gx_name (i := 2) nd (hi := lt_b rfl)) (gsx_cons (gx_name (i := 3) nd (hi := lt_b rfl)) (gsx_cons (gx_name (i := 4) nd (hi := lt_b rfl)) gsx_nil))) rfl (hl := le_b rfl) (hw := by intro env he; exact sw_eq he (by kernel_rfl))) ?_
  let found3 : (List (Int × Int)) := [(x2, (0 : Int))]
  let level4 : (List Int) := [x2]
  let step5 : Int := (0 : Int)
  obtain ⟨o26, h⟩ := h
  obtain ⟨r27, hr27⟩ : ∃ r : (List (Int × Int)) × (List Int) × Int, r = m_distance_row_w6 near1 found3 level4 step5 := ⟨_, rfl⟩
  replace h := letC_mp hr27 h
  refine ws_whlR (fun (r : (List (Int × Int)) × (List Int) × Int) => [.val ((eL (eL PyData.int)) near1), .val (PyData.int x2), sK PyData.int PyData.int r.1, .val ((eL PyData.int) r.2.1), .val (PyData.int r.2.2), .un, .un, .un]) (m_distance_row_w6_c near1) (m_distance_row_w6_s near1) (m_distance_row_w6_q near1) (m_distance_row_w6_o near1) FU (found3, level4, step5) (r27) (Eq.trans hr27 (m_distance_row_w6_eq near1 found3 level4 step5)) (Wk.imp (Wk.k (Wk.k (Wk.k (Wk.k (Wk.k (Wk.k (Wk.k (Wk.k Wk.nil))))))))) o26 (fun s7 h => (tx_ne (e := (eL PyData.int)) (ex_name (i := 3)) (EX.fzE (ex_lstE (en := PyData.int) (xs := ([] : List Int)) av_nil)))) (fun s7 h hk => ?_) ?_
  · refine ws_step (w1_asgT (vs := [4, 6]) (ax_cons (ex_add (ex_name (i := 4)) ex_int) (ax_cons (ex_dnewK (ek := PyData.int) (ev := PyData.int)) ax_nil)) (gsx_cons (gx_name (i := 4) nd (hi := lt_b rfl)) (gsx_cons (gx_name (i := 6) nd (hi := lt_b rfl)) gsx_nil)) rfl (hl := le_b rfl) (hw := by intro env he; exact sw_eq he (by kernel_rfl))) ?_
    let step8 : Int := (s7.2.2 + (1 : Int))
    let late9 : (List (Int × Int)) := ([] : (List (Int × Int)))
    let xs10 : (List Int) := s7.2.1
    obtain ⟨o20, h⟩ := h
    obtain ⟨r21, hr21⟩ : ∃ r : (List (Int × Int)), r = m_distance_row_l11 near1 s7 step8 late9 xs10 := ⟨_, rfl⟩
    replace h := letC_mp hr21 h
    refine ws_forFR (vs := [5]) (xs := xs10) (en := PyData.int) (fun (r : (List (Int × Int))) => [.val ((eL (eL PyData.int)) near1), .val (PyData.int x2), sK PyData.int PyData.int s7.1, .val ((eL PyData.int) s7.2.1), .val (PyData.int step8), .un, sK PyData.int PyData.int r, .un]) (m_distance_row_l11_s near1 s7 step8) (m_distance_row_l11_o near1 s7 step8) late9 (r21) (Eq.trans hr21 (m_distance_row_l11_eq near1 s7 step8 late9 xs10)) (itx_listE (ex_name (i := 3))) (Wk.imp (Wk.k (Wk.k (Wk.k (Wk.k (Wk.k (Wk.k (Wk.k (Wk.k Wk.nil))))))))) o20 (fun s12 q13 m14 h => ⟨_, (gx_name (i := 5) nd (hi := lt_b rfl)), ?_⟩) ?_
    · obtain ⟨o15, o18, h⟩ := h
      refine ws_expr (ex_updK (i := 6) (ek := PyData.int) (ev := PyData.int) (m := s12) (EX.fzPK (ex_borEK (DcX.ex (dcx_K (own := [(("b" : Str), 7)]) (S3 := fun (q16 : Int) => [.val ((eL (eL PyData.int)) near1), .val (PyData.int x2), pK PyData.int PyData.int s7.1, .val ((eL PyData.int) s7.2.1), .val (PyData.int step8), .val (PyData.int q13), pK PyData.int PyData.int s12, .val (PyData.int q16)]) (p := fun (q16 : Int) => (!(dget s7.1 q16).isSome)) (f := fun (q16 : Int) => q16) (g := fun (q16 : Int) => step8) (en := PyData.int) (ek := PyData.int) (ev := PyData.int) (Sw := [.val ((eL (eL PyData.int)) near1), .val (PyData.int x2), pK PyData.int PyData.int s7.1, .val ((eL PyData.int) s7.2.1), .val (PyData.int step8), .val (PyData.int q13), pK PyData.int PyData.int s12, .un]) nd (BlkOk.of (by kernel_rfl)) (itx_listE (ex_ixL (ex_name (i := 0)) (ex_name (i := 5)) o15)) (fun q16 m17 => ⟨(gx_name (i := 7) nd (hi := lt_b rfl)), (tx_ninD (k := q16) (ek := PyData.int) (ev := PyData.int) isD_k (ex_name (i := 7)) (ex_nameP (i := 2))), (fun _ => (ex_name (i := 7))), (fun _ => (ex_name (i := 4)))⟩))))) (hz := o18)) ?_
      let late19 : (List (Int × Int)) := (dmerge s12 (dictOf (nth near1 q13) (fun (q16 : Int) => (!(dget s7.1 q16).isSome)) (fun (q16 : Int) => q16) (fun (q16 : Int) => step8)))
      exact ws_nil (nxt_ok (Sf := (fun (r : (List (Int × Int))) => [.val ((eL (eL PyData.int)) near1), .val (PyData.int x2), sK PyData.int PyData.int s7.1, .val ((eL PyData.int) s7.2.1), .val (PyData.int step8), .un, sK PyData.int PyData.int r, .un])) (v := late19) rfl (Wk.k (Wk.k (Wk.k (Wk.k (Wk.k (Wk.d (Wk.k (Wk.k Wk.nil)))))))))
    refine WS.pre (S1 := [.val ((eL (eL PyData.int)) near1), .val (PyData.int x2), sK PyData.int PyData.int s7.1, .val ((eL PyData.int) s7.2.1), .val (PyData.int step8), .un, pK PyData.int PyData.int r21, .un]) (Wk.imp (Wk.k (Wk.k (Wk.k (Wk.k (Wk.k (Wk.k (Wk.f (Wk.k Wk.nil))))))))) ?_
    obtain ⟨o22, h⟩ := h
    refine ws_expr (ex_updK (i := 2) (ek := PyData.int) (ev := PyData.int) (m := s7.1) (ex_nameP (i := 6)) (hz := o22)) ?_
    let found23 : (List (Int × Int)) := (dmerge s7.1 r21)
    obtain ⟨o24, h⟩ := h
    let level25 : (List Int) := (srt PyData.int (dkeys r21))
    refine ws_set (i := 3) nd (EX.fzE (ex_sortD (ex_nameP (i := 6)) o24)) ?_ (hi := lt_b rfl)
    exact ws_nil (nxt_ok (Sf := (fun (r : (List (Int × Int)) × (List Int) × Int) => [.val ((eL (eL PyData.int)) near1), .val (PyData.int x2), sK PyData.int PyData.int r.1, .val ((eL PyData.int) r.2.1), .val (PyData.int r.2.2), .un, .un, .un])) (v := (found23, level25, step8)) (Eq.trans (letC_eq hr21) rfl) (Wk.k (Wk.k (Wk.k (Wk.k (Wk.k (Wk.k (Wk.d (Wk.k Wk.nil)))))))))
  refine WS.pre (S1 := [.val ((eL (eL PyData.int)) near1), .val (PyData.int x2), pK PyData.int PyData.int r27.1, .val ((eL PyData.int) r27.2.1), .val (PyData.int r27.2.2), .un, .un, .un]) (Wk.imp (Wk.k (Wk.k (Wk.f (Wk.k (Wk.k (Wk.k (Wk.k (Wk.k Wk.nil))))))))) ?_
  obtain ⟨o28, h⟩ := h
  exact ws_ret (ex_tupL (EX.fzE (LcX.ex (lcx_M (own := [(("b" : Str), 7)]) (S3 := fun (q29 : Int) => [.val ((eL (eL PyData.int)) near1), .val (PyData.int x2), pK PyData.int PyData.int r27.1, .val ((eL PyData.int) r27.2.1), .val (PyData.int r27.2.2), .un, .un, .val (PyData.int q29)]) (f := fun (q29 : Int) => (dget r27.1 q29)) (en := PyData.int) (em := (eO PyData.int)) (Sw := [.val ((eL (eL PyData.int)) near1), .val (PyData.int x2), pK PyData.int PyData.int r27.1, .val ((eL PyData.int) r27.2.1), .val (PyData.int r27.2.2), .un, .un, .un]) nd (BlkOk.of (by kernel_rfl)) (itx_range1 (ex_lenL (ex_name (i := 0))) o28) (fun q29 m30 => (gx_name (i := 7) nd (hi := lt_b rfl))) (fun q29 m30 => (ex_get (k := q29) (ek := PyData.int) (ev := PyData.int) isD_k (ex_nameP (i := 2)) (ex_name (i := 7)))))))) (ret_ok (Wf := fun r => .val ((eT (eO PyData.int)) r)) (v := ((rng 0 (near1.length : Int)).map (fun (q29 : Int) => (dget r27.1 q29)))) (Eq.trans (letC_eq hr27) rfl))
theorem fn_m_distance_row {P : Program} {w : World} {K : PySem.W.Frag} {mg : Str → Option Value} {base : Heap} {f : Addr} {fd : FuncData} (bt : NoB mg)  (F : FnP K "distance_row" s_distance_row f fd) : FnG P w K mg base (0 + 1) f fd A_distance_row (spP R_m_distance_row) :=
  ok_P F sc_distance_row (fun ds v hR => by obtain ⟨near1, x2, rfl, _, _⟩ := hR; rfl) fun ds v hR => by obtain ⟨near1, x2, rfl, h, rfl⟩ := hR; exact ws_m_distance_row bt  near1 x2 h
/-! ### distances_of -/
abbrev s_distances_of : Stmt := top 3
abbrev N_distances_of : List Str := ["web", "near", "x"]
abbrev A_distances_of : List Str := ["web"]
theorem sc_distances_of : FnScope N_distances_of A_distances_of (defScope s_distances_of) := ⟨rfl, rfl, rfl, by decide +kernel, rfl, by decide +kernel, by decide +kernel⟩
def m_distances_of (web1 : (Int × (List (Int × Int)))) : (List (List (Option Int))) :=
  letC ((m_neighbours_of web1)) fun (r3 : (List (List Int))) =>
  let near4 : (List (List Int)) := r3
  ((rng 0 web1.1).map (fun (q6 : Int) => (m_distance_row near4 q6)))
def m_distances_of_ok (web1 : (Int × (List (Int × Int)))) : Prop :=
  And (m_neighbours_of_ok web1) <|
  letC ((m_neighbours_of web1)) fun (r3 : (List (List Int))) =>
  let near4 : (List (List Int)) := r3
  And (RngOk web1.1) <|
  And ((∀ q6 ∈ (rng 0 web1.1), (m_distance_row_ok near4 q6 ∧ True))) <|
  True
def R_m_distances_of : List D → SV → Prop := fun ds w => ∃ (web1 : (Int × (List (Int × Int)))), ds = [(eP PyData.int (eT (eP PyData.int PyData.int))) web1] ∧ m_distances_of_ok web1 ∧ w = (fun r => .val ((eT (eT (eO PyData.int))) r)) (m_distances_of web1)
theorem R_m_distances_of.mk {web1 : (Int × (List (Int × Int)))} {r : (List (List (Option Int)))} (er : r = (m_distances_of web1)) (h : m_distances_of_ok web1) : R_m_distances_of [(eP PyData.int (eT (eP PyData.int PyData.int))) web1] ((fun r => .val ((eT (eT (eO PyData.int))) r)) r) := ⟨web1, rfl, h, by rw [er]⟩
theorem ws_m_distances_of {P : Program} {w : World} {K : PySem.W.Frag} {mg : Str → Option Value} {base : Heap} (bt : NoB mg) (C_m_neighbours_of : Callee P w K mg base "neighbours_of" 1 A_neighbours_of (spP R_m_neighbours_of)) (C_m_distance_row : Callee P w K mg base "distance_row" 1 A_distance_row (spP R_m_distance_row)) (web1 : (Int × (List (Int × Int)))) (h : m_distances_of_ok web1) : WS (dC P w K mg base N_distances_of (defScope s_distances_of) 1) (defBody s_distances_of) [.val ((eP PyData.int (eT (eP PyData.int PyData.int))) web1), .un, .un] (Ret ((fun r => .val ((eT (eT (eO PyData.int))) r)) (m_distances_of web1))) := by
  haveI : Bt (dC P w K mg base N_distances_of (defScope s_distances_of) 1) := ⟨bt⟩
  haveI : ∀ sc, Bt ((dC P w K mg base N_distances_of (defScope s_distances_of) 1).blk sc) := fun sc => ⟨bt⟩
  haveI : ∀ sc sc2, Bt (((dC P w K mg base N_distances_of (defScope s_distances_of) 1).blk sc).blk sc2) := fun sc sc2 => ⟨bt⟩
  haveI : ∀ sc sc2 sc3, Bt ((((dC P w K mg base N_distances_of (defScope s_distances_of) 1).blk sc).blk sc2).blk sc3) := fun sc sc2 sc3 => ⟨bt⟩
  have nd := sc_distances_of.nd
  unfold m_distances_of_ok at h
  obtain ⟨o2, h⟩ := h
  obtain ⟨r3, hr3⟩ : ∃ r : (List (List Int)), r = (m_neighbours_of web1) := ⟨_, rfl⟩
  replace h := letC_mp hr3 h
  let near4 : (List (List Int)) := r3
  refine ws_set (i := 1) nd (EX.fzE (ex_call C_m_neighbours_of (av_cons (ex_name (i := 0)) av_nil) (R_m_neighbours_of.mk hr3 o2) (hk := le_b rfl))) ?_ (hi := lt_b rfl)
  obtain ⟨o5, o9, h⟩ := h
  exact ws_ret (ex_tupL (EX.fzE (LcX.ex (lcx_M (own := [(("x" : Str), 2)]) (S3 := fun (q6 : Int) => [.val ((eP PyData.int (eT (eP PyData.int PyData.int))) web1), .val ((eL (eL PyData.int)) near4), .val (PyData.int q6)]) (f := fun (q6 : Int) => (m_distance_row near4 q6)) (en := PyData.int) (em := (eT (eO PyData.int))) (Sw := [.val ((eP PyData.int (eT (eP PyData.int PyData.int))) web1), .val ((eL (eL PyData.int)) near4), .un]) nd (BlkOk.of (by kernel_rfl)) (itx_range1 (ex_ixD (ex_name (i := 0)) ex_int rfl) o5) (fun q6 m7 => (gx_name (i := 2) nd (hi := lt_b rfl))) (fun q6 m7 => by obtain ⟨o8, -⟩ := o9 q6 m7; exact (ex_call C_m_distance_row (av_cons (ex_name (i := 1)) (av_cons (ex_name (i := 2)) av_nil)) (R_m_distance_row.mk rfl o8) (hk := le_b rfl))))))) (ret_ok (Wf := fun r => .val ((eT (eT (eO PyData.int))) r)) (v := ((rng 0 web1.1).map (fun (q6 : Int) => (m_distance_row near4 q6)))) (Eq.trans (letC_eq hr3) rfl))
theorem fn_m_distances_of {P : Program} {w : World} {K : PySem.W.Frag} {mg : Str → Option Value} {base : Heap} {f : Addr} {fd : FuncData} (bt : NoB mg) (C_m_neighbours_of : Callee P w K mg base "neighbours_of" 1 A_neighbours_of (spP R_m_neighbours_of)) (C_m_distance_row : Callee P w K mg base "distance_row" 1 A_distance_row (spP R_m_distance_row)) (F : FnP K "distances_of" s_distances_of f fd) : FnG P w K mg base (1 + 1) f fd A_distances_of (spP R_m_distances_of) :=
  ok_P F sc_distances_of (fun ds v hR => by obtain ⟨web1, rfl, _, _⟩ := hR; rfl) fun ds v hR => by obtain ⟨web1, rfl, h, rfl⟩ := hR; exact ws_m_distances_of bt C_m_neighbours_of C_m_distance_row web1 h
/-! ### is_letter_row -/
abbrev s_is_letter_row : Stmt := top 5
abbrev N_is_letter_row : List Str := ["many", "value", "x"]
abbrev A_is_letter_row : List Str := ["many", "value"]
theorem sc_is_letter_row : FnScope N_is_letter_row A_is_letter_row (defScope s_is_letter_row) := ⟨rfl, rfl, rfl, by decide +kernel, rfl, by decide +kernel, by decide +kernel⟩
def m_is_letter_row (many1 : Int) (value2 : (List Int)) : Bool :=
  cond ((!(isiB "tuple" ((eT PyData.int) value2))) || (!(decide ((value2.length : Int) = many1))))
    (
      false
    )
    (
      ((value2.map (fun (q5 : Int) => ((isiB "int" (PyData.int q5)) && ((!(isiB "bool" (PyData.int q5))) && (mem q5 ([(0 : Int), (1 : Int)]))))))).all id
    )
def m_is_letter_row_ok (many1 : Int) (value2 : (List Int)) : Prop :=
  And (((!(isiB "tuple" ((eT PyData.int) value2))) || (!(decide ((value2.length : Int) = many1)))) = true → (
      True
  )) (((!(isiB "tuple" ((eT PyData.int) value2))) || (!(decide ((value2.length : Int) = many1)))) = false → (
      True
  ))
def R_m_is_letter_row : List D → SV → Prop := fun ds w => ∃ (many1 : Int) (value2 : (List Int)), ds = [PyData.int many1, (eT PyData.int) value2] ∧ m_is_letter_row_ok many1 value2 ∧ w = (fun r => .val (PyData.bool r)) (m_is_letter_row many1 value2)
theorem R_m_is_letter_row.mk {many1 : Int} {value2 : (List Int)} {r : Bool} (er : r = (m_is_letter_row many1 value2)) (h : m_is_letter_row_ok many1 value2) : R_m_is_letter_row [PyData.int many1, (eT PyData.int) value2] ((fun r => .val (PyData.bool r)) r) := ⟨many1, value2, rfl, h, by rw [er]⟩
theorem ws_m_is_letter_row {P : Program} {w : World} {K : PySem.W.Frag} {mg : Str → Option Value} {base : Heap} (bt : NoB mg)  (many1 : Int) (value2 : (List Int)) (h : m_is_letter_row_ok many1 value2) : WS (dC P w K mg base N_is_letter_row (defScope s_is_letter_row) 0) (defBody s_is_letter_row) [.val (PyData.int many1), .val ((eT PyData.int) value2), .un] (Ret ((fun r => .val (PyData.bool r)) (m_is_letter_row many1 value2))) := by
  haveI : Bt (dC P w K mg base N_is_letter_row (defScope s_is_letter_row) 0) := ⟨bt⟩
  haveI : ∀ sc, Bt ((dC P w K mg base N_is_letter_row (defScope s_is_letter_row) 0).blk sc) := fun sc => ⟨bt⟩
  haveI : ∀ sc sc2, Bt (((dC P w K mg base N_is_letter_row (defScope s_is_letter_row) 0).blk sc).blk sc2) := fun sc sc2 => ⟨bt⟩
  haveI : ∀ sc sc2 sc3, Bt ((((dC P w K mg base N_is_letter_row (defScope s_is_letter_row) 0).blk sc).blk sc2).blk sc3) := fun sc sc2 sc3 => ⟨bt⟩
  have nd := sc_is_letter_row.nd
  unfold m_is_letter_row_ok at h
  obtain ⟨a9, a10⟩ := h
  refine ws_if (tx_of (wx_or (tx_not (tx_val (ex_isi (ex_name (i := 1)) isiT_tuple))) (fun _ => (wx_or1 (tx_ne (e := PyData.int) (ex_lenT (ex_name (i := 1))) (ex_name (i := 0))))) (fun _ => Imp.refl _))) (fun k4 => ?_) (fun k4 => ?_)
  · have h := a9 k4
    exact ws_ret ex_bool (ret_ok (Wf := fun r => .val (PyData.bool r)) (v := false) (Eq.trans (cond_t k4) rfl))
  · have h := a10 k4
    refine ws_nil ?_
    change WS _ _ _ _
    exact ws_ret (ex_all (EX.fzE (LcX.ex (lcx_M (own := [(("x" : Str), 2)]) (S3 := fun (q5 : Int) => [.val (PyData.int many1), .val ((eT PyData.int) value2), .val (PyData.int q5)]) (f := fun (q5 : Int) => ((isiB "int" (PyData.int q5)) && ((!(isiB "bool" (PyData.int q5))) && (mem q5 ([(0 : Int), (1 : Int)]))))) (en := PyData.int) (em := PyData.bool) (Sw := [.val (PyData.int many1), .val ((eT PyData.int) value2), .un]) nd (BlkOk.of (by kernel_rfl)) (itx_tupE (ex_name (i := 1))) (fun q5 m6 => (gx_name (i := 2) nd (hi := lt_b rfl))) (fun q5 m6 => (ex_and (ex_isi (ex_name (i := 2)) isiT_int) (fun _ => (ex_and (ex_not (ex_isi (ex_name (i := 2)) isiT_bool)) (fun _ => (ex_one (ex_inT (e := PyData.int) (ex_name (i := 2)) (ex_tupE (en := PyData.int) (xs := [(0 : Int), (1 : Int)]) (av_cons ex_int (av_cons ex_int av_nil)))))) (fun _ => Imp.refl _))) (fun _ => Imp.refl _))))))) (ret_ok (Wf := fun r => .val (PyData.bool r)) (v := ((value2.map (fun (q5 : Int) => ((isiB "int" (PyData.int q5)) && ((!(isiB "bool" (PyData.int q5))) && (mem q5 ([(0 : Int), (1 : Int)]))))))).all id) (Eq.trans (cond_f k4) rfl))
theorem fn_m_is_letter_row {P : Program} {w : World} {K : PySem.W.Frag} {mg : Str → Option Value} {base : Heap} {f : Addr} {fd : FuncData} (bt : NoB mg)  (F : FnP K "is_letter_row" s_is_letter_row f fd) : FnG P w K mg base (0 + 1) f fd A_is_letter_row (spP R_m_is_letter_row) :=
  ok_P F sc_is_letter_row (fun ds v hR => by obtain ⟨many1, value2, rfl, _, _⟩ := hR; rfl) fun ds v hR => by obtain ⟨many1, value2, rfl, h, rfl⟩ := hR; exact ws_m_is_letter_row bt  many1 value2 h
/-! ### are_words -/
abbrev s_are_words : Stmt := top 6
abbrev N_are_words : List Str := ["n", "value", "word"]
abbrev A_are_words : List Str := ["n", "value"]
theorem sc_are_words : FnScope N_are_words A_are_words (defScope s_are_words) := ⟨rfl, rfl, rfl, by decide +kernel, rfl, by decide +kernel, by decide +kernel⟩
def m_are_words (n1 : Int) (value2 : (List (List Int))) : Bool :=
  cond ((!(isiB "tuple" ((eT (eT PyData.int)) value2))) || ((!(decide ((value2.length : Int) = n1))) || (!((value2.map (fun (q3 : (List Int)) => (isiB "tuple" ((eT PyData.int) q3))))).all id)))
    (
      false
    )
    (
      ((value2.map (fun (q8 : (List Int)) => (m_is_letter_row ((nth value2 (0 : Int)).length : Int) q8)))).all id
    )
def m_are_words_ok (n1 : Int) (value2 : (List (List Int))) : Prop :=
  And (((!(isiB "tuple" ((eT (eT PyData.int)) value2))) || ((!(decide ((value2.length : Int) = n1))) || (!((value2.map (fun (q3 : (List Int)) => (isiB "tuple" ((eT PyData.int) q3))))).all id))) = true → (
      True
  )) (((!(isiB "tuple" ((eT (eT PyData.int)) value2))) || ((!(decide ((value2.length : Int) = n1))) || (!((value2.map (fun (q3 : (List Int)) => (isiB "tuple" ((eT PyData.int) q3))))).all id))) = false → (
      And ((∀ q8 ∈ value2, (InB value2 (0 : Int) ∧ m_is_letter_row_ok ((nth value2 (0 : Int)).length : Int) q8 ∧ True))) <|
      True
  ))
def R_m_are_words : List D → SV → Prop := fun ds w => ∃ (n1 : Int) (value2 : (List (List Int))), ds = [PyData.int n1, (eT (eT PyData.int)) value2] ∧ m_are_words_ok n1 value2 ∧ w = (fun r => .val (PyData.bool r)) (m_are_words n1 value2)
theorem R_m_are_words.mk {n1 : Int} {value2 : (List (List Int))} {r : Bool} (er : r = (m_are_words n1 value2)) (h : m_are_words_ok n1 value2) : R_m_are_words [PyData.int n1, (eT (eT PyData.int)) value2] ((fun r => .val (PyData.bool r)) r) := ⟨n1, value2, rfl, h, by rw [er]⟩
theorem ws_m_are_words {P : Program} {w : World} {K : PySem.W.Frag} {mg : Str → Option Value} {base : Heap} (bt : NoB mg) (C_m_is_letter_row : Callee P w K mg base "is_letter_row" 1 A_is_letter_row (spP R_m_is_letter_row)) (n1 : Int) (value2 : (List (List Int))) (h : m_are_words_ok n1 value2) : WS (dC P w K mg base N_are_words (defScope s_are_words) 1) (defBody s_are_words) [.val (PyData.int n1), .val ((eT (eT PyData.int)) value2), .un] (Ret ((fun r => .val (PyData.bool r)) (m_are_words n1 value2))) := by
  haveI : Bt (dC P w K mg base N_are_words (defScope s_are_words) 1) := ⟨bt⟩
  haveI : ∀ sc, Bt ((dC P w K mg base N_are_words (defScope s_are_words) 1).blk sc) := fun sc => ⟨bt⟩
  haveI : ∀ sc sc2, Bt (((dC P w K mg base N_are_words (defScope s_are_words) 1).blk sc).blk sc2) := fun sc sc2 => ⟨bt⟩
  haveI : ∀ sc sc2 sc3, Bt ((((dC P w K mg base N_are_words (defScope s_are_words) 1).blk sc).blk sc2).blk sc3) := fun sc sc2 sc3 => ⟨bt⟩
  have nd := sc_are_words.nd
  unfold m_are_words_ok at h
  obtain ⟨a13, a14⟩ := h
  refine ws_if (tx_of (wx_or (tx_not (tx_val (ex_isi (ex_name (i := 1)) isiT_tuple))) (fun _ => (wx_or (tx_ne (e := PyData.int) (ex_lenT (ex_name (i := 1))) (ex_name (i := 0))) (fun _ => (wx_or1 (tx_not (tx_val (ex_all (EX.fzE (LcX.ex (lcx_M (own := [(("word" : Str), 2)]) (S3 := fun (q3 : (List Int)) => [.val (PyData.int n1), .val ((eT (eT PyData.int)) value2), .val ((eT PyData.int) q3)]) (f := fun (q3 : (List Int)) => (isiB "tuple" ((eT PyData.int) q3))) (en := (eT PyData.int)) (em := PyData.bool) (Sw := [.val (PyData.int n1), .val ((eT (eT PyData.int)) value2), .un]) nd (BlkOk.of (by kernel_rfl)) (itx_tupE (ex_name (i := 1))) (fun q3 m4 => (gx_name (i := 2) nd (hi := lt_b rfl))) (fun q3 m4 => (ex_isi (ex_name (i := 2)) isiT_tuple)))))))))) (fun _ => Imp.refl _))) (fun _ => Imp.refl _))) (fun k7 => ?_) (fun k7 => ?_)
  · have h := a13 k7
    exact ws_ret ex_bool (ret_ok (Wf := fun r => .val (PyData.bool r)) (v := false) (Eq.trans (cond_t k7) rfl))
  · have h := a14 k7
    refine ws_nil ?_
    change WS _ _ _ _
    obtain ⟨o12, h⟩ := h
    exact ws_ret (ex_all (EX.fzE (LcX.ex (lcx_M (own := [(("word" : Str), 2)]) (S3 := fun (q8 : (List Int)) => [.val (PyData.int n1), .val ((eT (eT PyData.int)) value2), .val ((eT PyData.int) q8)]) (f := fun (q8 : (List Int)) => (m_is_letter_row ((nth value2 (0 : Int)).length : Int) q8)) (en := (eT PyData.int)) (em := PyData.bool) (Sw := [.val (PyData.int n1), .val ((eT (eT PyData.int)) value2), .un]) nd (BlkOk.of (by kernel_rfl)) (itx_tupE (ex_name (i := 1))) (fun q8 m9 => (gx_name (i := 2) nd (hi := lt_b rfl))) (fun q8 m9 => by obtain ⟨o10, o11, -⟩ := o12 q8 m9; exact (ex_call C_m_is_letter_row (av_cons (ex_lenT (ex_ixT (ex_name (i := 1)) ex_int o10)) (av_cons (ex_name (i := 2)) av_nil)) (R_m_is_letter_row.mk rfl o11) (hk := le_b rfl))))))) (ret_ok (Wf := fun r => .val (PyData.bool r)) (v := ((value2.map (fun (q8 : (List Int)) => (m_is_letter_row ((nth value2 (0 : Int)).length : Int) q8)))).all id) (Eq.trans (cond_f k7) rfl))
theorem fn_m_are_words {P : Program} {w : World} {K : PySem.W.Frag} {mg : Str → Option Value} {base : Heap} {f : Addr} {fd : FuncData} (bt : NoB mg) (C_m_is_letter_row : Callee P w K mg base "is_letter_row" 1 A_is_letter_row (spP R_m_is_letter_row)) (F : FnP K "are_words" s_are_words f fd) : FnG P w K mg base (1 + 1) f fd A_are_words (spP R_m_are_words) :=
  ok_P F sc_are_words (fun ds v hR => by obtain ⟨n1, value2, rfl, _, _⟩ := hR; rfl) fun ds v hR => by obtain ⟨n1, value2, rfl, h, rfl⟩ := hR; exact ws_m_are_words bt C_m_is_letter_row n1 value2 h
/-! ### unlike_letters -/
abbrev s_unlike_letters : Stmt := top 7
abbrev N_unlike_letters : List Str := ["one", "other", "x", "y"]
abbrev A_unlike_letters : List Str := ["one", "other"]
theorem sc_unlike_letters : FnScope N_unlike_letters A_unlike_letters (defScope s_unlike_letters) := ⟨rfl, rfl, rfl, by decide +kernel, rfl, by decide +kernel, by decide +kernel⟩
def m_unlike_letters (one1 : (List Int)) (other2 : (List Int)) : Int :=
  ((((List.zip one1 other2).filter (fun (q3 : (Int × Int)) => (!(decide (q3.1 = q3.2))))).map (fun (q3 : (Int × Int)) => (1 : Int))).length : Int)
def m_unlike_letters_ok (one1 : (List Int)) (other2 : (List Int)) : Prop :=
  True
def R_m_unlike_letters : List D → SV → Prop := fun ds w => ∃ (one1 : (List Int)) (other2 : (List Int)), ds = [(eT PyData.int) one1, (eT PyData.int) other2] ∧ m_unlike_letters_ok one1 other2 ∧ w = (fun r => .val (PyData.int r)) (m_unlike_letters one1 other2)
theorem R_m_unlike_letters.mk {one1 : (List Int)} {other2 : (List Int)} {r : Int} (er : r = (m_unlike_letters one1 other2)) (h : m_unlike_letters_ok one1 other2) : R_m_unlike_letters [(eT PyData.int) one1, (eT PyData.int) other2] ((fun r => .val (PyData.int r)) r) := ⟨one1, other2, rfl, h, by rw [er]⟩
theorem ws_m_unlike_letters {P : Program} {w : World} {K : PySem.W.Frag} {mg : Str → Option Value} {base : Heap} (bt : NoB mg)  (one1 : (List Int)) (other2 : (List Int)) (h : m_unlike_letters_ok one1 other2) : WS (dC P w K mg base N_unlike_letters (defScope s_unlike_letters) 0) (defBody s_unlike_letters) [.val ((eT PyData.int) one1), .val ((eT PyData.int) other2), .un, .un] (Ret ((fun r => .val (PyData.int r)) (m_unlike_letters one1 other2))) := by
  haveI : Bt (dC P w K mg base N_unlike_letters (defScope s_unlike_letters) 0) := ⟨bt⟩
  haveI : ∀ sc, Bt ((dC P w K mg base N_unlike_letters (defScope s_unlike_letters) 0).blk sc) := fun sc => ⟨bt⟩
  haveI : ∀ sc sc2, Bt (((dC P w K mg base N_unlike_letters (defScope s_unlike_letters) 0).blk sc).blk sc2) := fun sc sc2 => ⟨bt⟩
  haveI : ∀ sc sc2 sc3, Bt ((((dC P w K mg base N_unlike_letters (defScope s_unlike_letters) 0).blk sc).blk sc2).blk sc3) := fun sc sc2 sc3 => ⟨bt⟩
  have nd := sc_unlike_letters.nd
  unfold m_unlike_letters_ok at h
  exact ws_ret (ex_lenL (EX.fzE (LcX.ex (lcx_P (own := [(("x" : Str), 2), (("y" : Str), 3)]) (S3 := fun (q3 : (Int × Int)) => [.val ((eT PyData.int) one1), .val ((eT PyData.int) other2), .val (PyData.int q3.1), .val (PyData.int q3.2)]) (p := fun (q3 : (Int × Int)) => (!(decide (q3.1 = q3.2)))) (f := fun (q3 : (Int × Int)) => (1 : Int)) (en := (eP PyData.int PyData.int)) (em := PyData.int) (Sw := [.val ((eT PyData.int) one1), .val ((eT PyData.int) other2), .un, .un]) nd (BlkOk.of (by kernel_rfl)) (itx_zip (ex_name (i := 0)) (.inl rfl) (ex_name (i := 1)) (.inl rfl)) (fun q3 m4 => ⟨(gx_tup (ds := [PyData.int q3.1, PyData.int q3.2]) (gsx_cons (gx_name (i := 2) nd (hi := lt_b rfl)) (gsx_cons (gx_name (i := 3) nd (hi := lt_b rfl)) gsx_nil)) rfl), (tx_ne (e := PyData.int) (ex_name (i := 2)) (ex_name (i := 3))), (fun _ => ex_int)⟩))))) (ret_ok (Wf := fun r => .val (PyData.int r)) (v := ((((List.zip one1 other2).filter (fun (q3 : (Int × Int)) => (!(decide (q3.1 = q3.2))))).map (fun (q3 : (Int × Int)) => (1 : Int))).length : Int)) rfl)
theorem fn_m_unlike_letters {P : Program} {w : World} {K : PySem.W.Frag} {mg : Str → Option Value} {base : Heap} {f : Addr} {fd : FuncData} (bt : NoB mg)  (F : FnP K "unlike_letters" s_unlike_letters f fd) : FnG P w K mg base (0 + 1) f fd A_unlike_letters (spP R_m_unlike_letters) :=
  ok_P F sc_unlike_letters (fun ds v hR => by obtain ⟨one1, other2, rfl, _, _⟩ := hR; rfl) fun ds v hR => by obtain ⟨one1, other2, rfl, h, rfl⟩ := hR; exact ws_m_unlike_letters bt  one1 other2 h
/-! ### cube_words -/
abbrev s_cube_words : Stmt := top 9
abbrev N_cube_words : List Str := ["k", "words", "lap", "late", "word"]
abbrev A_cube_words : List Str := ["k"]
theorem sc_cube_words : FnScope N_cube_words A_cube_words (defScope s_cube_words) := ⟨rfl, rfl, rfl, by decide +kernel, rfl, by decide +kernel, by decide +kernel⟩
def m_cube_words_l11_s  (s12 : (List (List Int))) (q13 : (List Int)) : (List (List Int)) :=
  let late18 : (List (List Int)) := (s12 ++ ([(q13 ++ [(0 : Int)]), (q13 ++ [(1 : Int)])]))
  late18
def m_cube_words_l11_o  (s12 : (List (List Int))) (q13 : (List Int)) : Prop :=
  And (SzOk (q13.length + ([(0 : Int)]).length)) <|
  And (SzOk (q13.length + ([(1 : Int)]).length)) <|
  And (SzOk (s12.length + ([(q13 ++ [(0 : Int)]), (q13 ++ [(1 : Int)])]).length)) <|
  let late18 : (List (List Int)) := (s12 ++ ([(q13 ++ [(0 : Int)]), (q13 ++ [(1 : Int)])]))
  True
@[irreducible] def m_cube_words_l11 (late9 : (List (List Int))) (xs10 : (List (List Int))) : (List (List Int)) :=
  List.foldl (m_cube_words_l11_s) late9 xs10
theorem m_cube_words_l11_eq (late9 : (List (List Int))) (xs10 : (List (List Int))) : m_cube_words_l11 late9 xs10 = List.foldl (m_cube_words_l11_s) late9 xs10 := by unfold m_cube_words_l11; rfl
def m_cube_words_l5_s  (s6 : (List (List Int))) (q7 : Int) : (List (List Int)) :=
  let late9 : (List (List Int)) := ([] : List (List Int))
  let xs10 : (List (List Int)) := s6
  letC (m_cube_words_l11 late9 xs10) fun (r20 : (List (List Int))) =>
  let words21 : (List (List Int)) := r20
  words21
def m_cube_words_l5_o  (s6 : (List (List Int))) (q7 : Int) : Prop :=
  let late9 : (List (List Int)) := ([] : List (List Int))
  let xs10 : (List (List Int)) := s6
  And (LOk (m_cube_words_l11_s) (m_cube_words_l11_o) late9 xs10) <|
  letC (m_cube_words_l11 late9 xs10) fun (r20 : (List (List Int))) =>
  let words21 : (List (List Int)) := r20
  True
@[irreducible] def m_cube_words_l5 (words2 : (List (List Int))) (xs4 : (List Int)) : (List (List Int)) :=
  List.foldl (m_cube_words_l5_s) words2 xs4
theorem m_cube_words_l5_eq (words2 : (List (List Int))) (xs4 : (List Int)) : m_cube_words_l5 words2 xs4 = List.foldl (m_cube_words_l5_s) words2 xs4 := by unfold m_cube_words_l5; rfl
def m_cube_words (k1 : Int) : (List (List Int)) :=
  let words2 : (List (List Int)) := [([] : List Int)]
  let xs4 : (List Int) := (rng 0 k1)
  letC (m_cube_words_l5 words2 xs4) fun (r23 : (List (List Int))) =>
  r23
def m_cube_words_ok (k1 : Int) : Prop :=
  let words2 : (List (List Int)) := [([] : List Int)]
  And (RngOk k1) <|
  let xs4 : (List Int) := (rng 0 k1)
  And (LOk (m_cube_words_l5_s) (m_cube_words_l5_o) words2 xs4) <|
  letC (m_cube_words_l5 words2 xs4) fun (r23 : (List (List Int))) =>
  True
def R_m_cube_words : List D → SV → Prop := fun ds w => ∃ (k1 : Int), ds = [PyData.int k1] ∧ m_cube_words_ok k1 ∧ w = (fun r => .val ((eL (eT PyData.int)) r)) (m_cube_words k1)
theorem R_m_cube_words.mk {k1 : Int} {r : (List (List Int))} (er : r = (m_cube_words k1)) (h : m_cube_words_ok k1) : R_m_cube_words [PyData.int k1] ((fun r => .val ((eL (eT PyData.int)) r)) r) := ⟨k1, rfl, h, by rw [er]⟩
theorem ws_m_cube_words {P : Program} {w : World} {K : PySem.W.Frag} {mg : Str → Option Value} {base : Heap} (bt : NoB mg)  (k1 : Int) (h : m_cube_words_ok k1) : WS (dC P w K mg base N_cube_words (defScope s_cube_words) 0) (defBody s_cube_words) [.val (PyData.int k1), .un, .un, .un, .un] (Ret ((fun r => .val ((eL (eT PyData.int)) r)) (m_cube_words k1))) := by
  haveI : Bt (dC P w K mg base N_cube_words (defScope s_cube_words) 0) := ⟨bt⟩
  haveI : ∀ sc, Bt ((dC P w K mg base N_cube_words (defScope s_cube_words) 0).blk sc) := fun sc => ⟨bt⟩
  haveI : ∀ sc sc2, Bt (((dC P w K mg base N_cube_words (defScope s_cube_words) 0).blk sc).blk sc2) := fun sc sc2 => ⟨bt⟩
  haveI : ∀ sc sc2 sc3, Bt ((((dC P w K mg base N_cube_words (defScope s_cube_words) 0).blk sc).blk sc2).blk sc3) := fun sc sc2 sc3 => ⟨bt⟩
  have nd := sc_cube_words.nd
  unfold m_cube_words_ok at h
  let words2 : (List (List Int)) := [([] : List Int)]
  refine ws_set (i := 1) nd (EX.fzE (ex_lstE (en := (eT PyData.int)) (xs := [([] : List Int)]) (av_cons (ex_tupE (en := PyData.int) (xs := ([] : List Int)) av_nil) av_nil))) ?_ (hi := lt_b rfl)
  obtain ⟨o3, h⟩ := h
  let xs4 : (List Int) := (rng 0 k1)
  obtain ⟨o22, h⟩ := h
  obtain ⟨r23, hr23⟩ : ∃ r : (List (List Int)), r = m_cube_words_l5 words2 xs4 := ⟨_, rfl⟩
  replace h := letC_mp hr23 h
  refine ws_forFR (vs := [2]) (xs := xs4) (en := PyData.int) (fun (r : (List (List Int))) => [.val (PyData.int k1), .val ((eL (eT PyData.int)) r), .un, .un, .un]) (m_cube_words_l5_s) (m_cube_words_l5_o) words2 (r23) (Eq.trans hr23 (m_cube_words_l5_eq words2 xs4)) (itx_range1 (ex_name (i := 0)) o3) (Wk.imp (Wk.k (Wk.k (Wk.k (Wk.k (Wk.k Wk.nil)))))) o22 (fun s6 q7 m8 h => ⟨_, (gx_name (i := 2) nd (hi := lt_b rfl)), ?_⟩) ?_
  · let late9 : (List (List Int)) := ([] : List (List Int))
    refine ws_set (i := 3) nd (ex_lstE (en := (eT PyData.int)) (xs := ([] : List (List Int))) av_nil) ?_ (hi := lt_b rfl)
    let xs10 : (List (List Int)) := s6
    obtain ⟨o19, h⟩ := h
    obtain ⟨r20, hr20⟩ : ∃ r : (List (List Int)), r = m_cube_words_l11 late9 xs10 := ⟨_, rfl⟩
    replace h := letC_mp hr20 h
    refine ws_forFR (vs := [4]) (xs := xs10) (en := (eT PyData.int)) (fun (r : (List (List Int))) => [.val (PyData.int k1), .val ((eL (eT PyData.int)) s6), .val (PyData.int q7), .lst ((r).map (eT PyData.int)), .un]) (m_cube_words_l11_s) (m_cube_words_l11_o) late9 (r20) (Eq.trans hr20 (m_cube_words_l11_eq late9 xs10)) (itx_listE (ex_name (i := 1))) (Wk.imp (Wk.k (Wk.k (Wk.k (Wk.k (Wk.k Wk.nil)))))) o19 (fun s12 q13 m14 h => ⟨_, (gx_name (i := 4) nd (hi := lt_b rfl)), ?_⟩) ?_
    · obtain ⟨o15, o16, o17, h⟩ := h
      refine ws_expr (ex_extend (i := 3) (xs := s12) (en := (eT PyData.int)) (EX.fzE (ex_lstE (en := (eT PyData.int)) (xs := [(q13 ++ [(0 : Int)]), (q13 ++ [(1 : Int)])]) (av_cons (ex_catT (ex_name (i := 4)) (ex_tupE (en := PyData.int) (xs := [(0 : Int)]) (av_cons ex_int av_nil)) o15) (av_cons (ex_catT (ex_name (i := 4)) (ex_tupE (en := PyData.int) (xs := [(1 : Int)]) (av_cons ex_int av_nil)) o16) av_nil)))) (hz := o17)) ?_
      let late18 : (List (List Int)) := (s12 ++ ([(q13 ++ [(0 : Int)]), (q13 ++ [(1 : Int)])]))
      exact ws_nil (nxt_ok (Sf := (fun (r : (List (List Int))) => [.val (PyData.int k1), .val ((eL (eT PyData.int)) s6), .val (PyData.int q7), .lst ((r).map (eT PyData.int)), .un])) (v := late18) rfl (Wk.k (Wk.k (Wk.k (Wk.k (Wk.d Wk.nil))))))
    let words21 : (List (List Int)) := r20
    refine ws_set (i := 1) nd (EX.fzE (ex_borEL (ex_listL (ex_name (i := 3))))) ?_ (hi := lt_b rfl)
    exact ws_nil (nxt_ok (Sf := (fun (r : (List (List Int))) => [.val (PyData.int k1), .val ((eL (eT PyData.int)) r), .un, .un, .un])) (v := words21) (Eq.trans (letC_eq hr20) rfl) (Wk.k (Wk.k (Wk.d (Wk.d (Wk.k Wk.nil))))))
  exact ws_ret (ex_name (i := 1)) (ret_ok (Wf := fun r => .val ((eL (eT PyData.int)) r)) (v := r23) (Eq.trans (letC_eq hr23) rfl))
theorem fn_m_cube_words {P : Program} {w : World} {K : PySem.W.Frag} {mg : Str → Option Value} {base : Heap} {f : Addr} {fd : FuncData} (bt : NoB mg)  (F : FnP K "cube_words" s_cube_words f fd) : FnG P w K mg base (0 + 1) f fd A_cube_words (spP R_m_cube_words) :=
  ok_P F sc_cube_words (fun ds v hR => by obtain ⟨k1, rfl, _, _⟩ := hR; rfl) fun ds v hR => by obtain ⟨k1, rfl, h, rfl⟩ := hR; exact ws_m_cube_words bt  k1 h
/-! ### half_words -/
abbrev s_half_words : Stmt := top 11
abbrev N_half_words : List Str := ["d", "word"]
abbrev A_half_words : List Str := ["d"]
theorem sc_half_words : FnScope N_half_words A_half_words (defScope s_half_words) := ⟨rfl, rfl, rfl, by decide +kernel, rfl, by decide +kernel, by decide +kernel⟩
def m_half_words (d1 : Int) : (List (List Int)) :=
  letC ((m_cube_words d1)) fun (r3 : (List (List Int))) =>
  ((r3.filter (fun (q4 : (List Int)) => (decide (((q4).sum % (2 : Int)) = (0 : Int))))).map (fun (q4 : (List Int)) => q4))
def m_half_words_ok (d1 : Int) : Prop :=
  And (m_cube_words_ok d1) <|
  letC ((m_cube_words d1)) fun (r3 : (List (List Int))) =>
  True
def R_m_half_words : List D → SV → Prop := fun ds w => ∃ (d1 : Int), ds = [PyData.int d1] ∧ m_half_words_ok d1 ∧ w = (fun r => .val ((eT (eT PyData.int)) r)) (m_half_words d1)
theorem R_m_half_words.mk {d1 : Int} {r : (List (List Int))} (er : r = (m_half_words d1)) (h : m_half_words_ok d1) : R_m_half_words [PyData.int d1] ((fun r => .val ((eT (eT PyData.int)) r)) r) := ⟨d1, rfl, h, by rw [er]⟩
theorem ws_m_half_words {P : Program} {w : World} {K : PySem.W.Frag} {mg : Str → Option Value} {base : Heap} (bt : NoB mg) (C_m_cube_words : Callee P w K mg base "cube_words" 1 A_cube_words (spP R_m_cube_words)) (d1 : Int) (h : m_half_words_ok d1) : WS (dC P w K mg base N_half_words (defScope s_half_words) 1) (defBody s_half_words) [.val (PyData.int d1), .un] (Ret ((fun r => .val ((eT (eT PyData.int)) r)) (m_half_words d1))) := by
  haveI : Bt (dC P w K mg base N_half_words (defScope s_half_words) 1) := ⟨bt⟩
  haveI : ∀ sc, Bt ((dC P w K mg base N_half_words (defScope s_half_words) 1).blk sc) := fun sc => ⟨bt⟩
  haveI : ∀ sc sc2, Bt (((dC P w K mg base N_half_words (defScope s_half_words) 1).blk sc).blk sc2) := fun sc sc2 => ⟨bt⟩
  haveI : ∀ sc sc2 sc3, Bt ((((dC P w K mg base N_half_words (defScope s_half_words) 1).blk sc).blk sc2).blk sc3) := fun sc sc2 sc3 => ⟨bt⟩
  have nd := sc_half_words.nd
  unfold m_half_words_ok at h
  obtain ⟨o2, h⟩ := h
  obtain ⟨r3, hr3⟩ : ∃ r : (List (List Int)), r = (m_cube_words d1) := ⟨_, rfl⟩
  replace h := letC_mp hr3 h
  exact ws_ret (ex_tupL (EX.fzE (LcX.ex (lcx_P (own := [(("word" : Str), 1)]) (S3 := fun (q4 : (List Int)) => [.val (PyData.int d1), .val ((eT PyData.int) q4)]) (p := fun (q4 : (List Int)) => (decide (((q4).sum % (2 : Int)) = (0 : Int)))) (f := fun (q4 : (List Int)) => q4) (en := (eT PyData.int)) (em := (eT PyData.int)) (Sw := [.val (PyData.int d1), .un]) nd (BlkOk.of (by kernel_rfl)) (itx_listE (ex_call C_m_cube_words (av_cons (ex_name (i := 0)) av_nil) (R_m_cube_words.mk hr3 o2) (hk := le_b rfl))) (fun q4 m5 => ⟨(gx_name (i := 1) nd (hi := lt_b rfl)), (tx_eq (e := PyData.int) (ex_mod (ex_sumT (ex_name (i := 1))) ex_int (by decide)) ex_int), (fun _ => (ex_name (i := 1)))⟩))))) (ret_ok (Wf := fun r => .val ((eT (eT PyData.int)) r)) (v := ((r3.filter (fun (q4 : (List Int)) => (decide (((q4).sum % (2 : Int)) = (0 : Int))))).map (fun (q4 : (List Int)) => q4))) (Eq.trans (letC_eq hr3) rfl))
theorem fn_m_half_words {P : Program} {w : World} {K : PySem.W.Frag} {mg : Str → Option Value} {base : Heap} {f : Addr} {fd : FuncData} (bt : NoB mg) (C_m_cube_words : Callee P w K mg base "cube_words" 1 A_cube_words (spP R_m_cube_words)) (F : FnP K "half_words" s_half_words f fd) : FnG P w K mg base (1 + 1) f fd A_half_words (spP R_m_half_words) :=
  ok_P F sc_half_words (fun ds v hR => by obtain ⟨d1, rfl, _, _⟩ := hR; rfl) fun ds v hR => by obtain ⟨d1, rfl, h, rfl⟩ := hR; exact ws_m_half_words bt C_m_cube_words d1 h
/-! ### first_not_twice -/
abbrev s_first_not_twice : Stmt := top 12
abbrev N_first_not_twice : List Str := ["web", "words", "rows", "a", "u", "b"]
abbrev A_first_not_twice : List Str := ["web", "words"]
theorem sc_first_not_twice : FnScope N_first_not_twice A_first_not_twice (defScope s_first_not_twice) := ⟨rfl, rfl, rfl, by decide +kernel, rfl, by decide +kernel, by decide +kernel⟩
def m_first_not_twice_l14_s (words2 : (List (List Int))) (rows5 : (List (List (Option Int)))) (q9 : (Int × (List Int))) (s15 : Unit) (q16 : Int) : Except (Option (Int × Int × Int)) (Unit) :=
  letC ((m_unlike_letters q9.2 (nth words2 q16))) fun (r20 : Int) =>
  cond (!(decide (r20 = ((2 : Int) * (getO (nth (nth rows5 q9.1) q16))))))
    (
      letC ((m_unlike_letters q9.2 (nth words2 q16))) fun (r27 : Int) =>
      .error (some (q9.1, q16, r27))
    )
    (
      .ok ()
    )
def m_first_not_twice_l14_o (words2 : (List (List Int))) (rows5 : (List (List (Option Int)))) (q9 : (Int × (List Int))) (s15 : Unit) (q16 : Int) : Prop :=
  And (InB words2 q16) <|
  And (m_unlike_letters_ok q9.2 (nth words2 q16)) <|
  letC ((m_unlike_letters q9.2 (nth words2 q16))) fun (r20 : Int) =>
  And (InB rows5 q9.1) <|
  And (InB (nth rows5 q9.1) q16) <|
  And (((nth (nth rows5 q9.1) q16)).isSome = true) <|
  And ((!(decide (r20 = ((2 : Int) * (getO (nth (nth rows5 q9.1) q16)))))) = true → (
      And (InB words2 q16) <|
      And (m_unlike_letters_ok q9.2 (nth words2 q16)) <|
      letC ((m_unlike_letters q9.2 (nth words2 q16))) fun (r27 : Int) =>
      True
  )) ((!(decide (r20 = ((2 : Int) * (getO (nth (nth rows5 q9.1) q16)))))) = false → (
      True
  ))
@[irreducible] def m_first_not_twice_l14 (words2 : (List (List Int))) (rows5 : (List (List (Option Int)))) (q9 : (Int × (List Int))) (xs13 : (List Int)) : Except (Option (Int × Int × Int)) (Unit) :=
  foldE (m_first_not_twice_l14_s words2 rows5 q9) () xs13
theorem m_first_not_twice_l14_eq (words2 : (List (List Int))) (rows5 : (List (List (Option Int)))) (q9 : (Int × (List Int))) (xs13 : (List Int)) : m_first_not_twice_l14 words2 rows5 q9 xs13 = foldE (m_first_not_twice_l14_s words2 rows5 q9) () xs13 := by unfold m_first_not_twice_l14; rfl
def m_first_not_twice_l7_s (words2 : (List (List Int))) (rows5 : (List (List (Option Int)))) (s8 : Unit) (q9 : (Int × (List Int))) : Except (Option (Int × Int × Int)) (Unit) :=
  let xs13 : (List Int) := (rng (q9.1 + (1 : Int)) (words2.length : Int))
  bindE (m_first_not_twice_l14 words2 rows5 q9 xs13) fun (r32 : Unit) =>
    .ok ()
def m_first_not_twice_l7_o (words2 : (List (List Int))) (rows5 : (List (List (Option Int)))) (s8 : Unit) (q9 : (Int × (List Int))) : Prop :=
  And (RngOk (q9.1 + (1 : Int))) <|
  And (RngOk (words2.length : Int)) <|
  let xs13 : (List Int) := (rng (q9.1 + (1 : Int)) (words2.length : Int))
  And (LOkE (m_first_not_twice_l14_s words2 rows5 q9) (m_first_not_twice_l14_o words2 rows5 q9) () xs13) <|
  ∀ (r32 : Unit), m_first_not_twice_l14 words2 rows5 q9 xs13 = .ok r32 →
  (
    True
  )
@[irreducible] def m_first_not_twice_l7 (words2 : (List (List Int))) (rows5 : (List (List (Option Int)))) (xs6 : (List (Int × (List Int)))) : Except (Option (Int × Int × Int)) (Unit) :=
  foldE (m_first_not_twice_l7_s words2 rows5) () xs6
theorem m_first_not_twice_l7_eq (words2 : (List (List Int))) (rows5 : (List (List (Option Int)))) (xs6 : (List (Int × (List Int)))) : m_first_not_twice_l7 words2 rows5 xs6 = foldE (m_first_not_twice_l7_s words2 rows5) () xs6 := by unfold m_first_not_twice_l7; rfl
def m_first_not_twice (web1 : (Int × (List (Int × Int)))) (words2 : (List (List Int))) : (Option (Int × Int × Int)) :=
  letC ((m_distances_of web1)) fun (r4 : (List (List (Option Int)))) =>
  let rows5 : (List (List (Option Int))) := r4
  let xs6 : (List (Int × (List Int))) := (enumI 0 words2)
  thenE (m_first_not_twice_l7 words2 rows5 xs6) fun (r36 : Unit) =>
    (none : (Option (Int × Int × Int)))
def m_first_not_twice_ok (web1 : (Int × (List (Int × Int)))) (words2 : (List (List Int))) : Prop :=
  And (m_distances_of_ok web1) <|
  letC ((m_distances_of web1)) fun (r4 : (List (List (Option Int)))) =>
  let rows5 : (List (List (Option Int))) := r4
  let xs6 : (List (Int × (List Int))) := (enumI 0 words2)
  And (LOkE (m_first_not_twice_l7_s words2 rows5) (m_first_not_twice_l7_o words2 rows5) () xs6) <|
  ∀ (r36 : Unit), m_first_not_twice_l7 words2 rows5 xs6 = .ok r36 →
  (
    True
  )
def R_m_first_not_twice : List D → SV → Prop := fun ds w => ∃ (web1 : (Int × (List (Int × Int)))) (words2 : (List (List Int))), ds = [(eP PyData.int (eT (eP PyData.int PyData.int))) web1, (eT (eT PyData.int)) words2] ∧ m_first_not_twice_ok web1 words2 ∧ w = (fun r => .val ((eO (eP3 PyData.int PyData.int PyData.int)) r)) (m_first_not_twice web1 words2)
theorem R_m_first_not_twice.mk {web1 : (Int × (List (Int × Int)))} {words2 : (List (List Int))} {r : (Option (Int × Int × Int))} (er : r = (m_first_not_twice web1 words2)) (h : m_first_not_twice_ok web1 words2) : R_m_first_not_twice [(eP PyData.int (eT (eP PyData.int PyData.int))) web1, (eT (eT PyData.int)) words2] ((fun r => .val ((eO (eP3 PyData.int PyData.int PyData.int)) r)) r) := ⟨web1, words2, rfl, h, by rw [er]⟩
theorem ws_m_first_not_twice {P : Program} {w : World} {K : PySem.W.Frag} {mg : Str → Option Value} {base : Heap} (bt : NoB mg) (C_m_distances_of : Callee P w K mg base "distances_of" 2 A_distances_of (spP R_m_distances_of)) (C_m_unlike_letters : Callee P w K mg base "unlike_letters" 1 A_unlike_letters (spP R_m_unlike_letters)) (web1 : (Int × (List (Int × Int)))) (words2 : (List (List Int))) (h : m_first_not_twice_ok web1 words2) : WS (dC P w K mg base N_first_not_twice (defScope s_first_not_twice) 2) (defBody s_first_not_twice) [.val ((eP PyData.int (eT (eP PyData.int PyData.int))) web1), .val ((eT (eT PyData.int)) words2), .un, .un, .un, .un] (Ret ((fun r => .val ((eO (eP3 PyData.int PyData.int PyData.int)) r)) (m_first_not_twice web1 words2))) := by
  haveI : Bt (dC P w K mg base N_first_not_twice (defScope s_first_not_twice) 2) := ⟨bt⟩
  haveI : ∀ sc, Bt ((dC P w K mg base N_first_not_twice (defScope s_first_not_twice) 2).blk sc) := fun sc => ⟨bt⟩
  haveI : ∀ sc sc2, Bt (((dC P w K mg base N_first_not_twice (defScope s_first_not_twice) 2).blk sc).blk sc2) := fun sc sc2 => ⟨bt⟩
  haveI : ∀ sc sc2 sc3, Bt ((((dC P w K mg base N_first_not_twice (defScope s_first_not_twice) 2).blk sc).blk sc2).blk sc3) := fun sc sc2 sc3 => ⟨bt⟩
  have nd := sc_first_not_twice.nd
  unfold m_first_not_twice_ok at h
  obtain ⟨o3, h⟩ := h
  obtain ⟨r4, hr4⟩ : ∃ r : (List (List (Option Int))), r = (m_distances_of web1) := ⟨_, rfl⟩
  replace h := letC_mp hr4 h
  let rows5 : (List (List (Option Int))) := r4
  refine ws_set (i := 2) nd (ex_call C_m_distances_of (av_cons (ex_name (i := 0)) av_nil) (R_m_distances_of.mk hr4 o3) (hk := le_b rfl)) ?_ (hi := lt_b rfl)
  let xs6 : (List (Int × (List Int))) := (enumI 0 words2)
  obtain ⟨o34, h⟩ := h
  refine ws_forER (vs := [3, 4]) (xs := xs6) (en := (eP PyData.int (eT PyData.int))) (fun (r : Unit) => [.val ((eP PyData.int (eT (eP PyData.int PyData.int))) web1), .val ((eT (eT PyData.int)) words2), .val ((eT (eT (eO PyData.int))) rows5), .un, .un, .un]) (m_first_not_twice_l7_s words2 rows5) (m_first_not_twice_l7_o words2 rows5) () (fun r => Ret ((fun r => .val ((eO (eP3 PyData.int PyData.int PyData.int)) r)) r)) (m_first_not_twice_l7 words2 rows5 xs6) (m_first_not_twice_l7_eq words2 rows5 xs6) (itx_enum (ex_name (i := 1)) (.inl rfl)) (Wk.imp (Wk.k (Wk.k (Wk.k (Wk.k (Wk.k (Wk.k Wk.nil))))))) o34 (fun s8 q9 m10 h => ⟨_, (gx_tup (ds := [PyData.int q9.1, (eT PyData.int) q9.2]) (gsx_cons (gx_name (i := 3) nd (hi := lt_b rfl)) (gsx_cons (gx_name (i := 4) nd (hi := lt_b rfl)) gsx_nil)) rfl), ?_⟩) ?_ ?_
  · obtain ⟨o11, o12, h⟩ := h
    let xs13 : (List Int) := (rng (q9.1 + (1 : Int)) (words2.length : Int))
    obtain ⟨o30, h⟩ := h
    refine ws_forER (vs := [5]) (xs := xs13) (en := PyData.int) (fun (r : Unit) => [.val ((eP PyData.int (eT (eP PyData.int PyData.int))) web1), .val ((eT (eT PyData.int)) words2), .val ((eT (eT (eO PyData.int))) rows5), .val (PyData.int q9.1), .val ((eT PyData.int) q9.2), .un]) (m_first_not_twice_l14_s words2 rows5 q9) (m_first_not_twice_l14_o words2 rows5 q9) () (fun r => Ret ((fun r => .val ((eO (eP3 PyData.int PyData.int PyData.int)) r)) r)) (m_first_not_twice_l14 words2 rows5 q9 xs13) (m_first_not_twice_l14_eq words2 rows5 q9 xs13) (itx_range2 (ex_add (ex_name (i := 3)) ex_int) (ex_lenT (ex_name (i := 1))) o11 o12) (Wk.imp (Wk.k (Wk.k (Wk.k (Wk.k (Wk.k (Wk.k Wk.nil))))))) o30 (fun s15 q16 m17 h => ⟨_, (gx_name (i := 5) nd (hi := lt_b rfl)), ?_⟩) ?_ ?_
    · obtain ⟨o18, o19, h⟩ := h
      obtain ⟨r20, hr20⟩ : ∃ r : Int, r = (m_unlike_letters q9.2 (nth words2 q16)) := ⟨_, rfl⟩
      replace h := letC_mp hr20 h
      obtain ⟨o21, o22, o23, h⟩ := h
      obtain ⟨a28, a29⟩ := h
      refine ws_if (tx_ne (e := PyData.int) (ex_call C_m_unlike_letters (av_cons (ex_name (i := 4)) (av_cons (ex_ixT (ex_name (i := 1)) (ex_name (i := 5)) o18) av_nil)) (R_m_unlike_letters.mk hr20 o19) (hk := le_b rfl)) (ex_mul ex_int (ex_getO (ex_ixT (ex_ixT (ex_name (i := 2)) (ex_name (i := 3)) o21) (ex_name (i := 5)) o22) o23) (MulOk.litL (by decide)))) (fun k24 => ?_) (fun k24 => ?_)
      · have h := a28 k24
        obtain ⟨o25, o26, h⟩ := h
        obtain ⟨r27, hr27⟩ : ∃ r : Int, r = (m_unlike_letters q9.2 (nth words2 q16)) := ⟨_, rfl⟩
        replace h := letC_mp hr27 h
        exact ws_ret (ex_some (ex_pair3 (ea := PyData.int) (eb := PyData.int) (ec := PyData.int) (x := q9.1) (y := q16) (z := r27) (av_cons (ex_name (i := 3)) (av_cons (ex_name (i := 5)) (av_cons (ex_call C_m_unlike_letters (av_cons (ex_name (i := 4)) (av_cons (ex_ixT (ex_name (i := 1)) (ex_name (i := 5)) o25) av_nil)) (R_m_unlike_letters.mk hr27 o26) (hk := le_b rfl)) av_nil))))) (retE_ok (Sf := (fun (r : Unit) => [.val ((eP PyData.int (eT (eP PyData.int PyData.int))) web1), .val ((eT (eT PyData.int)) words2), .val ((eT (eT (eO PyData.int))) rows5), .val (PyData.int q9.1), .val ((eT PyData.int) q9.2), .un])) (Wf := fun r => .val ((eO (eP3 PyData.int PyData.int PyData.int)) r)) (v := (some (q9.1, q16, r27))) (Eq.trans (letC_eq hr20) (Eq.trans (cond_t k24) (Eq.trans (letC_eq hr27) rfl))))
      · have h := a29 k24
        refine ws_nil ?_
        change WS _ _ _ _
        exact ws_nil (nxtE_ok (Sf := (fun (r : Unit) => [.val ((eP PyData.int (eT (eP PyData.int PyData.int))) web1), .val ((eT (eT PyData.int)) words2), .val ((eT (eT (eO PyData.int))) rows5), .val (PyData.int q9.1), .val ((eT PyData.int) q9.2), .un])) (v := ()) (Eq.trans (letC_eq hr20) (Eq.trans (cond_f k24) rfl)) (Wk.k (Wk.k (Wk.k (Wk.k (Wk.k (Wk.d Wk.nil)))))))
    · exact fun r w S2 e31 hq => retE_up (Sf := (fun (r : Unit) => [.val ((eP PyData.int (eT (eP PyData.int PyData.int))) web1), .val ((eT (eT PyData.int)) words2), .val ((eT (eT (eO PyData.int))) rows5), .un, .un, .un])) (Wf := fun r => .val ((eO (eP3 PyData.int PyData.int PyData.int)) r)) (Eq.trans (bindE_err e31) rfl) hq
    intro r32 e33; have h := h r32 e33
    exact ws_nil (nxtE_ok (Sf := (fun (r : Unit) => [.val ((eP PyData.int (eT (eP PyData.int PyData.int))) web1), .val ((eT (eT PyData.int)) words2), .val ((eT (eT (eO PyData.int))) rows5), .un, .un, .un])) (v := ()) (Eq.trans (bindE_ok e33) rfl) (Wk.k (Wk.k (Wk.k (Wk.d (Wk.d (Wk.k Wk.nil)))))))
  · exact fun r w S2 e35 hq => ret_up (Wf := fun r => .val ((eO (eP3 PyData.int PyData.int PyData.int)) r)) (Eq.trans (letC_eq hr4) (Eq.trans (thenE_err e35) rfl)) hq
  intro r36 e37; have h := h r36 e37
  exact ws_ret ex_none (ret_ok (Wf := fun r => .val ((eO (eP3 PyData.int PyData.int PyData.int)) r)) (v := (none : (Option (Int × Int × Int)))) (Eq.trans (letC_eq hr4) (Eq.trans (thenE_ok e37) rfl)))
theorem fn_m_first_not_twice {P : Program} {w : World} {K : PySem.W.Frag} {mg : Str → Option Value} {base : Heap} {f : Addr} {fd : FuncData} (bt : NoB mg) (C_m_distances_of : Callee P w K mg base "distances_of" 2 A_distances_of (spP R_m_distances_of)) (C_m_unlike_letters : Callee P w K mg base "unlike_letters" 1 A_unlike_letters (spP R_m_unlike_letters)) (F : FnP K "first_not_twice" s_first_not_twice f fd) : FnG P w K mg base (2 + 1) f fd A_first_not_twice (spP R_m_first_not_twice) :=
  ok_P F sc_first_not_twice (fun ds v hR => by obtain ⟨web1, words2, rfl, _, _⟩ := hR; rfl) fun ds v hR => by obtain ⟨web1, words2, rfl, h, rfl⟩ := hR; exact ws_m_first_not_twice bt C_m_distances_of C_m_unlike_letters web1 words2 h
/-! ### are_twice -/
abbrev s_are_twice : Stmt := top 13
abbrev N_are_twice : List Str := ["web", "value"]
abbrev A_are_twice : List Str := ["web", "value"]
theorem sc_are_twice : FnScope N_are_twice A_are_twice (defScope s_are_twice) := ⟨rfl, rfl, rfl, by decide +kernel, rfl, by decide +kernel, by decide +kernel⟩
def m_are_twice (web1 : (Int × (List (Int × Int)))) (value2 : (List (List Int))) : Bool :=
  letC ((m_are_words web1.1 value2)) fun (r4 : Bool) =>
  (r4 && (!((m_first_not_twice web1 value2)).isSome))
def m_are_twice_ok (web1 : (Int × (List (Int × Int)))) (value2 : (List (List Int))) : Prop :=
  And (m_are_words_ok web1.1 value2) <|
  letC ((m_are_words web1.1 value2)) fun (r4 : Bool) =>
  And ((r4 = true → (m_first_not_twice_ok web1 value2 ∧ True))) <|
  True
def R_m_are_twice : List D → SV → Prop := fun ds w => ∃ (web1 : (Int × (List (Int × Int)))) (value2 : (List (List Int))), ds = [(eP PyData.int (eT (eP PyData.int PyData.int))) web1, (eT (eT PyData.int)) value2] ∧ m_are_twice_ok web1 value2 ∧ w = (fun r => .val (PyData.bool r)) (m_are_twice web1 value2)
theorem R_m_are_twice.mk {web1 : (Int × (List (Int × Int)))} {value2 : (List (List Int))} {r : Bool} (er : r = (m_are_twice web1 value2)) (h : m_are_twice_ok web1 value2) : R_m_are_twice [(eP PyData.int (eT (eP PyData.int PyData.int))) web1, (eT (eT PyData.int)) value2] ((fun r => .val (PyData.bool r)) r) := ⟨web1, value2, rfl, h, by rw [er]⟩
theorem ws_m_are_twice {P : Program} {w : World} {K : PySem.W.Frag} {mg : Str → Option Value} {base : Heap} (bt : NoB mg) (C_m_are_words : Callee P w K mg base "are_words" 2 A_are_words (spP R_m_are_words)) (C_m_first_not_twice : Callee P w K mg base "first_not_twice" 3 A_first_not_twice (spP R_m_first_not_twice)) (web1 : (Int × (List (Int × Int)))) (value2 : (List (List Int))) (h : m_are_twice_ok web1 value2) : WS (dC P w K mg base N_are_twice (defScope s_are_twice) 3) (defBody s_are_twice) [.val ((eP PyData.int (eT (eP PyData.int PyData.int))) web1), .val ((eT (eT PyData.int)) value2)] (Ret ((fun r => .val (PyData.bool r)) (m_are_twice web1 value2))) := by
  haveI : Bt (dC P w K mg base N_are_twice (defScope s_are_twice) 3) := ⟨bt⟩
  haveI : ∀ sc, Bt ((dC P w K mg base N_are_twice (defScope s_are_twice) 3).blk sc) := fun sc => ⟨bt⟩
  haveI : ∀ sc sc2, Bt (((dC P w K mg base N_are_twice (defScope s_are_twice) 3).blk sc).blk sc2) := fun sc sc2 => ⟨bt⟩
  haveI : ∀ sc sc2 sc3, Bt ((((dC P w K mg base N_are_twice (defScope s_are_twice) 3).blk sc).blk sc2).blk sc3) := fun sc sc2 sc3 => ⟨bt⟩
  have nd := sc_are_twice.nd
  unfold m_are_twice_ok at h
  obtain ⟨o3, h⟩ := h
  obtain ⟨r4, hr4⟩ : ∃ r : Bool, r = (m_are_words web1.1 value2) := ⟨_, rfl⟩
  replace h := letC_mp hr4 h
  obtain ⟨o7, h⟩ := h
  exact ws_ret (ex_and (ex_call C_m_are_words (av_cons (ex_ixD (ex_name (i := 0)) ex_int rfl) (av_cons (ex_name (i := 1)) av_nil)) (R_m_are_words.mk hr4 o3) (hk := le_b rfl)) (fun k6 => by obtain ⟨o5, -⟩ := o7 k6; exact (ex_one (ex_isNO (ex_call C_m_first_not_twice (av_cons (ex_name (i := 0)) (av_cons (ex_name (i := 1)) av_nil)) (R_m_first_not_twice.mk rfl o5) (hk := le_b rfl)) ex_none))) (fun _ => Imp.refl _)) (ret_ok (Wf := fun r => .val (PyData.bool r)) (v := (r4 && (!((m_first_not_twice web1 value2)).isSome))) (Eq.trans (letC_eq hr4) rfl))
theorem fn_m_are_twice {P : Program} {w : World} {K : PySem.W.Frag} {mg : Str → Option Value} {base : Heap} {f : Addr} {fd : FuncData} (bt : NoB mg) (C_m_are_words : Callee P w K mg base "are_words" 2 A_are_words (spP R_m_are_words)) (C_m_first_not_twice : Callee P w K mg base "first_not_twice" 3 A_first_not_twice (spP R_m_first_not_twice)) (F : FnP K "are_twice" s_are_twice f fd) : FnG P w K mg base (3 + 1) f fd A_are_twice (spP R_m_are_twice) :=
  ok_P F sc_are_twice (fun ds v hR => by obtain ⟨web1, value2, rfl, _, _⟩ := hR; rfl) fun ds v hR => by obtain ⟨web1, value2, rfl, h, rfl⟩ := hR; exact ws_m_are_twice bt C_m_are_words C_m_first_not_twice web1 value2 h
/-! ### ring_twice -/
abbrev s_ring_twice : Stmt := top 15
abbrev N_ring_twice : List Str := ["n", "half", "i", "k"]
abbrev A_ring_twice : List Str := ["n"]
theorem sc_ring_twice : FnScope N_ring_twice A_ring_twice (defScope s_ring_twice) := ⟨rfl, rfl, rfl, by decide +kernel, rfl, by decide +kernel, by decide +kernel⟩
def m_ring_twice (n1 : Int) : (List (List Int)) :=
  let half2 : Int := (n1 / (2 : Int))
  ((rng 0 n1).map (fun (q4 : Int) => ((rng 0 n1).map (fun (q7 : Int) => (b2n (decide (((q7 - q4) % n1) < half2)))))))
def m_ring_twice_ok (n1 : Int) : Prop :=
  let half2 : Int := (n1 / (2 : Int))
  And (RngOk n1) <|
  And ((∀ q4 ∈ (rng 0 n1), (RngOk n1 ∧ (∀ q7 ∈ (rng 0 n1), ((0 : Int) < n1 ∧ True)) ∧ True))) <|
  True
def R_m_ring_twice : List D → SV → Prop := fun ds w => ∃ (n1 : Int), ds = [PyData.int n1] ∧ m_ring_twice_ok n1 ∧ w = (fun r => .val ((eT (eT PyData.int)) r)) (m_ring_twice n1)
theorem R_m_ring_twice.mk {n1 : Int} {r : (List (List Int))} (er : r = (m_ring_twice n1)) (h : m_ring_twice_ok n1) : R_m_ring_twice [PyData.int n1] ((fun r => .val ((eT (eT PyData.int)) r)) r) := ⟨n1, rfl, h, by rw [er]⟩
theorem ws_m_ring_twice {P : Program} {w : World} {K : PySem.W.Frag} {mg : Str → Option Value} {base : Heap} (bt : NoB mg)  (n1 : Int) (h : m_ring_twice_ok n1) : WS (dC P w K mg base N_ring_twice (defScope s_ring_twice) 0) (defBody s_ring_twice) [.val (PyData.int n1), .un, .un, .un] (Ret ((fun r => .val ((eT (eT PyData.int)) r)) (m_ring_twice n1))) := by
  haveI : Bt (dC P w K mg base N_ring_twice (defScope s_ring_twice) 0) := ⟨bt⟩
  haveI : ∀ sc, Bt ((dC P w K mg base N_ring_twice (defScope s_ring_twice) 0).blk sc) := fun sc => ⟨bt⟩
  haveI : ∀ sc sc2, Bt (((dC P w K mg base N_ring_twice (defScope s_ring_twice) 0).blk sc).blk sc2) := fun sc sc2 => ⟨bt⟩
  haveI : ∀ sc sc2 sc3, Bt ((((dC P w K mg base N_ring_twice (defScope s_ring_twice) 0).blk sc).blk sc2).blk sc3) := fun sc sc2 sc3 => ⟨bt⟩
  have nd := sc_ring_twice.nd
  unfold m_ring_twice_ok at h
  let half2 : Int := (n1 / (2 : Int))
  refine ws_set (i := 1) nd (ex_fdiv (ex_name (i := 0)) ex_int (show 0 < (2 : Int) ∧ (2 : Int) < 1073741824 by decide)) ?_ (hi := lt_b rfl)
  obtain ⟨o3, o11, h⟩ := h
  exact ws_ret (ex_tupL (EX.fzE (LcX.ex (lcx_M (own := [(("i" : Str), 2)]) (S3 := fun (q4 : Int) => [.val (PyData.int n1), .val (PyData.int half2), .val (PyData.int q4), .un]) (f := fun (q4 : Int) => ((rng 0 n1).map (fun (q7 : Int) => (b2n (decide (((q7 - q4) % n1) < half2)))))) (en := PyData.int) (em := (eT PyData.int)) (Sw := [.val (PyData.int n1), .val (PyData.int half2), .un, .un]) nd (BlkOk.of (by kernel_rfl)) (itx_range1 (ex_name (i := 0)) o3) (fun q4 m5 => (gx_name (i := 2) nd (hi := lt_b rfl))) (fun q4 m5 => by obtain ⟨o6, o10, -⟩ := o11 q4 m5; exact (ex_tupL (EX.fzE (LcX.ex (lcx_M (own := [(("k" : Str), 3)]) (S3 := fun (q7 : Int) => [.val (PyData.int n1), .val (PyData.int half2), .val (PyData.int q4), .val (PyData.int q7)]) (f := fun (q7 : Int) => (b2n (decide (((q7 - q4) % n1) < half2)))) (en := PyData.int) (em := PyData.int) (Sw := [.val (PyData.int n1), .val (PyData.int half2), .val (PyData.int q4), .un]) nd (BlkOk.of (by kernel_rfl)) (itx_range1 (ex_name (i := 0)) o6) (fun q7 m8 => (gx_name (i := 3) nd (hi := lt_b rfl))) (fun q7 m8 => by obtain ⟨o9, -⟩ := o10 q7 m8; exact (ex_intB (ex_lt (ex_mod (ex_sub (ex_name (i := 3)) (ex_name (i := 2))) (ex_name (i := 0)) o9) (ex_name (i := 1)))))))))))))) (ret_ok (Wf := fun r => .val ((eT (eT PyData.int)) r)) (v := ((rng 0 n1).map (fun (q4 : Int) => ((rng 0 n1).map (fun (q7 : Int) => (b2n (decide (((q7 - q4) % n1) < half2)))))))) rfl)
theorem fn_m_ring_twice {P : Program} {w : World} {K : PySem.W.Frag} {mg : Str → Option Value} {base : Heap} {f : Addr} {fd : FuncData} (bt : NoB mg)  (F : FnP K "ring_twice" s_ring_twice f fd) : FnG P w K mg base (0 + 1) f fd A_ring_twice (spP R_m_ring_twice) :=
  ok_P F sc_ring_twice (fun ds v hR => by obtain ⟨n1, rfl, _, _⟩ := hR; rfl) fun ds v hR => by obtain ⟨n1, rfl, h, rfl⟩ := hR; exact ws_m_ring_twice bt  n1 h
/-! ### whole_twice -/
abbrev s_whole_twice : Stmt := top 16
abbrev N_whole_twice : List Str := ["n", "i", "k"]
abbrev A_whole_twice : List Str := ["n"]
theorem sc_whole_twice : FnScope N_whole_twice A_whole_twice (defScope s_whole_twice) := ⟨rfl, rfl, rfl, by decide +kernel, rfl, by decide +kernel, by decide +kernel⟩
def m_whole_twice (n1 : Int) : (List (List Int)) :=
  ((rng 0 n1).map (fun (q3 : Int) => ((rng 0 n1).map (fun (q6 : Int) => (b2n (decide (q6 = q3)))))))
def m_whole_twice_ok (n1 : Int) : Prop :=
  And (RngOk n1) <|
  And ((∀ q3 ∈ (rng 0 n1), (RngOk n1 ∧ True))) <|
  True
def R_m_whole_twice : List D → SV → Prop := fun ds w => ∃ (n1 : Int), ds = [PyData.int n1] ∧ m_whole_twice_ok n1 ∧ w = (fun r => .val ((eT (eT PyData.int)) r)) (m_whole_twice n1)
theorem R_m_whole_twice.mk {n1 : Int} {r : (List (List Int))} (er : r = (m_whole_twice n1)) (h : m_whole_twice_ok n1) : R_m_whole_twice [PyData.int n1] ((fun r => .val ((eT (eT PyData.int)) r)) r) := ⟨n1, rfl, h, by rw [er]⟩
theorem ws_m_whole_twice {P : Program} {w : World} {K : PySem.W.Frag} {mg : Str → Option Value} {base : Heap} (bt : NoB mg)  (n1 : Int) (h : m_whole_twice_ok n1) : WS (dC P w K mg base N_whole_twice (defScope s_whole_twice) 0) (defBody s_whole_twice) [.val (PyData.int n1), .un, .un] (Ret ((fun r => .val ((eT (eT PyData.int)) r)) (m_whole_twice n1))) := by
  haveI : Bt (dC P w K mg base N_whole_twice (defScope s_whole_twice) 0) := ⟨bt⟩
  haveI : ∀ sc, Bt ((dC P w K mg base N_whole_twice (defScope s_whole_twice) 0).blk sc) := fun sc => ⟨bt⟩
  haveI : ∀ sc sc2, Bt (((dC P w K mg base N_whole_twice (defScope s_whole_twice) 0).blk sc).blk sc2) := fun sc sc2 => ⟨bt⟩
  haveI : ∀ sc sc2 sc3, Bt ((((dC P w K mg base N_whole_twice (defScope s_whole_twice) 0).blk sc).blk sc2).blk sc3) := fun sc sc2 sc3 => ⟨bt⟩
  have nd := sc_whole_twice.nd
  unfold m_whole_twice_ok at h
  obtain ⟨o2, o8, h⟩ := h
  exact ws_ret (ex_tupL (EX.fzE (LcX.ex (lcx_M (own := [(("i" : Str), 1)]) (S3 := fun (q3 : Int) => [.val (PyData.int n1), .val (PyData.int q3), .un]) (f := fun (q3 : Int) => ((rng 0 n1).map (fun (q6 : Int) => (b2n (decide (q6 = q3)))))) (en := PyData.int) (em := (eT PyData.int)) (Sw := [.val (PyData.int n1), .un, .un]) nd (BlkOk.of (by kernel_rfl)) (itx_range1 (ex_name (i := 0)) o2) (fun q3 m4 => (gx_name (i := 1) nd (hi := lt_b rfl))) (fun q3 m4 => by obtain ⟨o5, -⟩ := o8 q3 m4; exact (ex_tupL (EX.fzE (LcX.ex (lcx_M (own := [(("k" : Str), 2)]) (S3 := fun (q6 : Int) => [.val (PyData.int n1), .val (PyData.int q3), .val (PyData.int q6)]) (f := fun (q6 : Int) => (b2n (decide (q6 = q3)))) (en := PyData.int) (em := PyData.int) (Sw := [.val (PyData.int n1), .val (PyData.int q3), .un]) nd (BlkOk.of (by kernel_rfl)) (itx_range1 (ex_name (i := 0)) o5) (fun q6 m7 => (gx_name (i := 2) nd (hi := lt_b rfl))) (fun q6 m7 => (ex_intB (ex_eq (e := PyData.int) (ex_name (i := 2)) (ex_name (i := 1)))))))))))))) (ret_ok (Wf := fun r => .val ((eT (eT PyData.int)) r)) (v := ((rng 0 n1).map (fun (q3 : Int) => ((rng 0 n1).map (fun (q6 : Int) => (b2n (decide (q6 = q3)))))))) rfl)
theorem fn_m_whole_twice {P : Program} {w : World} {K : PySem.W.Frag} {mg : Str → Option Value} {base : Heap} {f : Addr} {fd : FuncData} (bt : NoB mg)  (F : FnP K "whole_twice" s_whole_twice f fd) : FnG P w K mg base (0 + 1) f fd A_whole_twice (spP R_m_whole_twice) :=
  ok_P F sc_whole_twice (fun ds v hR => by obtain ⟨n1, rfl, _, _⟩ := hR; rfl) fun ds v hR => by obtain ⟨n1, rfl, h, rfl⟩ := hR; exact ws_m_whole_twice bt  n1 h
/-! ### pairs_apart -/
abbrev s_pairs_apart : Stmt := top 17
abbrev N_pairs_apart : List Str := ["k", "a", "b"]
abbrev A_pairs_apart : List Str := ["k"]
theorem sc_pairs_apart : FnScope N_pairs_apart A_pairs_apart (defScope s_pairs_apart) := ⟨rfl, rfl, rfl, by decide +kernel, rfl, by decide +kernel, by decide +kernel⟩
def m_pairs_apart (k1 : Int) : (Int × (List (Int × Int))) :=
  (((2 : Int) * k1), (lc2 (rng 0 ((2 : Int) * k1)) (fun (q3 : Int) => true) (fun (q3 : Int) => (rng (q3 + (1 : Int)) ((2 : Int) * k1))) (fun (q3 : Int) (q5 : Int) => (!(decide ((q3 / (2 : Int)) = (q5 / (2 : Int)))))) (fun (q3 : Int) (q5 : Int) => (q3, q5))))
def m_pairs_apart_ok (k1 : Int) : Prop :=
  And (RngOk ((2 : Int) * k1)) <|
  And (SzOk (lc2 (rng 0 ((2 : Int) * k1)) (fun (q3 : Int) => true) (fun (q3 : Int) => (rng (q3 + (1 : Int)) ((2 : Int) * k1))) (fun (q3 : Int) (q5 : Int) => (!(decide ((q3 / (2 : Int)) = (q5 / (2 : Int)))))) (fun (q3 : Int) (q5 : Int) => (q3, q5))).length) <|
  And ((∀ q3 ∈ (rng 0 ((2 : Int) * k1)), (True) ∧ (true = true → (RngOk (q3 + (1 : Int)) ∧ RngOk ((2 : Int) * k1) ∧ True) ∧ (∀ q5 ∈ (rng (q3 + (1 : Int)) ((2 : Int) * k1)), (True) ∧ ((!(decide ((q3 / (2 : Int)) = (q5 / (2 : Int))))) = true → (True)))))) <|
  True
def R_m_pairs_apart : List D → SV → Prop := fun ds w => ∃ (k1 : Int), ds = [PyData.int k1] ∧ m_pairs_apart_ok k1 ∧ w = (fun r => .val ((eP PyData.int (eT (eP PyData.int PyData.int))) r)) (m_pairs_apart k1)
theorem R_m_pairs_apart.mk {k1 : Int} {r : (Int × (List (Int × Int)))} (er : r = (m_pairs_apart k1)) (h : m_pairs_apart_ok k1) : R_m_pairs_apart [PyData.int k1] ((fun r => .val ((eP PyData.int (eT (eP PyData.int PyData.int))) r)) r) := ⟨k1, rfl, h, by rw [er]⟩
theorem ws_m_pairs_apart {P : Program} {w : World} {K : PySem.W.Frag} {mg : Str → Option Value} {base : Heap} (bt : NoB mg)  (k1 : Int) (h : m_pairs_apart_ok k1) : WS (dC P w K mg base N_pairs_apart (defScope s_pairs_apart) 0) (defBody s_pairs_apart) [.val (PyData.int k1), .un, .un] (Ret ((fun r => .val ((eP PyData.int (eT (eP PyData.int PyData.int))) r)) (m_pairs_apart k1))) := by
  haveI : Bt (dC P w K mg base N_pairs_apart (defScope s_pairs_apart) 0) := ⟨bt⟩
  haveI : ∀ sc, Bt ((dC P w K mg base N_pairs_apart (defScope s_pairs_apart) 0).blk sc) := fun sc => ⟨bt⟩
  haveI : ∀ sc sc2, Bt (((dC P w K mg base N_pairs_apart (defScope s_pairs_apart) 0).blk sc).blk sc2) := fun sc sc2 => ⟨bt⟩
  haveI : ∀ sc sc2 sc3, Bt ((((dC P w K mg base N_pairs_apart (defScope s_pairs_apart) 0).blk sc).blk sc2).blk sc3) := fun sc sc2 sc3 => ⟨bt⟩
  have nd := sc_pairs_apart.nd
  unfold m_pairs_apart_ok at h
  obtain ⟨o2, o15, o16, h⟩ := h
  exact ws_ret (ex_pair (ea := PyData.int) (eb := (eT (eP PyData.int PyData.int))) (x := ((2 : Int) * k1)) (y := (lc2 (rng 0 ((2 : Int) * k1)) (fun (q3 : Int) => true) (fun (q3 : Int) => (rng (q3 + (1 : Int)) ((2 : Int) * k1))) (fun (q3 : Int) (q5 : Int) => (!(decide ((q3 / (2 : Int)) = (q5 / (2 : Int)))))) (fun (q3 : Int) (q5 : Int) => (q3, q5)))) (av_cons (ex_mul ex_int (ex_name (i := 0)) (MulOk.litL (by decide))) (av_cons (ex_tupL (EX.fzE (Lc2X.ex (lc2x_P (own := [(("a" : Str), 1), (("b" : Str), 2)]) (vs1 := [2]) (S3 := fun (q3 : Int) => [.val (PyData.int k1), .val (PyData.int q3), .un]) (S4 := fun (q3 : Int) (q5 : Int) => [.val (PyData.int k1), .val (PyData.int q3), .val (PyData.int q5)]) (p := fun (q3 : Int) => true) (ys := fun (q3 : Int) => (rng (q3 + (1 : Int)) ((2 : Int) * k1))) (q := fun (q3 : Int) (q5 : Int) => (!(decide ((q3 / (2 : Int)) = (q5 / (2 : Int)))))) (f := fun (q3 : Int) (q5 : Int) => (q3, q5)) (en := PyData.int) (en1 := PyData.int) (em := (eP PyData.int PyData.int)) (Sw := [.val (PyData.int k1), .un, .un]) nd (BlkOk.of (by kernel_rfl)) (by decide) (itx_range1 (ex_mul ex_int (ex_name (i := 0)) (MulOk.litL (by decide))) o2) o15 (fun q3 m4 => ⟨(gx_name (i := 1) nd (hi := lt_b rfl)), ⟨rfl, rfl⟩, fun k9 => by obtain ⟨o7, o8, -⟩ := ((o16 q3 m4).2 k9).1; exact (itx_range2 (ex_add (ex_name (i := 1)) ex_int) (ex_mul ex_int (ex_name (i := 0)) (MulOk.litL (by decide))) o7 o8), fun k9 q5 m6 => (gx_name (i := 2) nd (hi := lt_b rfl)), fun k9 q5 m6 => (tx_ne (e := PyData.int) (ex_fdiv (ex_name (i := 1)) ex_int (show 0 < (2 : Int) ∧ (2 : Int) < 1073741824 by decide)) (ex_fdiv (ex_name (i := 2)) ex_int (show 0 < (2 : Int) ∧ (2 : Int) < 1073741824 by decide))), fun k9 q5 m6 k10 => (ex_pair (ea := PyData.int) (eb := PyData.int) (x := q3) (y := q5) (av_cons (ex_name (i := 1)) (av_cons (ex_name (i := 2)) av_nil)))⟩))))) av_nil))) (ret_ok (Wf := fun r => .val ((eP PyData.int (eT (eP PyData.int PyData.int))) r)) (v := (((2 : Int) * k1), (lc2 (rng 0 ((2 : Int) * k1)) (fun (q3 : Int) => true) (fun (q3 : Int) => (rng (q3 + (1 : Int)) ((2 : Int) * k1))) (fun (q3 : Int) (q5 : Int) => (!(decide ((q3 / (2 : Int)) = (q5 / (2 : Int)))))) (fun (q3 : Int) (q5 : Int) => (q3, q5))))) rfl)
theorem fn_m_pairs_apart {P : Program} {w : World} {K : PySem.W.Frag} {mg : Str → Option Value} {base : Heap} {f : Addr} {fd : FuncData} (bt : NoB mg)  (F : FnP K "pairs_apart" s_pairs_apart f fd) : FnG P w K mg base (0 + 1) f fd A_pairs_apart (spP R_m_pairs_apart) :=
  ok_P F sc_pairs_apart (fun ds v hR => by obtain ⟨k1, rfl, _, _⟩ := hR; rfl) fun ds v hR => by obtain ⟨k1, rfl, h, rfl⟩ := hR; exact ws_m_pairs_apart bt  k1 h
/-! ### pairs_twice -/
abbrev s_pairs_twice : Stmt := top 18
abbrev N_pairs_twice : List Str := ["k", "found", "word", "x"]
abbrev A_pairs_twice : List Str := ["k"]
theorem sc_pairs_twice : FnScope N_pairs_twice A_pairs_twice (defScope s_pairs_twice) := ⟨rfl, rfl, rfl, by decide +kernel, rfl, by decide +kernel, by decide +kernel⟩
def m_pairs_twice_l10_s  (s11 : (List (List Int))) (q12 : (List Int)) : (List (List Int)) :=
  let found17 : (List (List Int)) := (s11 ++ ([q12, (q12.map (fun (q14 : Int) => ((1 : Int) - q14)))]))
  found17
def m_pairs_twice_l10_o  (s11 : (List (List Int))) (q12 : (List Int)) : Prop :=
  And (SzOk (s11.length + ([q12, (q12.map (fun (q14 : Int) => ((1 : Int) - q14)))]).length)) <|
  let found17 : (List (List Int)) := (s11 ++ ([q12, (q12.map (fun (q14 : Int) => ((1 : Int) - q14)))]))
  True
@[irreducible] def m_pairs_twice_l10 (found2 : (List (List Int))) (xs9 : (List (List Int))) : (List (List Int)) :=
  List.foldl (m_pairs_twice_l10_s) found2 xs9
theorem m_pairs_twice_l10_eq (found2 : (List (List Int))) (xs9 : (List (List Int))) : m_pairs_twice_l10 found2 xs9 = List.foldl (m_pairs_twice_l10_s) found2 xs9 := by unfold m_pairs_twice_l10; rfl
def m_pairs_twice (k1 : Int) : (List (List Int)) :=
  let found2 : (List (List Int)) := ([] : List (List Int))
  letC ((m_half_words (4 : Int))) fun (r4 : (List (List Int))) =>
  let xs9 : (List (List Int)) := (slc ((r4.filter (fun (q5 : (List Int)) => (decide ((nth q5 (0 : Int)) = (0 : Int))))).map (fun (q5 : (List Int)) => q5)) none (some k1))
  letC (m_pairs_twice_l10 found2 xs9) fun (r19 : (List (List Int))) =>
  r19
def m_pairs_twice_ok (k1 : Int) : Prop :=
  let found2 : (List (List Int)) := ([] : List (List Int))
  And (m_half_words_ok (4 : Int)) <|
  letC ((m_half_words (4 : Int))) fun (r4 : (List (List Int))) =>
  And ((∀ q5 ∈ r4, (InB q5 (0 : Int) ∧ True))) <|
  let xs9 : (List (List Int)) := (slc ((r4.filter (fun (q5 : (List Int)) => (decide ((nth q5 (0 : Int)) = (0 : Int))))).map (fun (q5 : (List Int)) => q5)) none (some k1))
  And (LOk (m_pairs_twice_l10_s) (m_pairs_twice_l10_o) found2 xs9) <|
  letC (m_pairs_twice_l10 found2 xs9) fun (r19 : (List (List Int))) =>
  True
def R_m_pairs_twice : List D → SV → Prop := fun ds w => ∃ (k1 : Int), ds = [PyData.int k1] ∧ m_pairs_twice_ok k1 ∧ w = (fun r => .val ((eT (eT PyData.int)) r)) (m_pairs_twice k1)
theorem R_m_pairs_twice.mk {k1 : Int} {r : (List (List Int))} (er : r = (m_pairs_twice k1)) (h : m_pairs_twice_ok k1) : R_m_pairs_twice [PyData.int k1] ((fun r => .val ((eT (eT PyData.int)) r)) r) := ⟨k1, rfl, h, by rw [er]⟩
theorem ws_m_pairs_twice {P : Program} {w : World} {K : PySem.W.Frag} {mg : Str → Option Value} {base : Heap} (bt : NoB mg) (C_m_half_words : Callee P w K mg base "half_words" 2 A_half_words (spP R_m_half_words)) (k1 : Int) (h : m_pairs_twice_ok k1) : WS (dC P w K mg base N_pairs_twice (defScope s_pairs_twice) 2) (defBody s_pairs_twice) [.val (PyData.int k1), .un, .un, .un] (Ret ((fun r => .val ((eT (eT PyData.int)) r)) (m_pairs_twice k1))) := by
  haveI : Bt (dC P w K mg base N_pairs_twice (defScope s_pairs_twice) 2) := ⟨bt⟩
  haveI : ∀ sc, Bt ((dC P w K mg base N_pairs_twice (defScope s_pairs_twice) 2).blk sc) := fun sc => ⟨bt⟩
  haveI : ∀ sc sc2, Bt (((dC P w K mg base N_pairs_twice (defScope s_pairs_twice) 2).blk sc).blk sc2) := fun sc sc2 => ⟨bt⟩
  haveI : ∀ sc sc2 sc3, Bt ((((dC P w K mg base N_pairs_twice (defScope s_pairs_twice) 2).blk sc).blk sc2).blk sc3) := fun sc sc2 sc3 => ⟨bt⟩
  have nd := sc_pairs_twice.nd
  unfold m_pairs_twice_ok at h
  let found2 : (List (List Int)) := ([] : List (List Int))
  refine ws_set (i := 1) nd (ex_lstE (en := (eT PyData.int)) (xs := ([] : List (List Int))) av_nil) ?_ (hi := lt_b rfl)
  obtain ⟨o3, h⟩ := h
  obtain ⟨r4, hr4⟩ : ∃ r : (List (List Int)), r = (m_half_words (4 : Int)) := ⟨_, rfl⟩
  replace h := letC_mp hr4 h
  obtain ⟨o8, h⟩ := h
  let xs9 : (List (List Int)) := (slc ((r4.filter (fun (q5 : (List Int)) => (decide ((nth q5 (0 : Int)) = (0 : Int))))).map (fun (q5 : (List Int)) => q5)) none (some k1))
  obtain ⟨o18, h⟩ := h
  obtain ⟨r19, hr19⟩ : ∃ r : (List (List Int)), r = m_pairs_twice_l10 found2 xs9 := ⟨_, rfl⟩
  replace h := letC_mp hr19 h
  refine ws_forFR (vs := [2]) (xs := xs9) (en := (eT PyData.int)) (fun (r : (List (List Int))) => [.val (PyData.int k1), .lst ((r).map (eT PyData.int)), .un, .un]) (m_pairs_twice_l10_s) (m_pairs_twice_l10_o) found2 (r19) (Eq.trans hr19 (m_pairs_twice_l10_eq found2 xs9)) (itx_listE (EX.fzE (ex_slL (EX.fzE (LcX.ex (lcx_P (own := [(("word" : Str), 2)]) (S3 := fun (q5 : (List Int)) => [.val (PyData.int k1), .lst ((found2).map (eT PyData.int)), .val ((eT PyData.int) q5), .un]) (p := fun (q5 : (List Int)) => (decide ((nth q5 (0 : Int)) = (0 : Int)))) (f := fun (q5 : (List Int)) => q5) (en := (eT PyData.int)) (em := (eT PyData.int)) (Sw := [.val (PyData.int k1), .lst ((found2).map (eT PyData.int)), .un, .un]) nd (BlkOk.of (by kernel_rfl)) (itx_tupE (ex_call C_m_half_words (av_cons ex_int av_nil) (R_m_half_words.mk hr4 o3) (hk := le_b rfl))) (fun q5 m6 => by obtain ⟨o7, -⟩ := o8 q5 m6; exact ⟨(gx_name (i := 2) nd (hi := lt_b rfl)), (tx_eq (e := PyData.int) (ex_ixT (ex_name (i := 2)) ex_int o7) ex_int), (fun _ => (ex_name (i := 2)))⟩)))) ox_none (ox_some (ex_name (i := 0)))))) (Wk.imp (Wk.k (Wk.k (Wk.k (Wk.k Wk.nil))))) o18 (fun s11 q12 m13 h => ⟨_, (gx_name (i := 2) nd (hi := lt_b rfl)), ?_⟩) ?_
  · obtain ⟨o16, h⟩ := h
    refine ws_expr (ex_extend (i := 1) (xs := s11) (en := (eT PyData.int)) (EX.fzE (ex_lstE (en := (eT PyData.int)) (xs := [q12, (q12.map (fun (q14 : Int) => ((1 : Int) - q14)))]) (av_cons (ex_name (i := 2)) (av_cons (ex_tupL (EX.fzE (LcX.ex (lcx_M (own := [(("x" : Str), 3)]) (S3 := fun (q14 : Int) => [.val (PyData.int k1), .lst ((s11).map (eT PyData.int)), .val ((eT PyData.int) q12), .val (PyData.int q14)]) (f := fun (q14 : Int) => ((1 : Int) - q14)) (en := PyData.int) (em := PyData.int) (Sw := [.val (PyData.int k1), .lst ((s11).map (eT PyData.int)), .val ((eT PyData.int) q12), .un]) nd (BlkOk.of (by kernel_rfl)) (itx_tupE (ex_name (i := 2))) (fun q14 m15 => (gx_name (i := 3) nd (hi := lt_b rfl))) (fun q14 m15 => (ex_sub ex_int (ex_name (i := 3)))))))) av_nil)))) (hz := o16)) ?_
    let found17 : (List (List Int)) := (s11 ++ ([q12, (q12.map (fun (q14 : Int) => ((1 : Int) - q14)))]))
    exact ws_nil (nxt_ok (Sf := (fun (r : (List (List Int))) => [.val (PyData.int k1), .lst ((r).map (eT PyData.int)), .un, .un])) (v := found17) rfl (Wk.k (Wk.k (Wk.d (Wk.k Wk.nil)))))
  refine WS.pre (S1 := [.val (PyData.int k1), .val ((eL (eT PyData.int)) r19), .un, .un]) (Wk.imp (Wk.k (Wk.f (Wk.k (Wk.k Wk.nil))))) ?_
  exact ws_ret (ex_tupL (ex_name (i := 1))) (ret_ok (Wf := fun r => .val ((eT (eT PyData.int)) r)) (v := r19) (Eq.trans (letC_eq hr4) (Eq.trans (letC_eq hr19) rfl)))
theorem fn_m_pairs_twice {P : Program} {w : World} {K : PySem.W.Frag} {mg : Str → Option Value} {base : Heap} {f : Addr} {fd : FuncData} (bt : NoB mg) (C_m_half_words : Callee P w K mg base "half_words" 2 A_half_words (spP R_m_half_words)) (F : FnP K "pairs_twice" s_pairs_twice f fd) : FnG P w K mg base (2 + 1) f fd A_pairs_twice (spP R_m_pairs_twice) :=
  ok_P F sc_pairs_twice (fun ds v hR => by obtain ⟨k1, rfl, _, _⟩ := hR; rfl) fun ds v hR => by obtain ⟨k1, rfl, h, rfl⟩ := hR; exact ws_m_pairs_twice bt C_m_half_words k1 h
/-! ### product_twice -/
abbrev s_product_twice : Stmt := top 19
abbrev N_product_twice : List Str := ["words", "late", "word", "more"]
abbrev A_product_twice : List Str := ["words", "late"]
theorem sc_product_twice : FnScope N_product_twice A_product_twice (defScope s_product_twice) := ⟨rfl, rfl, rfl, by decide +kernel, rfl, by decide +kernel, by decide +kernel⟩
def m_product_twice (words1 : (List (List Int))) (late2 : (List (List Int))) : (List (List Int)) :=
  (lc2 words1 (fun (q3 : (List Int)) => true) (fun (q3 : (List Int)) => late2) (fun (q3 : (List Int)) (q5 : (List Int)) => true) (fun (q3 : (List Int)) (q5 : (List Int)) => (q3 ++ q5)))
def m_product_twice_ok (words1 : (List (List Int))) (late2 : (List (List Int))) : Prop :=
  And (SzOk (lc2 words1 (fun (q3 : (List Int)) => true) (fun (q3 : (List Int)) => late2) (fun (q3 : (List Int)) (q5 : (List Int)) => true) (fun (q3 : (List Int)) (q5 : (List Int)) => (q3 ++ q5))).length) <|
  And ((∀ q3 ∈ words1, (True) ∧ (true = true → (True) ∧ (∀ q5 ∈ late2, (True) ∧ (true = true → (SzOk ((q3 ++ q5)).length ∧ True)))))) <|
  True
def R_m_product_twice : List D → SV → Prop := fun ds w => ∃ (words1 : (List (List Int))) (late2 : (List (List Int))), ds = [(eT (eT PyData.int)) words1, (eT (eT PyData.int)) late2] ∧ m_product_twice_ok words1 late2 ∧ w = (fun r => .val ((eT (eT PyData.int)) r)) (m_product_twice words1 late2)
theorem R_m_product_twice.mk {words1 : (List (List Int))} {late2 : (List (List Int))} {r : (List (List Int))} (er : r = (m_product_twice words1 late2)) (h : m_product_twice_ok words1 late2) : R_m_product_twice [(eT (eT PyData.int)) words1, (eT (eT PyData.int)) late2] ((fun r => .val ((eT (eT PyData.int)) r)) r) := ⟨words1, late2, rfl, h, by rw [er]⟩
theorem ws_m_product_twice {P : Program} {w : World} {K : PySem.W.Frag} {mg : Str → Option Value} {base : Heap} (bt : NoB mg)  (words1 : (List (List Int))) (late2 : (List (List Int))) (h : m_product_twice_ok words1 late2) : WS (dC P w K mg base N_product_twice (defScope s_product_twice) 0) (defBody s_product_twice) [.val ((eT (eT PyData.int)) words1), .val ((eT (eT PyData.int)) late2), .un, .un] (Ret ((fun r => .val ((eT (eT PyData.int)) r)) (m_product_twice words1 late2))) := by
  haveI : Bt (dC P w K mg base N_product_twice (defScope s_product_twice) 0) := ⟨bt⟩
  haveI : ∀ sc, Bt ((dC P w K mg base N_product_twice (defScope s_product_twice) 0).blk sc) := fun sc => ⟨bt⟩
  haveI : ∀ sc sc2, Bt (((dC P w K mg base N_product_twice (defScope s_product_twice) 0).blk sc).blk sc2) := fun sc sc2 => ⟨bt⟩
  haveI : ∀ sc sc2 sc3, Bt ((((dC P w K mg base N_product_twice (defScope s_product_twice) 0).blk sc).blk sc2).blk sc3) := fun sc sc2 sc3 => ⟨bt⟩
  have nd := sc_product_twice.nd
  unfold m_product_twice_ok at h
  obtain ⟨o14, o15, h⟩ := h
  exact ws_ret (ex_tupL (EX.fzE (Lc2X.ex (lc2x_P (own := [(("word" : Str), 2), (("more" : Str), 3)]) (vs1 := [3]) (S3 := fun (q3 : (List Int)) => [.val ((eT (eT PyData.int)) words1), .val ((eT (eT PyData.int)) late2), .val ((eT PyData.int) q3), .un]) (S4 := fun (q3 : (List Int)) (q5 : (List Int)) => [.val ((eT (eT PyData.int)) words1), .val ((eT (eT PyData.int)) late2), .val ((eT PyData.int) q3), .val ((eT PyData.int) q5)]) (p := fun (q3 : (List Int)) => true) (ys := fun (q3 : (List Int)) => late2) (q := fun (q3 : (List Int)) (q5 : (List Int)) => true) (f := fun (q3 : (List Int)) (q5 : (List Int)) => (q3 ++ q5)) (en := (eT PyData.int)) (en1 := (eT PyData.int)) (em := (eT PyData.int)) (Sw := [.val ((eT (eT PyData.int)) words1), .val ((eT (eT PyData.int)) late2), .un, .un]) nd (BlkOk.of (by kernel_rfl)) (by decide) (itx_tupE (ex_name (i := 0))) o14 (fun q3 m4 => ⟨(gx_name (i := 2) nd (hi := lt_b rfl)), ⟨rfl, rfl⟩, fun k8 => (itx_tupE (ex_name (i := 1))), fun k8 q5 m6 => (gx_name (i := 3) nd (hi := lt_b rfl)), fun k8 q5 m6 => ⟨rfl, rfl⟩, fun k8 q5 m6 k9 => by obtain ⟨o7, -⟩ := (((o15 q3 m4).2 k8).2 q5 m6).2 k9; exact (ex_tupS (xs := (q3 ++ q5)) (av_starE (.inl rfl) (ex_name (i := 2)) (av_star1 (.inl rfl) (ex_name (i := 3)))) o7)⟩))))) (ret_ok (Wf := fun r => .val ((eT (eT PyData.int)) r)) (v := (lc2 words1 (fun (q3 : (List Int)) => true) (fun (q3 : (List Int)) => late2) (fun (q3 : (List Int)) (q5 : (List Int)) => true) (fun (q3 : (List Int)) (q5 : (List Int)) => (q3 ++ q5)))) rfl)
theorem fn_m_product_twice {P : Program} {w : World} {K : PySem.W.Frag} {mg : Str → Option Value} {base : Heap} {f : Addr} {fd : FuncData} (bt : NoB mg)  (F : FnP K "product_twice" s_product_twice f fd) : FnG P w K mg base (0 + 1) f fd A_product_twice (spP R_m_product_twice) :=
  ok_P F sc_product_twice (fun ds v hR => by obtain ⟨words1, late2, rfl, _, _⟩ := hR; rfl) fun ds v hR => by obtain ⟨words1, late2, rfl, h, rfl⟩ := hR; exact ws_m_product_twice bt  words1 late2 h
/-! ### steps_within -/
abbrev s_steps_within : Stmt := top 21
abbrev N_steps_within : List Str := ["rows", "places", "b", "k", "a"]
abbrev A_steps_within : List Str := ["rows", "places"]
theorem sc_steps_within : FnScope N_steps_within A_steps_within (defScope s_steps_within) := ⟨rfl, rfl, rfl, by decide +kernel, rfl, by decide +kernel, by decide +kernel⟩
def m_steps_within (rows1 : (List (List (Option Int)))) (places2 : (List Int)) : Int :=
  ((lc2 (enumI 0 places2) (fun (q3 : (Int × Int)) => true) (fun (q3 : (Int × Int)) => (slc places2 (some (q3.1 + (1 : Int))) none)) (fun (q3 : (Int × Int)) (q5 : Int) => true) (fun (q3 : (Int × Int)) (q5 : Int) => (getO (nth (nth rows1 q3.2) q5))))).sum
def m_steps_within_ok (rows1 : (List (List (Option Int)))) (places2 : (List Int)) : Prop :=
  And (SzOk (lc2 (enumI 0 places2) (fun (q3 : (Int × Int)) => true) (fun (q3 : (Int × Int)) => (slc places2 (some (q3.1 + (1 : Int))) none)) (fun (q3 : (Int × Int)) (q5 : Int) => true) (fun (q3 : (Int × Int)) (q5 : Int) => (getO (nth (nth rows1 q3.2) q5)))).length) <|
  And ((∀ q3 ∈ (enumI 0 places2), (True) ∧ (true = true → (True) ∧ (∀ q5 ∈ (slc places2 (some (q3.1 + (1 : Int))) none), (True) ∧ (true = true → (InB rows1 q3.2 ∧ InB (nth rows1 q3.2) q5 ∧ ((nth (nth rows1 q3.2) q5)).isSome = true ∧ True)))))) <|
  True
def R_m_steps_within : List D → SV → Prop := fun ds w => ∃ (rows1 : (List (List (Option Int)))) (places2 : (List Int)), ds = [(eT (eT (eO PyData.int))) rows1, (eT PyData.int) places2] ∧ m_steps_within_ok rows1 places2 ∧ w = (fun r => .val (PyData.int r)) (m_steps_within rows1 places2)
theorem R_m_steps_within.mk {rows1 : (List (List (Option Int)))} {places2 : (List Int)} {r : Int} (er : r = (m_steps_within rows1 places2)) (h : m_steps_within_ok rows1 places2) : R_m_steps_within [(eT (eT (eO PyData.int))) rows1, (eT PyData.int) places2] ((fun r => .val (PyData.int r)) r) := ⟨rows1, places2, rfl, h, by rw [er]⟩
theorem ws_m_steps_within {P : Program} {w : World} {K : PySem.W.Frag} {mg : Str → Option Value} {base : Heap} (bt : NoB mg)  (rows1 : (List (List (Option Int)))) (places2 : (List Int)) (h : m_steps_within_ok rows1 places2) : WS (dC P w K mg base N_steps_within (defScope s_steps_within) 0) (defBody s_steps_within) [.val ((eT (eT (eO PyData.int))) rows1), .val ((eT PyData.int) places2), .un, .un, .un] (Ret ((fun r => .val (PyData.int r)) (m_steps_within rows1 places2))) := by
  haveI : Bt (dC P w K mg base N_steps_within (defScope s_steps_within) 0) := ⟨bt⟩
  haveI : ∀ sc, Bt ((dC P w K mg base N_steps_within (defScope s_steps_within) 0).blk sc) := fun sc => ⟨bt⟩
  haveI : ∀ sc sc2, Bt (((dC P w K mg base N_steps_within (defScope s_steps_within) 0).blk sc).blk sc2) := fun sc sc2 => ⟨bt⟩
  haveI : ∀ sc sc2 sc3, Bt ((((dC P w K mg base N_steps_within (defScope s_steps_within) 0).blk sc).blk sc2).blk sc3) := fun sc sc2 sc3 => ⟨bt⟩
  have nd := sc_steps_within.nd
  unfold m_steps_within_ok at h
  obtain ⟨o16, o17, h⟩ := h
  exact ws_ret (ex_sum (EX.fzE (Lc2X.ex (lc2x_P (own := [(("k" : Str), 3), (("a" : Str), 4), (("b" : Str), 2)]) (vs1 := [2]) (S3 := fun (q3 : (Int × Int)) => [.val ((eT (eT (eO PyData.int))) rows1), .val ((eT PyData.int) places2), .un, .val (PyData.int q3.1), .val (PyData.int q3.2)]) (S4 := fun (q3 : (Int × Int)) (q5 : Int) => [.val ((eT (eT (eO PyData.int))) rows1), .val ((eT PyData.int) places2), .val (PyData.int q5), .val (PyData.int q3.1), .val (PyData.int q3.2)]) (p := fun (q3 : (Int × Int)) => true) (ys := fun (q3 : (Int × Int)) => (slc places2 (some (q3.1 + (1 : Int))) none)) (q := fun (q3 : (Int × Int)) (q5 : Int) => true) (f := fun (q3 : (Int × Int)) (q5 : Int) => (getO (nth (nth rows1 q3.2) q5))) (en := (eP PyData.int PyData.int)) (en1 := PyData.int) (em := PyData.int) (Sw := [.val ((eT (eT (eO PyData.int))) rows1), .val ((eT PyData.int) places2), .un, .un, .un]) nd (BlkOk.of (by kernel_rfl)) (by decide) (itx_enum (ex_name (i := 1)) (.inl rfl)) o16 (fun q3 m4 => ⟨(gx_tup (ds := [PyData.int q3.1, PyData.int q3.2]) (gsx_cons (gx_name (i := 3) nd (hi := lt_b rfl)) (gsx_cons (gx_name (i := 4) nd (hi := lt_b rfl)) gsx_nil)) rfl), ⟨rfl, rfl⟩, fun k10 => (itx_tupE (ex_slT (ex_name (i := 1)) (ox_some (ex_add (ex_name (i := 3)) ex_int)) ox_none)), fun k10 q5 m6 => (gx_name (i := 2) nd (hi := lt_b rfl)), fun k10 q5 m6 => ⟨rfl, rfl⟩, fun k10 q5 m6 k11 => by obtain ⟨o7, o8, o9, -⟩ := (((o17 q3 m4).2 k10).2 q5 m6).2 k11; exact (ex_getO (ex_ixT (ex_ixT (ex_name (i := 0)) (ex_name (i := 4)) o7) (ex_name (i := 2)) o8) o9)⟩))))) (ret_ok (Wf := fun r => .val (PyData.int r)) (v := ((lc2 (enumI 0 places2) (fun (q3 : (Int × Int)) => true) (fun (q3 : (Int × Int)) => (slc places2 (some (q3.1 + (1 : Int))) none)) (fun (q3 : (Int × Int)) (q5 : Int) => true) (fun (q3 : (Int × Int)) (q5 : Int) => (getO (nth (nth rows1 q3.2) q5))))).sum) rfl)
theorem fn_m_steps_within {P : Program} {w : World} {K : PySem.W.Frag} {mg : Str → Option Value} {base : Heap} {f : Addr} {fd : FuncData} (bt : NoB mg)  (F : FnP K "steps_within" s_steps_within f fd) : FnG P w K mg base (0 + 1) f fd A_steps_within (spP R_m_steps_within) :=
  ok_P F sc_steps_within (fun ds v hR => by obtain ⟨rows1, places2, rfl, _, _⟩ := hR; rfl) fun ds v hR => by obtain ⟨rows1, places2, rfl, h, rfl⟩ := hR; exact ws_m_steps_within bt  rows1 places2 h
/-! ### excess_of -/
abbrev s_excess_of : Stmt := top 22
abbrev N_excess_of : List Str := ["rows", "three", "two", "a", "b"]
abbrev A_excess_of : List Str := ["rows", "three", "two"]
theorem sc_excess_of : FnScope N_excess_of A_excess_of (defScope s_excess_of) := ⟨rfl, rfl, rfl, by decide +kernel, rfl, by decide +kernel, by decide +kernel⟩
def m_excess_of (rows1 : (List (List (Option Int)))) (three2 : (List Int)) (two3 : (List Int)) : Int :=
  letC ((m_steps_within rows1 three2)) fun (r5 : Int) =>
  letC ((m_steps_within rows1 two3)) fun (r7 : Int) =>
  ((r5 + r7) - ((lc2 three2 (fun (q8 : Int) => true) (fun (q8 : Int) => two3) (fun (q8 : Int) (q10 : Int) => true) (fun (q8 : Int) (q10 : Int) => (getO (nth (nth rows1 q8) q10))))).sum)
def m_excess_of_ok (rows1 : (List (List (Option Int)))) (three2 : (List Int)) (two3 : (List Int)) : Prop :=
  And (m_steps_within_ok rows1 three2) <|
  letC ((m_steps_within rows1 three2)) fun (r5 : Int) =>
  And (m_steps_within_ok rows1 two3) <|
  letC ((m_steps_within rows1 two3)) fun (r7 : Int) =>
  And (SzOk (lc2 three2 (fun (q8 : Int) => true) (fun (q8 : Int) => two3) (fun (q8 : Int) (q10 : Int) => true) (fun (q8 : Int) (q10 : Int) => (getO (nth (nth rows1 q8) q10)))).length) <|
  And ((∀ q8 ∈ three2, (True) ∧ (true = true → (True) ∧ (∀ q10 ∈ two3, (True) ∧ (true = true → (InB rows1 q8 ∧ InB (nth rows1 q8) q10 ∧ ((nth (nth rows1 q8) q10)).isSome = true ∧ True)))))) <|
  True
def R_m_excess_of : List D → SV → Prop := fun ds w => ∃ (rows1 : (List (List (Option Int)))) (three2 : (List Int)) (two3 : (List Int)), ds = [(eT (eT (eO PyData.int))) rows1, (eT PyData.int) three2, (eT PyData.int) two3] ∧ m_excess_of_ok rows1 three2 two3 ∧ w = (fun r => .val (PyData.int r)) (m_excess_of rows1 three2 two3)
theorem R_m_excess_of.mk {rows1 : (List (List (Option Int)))} {three2 : (List Int)} {two3 : (List Int)} {r : Int} (er : r = (m_excess_of rows1 three2 two3)) (h : m_excess_of_ok rows1 three2 two3) : R_m_excess_of [(eT (eT (eO PyData.int))) rows1, (eT PyData.int) three2, (eT PyData.int) two3] ((fun r => .val (PyData.int r)) r) := ⟨rows1, three2, two3, rfl, h, by rw [er]⟩
theorem ws_m_excess_of {P : Program} {w : World} {K : PySem.W.Frag} {mg : Str → Option Value} {base : Heap} (bt : NoB mg) (C_m_steps_within : Callee P w K mg base "steps_within" 1 A_steps_within (spP R_m_steps_within)) (rows1 : (List (List (Option Int)))) (three2 : (List Int)) (two3 : (List Int)) (h : m_excess_of_ok rows1 three2 two3) : WS (dC P w K mg base N_excess_of (defScope s_excess_of) 1) (defBody s_excess_of) [.val ((eT (eT (eO PyData.int))) rows1), .val ((eT PyData.int) three2), .val ((eT PyData.int) two3), .un, .un] (Ret ((fun r => .val (PyData.int r)) (m_excess_of rows1 three2 two3))) := by
  haveI : Bt (dC P w K mg base N_excess_of (defScope s_excess_of) 1) := ⟨bt⟩
  haveI : ∀ sc, Bt ((dC P w K mg base N_excess_of (defScope s_excess_of) 1).blk sc) := fun sc => ⟨bt⟩
  haveI : ∀ sc sc2, Bt (((dC P w K mg base N_excess_of (defScope s_excess_of) 1).blk sc).blk sc2) := fun sc sc2 => ⟨bt⟩
  haveI : ∀ sc sc2 sc3, Bt ((((dC P w K mg base N_excess_of (defScope s_excess_of) 1).blk sc).blk sc2).blk sc3) := fun sc sc2 sc3 => ⟨bt⟩
  have nd := sc_excess_of.nd
  unfold m_excess_of_ok at h
  obtain ⟨o4, h⟩ := h
  obtain ⟨r5, hr5⟩ : ∃ r : Int, r = (m_steps_within rows1 three2) := ⟨_, rfl⟩
  replace h := letC_mp hr5 h
  obtain ⟨o6, h⟩ := h
  obtain ⟨r7, hr7⟩ : ∃ r : Int, r = (m_steps_within rows1 two3) := ⟨_, rfl⟩
  replace h := letC_mp hr7 h
  obtain ⟨o21, o22, h⟩ := h
  exact ws_ret (ex_sub (ex_add (ex_call C_m_steps_within (av_cons (ex_name (i := 0)) (av_cons (ex_name (i := 1)) av_nil)) (R_m_steps_within.mk hr5 o4) (hk := le_b rfl)) (ex_call C_m_steps_within (av_cons (ex_name (i := 0)) (av_cons (ex_name (i := 2)) av_nil)) (R_m_steps_within.mk hr7 o6) (hk := le_b rfl))) (ex_sum (EX.fzE (Lc2X.ex (lc2x_P (own := [(("a" : Str), 3), (("b" : Str), 4)]) (vs1 := [4]) (S3 := fun (q8 : Int) => [.val ((eT (eT (eO PyData.int))) rows1), .val ((eT PyData.int) three2), .val ((eT PyData.int) two3), .val (PyData.int q8), .un]) (S4 := fun (q8 : Int) (q10 : Int) => [.val ((eT (eT (eO PyData.int))) rows1), .val ((eT PyData.int) three2), .val ((eT PyData.int) two3), .val (PyData.int q8), .val (PyData.int q10)]) (p := fun (q8 : Int) => true) (ys := fun (q8 : Int) => two3) (q := fun (q8 : Int) (q10 : Int) => true) (f := fun (q8 : Int) (q10 : Int) => (getO (nth (nth rows1 q8) q10))) (en := PyData.int) (en1 := PyData.int) (em := PyData.int) (Sw := [.val ((eT (eT (eO PyData.int))) rows1), .val ((eT PyData.int) three2), .val ((eT PyData.int) two3), .un, .un]) nd (BlkOk.of (by kernel_rfl)) (by decide) (itx_tupE (ex_name (i := 1))) o21 (fun q8 m9 => ⟨(gx_name (i := 3) nd (hi := lt_b rfl)), ⟨rfl, rfl⟩, fun k15 => (itx_tupE (ex_name (i := 2))), fun k15 q10 m11 => (gx_name (i := 4) nd (hi := lt_b rfl)), fun k15 q10 m11 => ⟨rfl, rfl⟩, fun k15 q10 m11 k16 => by obtain ⟨o12, o13, o14, -⟩ := (((o22 q8 m9).2 k15).2 q10 m11).2 k16; exact (ex_getO (ex_ixT (ex_ixT (ex_name (i := 0)) (ex_name (i := 3)) o12) (ex_name (i := 4)) o13) o14)⟩)))))) (ret_ok (Wf := fun r => .val (PyData.int r)) (v := ((r5 + r7) - ((lc2 three2 (fun (q8 : Int) => true) (fun (q8 : Int) => two3) (fun (q8 : Int) (q10 : Int) => true) (fun (q8 : Int) (q10 : Int) => (getO (nth (nth rows1 q8) q10))))).sum)) (Eq.trans (letC_eq hr5) (Eq.trans (letC_eq hr7) rfl)))
theorem fn_m_excess_of {P : Program} {w : World} {K : PySem.W.Frag} {mg : Str → Option Value} {base : Heap} {f : Addr} {fd : FuncData} (bt : NoB mg) (C_m_steps_within : Callee P w K mg base "steps_within" 1 A_steps_within (spP R_m_steps_within)) (F : FnP K "excess_of" s_excess_of f fd) : FnG P w K mg base (1 + 1) f fd A_excess_of (spP R_m_excess_of) :=
  ok_P F sc_excess_of (fun ds v hR => by obtain ⟨rows1, three2, two3, rfl, _, _⟩ := hR; rfl) fun ds v hR => by obtain ⟨rows1, three2, two3, rfl, h, rfl⟩ := hR; exact ws_m_excess_of bt C_m_steps_within rows1 three2 two3 h
/-! ### lots_of_places -/
abbrev s_lots_of_places : Stmt := top 23
abbrev N_lots_of_places : List Str := ["places", "size", "found", "lap", "lot", "a"]
abbrev A_lots_of_places : List Str := ["places", "size"]
theorem sc_lots_of_places : FnScope N_lots_of_places A_lots_of_places (defScope s_lots_of_places) := ⟨rfl, rfl, rfl, by decide +kernel, rfl, by decide +kernel, by decide +kernel⟩
def m_lots_of_places_l6_s (places1 : (List Int)) (s7 : (List (List Int))) (q8 : Int) : (List (List Int)) :=
  let found26 : (List (List Int)) := (lc2 s7 (fun (q10 : (List Int)) => true) (fun (q10 : (List Int)) => places1) (fun (q10 : (List Int)) (q12 : Int) => ((decide (q10 = ([] : List Int))) || (decide ((nth q10 (-(1 : Int))) < q12)))) (fun (q10 : (List Int)) (q12 : Int) => (q10 ++ [q12])))
  found26
def m_lots_of_places_l6_o (places1 : (List Int)) (s7 : (List (List Int))) (q8 : Int) : Prop :=
  And (SzOk (lc2 s7 (fun (q10 : (List Int)) => true) (fun (q10 : (List Int)) => places1) (fun (q10 : (List Int)) (q12 : Int) => ((decide (q10 = ([] : List Int))) || (decide ((nth q10 (-(1 : Int))) < q12)))) (fun (q10 : (List Int)) (q12 : Int) => (q10 ++ [q12]))).length) <|
  And ((∀ q10 ∈ s7, (True) ∧ (true = true → (True) ∧ (∀ q12 ∈ places1, (((decide (q10 = ([] : List Int))) = false → (InB q10 (-(1 : Int)) ∧ True)) ∧ True) ∧ (((decide (q10 = ([] : List Int))) || (decide ((nth q10 (-(1 : Int))) < q12))) = true → (SzOk ((q10 ++ [q12])).length ∧ True)))))) <|
  let found26 : (List (List Int)) := (lc2 s7 (fun (q10 : (List Int)) => true) (fun (q10 : (List Int)) => places1) (fun (q10 : (List Int)) (q12 : Int) => ((decide (q10 = ([] : List Int))) || (decide ((nth q10 (-(1 : Int))) < q12)))) (fun (q10 : (List Int)) (q12 : Int) => (q10 ++ [q12])))
  True
@[irreducible] def m_lots_of_places_l6 (places1 : (List Int)) (found3 : (List (List Int))) (xs5 : (List Int)) : (List (List Int)) :=
  List.foldl (m_lots_of_places_l6_s places1) found3 xs5
theorem m_lots_of_places_l6_eq (places1 : (List Int)) (found3 : (List (List Int))) (xs5 : (List Int)) : m_lots_of_places_l6 places1 found3 xs5 = List.foldl (m_lots_of_places_l6_s places1) found3 xs5 := by unfold m_lots_of_places_l6; rfl
def m_lots_of_places (places1 : (List Int)) (size2 : Int) : (List (List Int)) :=
  let found3 : (List (List Int)) := [([] : List Int)]
  let xs5 : (List Int) := (rng 0 size2)
  letC (m_lots_of_places_l6 places1 found3 xs5) fun (r28 : (List (List Int))) =>
  r28
def m_lots_of_places_ok (places1 : (List Int)) (size2 : Int) : Prop :=
  let found3 : (List (List Int)) := [([] : List Int)]
  And (RngOk size2) <|
  let xs5 : (List Int) := (rng 0 size2)
  And (LOk (m_lots_of_places_l6_s places1) (m_lots_of_places_l6_o places1) found3 xs5) <|
  letC (m_lots_of_places_l6 places1 found3 xs5) fun (r28 : (List (List Int))) =>
  True
def R_m_lots_of_places : List D → SV → Prop := fun ds w => ∃ (places1 : (List Int)) (size2 : Int), ds = [(eL PyData.int) places1, PyData.int size2] ∧ m_lots_of_places_ok places1 size2 ∧ w = (fun r => .val ((eL (eT PyData.int)) r)) (m_lots_of_places places1 size2)
theorem R_m_lots_of_places.mk {places1 : (List Int)} {size2 : Int} {r : (List (List Int))} (er : r = (m_lots_of_places places1 size2)) (h : m_lots_of_places_ok places1 size2) : R_m_lots_of_places [(eL PyData.int) places1, PyData.int size2] ((fun r => .val ((eL (eT PyData.int)) r)) r) := ⟨places1, size2, rfl, h, by rw [er]⟩
theorem ws_m_lots_of_places {P : Program} {w : World} {K : PySem.W.Frag} {mg : Str → Option Value} {base : Heap} (bt : NoB mg)  (places1 : (List Int)) (size2 : Int) (h : m_lots_of_places_ok places1 size2) : WS (dC P w K mg base N_lots_of_places (defScope s_lots_of_places) 0) (defBody s_lots_of_places) [.val ((eL PyData.int) places1), .val (PyData.int size2), .un, .un, .un, .un] (Ret ((fun r => .val ((eL (eT PyData.int)) r)) (m_lots_of_places places1 size2))) := by
  haveI : Bt (dC P w K mg base N_lots_of_places (defScope s_lots_of_places) 0) := ⟨bt⟩
  haveI : ∀ sc, Bt ((dC P w K mg base N_lots_of_places (defScope s_lots_of_places) 0).blk sc) := fun sc => ⟨bt⟩
  haveI : ∀ sc sc2, Bt (((dC P w K mg base N_lots_of_places (defScope s_lots_of_places) 0).blk sc).blk sc2) := fun sc sc2 => ⟨bt⟩
  haveI : ∀ sc sc2 sc3, Bt ((((dC P w K mg base N_lots_of_places (defScope s_lots_of_places) 0).blk sc).blk sc2).blk sc3) := fun sc sc2 sc3 => ⟨bt⟩
  have nd := sc_lots_of_places.nd
  unfold m_lots_of_places_ok at h
  let found3 : (List (List Int)) := [([] : List Int)]
  refine ws_set (i := 2) nd (EX.fzE (ex_lstE (en := (eT PyData.int)) (xs := [([] : List Int)]) (av_cons (ex_tupE (en := PyData.int) (xs := ([] : List Int)) av_nil) av_nil))) ?_ (hi := lt_b rfl)
  obtain ⟨o4, h⟩ := h
  let xs5 : (List Int) := (rng 0 size2)
  obtain ⟨o27, h⟩ := h
  obtain ⟨r28, hr28⟩ : ∃ r : (List (List Int)), r = m_lots_of_places_l6 places1 found3 xs5 := ⟨_, rfl⟩
  replace h := letC_mp hr28 h
  refine ws_forFR (vs := [3]) (xs := xs5) (en := PyData.int) (fun (r : (List (List Int))) => [.val ((eL PyData.int) places1), .val (PyData.int size2), .val ((eL (eT PyData.int)) r), .un, .un, .un]) (m_lots_of_places_l6_s places1) (m_lots_of_places_l6_o places1) found3 (r28) (Eq.trans hr28 (m_lots_of_places_l6_eq places1 found3 xs5)) (itx_range1 (ex_name (i := 1)) o4) (Wk.imp (Wk.k (Wk.k (Wk.k (Wk.k (Wk.k (Wk.k Wk.nil))))))) o27 (fun s7 q8 m9 h => ⟨_, (gx_name (i := 3) nd (hi := lt_b rfl)), ?_⟩) ?_
  · obtain ⟨o24, o25, h⟩ := h
    let found26 : (List (List Int)) := (lc2 s7 (fun (q10 : (List Int)) => true) (fun (q10 : (List Int)) => places1) (fun (q10 : (List Int)) (q12 : Int) => ((decide (q10 = ([] : List Int))) || (decide ((nth q10 (-(1 : Int))) < q12)))) (fun (q10 : (List Int)) (q12 : Int) => (q10 ++ [q12])))
    refine ws_step (Lc2X.w1 (j := 2) (lc2x_P (own := [(("lot" : Str), 4), (("a" : Str), 5)]) (vs1 := [5]) (S3 := fun (q10 : (List Int)) => [.val ((eL PyData.int) places1), .val (PyData.int size2), .val ((eL (eT PyData.int)) s7), .val (PyData.int q8), .val ((eT PyData.int) q10), .un]) (S4 := fun (q10 : (List Int)) (q12 : Int) => [.val ((eL PyData.int) places1), .val (PyData.int size2), .val ((eL (eT PyData.int)) s7), .val (PyData.int q8), .val ((eT PyData.int) q10), .val (PyData.int q12)]) (p := fun (q10 : (List Int)) => true) (ys := fun (q10 : (List Int)) => places1) (q := fun (q10 : (List Int)) (q12 : Int) => ((decide (q10 = ([] : List Int))) || (decide ((nth q10 (-(1 : Int))) < q12)))) (f := fun (q10 : (List Int)) (q12 : Int) => (q10 ++ [q12])) (en := (eT PyData.int)) (en1 := PyData.int) (em := (eT PyData.int)) (Sw := [.val ((eL PyData.int) places1), .val (PyData.int size2), .val ((eL (eT PyData.int)) s7), .val (PyData.int q8), .un, .un]) nd (BlkOk.of (by kernel_rfl)) (by decide) (itx_listE (ex_name (i := 2))) o24 (fun q10 m11 => ⟨(gx_name (i := 4) nd (hi := lt_b rfl)), ⟨rfl, rfl⟩, fun k18 => (itx_listE (ex_name (i := 0))), fun k18 q12 m13 => (gx_name (i := 5) nd (hi := lt_b rfl)), fun k18 q12 m13 => by obtain ⟨o16, -⟩ := (((o25 q10 m11).2 k18).2 q12 m13).1; exact (tx_of (wx_or (tx_eq (e := (eT PyData.int)) (ex_name (i := 4)) (ex_tupE (en := PyData.int) (xs := ([] : List Int)) av_nil)) (fun k15 => by obtain ⟨o14, -⟩ := o16 k15; exact (wx_or1 (tx_gt (ex_name (i := 5)) (ex_ixT (ex_name (i := 4)) (ex_neg ex_int) o14)))) (fun _ => Imp.refl _))), fun k18 q12 m13 k19 => by obtain ⟨o17, -⟩ := (((o25 q10 m11).2 k18).2 q12 m13).2 k19; exact (ex_tupS (xs := (q10 ++ [q12])) (av_starE (.inl rfl) (ex_name (i := 4)) (av_consE (ex_name (i := 5)) av_nil)) o17)⟩)) (lt_b rfl)) ?_
    refine WS.pre (S1 := [.val ((eL PyData.int) places1), .val (PyData.int size2), .val ((eL (eT PyData.int)) found26), .val (PyData.int q8), .un, .un]) (Wk.imp (Wk.k (Wk.k (Wk.f (Wk.k (Wk.k (Wk.k Wk.nil))))))) ?_
    exact ws_nil (nxt_ok (Sf := (fun (r : (List (List Int))) => [.val ((eL PyData.int) places1), .val (PyData.int size2), .val ((eL (eT PyData.int)) r), .un, .un, .un])) (v := found26) rfl (Wk.k (Wk.k (Wk.k (Wk.d (Wk.k (Wk.k Wk.nil)))))))
  exact ws_ret (ex_name (i := 2)) (ret_ok (Wf := fun r => .val ((eL (eT PyData.int)) r)) (v := r28) (Eq.trans (letC_eq hr28) rfl))
theorem fn_m_lots_of_places {P : Program} {w : World} {K : PySem.W.Frag} {mg : Str → Option Value} {base : Heap} {f : Addr} {fd : FuncData} (bt : NoB mg)  (F : FnP K "lots_of_places" s_lots_of_places f fd) : FnG P w K mg base (0 + 1) f fd A_lots_of_places (spP R_m_lots_of_places) :=
  ok_P F sc_lots_of_places (fun ds v hR => by obtain ⟨places1, size2, rfl, _, _⟩ := hR; rfl) fun ds v hR => by obtain ⟨places1, size2, rfl, h, rfl⟩ := hR; exact ws_m_lots_of_places bt  places1 size2 h
/-! ### first_five -/
abbrev s_first_five : Stmt := top 24
abbrev N_first_five : List Str := ["web", "three", "rows", "places", "two", "a"]
abbrev A_first_five : List Str := ["web"]
theorem sc_first_five : FnScope N_first_five A_first_five (defScope s_first_five) := ⟨rfl, rfl, rfl, by decide +kernel, rfl, by decide +kernel, by decide +kernel⟩
def m_first_five_l19_s (rows5 : (List (List (Option Int)))) (q12 : (List Int)) (s20 : Unit) (q21 : (List Int)) : Except (Option ((List Int) × (List Int))) (Unit) :=
  letC ((m_excess_of rows5 q12 q21)) fun (r24 : Int) =>
  cond (decide ((0 : Int) < r24))
    (
      .error (some (q12, q21))
    )
    (
      .ok ()
    )
def m_first_five_l19_o (rows5 : (List (List (Option Int)))) (q12 : (List Int)) (s20 : Unit) (q21 : (List Int)) : Prop :=
  And (m_excess_of_ok rows5 q12 q21) <|
  letC ((m_excess_of rows5 q12 q21)) fun (r24 : Int) =>
  And ((decide ((0 : Int) < r24)) = true → (
      True
  )) ((decide ((0 : Int) < r24)) = false → (
      True
  ))
@[irreducible] def m_first_five_l19 (rows5 : (List (List (Option Int)))) (q12 : (List Int)) (xs18 : (List (List Int))) : Except (Option ((List Int) × (List Int))) (Unit) :=
  foldE (m_first_five_l19_s rows5 q12) () xs18
theorem m_first_five_l19_eq (rows5 : (List (List (Option Int)))) (q12 : (List Int)) (xs18 : (List (List Int))) : m_first_five_l19 rows5 q12 xs18 = foldE (m_first_five_l19_s rows5 q12) () xs18 := by unfold m_first_five_l19; rfl
def m_first_five_l10_s (rows5 : (List (List (Option Int)))) (places6 : (List Int)) (s11 : Unit) (q12 : (List Int)) : Except (Option ((List Int) × (List Int))) (Unit) :=
  letC ((m_lots_of_places ((places6.filter (fun (q14 : Int) => (!(mem q14 q12)))).map (fun (q14 : Int) => q14)) (2 : Int))) fun (r17 : (List (List Int))) =>
  let xs18 : (List (List Int)) := r17
  bindE (m_first_five_l19 rows5 q12 xs18) fun (r30 : Unit) =>
    .ok ()
def m_first_five_l10_o (rows5 : (List (List (Option Int)))) (places6 : (List Int)) (s11 : Unit) (q12 : (List Int)) : Prop :=
  And (m_lots_of_places_ok ((places6.filter (fun (q14 : Int) => (!(mem q14 q12)))).map (fun (q14 : Int) => q14)) (2 : Int)) <|
  letC ((m_lots_of_places ((places6.filter (fun (q14 : Int) => (!(mem q14 q12)))).map (fun (q14 : Int) => q14)) (2 : Int))) fun (r17 : (List (List Int))) =>
  let xs18 : (List (List Int)) := r17
  And (LOkE (m_first_five_l19_s rows5 q12) (m_first_five_l19_o rows5 q12) () xs18) <|
  ∀ (r30 : Unit), m_first_five_l19 rows5 q12 xs18 = .ok r30 →
  (
    True
  )
@[irreducible] def m_first_five_l10 (rows5 : (List (List (Option Int)))) (places6 : (List Int)) (xs9 : (List (List Int))) : Except (Option ((List Int) × (List Int))) (Unit) :=
  foldE (m_first_five_l10_s rows5 places6) () xs9
theorem m_first_five_l10_eq (rows5 : (List (List (Option Int)))) (places6 : (List Int)) (xs9 : (List (List Int))) : m_first_five_l10 rows5 places6 xs9 = foldE (m_first_five_l10_s rows5 places6) () xs9 := by unfold m_first_five_l10; rfl
def m_first_five (web1 : (Int × (List (Int × Int)))) : (Option ((List Int) × (List Int))) :=
  letC ((m_distances_of web1)) fun (r3 : (List (List (Option Int)))) =>
  let rows5 : (List (List (Option Int))) := r3
  let places6 : (List Int) := (rng 0 web1.1)
  letC ((m_lots_of_places places6 (3 : Int))) fun (r8 : (List (List Int))) =>
  let xs9 : (List (List Int)) := r8
  thenE (m_first_five_l10 rows5 places6 xs9) fun (r34 : Unit) =>
    (none : (Option ((List Int) × (List Int))))
def m_first_five_ok (web1 : (Int × (List (Int × Int)))) : Prop :=
  And (m_distances_of_ok web1) <|
  letC ((m_distances_of web1)) fun (r3 : (List (List (Option Int)))) =>
  And (RngOk web1.1) <|
  let rows5 : (List (List (Option Int))) := r3
  let places6 : (List Int) := (rng 0 web1.1)
  And (m_lots_of_places_ok places6 (3 : Int)) <|
  letC ((m_lots_of_places places6 (3 : Int))) fun (r8 : (List (List Int))) =>
  let xs9 : (List (List Int)) := r8
  And (LOkE (m_first_five_l10_s rows5 places6) (m_first_five_l10_o rows5 places6) () xs9) <|
  ∀ (r34 : Unit), m_first_five_l10 rows5 places6 xs9 = .ok r34 →
  (
    True
  )
def R_m_first_five : List D → SV → Prop := fun ds w => ∃ (web1 : (Int × (List (Int × Int)))), ds = [(eP PyData.int (eT (eP PyData.int PyData.int))) web1] ∧ m_first_five_ok web1 ∧ w = (fun r => .val ((eO (eP (eT PyData.int) (eT PyData.int))) r)) (m_first_five web1)
theorem R_m_first_five.mk {web1 : (Int × (List (Int × Int)))} {r : (Option ((List Int) × (List Int)))} (er : r = (m_first_five web1)) (h : m_first_five_ok web1) : R_m_first_five [(eP PyData.int (eT (eP PyData.int PyData.int))) web1] ((fun r => .val ((eO (eP (eT PyData.int) (eT PyData.int))) r)) r) := ⟨web1, rfl, h, by rw [er]⟩
theorem ws_m_first_five {P : Program} {w : World} {K : PySem.W.Frag} {mg : Str → Option Value} {base : Heap} (bt : NoB mg) (C_m_distances_of : Callee P w K mg base "distances_of" 2 A_distances_of (spP R_m_distances_of)) (C_m_lots_of_places : Callee P w K mg base "lots_of_places" 1 A_lots_of_places (spP R_m_lots_of_places)) (C_m_excess_of : Callee P w K mg base "excess_of" 2 A_excess_of (spP R_m_excess_of)) (web1 : (Int × (List (Int × Int)))) (h : m_first_five_ok web1) : WS (dC P w K mg base N_first_five (defScope s_first_five) 2) (defBody s_first_five) [.val ((eP PyData.int (eT (eP PyData.int PyData.int))) web1), .un, .un, .un, .un, .un] (Ret ((fun r => .val ((eO (eP (eT PyData.int) (eT PyData.int))) r)) (m_first_five web1))) := by
  haveI : Bt (dC P w K mg base N_first_five (defScope s_first_five) 2) := ⟨bt⟩
  haveI : ∀ sc, Bt ((dC P w K mg base N_first_five (defScope s_first_five) 2).blk sc) := fun sc => ⟨bt⟩
  haveI : ∀ sc sc2, Bt (((dC P w K mg base N_first_five (defScope s_first_five) 2).blk sc).blk sc2) := fun sc sc2 => ⟨bt⟩
  haveI : ∀ sc sc2 sc3, Bt ((((dC P w K mg base N_first_five (defScope s_first_five) 2).blk sc).blk sc2).blk sc3) := fun sc sc2 sc3 => ⟨bt⟩
  have nd := sc_first_five.nd
  unfold m_first_five_ok at h
  obtain ⟨o2, h⟩ := h
  obtain ⟨r3, hr3⟩ : ∃ r : (List (List (Option Int))), r = (m_distances_of web1) := ⟨_, rfl⟩
  replace h := letC_mp hr3 h
  obtain ⟨o4, h⟩ := h
  refine ws_step (w1_par (i := 2) (j := 3) nd (ax_cons (ex_call C_m_distances_of (av_cons (ex_name (i := 0)) av_nil) (R_m_distances_of.mk hr3 o2) (hk := le_b rfl)) (ax_cons (EX.fzE (ex_listR1 (ex_ixD (ex_name (i := 0)) ex_int rfl) o4)) ax_nil)) (l1 := lt_b rfl) (l2 := lt_b rfl) (hw := by intro env he; exact sw_eq he (by kernel_rfl))) ?_
  let rows5 : (List (List (Option Int))) := r3
  let places6 : (List Int) := (rng 0 web1.1)
  obtain ⟨o7, h⟩ := h
  obtain ⟨r8, hr8⟩ : ∃ r : (List (List Int)), r = (m_lots_of_places places6 (3 : Int)) := ⟨_, rfl⟩
  replace h := letC_mp hr8 h
  let xs9 : (List (List Int)) := r8
  obtain ⟨o32, h⟩ := h
  refine ws_forER (vs := [1]) (xs := xs9) (en := (eT PyData.int)) (fun (r : Unit) => [.val ((eP PyData.int (eT (eP PyData.int PyData.int))) web1), .un, .val ((eT (eT (eO PyData.int))) rows5), .val ((eL PyData.int) places6), .un, .un]) (m_first_five_l10_s rows5 places6) (m_first_five_l10_o rows5 places6) () (fun r => Ret ((fun r => .val ((eO (eP (eT PyData.int) (eT PyData.int))) r)) r)) (m_first_five_l10 rows5 places6 xs9) (m_first_five_l10_eq rows5 places6 xs9) (itx_listE (ex_call C_m_lots_of_places (av_cons (ex_name (i := 3)) (av_cons ex_int av_nil)) (R_m_lots_of_places.mk hr8 o7) (hk := le_b rfl))) (Wk.imp (Wk.k (Wk.k (Wk.k (Wk.k (Wk.k (Wk.k Wk.nil))))))) o32 (fun s11 q12 m13 h => ⟨_, (gx_name (i := 1) nd (hi := lt_b rfl)), ?_⟩) ?_ ?_
  · obtain ⟨o16, h⟩ := h
    obtain ⟨r17, hr17⟩ : ∃ r : (List (List Int)), r = (m_lots_of_places ((places6.filter (fun (q14 : Int) => (!(mem q14 q12)))).map (fun (q14 : Int) => q14)) (2 : Int)) := ⟨_, rfl⟩
    replace h := letC_mp hr17 h
    let xs18 : (List (List Int)) := r17
    obtain ⟨o28, h⟩ := h
    refine ws_forER (vs := [4]) (xs := xs18) (en := (eT PyData.int)) (fun (r : Unit) => [.val ((eP PyData.int (eT (eP PyData.int PyData.int))) web1), .val ((eT PyData.int) q12), .val ((eT (eT (eO PyData.int))) rows5), .val ((eL PyData.int) places6), .un, .un]) (m_first_five_l19_s rows5 q12) (m_first_five_l19_o rows5 q12) () (fun r => Ret ((fun r => .val ((eO (eP (eT PyData.int) (eT PyData.int))) r)) r)) (m_first_five_l19 rows5 q12 xs18) (m_first_five_l19_eq rows5 q12 xs18) (itx_listE (ex_call C_m_lots_of_places (av_cons (EX.fzE (LcX.ex (lcx_P (own := [(("a" : Str), 5)]) (S3 := fun (q14 : Int) => [.val ((eP PyData.int (eT (eP PyData.int PyData.int))) web1), .val ((eT PyData.int) q12), .val ((eT (eT (eO PyData.int))) rows5), .val ((eL PyData.int) places6), .un, .val (PyData.int q14)]) (p := fun (q14 : Int) => (!(mem q14 q12))) (f := fun (q14 : Int) => q14) (en := PyData.int) (em := PyData.int) (Sw := [.val ((eP PyData.int (eT (eP PyData.int PyData.int))) web1), .val ((eT PyData.int) q12), .val ((eT (eT (eO PyData.int))) rows5), .val ((eL PyData.int) places6), .un, .un]) nd (BlkOk.of (by kernel_rfl)) (itx_listE (ex_name (i := 3))) (fun q14 m15 => ⟨(gx_name (i := 5) nd (hi := lt_b rfl)), (tx_ninT (e := PyData.int) (ex_name (i := 5)) (ex_name (i := 1))), (fun _ => (ex_name (i := 5)))⟩)))) (av_cons ex_int av_nil)) (R_m_lots_of_places.mk hr17 o16) (hk := le_b rfl))) (Wk.imp (Wk.k (Wk.k (Wk.k (Wk.k (Wk.k (Wk.k Wk.nil))))))) o28 (fun s20 q21 m22 h => ⟨_, (gx_name (i := 4) nd (hi := lt_b rfl)), ?_⟩) ?_ ?_
    · obtain ⟨o23, h⟩ := h
      obtain ⟨r24, hr24⟩ : ∃ r : Int, r = (m_excess_of rows5 q12 q21) := ⟨_, rfl⟩
      replace h := letC_mp hr24 h
      obtain ⟨a26, a27⟩ := h
      refine ws_if (tx_gt (ex_call C_m_excess_of (av_cons (ex_name (i := 2)) (av_cons (ex_name (i := 1)) (av_cons (ex_name (i := 4)) av_nil))) (R_m_excess_of.mk hr24 o23) (hk := le_b rfl)) ex_int) (fun k25 => ?_) (fun k25 => ?_)
      · have h := a26 k25
        exact ws_ret (ex_some (ex_pair (ea := (eT PyData.int)) (eb := (eT PyData.int)) (x := q12) (y := q21) (av_cons (ex_name (i := 1)) (av_cons (ex_name (i := 4)) av_nil)))) (retE_ok (Sf := (fun (r : Unit) => [.val ((eP PyData.int (eT (eP PyData.int PyData.int))) web1), .val ((eT PyData.int) q12), .val ((eT (eT (eO PyData.int))) rows5), .val ((eL PyData.int) places6), .un, .un])) (Wf := fun r => .val ((eO (eP (eT PyData.int) (eT PyData.int))) r)) (v := (some (q12, q21))) (Eq.trans (letC_eq hr24) (Eq.trans (cond_t k25) rfl)))
      · have h := a27 k25
        refine ws_nil ?_
        change WS _ _ _ _
        exact ws_nil (nxtE_ok (Sf := (fun (r : Unit) => [.val ((eP PyData.int (eT (eP PyData.int PyData.int))) web1), .val ((eT PyData.int) q12), .val ((eT (eT (eO PyData.int))) rows5), .val ((eL PyData.int) places6), .un, .un])) (v := ()) (Eq.trans (letC_eq hr24) (Eq.trans (cond_f k25) rfl)) (Wk.k (Wk.k (Wk.k (Wk.k (Wk.d (Wk.k Wk.nil)))))))
    · exact fun r w S2 e29 hq => retE_up (Sf := (fun (r : Unit) => [.val ((eP PyData.int (eT (eP PyData.int PyData.int))) web1), .un, .val ((eT (eT (eO PyData.int))) rows5), .val ((eL PyData.int) places6), .un, .un])) (Wf := fun r => .val ((eO (eP (eT PyData.int) (eT PyData.int))) r)) (Eq.trans (letC_eq hr17) (Eq.trans (bindE_err e29) rfl)) hq
    intro r30 e31; have h := h r30 e31
    exact ws_nil (nxtE_ok (Sf := (fun (r : Unit) => [.val ((eP PyData.int (eT (eP PyData.int PyData.int))) web1), .un, .val ((eT (eT (eO PyData.int))) rows5), .val ((eL PyData.int) places6), .un, .un])) (v := ()) (Eq.trans (letC_eq hr17) (Eq.trans (bindE_ok e31) rfl)) (Wk.k (Wk.d (Wk.k (Wk.k (Wk.k (Wk.k Wk.nil)))))))
  · exact fun r w S2 e33 hq => ret_up (Wf := fun r => .val ((eO (eP (eT PyData.int) (eT PyData.int))) r)) (Eq.trans (letC_eq hr3) (Eq.trans (letC_eq hr8) (Eq.trans (thenE_err e33) rfl))) hq
  intro r34 e35; have h := h r34 e35
  exact ws_ret ex_none (ret_ok (Wf := fun r => .val ((eO (eP (eT PyData.int) (eT PyData.int))) r)) (v := (none : (Option ((List Int) × (List Int))))) (Eq.trans (letC_eq hr3) (Eq.trans (letC_eq hr8) (Eq.trans (thenE_ok e35) rfl))))
theorem fn_m_first_five {P : Program} {w : World} {K : PySem.W.Frag} {mg : Str → Option Value} {base : Heap} {f : Addr} {fd : FuncData} (bt : NoB mg) (C_m_distances_of : Callee P w K mg base "distances_of" 2 A_distances_of (spP R_m_distances_of)) (C_m_lots_of_places : Callee P w K mg base "lots_of_places" 1 A_lots_of_places (spP R_m_lots_of_places)) (C_m_excess_of : Callee P w K mg base "excess_of" 2 A_excess_of (spP R_m_excess_of)) (F : FnP K "first_five" s_first_five f fd) : FnG P w K mg base (2 + 1) f fd A_first_five (spP R_m_first_five) :=
  ok_P F sc_first_five (fun ds v hR => by obtain ⟨web1, rfl, _, _⟩ := hR; rfl) fun ds v hR => by obtain ⟨web1, rfl, h, rfl⟩ := hR; exact ws_m_first_five bt C_m_distances_of C_m_lots_of_places C_m_excess_of web1 h
/-! ### pair_number -/
abbrev s_pair_number : Stmt := top 26
abbrev N_pair_number : List Str := ["m", "x", "y"]
abbrev A_pair_number : List Str := ["m", "x", "y"]
theorem sc_pair_number : FnScope N_pair_number A_pair_number (defScope s_pair_number) := ⟨rfl, rfl, rfl, by decide +kernel, rfl, by decide +kernel, by decide +kernel⟩
def m_pair_number (m1 : Int) (x2 : Int) (y3 : Int) : Int :=
  ((x2 * m1) + y3)
def m_pair_number_ok (m1 : Int) (x2 : Int) (y3 : Int) : Prop :=
  And (MulOk x2 m1) <|
  True
def R_m_pair_number : List D → SV → Prop := fun ds w => ∃ (m1 : Int) (x2 : Int) (y3 : Int), ds = [PyData.int m1, PyData.int x2, PyData.int y3] ∧ m_pair_number_ok m1 x2 y3 ∧ w = (fun r => .val (PyData.int r)) (m_pair_number m1 x2 y3)
theorem R_m_pair_number.mk {m1 : Int} {x2 : Int} {y3 : Int} {r : Int} (er : r = (m_pair_number m1 x2 y3)) (h : m_pair_number_ok m1 x2 y3) : R_m_pair_number [PyData.int m1, PyData.int x2, PyData.int y3] ((fun r => .val (PyData.int r)) r) := ⟨m1, x2, y3, rfl, h, by rw [er]⟩
theorem ws_m_pair_number {P : Program} {w : World} {K : PySem.W.Frag} {mg : Str → Option Value} {base : Heap} (bt : NoB mg)  (m1 : Int) (x2 : Int) (y3 : Int) (h : m_pair_number_ok m1 x2 y3) : WS (dC P w K mg base N_pair_number (defScope s_pair_number) 0) (defBody s_pair_number) [.val (PyData.int m1), .val (PyData.int x2), .val (PyData.int y3)] (Ret ((fun r => .val (PyData.int r)) (m_pair_number m1 x2 y3))) := by
  haveI : Bt (dC P w K mg base N_pair_number (defScope s_pair_number) 0) := ⟨bt⟩
  haveI : ∀ sc, Bt ((dC P w K mg base N_pair_number (defScope s_pair_number) 0).blk sc) := fun sc => ⟨bt⟩
  haveI : ∀ sc sc2, Bt (((dC P w K mg base N_pair_number (defScope s_pair_number) 0).blk sc).blk sc2) := fun sc sc2 => ⟨bt⟩
  haveI : ∀ sc sc2 sc3, Bt ((((dC P w K mg base N_pair_number (defScope s_pair_number) 0).blk sc).blk sc2).blk sc3) := fun sc sc2 sc3 => ⟨bt⟩
  have nd := sc_pair_number.nd
  unfold m_pair_number_ok at h
  obtain ⟨o4, h⟩ := h
  exact ws_ret (ex_add (ex_mul (ex_name (i := 1)) (ex_name (i := 0)) o4) (ex_name (i := 2))) (ret_ok (Wf := fun r => .val (PyData.int r)) (v := ((x2 * m1) + y3)) rfl)
theorem fn_m_pair_number {P : Program} {w : World} {K : PySem.W.Frag} {mg : Str → Option Value} {base : Heap} {f : Addr} {fd : FuncData} (bt : NoB mg)  (F : FnP K "pair_number" s_pair_number f fd) : FnG P w K mg base (0 + 1) f fd A_pair_number (spP R_m_pair_number) :=
  ok_P F sc_pair_number (fun ds v hR => by obtain ⟨m1, x2, y3, rfl, _, _⟩ := hR; rfl) fun ds v hR => by obtain ⟨m1, x2, y3, rfl, h, rfl⟩ := hR; exact ws_m_pair_number bt  m1 x2 y3 h
/-! ### sorted_ties -/
abbrev s_sorted_ties : Stmt := top 27
abbrev N_sorted_ties : List Str := ["one", "other", "x", "found", "a", "b", "n", "first", "m", "late", "y"]
abbrev A_sorted_ties : List Str := ["one", "other"]
theorem sc_sorted_ties : FnScope N_sorted_ties A_sorted_ties (defScope s_sorted_ties) := ⟨rfl, rfl, rfl, by decide +kernel, rfl, by decide +kernel, by decide +kernel⟩
def m_sorted_ties_l10_s (m5 : Int) (late6 : (List (Int × Int))) (s11 : (List ((Int × Int) × Int))) (q12 : Int) : (List ((Int × Int) × Int)) :=
  let found20 : (List ((Int × Int) × Int)) := (s11 ++ (late6.map (fun (q14 : (Int × Int)) => (((m_pair_number m5 q12 q14.1), (m_pair_number m5 q12 q14.2)), (1 : Int)))))
  found20
def m_sorted_ties_l10_o (m5 : Int) (late6 : (List (Int × Int))) (s11 : (List ((Int × Int) × Int))) (q12 : Int) : Prop :=
  And ((∀ q14 ∈ late6, (m_pair_number_ok m5 q12 q14.1 ∧ m_pair_number_ok m5 q12 q14.2 ∧ True))) <|
  And (SzOk (s11.length + (late6.map (fun (q14 : (Int × Int)) => (((m_pair_number m5 q12 q14.1), (m_pair_number m5 q12 q14.2)), (1 : Int)))).length)) <|
  let found20 : (List ((Int × Int) × Int)) := (s11 ++ (late6.map (fun (q14 : (Int × Int)) => (((m_pair_number m5 q12 q14.1), (m_pair_number m5 q12 q14.2)), (1 : Int)))))
  True
@[irreducible] def m_sorted_ties_l10 (m5 : Int) (late6 : (List (Int × Int))) (found7 : (List ((Int × Int) × Int))) (xs9 : (List Int)) : (List ((Int × Int) × Int)) :=
  List.foldl (m_sorted_ties_l10_s m5 late6) found7 xs9
theorem m_sorted_ties_l10_eq (m5 : Int) (late6 : (List (Int × Int))) (found7 : (List ((Int × Int) × Int))) (xs9 : (List Int)) : m_sorted_ties_l10 m5 late6 found7 xs9 = List.foldl (m_sorted_ties_l10_s m5 late6) found7 xs9 := by unfold m_sorted_ties_l10; rfl
def m_sorted_ties_l24_s (m5 : Int) (s25 : (List ((Int × Int) × Int))) (q26 : (Int × Int)) : (List ((Int × Int) × Int)) :=
  let found35 : (List ((Int × Int) × Int)) := (s25 ++ ((rng 0 m5).map (fun (q29 : Int) => (((m_pair_number m5 q26.1 q29), (m_pair_number m5 q26.2 q29)), (0 : Int)))))
  found35
def m_sorted_ties_l24_o (m5 : Int) (s25 : (List ((Int × Int) × Int))) (q26 : (Int × Int)) : Prop :=
  And (RngOk m5) <|
  And ((∀ q29 ∈ (rng 0 m5), (m_pair_number_ok m5 q26.1 q29 ∧ m_pair_number_ok m5 q26.2 q29 ∧ True))) <|
  And (SzOk (s25.length + ((rng 0 m5).map (fun (q29 : Int) => (((m_pair_number m5 q26.1 q29), (m_pair_number m5 q26.2 q29)), (0 : Int)))).length)) <|
  let found35 : (List ((Int × Int) × Int)) := (s25 ++ ((rng 0 m5).map (fun (q29 : Int) => (((m_pair_number m5 q26.1 q29), (m_pair_number m5 q26.2 q29)), (0 : Int)))))
  True
@[irreducible] def m_sorted_ties_l24 (m5 : Int) (r22 : (List ((Int × Int) × Int))) (xs23 : (List (Int × Int))) : (List ((Int × Int) × Int)) :=
  List.foldl (m_sorted_ties_l24_s m5) r22 xs23
theorem m_sorted_ties_l24_eq (m5 : Int) (r22 : (List ((Int × Int) × Int))) (xs23 : (List (Int × Int))) : m_sorted_ties_l24 m5 r22 xs23 = List.foldl (m_sorted_ties_l24_s m5) r22 xs23 := by unfold m_sorted_ties_l24; rfl
def m_sorted_ties (one1 : (Int × (List (Int × Int)))) (other2 : (Int × (List (Int × Int)))) : (List ((Int × Int) × Int)) :=
  let n3 : Int := one1.1
  let first4 : (List (Int × Int)) := one1.2
  let m5 : Int := other2.1
  let late6 : (List (Int × Int)) := other2.2
  let found7 : (List ((Int × Int) × Int)) := ([] : List ((Int × Int) × Int))
  let xs9 : (List Int) := (rng 0 n3)
  letC (m_sorted_ties_l10 m5 late6 found7 xs9) fun (r22 : (List ((Int × Int) × Int))) =>
  let xs23 : (List (Int × Int)) := first4
  letC (m_sorted_ties_l24 m5 r22 xs23) fun (r37 : (List ((Int × Int) × Int))) =>
  (srt (eP (eP PyData.int PyData.int) PyData.int) r37)
def m_sorted_ties_ok (one1 : (Int × (List (Int × Int)))) (other2 : (Int × (List (Int × Int)))) : Prop :=
  let n3 : Int := one1.1
  let first4 : (List (Int × Int)) := one1.2
  let m5 : Int := other2.1
  let late6 : (List (Int × Int)) := other2.2
  let found7 : (List ((Int × Int) × Int)) := ([] : List ((Int × Int) × Int))
  And (RngOk n3) <|
  let xs9 : (List Int) := (rng 0 n3)
  And (LOk (m_sorted_ties_l10_s m5 late6) (m_sorted_ties_l10_o m5 late6) found7 xs9) <|
  letC (m_sorted_ties_l10 m5 late6 found7 xs9) fun (r22 : (List ((Int × Int) × Int))) =>
  let xs23 : (List (Int × Int)) := first4
  And (LOk (m_sorted_ties_l24_s m5) (m_sorted_ties_l24_o m5) r22 xs23) <|
  letC (m_sorted_ties_l24 m5 r22 xs23) fun (r37 : (List ((Int × Int) × Int))) =>
  And (SrtOk (eP (eP PyData.int PyData.int) PyData.int) r37) <|
  True
def R_m_sorted_ties : List D → SV → Prop := fun ds w => ∃ (one1 : (Int × (List (Int × Int)))) (other2 : (Int × (List (Int × Int)))), ds = [(eP PyData.int (eT (eP PyData.int PyData.int))) one1, (eP PyData.int (eT (eP PyData.int PyData.int))) other2] ∧ m_sorted_ties_ok one1 other2 ∧ w = (fun r => .lst (r.map (eP (eP PyData.int PyData.int) PyData.int))) (m_sorted_ties one1 other2)
theorem R_m_sorted_ties.mk {one1 : (Int × (List (Int × Int)))} {other2 : (Int × (List (Int × Int)))} {r : (List ((Int × Int) × Int))} (er : r = (m_sorted_ties one1 other2)) (h : m_sorted_ties_ok one1 other2) : R_m_sorted_ties [(eP PyData.int (eT (eP PyData.int PyData.int))) one1, (eP PyData.int (eT (eP PyData.int PyData.int))) other2] ((fun r => .lst (r.map (eP (eP PyData.int PyData.int) PyData.int))) r) := ⟨one1, other2, rfl, h, by rw [er]⟩
theorem ws_m_sorted_ties {P : Program} {w : World} {K : PySem.W.Frag} {mg : Str → Option Value} {base : Heap} (bt : NoB mg) (C_m_pair_number : Callee P w K mg base "pair_number" 1 A_pair_number (spP R_m_pair_number)) (one1 : (Int × (List (Int × Int)))) (other2 : (Int × (List (Int × Int)))) (h : m_sorted_ties_ok one1 other2) : WS (dC P w K mg base N_sorted_ties (defScope s_sorted_ties) 1) (defBody s_sorted_ties) [.val ((eP PyData.int (eT (eP PyData.int PyData.int))) one1), .val ((eP PyData.int (eT (eP PyData.int PyData.int))) other2), .un, .un, .un, .un, .un, .un, .un, .un, .un] (Ret ((fun r => .lst (r.map (eP (eP PyData.int PyData.int) PyData.int))) (m_sorted_ties one1 other2))) := by
  haveI : Bt (dC P w K mg base N_sorted_ties (defScope s_sorted_ties) 1) := ⟨bt⟩
  haveI : ∀ sc, Bt ((dC P w K mg base N_sorted_ties (defScope s_sorted_ties) 1).blk sc) := fun sc => ⟨bt⟩
  haveI : ∀ sc sc2, Bt (((dC P w K mg base N_sorted_ties (defScope s_sorted_ties) 1).blk sc).blk sc2) := fun sc sc2 => ⟨bt⟩
  haveI : ∀ sc sc2 sc3, Bt ((((dC P w K mg base N_sorted_ties (defScope s_sorted_ties) 1).blk sc).blk sc2).blk sc3) := fun sc sc2 sc3 => ⟨bt⟩
  have nd := sc_sorted_ties.nd
  unfold m_sorted_ties_ok at h
  refine ws_step (w1_asgT (vs := [6, 7, 8, 9, 3]) (ax_cons (ex_name (i := 0)) (ax_cons (ex_name (i := 1)) (ax_cons (ex_lstE (en := (eP (eP PyData.int PyData.int) PyData.int)) (xs := ([] : List ((Int × Int) × Int))) av_nil) ax_nil))) (gsx_cons (gx_tup (ds := [PyData.int one1.1, (eT (eP PyData.int PyData.int)) one1.2]) (gsx_cons (gx_name (i := 6) nd (hi := lt_b rfl)) (gsx_cons (gx_name (i := 7) nd (hi := lt_b rfl)) gsx_nil)) rfl) (gsx_cons (gx_tup (ds := [PyData.int other2.1, (eT (eP PyData.int PyData.int)) other2.2]) (gsx_cons (gx_name (i := 8) nd (hi := lt_b rfl)) (gsx_cons (gx_name (i := 9) nd (hi := lt_b rfl)) gsx_nil)) rfl) (gsx_cons (gx_name (i := 3) nd (hi := lt_b rfl)) gsx_nil))) rfl (hl := le_b rfl) (hw := by intro env he; exact sw_eq he (by kernel_rfl))) ?_
  let n3 : Int := one1.1
  let first4 : (List (Int × Int)) := one1.2
  let m5 : Int := other2.1
  let late6 : (List (Int × Int)) := other2.2
  let found7 : (List ((Int × Int) × Int)) := ([] : List ((Int × Int) × Int))
  obtain ⟨o8, h⟩ := h
  let xs9 : (List Int) := (rng 0 n3)
  obtain ⟨o21, h⟩ := h
  obtain ⟨r22, hr22⟩ : ∃ r : (List ((Int × Int) × Int)), r = m_sorted_ties_l10 m5 late6 found7 xs9 := ⟨_, rfl⟩
  replace h := letC_mp hr22 h
  refine ws_forFR (vs := [2]) (xs := xs9) (en := PyData.int) (fun (r : (List ((Int × Int) × Int))) => [.val ((eP PyData.int (eT (eP PyData.int PyData.int))) one1), .val ((eP PyData.int (eT (eP PyData.int PyData.int))) other2), .un, .lst ((r).map (eP (eP PyData.int PyData.int) PyData.int)), .un, .un, .val (PyData.int n3), .val ((eT (eP PyData.int PyData.int)) first4), .val (PyData.int m5), .val ((eT (eP PyData.int PyData.int)) late6), .un]) (m_sorted_ties_l10_s m5 late6) (m_sorted_ties_l10_o m5 late6) found7 (r22) (Eq.trans hr22 (m_sorted_ties_l10_eq m5 late6 found7 xs9)) (itx_range1 (ex_name (i := 6)) o8) (Wk.imp (Wk.k (Wk.k (Wk.k (Wk.k (Wk.k (Wk.k (Wk.k (Wk.k (Wk.k (Wk.k (Wk.k Wk.nil)))))))))))) o21 (fun s11 q12 m13 h => ⟨_, (gx_name (i := 2) nd (hi := lt_b rfl)), ?_⟩) ?_
  · obtain ⟨o18, o19, h⟩ := h
    refine ws_expr (ex_extend (i := 3) (xs := s11) (en := (eP (eP PyData.int PyData.int) PyData.int)) (EX.fzE (LcX.ex (lcx_M (own := [(("a" : Str), 4), (("b" : Str), 5)]) (S3 := fun (q14 : (Int × Int)) => [.val ((eP PyData.int (eT (eP PyData.int PyData.int))) one1), .val ((eP PyData.int (eT (eP PyData.int PyData.int))) other2), .val (PyData.int q12), .lst ((s11).map (eP (eP PyData.int PyData.int) PyData.int)), .val (PyData.int q14.1), .val (PyData.int q14.2), .val (PyData.int n3), .val ((eT (eP PyData.int PyData.int)) first4), .val (PyData.int m5), .val ((eT (eP PyData.int PyData.int)) late6), .un]) (f := fun (q14 : (Int × Int)) => (((m_pair_number m5 q12 q14.1), (m_pair_number m5 q12 q14.2)), (1 : Int))) (en := (eP PyData.int PyData.int)) (em := (eP (eP PyData.int PyData.int) PyData.int)) (Sw := [.val ((eP PyData.int (eT (eP PyData.int PyData.int))) one1), .val ((eP PyData.int (eT (eP PyData.int PyData.int))) other2), .val (PyData.int q12), .lst ((s11).map (eP (eP PyData.int PyData.int) PyData.int)), .un, .un, .val (PyData.int n3), .val ((eT (eP PyData.int PyData.int)) first4), .val (PyData.int m5), .val ((eT (eP PyData.int PyData.int)) late6), .un]) nd (BlkOk.of (by kernel_rfl)) (itx_tupE (ex_name (i := 9))) (fun q14 m15 => (gx_tup (ds := [PyData.int q14.1, PyData.int q14.2]) (gsx_cons (gx_name (i := 4) nd (hi := lt_b rfl)) (gsx_cons (gx_name (i := 5) nd (hi := lt_b rfl)) gsx_nil)) rfl)) (fun q14 m15 => by obtain ⟨o16, o17, -⟩ := o18 q14 m15; exact (ex_pair (ea := (eP PyData.int PyData.int)) (eb := PyData.int) (x := ((m_pair_number m5 q12 q14.1), (m_pair_number m5 q12 q14.2))) (y := (1 : Int)) (av_cons (ex_pair (ea := PyData.int) (eb := PyData.int) (x := (m_pair_number m5 q12 q14.1)) (y := (m_pair_number m5 q12 q14.2)) (av_cons (ex_call C_m_pair_number (av_cons (ex_name (i := 8)) (av_cons (ex_name (i := 2)) (av_cons (ex_name (i := 4)) av_nil))) (R_m_pair_number.mk rfl o16) (hk := le_b rfl)) (av_cons (ex_call C_m_pair_number (av_cons (ex_name (i := 8)) (av_cons (ex_name (i := 2)) (av_cons (ex_name (i := 5)) av_nil))) (R_m_pair_number.mk rfl o17) (hk := le_b rfl)) av_nil))) (av_cons ex_int av_nil))))))) (hz := o19)) ?_
    let found20 : (List ((Int × Int) × Int)) := (s11 ++ (late6.map (fun (q14 : (Int × Int)) => (((m_pair_number m5 q12 q14.1), (m_pair_number m5 q12 q14.2)), (1 : Int)))))
    exact ws_nil (nxt_ok (Sf := (fun (r : (List ((Int × Int) × Int))) => [.val ((eP PyData.int (eT (eP PyData.int PyData.int))) one1), .val ((eP PyData.int (eT (eP PyData.int PyData.int))) other2), .un, .lst ((r).map (eP (eP PyData.int PyData.int) PyData.int)), .un, .un, .val (PyData.int n3), .val ((eT (eP PyData.int PyData.int)) first4), .val (PyData.int m5), .val ((eT (eP PyData.int PyData.int)) late6), .un])) (v := found20) rfl (Wk.k (Wk.k (Wk.d (Wk.k (Wk.k (Wk.k (Wk.k (Wk.k (Wk.k (Wk.k (Wk.k Wk.nil))))))))))))
  let xs23 : (List (Int × Int)) := first4
  obtain ⟨o36, h⟩ := h
  obtain ⟨r37, hr37⟩ : ∃ r : (List ((Int × Int) × Int)), r = m_sorted_ties_l24 m5 r22 xs23 := ⟨_, rfl⟩
  replace h := letC_mp hr37 h
  refine ws_forFR (vs := [4, 5]) (xs := xs23) (en := (eP PyData.int PyData.int)) (fun (r : (List ((Int × Int) × Int))) => [.val ((eP PyData.int (eT (eP PyData.int PyData.int))) one1), .val ((eP PyData.int (eT (eP PyData.int PyData.int))) other2), .un, .lst ((r).map (eP (eP PyData.int PyData.int) PyData.int)), .un, .un, .val (PyData.int n3), .val ((eT (eP PyData.int PyData.int)) first4), .val (PyData.int m5), .val ((eT (eP PyData.int PyData.int)) late6), .un]) (m_sorted_ties_l24_s m5) (m_sorted_ties_l24_o m5) r22 (r37) (Eq.trans hr37 (m_sorted_ties_l24_eq m5 r22 xs23)) (itx_tupE (ex_name (i := 7))) (Wk.imp (Wk.k (Wk.k (Wk.k (Wk.k (Wk.k (Wk.k (Wk.k (Wk.k (Wk.k (Wk.k (Wk.k Wk.nil)))))))))))) o36 (fun s25 q26 m27 h => ⟨_, (gx_tup (ds := [PyData.int q26.1, PyData.int q26.2]) (gsx_cons (gx_name (i := 4) nd (hi := lt_b rfl)) (gsx_cons (gx_name (i := 5) nd (hi := lt_b rfl)) gsx_nil)) rfl), ?_⟩) ?_
  · obtain ⟨o28, o33, o34, h⟩ := h
    refine ws_expr (ex_extend (i := 3) (xs := s25) (en := (eP (eP PyData.int PyData.int) PyData.int)) (EX.fzE (LcX.ex (lcx_M (own := [(("y" : Str), 10)]) (S3 := fun (q29 : Int) => [.val ((eP PyData.int (eT (eP PyData.int PyData.int))) one1), .val ((eP PyData.int (eT (eP PyData.int PyData.int))) other2), .un, .lst ((s25).map (eP (eP PyData.int PyData.int) PyData.int)), .val (PyData.int q26.1), .val (PyData.int q26.2), .val (PyData.int n3), .val ((eT (eP PyData.int PyData.int)) first4), .val (PyData.int m5), .val ((eT (eP PyData.int PyData.int)) late6), .val (PyData.int q29)]) (f := fun (q29 : Int) => (((m_pair_number m5 q26.1 q29), (m_pair_number m5 q26.2 q29)), (0 : Int))) (en := PyData.int) (em := (eP (eP PyData.int PyData.int) PyData.int)) (Sw := [.val ((eP PyData.int (eT (eP PyData.int PyData.int))) one1), .val ((eP PyData.int (eT (eP PyData.int PyData.int))) other2), .un, .lst ((s25).map (eP (eP PyData.int PyData.int) PyData.int)), .val (PyData.int q26.1), .val (PyData.int q26.2), .val (PyData.int n3), .val ((eT (eP PyData.int PyData.int)) first4), .val (PyData.int m5), .val ((eT (eP PyData.int PyData.int)) late6), .un]) nd (BlkOk.of (by kernel_rfl)) (itx_range1 (ex_name (i := 8)) o28) (fun q29 m30 => (gx_name (i := 10) nd (hi := lt_b rfl))) (fun q29 m30 => by obtain ⟨o31, o32, -⟩ := o33 q29 m30; exact (ex_pair (ea := (eP PyData.int PyData.int)) (eb := PyData.int) (x := ((m_pair_number m5 q26.1 q29), (m_pair_number m5 q26.2 q29))) (y := (0 : Int)) (av_cons (ex_pair (ea := PyData.int) (eb := PyData.int) (x := (m_pair_number m5 q26.1 q29)) (y := (m_pair_number m5 q26.2 q29)) (av_cons (ex_call C_m_pair_number (av_cons (ex_name (i := 8)) (av_cons (ex_name (i := 4)) (av_cons (ex_name (i := 10)) av_nil))) (R_m_pair_number.mk rfl o31) (hk := le_b rfl)) (av_cons (ex_call C_m_pair_number (av_cons (ex_name (i := 8)) (av_cons (ex_name (i := 5)) (av_cons (ex_name (i := 10)) av_nil))) (R_m_pair_number.mk rfl o32) (hk := le_b rfl)) av_nil))) (av_cons ex_int av_nil))))))) (hz := o34)) ?_
    let found35 : (List ((Int × Int) × Int)) := (s25 ++ ((rng 0 m5).map (fun (q29 : Int) => (((m_pair_number m5 q26.1 q29), (m_pair_number m5 q26.2 q29)), (0 : Int)))))
    exact ws_nil (nxt_ok (Sf := (fun (r : (List ((Int × Int) × Int))) => [.val ((eP PyData.int (eT (eP PyData.int PyData.int))) one1), .val ((eP PyData.int (eT (eP PyData.int PyData.int))) other2), .un, .lst ((r).map (eP (eP PyData.int PyData.int) PyData.int)), .un, .un, .val (PyData.int n3), .val ((eT (eP PyData.int PyData.int)) first4), .val (PyData.int m5), .val ((eT (eP PyData.int PyData.int)) late6), .un])) (v := found35) rfl (Wk.k (Wk.k (Wk.k (Wk.k (Wk.d (Wk.d (Wk.k (Wk.k (Wk.k (Wk.k (Wk.k Wk.nil))))))))))))
  refine WS.pre (S1 := [.val ((eP PyData.int (eT (eP PyData.int PyData.int))) one1), .val ((eP PyData.int (eT (eP PyData.int PyData.int))) other2), .un, .val ((eL (eP (eP PyData.int PyData.int) PyData.int)) r37), .un, .un, .val (PyData.int n3), .val ((eT (eP PyData.int PyData.int)) first4), .val (PyData.int m5), .val ((eT (eP PyData.int PyData.int)) late6), .un]) (Wk.imp (Wk.k (Wk.k (Wk.k (Wk.f (Wk.k (Wk.k (Wk.k (Wk.k (Wk.k (Wk.k (Wk.k Wk.nil)))))))))))) ?_
  obtain ⟨o38, h⟩ := h
  exact ws_ret (ex_sorted (ex_name (i := 3)) (.inr rfl) (SrtOk.ok o38)) (ret_ok (Wf := fun r => .lst (r.map (eP (eP PyData.int PyData.int) PyData.int))) (v := (srt (eP (eP PyData.int PyData.int) PyData.int) r37)) (Eq.trans (letC_eq hr22) (Eq.trans (letC_eq hr37) rfl)))
theorem fn_m_sorted_ties {P : Program} {w : World} {K : PySem.W.Frag} {mg : Str → Option Value} {base : Heap} {f : Addr} {fd : FuncData} (bt : NoB mg) (C_m_pair_number : Callee P w K mg base "pair_number" 1 A_pair_number (spP R_m_pair_number)) (F : FnP K "sorted_ties" s_sorted_ties f fd) : FnG P w K mg base (1 + 1) f fd A_sorted_ties (spP R_m_sorted_ties) :=
  ok_P F sc_sorted_ties (fun ds v hR => by obtain ⟨one1, other2, rfl, _, _⟩ := hR; rfl) fun ds v hR => by obtain ⟨one1, other2, rfl, h, rfl⟩ := hR; exact ws_m_sorted_ties bt C_m_pair_number one1 other2 h
/-! ### web_product -/
abbrev s_web_product : Stmt := top 28
abbrev N_web_product : List Str := ["one", "other", "tie", "sort"]
abbrev A_web_product : List Str := ["one", "other"]
theorem sc_web_product : FnScope N_web_product A_web_product (defScope s_web_product) := ⟨rfl, rfl, rfl, by decide +kernel, rfl, by decide +kernel, by decide +kernel⟩
def m_web_product (one1 : (Int × (List (Int × Int)))) (other2 : (Int × (List (Int × Int)))) : (Int × (List (Int × Int))) :=
  letC ((m_sorted_ties one1 other2)) fun (r5 : (List ((Int × Int) × Int))) =>
  ((one1.1 * other2.1), (r5.map (fun (q6 : ((Int × Int) × Int)) => q6.1)))
def m_web_product_ok (one1 : (Int × (List (Int × Int)))) (other2 : (Int × (List (Int × Int)))) : Prop :=
  And (MulOk one1.1 other2.1) <|
  And (m_sorted_ties_ok one1 other2) <|
  letC ((m_sorted_ties one1 other2)) fun (r5 : (List ((Int × Int) × Int))) =>
  True
def R_m_web_product : List D → SV → Prop := fun ds w => ∃ (one1 : (Int × (List (Int × Int)))) (other2 : (Int × (List (Int × Int)))), ds = [(eP PyData.int (eT (eP PyData.int PyData.int))) one1, (eP PyData.int (eT (eP PyData.int PyData.int))) other2] ∧ m_web_product_ok one1 other2 ∧ w = (fun r => .val ((eP PyData.int (eT (eP PyData.int PyData.int))) r)) (m_web_product one1 other2)
theorem R_m_web_product.mk {one1 : (Int × (List (Int × Int)))} {other2 : (Int × (List (Int × Int)))} {r : (Int × (List (Int × Int)))} (er : r = (m_web_product one1 other2)) (h : m_web_product_ok one1 other2) : R_m_web_product [(eP PyData.int (eT (eP PyData.int PyData.int))) one1, (eP PyData.int (eT (eP PyData.int PyData.int))) other2] ((fun r => .val ((eP PyData.int (eT (eP PyData.int PyData.int))) r)) r) := ⟨one1, other2, rfl, h, by rw [er]⟩
theorem ws_m_web_product {P : Program} {w : World} {K : PySem.W.Frag} {mg : Str → Option Value} {base : Heap} (bt : NoB mg) (C_m_sorted_ties : Callee P w K mg base "sorted_ties" 2 A_sorted_ties (spP R_m_sorted_ties)) (one1 : (Int × (List (Int × Int)))) (other2 : (Int × (List (Int × Int)))) (h : m_web_product_ok one1 other2) : WS (dC P w K mg base N_web_product (defScope s_web_product) 2) (defBody s_web_product) [.val ((eP PyData.int (eT (eP PyData.int PyData.int))) one1), .val ((eP PyData.int (eT (eP PyData.int PyData.int))) other2), .un, .un] (Ret ((fun r => .val ((eP PyData.int (eT (eP PyData.int PyData.int))) r)) (m_web_product one1 other2))) := by
  haveI : Bt (dC P w K mg base N_web_product (defScope s_web_product) 2) := ⟨bt⟩
  haveI : ∀ sc, Bt ((dC P w K mg base N_web_product (defScope s_web_product) 2).blk sc) := fun sc => ⟨bt⟩
  haveI : ∀ sc sc2, Bt (((dC P w K mg base N_web_product (defScope s_web_product) 2).blk sc).blk sc2) := fun sc sc2 => ⟨bt⟩
  haveI : ∀ sc sc2 sc3, Bt ((((dC P w K mg base N_web_product (defScope s_web_product) 2).blk sc).blk sc2).blk sc3) := fun sc sc2 sc3 => ⟨bt⟩
  have nd := sc_web_product.nd
  unfold m_web_product_ok at h
  obtain ⟨o3, o4, h⟩ := h
  obtain ⟨r5, hr5⟩ : ∃ r : (List ((Int × Int) × Int)), r = (m_sorted_ties one1 other2) := ⟨_, rfl⟩
  replace h := letC_mp hr5 h
  exact ws_ret (ex_pair (ea := PyData.int) (eb := (eT (eP PyData.int PyData.int))) (x := (one1.1 * other2.1)) (y := (r5.map (fun (q6 : ((Int × Int) × Int)) => q6.1))) (av_cons (ex_mul (ex_ixD (ex_name (i := 0)) ex_int rfl) (ex_ixD (ex_name (i := 1)) ex_int rfl) o3) (av_cons (ex_tupL (EX.fzE (LcX.ex (lcx_M (own := [(("tie" : Str), 2), (("sort" : Str), 3)]) (S3 := fun (q6 : ((Int × Int) × Int)) => [.val ((eP PyData.int (eT (eP PyData.int PyData.int))) one1), .val ((eP PyData.int (eT (eP PyData.int PyData.int))) other2), .val ((eP PyData.int PyData.int) q6.1), .val (PyData.int q6.2)]) (f := fun (q6 : ((Int × Int) × Int)) => q6.1) (en := (eP (eP PyData.int PyData.int) PyData.int)) (em := (eP PyData.int PyData.int)) (Sw := [.val ((eP PyData.int (eT (eP PyData.int PyData.int))) one1), .val ((eP PyData.int (eT (eP PyData.int PyData.int))) other2), .un, .un]) nd (BlkOk.of (by kernel_rfl)) (itx_listE (EX.fzE (ex_call C_m_sorted_ties (av_cons (ex_name (i := 0)) (av_cons (ex_name (i := 1)) av_nil)) (R_m_sorted_ties.mk hr5 o4) (hk := le_b rfl)))) (fun q6 m7 => (gx_tup (ds := [(eP PyData.int PyData.int) q6.1, PyData.int q6.2]) (gsx_cons (gx_name (i := 2) nd (hi := lt_b rfl)) (gsx_cons (gx_name (i := 3) nd (hi := lt_b rfl)) gsx_nil)) rfl)) (fun q6 m7 => (ex_name (i := 2))))))) av_nil))) (ret_ok (Wf := fun r => .val ((eP PyData.int (eT (eP PyData.int PyData.int))) r)) (v := ((one1.1 * other2.1), (r5.map (fun (q6 : ((Int × Int) × Int)) => q6.1)))) (Eq.trans (letC_eq hr5) rfl))
theorem fn_m_web_product {P : Program} {w : World} {K : PySem.W.Frag} {mg : Str → Option Value} {base : Heap} {f : Addr} {fd : FuncData} (bt : NoB mg) (C_m_sorted_ties : Callee P w K mg base "sorted_ties" 2 A_sorted_ties (spP R_m_sorted_ties)) (F : FnP K "web_product" s_web_product f fd) : FnG P w K mg base (2 + 1) f fd A_web_product (spP R_m_web_product) :=
  ok_P F sc_web_product (fun ds v hR => by obtain ⟨one1, other2, rfl, _, _⟩ := hR; rfl) fun ds v hR => by obtain ⟨one1, other2, rfl, h, rfl⟩ := hR; exact ws_m_web_product bt C_m_sorted_ties one1 other2 h
/-! ### _law_open_cells -/
abbrev s__law_open_cells : Stmt := top 30
abbrev N__law_open_cells : List Str := ["script", "stirred", "cell", "cells"]
abbrev A__law_open_cells : List Str := ["script"]
theorem sc__law_open_cells : FnScope N__law_open_cells A__law_open_cells (defScope s__law_open_cells) := ⟨rfl, rfl, rfl, by decide +kernel, rfl, by decide +kernel, by decide +kernel⟩
def m_law_open_cells_l4_s  (s5 : Int) (q6 : Int) : Int :=
  let stirred8 : Int := ((((s5 * (69069 : Int)) + (q6 * (31 : Int))) + (5 : Int)) % (2147483629 : Int))
  stirred8
def m_law_open_cells_l4_o  (s5 : Int) (q6 : Int) : Prop :=
  let stirred8 : Int := ((((s5 * (69069 : Int)) + (q6 * (31 : Int))) + (5 : Int)) % (2147483629 : Int))
  True
@[irreducible] def m_law_open_cells_l4 (stirred2 : Int) (xs3 : (List Int)) : Int :=
  List.foldl (m_law_open_cells_l4_s) stirred2 xs3
theorem m_law_open_cells_l4_eq (stirred2 : Int) (xs3 : (List Int)) : m_law_open_cells_l4 stirred2 xs3 = List.foldl (m_law_open_cells_l4_s) stirred2 xs3 := by unfold m_law_open_cells_l4; rfl
def m_law_open_cells (script1 : (List Int)) : Src :=
  let stirred2 : Int := (11 : Int)
  let xs3 : (List Int) := script1
  letC (m_law_open_cells_l4 stirred2 xs3) fun (r10 : Int) =>
  let cells13 : (List Int) := (script1.map (fun (q11 : Int) => (if q11 < 0 then -q11 else q11)))
  (⟨(cells13).reverse, 1, r10, 0⟩ : Src)
def m_law_open_cells_ok (script1 : (List Int)) : Prop :=
  let stirred2 : Int := (11 : Int)
  let xs3 : (List Int) := script1
  And (LOk (m_law_open_cells_l4_s) (m_law_open_cells_l4_o) stirred2 xs3) <|
  letC (m_law_open_cells_l4 stirred2 xs3) fun (r10 : Int) =>
  let cells13 : (List Int) := (script1.map (fun (q11 : Int) => (if q11 < 0 then -q11 else q11)))
  True
theorem ws_m_law_open_cells {P : Program} {w : World} {K : PySem.W.Frag} {mg : Str → Option Value} {base : Heap} (bt : NoB mg)  (script1 : (List Int)) (h : m_law_open_cells_ok script1) : WS (dC P w K mg base N__law_open_cells (defScope s__law_open_cells) 0) (defBody s__law_open_cells) [.pr (scrP K script1), .un, .un, .un] (fun o => ∃ S2 p q, o = .rt (.src p q (m_law_open_cells script1)) S2) := by
  haveI : Bt (dC P w K mg base N__law_open_cells (defScope s__law_open_cells) 0) := ⟨bt⟩
  haveI : ∀ sc, Bt ((dC P w K mg base N__law_open_cells (defScope s__law_open_cells) 0).blk sc) := fun sc => ⟨bt⟩
  haveI : ∀ sc sc2, Bt (((dC P w K mg base N__law_open_cells (defScope s__law_open_cells) 0).blk sc).blk sc2) := fun sc sc2 => ⟨bt⟩
  haveI : ∀ sc sc2 sc3, Bt ((((dC P w K mg base N__law_open_cells (defScope s__law_open_cells) 0).blk sc).blk sc2).blk sc3) := fun sc sc2 sc3 => ⟨bt⟩
  have nd := sc__law_open_cells.nd
  unfold m_law_open_cells_ok at h
  let stirred2 : Int := (11 : Int)
  refine ws_set (i := 1) nd ex_int ?_ (hi := lt_b rfl)
  let xs3 : (List Int) := script1
  obtain ⟨o9, h⟩ := h
  obtain ⟨r10, hr10⟩ : ∃ r : Int, r = m_law_open_cells_l4 stirred2 xs3 := ⟨_, rfl⟩
  replace h := letC_mp hr10 h
  refine ws_forFR (vs := [2]) (xs := xs3) (en := PyData.int) (fun (r : Int) => [.pr (scrP K script1), .val (PyData.int r), .un, .un]) (m_law_open_cells_l4_s) (m_law_open_cells_l4_o) stirred2 (r10) (Eq.trans hr10 (m_law_open_cells_l4_eq stirred2 xs3)) (itx_scr (ex_nameP (i := 0))) (Wk.imp (Wk.k (Wk.k (Wk.k (Wk.k Wk.nil))))) o9 (fun s5 q6 m7 h => ⟨_, (gx_name (i := 2) nd (hi := lt_b rfl)), ?_⟩) ?_
  · let stirred8 : Int := ((((s5 * (69069 : Int)) + (q6 * (31 : Int))) + (5 : Int)) % (2147483629 : Int))
    refine ws_set (i := 1) nd (ex_mod (ex_intI (ex_add (ex_add (ex_mul (ex_name (i := 1)) ex_int (MulOk.litR (by decide))) (ex_mul (ex_name (i := 2)) ex_int (MulOk.litR (by decide)))) ex_int)) ex_int (by decide)) ?_ (hi := lt_b rfl)
    exact ws_nil (nxt_ok (Sf := (fun (r : Int) => [.pr (scrP K script1), .val (PyData.int r), .un, .un])) (v := stirred8) rfl (Wk.k (Wk.k (Wk.d (Wk.k Wk.nil)))))
  let cells13 : (List Int) := (script1.map (fun (q11 : Int) => (if q11 < 0 then -q11 else q11)))
  refine ws_step (LcX.w1 (j := 3) (lcx_M (own := [(("cell" : Str), 2)]) (S3 := fun (q11 : Int) => [.pr (scrP K script1), .val (PyData.int r10), .val (PyData.int q11), .un]) (f := fun (q11 : Int) => (if q11 < 0 then -q11 else q11)) (en := PyData.int) (em := PyData.int) (Sw := [.pr (scrP K script1), .val (PyData.int r10), .un, .un]) nd (BlkOk.of (by kernel_rfl)) (itx_scr (ex_nameP (i := 0))) (fun q11 m12 => (gx_name (i := 2) nd (hi := lt_b rfl))) (fun q11 m12 => (ex_abs (ex_name (i := 2))))) (lt_b rfl)) ?_
  refine WS.pre (S1 := [.pr (scrP K script1), .val (PyData.int r10), .un, .val ((eL PyData.int) cells13)]) (Wk.imp (Wk.k (Wk.k (Wk.k (Wk.f Wk.nil))))) ?_
  exact ws_retSrc (ex_revL (ex_name (i := 3))) (ex_name (i := 1)) (fun p q => ⟨_, p, q, by rw [show m_law_open_cells script1 = (⟨(cells13).reverse, 1, r10, 0⟩ : Src) from (Eq.trans (letC_eq hr10) rfl)]⟩)
theorem fn_m_law_open_cells {P : Program} {w : World} {K : PySem.W.Frag} {mg : Str → Option Value} {base : Heap} {f : Addr} {fd : FuncData} (bt : NoB mg)  (F : FnP K "_law_open_cells" s__law_open_cells f fd) (hok : ∀ ns, m_law_open_cells_ok ns) : FnG P w K mg base (0 + 1) f fd A__law_open_cells (spO K m_law_open_cells) :=
  ok_O F sc__law_open_cells fun ns _ => ws_m_law_open_cells bt  ns (hok ns)
/-! ### _law_pick -/
abbrev s__law_pick : Stmt := top 31
abbrev N__law_pick : List Str := ["source", "most", "cells", "others", "lap", "stirred"]
abbrev A__law_pick : List Str := ["source", "most"]
theorem sc__law_pick : FnScope N__law_pick A__law_pick (defScope s__law_pick) := ⟨rfl, rfl, rfl, by decide +kernel, rfl, by decide +kernel, by decide +kernel⟩
def m_law_pick_w4_c  (s5 : Src) : Bool :=
  ((decide (s5.left < (2 : Int))) && (decide ((0 : Int) < (s5.cells.length : Int))))
def m_law_pick_w4_q  (s5 : Src) : Prop :=
  (True)
def m_law_pick_w4_s  (s5 : Src) : Src :=
  let source8 : Src := (Src.setL (Src.popC s5) (s5.cells.getLastD 0))
  source8
def m_law_pick_w4_o  (s5 : Src) : Prop :=
  And (s5.cells ≠ []) <|
  let source8 : Src := (Src.setL (Src.popC s5) (s5.cells.getLastD 0))
  True
@[irreducible] def m_law_pick_w4 (source1 : Src) : Src :=
  whl (m_law_pick_w4_c) (m_law_pick_w4_s) FU source1
theorem m_law_pick_w4_eq (source1 : Src) : m_law_pick_w4 source1 = whl (m_law_pick_w4_c) (m_law_pick_w4_s) FU source1 := by unfold m_law_pick_w4; rfl
def m_law_pick (source1 : Src) (most2 : Int) : Int × Src :=
  cond (decide (most2 < (2 : Int)))
    (
      ((0 : Int), source1)
    )
    (
      letC (m_law_pick_w4 source1) fun (r10 : Src) =>
      let others11 : Int := r10.left
      cond (decide ((1 : Int) < others11))
        (
          let source14 : Src := (Src.setL r10 (others11 / most2))
          ((others11 % most2), source14)
        )
        (
          let source16 : Src := (Src.setT r10 (r10.turn + (1 : Int)))
          let lap17 : Int := source16.turn
          let stirred18 : Int := ((source16.mixed + (lap17 * (104729 : Int))) % (998244353 : Int))
          let stirred20 : Int := (((stirred18 * stirred18) + (lap17 * (17 : Int))) % (2147483647 : Int))
          (((stirred20 / (16 : Int)) % most2), source16)
        )
    )
def m_law_pick_ok (source1 : Src) (most2 : Int) : Prop :=
  And ((decide (most2 < (2 : Int))) = true → (
      True
  )) ((decide (most2 < (2 : Int))) = false → (
      And (WOk (m_law_pick_w4_c) (m_law_pick_w4_s) (m_law_pick_w4_q) (m_law_pick_w4_o) FU source1) <|
      letC (m_law_pick_w4 source1) fun (r10 : Src) =>
      let others11 : Int := r10.left
      And ((decide ((1 : Int) < others11)) = true → (
          And (DivOk most2) <|
          let source14 : Src := (Src.setL r10 (others11 / most2))
          And ((0 : Int) < most2) <|
          True
      )) ((decide ((1 : Int) < others11)) = false → (
          let source16 : Src := (Src.setT r10 (r10.turn + (1 : Int)))
          let lap17 : Int := source16.turn
          let stirred18 : Int := ((source16.mixed + (lap17 * (104729 : Int))) % (998244353 : Int))
          And (MulOk stirred18 stirred18) <|
          let stirred20 : Int := (((stirred18 * stirred18) + (lap17 * (17 : Int))) % (2147483647 : Int))
          And ((0 : Int) < most2) <|
          True
      ))
  ))
def R_m_law_pick : Src → List D → SV → Src → Prop := fun source1 ds w s2 => ∃ (most2 : Int), ds = [PyData.int most2] ∧ m_law_pick_ok source1 most2 ∧ w = (fun r => .val (PyData.int r)) (m_law_pick source1 most2).1 ∧ s2 = (m_law_pick source1 most2).2
theorem R_m_law_pick.mk {source1 : Src} {most2 : Int} {r : Int × Src} (er : r = (m_law_pick source1 most2)) (h : m_law_pick_ok source1 most2) : R_m_law_pick source1 [PyData.int most2] ((fun r => .val (PyData.int r)) r.1) r.2 := ⟨most2, rfl, h, by rw [er], by rw [er]⟩
theorem ws_m_law_pick {P : Program} {w : World} {K : PySem.W.Frag} {mg : Str → Option Value} {base : Heap} (bt : NoB mg)  (p q : Addr) (source1 : Src) (most2 : Int) (h : m_law_pick_ok source1 most2) : WS (dC P w K mg base N__law_pick (defScope s__law_pick) 0) (defBody s__law_pick) [.src p q source1, .val (PyData.int most2), .un, .un, .un, .un] (RetS p q ((fun r => .val (PyData.int r)) (m_law_pick source1 most2).1) (m_law_pick source1 most2).2) := by
  haveI : Bt (dC P w K mg base N__law_pick (defScope s__law_pick) 0) := ⟨bt⟩
  haveI : ∀ sc, Bt ((dC P w K mg base N__law_pick (defScope s__law_pick) 0).blk sc) := fun sc => ⟨bt⟩
  haveI : ∀ sc sc2, Bt (((dC P w K mg base N__law_pick (defScope s__law_pick) 0).blk sc).blk sc2) := fun sc sc2 => ⟨bt⟩
  haveI : ∀ sc sc2 sc3, Bt ((((dC P w K mg base N__law_pick (defScope s__law_pick) 0).blk sc).blk sc2).blk sc3) := fun sc sc2 sc3 => ⟨bt⟩
  have nd := sc__law_pick.nd
  unfold m_law_pick_ok at h
  obtain ⟨a24, a25⟩ := h
  refine ws_if (tx_lt (ex_name (i := 1)) ex_int) (fun k3 => ?_) (fun k3 => ?_)
  · have h := a24 k3
    exact ws_ret ex_int (retS_ok (Wf := fun r => .val (PyData.int r)) (v := (0 : Int)) (s := source1) (Eq.trans (cond_t k3) rfl))
  · have h := a25 k3
    refine ws_nil ?_
    change WS _ _ _ _
    refine ws_set (i := 2) nd (ex_srcCells (i := 0)) ?_ (hi := lt_b rfl)
    obtain ⟨o9, h⟩ := h
    obtain ⟨r10, hr10⟩ : ∃ r : Src, r = m_law_pick_w4 source1 := ⟨_, rfl⟩
    replace h := letC_mp hr10 h
    refine ws_whlR (fun (r : Src) => [.src p q r, .val (PyData.int most2), .pr (isAt q), .un, .un, .un]) (m_law_pick_w4_c) (m_law_pick_w4_s) (m_law_pick_w4_q) (m_law_pick_w4_o) FU source1 (r10) (Eq.trans hr10 (m_law_pick_w4_eq source1)) (Wk.imp (Wk.k (Wk.k (Wk.k (Wk.k (Wk.k (Wk.k Wk.nil))))))) o9 (fun s5 h => (tx_of (wx_and (tx_lt (ex_srcLeft (i := 0)) ex_int) (fun _ => (wx_and1 (tx_gt (ex_srcLen (i := 0) (ex_nameP (i := 2)) rfl) ex_int))) (fun _ => Imp.refl _)))) (fun s5 h hk => ?_) ?_
    · obtain ⟨o7, h⟩ := h
      refine ws_step (w1_asg (vs := []) (ex_srcPop (i := 0) (ex_nameP (i := 2)) rfl o7) (gx_srcLeft (i := 0))) ?_
      let source8 : Src := (Src.setL (Src.popC s5) (s5.cells.getLastD 0))
      exact ws_nil (nxt_ok (Sf := (fun (r : Src) => [.src p q r, .val (PyData.int most2), .pr (isAt q), .un, .un, .un])) (v := source8) rfl (Wk.k (Wk.k (Wk.k (Wk.k (Wk.k (Wk.k Wk.nil)))))))
    let others11 : Int := r10.left
    refine ws_set (i := 3) nd (ex_srcLeft (i := 0)) ?_ (hi := lt_b rfl)
    obtain ⟨a22, a23⟩ := h
    refine ws_if (tx_gt (ex_name (i := 3)) ex_int) (fun k12 => ?_) (fun k12 => ?_)
    · have h := a22 k12
      obtain ⟨o13, h⟩ := h
      refine ws_step (w1_asg (vs := []) (ex_fdiv (ex_name (i := 3)) (ex_name (i := 1)) o13) (gx_srcLeft (i := 0))) ?_
      let source14 : Src := (Src.setL r10 (others11 / most2))
      obtain ⟨o15, h⟩ := h
      exact ws_ret (ex_mod (ex_intI (ex_name (i := 3))) (ex_name (i := 1)) o15) (retS_ok (Wf := fun r => .val (PyData.int r)) (v := (others11 % most2)) (s := source14) (Eq.trans (cond_f k3) (Eq.trans (letC_eq hr10) (Eq.trans (cond_t k12) rfl))))
    · have h := a23 k12
      refine ws_nil ?_
      change WS _ _ _ _
      refine ws_step (w1_asg (vs := []) (ex_add (ex_srcTurn (i := 0)) ex_int) (gx_srcTurn (i := 0))) ?_
      let source16 : Src := (Src.setT r10 (r10.turn + (1 : Int)))
      let lap17 : Int := source16.turn
      refine ws_set (i := 4) nd (ex_srcTurn (i := 0)) ?_ (hi := lt_b rfl)
      let stirred18 : Int := ((source16.mixed + (lap17 * (104729 : Int))) % (998244353 : Int))
      refine ws_set (i := 5) nd (ex_mod (ex_intI (ex_add (ex_srcMixed (i := 0)) (ex_mul (ex_name (i := 4)) ex_int (MulOk.litR (by decide))))) ex_int (by decide)) ?_ (hi := lt_b rfl)
      obtain ⟨o19, h⟩ := h
      let stirred20 : Int := (((stirred18 * stirred18) + (lap17 * (17 : Int))) % (2147483647 : Int))
      refine ws_set (i := 5) nd (ex_mod (ex_intI (ex_add (ex_mul (ex_name (i := 5)) (ex_name (i := 5)) o19) (ex_mul (ex_name (i := 4)) ex_int (MulOk.litR (by decide))))) ex_int (by decide)) ?_ (hi := lt_b rfl)
      obtain ⟨o21, h⟩ := h
      exact ws_ret (ex_mod (ex_intI (ex_fdiv (ex_name (i := 5)) ex_int (show 0 < (16 : Int) ∧ (16 : Int) < 1073741824 by decide))) (ex_name (i := 1)) o21) (retS_ok (Wf := fun r => .val (PyData.int r)) (v := ((stirred20 / (16 : Int)) % most2)) (s := source16) (Eq.trans (cond_f k3) (Eq.trans (letC_eq hr10) (Eq.trans (cond_f k12) rfl))))
theorem fn_m_law_pick {P : Program} {w : World} {K : PySem.W.Frag} {mg : Str → Option Value} {base : Heap} {f : Addr} {fd : FuncData} (bt : NoB mg)  (F : FnP K "_law_pick" s__law_pick f fd) : FnG P w K mg base (0 + 1) f fd A__law_pick (spS R_m_law_pick) :=
  ok_S F sc__law_pick (fun s ds v s2 hR => by obtain ⟨most2, rfl, _, _, _⟩ := hR; rfl) fun p q s ds v s2 hR => by obtain ⟨most2, rfl, h, rfl, rfl⟩ := hR; exact ws_m_law_pick bt  p q s most2 h
/-! ### _law_apart -/
abbrev s__law_apart : Stmt := top 32
abbrev N__law_apart : List Str := ["u", "v", "x", "y"]
abbrev A__law_apart : List Str := ["u", "v"]
theorem sc__law_apart : FnScope N__law_apart A__law_apart (defScope s__law_apart) := ⟨rfl, rfl, rfl, by decide +kernel, rfl, by decide +kernel, by decide +kernel⟩
def m_law_apart (u1 : (List Int)) (v2 : (List Int)) : Int :=
  ((((List.zip u1 v2).filter (fun (q3 : (Int × Int)) => (!(decide (q3.1 = q3.2))))).map (fun (q3 : (Int × Int)) => (1 : Int))).length : Int)
def m_law_apart_ok (u1 : (List Int)) (v2 : (List Int)) : Prop :=
  True
def R_m_law_apart : List D → SV → Prop := fun ds w => ∃ (u1 : (List Int)) (v2 : (List Int)), ds = [(eT PyData.int) u1, (eT PyData.int) v2] ∧ m_law_apart_ok u1 v2 ∧ w = (fun r => .val (PyData.int r)) (m_law_apart u1 v2)
theorem R_m_law_apart.mk {u1 : (List Int)} {v2 : (List Int)} {r : Int} (er : r = (m_law_apart u1 v2)) (h : m_law_apart_ok u1 v2) : R_m_law_apart [(eT PyData.int) u1, (eT PyData.int) v2] ((fun r => .val (PyData.int r)) r) := ⟨u1, v2, rfl, h, by rw [er]⟩
theorem ws_m_law_apart {P : Program} {w : World} {K : PySem.W.Frag} {mg : Str → Option Value} {base : Heap} (bt : NoB mg)  (u1 : (List Int)) (v2 : (List Int)) (h : m_law_apart_ok u1 v2) : WS (dC P w K mg base N__law_apart (defScope s__law_apart) 0) (defBody s__law_apart) [.val ((eT PyData.int) u1), .val ((eT PyData.int) v2), .un, .un] (Ret ((fun r => .val (PyData.int r)) (m_law_apart u1 v2))) := by
  haveI : Bt (dC P w K mg base N__law_apart (defScope s__law_apart) 0) := ⟨bt⟩
  haveI : ∀ sc, Bt ((dC P w K mg base N__law_apart (defScope s__law_apart) 0).blk sc) := fun sc => ⟨bt⟩
  haveI : ∀ sc sc2, Bt (((dC P w K mg base N__law_apart (defScope s__law_apart) 0).blk sc).blk sc2) := fun sc sc2 => ⟨bt⟩
  haveI : ∀ sc sc2 sc3, Bt ((((dC P w K mg base N__law_apart (defScope s__law_apart) 0).blk sc).blk sc2).blk sc3) := fun sc sc2 sc3 => ⟨bt⟩
  have nd := sc__law_apart.nd
  unfold m_law_apart_ok at h
  exact ws_ret (ex_lenL (EX.fzE (LcX.ex (lcx_P (own := [(("x" : Str), 2), (("y" : Str), 3)]) (S3 := fun (q3 : (Int × Int)) => [.val ((eT PyData.int) u1), .val ((eT PyData.int) v2), .val (PyData.int q3.1), .val (PyData.int q3.2)]) (p := fun (q3 : (Int × Int)) => (!(decide (q3.1 = q3.2)))) (f := fun (q3 : (Int × Int)) => (1 : Int)) (en := (eP PyData.int PyData.int)) (em := PyData.int) (Sw := [.val ((eT PyData.int) u1), .val ((eT PyData.int) v2), .un, .un]) nd (BlkOk.of (by kernel_rfl)) (itx_zip (ex_name (i := 0)) (.inl rfl) (ex_name (i := 1)) (.inl rfl)) (fun q3 m4 => ⟨(gx_tup (ds := [PyData.int q3.1, PyData.int q3.2]) (gsx_cons (gx_name (i := 2) nd (hi := lt_b rfl)) (gsx_cons (gx_name (i := 3) nd (hi := lt_b rfl)) gsx_nil)) rfl), (tx_ne (e := PyData.int) (ex_name (i := 2)) (ex_name (i := 3))), (fun _ => ex_int)⟩))))) (ret_ok (Wf := fun r => .val (PyData.int r)) (v := ((((List.zip u1 v2).filter (fun (q3 : (Int × Int)) => (!(decide (q3.1 = q3.2))))).map (fun (q3 : (Int × Int)) => (1 : Int))).length : Int)) rfl)
theorem fn_m_law_apart {P : Program} {w : World} {K : PySem.W.Frag} {mg : Str → Option Value} {base : Heap} {f : Addr} {fd : FuncData} (bt : NoB mg)  (F : FnP K "_law_apart" s__law_apart f fd) : FnG P w K mg base (0 + 1) f fd A__law_apart (spP R_m_law_apart) :=
  ok_P F sc__law_apart (fun ds v hR => by obtain ⟨u1, v2, rfl, _, _⟩ := hR; rfl) fun ds v hR => by obtain ⟨u1, v2, rfl, h, rfl⟩ := hR; exact ws_m_law_apart bt  u1 v2 h
/-! ### _law_far -/
abbrev s__law_far : Stmt := top 33
abbrev N__law_far : List Str := ["web", "start", "n", "rows", "row", "line", "k", "a", "late", "b"]
abbrev A__law_far : List Str := ["web"]
theorem sc__law_far : FnScope N__law_far A__law_far (defScope s__law_far) := ⟨rfl, rfl, rfl, by decide +kernel, rfl, by decide +kernel, by decide +kernel⟩
def m_law_far_l17_s (s15 : (List (Option Int)) × (List Int) × Int) (s18 : (List (Option Int))) (q19 : Int) : (List (Option Int)) :=
  let row22 : (List (Option Int)) := (setI s18 q19 (some s15.2.2))
  row22
def m_law_far_l17_o (s15 : (List (Option Int)) × (List Int) × Int) (s18 : (List (Option Int))) (q19 : Int) : Prop :=
  And (InB s18 q19) <|
  let row22 : (List (Option Int)) := (setI s18 q19 (some s15.2.2))
  True
@[irreducible] def m_law_far_l17 (s15 : (List (Option Int)) × (List Int) × Int) (xs16 : (List Int)) : (List (Option Int)) :=
  List.foldl (m_law_far_l17_s s15) s15.1 xs16
theorem m_law_far_l17_eq (s15 : (List (Option Int)) × (List Int) × Int) (xs16 : (List Int)) : m_law_far_l17 s15 xs16 = List.foldl (m_law_far_l17_s s15) s15.1 xs16 := by unfold m_law_far_l17; rfl
def m_law_far_w14_c (web1 : (Int × (List (Int × Int)))) (n2 : Int) (s15 : (List (Option Int)) × (List Int) × Int) : Bool :=
  (!(decide (s15.2.1 = ([] : List Int))))
def m_law_far_w14_q (web1 : (Int × (List (Int × Int)))) (n2 : Int) (s15 : (List (Option Int)) × (List Int) × Int) : Prop :=
  (True)
def m_law_far_w14_s (web1 : (Int × (List (Int × Int)))) (n2 : Int) (s15 : (List (Option Int)) × (List Int) × Int) : (List (Option Int)) × (List Int) × Int :=
  let xs16 : (List Int) := s15.2.1
  letC (m_law_far_l17 s15 xs16) fun (r24 : (List (Option Int))) =>
  let k25 : Int := (s15.2.2 + (1 : Int))
  let late31 : (List Int) := (((rng 0 n2).filter (fun (q27 : Int) => (!((nth r24 q27)).isSome))).map (fun (q27 : Int) => q27))
  let line36 : (List Int) := ((late31.filter (fun (q32 : Int) => (!(decide (((s15.2.1.filter (fun (q34 : Int) => (mem ((min q34 q32), (max q34 q32)) web1.2))).map (fun (q34 : Int) => q34)) = ([] : List Int)))))).map (fun (q32 : Int) => q32))
  (r24, line36, k25)
def m_law_far_w14_o (web1 : (Int × (List (Int × Int)))) (n2 : Int) (s15 : (List (Option Int)) × (List Int) × Int) : Prop :=
  let xs16 : (List Int) := s15.2.1
  And (LOk (m_law_far_l17_s s15) (m_law_far_l17_o s15) s15.1 xs16) <|
  letC (m_law_far_l17 s15 xs16) fun (r24 : (List (Option Int))) =>
  let k25 : Int := (s15.2.2 + (1 : Int))
  And (RngOk n2) <|
  And ((∀ q27 ∈ (rng 0 n2), (InB r24 q27 ∧ True))) <|
  let late31 : (List Int) := (((rng 0 n2).filter (fun (q27 : Int) => (!((nth r24 q27)).isSome))).map (fun (q27 : Int) => q27))
  let line36 : (List Int) := ((late31.filter (fun (q32 : Int) => (!(decide (((s15.2.1.filter (fun (q34 : Int) => (mem ((min q34 q32), (max q34 q32)) web1.2))).map (fun (q34 : Int) => q34)) = ([] : List Int)))))).map (fun (q32 : Int) => q32))
  True
@[irreducible] def m_law_far_w14 (web1 : (Int × (List (Int × Int)))) (n2 : Int) (row11 : (List (Option Int))) (line12 : (List Int)) (k13 : Int) : (List (Option Int)) × (List Int) × Int :=
  whl (m_law_far_w14_c web1 n2) (m_law_far_w14_s web1 n2) FU (row11, line12, k13)
theorem m_law_far_w14_eq (web1 : (Int × (List (Int × Int)))) (n2 : Int) (row11 : (List (Option Int))) (line12 : (List Int)) (k13 : Int) : m_law_far_w14 web1 n2 row11 line12 k13 = whl (m_law_far_w14_c web1 n2) (m_law_far_w14_s web1 n2) FU (row11, line12, k13) := by unfold m_law_far_w14; rfl
def m_law_far_l6_s (web1 : (Int × (List (Int × Int)))) (n2 : Int) (s7 : (List (List (Option Int)))) (q8 : Int) : (List (List (Option Int))) :=
  let row11 : (List (Option Int)) := (rep ([(none : (Option Int))]) n2)
  let line12 : (List Int) := [q8]
  let k13 : Int := (0 : Int)
  letC (m_law_far_w14 web1 n2 row11 line12 k13) fun (r38 : (List (Option Int)) × (List Int) × Int) =>
  let rows40 : (List (List (Option Int))) := (s7 ++ [r38.1])
  rows40
def m_law_far_l6_o (web1 : (Int × (List (Int × Int)))) (n2 : Int) (s7 : (List (List (Option Int)))) (q8 : Int) : Prop :=
  And (RepOk ([(none : (Option Int))]).length n2) <|
  let row11 : (List (Option Int)) := (rep ([(none : (Option Int))]) n2)
  let line12 : (List Int) := [q8]
  let k13 : Int := (0 : Int)
  And (WOk (m_law_far_w14_c web1 n2) (m_law_far_w14_s web1 n2) (m_law_far_w14_q web1 n2) (m_law_far_w14_o web1 n2) FU (row11, line12, k13)) <|
  letC (m_law_far_w14 web1 n2 row11 line12 k13) fun (r38 : (List (Option Int)) × (List Int) × Int) =>
  And (s7.length < sizeLine) <|
  let rows40 : (List (List (Option Int))) := (s7 ++ [r38.1])
  True
@[irreducible] def m_law_far_l6 (web1 : (Int × (List (Int × Int)))) (n2 : Int) (rows3 : (List (List (Option Int)))) (xs5 : (List Int)) : (List (List (Option Int))) :=
  List.foldl (m_law_far_l6_s web1 n2) rows3 xs5
theorem m_law_far_l6_eq (web1 : (Int × (List (Int × Int)))) (n2 : Int) (rows3 : (List (List (Option Int)))) (xs5 : (List Int)) : m_law_far_l6 web1 n2 rows3 xs5 = List.foldl (m_law_far_l6_s web1 n2) rows3 xs5 := by unfold m_law_far_l6; rfl
def m_law_far (web1 : (Int × (List (Int × Int)))) : (List (List (Option Int))) :=
  let n2 : Int := web1.1
  let rows3 : (List (List (Option Int))) := ([] : List (List (Option Int)))
  let xs5 : (List Int) := (rng 0 n2)
  letC (m_law_far_l6 web1 n2 rows3 xs5) fun (r42 : (List (List (Option Int)))) =>
  r42
def m_law_far_ok (web1 : (Int × (List (Int × Int)))) : Prop :=
  let n2 : Int := web1.1
  let rows3 : (List (List (Option Int))) := ([] : List (List (Option Int)))
  And (RngOk n2) <|
  let xs5 : (List Int) := (rng 0 n2)
  And (LOk (m_law_far_l6_s web1 n2) (m_law_far_l6_o web1 n2) rows3 xs5) <|
  letC (m_law_far_l6 web1 n2 rows3 xs5) fun (r42 : (List (List (Option Int)))) =>
  True
def R_m_law_far : List D → SV → Prop := fun ds w => ∃ (web1 : (Int × (List (Int × Int)))), ds = [(eP PyData.int (eT (eP PyData.int PyData.int))) web1] ∧ m_law_far_ok web1 ∧ w = (fun r => .val ((eT (eT (eO PyData.int))) r)) (m_law_far web1)
theorem R_m_law_far.mk {web1 : (Int × (List (Int × Int)))} {r : (List (List (Option Int)))} (er : r = (m_law_far web1)) (h : m_law_far_ok web1) : R_m_law_far [(eP PyData.int (eT (eP PyData.int PyData.int))) web1] ((fun r => .val ((eT (eT (eO PyData.int))) r)) r) := ⟨web1, rfl, h, by rw [er]⟩
theorem ws_m_law_far {P : Program} {w : World} {K : PySem.W.Frag} {mg : Str → Option Value} {base : Heap} (bt : NoB mg)  (web1 : (Int × (List (Int × Int)))) (h : m_law_far_ok web1) : WS (dC P w K mg base N__law_far (defScope s__law_far) 0) (defBody s__law_far) [.val ((eP PyData.int (eT (eP PyData.int PyData.int))) web1), .un, .un, .un, .un, .un, .un, .un, .un, .un] (Ret ((fun r => .val ((eT (eT (eO PyData.int))) r)) (m_law_far web1))) := by
  haveI : Bt (dC P w K mg base N__law_far (defScope s__law_far) 0) := ⟨bt⟩
  haveI : ∀ sc, Bt ((dC P w K mg base N__law_far (defScope s__law_far) 0).blk sc) := fun sc => ⟨bt⟩
  haveI : ∀ sc sc2, Bt (((dC P w K mg base N__law_far (defScope s__law_far) 0).blk sc).blk sc2) := fun sc sc2 => ⟨bt⟩
  haveI : ∀ sc sc2 sc3, Bt ((((dC P w K mg base N__law_far (defScope s__law_far) 0).blk sc).blk sc2).blk sc3) := fun sc sc2 sc3 => ⟨bt⟩
  have nd := sc__law_far.nd
  unfold m_law_far_ok at h
  refine ws_step (w1_par (i := 2) (j := 3) nd (ax_cons (ex_ixD (ex_name (i := 0)) ex_int rfl) (ax_cons (ex_lstE (en := (eT (eO PyData.int))) (xs := ([] : List (List (Option Int)))) av_nil) ax_nil)) (l1 := lt_b rfl) (l2 := lt_b rfl) (hw := by intro env he; exact sw_eq he (by kernel_rfl))) ?_
  let n2 : Int := web1.1
  let rows3 : (List (List (Option Int))) := ([] : List (List (Option Int)))
  obtain ⟨o4, h⟩ := h
  let xs5 : (List Int) := (rng 0 n2)
  obtain ⟨o41, h⟩ := h
  obtain ⟨r42, hr42⟩ : ∃ r : (List (List (Option Int))), r = m_law_far_l6 web1 n2 rows3 xs5 := ⟨_, rfl⟩
  replace h := letC_mp hr42 h
  refine ws_forFR (vs := [1]) (xs := xs5) (en := PyData.int) (fun (r : (List (List (Option Int)))) => [.val ((eP PyData.int (eT (eP PyData.int PyData.int))) web1), .un, .val (PyData.int n2), .lst ((r).map (eT (eO PyData.int))), .un, .un, .un, .un, .un, .un]) (m_law_far_l6_s web1 n2) (m_law_far_l6_o web1 n2) rows3 (r42) (Eq.trans hr42 (m_law_far_l6_eq web1 n2 rows3 xs5)) (itx_range1 (ex_name (i := 2)) o4) (Wk.imp (Wk.k (Wk.k (Wk.k (Wk.k (Wk.k (Wk.k (Wk.k (Wk.k (Wk.k (Wk.k Wk.nil))))))))))) o41 (fun s7 q8 m9 h => ⟨_, (gx_name (i := 1) nd (hi := lt_b rfl)), ?_⟩) ?_
  · obtain ⟨o10, h⟩ := h
    refine ws_step (w1_asgT (vs := [4, 5, 6]) (ax_cons (ex_repLE (EX.fzE (ex_lstE (en := (eO PyData.int)) (xs := [(none : (Option Int))]) (av_cons ex_none av_nil))) (ex_name (i := 2)) o10) (ax_cons (EX.fzE (ex_lstE (en := PyData.int) (xs := [q8]) (av_cons (ex_name (i := 1)) av_nil))) (ax_cons ex_int ax_nil))) (gsx_cons (gx_name (i := 4) nd (hi := lt_b rfl)) (gsx_cons (gx_name (i := 5) nd (hi := lt_b rfl)) (gsx_cons (gx_name (i := 6) nd (hi := lt_b rfl)) gsx_nil))) rfl (hl := le_b rfl) (hw := by intro env he; exact sw_eq he (by kernel_rfl))) ?_
    let row11 : (List (Option Int)) := (rep ([(none : (Option Int))]) n2)
    let line12 : (List Int) := [q8]
    let k13 : Int := (0 : Int)
    obtain ⟨o37, h⟩ := h
    obtain ⟨r38, hr38⟩ : ∃ r : (List (Option Int)) × (List Int) × Int, r = m_law_far_w14 web1 n2 row11 line12 k13 := ⟨_, rfl⟩
    replace h := letC_mp hr38 h
    refine ws_whlR (fun (r : (List (Option Int)) × (List Int) × Int) => [.val ((eP PyData.int (eT (eP PyData.int PyData.int))) web1), .val (PyData.int q8), .val (PyData.int n2), .lst ((s7).map (eT (eO PyData.int))), .lst ((r.1).map (eO PyData.int)), .val ((eL PyData.int) r.2.1), .val (PyData.int r.2.2), .un, .un, .un]) (m_law_far_w14_c web1 n2) (m_law_far_w14_s web1 n2) (m_law_far_w14_q web1 n2) (m_law_far_w14_o web1 n2) FU (row11, line12, k13) (r38) (Eq.trans hr38 (m_law_far_w14_eq web1 n2 row11 line12 k13)) (Wk.imp (Wk.k (Wk.k (Wk.k (Wk.k (Wk.k (Wk.k (Wk.k (Wk.k (Wk.k (Wk.k Wk.nil))))))))))) o37 (fun s15 h => (tx_ne (e := (eL PyData.int)) (ex_name (i := 5)) (EX.fzE (ex_lstE (en := PyData.int) (xs := ([] : List Int)) av_nil)))) (fun s15 h hk => ?_) ?_
    · let xs16 : (List Int) := s15.2.1
      obtain ⟨o23, h⟩ := h
      obtain ⟨r24, hr24⟩ : ∃ r : (List (Option Int)), r = m_law_far_l17 s15 xs16 := ⟨_, rfl⟩
      replace h := letC_mp hr24 h
      refine ws_forFR (vs := [7]) (xs := xs16) (en := PyData.int) (fun (r : (List (Option Int))) => [.val ((eP PyData.int (eT (eP PyData.int PyData.int))) web1), .val (PyData.int q8), .val (PyData.int n2), .lst ((s7).map (eT (eO PyData.int))), .lst ((r).map (eO PyData.int)), .val ((eL PyData.int) s15.2.1), .val (PyData.int s15.2.2), .un, .un, .un]) (m_law_far_l17_s s15) (m_law_far_l17_o s15) s15.1 (r24) (Eq.trans hr24 (m_law_far_l17_eq s15 xs16)) (itx_listE (ex_name (i := 5))) (Wk.imp (Wk.k (Wk.k (Wk.k (Wk.k (Wk.k (Wk.k (Wk.k (Wk.k (Wk.k (Wk.k Wk.nil))))))))))) o23 (fun s18 q19 m20 h => ⟨_, (gx_name (i := 7) nd (hi := lt_b rfl)), ?_⟩) ?_
      · obtain ⟨o21, h⟩ := h
        refine ws_step (w1_asg (vs := []) (ex_some (ex_name (i := 6))) (gx_setL (i := 4) (xs := s18) (ex_name (i := 7)) (hz := o21))) ?_
        let row22 : (List (Option Int)) := (setI s18 q19 (some s15.2.2))
        exact ws_nil (nxt_ok (Sf := (fun (r : (List (Option Int))) => [.val ((eP PyData.int (eT (eP PyData.int PyData.int))) web1), .val (PyData.int q8), .val (PyData.int n2), .lst ((s7).map (eT (eO PyData.int))), .lst ((r).map (eO PyData.int)), .val ((eL PyData.int) s15.2.1), .val (PyData.int s15.2.2), .un, .un, .un])) (v := row22) rfl (Wk.k (Wk.k (Wk.k (Wk.k (Wk.k (Wk.k (Wk.k (Wk.d (Wk.k (Wk.k Wk.nil)))))))))))
      let k25 : Int := (s15.2.2 + (1 : Int))
      refine ws_set (i := 6) nd (ex_add (ex_name (i := 6)) ex_int) ?_ (hi := lt_b rfl)
      obtain ⟨o26, o30, h⟩ := h
      let late31 : (List Int) := (((rng 0 n2).filter (fun (q27 : Int) => (!((nth r24 q27)).isSome))).map (fun (q27 : Int) => q27))
      refine ws_step (LcX.w1 (j := 8) (LcX.bor (lcx_P (own := [(("b" : Str), 9)]) (S3 := fun (q27 : Int) => [.val ((eP PyData.int (eT (eP PyData.int PyData.int))) web1), .val (PyData.int q8), .val (PyData.int n2), .val ((eL (eT (eO PyData.int))) s7), .val ((eL (eO PyData.int)) r24), .val ((eL PyData.int) s15.2.1), .val (PyData.int k25), .un, .un, .val (PyData.int q27)]) (p := fun (q27 : Int) => (!((nth r24 q27)).isSome)) (f := fun (q27 : Int) => q27) (en := PyData.int) (em := PyData.int) (Sw := [.val ((eP PyData.int (eT (eP PyData.int PyData.int))) web1), .val (PyData.int q8), .val (PyData.int n2), .val ((eL (eT (eO PyData.int))) s7), .val ((eL (eO PyData.int)) r24), .val ((eL PyData.int) s15.2.1), .val (PyData.int k25), .un, .un, .un]) nd (BlkOk.of (by kernel_rfl)) (itx_range1 (ex_name (i := 2)) o26) (fun q27 m28 => by obtain ⟨o29, -⟩ := o30 q27 m28; exact ⟨(gx_name (i := 9) nd (hi := lt_b rfl)), (tx_isNO (ex_ixL (ex_name (i := 4)) (ex_name (i := 9)) o29) ex_none), (fun _ => (ex_name (i := 9)))⟩))) (lt_b rfl)) ?_
      refine WS.pre (S1 := [.val ((eP PyData.int (eT (eP PyData.int PyData.int))) web1), .val (PyData.int q8), .val (PyData.int n2), .lst ((s7).map (eT (eO PyData.int))), .lst ((r24).map (eO PyData.int)), .val ((eL PyData.int) s15.2.1), .val (PyData.int k25), .un, .val ((eL PyData.int) late31), .un]) (Wk.imp (Wk.k (Wk.k (Wk.k (Wk.k (Wk.k (Wk.k (Wk.k (Wk.k (Wk.f (Wk.k Wk.nil))))))))))) ?_
      let line36 : (List Int) := ((late31.filter (fun (q32 : Int) => (!(decide (((s15.2.1.filter (fun (q34 : Int) => (mem ((min q34 q32), (max q34 q32)) web1.2))).map (fun (q34 : Int) => q34)) = ([] : List Int)))))).map (fun (q32 : Int) => q32))
      refine ws_set (i := 5) nd (EX.fzE (LcX.ex (lcx_P (own := [(("b" : Str), 9)]) (S3 := fun (q32 : Int) => [.val ((eP PyData.int (eT (eP PyData.int PyData.int))) web1), .val (PyData.int q8), .val (PyData.int n2), .lst ((s7).map (eT (eO PyData.int))), .lst ((r24).map (eO PyData.int)), .val ((eL PyData.int) s15.2.1), .val (PyData.int k25), .un, .val ((eL PyData.int) late31), .val (PyData.int q32)]) (p := fun (q32 : Int) => (!(decide (((s15.2.1.filter (fun (q34 : Int) => (mem ((min q34 q32), (max q34 q32)) web1.2))).map (fun (q34 : Int) => q34)) = ([] : List Int))))) (f := fun (q32 : Int) => q32) (en := PyData.int) (em := PyData.int) (Sw := [.val ((eP PyData.int (eT (eP PyData.int PyData.int))) web1), .val (PyData.int q8), .val (PyData.int n2), .lst ((s7).map (eT (eO PyData.int))), .lst ((r24).map (eO PyData.int)), .val ((eL PyData.int) s15.2.1), .val (PyData.int k25), .un, .val ((eL PyData.int) late31), .un]) nd (BlkOk.of (by kernel_rfl)) (itx_listE (ex_name (i := 8))) (fun q32 m33 => ⟨(gx_name (i := 9) nd (hi := lt_b rfl)), (tx_ne (e := (eL PyData.int)) (EX.fzE (LcX.ex (lcx_P (own := [(("a" : Str), 7)]) (S3 := fun (q34 : Int) => [.val ((eP PyData.int (eT (eP PyData.int PyData.int))) web1), .val (PyData.int q8), .val (PyData.int n2), .lst ((s7).map (eT (eO PyData.int))), .lst ((r24).map (eO PyData.int)), .val ((eL PyData.int) s15.2.1), .val (PyData.int k25), .val (PyData.int q34), .val ((eL PyData.int) late31), .val (PyData.int q32)]) (p := fun (q34 : Int) => (mem ((min q34 q32), (max q34 q32)) web1.2)) (f := fun (q34 : Int) => q34) (en := PyData.int) (em := PyData.int) (Sw := [.val ((eP PyData.int (eT (eP PyData.int PyData.int))) web1), .val (PyData.int q8), .val (PyData.int n2), .lst ((s7).map (eT (eO PyData.int))), .lst ((r24).map (eO PyData.int)), .val ((eL PyData.int) s15.2.1), .val (PyData.int k25), .un, .val ((eL PyData.int) late31), .val (PyData.int q32)]) nd (BlkOk.of (by kernel_rfl)) (itx_listE (ex_name (i := 5))) (fun q34 m35 => ⟨(gx_name (i := 7) nd (hi := lt_b rfl)), (tx_inT (e := (eP PyData.int PyData.int)) (ex_pair (ea := PyData.int) (eb := PyData.int) (x := (min q34 q32)) (y := (max q34 q32)) (av_cons (ex_min2 (ex_name (i := 7)) (ex_name (i := 9))) (av_cons (ex_max2 (ex_name (i := 7)) (ex_name (i := 9))) av_nil))) (ex_ixD (ex_name (i := 0)) ex_int rfl)), (fun _ => (ex_name (i := 7)))⟩)))) (EX.fzE (ex_lstE (en := PyData.int) (xs := ([] : List Int)) av_nil))), (fun _ => (ex_name (i := 9)))⟩)))) ?_ (hi := lt_b rfl) (hs := by intro env he; exact sw_cell he (by rfl))
      exact ws_nil (nxt_ok (Sf := (fun (r : (List (Option Int)) × (List Int) × Int) => [.val ((eP PyData.int (eT (eP PyData.int PyData.int))) web1), .val (PyData.int q8), .val (PyData.int n2), .lst ((s7).map (eT (eO PyData.int))), .lst ((r.1).map (eO PyData.int)), .val ((eL PyData.int) r.2.1), .val (PyData.int r.2.2), .un, .un, .un])) (v := (r24, line36, k25)) (Eq.trans (letC_eq hr24) rfl) (Wk.k (Wk.k (Wk.k (Wk.k (Wk.k (Wk.k (Wk.k (Wk.k (Wk.d (Wk.k Wk.nil)))))))))))
    obtain ⟨o39, h⟩ := h
    refine ws_expr (ex_append (i := 3) (xs := s7) (x := r38.1) (en := (eT (eO PyData.int))) (ex_borE (ex_tupL (ex_name (i := 4)))) (hz := o39)) ?_
    let rows40 : (List (List (Option Int))) := (s7 ++ [r38.1])
    exact ws_nil (nxt_ok (Sf := (fun (r : (List (List (Option Int)))) => [.val ((eP PyData.int (eT (eP PyData.int PyData.int))) web1), .un, .val (PyData.int n2), .lst ((r).map (eT (eO PyData.int))), .un, .un, .un, .un, .un, .un])) (v := rows40) (Eq.trans (letC_eq hr38) rfl) (Wk.k (Wk.d (Wk.k (Wk.k (Wk.d (Wk.d (Wk.d (Wk.k (Wk.k (Wk.k Wk.nil)))))))))))
  refine WS.pre (S1 := [.val ((eP PyData.int (eT (eP PyData.int PyData.int))) web1), .un, .val (PyData.int n2), .val ((eL (eT (eO PyData.int))) r42), .un, .un, .un, .un, .un, .un]) (Wk.imp (Wk.k (Wk.k (Wk.k (Wk.f (Wk.k (Wk.k (Wk.k (Wk.k (Wk.k (Wk.k Wk.nil))))))))))) ?_
  exact ws_ret (ex_tupL (ex_name (i := 3))) (ret_ok (Wf := fun r => .val ((eT (eT (eO PyData.int))) r)) (v := r42) (Eq.trans (letC_eq hr42) rfl))
theorem fn_m_law_far {P : Program} {w : World} {K : PySem.W.Frag} {mg : Str → Option Value} {base : Heap} {f : Addr} {fd : FuncData} (bt : NoB mg)  (F : FnP K "_law_far" s__law_far f fd) : FnG P w K mg base (0 + 1) f fd A__law_far (spP R_m_law_far) :=
  ok_P F sc__law_far (fun ds v hR => by obtain ⟨web1, rfl, _, _⟩ := hR; rfl) fun ds v hR => by obtain ⟨web1, rfl, h, rfl⟩ := hR; exact ws_m_law_far bt  web1 h
/-! ### _law_is_twice -/
abbrev s__law_is_twice : Stmt := top 34
abbrev N__law_is_twice : List Str := ["rows", "words", "n", "a", "b"]
abbrev A__law_is_twice : List Str := ["rows", "words"]
theorem sc__law_is_twice : FnScope N__law_is_twice A__law_is_twice (defScope s__law_is_twice) := ⟨rfl, rfl, rfl, by decide +kernel, rfl, by decide +kernel, by decide +kernel⟩
def m_law_is_twice_l6_s (rows1 : (List (List (Option Int)))) (words2 : (List (List Int))) (n3 : Int) (s7 : Unit) (q8 : Int) : Except Bool (Unit) :=
  cond (!(decide ((((rng 0 n3).filter (fun (q11 : Int) => (!(decide ((m_law_apart (nth words2 q8) (nth words2 q11)) = ((2 : Int) * (getO (nth (nth rows1 q8) q11)))))))).map (fun (q11 : Int) => q11)) = ([] : List Int))))
    (
      .error false
    )
    (
      .ok ()
    )
def m_law_is_twice_l6_o (rows1 : (List (List (Option Int)))) (words2 : (List (List Int))) (n3 : Int) (s7 : Unit) (q8 : Int) : Prop :=
  And (RngOk n3) <|
  And ((∀ q11 ∈ (rng 0 n3), (InB words2 q8 ∧ InB words2 q11 ∧ m_law_apart_ok (nth words2 q8) (nth words2 q11) ∧ InB rows1 q8 ∧ InB (nth rows1 q8) q11 ∧ ((nth (nth rows1 q8) q11)).isSome = true ∧ True))) <|
  And ((!(decide ((((rng 0 n3).filter (fun (q11 : Int) => (!(decide ((m_law_apart (nth words2 q8) (nth words2 q11)) = ((2 : Int) * (getO (nth (nth rows1 q8) q11)))))))).map (fun (q11 : Int) => q11)) = ([] : List Int)))) = true → (
      True
  )) ((!(decide ((((rng 0 n3).filter (fun (q11 : Int) => (!(decide ((m_law_apart (nth words2 q8) (nth words2 q11)) = ((2 : Int) * (getO (nth (nth rows1 q8) q11)))))))).map (fun (q11 : Int) => q11)) = ([] : List Int)))) = false → (
      True
  ))
@[irreducible] def m_law_is_twice_l6 (rows1 : (List (List (Option Int)))) (words2 : (List (List Int))) (n3 : Int) (xs5 : (List Int)) : Except Bool (Unit) :=
  foldE (m_law_is_twice_l6_s rows1 words2 n3) () xs5
theorem m_law_is_twice_l6_eq (rows1 : (List (List (Option Int)))) (words2 : (List (List Int))) (n3 : Int) (xs5 : (List Int)) : m_law_is_twice_l6 rows1 words2 n3 xs5 = foldE (m_law_is_twice_l6_s rows1 words2 n3) () xs5 := by unfold m_law_is_twice_l6; rfl
def m_law_is_twice (rows1 : (List (List (Option Int)))) (words2 : (List (List Int))) : Bool :=
  let n3 : Int := (rows1.length : Int)
  let xs5 : (List Int) := (rng 0 n3)
  thenE (m_law_is_twice_l6 rows1 words2 n3 xs5) fun (r25 : Unit) =>
    true
def m_law_is_twice_ok (rows1 : (List (List (Option Int)))) (words2 : (List (List Int))) : Prop :=
  let n3 : Int := (rows1.length : Int)
  And (RngOk n3) <|
  let xs5 : (List Int) := (rng 0 n3)
  And (LOkE (m_law_is_twice_l6_s rows1 words2 n3) (m_law_is_twice_l6_o rows1 words2 n3) () xs5) <|
  ∀ (r25 : Unit), m_law_is_twice_l6 rows1 words2 n3 xs5 = .ok r25 →
  (
    True
  )
def R_m_law_is_twice : List D → SV → Prop := fun ds w => ∃ (rows1 : (List (List (Option Int)))) (words2 : (List (List Int))), ds = [(eT (eT (eO PyData.int))) rows1, (eT (eT PyData.int)) words2] ∧ m_law_is_twice_ok rows1 words2 ∧ w = (fun r => .val (PyData.bool r)) (m_law_is_twice rows1 words2)
theorem R_m_law_is_twice.mk {rows1 : (List (List (Option Int)))} {words2 : (List (List Int))} {r : Bool} (er : r = (m_law_is_twice rows1 words2)) (h : m_law_is_twice_ok rows1 words2) : R_m_law_is_twice [(eT (eT (eO PyData.int))) rows1, (eT (eT PyData.int)) words2] ((fun r => .val (PyData.bool r)) r) := ⟨rows1, words2, rfl, h, by rw [er]⟩
theorem ws_m_law_is_twice {P : Program} {w : World} {K : PySem.W.Frag} {mg : Str → Option Value} {base : Heap} (bt : NoB mg) (C_m_law_apart : Callee P w K mg base "_law_apart" 1 A__law_apart (spP R_m_law_apart)) (rows1 : (List (List (Option Int)))) (words2 : (List (List Int))) (h : m_law_is_twice_ok rows1 words2) : WS (dC P w K mg base N__law_is_twice (defScope s__law_is_twice) 1) (defBody s__law_is_twice) [.val ((eT (eT (eO PyData.int))) rows1), .val ((eT (eT PyData.int)) words2), .un, .un, .un] (Ret ((fun r => .val (PyData.bool r)) (m_law_is_twice rows1 words2))) := by
  haveI : Bt (dC P w K mg base N__law_is_twice (defScope s__law_is_twice) 1) := ⟨bt⟩
  haveI : ∀ sc, Bt ((dC P w K mg base N__law_is_twice (defScope s__law_is_twice) 1).blk sc) := fun sc => ⟨bt⟩
  haveI : ∀ sc sc2, Bt (((dC P w K mg base N__law_is_twice (defScope s__law_is_twice) 1).blk sc).blk sc2) := fun sc sc2 => ⟨bt⟩
  haveI : ∀ sc sc2 sc3, Bt ((((dC P w K mg base N__law_is_twice (defScope s__law_is_twice) 1).blk sc).blk sc2).blk sc3) := fun sc sc2 sc3 => ⟨bt⟩
  have nd := sc__law_is_twice.nd
  unfold m_law_is_twice_ok at h
  let n3 : Int := (rows1.length : Int)
  refine ws_set (i := 2) nd (ex_lenT (ex_name (i := 0))) ?_ (hi := lt_b rfl)
  obtain ⟨o4, h⟩ := h
  let xs5 : (List Int) := (rng 0 n3)
  obtain ⟨o23, h⟩ := h
  refine ws_forER (vs := [3]) (xs := xs5) (en := PyData.int) (fun (r : Unit) => [.val ((eT (eT (eO PyData.int))) rows1), .val ((eT (eT PyData.int)) words2), .val (PyData.int n3), .un, .un]) (m_law_is_twice_l6_s rows1 words2 n3) (m_law_is_twice_l6_o rows1 words2 n3) () (fun r => Ret ((fun r => .val (PyData.bool r)) r)) (m_law_is_twice_l6 rows1 words2 n3 xs5) (m_law_is_twice_l6_eq rows1 words2 n3 xs5) (itx_range1 (ex_name (i := 2)) o4) (Wk.imp (Wk.k (Wk.k (Wk.k (Wk.k (Wk.k Wk.nil)))))) o23 (fun s7 q8 m9 h => ⟨_, (gx_name (i := 3) nd (hi := lt_b rfl)), ?_⟩) ?_ ?_
  · obtain ⟨o10, o19, h⟩ := h
    obtain ⟨a21, a22⟩ := h
    refine ws_if (tx_ne (e := (eL PyData.int)) (EX.fzE (LcX.ex (lcx_P (own := [(("b" : Str), 4)]) (S3 := fun (q11 : Int) => [.val ((eT (eT (eO PyData.int))) rows1), .val ((eT (eT PyData.int)) words2), .val (PyData.int n3), .val (PyData.int q8), .val (PyData.int q11)]) (p := fun (q11 : Int) => (!(decide ((m_law_apart (nth words2 q8) (nth words2 q11)) = ((2 : Int) * (getO (nth (nth rows1 q8) q11))))))) (f := fun (q11 : Int) => q11) (en := PyData.int) (em := PyData.int) (Sw := [.val ((eT (eT (eO PyData.int))) rows1), .val ((eT (eT PyData.int)) words2), .val (PyData.int n3), .val (PyData.int q8), .un]) nd (BlkOk.of (by kernel_rfl)) (itx_range1 (ex_name (i := 2)) o10) (fun q11 m12 => by obtain ⟨o13, o14, o15, o16, o17, o18, -⟩ := o19 q11 m12; exact ⟨(gx_name (i := 4) nd (hi := lt_b rfl)), (tx_ne (e := PyData.int) (ex_call C_m_law_apart (av_cons (ex_ixT (ex_name (i := 1)) (ex_name (i := 3)) o13) (av_cons (ex_ixT (ex_name (i := 1)) (ex_name (i := 4)) o14) av_nil)) (R_m_law_apart.mk rfl o15) (hk := le_b rfl)) (ex_mul ex_int (ex_getO (ex_ixT (ex_ixT (ex_name (i := 0)) (ex_name (i := 3)) o16) (ex_name (i := 4)) o17) o18) (MulOk.litL (by decide)))), (fun _ => (ex_name (i := 4)))⟩)))) (EX.fzE (ex_lstE (en := PyData.int) (xs := ([] : List Int)) av_nil))) (fun k20 => ?_) (fun k20 => ?_)
    · have h := a21 k20
      exact ws_ret ex_bool (retE_ok (Sf := (fun (r : Unit) => [.val ((eT (eT (eO PyData.int))) rows1), .val ((eT (eT PyData.int)) words2), .val (PyData.int n3), .un, .un])) (Wf := fun r => .val (PyData.bool r)) (v := false) (Eq.trans (cond_t k20) rfl))
    · have h := a22 k20
      refine ws_nil ?_
      change WS _ _ _ _
      exact ws_nil (nxtE_ok (Sf := (fun (r : Unit) => [.val ((eT (eT (eO PyData.int))) rows1), .val ((eT (eT PyData.int)) words2), .val (PyData.int n3), .un, .un])) (v := ()) (Eq.trans (cond_f k20) rfl) (Wk.k (Wk.k (Wk.k (Wk.d (Wk.k Wk.nil))))))
  · exact fun r w S2 e24 hq => ret_up (Wf := fun r => .val (PyData.bool r)) (Eq.trans (thenE_err e24) rfl) hq
  intro r25 e26; have h := h r25 e26
  exact ws_ret ex_bool (ret_ok (Wf := fun r => .val (PyData.bool r)) (v := true) (Eq.trans (thenE_ok e26) rfl))
theorem fn_m_law_is_twice {P : Program} {w : World} {K : PySem.W.Frag} {mg : Str → Option Value} {base : Heap} {f : Addr} {fd : FuncData} (bt : NoB mg) (C_m_law_apart : Callee P w K mg base "_law_apart" 1 A__law_apart (spP R_m_law_apart)) (F : FnP K "_law_is_twice" s__law_is_twice f fd) : FnG P w K mg base (1 + 1) f fd A__law_is_twice (spP R_m_law_is_twice) :=
  ok_P F sc__law_is_twice (fun ds v hR => by obtain ⟨rows1, words2, rfl, _, _⟩ := hR; rfl) fun ds v hR => by obtain ⟨rows1, words2, rfl, h, rfl⟩ := hR; exact ws_m_law_is_twice bt C_m_law_apart rows1 words2 h
/-! ### _law_ring -/
abbrev s__law_ring : Stmt := top 35
abbrev N__law_ring : List Str := ["n", "a"]
abbrev A__law_ring : List Str := ["n"]
theorem sc__law_ring : FnScope N__law_ring A__law_ring (defScope s__law_ring) := ⟨rfl, rfl, rfl, by decide +kernel, rfl, by decide +kernel, by decide +kernel⟩
def m_law_ring (n1 : Int) : (Int × (List (Int × Int))) :=
  (n1, (srt (eP PyData.int PyData.int) (((rng 0 (n1 - (1 : Int))).map (fun (q3 : Int) => (q3, (q3 + (1 : Int))))) ++ [((0 : Int), (n1 - (1 : Int)))])))
def m_law_ring_ok (n1 : Int) : Prop :=
  And (RngOk (n1 - (1 : Int))) <|
  And (SzOk (((rng 0 (n1 - (1 : Int))).map (fun (q3 : Int) => (q3, (q3 + (1 : Int))))).length + ([((0 : Int), (n1 - (1 : Int)))]).length)) <|
  And (SrtOk (eP PyData.int PyData.int) (((rng 0 (n1 - (1 : Int))).map (fun (q3 : Int) => (q3, (q3 + (1 : Int))))) ++ [((0 : Int), (n1 - (1 : Int)))])) <|
  True
def R_m_law_ring : List D → SV → Prop := fun ds w => ∃ (n1 : Int), ds = [PyData.int n1] ∧ m_law_ring_ok n1 ∧ w = (fun r => .val ((eP PyData.int (eT (eP PyData.int PyData.int))) r)) (m_law_ring n1)
theorem R_m_law_ring.mk {n1 : Int} {r : (Int × (List (Int × Int)))} (er : r = (m_law_ring n1)) (h : m_law_ring_ok n1) : R_m_law_ring [PyData.int n1] ((fun r => .val ((eP PyData.int (eT (eP PyData.int PyData.int))) r)) r) := ⟨n1, rfl, h, by rw [er]⟩
theorem ws_m_law_ring {P : Program} {w : World} {K : PySem.W.Frag} {mg : Str → Option Value} {base : Heap} (bt : NoB mg)  (n1 : Int) (h : m_law_ring_ok n1) : WS (dC P w K mg base N__law_ring (defScope s__law_ring) 0) (defBody s__law_ring) [.val (PyData.int n1), .un] (Ret ((fun r => .val ((eP PyData.int (eT (eP PyData.int PyData.int))) r)) (m_law_ring n1))) := by
  haveI : Bt (dC P w K mg base N__law_ring (defScope s__law_ring) 0) := ⟨bt⟩
  haveI : ∀ sc, Bt ((dC P w K mg base N__law_ring (defScope s__law_ring) 0).blk sc) := fun sc => ⟨bt⟩
  haveI : ∀ sc sc2, Bt (((dC P w K mg base N__law_ring (defScope s__law_ring) 0).blk sc).blk sc2) := fun sc sc2 => ⟨bt⟩
  haveI : ∀ sc sc2 sc3, Bt ((((dC P w K mg base N__law_ring (defScope s__law_ring) 0).blk sc).blk sc2).blk sc3) := fun sc sc2 sc3 => ⟨bt⟩
  have nd := sc__law_ring.nd
  unfold m_law_ring_ok at h
  obtain ⟨o2, o5, o6, h⟩ := h
  exact ws_ret (ex_pair (ea := PyData.int) (eb := (eT (eP PyData.int PyData.int))) (x := n1) (y := (srt (eP PyData.int PyData.int) (((rng 0 (n1 - (1 : Int))).map (fun (q3 : Int) => (q3, (q3 + (1 : Int))))) ++ [((0 : Int), (n1 - (1 : Int)))]))) (av_cons (ex_name (i := 0)) (av_cons (ex_tupL (EX.fzE (ex_sorted (EX.fzE (ex_catL (EX.fzE (LcX.ex (lcx_M (own := [(("a" : Str), 1)]) (S3 := fun (q3 : Int) => [.val (PyData.int n1), .val (PyData.int q3)]) (f := fun (q3 : Int) => (q3, (q3 + (1 : Int)))) (en := PyData.int) (em := (eP PyData.int PyData.int)) (Sw := [.val (PyData.int n1), .un]) nd (BlkOk.of (by kernel_rfl)) (itx_range1 (ex_sub (ex_name (i := 0)) ex_int) o2) (fun q3 m4 => (gx_name (i := 1) nd (hi := lt_b rfl))) (fun q3 m4 => (ex_pair (ea := PyData.int) (eb := PyData.int) (x := q3) (y := (q3 + (1 : Int))) (av_cons (ex_name (i := 1)) (av_cons (ex_add (ex_name (i := 1)) ex_int) av_nil))))))) (EX.fzE (ex_lstE (en := (eP PyData.int PyData.int)) (xs := [((0 : Int), (n1 - (1 : Int)))]) (av_cons (ex_pair (ea := PyData.int) (eb := PyData.int) (x := (0 : Int)) (y := (n1 - (1 : Int))) (av_cons ex_int (av_cons (ex_sub (ex_name (i := 0)) ex_int) av_nil))) av_nil))) o5)) (.inr rfl) (SrtOk.ok o6)))) av_nil))) (ret_ok (Wf := fun r => .val ((eP PyData.int (eT (eP PyData.int PyData.int))) r)) (v := (n1, (srt (eP PyData.int PyData.int) (((rng 0 (n1 - (1 : Int))).map (fun (q3 : Int) => (q3, (q3 + (1 : Int))))) ++ [((0 : Int), (n1 - (1 : Int)))])))) rfl)
theorem fn_m_law_ring {P : Program} {w : World} {K : PySem.W.Frag} {mg : Str → Option Value} {base : Heap} {f : Addr} {fd : FuncData} (bt : NoB mg)  (F : FnP K "_law_ring" s__law_ring f fd) : FnG P w K mg base (0 + 1) f fd A__law_ring (spP R_m_law_ring) :=
  ok_P F sc__law_ring (fun ds v hR => by obtain ⟨n1, rfl, _, _⟩ := hR; rfl) fun ds v hR => by obtain ⟨n1, rfl, h, rfl⟩ := hR; exact ws_m_law_ring bt  n1 h
/-! ### _law_whole -/
abbrev s__law_whole : Stmt := top 36
abbrev N__law_whole : List Str := ["n", "ties", "a", "b"]
abbrev A__law_whole : List Str := ["n"]
theorem sc__law_whole : FnScope N__law_whole A__law_whole (defScope s__law_whole) := ⟨rfl, rfl, rfl, by decide +kernel, rfl, by decide +kernel, by decide +kernel⟩
def m_law_whole_l5_s (n1 : Int) (s6 : (List (Int × Int))) (q7 : Int) : (List (Int × Int)) :=
  let ties14 : (List (Int × Int)) := (s6 ++ ((rng (q7 + (1 : Int)) n1).map (fun (q11 : Int) => (q7, q11))))
  ties14
def m_law_whole_l5_o (n1 : Int) (s6 : (List (Int × Int))) (q7 : Int) : Prop :=
  And (RngOk (q7 + (1 : Int))) <|
  And (RngOk n1) <|
  And (SzOk (s6.length + ((rng (q7 + (1 : Int)) n1).map (fun (q11 : Int) => (q7, q11))).length)) <|
  let ties14 : (List (Int × Int)) := (s6 ++ ((rng (q7 + (1 : Int)) n1).map (fun (q11 : Int) => (q7, q11))))
  True
@[irreducible] def m_law_whole_l5 (n1 : Int) (ties2 : (List (Int × Int))) (xs4 : (List Int)) : (List (Int × Int)) :=
  List.foldl (m_law_whole_l5_s n1) ties2 xs4
theorem m_law_whole_l5_eq (n1 : Int) (ties2 : (List (Int × Int))) (xs4 : (List Int)) : m_law_whole_l5 n1 ties2 xs4 = List.foldl (m_law_whole_l5_s n1) ties2 xs4 := by unfold m_law_whole_l5; rfl
def m_law_whole (n1 : Int) : (Int × (List (Int × Int))) :=
  let ties2 : (List (Int × Int)) := ([] : List (Int × Int))
  let xs4 : (List Int) := (rng 0 n1)
  letC (m_law_whole_l5 n1 ties2 xs4) fun (r16 : (List (Int × Int))) =>
  (n1, r16)
def m_law_whole_ok (n1 : Int) : Prop :=
  let ties2 : (List (Int × Int)) := ([] : List (Int × Int))
  And (RngOk n1) <|
  let xs4 : (List Int) := (rng 0 n1)
  And (LOk (m_law_whole_l5_s n1) (m_law_whole_l5_o n1) ties2 xs4) <|
  letC (m_law_whole_l5 n1 ties2 xs4) fun (r16 : (List (Int × Int))) =>
  True
def R_m_law_whole : List D → SV → Prop := fun ds w => ∃ (n1 : Int), ds = [PyData.int n1] ∧ m_law_whole_ok n1 ∧ w = (fun r => .val ((eP PyData.int (eT (eP PyData.int PyData.int))) r)) (m_law_whole n1)
theorem R_m_law_whole.mk {n1 : Int} {r : (Int × (List (Int × Int)))} (er : r = (m_law_whole n1)) (h : m_law_whole_ok n1) : R_m_law_whole [PyData.int n1] ((fun r => .val ((eP PyData.int (eT (eP PyData.int PyData.int))) r)) r) := ⟨n1, rfl, h, by rw [er]⟩
theorem ws_m_law_whole {P : Program} {w : World} {K : PySem.W.Frag} {mg : Str → Option Value} {base : Heap} (bt : NoB mg)  (n1 : Int) (h : m_law_whole_ok n1) : WS (dC P w K mg base N__law_whole (defScope s__law_whole) 0) (defBody s__law_whole) [.val (PyData.int n1), .un, .un, .un] (Ret ((fun r => .val ((eP PyData.int (eT (eP PyData.int PyData.int))) r)) (m_law_whole n1))) := by
  haveI : Bt (dC P w K mg base N__law_whole (defScope s__law_whole) 0) := ⟨bt⟩
  haveI : ∀ sc, Bt ((dC P w K mg base N__law_whole (defScope s__law_whole) 0).blk sc) := fun sc => ⟨bt⟩
  haveI : ∀ sc sc2, Bt (((dC P w K mg base N__law_whole (defScope s__law_whole) 0).blk sc).blk sc2) := fun sc sc2 => ⟨bt⟩
  haveI : ∀ sc sc2 sc3, Bt ((((dC P w K mg base N__law_whole (defScope s__law_whole) 0).blk sc).blk sc2).blk sc3) := fun sc sc2 sc3 => ⟨bt⟩
  have nd := sc__law_whole.nd
  unfold m_law_whole_ok at h
  let ties2 : (List (Int × Int)) := ([] : List (Int × Int))
  refine ws_set (i := 1) nd (EX.fzE (ex_lstE (en := (eP PyData.int PyData.int)) (xs := ([] : List (Int × Int))) av_nil)) ?_ (hi := lt_b rfl)
  obtain ⟨o3, h⟩ := h
  let xs4 : (List Int) := (rng 0 n1)
  obtain ⟨o15, h⟩ := h
  obtain ⟨r16, hr16⟩ : ∃ r : (List (Int × Int)), r = m_law_whole_l5 n1 ties2 xs4 := ⟨_, rfl⟩
  replace h := letC_mp hr16 h
  refine ws_forFR (vs := [2]) (xs := xs4) (en := PyData.int) (fun (r : (List (Int × Int))) => [.val (PyData.int n1), .val ((eL (eP PyData.int PyData.int)) r), .un, .un]) (m_law_whole_l5_s n1) (m_law_whole_l5_o n1) ties2 (r16) (Eq.trans hr16 (m_law_whole_l5_eq n1 ties2 xs4)) (itx_range1 (ex_name (i := 0)) o3) (Wk.imp (Wk.k (Wk.k (Wk.k (Wk.k Wk.nil))))) o15 (fun s6 q7 m8 h => ⟨_, (gx_name (i := 2) nd (hi := lt_b rfl)), ?_⟩) ?_
  · obtain ⟨o9, o10, o13, h⟩ := h
    let ties14 : (List (Int × Int)) := (s6 ++ ((rng (q7 + (1 : Int)) n1).map (fun (q11 : Int) => (q7, q11))))
    refine ws_set (i := 1) nd (EX.fzE (ex_catL (ex_name (i := 1)) (EX.fzE (LcX.ex (lcx_M (own := [(("b" : Str), 3)]) (S3 := fun (q11 : Int) => [.val (PyData.int n1), .val ((eL (eP PyData.int PyData.int)) s6), .val (PyData.int q7), .val (PyData.int q11)]) (f := fun (q11 : Int) => (q7, q11)) (en := PyData.int) (em := (eP PyData.int PyData.int)) (Sw := [.val (PyData.int n1), .val ((eL (eP PyData.int PyData.int)) s6), .val (PyData.int q7), .un]) nd (BlkOk.of (by kernel_rfl)) (itx_range2 (ex_add (ex_name (i := 2)) ex_int) (ex_name (i := 0)) o9 o10) (fun q11 m12 => (gx_name (i := 3) nd (hi := lt_b rfl))) (fun q11 m12 => (ex_pair (ea := PyData.int) (eb := PyData.int) (x := q7) (y := q11) (av_cons (ex_name (i := 2)) (av_cons (ex_name (i := 3)) av_nil))))))) o13)) ?_ (hi := lt_b rfl)
    exact ws_nil (nxt_ok (Sf := (fun (r : (List (Int × Int))) => [.val (PyData.int n1), .val ((eL (eP PyData.int PyData.int)) r), .un, .un])) (v := ties14) rfl (Wk.k (Wk.k (Wk.d (Wk.k Wk.nil)))))
  exact ws_ret (ex_pair (ea := PyData.int) (eb := (eT (eP PyData.int PyData.int))) (x := n1) (y := r16) (av_cons (ex_name (i := 0)) (av_cons (ex_tupL (ex_name (i := 1))) av_nil))) (ret_ok (Wf := fun r => .val ((eP PyData.int (eT (eP PyData.int PyData.int))) r)) (v := (n1, r16)) (Eq.trans (letC_eq hr16) rfl))
theorem fn_m_law_whole {P : Program} {w : World} {K : PySem.W.Frag} {mg : Str → Option Value} {base : Heap} {f : Addr} {fd : FuncData} (bt : NoB mg)  (F : FnP K "_law_whole" s__law_whole f fd) : FnG P w K mg base (0 + 1) f fd A__law_whole (spP R_m_law_whole) :=
  ok_P F sc__law_whole (fun ds v hR => by obtain ⟨n1, rfl, _, _⟩ := hR; rfl) fun ds v hR => by obtain ⟨n1, rfl, h, rfl⟩ := hR; exact ws_m_law_whole bt  n1 h
/-! ### _law_told -/
abbrev s__law_told : Stmt := top 37
abbrev N__law_told : List Str := ["source", "most", "k", "way", "n"]
abbrev A__law_told : List Str := ["source", "most"]
theorem sc__law_told : FnScope N__law_told A__law_told (defScope s__law_told) := ⟨rfl, rfl, rfl, by decide +kernel, rfl, by decide +kernel, by decide +kernel⟩
def m_law_told (source1 : Src) (most2 : Int) : ((Int × (List (Int × Int))) × (List (List Int))) × Src :=
  letC ((m_law_pick source1 (3 : Int))) fun (r4 : Int × Src) =>
  letC ((m_law_pick r4.2 (most2 - (2 : Int)))) fun (r6 : Int × Src) =>
  let way7 : Int := r4.1
  let n8 : Int := ((3 : Int) + r6.1)
  cond (decide (way7 = (0 : Int)))
    (
      letC ((m_law_ring n8)) fun (r11 : (Int × (List (Int × Int)))) =>
      letC ((m_ring_twice n8)) fun (r13 : (List (List Int))) =>
      ((r11, r13), r6.2)
    )
    (
      cond (decide (way7 = (1 : Int)))
        (
          letC ((m_law_whole n8)) fun (r16 : (Int × (List (Int × Int)))) =>
          letC ((m_whole_twice n8)) fun (r18 : (List (List Int))) =>
          ((r16, r18), r6.2)
        )
        (
          letC ((m_law_pick r6.2 (min (3 : Int) ((most2 / (2 : Int)) - (1 : Int))))) fun (r20 : Int × Src) =>
          let k21 : Int := ((2 : Int) + r20.1)
          letC ((m_pairs_apart k21)) fun (r23 : (Int × (List (Int × Int)))) =>
          letC ((m_pairs_twice k21)) fun (r25 : (List (List Int))) =>
          ((r23, r25), r20.2)
        )
    )
def m_law_told_ok (source1 : Src) (most2 : Int) : Prop :=
  And (m_law_pick_ok source1 (3 : Int)) <|
  letC ((m_law_pick source1 (3 : Int))) fun (r4 : Int × Src) =>
  And (m_law_pick_ok r4.2 (most2 - (2 : Int))) <|
  letC ((m_law_pick r4.2 (most2 - (2 : Int)))) fun (r6 : Int × Src) =>
  let way7 : Int := r4.1
  let n8 : Int := ((3 : Int) + r6.1)
  And ((decide (way7 = (0 : Int))) = true → (
      And (m_law_ring_ok n8) <|
      letC ((m_law_ring n8)) fun (r11 : (Int × (List (Int × Int)))) =>
      And (m_ring_twice_ok n8) <|
      letC ((m_ring_twice n8)) fun (r13 : (List (List Int))) =>
      True
  )) ((decide (way7 = (0 : Int))) = false → (
      And ((decide (way7 = (1 : Int))) = true → (
          And (m_law_whole_ok n8) <|
          letC ((m_law_whole n8)) fun (r16 : (Int × (List (Int × Int)))) =>
          And (m_whole_twice_ok n8) <|
          letC ((m_whole_twice n8)) fun (r18 : (List (List Int))) =>
          True
      )) ((decide (way7 = (1 : Int))) = false → (
          And (m_law_pick_ok r6.2 (min (3 : Int) ((most2 / (2 : Int)) - (1 : Int)))) <|
          letC ((m_law_pick r6.2 (min (3 : Int) ((most2 / (2 : Int)) - (1 : Int))))) fun (r20 : Int × Src) =>
          let k21 : Int := ((2 : Int) + r20.1)
          And (m_pairs_apart_ok k21) <|
          letC ((m_pairs_apart k21)) fun (r23 : (Int × (List (Int × Int)))) =>
          And (m_pairs_twice_ok k21) <|
          letC ((m_pairs_twice k21)) fun (r25 : (List (List Int))) =>
          True
      ))
  ))
def R_m_law_told : Src → List D → SV → Src → Prop := fun source1 ds w s2 => ∃ (most2 : Int), ds = [PyData.int most2] ∧ m_law_told_ok source1 most2 ∧ w = (fun r => .val ((eP (eP PyData.int (eT (eP PyData.int PyData.int))) (eT (eT PyData.int))) r)) (m_law_told source1 most2).1 ∧ s2 = (m_law_told source1 most2).2
theorem R_m_law_told.mk {source1 : Src} {most2 : Int} {r : ((Int × (List (Int × Int))) × (List (List Int))) × Src} (er : r = (m_law_told source1 most2)) (h : m_law_told_ok source1 most2) : R_m_law_told source1 [PyData.int most2] ((fun r => .val ((eP (eP PyData.int (eT (eP PyData.int PyData.int))) (eT (eT PyData.int))) r)) r.1) r.2 := ⟨most2, rfl, h, by rw [er], by rw [er]⟩
theorem ws_m_law_told {P : Program} {w : World} {K : PySem.W.Frag} {mg : Str → Option Value} {base : Heap} (bt : NoB mg) (C_m_law_pick : Callee P w K mg base "_law_pick" 1 A__law_pick (spS R_m_law_pick)) (C_m_law_ring : Callee P w K mg base "_law_ring" 1 A__law_ring (spP R_m_law_ring)) (C_m_ring_twice : Callee P w K mg base "ring_twice" 1 A_ring_twice (spP R_m_ring_twice)) (C_m_law_whole : Callee P w K mg base "_law_whole" 1 A__law_whole (spP R_m_law_whole)) (C_m_whole_twice : Callee P w K mg base "whole_twice" 1 A_whole_twice (spP R_m_whole_twice)) (C_m_pairs_apart : Callee P w K mg base "pairs_apart" 1 A_pairs_apart (spP R_m_pairs_apart)) (C_m_pairs_twice : Callee P w K mg base "pairs_twice" 3 A_pairs_twice (spP R_m_pairs_twice)) (p q : Addr) (source1 : Src) (most2 : Int) (h : m_law_told_ok source1 most2) : WS (dC P w K mg base N__law_told (defScope s__law_told) 3) (defBody s__law_told) [.src p q source1, .val (PyData.int most2), .un, .un, .un] (RetS p q ((fun r => .val ((eP (eP PyData.int (eT (eP PyData.int PyData.int))) (eT (eT PyData.int))) r)) (m_law_told source1 most2).1) (m_law_told source1 most2).2) := by
  haveI : Bt (dC P w K mg base N__law_told (defScope s__law_told) 3) := ⟨bt⟩
  haveI : ∀ sc, Bt ((dC P w K mg base N__law_told (defScope s__law_told) 3).blk sc) := fun sc => ⟨bt⟩
  haveI : ∀ sc sc2, Bt (((dC P w K mg base N__law_told (defScope s__law_told) 3).blk sc).blk sc2) := fun sc sc2 => ⟨bt⟩
  haveI : ∀ sc sc2 sc3, Bt ((((dC P w K mg base N__law_told (defScope s__law_told) 3).blk sc).blk sc2).blk sc3) := fun sc sc2 sc3 => ⟨bt⟩
  have nd := sc__law_told.nd
  unfold m_law_told_ok at h
  obtain ⟨o3, h⟩ := h
  obtain ⟨r4, hr4⟩ : ∃ r : Int × Src, r = (m_law_pick source1 (3 : Int)) := ⟨_, rfl⟩
  replace h := letC_mp hr4 h
  obtain ⟨o5, h⟩ := h
  obtain ⟨r6, hr6⟩ : ∃ r : Int × Src, r = (m_law_pick r4.2 (most2 - (2 : Int))) := ⟨_, rfl⟩
  replace h := letC_mp hr6 h
  refine ws_step (w1_par (i := 3) (j := 4) nd (ax_cons (ex_callE (i := 0) C_m_law_pick (av_cons ex_int av_nil) (R_m_law_pick.mk hr4 o3) (hk := le_b rfl)) (ax_cons (ex_add ex_int (ex_callE (i := 0) C_m_law_pick (av_cons (ex_sub (ex_name (i := 1)) ex_int) av_nil) (R_m_law_pick.mk hr6 o5) (hk := le_b rfl))) ax_nil)) (l1 := lt_b rfl) (l2 := lt_b rfl) (hw := by intro env he; exact sw_eq he (by kernel_rfl))) ?_
  let way7 : Int := r4.1
  let n8 : Int := ((3 : Int) + r6.1)
  obtain ⟨a28, a29⟩ := h
  refine ws_if (tx_eq (e := PyData.int) (ex_name (i := 3)) ex_int) (fun k9 => ?_) (fun k9 => ?_)
  · have h := a28 k9
    obtain ⟨o10, h⟩ := h
    obtain ⟨r11, hr11⟩ : ∃ r : (Int × (List (Int × Int))), r = (m_law_ring n8) := ⟨_, rfl⟩
    replace h := letC_mp hr11 h
    obtain ⟨o12, h⟩ := h
    obtain ⟨r13, hr13⟩ : ∃ r : (List (List Int)), r = (m_ring_twice n8) := ⟨_, rfl⟩
    replace h := letC_mp hr13 h
    exact ws_ret (ex_pair (ea := (eP PyData.int (eT (eP PyData.int PyData.int)))) (eb := (eT (eT PyData.int))) (x := r11) (y := r13) (av_cons (ex_call C_m_law_ring (av_cons (ex_name (i := 4)) av_nil) (R_m_law_ring.mk hr11 o10) (hk := le_b rfl)) (av_cons (ex_call C_m_ring_twice (av_cons (ex_name (i := 4)) av_nil) (R_m_ring_twice.mk hr13 o12) (hk := le_b rfl)) av_nil))) (retS_ok (Wf := fun r => .val ((eP (eP PyData.int (eT (eP PyData.int PyData.int))) (eT (eT PyData.int))) r)) (v := (r11, r13)) (s := r6.2) (Eq.trans (letC_eq hr4) (Eq.trans (letC_eq hr6) (Eq.trans (cond_t k9) (Eq.trans (letC_eq hr11) (Eq.trans (letC_eq hr13) rfl))))))
  · have h := a29 k9
    refine ws_nil ?_
    change WS _ _ _ _
    obtain ⟨a26, a27⟩ := h
    refine ws_if (tx_eq (e := PyData.int) (ex_name (i := 3)) ex_int) (fun k14 => ?_) (fun k14 => ?_)
    · have h := a26 k14
      obtain ⟨o15, h⟩ := h
      obtain ⟨r16, hr16⟩ : ∃ r : (Int × (List (Int × Int))), r = (m_law_whole n8) := ⟨_, rfl⟩
      replace h := letC_mp hr16 h
      obtain ⟨o17, h⟩ := h
      obtain ⟨r18, hr18⟩ : ∃ r : (List (List Int)), r = (m_whole_twice n8) := ⟨_, rfl⟩
      replace h := letC_mp hr18 h
      exact ws_ret (ex_pair (ea := (eP PyData.int (eT (eP PyData.int PyData.int)))) (eb := (eT (eT PyData.int))) (x := r16) (y := r18) (av_cons (ex_call C_m_law_whole (av_cons (ex_name (i := 4)) av_nil) (R_m_law_whole.mk hr16 o15) (hk := le_b rfl)) (av_cons (ex_call C_m_whole_twice (av_cons (ex_name (i := 4)) av_nil) (R_m_whole_twice.mk hr18 o17) (hk := le_b rfl)) av_nil))) (retS_ok (Wf := fun r => .val ((eP (eP PyData.int (eT (eP PyData.int PyData.int))) (eT (eT PyData.int))) r)) (v := (r16, r18)) (s := r6.2) (Eq.trans (letC_eq hr4) (Eq.trans (letC_eq hr6) (Eq.trans (cond_f k9) (Eq.trans (cond_t k14) (Eq.trans (letC_eq hr16) (Eq.trans (letC_eq hr18) rfl)))))))
    · have h := a27 k14
      refine ws_nil ?_
      change WS _ _ _ _
      obtain ⟨o19, h⟩ := h
      obtain ⟨r20, hr20⟩ : ∃ r : Int × Src, r = (m_law_pick r6.2 (min (3 : Int) ((most2 / (2 : Int)) - (1 : Int)))) := ⟨_, rfl⟩
      replace h := letC_mp hr20 h
      let k21 : Int := ((2 : Int) + r20.1)
      refine ws_set (i := 2) nd (ex_add ex_int (ex_callE (i := 0) C_m_law_pick (av_cons (ex_min2 ex_int (ex_sub (ex_fdiv (ex_name (i := 1)) ex_int (show 0 < (2 : Int) ∧ (2 : Int) < 1073741824 by decide)) ex_int)) av_nil) (R_m_law_pick.mk hr20 o19) (hk := le_b rfl))) ?_ (hi := lt_b rfl)
      obtain ⟨o22, h⟩ := h
      obtain ⟨r23, hr23⟩ : ∃ r : (Int × (List (Int × Int))), r = (m_pairs_apart k21) := ⟨_, rfl⟩
      replace h := letC_mp hr23 h
      obtain ⟨o24, h⟩ := h
      obtain ⟨r25, hr25⟩ : ∃ r : (List (List Int)), r = (m_pairs_twice k21) := ⟨_, rfl⟩
      replace h := letC_mp hr25 h
      exact ws_ret (ex_pair (ea := (eP PyData.int (eT (eP PyData.int PyData.int)))) (eb := (eT (eT PyData.int))) (x := r23) (y := r25) (av_cons (ex_call C_m_pairs_apart (av_cons (ex_name (i := 2)) av_nil) (R_m_pairs_apart.mk hr23 o22) (hk := le_b rfl)) (av_cons (ex_call C_m_pairs_twice (av_cons (ex_name (i := 2)) av_nil) (R_m_pairs_twice.mk hr25 o24) (hk := le_b rfl)) av_nil))) (retS_ok (Wf := fun r => .val ((eP (eP PyData.int (eT (eP PyData.int PyData.int))) (eT (eT PyData.int))) r)) (v := (r23, r25)) (s := r20.2) (Eq.trans (letC_eq hr4) (Eq.trans (letC_eq hr6) (Eq.trans (cond_f k9) (Eq.trans (cond_f k14) (Eq.trans (letC_eq hr20) (Eq.trans (letC_eq hr23) (Eq.trans (letC_eq hr25) rfl))))))))
theorem fn_m_law_told {P : Program} {w : World} {K : PySem.W.Frag} {mg : Str → Option Value} {base : Heap} {f : Addr} {fd : FuncData} (bt : NoB mg) (C_m_law_pick : Callee P w K mg base "_law_pick" 1 A__law_pick (spS R_m_law_pick)) (C_m_law_ring : Callee P w K mg base "_law_ring" 1 A__law_ring (spP R_m_law_ring)) (C_m_ring_twice : Callee P w K mg base "ring_twice" 1 A_ring_twice (spP R_m_ring_twice)) (C_m_law_whole : Callee P w K mg base "_law_whole" 1 A__law_whole (spP R_m_law_whole)) (C_m_whole_twice : Callee P w K mg base "whole_twice" 1 A_whole_twice (spP R_m_whole_twice)) (C_m_pairs_apart : Callee P w K mg base "pairs_apart" 1 A_pairs_apart (spP R_m_pairs_apart)) (C_m_pairs_twice : Callee P w K mg base "pairs_twice" 3 A_pairs_twice (spP R_m_pairs_twice)) (F : FnP K "_law_told" s__law_told f fd) : FnG P w K mg base (3 + 1) f fd A__law_told (spS R_m_law_told) :=
  ok_S F sc__law_told (fun s ds v s2 hR => by obtain ⟨most2, rfl, _, _, _⟩ := hR; rfl) fun p q s ds v s2 hR => by obtain ⟨most2, rfl, h, rfl, rfl⟩ := hR; exact ws_m_law_told bt C_m_law_pick C_m_law_ring C_m_ring_twice C_m_law_whole C_m_whole_twice C_m_pairs_apart C_m_pairs_twice p q s most2 h
/-! ### law -/
abbrev s_law : Stmt := top 38
abbrev N_law : List Str := ["script", "source", "n", "ring", "due", "i", "k", "ties", "lap", "ones", "web", "words", "a", "c", "both", "made", "word", "rows", "turn", "one", "other", "late", "m", "first", "second", "j", "b", "more"]
abbrev A_law : List Str := ["script"]
theorem sc_law : FnScope N_law A_law (defScope s_law) := ⟨rfl, rfl, rfl, by decide +kernel, rfl, by decide +kernel, by decide +kernel⟩
def m_law_l13_s (n6 : Int) (s14 : (List (List Int))) (q15 : Int) : (List (List Int)) :=
  let ones22 : (List Int) := ((rng 0 (n6 / (2 : Int))).map (fun (q18 : Int) => ((q15 + q18) % n6)))
  let due27 : (List (List Int)) := (s14 ++ [((rng 0 n6).map (fun (q24 : Int) => (b2n (mem q24 ones22))))])
  due27
def m_law_l13_o (n6 : Int) (s14 : (List (List Int))) (q15 : Int) : Prop :=
  And (RngOk (n6 / (2 : Int))) <|
  And ((∀ q18 ∈ (rng 0 (n6 / (2 : Int))), ((0 : Int) < n6 ∧ True))) <|
  let ones22 : (List Int) := ((rng 0 (n6 / (2 : Int))).map (fun (q18 : Int) => ((q15 + q18) % n6)))
  And (RngOk n6) <|
  And (s14.length < sizeLine) <|
  let due27 : (List (List Int)) := (s14 ++ [((rng 0 n6).map (fun (q24 : Int) => (b2n (mem q24 ones22))))])
  True
@[irreducible] def m_law_l13 (n6 : Int) (due10 : (List (List Int))) (xs12 : (List Int)) : (List (List Int)) :=
  List.foldl (m_law_l13_s n6) due10 xs12
theorem m_law_l13_eq (n6 : Int) (due10 : (List (List Int))) (xs12 : (List Int)) : m_law_l13 n6 due10 xs12 = List.foldl (m_law_l13_s n6) due10 xs12 := by unfold m_law_l13; rfl
def m_law_l111_s (other104 : (Int × (List (Int × Int)))) (m107 : Int) (s112 : (List (Int × Int))) (q113 : Int) : (List (Int × Int)) :=
  let ties121 : (List (Int × Int)) := (s112 ++ (other104.2.map (fun (q115 : (Int × Int)) => (((q113 * m107) + q115.1), ((q113 * m107) + q115.2)))))
  ties121
def m_law_l111_o (other104 : (Int × (List (Int × Int)))) (m107 : Int) (s112 : (List (Int × Int))) (q113 : Int) : Prop :=
  And ((∀ q115 ∈ other104.2, (MulOk q113 m107 ∧ MulOk q113 m107 ∧ True))) <|
  And (SzOk (s112.length + (other104.2.map (fun (q115 : (Int × Int)) => (((q113 * m107) + q115.1), ((q113 * m107) + q115.2)))).length)) <|
  let ties121 : (List (Int × Int)) := (s112 ++ (other104.2.map (fun (q115 : (Int × Int)) => (((q113 * m107) + q115.1), ((q113 * m107) + q115.2)))))
  True
@[irreducible] def m_law_l111 (other104 : (Int × (List (Int × Int)))) (m107 : Int) (ties108 : (List (Int × Int))) (xs110 : (List Int)) : (List (Int × Int)) :=
  List.foldl (m_law_l111_s other104 m107) ties108 xs110
theorem m_law_l111_eq (other104 : (Int × (List (Int × Int)))) (m107 : Int) (ties108 : (List (Int × Int))) (xs110 : (List Int)) : m_law_l111 other104 m107 ties108 xs110 = List.foldl (m_law_l111_s other104 m107) ties108 xs110 := by unfold m_law_l111; rfl
def m_law_l126_s (one96 : (Int × (List (Int × Int)))) (m107 : Int) (s127 : (List (Int × Int))) (q128 : Int) : (List (Int × Int)) :=
  let ties136 : (List (Int × Int)) := (s127 ++ (one96.2.map (fun (q130 : (Int × Int)) => (((q130.1 * m107) + q128), ((q130.2 * m107) + q128)))))
  ties136
def m_law_l126_o (one96 : (Int × (List (Int × Int)))) (m107 : Int) (s127 : (List (Int × Int))) (q128 : Int) : Prop :=
  And ((∀ q130 ∈ one96.2, (MulOk q130.1 m107 ∧ MulOk q130.2 m107 ∧ True))) <|
  And (SzOk (s127.length + (one96.2.map (fun (q130 : (Int × Int)) => (((q130.1 * m107) + q128), ((q130.2 * m107) + q128)))).length)) <|
  let ties136 : (List (Int × Int)) := (s127 ++ (one96.2.map (fun (q130 : (Int × Int)) => (((q130.1 * m107) + q128), ((q130.2 * m107) + q128)))))
  True
@[irreducible] def m_law_l126 (one96 : (Int × (List (Int × Int)))) (m107 : Int) (r123 : (List (Int × Int))) (xs125 : (List Int)) : (List (Int × Int)) :=
  List.foldl (m_law_l126_s one96 m107) r123 xs125
theorem m_law_l126_eq (one96 : (Int × (List (Int × Int)))) (m107 : Int) (r123 : (List (Int × Int))) (xs125 : (List Int)) : m_law_l126 one96 m107 r123 xs125 = List.foldl (m_law_l126_s one96 m107) r123 xs125 := by unfold m_law_l126; rfl
def m_law_l149_s (late105 : (List (List Int))) (s150 : (List (List Int))) (q151 : (List Int)) : (List (List Int)) :=
  let made158 : (List (List Int)) := (s150 ++ (late105.map (fun (q153 : (List Int)) => (q151 ++ q153))))
  made158
def m_law_l149_o (late105 : (List (List Int))) (s150 : (List (List Int))) (q151 : (List Int)) : Prop :=
  And ((∀ q153 ∈ late105, (SzOk (q151.length + q153.length) ∧ True))) <|
  And (SzOk (s150.length + (late105.map (fun (q153 : (List Int)) => (q151 ++ q153))).length)) <|
  let made158 : (List (List Int)) := (s150 ++ (late105.map (fun (q153 : (List Int)) => (q151 ++ q153))))
  True
@[irreducible] def m_law_l149 (late105 : (List (List Int))) (made147 : (List (List Int))) (xs148 : (List (List Int))) : (List (List Int)) :=
  List.foldl (m_law_l149_s late105) made147 xs148
theorem m_law_l149_eq (late105 : (List (List Int))) (made147 : (List (List Int))) (xs148 : (List (List Int))) : m_law_l149 late105 made147 xs148 = List.foldl (m_law_l149_s late105) made147 xs148 := by unfold m_law_l149; rfl
def m_law_l179_s (n106 : Int) (m107 : Int) (first173 : (List (List (Option Int)))) (second174 : (List (List (Option Int)))) (rows177 : (List (List (Option Int)))) (s180 : Src) (q181 : Int) : Except Bool (Src) :=
  letC ((m_law_pick s180 (n106 * m107))) fun (r185 : Int × Src) =>
  letC ((m_law_pick r185.2 (n106 * m107))) fun (r188 : Int × Src) =>
  let a189 : Int := r185.1
  let b190 : Int := r188.1
  cond (!(decide ((nth (nth rows177 a189) b190) = (some ((getO (nth (nth first173 (a189 / m107)) (b190 / m107))) + (getO (nth (nth second174 (a189 % m107)) (b190 % m107))))))))
    (
      .error false
    )
    (
      .ok r188.2
    )
def m_law_l179_o (n106 : Int) (m107 : Int) (first173 : (List (List (Option Int)))) (second174 : (List (List (Option Int)))) (rows177 : (List (List (Option Int)))) (s180 : Src) (q181 : Int) : Prop :=
  And (MulOk n106 m107) <|
  And (m_law_pick_ok s180 (n106 * m107)) <|
  letC ((m_law_pick s180 (n106 * m107))) fun (r185 : Int × Src) =>
  And (MulOk n106 m107) <|
  And (m_law_pick_ok r185.2 (n106 * m107)) <|
  letC ((m_law_pick r185.2 (n106 * m107))) fun (r188 : Int × Src) =>
  let a189 : Int := r185.1
  let b190 : Int := r188.1
  And (InB rows177 a189) <|
  And (InB (nth rows177 a189) b190) <|
  And (DivOk m107) <|
  And (InB first173 (a189 / m107)) <|
  And (DivOk m107) <|
  And (InB (nth first173 (a189 / m107)) (b190 / m107)) <|
  And (((nth (nth first173 (a189 / m107)) (b190 / m107))).isSome = true) <|
  And ((0 : Int) < m107) <|
  And (InB second174 (a189 % m107)) <|
  And ((0 : Int) < m107) <|
  And (InB (nth second174 (a189 % m107)) (b190 % m107)) <|
  And (((nth (nth second174 (a189 % m107)) (b190 % m107))).isSome = true) <|
  And ((!(decide ((nth (nth rows177 a189) b190) = (some ((getO (nth (nth first173 (a189 / m107)) (b190 / m107))) + (getO (nth (nth second174 (a189 % m107)) (b190 % m107)))))))) = true → (
      True
  )) ((!(decide ((nth (nth rows177 a189) b190) = (some ((getO (nth (nth first173 (a189 / m107)) (b190 / m107))) + (getO (nth (nth second174 (a189 % m107)) (b190 % m107)))))))) = false → (
      True
  ))
@[irreducible] def m_law_l179 (r94 : ((Int × (List (Int × Int))) × (List (List Int))) × Src) (one96 : (Int × (List (Int × Int)))) (n106 : Int) (m107 : Int) (first173 : (List (List (Option Int)))) (second174 : (List (List (Option Int)))) (rows177 : (List (List (Option Int)))) (xs178 : (List Int)) : Except Bool (Src) :=
  foldE (m_law_l179_s n106 m107 first173 second174 rows177) (cond (decide ((6 : Int) < one96.1)) r94.2 ((m_law_told r94.2 ((24 : Int) / one96.1)).2)) xs178
theorem m_law_l179_eq (r94 : ((Int × (List (Int × Int))) × (List (List Int))) × Src) (one96 : (Int × (List (Int × Int)))) (n106 : Int) (m107 : Int) (first173 : (List (List (Option Int)))) (second174 : (List (List (Option Int)))) (rows177 : (List (List (Option Int)))) (xs178 : (List Int)) : m_law_l179 r94 one96 n106 m107 first173 second174 rows177 xs178 = foldE (m_law_l179_s n106 m107 first173 second174 rows177) (cond (decide ((6 : Int) < one96.1)) r94.2 ((m_law_told r94.2 ((24 : Int) / one96.1)).2)) xs178 := by unfold m_law_l179; rfl
def m_law_l89_s  (s90 : Src × Int × (List (Int × Int)) × (List (List Int))) (q91 : Int) : Except Bool (Src × Int × (List (Int × Int)) × (List (List Int))) :=
  letC ((m_law_told s90.1 (6 : Int))) fun (r94 : ((Int × (List (Int × Int))) × (List (List Int))) × Src) =>
  let t95 : ((Int × (List (Int × Int))) × (List (List Int))) := r94.1
  let one96 : (Int × (List (Int × Int))) := t95.1
  let words97 : (List (List Int)) := t95.2
  let t103 : ((Int × (List (Int × Int))) × (List (List Int))) := (cond (decide ((6 : Int) < one96.1)) (((1 : Int), ([] : List (Int × Int))), [([] : List Int)]) ((m_law_told r94.2 ((24 : Int) / one96.1)).1))
  let other104 : (Int × (List (Int × Int))) := t103.1
  let late105 : (List (List Int)) := t103.2
  let n106 : Int := one96.1
  let m107 : Int := other104.1
  let ties108 : (List (Int × Int)) := ([] : List (Int × Int))
  let xs110 : (List Int) := (rng 0 n106)
  letC (m_law_l111 other104 m107 ties108 xs110) fun (r123 : (List (Int × Int))) =>
  let xs125 : (List Int) := (rng 0 m107)
  letC (m_law_l126 one96 m107 r123 xs125) fun (r138 : (List (Int × Int))) =>
  let both141 : (Int × (List (Int × Int))) := ((n106 * m107), (srt (eP PyData.int PyData.int) r138))
  letC ((m_web_product one96 other104)) fun (r143 : (Int × (List (Int × Int)))) =>
  cond (!(decide (((eP PyData.int (eT (eP PyData.int PyData.int))) r143).shown = ((eP PyData.int (eT (eP PyData.int PyData.int))) both141).shown)))
    (
      .error false
    )
    (
      let made147 : (List (List Int)) := ([] : List (List Int))
      let xs148 : (List (List Int)) := words97
      letC (m_law_l149 late105 made147 xs148) fun (r160 : (List (List Int))) =>
      letC ((m_product_twice words97 late105)) fun (r162 : (List (List Int))) =>
      cond ((!(decide (((eT (eT PyData.int)) r162).shown = ((eT (eT PyData.int)) r160).shown))) || (!(decide ((m_are_twice both141 r160) = true))))
        (
          .error false
        )
        (
          letC ((m_law_far one96)) fun (r170 : (List (List (Option Int)))) =>
          letC ((m_law_far other104)) fun (r172 : (List (List (Option Int)))) =>
          let first173 : (List (List (Option Int))) := r170
          let second174 : (List (List (Option Int))) := r172
          letC ((m_distances_of both141)) fun (r176 : (List (List (Option Int)))) =>
          let rows177 : (List (List (Option Int))) := r176
          let xs178 : (List Int) := (rng 0 (5 : Int))
          bindE (m_law_l179 r94 one96 n106 m107 first173 second174 rows177 xs178) fun (r208 : Src) =>
            cond ((decide ((n106 * m107) < (13 : Int))) && ((m_first_five both141)).isSome)
              (
                .error false
              )
              (
                .ok (r208, n106, r138, words97)
              )
        )
    )
def m_law_l89_o  (s90 : Src × Int × (List (Int × Int)) × (List (List Int))) (q91 : Int) : Prop :=
  And (m_law_told_ok s90.1 (6 : Int)) <|
  letC ((m_law_told s90.1 (6 : Int))) fun (r94 : ((Int × (List (Int × Int))) × (List (List Int))) × Src) =>
  let t95 : ((Int × (List (Int × Int))) × (List (List Int))) := r94.1
  let one96 : (Int × (List (Int × Int))) := t95.1
  let words97 : (List (List Int)) := t95.2
  And (((decide ((6 : Int) < one96.1)) = false → (DivOk one96.1 ∧ m_law_told_ok r94.2 ((24 : Int) / one96.1) ∧ True))) <|
  let t103 : ((Int × (List (Int × Int))) × (List (List Int))) := (cond (decide ((6 : Int) < one96.1)) (((1 : Int), ([] : List (Int × Int))), [([] : List Int)]) ((m_law_told r94.2 ((24 : Int) / one96.1)).1))
  let other104 : (Int × (List (Int × Int))) := t103.1
  let late105 : (List (List Int)) := t103.2
  let n106 : Int := one96.1
  let m107 : Int := other104.1
  let ties108 : (List (Int × Int)) := ([] : List (Int × Int))
  And (RngOk n106) <|
  let xs110 : (List Int) := (rng 0 n106)
  And (LOk (m_law_l111_s other104 m107) (m_law_l111_o other104 m107) ties108 xs110) <|
  letC (m_law_l111 other104 m107 ties108 xs110) fun (r123 : (List (Int × Int))) =>
  And (RngOk m107) <|
  let xs125 : (List Int) := (rng 0 m107)
  And (LOk (m_law_l126_s one96 m107) (m_law_l126_o one96 m107) r123 xs125) <|
  letC (m_law_l126 one96 m107 r123 xs125) fun (r138 : (List (Int × Int))) =>
  And (MulOk n106 m107) <|
  And (SrtOk (eP PyData.int PyData.int) r138) <|
  let both141 : (Int × (List (Int × Int))) := ((n106 * m107), (srt (eP PyData.int PyData.int) r138))
  And (m_web_product_ok one96 other104) <|
  letC ((m_web_product one96 other104)) fun (r143 : (Int × (List (Int × Int)))) =>
  And (ReprOk ((eP PyData.int (eT (eP PyData.int PyData.int))) r143)) <|
  And (ReprOk ((eP PyData.int (eT (eP PyData.int PyData.int))) both141)) <|
  And ((!(decide (((eP PyData.int (eT (eP PyData.int PyData.int))) r143).shown = ((eP PyData.int (eT (eP PyData.int PyData.int))) both141).shown))) = true → (
      True
  )) ((!(decide (((eP PyData.int (eT (eP PyData.int PyData.int))) r143).shown = ((eP PyData.int (eT (eP PyData.int PyData.int))) both141).shown))) = false → (
      let made147 : (List (List Int)) := ([] : List (List Int))
      let xs148 : (List (List Int)) := words97
      And (LOk (m_law_l149_s late105) (m_law_l149_o late105) made147 xs148) <|
      letC (m_law_l149 late105 made147 xs148) fun (r160 : (List (List Int))) =>
      And (m_product_twice_ok words97 late105) <|
      letC ((m_product_twice words97 late105)) fun (r162 : (List (List Int))) =>
      And (ReprOk ((eT (eT PyData.int)) r162)) <|
      And (ReprOk ((eT (eT PyData.int)) r160)) <|
      And (((!(decide (((eT (eT PyData.int)) r162).shown = ((eT (eT PyData.int)) r160).shown))) = false → (m_are_twice_ok both141 r160 ∧ True))) <|
      And (((!(decide (((eT (eT PyData.int)) r162).shown = ((eT (eT PyData.int)) r160).shown))) || (!(decide ((m_are_twice both141 r160) = true)))) = true → (
          True
      )) (((!(decide (((eT (eT PyData.int)) r162).shown = ((eT (eT PyData.int)) r160).shown))) || (!(decide ((m_are_twice both141 r160) = true)))) = false → (
          And (m_law_far_ok one96) <|
          letC ((m_law_far one96)) fun (r170 : (List (List (Option Int)))) =>
          And (m_law_far_ok other104) <|
          letC ((m_law_far other104)) fun (r172 : (List (List (Option Int)))) =>
          let first173 : (List (List (Option Int))) := r170
          let second174 : (List (List (Option Int))) := r172
          And (m_distances_of_ok both141) <|
          letC ((m_distances_of both141)) fun (r176 : (List (List (Option Int)))) =>
          let rows177 : (List (List (Option Int))) := r176
          let xs178 : (List Int) := (rng 0 (5 : Int))
          And (LOkE (m_law_l179_s n106 m107 first173 second174 rows177) (m_law_l179_o n106 m107 first173 second174 rows177) (cond (decide ((6 : Int) < one96.1)) r94.2 ((m_law_told r94.2 ((24 : Int) / one96.1)).2)) xs178) <|
          ∀ (r208 : Src), m_law_l179 r94 one96 n106 m107 first173 second174 rows177 xs178 = .ok r208 →
          (
            And (MulOk n106 m107) <|
            And (((decide ((n106 * m107) < (13 : Int))) = true → (m_first_five_ok both141 ∧ True))) <|
            And (((decide ((n106 * m107) < (13 : Int))) && ((m_first_five both141)).isSome) = true → (
                True
            )) (((decide ((n106 * m107) < (13 : Int))) && ((m_first_five both141)).isSome) = false → (
                True
            ))
          )
      ))
  ))
@[irreducible] def m_law_l89 (n6 : Int) (r62 : Int × Src) (ties68 : (List (Int × Int))) (words74 : (List (List Int))) (xs88 : (List Int)) : Except Bool (Src × Int × (List (Int × Int)) × (List (List Int))) :=
  foldE (m_law_l89_s) (r62.2, n6, ties68, words74) xs88
theorem m_law_l89_eq (n6 : Int) (r62 : Int × Src) (ties68 : (List (Int × Int))) (words74 : (List (List Int))) (xs88 : (List Int)) : m_law_l89 n6 r62 ties68 words74 xs88 = foldE (m_law_l89_s) (r62.2, n6, ties68, words74) xs88 := by unfold m_law_l89; rfl
def m_law (script1 : (List Int)) : Bool :=
  letC (m_law_open_cells script1) fun (r3 : Src) =>
  letC ((m_law_pick r3 (18 : Int))) fun (r5 : Int × Src) =>
  let n6 : Int := ((3 : Int) + r5.1)
  letC ((m_ring_twice n6)) fun (r8 : (List (List Int))) =>
  let ring9 : (List (List Int)) := r8
  let due10 : (List (List Int)) := ([] : List (List Int))
  let xs12 : (List Int) := (rng 0 n6)
  letC (m_law_l13 n6 due10 xs12) fun (r29 : (List (List Int))) =>
  cond ((!(decide (((eT (eT PyData.int)) ring9).shown = ((eT (eT PyData.int)) r29).shown))) || (!(m_law_is_twice (m_law_far (m_law_ring n6)) ring9)))
    (
      false
    )
    (
      letC ((m_whole_twice n6)) fun (r39 : (List (List Int))) =>
      cond (!(decide (((eT (eT PyData.int)) r39).shown = ((eT (eT PyData.int)) ((rng 0 n6).map (fun (q42 : Int) => ((rng 0 n6).map (fun (q45 : Int) => (b2n (decide (q45 = q42)))))))).shown)))
        (
          false
        )
        (
          letC ((m_law_whole n6)) fun (r51 : (Int × (List (Int × Int)))) =>
          letC ((m_whole_twice n6)) fun (r53 : (List (List Int))) =>
          letC ((m_are_twice r51 r53)) fun (r55 : Bool) =>
          cond ((!(decide (r55 = true))) || (!(decide ((m_are_twice (m_law_ring n6) ring9) = true))))
            (
              false
            )
            (
              letC ((m_law_pick r5.2 (3 : Int))) fun (r62 : Int × Src) =>
              let k63 : Int := ((2 : Int) + r62.1)
              letC ((m_law_whole ((2 : Int) * k63))) fun (r65 : (Int × (List (Int × Int)))) =>
              let ties68 : (List (Int × Int)) := ((r65.2.filter (fun (q66 : (Int × Int)) => (!(decide ((q66.1 / (2 : Int)) = (q66.2 / (2 : Int))))))).map (fun (q66 : (Int × Int)) => (q66.1, q66.2)))
              letC ((m_pairs_apart k63)) fun (r70 : (Int × (List (Int × Int)))) =>
              letC ((m_pairs_twice k63)) fun (r72 : (List (List Int))) =>
              let web73 : (Int × (List (Int × Int))) := r70
              let words74 : (List (List Int)) := r72
              cond ((!(decide (((eP PyData.int (eT (eP PyData.int PyData.int))) web73).shown = ((eP PyData.int (eT (eP PyData.int PyData.int))) (((2 : Int) * k63), ties68)).shown))) || ((!(decide ((words74.length : Int) = ((2 : Int) * k63)))) || (!(decide ((m_are_twice web73 words74) = true)))))
                (
                  false
                )
                (
                  letC ((m_law_far web73)) fun (r84 : (List (List (Option Int)))) =>
                  letC ((m_law_is_twice r84 words74)) fun (r86 : Bool) =>
                  cond (!r86)
                    (
                      false
                    )
                    (
                      let xs88 : (List Int) := (rng 0 (2 : Int))
                      thenE (m_law_l89 n6 r62 ties68 words74 xs88) fun (r223 : Src × Int × (List (Int × Int)) × (List (List Int))) =>
                        letC ((m_ring_twice (5 : Int))) fun (r226 : (List (List Int))) =>
                        ((decide ((nth r226 (0 : Int)) = [(1 : Int), (1 : Int), (0 : Int), (0 : Int), (0 : Int)])) && (decide ((m_whole_twice (1 : Int)) = [[(1 : Int)]])))
                    )
                )
            )
        )
    )
def m_law_ok (script1 : (List Int)) : Prop :=
  And (m_law_open_cells_ok script1) <|
  letC (m_law_open_cells script1) fun (r3 : Src) =>
  And (m_law_pick_ok r3 (18 : Int)) <|
  letC ((m_law_pick r3 (18 : Int))) fun (r5 : Int × Src) =>
  let n6 : Int := ((3 : Int) + r5.1)
  And (m_ring_twice_ok n6) <|
  letC ((m_ring_twice n6)) fun (r8 : (List (List Int))) =>
  let ring9 : (List (List Int)) := r8
  let due10 : (List (List Int)) := ([] : List (List Int))
  And (RngOk n6) <|
  let xs12 : (List Int) := (rng 0 n6)
  And (LOk (m_law_l13_s n6) (m_law_l13_o n6) due10 xs12) <|
  letC (m_law_l13 n6 due10 xs12) fun (r29 : (List (List Int))) =>
  And (ReprOk ((eT (eT PyData.int)) ring9)) <|
  And (ReprOk ((eT (eT PyData.int)) r29)) <|
  And (((!(decide (((eT (eT PyData.int)) ring9).shown = ((eT (eT PyData.int)) r29).shown))) = false → (m_law_ring_ok n6 ∧ m_law_far_ok (m_law_ring n6) ∧ m_law_is_twice_ok (m_law_far (m_law_ring n6)) ring9 ∧ True))) <|
  And (((!(decide (((eT (eT PyData.int)) ring9).shown = ((eT (eT PyData.int)) r29).shown))) || (!(m_law_is_twice (m_law_far (m_law_ring n6)) ring9))) = true → (
      True
  )) (((!(decide (((eT (eT PyData.int)) ring9).shown = ((eT (eT PyData.int)) r29).shown))) || (!(m_law_is_twice (m_law_far (m_law_ring n6)) ring9))) = false → (
      And (m_whole_twice_ok n6) <|
      letC ((m_whole_twice n6)) fun (r39 : (List (List Int))) =>
      And (ReprOk ((eT (eT PyData.int)) r39)) <|
      And (RngOk n6) <|
      And ((∀ q42 ∈ (rng 0 n6), (RngOk n6 ∧ True))) <|
      And (ReprOk ((eT (eT PyData.int)) ((rng 0 n6).map (fun (q42 : Int) => ((rng 0 n6).map (fun (q45 : Int) => (b2n (decide (q45 = q42))))))))) <|
      And ((!(decide (((eT (eT PyData.int)) r39).shown = ((eT (eT PyData.int)) ((rng 0 n6).map (fun (q42 : Int) => ((rng 0 n6).map (fun (q45 : Int) => (b2n (decide (q45 = q42)))))))).shown))) = true → (
          True
      )) ((!(decide (((eT (eT PyData.int)) r39).shown = ((eT (eT PyData.int)) ((rng 0 n6).map (fun (q42 : Int) => ((rng 0 n6).map (fun (q45 : Int) => (b2n (decide (q45 = q42)))))))).shown))) = false → (
          And (m_law_whole_ok n6) <|
          letC ((m_law_whole n6)) fun (r51 : (Int × (List (Int × Int)))) =>
          And (m_whole_twice_ok n6) <|
          letC ((m_whole_twice n6)) fun (r53 : (List (List Int))) =>
          And (m_are_twice_ok r51 r53) <|
          letC ((m_are_twice r51 r53)) fun (r55 : Bool) =>
          And (((!(decide (r55 = true))) = false → (m_law_ring_ok n6 ∧ m_are_twice_ok (m_law_ring n6) ring9 ∧ True))) <|
          And (((!(decide (r55 = true))) || (!(decide ((m_are_twice (m_law_ring n6) ring9) = true)))) = true → (
              True
          )) (((!(decide (r55 = true))) || (!(decide ((m_are_twice (m_law_ring n6) ring9) = true)))) = false → (
              And (m_law_pick_ok r5.2 (3 : Int)) <|
              letC ((m_law_pick r5.2 (3 : Int))) fun (r62 : Int × Src) =>
              let k63 : Int := ((2 : Int) + r62.1)
              And (m_law_whole_ok ((2 : Int) * k63)) <|
              letC ((m_law_whole ((2 : Int) * k63))) fun (r65 : (Int × (List (Int × Int)))) =>
              let ties68 : (List (Int × Int)) := ((r65.2.filter (fun (q66 : (Int × Int)) => (!(decide ((q66.1 / (2 : Int)) = (q66.2 / (2 : Int))))))).map (fun (q66 : (Int × Int)) => (q66.1, q66.2)))
              And (m_pairs_apart_ok k63) <|
              letC ((m_pairs_apart k63)) fun (r70 : (Int × (List (Int × Int)))) =>
              And (m_pairs_twice_ok k63) <|
              letC ((m_pairs_twice k63)) fun (r72 : (List (List Int))) =>
              let web73 : (Int × (List (Int × Int))) := r70
              let words74 : (List (List Int)) := r72
              And (ReprOk ((eP PyData.int (eT (eP PyData.int PyData.int))) web73)) <|
              And (ReprOk ((eP PyData.int (eT (eP PyData.int PyData.int))) (((2 : Int) * k63), ties68))) <|
              And (((!(decide (((eP PyData.int (eT (eP PyData.int PyData.int))) web73).shown = ((eP PyData.int (eT (eP PyData.int PyData.int))) (((2 : Int) * k63), ties68)).shown))) = false → (((!(decide ((words74.length : Int) = ((2 : Int) * k63)))) = false → (m_are_twice_ok web73 words74 ∧ True)) ∧ True))) <|
              And (((!(decide (((eP PyData.int (eT (eP PyData.int PyData.int))) web73).shown = ((eP PyData.int (eT (eP PyData.int PyData.int))) (((2 : Int) * k63), ties68)).shown))) || ((!(decide ((words74.length : Int) = ((2 : Int) * k63)))) || (!(decide ((m_are_twice web73 words74) = true))))) = true → (
                  True
              )) (((!(decide (((eP PyData.int (eT (eP PyData.int PyData.int))) web73).shown = ((eP PyData.int (eT (eP PyData.int PyData.int))) (((2 : Int) * k63), ties68)).shown))) || ((!(decide ((words74.length : Int) = ((2 : Int) * k63)))) || (!(decide ((m_are_twice web73 words74) = true))))) = false → (
                  And (m_law_far_ok web73) <|
                  letC ((m_law_far web73)) fun (r84 : (List (List (Option Int)))) =>
                  And (m_law_is_twice_ok r84 words74) <|
                  letC ((m_law_is_twice r84 words74)) fun (r86 : Bool) =>
                  And ((!r86) = true → (
                      True
                  )) ((!r86) = false → (
                      let xs88 : (List Int) := (rng 0 (2 : Int))
                      And (LOkE (m_law_l89_s) (m_law_l89_o) (r62.2, n6, ties68, words74) xs88) <|
                      ∀ (r223 : Src × Int × (List (Int × Int)) × (List (List Int))), m_law_l89 n6 r62 ties68 words74 xs88 = .ok r223 →
                      (
                        And (m_ring_twice_ok (5 : Int)) <|
                        letC ((m_ring_twice (5 : Int))) fun (r226 : (List (List Int))) =>
                        And (InB r226 (0 : Int)) <|
                        And (((decide ((nth r226 (0 : Int)) = [(1 : Int), (1 : Int), (0 : Int), (0 : Int), (0 : Int)])) = true → (m_whole_twice_ok (1 : Int) ∧ True))) <|
                        True
                      )
                  ))
              ))
          ))
      ))
  ))
theorem ws_m_law {P : Program} {w : World} {K : PySem.W.Frag} {mg : Str → Option Value} {base : Heap} (bt : NoB mg) (C_m_law_open_cells : Callee P w K mg base "_law_open_cells" 1 A__law_open_cells (spO K m_law_open_cells)) (C_m_law_pick : Callee P w K mg base "_law_pick" 1 A__law_pick (spS R_m_law_pick)) (C_m_ring_twice : Callee P w K mg base "ring_twice" 1 A_ring_twice (spP R_m_ring_twice)) (C_m_law_is_twice : Callee P w K mg base "_law_is_twice" 2 A__law_is_twice (spP R_m_law_is_twice)) (C_m_law_far : Callee P w K mg base "_law_far" 1 A__law_far (spP R_m_law_far)) (C_m_law_ring : Callee P w K mg base "_law_ring" 1 A__law_ring (spP R_m_law_ring)) (C_m_whole_twice : Callee P w K mg base "whole_twice" 1 A_whole_twice (spP R_m_whole_twice)) (C_m_are_twice : Callee P w K mg base "are_twice" 4 A_are_twice (spP R_m_are_twice)) (C_m_law_whole : Callee P w K mg base "_law_whole" 1 A__law_whole (spP R_m_law_whole)) (C_m_pairs_apart : Callee P w K mg base "pairs_apart" 1 A_pairs_apart (spP R_m_pairs_apart)) (C_m_pairs_twice : Callee P w K mg base "pairs_twice" 3 A_pairs_twice (spP R_m_pairs_twice)) (C_m_law_told : Callee P w K mg base "_law_told" 4 A__law_told (spS R_m_law_told)) (C_m_web_product : Callee P w K mg base "web_product" 3 A_web_product (spP R_m_web_product)) (C_m_product_twice : Callee P w K mg base "product_twice" 1 A_product_twice (spP R_m_product_twice)) (C_m_distances_of : Callee P w K mg base "distances_of" 2 A_distances_of (spP R_m_distances_of)) (C_m_first_five : Callee P w K mg base "first_five" 3 A_first_five (spP R_m_first_five)) (script1 : (List Int)) (h : m_law_ok script1) : WS (dC P w K mg base N_law (defScope s_law) 4) (defBody s_law) [.pr (scrP K script1), .un, .un, .un, .un, .un, .un, .un, .un, .un, .un, .un, .un, .un, .un, .un, .un, .un, .un, .un, .un, .un, .un, .un, .un, .un, .un, .un] (Ret ((fun r => .val (PyData.bool r)) (m_law script1))) := by
  haveI : Bt (dC P w K mg base N_law (defScope s_law) 4) := ⟨bt⟩
  haveI : ∀ sc, Bt ((dC P w K mg base N_law (defScope s_law) 4).blk sc) := fun sc => ⟨bt⟩
  haveI : ∀ sc sc2, Bt (((dC P w K mg base N_law (defScope s_law) 4).blk sc).blk sc2) := fun sc sc2 => ⟨bt⟩
  haveI : ∀ sc sc2 sc3, Bt ((((dC P w K mg base N_law (defScope s_law) 4).blk sc).blk sc2).blk sc3) := fun sc sc2 sc3 => ⟨bt⟩
  have nd := sc_law.nd
  unfold m_law_ok at h
  obtain ⟨o2, h⟩ := h
  obtain ⟨r3, hr3⟩ : ∃ r : Src, r = m_law_open_cells script1 := ⟨_, rfl⟩
  replace h := letC_mp hr3 h
  refine ws_open (i := 1) nd C_m_law_open_cells (ex_nameP (i := 0)) (fun p q => ?_) (lt_b rfl) (le_b rfl) (f := m_law_open_cells)
  rw [← hr3]
  obtain ⟨o4, h⟩ := h
  obtain ⟨r5, hr5⟩ : ∃ r : Int × Src, r = (m_law_pick r3 (18 : Int)) := ⟨_, rfl⟩
  replace h := letC_mp hr5 h
  let n6 : Int := ((3 : Int) + r5.1)
  refine ws_set (i := 2) nd (ex_add ex_int (ex_callE (i := 1) C_m_law_pick (av_cons ex_int av_nil) (R_m_law_pick.mk hr5 o4) (hk := le_b rfl))) ?_ (hi := lt_b rfl)
  obtain ⟨o7, h⟩ := h
  obtain ⟨r8, hr8⟩ : ∃ r : (List (List Int)), r = (m_ring_twice n6) := ⟨_, rfl⟩
  replace h := letC_mp hr8 h
  let ring9 : (List (List Int)) := r8
  refine ws_set (i := 3) nd (ex_call C_m_ring_twice (av_cons (ex_name (i := 2)) av_nil) (R_m_ring_twice.mk hr8 o7) (hk := le_b rfl)) ?_ (hi := lt_b rfl)
  let due10 : (List (List Int)) := ([] : List (List Int))
  refine ws_set (i := 4) nd (ex_lstE (en := (eT PyData.int)) (xs := ([] : List (List Int))) av_nil) ?_ (hi := lt_b rfl)
  obtain ⟨o11, h⟩ := h
  let xs12 : (List Int) := (rng 0 n6)
  obtain ⟨o28, h⟩ := h
  obtain ⟨r29, hr29⟩ : ∃ r : (List (List Int)), r = m_law_l13 n6 due10 xs12 := ⟨_, rfl⟩
  replace h := letC_mp hr29 h
  refine ws_forFR (vs := [5]) (xs := xs12) (en := PyData.int) (fun (r : (List (List Int))) => [.pr (scrP K script1), .src p q r5.2, .val (PyData.int n6), .val ((eT (eT PyData.int)) ring9), .lst ((r).map (eT PyData.int)), .un, .un, .un, .un, .un, .un, .un, .un, .un, .un, .un, .un, .un, .un, .un, .un, .un, .un, .un, .un, .un, .un, .un]) (m_law_l13_s n6) (m_law_l13_o n6) due10 (r29) (Eq.trans hr29 (m_law_l13_eq n6 due10 xs12)) (itx_range1 (ex_name (i := 2)) o11) (Wk.imp (Wk.k (Wk.k (Wk.k (Wk.k (Wk.k (Wk.k (Wk.k (Wk.k (Wk.k (Wk.k (Wk.k (Wk.k (Wk.k (Wk.k (Wk.k (Wk.k (Wk.k (Wk.k (Wk.k (Wk.k (Wk.k (Wk.k (Wk.k (Wk.k (Wk.k (Wk.k (Wk.k (Wk.k Wk.nil))))))))))))))))))))))))))))) o28 (fun s14 q15 m16 h => ⟨_, (gx_name (i := 5) nd (hi := lt_b rfl)), ?_⟩) ?_
  · obtain ⟨o17, o21, h⟩ := h
    let ones22 : (List Int) := ((rng 0 (n6 / (2 : Int))).map (fun (q18 : Int) => ((q15 + q18) % n6)))
    refine ws_set (i := 9) nd (EX.fzE (LcX.ex (lcx_M (own := [(("j" : Str), 25)]) (S3 := fun (q18 : Int) => [.pr (scrP K script1), .src p q r5.2, .val (PyData.int n6), .val ((eT (eT PyData.int)) ring9), .lst ((s14).map (eT PyData.int)), .val (PyData.int q15), .un, .un, .un, .un, .un, .un, .un, .un, .un, .un, .un, .un, .un, .un, .un, .un, .un, .un, .un, .val (PyData.int q18), .un, .un]) (f := fun (q18 : Int) => ((q15 + q18) % n6)) (en := PyData.int) (em := PyData.int) (Sw := [.pr (scrP K script1), .src p q r5.2, .val (PyData.int n6), .val ((eT (eT PyData.int)) ring9), .lst ((s14).map (eT PyData.int)), .val (PyData.int q15), .un, .un, .un, .un, .un, .un, .un, .un, .un, .un, .un, .un, .un, .un, .un, .un, .un, .un, .un, .un, .un, .un]) nd (BlkOk.of (by kernel_rfl)) (itx_range1 (ex_fdiv (ex_name (i := 2)) ex_int (show 0 < (2 : Int) ∧ (2 : Int) < 1073741824 by decide)) o17) (fun q18 m19 => (gx_name (i := 25) nd (hi := lt_b rfl))) (fun q18 m19 => by obtain ⟨o20, -⟩ := o21 q18 m19; exact (ex_mod (ex_intI (ex_add (ex_name (i := 5)) (ex_name (i := 25)))) (ex_name (i := 2)) o20))))) ?_ (hi := lt_b rfl) (hs := by intro env he; exact sw_cell he (by rfl))
    obtain ⟨o23, o26, h⟩ := h
    refine ws_expr (ex_append (i := 4) (xs := s14) (x := ((rng 0 n6).map (fun (q24 : Int) => (b2n (mem q24 ones22))))) (en := (eT PyData.int)) (ex_tupL (EX.fzE (LcX.ex (lcx_M (own := [(("k" : Str), 6)]) (S3 := fun (q24 : Int) => [.pr (scrP K script1), .src p q r5.2, .val (PyData.int n6), .val ((eT (eT PyData.int)) ring9), .lst ((s14).map (eT PyData.int)), .val (PyData.int q15), .val (PyData.int q24), .un, .un, .val ((eL PyData.int) ones22), .un, .un, .un, .un, .un, .un, .un, .un, .un, .un, .un, .un, .un, .un, .un, .un, .un, .un]) (f := fun (q24 : Int) => (b2n (mem q24 ones22))) (en := PyData.int) (em := PyData.int) (Sw := [.pr (scrP K script1), .src p q r5.2, .val (PyData.int n6), .val ((eT (eT PyData.int)) ring9), .lst ((s14).map (eT PyData.int)), .val (PyData.int q15), .un, .un, .un, .val ((eL PyData.int) ones22), .un, .un, .un, .un, .un, .un, .un, .un, .un, .un, .un, .un, .un, .un, .un, .un, .un, .un]) nd (BlkOk.of (by kernel_rfl)) (itx_range1 (ex_name (i := 2)) o23) (fun q24 m25 => (gx_name (i := 6) nd (hi := lt_b rfl))) (fun q24 m25 => (ex_intB (ex_inL (e := PyData.int) (ex_name (i := 6)) (ex_name (i := 9))))))))) (hz := o26)) ?_
    let due27 : (List (List Int)) := (s14 ++ [((rng 0 n6).map (fun (q24 : Int) => (b2n (mem q24 ones22))))])
    exact ws_nil (nxt_ok (Sf := (fun (r : (List (List Int))) => [.pr (scrP K script1), .src p q r5.2, .val (PyData.int n6), .val ((eT (eT PyData.int)) ring9), .lst ((r).map (eT PyData.int)), .un, .un, .un, .un, .un, .un, .un, .un, .un, .un, .un, .un, .un, .un, .un, .un, .un, .un, .un, .un, .un, .un, .un])) (v := due27) rfl (Wk.k (Wk.k (Wk.k (Wk.k (Wk.k (Wk.d (Wk.k (Wk.k (Wk.k (Wk.d (Wk.k (Wk.k (Wk.k (Wk.k (Wk.k (Wk.k (Wk.k (Wk.k (Wk.k (Wk.k (Wk.k (Wk.k (Wk.k (Wk.k (Wk.k (Wk.k (Wk.k (Wk.k Wk.nil)))))))))))))))))))))))))))))
  obtain ⟨o30, o31, o36, h⟩ := h
  obtain ⟨a239, a240⟩ := h
  refine ws_if (tx_bor (tx_of (wx_or (tx_ne (e := PyData.str) (ex_reprE (en := (eT (eT PyData.int))) (ex_name (i := 3)) o30) (ex_reprE (en := (eT (eT PyData.int))) (ex_tupL (ex_name (i := 4))) o31)) (fun k35 => by obtain ⟨o32, o33, o34, -⟩ := o36 k35; exact (wx_or1 (tx_not (tx_val (ex_call C_m_law_is_twice (av_cons (ex_call C_m_law_far (av_cons (ex_call C_m_law_ring (av_cons (ex_name (i := 2)) av_nil) (R_m_law_ring.mk rfl o32) (hk := le_b rfl)) av_nil) (R_m_law_far.mk rfl o33) (hk := le_b rfl)) (av_cons (ex_name (i := 3)) av_nil)) (R_m_law_is_twice.mk rfl o34) (hk := le_b rfl)))))) (fun _ => Imp.refl _)))) (fun k37 => ?_) (fun k37 => ?_)
  · have h := a239 k37
    exact ws_ret ex_bool (ret_ok (Wf := fun r => .val (PyData.bool r)) (v := false) (Eq.trans (letC_eq hr3) (Eq.trans (letC_eq hr5) (Eq.trans (letC_eq hr8) (Eq.trans (letC_eq hr29) (Eq.trans (cond_t k37) rfl))))))
  · have h := a240 k37
    refine ws_nil ?_
    change WS _ _ _ _
    obtain ⟨o38, h⟩ := h
    obtain ⟨r39, hr39⟩ : ∃ r : (List (List Int)), r = (m_whole_twice n6) := ⟨_, rfl⟩
    replace h := letC_mp hr39 h
    obtain ⟨o40, o41, o47, o48, h⟩ := h
    obtain ⟨a237, a238⟩ := h
    refine ws_if (tx_ne (e := PyData.str) (ex_reprE (en := (eT (eT PyData.int))) (ex_call C_m_whole_twice (av_cons (ex_name (i := 2)) av_nil) (R_m_whole_twice.mk hr39 o38) (hk := le_b rfl)) o40) (ex_reprE (en := (eT (eT PyData.int))) (ex_tupL (EX.fzE (LcX.ex (lcx_M (own := [(("i" : Str), 5)]) (S3 := fun (q42 : Int) => [.pr (scrP K script1), .src p q r5.2, .val (PyData.int n6), .val ((eT (eT PyData.int)) ring9), .lst ((r29).map (eT PyData.int)), .val (PyData.int q42), .un, .un, .un, .un, .un, .un, .un, .un, .un, .un, .un, .un, .un, .un, .un, .un, .un, .un, .un, .un, .un, .un]) (f := fun (q42 : Int) => ((rng 0 n6).map (fun (q45 : Int) => (b2n (decide (q45 = q42)))))) (en := PyData.int) (em := (eT PyData.int)) (Sw := [.pr (scrP K script1), .src p q r5.2, .val (PyData.int n6), .val ((eT (eT PyData.int)) ring9), .lst ((r29).map (eT PyData.int)), .un, .un, .un, .un, .un, .un, .un, .un, .un, .un, .un, .un, .un, .un, .un, .un, .un, .un, .un, .un, .un, .un, .un]) nd (BlkOk.of (by kernel_rfl)) (itx_range1 (ex_name (i := 2)) o41) (fun q42 m43 => (gx_name (i := 5) nd (hi := lt_b rfl))) (fun q42 m43 => by obtain ⟨o44, -⟩ := o47 q42 m43; exact (ex_tupL (EX.fzE (LcX.ex (lcx_M (own := [(("k" : Str), 6)]) (S3 := fun (q45 : Int) => [.pr (scrP K script1), .src p q r5.2, .val (PyData.int n6), .val ((eT (eT PyData.int)) ring9), .lst ((r29).map (eT PyData.int)), .val (PyData.int q42), .val (PyData.int q45), .un, .un, .un, .un, .un, .un, .un, .un, .un, .un, .un, .un, .un, .un, .un, .un, .un, .un, .un, .un, .un]) (f := fun (q45 : Int) => (b2n (decide (q45 = q42)))) (en := PyData.int) (em := PyData.int) (Sw := [.pr (scrP K script1), .src p q r5.2, .val (PyData.int n6), .val ((eT (eT PyData.int)) ring9), .lst ((r29).map (eT PyData.int)), .val (PyData.int q42), .un, .un, .un, .un, .un, .un, .un, .un, .un, .un, .un, .un, .un, .un, .un, .un, .un, .un, .un, .un, .un, .un]) nd (BlkOk.of (by kernel_rfl)) (itx_range1 (ex_name (i := 2)) o44) (fun q45 m46 => (gx_name (i := 6) nd (hi := lt_b rfl))) (fun q45 m46 => (ex_intB (ex_eq (e := PyData.int) (ex_name (i := 6)) (ex_name (i := 5)))))))))))))) o48)) (fun k49 => ?_) (fun k49 => ?_)
    · have h := a237 k49
      exact ws_ret ex_bool (ret_ok (Wf := fun r => .val (PyData.bool r)) (v := false) (Eq.trans (letC_eq hr3) (Eq.trans (letC_eq hr5) (Eq.trans (letC_eq hr8) (Eq.trans (letC_eq hr29) (Eq.trans (cond_f k37) (Eq.trans (letC_eq hr39) (Eq.trans (cond_t k49) rfl))))))))
    · have h := a238 k49
      refine ws_nil ?_
      change WS _ _ _ _
      obtain ⟨o50, h⟩ := h
      obtain ⟨r51, hr51⟩ : ∃ r : (Int × (List (Int × Int))), r = (m_law_whole n6) := ⟨_, rfl⟩
      replace h := letC_mp hr51 h
      obtain ⟨o52, h⟩ := h
      obtain ⟨r53, hr53⟩ : ∃ r : (List (List Int)), r = (m_whole_twice n6) := ⟨_, rfl⟩
      replace h := letC_mp hr53 h
      obtain ⟨o54, h⟩ := h
      obtain ⟨r55, hr55⟩ : ∃ r : Bool, r = (m_are_twice r51 r53) := ⟨_, rfl⟩
      replace h := letC_mp hr55 h
      obtain ⟨o59, h⟩ := h
      obtain ⟨a235, a236⟩ := h
      refine ws_if (tx_of (wx_or (tx_isnotB (ex_call C_m_are_twice (av_cons (ex_call C_m_law_whole (av_cons (ex_name (i := 2)) av_nil) (R_m_law_whole.mk hr51 o50) (hk := le_b rfl)) (av_cons (ex_call C_m_whole_twice (av_cons (ex_name (i := 2)) av_nil) (R_m_whole_twice.mk hr53 o52) (hk := le_b rfl)) av_nil)) (R_m_are_twice.mk hr55 o54) (hk := le_b rfl)) ex_bool) (fun k58 => by obtain ⟨o56, o57, -⟩ := o59 k58; exact (wx_or1 (tx_isnotB (ex_call C_m_are_twice (av_cons (ex_call C_m_law_ring (av_cons (ex_name (i := 2)) av_nil) (R_m_law_ring.mk rfl o56) (hk := le_b rfl)) (av_cons (ex_name (i := 3)) av_nil)) (R_m_are_twice.mk rfl o57) (hk := le_b rfl)) ex_bool))) (fun _ => Imp.refl _))) (fun k60 => ?_) (fun k60 => ?_)
      · have h := a235 k60
        exact ws_ret ex_bool (ret_ok (Wf := fun r => .val (PyData.bool r)) (v := false) (Eq.trans (letC_eq hr3) (Eq.trans (letC_eq hr5) (Eq.trans (letC_eq hr8) (Eq.trans (letC_eq hr29) (Eq.trans (cond_f k37) (Eq.trans (letC_eq hr39) (Eq.trans (cond_f k49) (Eq.trans (letC_eq hr51) (Eq.trans (letC_eq hr53) (Eq.trans (letC_eq hr55) (Eq.trans (cond_t k60) rfl))))))))))))
      · have h := a236 k60
        refine ws_nil ?_
        change WS _ _ _ _
        obtain ⟨o61, h⟩ := h
        obtain ⟨r62, hr62⟩ : ∃ r : Int × Src, r = (m_law_pick r5.2 (3 : Int)) := ⟨_, rfl⟩
        replace h := letC_mp hr62 h
        let k63 : Int := ((2 : Int) + r62.1)
        refine ws_set (i := 6) nd (ex_add ex_int (ex_callE (i := 1) C_m_law_pick (av_cons ex_int av_nil) (R_m_law_pick.mk hr62 o61) (hk := le_b rfl))) ?_ (hi := lt_b rfl)
        obtain ⟨o64, h⟩ := h
        obtain ⟨r65, hr65⟩ : ∃ r : (Int × (List (Int × Int))), r = (m_law_whole ((2 : Int) * k63)) := ⟨_, rfl⟩
        replace h := letC_mp hr65 h
        let ties68 : (List (Int × Int)) := ((r65.2.filter (fun (q66 : (Int × Int)) => (!(decide ((q66.1 / (2 : Int)) = (q66.2 / (2 : Int))))))).map (fun (q66 : (Int × Int)) => (q66.1, q66.2)))
        refine ws_step (LcX.w1 (j := 7) (lcx_P (own := [(("a" : Str), 12), (("b" : Str), 26)]) (S3 := fun (q66 : (Int × Int)) => [.pr (scrP K script1), .src p q r62.2, .val (PyData.int n6), .val ((eT (eT PyData.int)) ring9), .lst ((r29).map (eT PyData.int)), .un, .val (PyData.int k63), .un, .un, .un, .un, .un, .val (PyData.int q66.1), .un, .un, .un, .un, .un, .un, .un, .un, .un, .un, .un, .un, .un, .val (PyData.int q66.2), .un]) (p := fun (q66 : (Int × Int)) => (!(decide ((q66.1 / (2 : Int)) = (q66.2 / (2 : Int)))))) (f := fun (q66 : (Int × Int)) => (q66.1, q66.2)) (en := (eP PyData.int PyData.int)) (em := (eP PyData.int PyData.int)) (Sw := [.pr (scrP K script1), .src p q r62.2, .val (PyData.int n6), .val ((eT (eT PyData.int)) ring9), .lst ((r29).map (eT PyData.int)), .un, .val (PyData.int k63), .un, .un, .un, .un, .un, .un, .un, .un, .un, .un, .un, .un, .un, .un, .un, .un, .un, .un, .un, .un, .un]) nd (BlkOk.of (by kernel_rfl)) (itx_tupE (ex_ixD (ex_call C_m_law_whole (av_cons (ex_mul ex_int (ex_name (i := 6)) (MulOk.litL (by decide))) av_nil) (R_m_law_whole.mk hr65 o64) (hk := le_b rfl)) ex_int rfl)) (fun q66 m67 => ⟨(gx_tup (ds := [PyData.int q66.1, PyData.int q66.2]) (gsx_cons (gx_name (i := 12) nd (hi := lt_b rfl)) (gsx_cons (gx_name (i := 26) nd (hi := lt_b rfl)) gsx_nil)) rfl), (tx_ne (e := PyData.int) (ex_fdiv (ex_name (i := 12)) ex_int (show 0 < (2 : Int) ∧ (2 : Int) < 1073741824 by decide)) (ex_fdiv (ex_name (i := 26)) ex_int (show 0 < (2 : Int) ∧ (2 : Int) < 1073741824 by decide))), (fun _ => (ex_pair (ea := PyData.int) (eb := PyData.int) (x := q66.1) (y := q66.2) (av_cons (ex_name (i := 12)) (av_cons (ex_name (i := 26)) av_nil))))⟩)) (lt_b rfl)) ?_
        refine WS.pre (S1 := [.pr (scrP K script1), .src p q r62.2, .val (PyData.int n6), .val ((eT (eT PyData.int)) ring9), .lst ((r29).map (eT PyData.int)), .un, .val (PyData.int k63), .val ((eL (eP PyData.int PyData.int)) ties68), .un, .un, .un, .un, .un, .un, .un, .un, .un, .un, .un, .un, .un, .un, .un, .un, .un, .un, .un, .un]) (Wk.imp (Wk.k (Wk.k (Wk.k (Wk.k (Wk.k (Wk.k (Wk.k (Wk.f (Wk.k (Wk.k (Wk.k (Wk.k (Wk.k (Wk.k (Wk.k (Wk.k (Wk.k (Wk.k (Wk.k (Wk.k (Wk.k (Wk.k (Wk.k (Wk.k (Wk.k (Wk.k (Wk.k (Wk.k Wk.nil))))))))))))))))))))))))))))) ?_
        obtain ⟨o69, h⟩ := h
        obtain ⟨r70, hr70⟩ : ∃ r : (Int × (List (Int × Int))), r = (m_pairs_apart k63) := ⟨_, rfl⟩
        replace h := letC_mp hr70 h
        obtain ⟨o71, h⟩ := h
        obtain ⟨r72, hr72⟩ : ∃ r : (List (List Int)), r = (m_pairs_twice k63) := ⟨_, rfl⟩
        replace h := letC_mp hr72 h
        refine ws_step (w1_par (i := 10) (j := 11) nd (ax_cons (ex_call C_m_pairs_apart (av_cons (ex_name (i := 6)) av_nil) (R_m_pairs_apart.mk hr70 o69) (hk := le_b rfl)) (ax_cons (ex_call C_m_pairs_twice (av_cons (ex_name (i := 6)) av_nil) (R_m_pairs_twice.mk hr72 o71) (hk := le_b rfl)) ax_nil)) (l1 := lt_b rfl) (l2 := lt_b rfl) (hw := by intro env he; exact sw_eq he (by kernel_rfl))) ?_
        let web73 : (Int × (List (Int × Int))) := r70
        let words74 : (List (List Int)) := r72
        obtain ⟨o75, o76, o81, h⟩ := h
        obtain ⟨a233, a234⟩ := h
        refine ws_if (tx_of (wx_or (tx_ne (e := PyData.str) (ex_reprE (en := (eP PyData.int (eT (eP PyData.int PyData.int)))) (ex_name (i := 10)) o75) (ex_reprE (en := (eP PyData.int (eT (eP PyData.int PyData.int)))) (ex_pair (ea := PyData.int) (eb := (eT (eP PyData.int PyData.int))) (x := ((2 : Int) * k63)) (y := ties68) (av_cons (ex_mul ex_int (ex_name (i := 6)) (MulOk.litL (by decide))) (av_cons (ex_tupL (ex_name (i := 7))) av_nil))) o76)) (fun k80 => by obtain ⟨o79, -⟩ := o81 k80; exact (wx_or (tx_ne (e := PyData.int) (ex_lenT (ex_name (i := 11))) (ex_mul ex_int (ex_name (i := 6)) (MulOk.litL (by decide)))) (fun k78 => by obtain ⟨o77, -⟩ := o79 k78; exact (wx_or1 (tx_isnotB (ex_call C_m_are_twice (av_cons (ex_name (i := 10)) (av_cons (ex_name (i := 11)) av_nil)) (R_m_are_twice.mk rfl o77) (hk := le_b rfl)) ex_bool))) (fun _ => Imp.refl _))) (fun _ => Imp.refl _))) (fun k82 => ?_) (fun k82 => ?_)
        · have h := a233 k82
          exact ws_ret ex_bool (ret_ok (Wf := fun r => .val (PyData.bool r)) (v := false) (Eq.trans (letC_eq hr3) (Eq.trans (letC_eq hr5) (Eq.trans (letC_eq hr8) (Eq.trans (letC_eq hr29) (Eq.trans (cond_f k37) (Eq.trans (letC_eq hr39) (Eq.trans (cond_f k49) (Eq.trans (letC_eq hr51) (Eq.trans (letC_eq hr53) (Eq.trans (letC_eq hr55) (Eq.trans (cond_f k60) (Eq.trans (letC_eq hr62) (Eq.trans (letC_eq hr65) (Eq.trans (letC_eq hr70) (Eq.trans (letC_eq hr72) (Eq.trans (cond_t k82) rfl)))))))))))))))))
        · have h := a234 k82
          refine ws_nil ?_
          change WS _ _ _ _
          obtain ⟨o83, h⟩ := h
          obtain ⟨r84, hr84⟩ : ∃ r : (List (List (Option Int))), r = (m_law_far web73) := ⟨_, rfl⟩
          replace h := letC_mp hr84 h
          obtain ⟨o85, h⟩ := h
          obtain ⟨r86, hr86⟩ : ∃ r : Bool, r = (m_law_is_twice r84 words74) := ⟨_, rfl⟩
          replace h := letC_mp hr86 h
          obtain ⟨a231, a232⟩ := h
          refine ws_if (tx_not (tx_val (ex_call C_m_law_is_twice (av_cons (ex_call C_m_law_far (av_cons (ex_name (i := 10)) av_nil) (R_m_law_far.mk hr84 o83) (hk := le_b rfl)) (av_cons (ex_name (i := 11)) av_nil)) (R_m_law_is_twice.mk hr86 o85) (hk := le_b rfl)))) (fun k87 => ?_) (fun k87 => ?_)
          · have h := a231 k87
            exact ws_ret ex_bool (ret_ok (Wf := fun r => .val (PyData.bool r)) (v := false) (Eq.trans (letC_eq hr3) (Eq.trans (letC_eq hr5) (Eq.trans (letC_eq hr8) (Eq.trans (letC_eq hr29) (Eq.trans (cond_f k37) (Eq.trans (letC_eq hr39) (Eq.trans (cond_f k49) (Eq.trans (letC_eq hr51) (Eq.trans (letC_eq hr53) (Eq.trans (letC_eq hr55) (Eq.trans (cond_f k60) (Eq.trans (letC_eq hr62) (Eq.trans (letC_eq hr65) (Eq.trans (letC_eq hr70) (Eq.trans (letC_eq hr72) (Eq.trans (cond_f k82) (Eq.trans (letC_eq hr84) (Eq.trans (letC_eq hr86) (Eq.trans (cond_t k87) rfl))))))))))))))))))))
          · have h := a232 k87
            refine ws_nil ?_
            change WS _ _ _ _
            let xs88 : (List Int) := (rng 0 (2 : Int))
            obtain ⟨o221, h⟩ := h
            refine ws_forER (vs := [8]) (xs := xs88) (en := PyData.int) (fun (r : Src × Int × (List (Int × Int)) × (List (List Int))) => [.pr (scrP K script1), .src p q r.1, .val (PyData.int r.2.1), .val ((eT (eT PyData.int)) ring9), .lst ((r29).map (eT PyData.int)), .un, .val (PyData.int k63), .val ((eL (eP PyData.int PyData.int)) r.2.2.1), .un, .un, .val ((eP PyData.int (eT (eP PyData.int PyData.int))) web73), .val ((eT (eT PyData.int)) r.2.2.2), .un, .un, .un, .un, .un, .un, .un, .un, .un, .un, .un, .un, .un, .un, .un, .un]) (m_law_l89_s) (m_law_l89_o) (r62.2, n6, ties68, words74) (fun r => Ret ((fun r => .val (PyData.bool r)) r)) (m_law_l89 n6 r62 ties68 words74 xs88) (m_law_l89_eq n6 r62 ties68 words74 xs88) (itx_range1 ex_int (show -8388608 ≤ (2 : Int) ∧ (2 : Int) ≤ 8388608 by decide)) (Wk.imp (Wk.k (Wk.k (Wk.k (Wk.k (Wk.k (Wk.k (Wk.k (Wk.k (Wk.k (Wk.k (Wk.k (Wk.k (Wk.k (Wk.k (Wk.k (Wk.k (Wk.k (Wk.k (Wk.k (Wk.k (Wk.k (Wk.k (Wk.k (Wk.k (Wk.k (Wk.k (Wk.k (Wk.k Wk.nil))))))))))))))))))))))))))))) o221 (fun s90 q91 m92 h => ⟨_, (gx_name (i := 8) nd (hi := lt_b rfl)), ?_⟩) ?_ ?_
            · obtain ⟨o93, h⟩ := h
              obtain ⟨r94, hr94⟩ : ∃ r : ((Int × (List (Int × Int))) × (List (List Int))) × Src, r = (m_law_told s90.1 (6 : Int)) := ⟨_, rfl⟩
              replace h := letC_mp hr94 h
              let t95 : ((Int × (List (Int × Int))) × (List (List Int))) := r94.1
              refine ws_step (w1_asg (vs := [19, 11]) (ex_callE (i := 1) C_m_law_told (av_cons ex_int av_nil) (R_m_law_told.mk hr94 o93) (hk := le_b rfl)) (gx_tup (ds := [(eP PyData.int (eT (eP PyData.int PyData.int))) t95.1, (eT (eT PyData.int)) t95.2]) (gsx_cons (gx_name (i := 19) nd (hi := lt_b rfl)) (gsx_cons (gx_name (i := 11) nd (hi := lt_b rfl)) gsx_nil)) rfl)) ?_
              let one96 : (Int × (List (Int × Int))) := t95.1
              let words97 : (List (List Int)) := t95.2
              obtain ⟨o102, h⟩ := h
              let t103 : ((Int × (List (Int × Int))) × (List (List Int))) := (cond (decide ((6 : Int) < one96.1)) (((1 : Int), ([] : List (Int × Int))), [([] : List Int)]) ((m_law_told r94.2 ((24 : Int) / one96.1)).1))
              refine ws_step (w1_asg (vs := [20, 21]) (ex_ifS (en := (eP (eP PyData.int (eT (eP PyData.int PyData.int))) (eT (eT PyData.int)))) (F := (fun (z : Src) => [.pr (scrP K script1), .src p q z, .val (PyData.int s90.2.1), .val ((eT (eT PyData.int)) ring9), .lst ((r29).map (eT PyData.int)), .un, .val (PyData.int k63), .val ((eL (eP PyData.int PyData.int)) s90.2.2.1), .val (PyData.int q91), .un, .val ((eP PyData.int (eT (eP PyData.int PyData.int))) web73), .val ((eT (eT PyData.int)) words97), .un, .un, .un, .un, .un, .un, .un, .val ((eP PyData.int (eT (eP PyData.int PyData.int))) one96), .un, .un, .un, .un, .un, .un, .un, .un])) (x := r94.2) (y := (m_law_told r94.2 ((24 : Int) / one96.1)).2) (tx_gt (ex_ixD (ex_name (i := 19)) ex_int rfl) ex_int) (fun _ => (ex_pair (ea := (eP PyData.int (eT (eP PyData.int PyData.int)))) (eb := (eT (eT PyData.int))) (x := ((1 : Int), ([] : List (Int × Int)))) (y := [([] : List Int)]) (av_cons (ex_pair (ea := PyData.int) (eb := (eT (eP PyData.int PyData.int))) (x := (1 : Int)) (y := ([] : List (Int × Int))) (av_cons ex_int (av_cons (ex_tupE (en := (eP PyData.int PyData.int)) (xs := ([] : List (Int × Int))) av_nil) av_nil))) (av_cons (ex_tupE (en := (eT PyData.int)) (xs := [([] : List Int)]) (av_cons (ex_tupE (en := PyData.int) (xs := ([] : List Int)) av_nil) av_nil)) av_nil)))) (fun k101 => by obtain ⟨o98, o99, -⟩ := o102 k101; exact (ex_callE (i := 1) C_m_law_told (av_cons (ex_fdiv ex_int (ex_ixD (ex_name (i := 19)) ex_int rfl) o98) av_nil) (R_m_law_told.mk rfl o99) (hk := le_b rfl)))) (gx_tup (ds := [(eP PyData.int (eT (eP PyData.int PyData.int))) t103.1, (eT (eT PyData.int)) t103.2]) (gsx_cons (gx_name (i := 20) nd (hi := lt_b rfl)) (gsx_cons (gx_name (i := 21) nd (hi := lt_b rfl)) gsx_nil)) rfl)) ?_
              let other104 : (Int × (List (Int × Int))) := t103.1
              let late105 : (List (List Int)) := t103.2
              refine ws_step (w1_asgT (vs := [2, 22]) (ax_cons (ex_ixD (ex_name (i := 19)) ex_int rfl) (ax_cons (ex_ixD (ex_name (i := 20)) ex_int rfl) ax_nil)) (gsx_cons (gx_name (i := 2) nd (hi := lt_b rfl)) (gsx_cons (gx_name (i := 22) nd (hi := lt_b rfl)) gsx_nil)) rfl (hl := le_b rfl) (hw := by intro env he; exact sw_eq he (by kernel_rfl))) ?_
              let n106 : Int := one96.1
              let m107 : Int := other104.1
              let ties108 : (List (Int × Int)) := ([] : List (Int × Int))
              refine ws_set (i := 7) nd (EX.fzE (ex_lstE (en := (eP PyData.int PyData.int)) (xs := ([] : List (Int × Int))) av_nil)) ?_ (hi := lt_b rfl)
              obtain ⟨o109, h⟩ := h
              let xs110 : (List Int) := (rng 0 n106)
              obtain ⟨o122, h⟩ := h
              obtain ⟨r123, hr123⟩ : ∃ r : (List (Int × Int)), r = m_law_l111 other104 m107 ties108 xs110 := ⟨_, rfl⟩
              replace h := letC_mp hr123 h
              refine ws_forFR (vs := [12]) (xs := xs110) (en := PyData.int) (fun (r : (List (Int × Int))) => [.pr (scrP K script1), .src p q (cond (decide ((6 : Int) < one96.1)) r94.2 ((m_law_told r94.2 ((24 : Int) / one96.1)).2)), .val (PyData.int n106), .val ((eT (eT PyData.int)) ring9), .lst ((r29).map (eT PyData.int)), .un, .val (PyData.int k63), .val ((eL (eP PyData.int PyData.int)) r), .val (PyData.int q91), .un, .val ((eP PyData.int (eT (eP PyData.int PyData.int))) web73), .val ((eT (eT PyData.int)) words97), .un, .un, .un, .un, .un, .un, .un, .val ((eP PyData.int (eT (eP PyData.int PyData.int))) one96), .val ((eP PyData.int (eT (eP PyData.int PyData.int))) other104), .val ((eT (eT PyData.int)) late105), .val (PyData.int m107), .un, .un, .un, .un, .un]) (m_law_l111_s other104 m107) (m_law_l111_o other104 m107) ties108 (r123) (Eq.trans hr123 (m_law_l111_eq other104 m107 ties108 xs110)) (itx_range1 (ex_name (i := 2)) o109) (Wk.imp (Wk.k (Wk.k (Wk.k (Wk.k (Wk.k (Wk.k (Wk.k (Wk.k (Wk.k (Wk.k (Wk.k (Wk.k (Wk.k (Wk.k (Wk.k (Wk.k (Wk.k (Wk.k (Wk.k (Wk.k (Wk.k (Wk.k (Wk.k (Wk.k (Wk.k (Wk.k (Wk.k (Wk.k Wk.nil))))))))))))))))))))))))))))) o122 (fun s112 q113 m114 h => ⟨_, (gx_name (i := 12) nd (hi := lt_b rfl)), ?_⟩) ?_
              · obtain ⟨o119, o120, h⟩ := h
                let ties121 : (List (Int × Int)) := (s112 ++ (other104.2.map (fun (q115 : (Int × Int)) => (((q113 * m107) + q115.1), ((q113 * m107) + q115.2)))))
                refine ws_set (i := 7) nd (EX.fzE (ex_catL (ex_name (i := 7)) (EX.fzE (LcX.ex (lcx_M (own := [(("b" : Str), 26), (("c" : Str), 13)]) (S3 := fun (q115 : (Int × Int)) => [.pr (scrP K script1), .src p q (cond (decide ((6 : Int) < one96.1)) r94.2 ((m_law_told r94.2 ((24 : Int) / one96.1)).2)), .val (PyData.int n106), .val ((eT (eT PyData.int)) ring9), .lst ((r29).map (eT PyData.int)), .un, .val (PyData.int k63), .val ((eL (eP PyData.int PyData.int)) s112), .val (PyData.int q91), .un, .val ((eP PyData.int (eT (eP PyData.int PyData.int))) web73), .val ((eT (eT PyData.int)) words97), .val (PyData.int q113), .val (PyData.int q115.2), .un, .un, .un, .un, .un, .val ((eP PyData.int (eT (eP PyData.int PyData.int))) one96), .val ((eP PyData.int (eT (eP PyData.int PyData.int))) other104), .val ((eT (eT PyData.int)) late105), .val (PyData.int m107), .un, .un, .un, .val (PyData.int q115.1), .un]) (f := fun (q115 : (Int × Int)) => (((q113 * m107) + q115.1), ((q113 * m107) + q115.2))) (en := (eP PyData.int PyData.int)) (em := (eP PyData.int PyData.int)) (Sw := [.pr (scrP K script1), .src p q (cond (decide ((6 : Int) < one96.1)) r94.2 ((m_law_told r94.2 ((24 : Int) / one96.1)).2)), .val (PyData.int n106), .val ((eT (eT PyData.int)) ring9), .lst ((r29).map (eT PyData.int)), .un, .val (PyData.int k63), .val ((eL (eP PyData.int PyData.int)) s112), .val (PyData.int q91), .un, .val ((eP PyData.int (eT (eP PyData.int PyData.int))) web73), .val ((eT (eT PyData.int)) words97), .val (PyData.int q113), .un, .un, .un, .un, .un, .un, .val ((eP PyData.int (eT (eP PyData.int PyData.int))) one96), .val ((eP PyData.int (eT (eP PyData.int PyData.int))) other104), .val ((eT (eT PyData.int)) late105), .val (PyData.int m107), .un, .un, .un, .un, .un]) nd (BlkOk.of (by kernel_rfl)) (itx_tupE (ex_ixD (ex_name (i := 20)) ex_int rfl)) (fun q115 m116 => (gx_tup (ds := [PyData.int q115.1, PyData.int q115.2]) (gsx_cons (gx_name (i := 26) nd (hi := lt_b rfl)) (gsx_cons (gx_name (i := 13) nd (hi := lt_b rfl)) gsx_nil)) rfl)) (fun q115 m116 => by obtain ⟨o117, o118, -⟩ := o119 q115 m116; exact (ex_pair (ea := PyData.int) (eb := PyData.int) (x := ((q113 * m107) + q115.1)) (y := ((q113 * m107) + q115.2)) (av_cons (ex_add (ex_mul (ex_name (i := 12)) (ex_name (i := 22)) o117) (ex_name (i := 26))) (av_cons (ex_add (ex_mul (ex_name (i := 12)) (ex_name (i := 22)) o118) (ex_name (i := 13))) av_nil))))))) o120)) ?_ (hi := lt_b rfl)
                exact ws_nil (nxt_ok (Sf := (fun (r : (List (Int × Int))) => [.pr (scrP K script1), .src p q (cond (decide ((6 : Int) < one96.1)) r94.2 ((m_law_told r94.2 ((24 : Int) / one96.1)).2)), .val (PyData.int n106), .val ((eT (eT PyData.int)) ring9), .lst ((r29).map (eT PyData.int)), .un, .val (PyData.int k63), .val ((eL (eP PyData.int PyData.int)) r), .val (PyData.int q91), .un, .val ((eP PyData.int (eT (eP PyData.int PyData.int))) web73), .val ((eT (eT PyData.int)) words97), .un, .un, .un, .un, .un, .un, .un, .val ((eP PyData.int (eT (eP PyData.int PyData.int))) one96), .val ((eP PyData.int (eT (eP PyData.int PyData.int))) other104), .val ((eT (eT PyData.int)) late105), .val (PyData.int m107), .un, .un, .un, .un, .un])) (v := ties121) rfl (Wk.k (Wk.k (Wk.k (Wk.k (Wk.k (Wk.k (Wk.k (Wk.k (Wk.k (Wk.k (Wk.k (Wk.k (Wk.d (Wk.k (Wk.k (Wk.k (Wk.k (Wk.k (Wk.k (Wk.k (Wk.k (Wk.k (Wk.k (Wk.k (Wk.k (Wk.k (Wk.k (Wk.k Wk.nil)))))))))))))))))))))))))))))
              obtain ⟨o124, h⟩ := h
              let xs125 : (List Int) := (rng 0 m107)
              obtain ⟨o137, h⟩ := h
              obtain ⟨r138, hr138⟩ : ∃ r : (List (Int × Int)), r = m_law_l126 one96 m107 r123 xs125 := ⟨_, rfl⟩
              replace h := letC_mp hr138 h
              refine ws_forFR (vs := [13]) (xs := xs125) (en := PyData.int) (fun (r : (List (Int × Int))) => [.pr (scrP K script1), .src p q (cond (decide ((6 : Int) < one96.1)) r94.2 ((m_law_told r94.2 ((24 : Int) / one96.1)).2)), .val (PyData.int n106), .val ((eT (eT PyData.int)) ring9), .lst ((r29).map (eT PyData.int)), .un, .val (PyData.int k63), .val ((eL (eP PyData.int PyData.int)) r), .val (PyData.int q91), .un, .val ((eP PyData.int (eT (eP PyData.int PyData.int))) web73), .val ((eT (eT PyData.int)) words97), .un, .un, .un, .un, .un, .un, .un, .val ((eP PyData.int (eT (eP PyData.int PyData.int))) one96), .val ((eP PyData.int (eT (eP PyData.int PyData.int))) other104), .val ((eT (eT PyData.int)) late105), .val (PyData.int m107), .un, .un, .un, .un, .un]) (m_law_l126_s one96 m107) (m_law_l126_o one96 m107) r123 (r138) (Eq.trans hr138 (m_law_l126_eq one96 m107 r123 xs125)) (itx_range1 (ex_name (i := 22)) o124) (Wk.imp (Wk.k (Wk.k (Wk.k (Wk.k (Wk.k (Wk.k (Wk.k (Wk.k (Wk.k (Wk.k (Wk.k (Wk.k (Wk.k (Wk.k (Wk.k (Wk.k (Wk.k (Wk.k (Wk.k (Wk.k (Wk.k (Wk.k (Wk.k (Wk.k (Wk.k (Wk.k (Wk.k (Wk.k Wk.nil))))))))))))))))))))))))))))) o137 (fun s127 q128 m129 h => ⟨_, (gx_name (i := 13) nd (hi := lt_b rfl)), ?_⟩) ?_
              · obtain ⟨o134, o135, h⟩ := h
                let ties136 : (List (Int × Int)) := (s127 ++ (one96.2.map (fun (q130 : (Int × Int)) => (((q130.1 * m107) + q128), ((q130.2 * m107) + q128)))))
                refine ws_set (i := 7) nd (EX.fzE (ex_catL (ex_name (i := 7)) (EX.fzE (LcX.ex (lcx_M (own := [(("a" : Str), 12), (("b" : Str), 26)]) (S3 := fun (q130 : (Int × Int)) => [.pr (scrP K script1), .src p q (cond (decide ((6 : Int) < one96.1)) r94.2 ((m_law_told r94.2 ((24 : Int) / one96.1)).2)), .val (PyData.int n106), .val ((eT (eT PyData.int)) ring9), .lst ((r29).map (eT PyData.int)), .un, .val (PyData.int k63), .val ((eL (eP PyData.int PyData.int)) s127), .val (PyData.int q91), .un, .val ((eP PyData.int (eT (eP PyData.int PyData.int))) web73), .val ((eT (eT PyData.int)) words97), .val (PyData.int q130.1), .val (PyData.int q128), .un, .un, .un, .un, .un, .val ((eP PyData.int (eT (eP PyData.int PyData.int))) one96), .val ((eP PyData.int (eT (eP PyData.int PyData.int))) other104), .val ((eT (eT PyData.int)) late105), .val (PyData.int m107), .un, .un, .un, .val (PyData.int q130.2), .un]) (f := fun (q130 : (Int × Int)) => (((q130.1 * m107) + q128), ((q130.2 * m107) + q128))) (en := (eP PyData.int PyData.int)) (em := (eP PyData.int PyData.int)) (Sw := [.pr (scrP K script1), .src p q (cond (decide ((6 : Int) < one96.1)) r94.2 ((m_law_told r94.2 ((24 : Int) / one96.1)).2)), .val (PyData.int n106), .val ((eT (eT PyData.int)) ring9), .lst ((r29).map (eT PyData.int)), .un, .val (PyData.int k63), .val ((eL (eP PyData.int PyData.int)) s127), .val (PyData.int q91), .un, .val ((eP PyData.int (eT (eP PyData.int PyData.int))) web73), .val ((eT (eT PyData.int)) words97), .un, .val (PyData.int q128), .un, .un, .un, .un, .un, .val ((eP PyData.int (eT (eP PyData.int PyData.int))) one96), .val ((eP PyData.int (eT (eP PyData.int PyData.int))) other104), .val ((eT (eT PyData.int)) late105), .val (PyData.int m107), .un, .un, .un, .un, .un]) nd (BlkOk.of (by kernel_rfl)) (itx_tupE (ex_ixD (ex_name (i := 19)) ex_int rfl)) (fun q130 m131 => (gx_tup (ds := [PyData.int q130.1, PyData.int q130.2]) (gsx_cons (gx_name (i := 12) nd (hi := lt_b rfl)) (gsx_cons (gx_name (i := 26) nd (hi := lt_b rfl)) gsx_nil)) rfl)) (fun q130 m131 => by obtain ⟨o132, o133, -⟩ := o134 q130 m131; exact (ex_pair (ea := PyData.int) (eb := PyData.int) (x := ((q130.1 * m107) + q128)) (y := ((q130.2 * m107) + q128)) (av_cons (ex_add (ex_mul (ex_name (i := 12)) (ex_name (i := 22)) o132) (ex_name (i := 13))) (av_cons (ex_add (ex_mul (ex_name (i := 26)) (ex_name (i := 22)) o133) (ex_name (i := 13))) av_nil))))))) o135)) ?_ (hi := lt_b rfl)
                exact ws_nil (nxt_ok (Sf := (fun (r : (List (Int × Int))) => [.pr (scrP K script1), .src p q (cond (decide ((6 : Int) < one96.1)) r94.2 ((m_law_told r94.2 ((24 : Int) / one96.1)).2)), .val (PyData.int n106), .val ((eT (eT PyData.int)) ring9), .lst ((r29).map (eT PyData.int)), .un, .val (PyData.int k63), .val ((eL (eP PyData.int PyData.int)) r), .val (PyData.int q91), .un, .val ((eP PyData.int (eT (eP PyData.int PyData.int))) web73), .val ((eT (eT PyData.int)) words97), .un, .un, .un, .un, .un, .un, .un, .val ((eP PyData.int (eT (eP PyData.int PyData.int))) one96), .val ((eP PyData.int (eT (eP PyData.int PyData.int))) other104), .val ((eT (eT PyData.int)) late105), .val (PyData.int m107), .un, .un, .un, .un, .un])) (v := ties136) rfl (Wk.k (Wk.k (Wk.k (Wk.k (Wk.k (Wk.k (Wk.k (Wk.k (Wk.k (Wk.k (Wk.k (Wk.k (Wk.k (Wk.d (Wk.k (Wk.k (Wk.k (Wk.k (Wk.k (Wk.k (Wk.k (Wk.k (Wk.k (Wk.k (Wk.k (Wk.k (Wk.k (Wk.k Wk.nil)))))))))))))))))))))))))))))
              obtain ⟨o139, o140, h⟩ := h
              let both141 : (Int × (List (Int × Int))) := ((n106 * m107), (srt (eP PyData.int PyData.int) r138))
              refine ws_set (i := 14) nd (ex_pair (ea := PyData.int) (eb := (eT (eP PyData.int PyData.int))) (x := (n106 * m107)) (y := (srt (eP PyData.int PyData.int) r138)) (av_cons (ex_mul (ex_name (i := 2)) (ex_name (i := 22)) o139) (av_cons (ex_tupL (EX.fzE (ex_sorted (ex_name (i := 7)) (.inr rfl) (SrtOk.ok o140)))) av_nil))) ?_ (hi := lt_b rfl)
              obtain ⟨o142, h⟩ := h
              obtain ⟨r143, hr143⟩ : ∃ r : (Int × (List (Int × Int))), r = (m_web_product one96 other104) := ⟨_, rfl⟩
              replace h := letC_mp hr143 h
              obtain ⟨o144, o145, h⟩ := h
              obtain ⟨a219, a220⟩ := h
              refine ws_if (tx_ne (e := PyData.str) (ex_reprE (en := (eP PyData.int (eT (eP PyData.int PyData.int)))) (ex_call C_m_web_product (av_cons (ex_name (i := 19)) (av_cons (ex_name (i := 20)) av_nil)) (R_m_web_product.mk hr143 o142) (hk := le_b rfl)) o144) (ex_reprE (en := (eP PyData.int (eT (eP PyData.int PyData.int)))) (ex_name (i := 14)) o145)) (fun k146 => ?_) (fun k146 => ?_)
              · have h := a219 k146
                exact ws_ret ex_bool (retE_ok (Sf := (fun (r : Src × Int × (List (Int × Int)) × (List (List Int))) => [.pr (scrP K script1), .src p q r.1, .val (PyData.int r.2.1), .val ((eT (eT PyData.int)) ring9), .lst ((r29).map (eT PyData.int)), .un, .val (PyData.int k63), .val ((eL (eP PyData.int PyData.int)) r.2.2.1), .un, .un, .val ((eP PyData.int (eT (eP PyData.int PyData.int))) web73), .val ((eT (eT PyData.int)) r.2.2.2), .un, .un, .un, .un, .un, .un, .un, .un, .un, .un, .un, .un, .un, .un, .un, .un])) (Wf := fun r => .val (PyData.bool r)) (v := false) (Eq.trans (letC_eq hr94) (Eq.trans (letC_eq hr123) (Eq.trans (letC_eq hr138) (Eq.trans (letC_eq hr143) (Eq.trans (cond_t k146) rfl))))))
              · have h := a220 k146
                refine ws_nil ?_
                change WS _ _ _ _
                let made147 : (List (List Int)) := ([] : List (List Int))
                refine ws_set (i := 15) nd (EX.fzE (ex_lstE (en := (eT PyData.int)) (xs := ([] : List (List Int))) av_nil)) ?_ (hi := lt_b rfl)
                let xs148 : (List (List Int)) := words97
                obtain ⟨o159, h⟩ := h
                obtain ⟨r160, hr160⟩ : ∃ r : (List (List Int)), r = m_law_l149 late105 made147 xs148 := ⟨_, rfl⟩
                replace h := letC_mp hr160 h
                refine ws_forFR (vs := [16]) (xs := xs148) (en := (eT PyData.int)) (fun (r : (List (List Int))) => [.pr (scrP K script1), .src p q (cond (decide ((6 : Int) < one96.1)) r94.2 ((m_law_told r94.2 ((24 : Int) / one96.1)).2)), .val (PyData.int n106), .val ((eT (eT PyData.int)) ring9), .lst ((r29).map (eT PyData.int)), .un, .val (PyData.int k63), .val ((eL (eP PyData.int PyData.int)) r138), .val (PyData.int q91), .un, .val ((eP PyData.int (eT (eP PyData.int PyData.int))) web73), .val ((eT (eT PyData.int)) words97), .un, .un, .val ((eP PyData.int (eT (eP PyData.int PyData.int))) both141), .val ((eL (eT PyData.int)) r), .un, .un, .un, .val ((eP PyData.int (eT (eP PyData.int PyData.int))) one96), .val ((eP PyData.int (eT (eP PyData.int PyData.int))) other104), .val ((eT (eT PyData.int)) late105), .val (PyData.int m107), .un, .un, .un, .un, .un]) (m_law_l149_s late105) (m_law_l149_o late105) made147 (r160) (Eq.trans hr160 (m_law_l149_eq late105 made147 xs148)) (itx_tupE (ex_name (i := 11))) (Wk.imp (Wk.k (Wk.k (Wk.k (Wk.k (Wk.k (Wk.k (Wk.k (Wk.k (Wk.k (Wk.k (Wk.k (Wk.k (Wk.k (Wk.k (Wk.k (Wk.k (Wk.k (Wk.k (Wk.k (Wk.k (Wk.k (Wk.k (Wk.k (Wk.k (Wk.k (Wk.k (Wk.k (Wk.k Wk.nil))))))))))))))))))))))))))))) o159 (fun s150 q151 m152 h => ⟨_, (gx_name (i := 16) nd (hi := lt_b rfl)), ?_⟩) ?_
                · obtain ⟨o156, o157, h⟩ := h
                  let made158 : (List (List Int)) := (s150 ++ (late105.map (fun (q153 : (List Int)) => (q151 ++ q153))))
                  refine ws_set (i := 15) nd (EX.fzE (ex_catL (ex_name (i := 15)) (EX.fzE (LcX.ex (lcx_M (own := [(("more" : Str), 27)]) (S3 := fun (q153 : (List Int)) => [.pr (scrP K script1), .src p q (cond (decide ((6 : Int) < one96.1)) r94.2 ((m_law_told r94.2 ((24 : Int) / one96.1)).2)), .val (PyData.int n106), .val ((eT (eT PyData.int)) ring9), .lst ((r29).map (eT PyData.int)), .un, .val (PyData.int k63), .val ((eL (eP PyData.int PyData.int)) r138), .val (PyData.int q91), .un, .val ((eP PyData.int (eT (eP PyData.int PyData.int))) web73), .val ((eT (eT PyData.int)) words97), .un, .un, .val ((eP PyData.int (eT (eP PyData.int PyData.int))) both141), .val ((eL (eT PyData.int)) s150), .val ((eT PyData.int) q151), .un, .un, .val ((eP PyData.int (eT (eP PyData.int PyData.int))) one96), .val ((eP PyData.int (eT (eP PyData.int PyData.int))) other104), .val ((eT (eT PyData.int)) late105), .val (PyData.int m107), .un, .un, .un, .un, .val ((eT PyData.int) q153)]) (f := fun (q153 : (List Int)) => (q151 ++ q153)) (en := (eT PyData.int)) (em := (eT PyData.int)) (Sw := [.pr (scrP K script1), .src p q (cond (decide ((6 : Int) < one96.1)) r94.2 ((m_law_told r94.2 ((24 : Int) / one96.1)).2)), .val (PyData.int n106), .val ((eT (eT PyData.int)) ring9), .lst ((r29).map (eT PyData.int)), .un, .val (PyData.int k63), .val ((eL (eP PyData.int PyData.int)) r138), .val (PyData.int q91), .un, .val ((eP PyData.int (eT (eP PyData.int PyData.int))) web73), .val ((eT (eT PyData.int)) words97), .un, .un, .val ((eP PyData.int (eT (eP PyData.int PyData.int))) both141), .val ((eL (eT PyData.int)) s150), .val ((eT PyData.int) q151), .un, .un, .val ((eP PyData.int (eT (eP PyData.int PyData.int))) one96), .val ((eP PyData.int (eT (eP PyData.int PyData.int))) other104), .val ((eT (eT PyData.int)) late105), .val (PyData.int m107), .un, .un, .un, .un, .un]) nd (BlkOk.of (by kernel_rfl)) (itx_tupE (ex_name (i := 21))) (fun q153 m154 => (gx_name (i := 27) nd (hi := lt_b rfl))) (fun q153 m154 => by obtain ⟨o155, -⟩ := o156 q153 m154; exact (ex_catT (ex_name (i := 16)) (ex_name (i := 27)) o155))))) o157)) ?_ (hi := lt_b rfl)
                  exact ws_nil (nxt_ok (Sf := (fun (r : (List (List Int))) => [.pr (scrP K script1), .src p q (cond (decide ((6 : Int) < one96.1)) r94.2 ((m_law_told r94.2 ((24 : Int) / one96.1)).2)), .val (PyData.int n106), .val ((eT (eT PyData.int)) ring9), .lst ((r29).map (eT PyData.int)), .un, .val (PyData.int k63), .val ((eL (eP PyData.int PyData.int)) r138), .val (PyData.int q91), .un, .val ((eP PyData.int (eT (eP PyData.int PyData.int))) web73), .val ((eT (eT PyData.int)) words97), .un, .un, .val ((eP PyData.int (eT (eP PyData.int PyData.int))) both141), .val ((eL (eT PyData.int)) r), .un, .un, .un, .val ((eP PyData.int (eT (eP PyData.int PyData.int))) one96), .val ((eP PyData.int (eT (eP PyData.int PyData.int))) other104), .val ((eT (eT PyData.int)) late105), .val (PyData.int m107), .un, .un, .un, .un, .un])) (v := made158) rfl (Wk.k (Wk.k (Wk.k (Wk.k (Wk.k (Wk.k (Wk.k (Wk.k (Wk.k (Wk.k (Wk.k (Wk.k (Wk.k (Wk.k (Wk.k (Wk.k (Wk.d (Wk.k (Wk.k (Wk.k (Wk.k (Wk.k (Wk.k (Wk.k (Wk.k (Wk.k (Wk.k (Wk.k Wk.nil)))))))))))))))))))))))))))))
                obtain ⟨o161, h⟩ := h
                obtain ⟨r162, hr162⟩ : ∃ r : (List (List Int)), r = (m_product_twice words97 late105) := ⟨_, rfl⟩
                replace h := letC_mp hr162 h
                obtain ⟨o163, o164, o167, h⟩ := h
                obtain ⟨a217, a218⟩ := h
                refine ws_if (tx_of (wx_or (tx_ne (e := PyData.str) (ex_reprE (en := (eT (eT PyData.int))) (ex_call C_m_product_twice (av_cons (ex_name (i := 11)) (av_cons (ex_name (i := 21)) av_nil)) (R_m_product_twice.mk hr162 o161) (hk := le_b rfl)) o163) (ex_reprE (en := (eT (eT PyData.int))) (ex_tupL (ex_name (i := 15))) o164)) (fun k166 => by obtain ⟨o165, -⟩ := o167 k166; exact (wx_or1 (tx_isnotB (ex_call C_m_are_twice (av_cons (ex_name (i := 14)) (av_cons (ex_tupL (ex_name (i := 15))) av_nil)) (R_m_are_twice.mk rfl o165) (hk := le_b rfl)) ex_bool))) (fun _ => Imp.refl _))) (fun k168 => ?_) (fun k168 => ?_)
                · have h := a217 k168
                  exact ws_ret ex_bool (retE_ok (Sf := (fun (r : Src × Int × (List (Int × Int)) × (List (List Int))) => [.pr (scrP K script1), .src p q r.1, .val (PyData.int r.2.1), .val ((eT (eT PyData.int)) ring9), .lst ((r29).map (eT PyData.int)), .un, .val (PyData.int k63), .val ((eL (eP PyData.int PyData.int)) r.2.2.1), .un, .un, .val ((eP PyData.int (eT (eP PyData.int PyData.int))) web73), .val ((eT (eT PyData.int)) r.2.2.2), .un, .un, .un, .un, .un, .un, .un, .un, .un, .un, .un, .un, .un, .un, .un, .un])) (Wf := fun r => .val (PyData.bool r)) (v := false) (Eq.trans (letC_eq hr94) (Eq.trans (letC_eq hr123) (Eq.trans (letC_eq hr138) (Eq.trans (letC_eq hr143) (Eq.trans (cond_f k146) (Eq.trans (letC_eq hr160) (Eq.trans (letC_eq hr162) (Eq.trans (cond_t k168) rfl)))))))))
                · have h := a218 k168
                  refine ws_nil ?_
                  change WS _ _ _ _
                  obtain ⟨o169, h⟩ := h
                  obtain ⟨r170, hr170⟩ : ∃ r : (List (List (Option Int))), r = (m_law_far one96) := ⟨_, rfl⟩
                  replace h := letC_mp hr170 h
                  obtain ⟨o171, h⟩ := h
                  obtain ⟨r172, hr172⟩ : ∃ r : (List (List (Option Int))), r = (m_law_far other104) := ⟨_, rfl⟩
                  replace h := letC_mp hr172 h
                  refine ws_step (w1_par (i := 23) (j := 24) nd (ax_cons (ex_call C_m_law_far (av_cons (ex_name (i := 19)) av_nil) (R_m_law_far.mk hr170 o169) (hk := le_b rfl)) (ax_cons (ex_call C_m_law_far (av_cons (ex_name (i := 20)) av_nil) (R_m_law_far.mk hr172 o171) (hk := le_b rfl)) ax_nil)) (l1 := lt_b rfl) (l2 := lt_b rfl) (hw := by intro env he; exact sw_eq he (by kernel_rfl))) ?_
                  let first173 : (List (List (Option Int))) := r170
                  let second174 : (List (List (Option Int))) := r172
                  obtain ⟨o175, h⟩ := h
                  obtain ⟨r176, hr176⟩ : ∃ r : (List (List (Option Int))), r = (m_distances_of both141) := ⟨_, rfl⟩
                  replace h := letC_mp hr176 h
                  let rows177 : (List (List (Option Int))) := r176
                  refine ws_set (i := 17) nd (ex_call C_m_distances_of (av_cons (ex_name (i := 14)) av_nil) (R_m_distances_of.mk hr176 o175) (hk := le_b rfl)) ?_ (hi := lt_b rfl)
                  let xs178 : (List Int) := (rng 0 (5 : Int))
                  obtain ⟨o206, h⟩ := h
                  refine ws_forER (vs := [18]) (xs := xs178) (en := PyData.int) (fun (r : Src) => [.pr (scrP K script1), .src p q r, .val (PyData.int n106), .val ((eT (eT PyData.int)) ring9), .lst ((r29).map (eT PyData.int)), .un, .val (PyData.int k63), .val ((eL (eP PyData.int PyData.int)) r138), .val (PyData.int q91), .un, .val ((eP PyData.int (eT (eP PyData.int PyData.int))) web73), .val ((eT (eT PyData.int)) words97), .un, .un, .val ((eP PyData.int (eT (eP PyData.int PyData.int))) both141), .val ((eL (eT PyData.int)) r160), .un, .val ((eT (eT (eO PyData.int))) rows177), .un, .val ((eP PyData.int (eT (eP PyData.int PyData.int))) one96), .val ((eP PyData.int (eT (eP PyData.int PyData.int))) other104), .val ((eT (eT PyData.int)) late105), .val (PyData.int m107), .val ((eT (eT (eO PyData.int))) first173), .val ((eT (eT (eO PyData.int))) second174), .un, .un, .un]) (m_law_l179_s n106 m107 first173 second174 rows177) (m_law_l179_o n106 m107 first173 second174 rows177) (cond (decide ((6 : Int) < one96.1)) r94.2 ((m_law_told r94.2 ((24 : Int) / one96.1)).2)) (fun r => Ret ((fun r => .val (PyData.bool r)) r)) (m_law_l179 r94 one96 n106 m107 first173 second174 rows177 xs178) (m_law_l179_eq r94 one96 n106 m107 first173 second174 rows177 xs178) (itx_range1 ex_int (show -8388608 ≤ (5 : Int) ∧ (5 : Int) ≤ 8388608 by decide)) (Wk.imp (Wk.k (Wk.k (Wk.k (Wk.k (Wk.k (Wk.k (Wk.k (Wk.k (Wk.k (Wk.k (Wk.k (Wk.k (Wk.k (Wk.k (Wk.k (Wk.k (Wk.k (Wk.k (Wk.k (Wk.k (Wk.k (Wk.k (Wk.k (Wk.k (Wk.k (Wk.k (Wk.k (Wk.k Wk.nil))))))))))))))))))))))))))))) o206 (fun s180 q181 m182 h => ⟨_, (gx_name (i := 18) nd (hi := lt_b rfl)), ?_⟩) ?_ ?_
                  · obtain ⟨o183, o184, h⟩ := h
                    obtain ⟨r185, hr185⟩ : ∃ r : Int × Src, r = (m_law_pick s180 (n106 * m107)) := ⟨_, rfl⟩
                    replace h := letC_mp hr185 h
                    obtain ⟨o186, o187, h⟩ := h
                    obtain ⟨r188, hr188⟩ : ∃ r : Int × Src, r = (m_law_pick r185.2 (n106 * m107)) := ⟨_, rfl⟩
                    replace h := letC_mp hr188 h
                    refine ws_step (w1_asgT (vs := [12, 26]) (ax_cons (ex_callE (i := 1) C_m_law_pick (av_cons (ex_mul (ex_name (i := 2)) (ex_name (i := 22)) o183) av_nil) (R_m_law_pick.mk hr185 o184) (hk := le_b rfl)) (ax_cons (ex_callE (i := 1) C_m_law_pick (av_cons (ex_mul (ex_name (i := 2)) (ex_name (i := 22)) o186) av_nil) (R_m_law_pick.mk hr188 o187) (hk := le_b rfl)) ax_nil)) (gsx_cons (gx_name (i := 12) nd (hi := lt_b rfl)) (gsx_cons (gx_name (i := 26) nd (hi := lt_b rfl)) gsx_nil)) rfl (hl := le_b rfl) (hw := by intro env he; exact sw_eq he (by kernel_rfl))) ?_
                    let a189 : Int := r185.1
                    let b190 : Int := r188.1
                    obtain ⟨o191, o192, o193, o194, o195, o196, o197, o198, o199, o200, o201, o202, h⟩ := h
                    obtain ⟨a204, a205⟩ := h
                    refine ws_if (tx_ne (e := (eO PyData.int)) (ex_ixT (ex_ixT (ex_name (i := 17)) (ex_name (i := 12)) o191) (ex_name (i := 26)) o192) (ex_some (ex_add (ex_getO (ex_ixT (ex_ixT (ex_name (i := 23)) (ex_fdiv (ex_name (i := 12)) (ex_name (i := 22)) o193) o194) (ex_fdiv (ex_name (i := 26)) (ex_name (i := 22)) o195) o196) o197) (ex_getO (ex_ixT (ex_ixT (ex_name (i := 24)) (ex_mod (ex_intI (ex_name (i := 12))) (ex_name (i := 22)) o198) o199) (ex_mod (ex_intI (ex_name (i := 26))) (ex_name (i := 22)) o200) o201) o202)))) (fun k203 => ?_) (fun k203 => ?_)
                    · have h := a204 k203
                      exact ws_ret ex_bool (retE_ok (Sf := (fun (r : Src) => [.pr (scrP K script1), .src p q r, .val (PyData.int n106), .val ((eT (eT PyData.int)) ring9), .lst ((r29).map (eT PyData.int)), .un, .val (PyData.int k63), .val ((eL (eP PyData.int PyData.int)) r138), .val (PyData.int q91), .un, .val ((eP PyData.int (eT (eP PyData.int PyData.int))) web73), .val ((eT (eT PyData.int)) words97), .un, .un, .val ((eP PyData.int (eT (eP PyData.int PyData.int))) both141), .val ((eL (eT PyData.int)) r160), .un, .val ((eT (eT (eO PyData.int))) rows177), .un, .val ((eP PyData.int (eT (eP PyData.int PyData.int))) one96), .val ((eP PyData.int (eT (eP PyData.int PyData.int))) other104), .val ((eT (eT PyData.int)) late105), .val (PyData.int m107), .val ((eT (eT (eO PyData.int))) first173), .val ((eT (eT (eO PyData.int))) second174), .un, .un, .un])) (Wf := fun r => .val (PyData.bool r)) (v := false) (Eq.trans (letC_eq hr185) (Eq.trans (letC_eq hr188) (Eq.trans (cond_t k203) rfl))))
                    · have h := a205 k203
                      refine ws_nil ?_
                      change WS _ _ _ _
                      exact ws_nil (nxtE_ok (Sf := (fun (r : Src) => [.pr (scrP K script1), .src p q r, .val (PyData.int n106), .val ((eT (eT PyData.int)) ring9), .lst ((r29).map (eT PyData.int)), .un, .val (PyData.int k63), .val ((eL (eP PyData.int PyData.int)) r138), .val (PyData.int q91), .un, .val ((eP PyData.int (eT (eP PyData.int PyData.int))) web73), .val ((eT (eT PyData.int)) words97), .un, .un, .val ((eP PyData.int (eT (eP PyData.int PyData.int))) both141), .val ((eL (eT PyData.int)) r160), .un, .val ((eT (eT (eO PyData.int))) rows177), .un, .val ((eP PyData.int (eT (eP PyData.int PyData.int))) one96), .val ((eP PyData.int (eT (eP PyData.int PyData.int))) other104), .val ((eT (eT PyData.int)) late105), .val (PyData.int m107), .val ((eT (eT (eO PyData.int))) first173), .val ((eT (eT (eO PyData.int))) second174), .un, .un, .un])) (v := r188.2) (Eq.trans (letC_eq hr185) (Eq.trans (letC_eq hr188) (Eq.trans (cond_f k203) rfl))) (Wk.k (Wk.k (Wk.k (Wk.k (Wk.k (Wk.k (Wk.k (Wk.k (Wk.k (Wk.k (Wk.k (Wk.k (Wk.d (Wk.k (Wk.k (Wk.k (Wk.k (Wk.k (Wk.d (Wk.k (Wk.k (Wk.k (Wk.k (Wk.k (Wk.k (Wk.k (Wk.d (Wk.k Wk.nil)))))))))))))))))))))))))))))
                  · exact fun r w S2 e207 hq => retE_up (Sf := (fun (r : Src × Int × (List (Int × Int)) × (List (List Int))) => [.pr (scrP K script1), .src p q r.1, .val (PyData.int r.2.1), .val ((eT (eT PyData.int)) ring9), .lst ((r29).map (eT PyData.int)), .un, .val (PyData.int k63), .val ((eL (eP PyData.int PyData.int)) r.2.2.1), .un, .un, .val ((eP PyData.int (eT (eP PyData.int PyData.int))) web73), .val ((eT (eT PyData.int)) r.2.2.2), .un, .un, .un, .un, .un, .un, .un, .un, .un, .un, .un, .un, .un, .un, .un, .un])) (Wf := fun r => .val (PyData.bool r)) (Eq.trans (letC_eq hr94) (Eq.trans (letC_eq hr123) (Eq.trans (letC_eq hr138) (Eq.trans (letC_eq hr143) (Eq.trans (cond_f k146) (Eq.trans (letC_eq hr160) (Eq.trans (letC_eq hr162) (Eq.trans (cond_f k168) (Eq.trans (letC_eq hr170) (Eq.trans (letC_eq hr172) (Eq.trans (letC_eq hr176) (Eq.trans (bindE_err e207) rfl)))))))))))) hq
                  intro r208 e209; have h := h r208 e209
                  obtain ⟨o210, o213, h⟩ := h
                  obtain ⟨a215, a216⟩ := h
                  refine ws_if (tx_of (wx_and (tx_lt (ex_mul (ex_name (i := 2)) (ex_name (i := 22)) o210) ex_int) (fun k212 => by obtain ⟨o211, -⟩ := o213 k212; exact (wx_and1 (tx_isnotNO (ex_call C_m_first_five (av_cons (ex_name (i := 14)) av_nil) (R_m_first_five.mk rfl o211) (hk := le_b rfl)) ex_none))) (fun _ => Imp.refl _))) (fun k214 => ?_) (fun k214 => ?_)
                  · have h := a215 k214
                    exact ws_ret ex_bool (retE_ok (Sf := (fun (r : Src × Int × (List (Int × Int)) × (List (List Int))) => [.pr (scrP K script1), .src p q r.1, .val (PyData.int r.2.1), .val ((eT (eT PyData.int)) ring9), .lst ((r29).map (eT PyData.int)), .un, .val (PyData.int k63), .val ((eL (eP PyData.int PyData.int)) r.2.2.1), .un, .un, .val ((eP PyData.int (eT (eP PyData.int PyData.int))) web73), .val ((eT (eT PyData.int)) r.2.2.2), .un, .un, .un, .un, .un, .un, .un, .un, .un, .un, .un, .un, .un, .un, .un, .un])) (Wf := fun r => .val (PyData.bool r)) (v := false) (Eq.trans (letC_eq hr94) (Eq.trans (letC_eq hr123) (Eq.trans (letC_eq hr138) (Eq.trans (letC_eq hr143) (Eq.trans (cond_f k146) (Eq.trans (letC_eq hr160) (Eq.trans (letC_eq hr162) (Eq.trans (cond_f k168) (Eq.trans (letC_eq hr170) (Eq.trans (letC_eq hr172) (Eq.trans (letC_eq hr176) (Eq.trans (bindE_ok e209) (Eq.trans (cond_t k214) rfl))))))))))))))
                  · have h := a216 k214
                    refine ws_nil ?_
                    change WS _ _ _ _
                    exact ws_nil (nxtE_ok (Sf := (fun (r : Src × Int × (List (Int × Int)) × (List (List Int))) => [.pr (scrP K script1), .src p q r.1, .val (PyData.int r.2.1), .val ((eT (eT PyData.int)) ring9), .lst ((r29).map (eT PyData.int)), .un, .val (PyData.int k63), .val ((eL (eP PyData.int PyData.int)) r.2.2.1), .un, .un, .val ((eP PyData.int (eT (eP PyData.int PyData.int))) web73), .val ((eT (eT PyData.int)) r.2.2.2), .un, .un, .un, .un, .un, .un, .un, .un, .un, .un, .un, .un, .un, .un, .un, .un])) (v := (r208, n106, r138, words97)) (Eq.trans (letC_eq hr94) (Eq.trans (letC_eq hr123) (Eq.trans (letC_eq hr138) (Eq.trans (letC_eq hr143) (Eq.trans (cond_f k146) (Eq.trans (letC_eq hr160) (Eq.trans (letC_eq hr162) (Eq.trans (cond_f k168) (Eq.trans (letC_eq hr170) (Eq.trans (letC_eq hr172) (Eq.trans (letC_eq hr176) (Eq.trans (bindE_ok e209) (Eq.trans (cond_f k214) rfl))))))))))))) (Wk.k (Wk.k (Wk.k (Wk.k (Wk.k (Wk.k (Wk.k (Wk.k (Wk.d (Wk.k (Wk.k (Wk.k (Wk.k (Wk.k (Wk.d (Wk.d (Wk.k (Wk.d (Wk.k (Wk.d (Wk.d (Wk.d (Wk.d (Wk.d (Wk.d (Wk.k (Wk.k (Wk.k Wk.nil)))))))))))))))))))))))))))))
            · exact fun r w S2 e222 hq => ret_up (Wf := fun r => .val (PyData.bool r)) (Eq.trans (letC_eq hr3) (Eq.trans (letC_eq hr5) (Eq.trans (letC_eq hr8) (Eq.trans (letC_eq hr29) (Eq.trans (cond_f k37) (Eq.trans (letC_eq hr39) (Eq.trans (cond_f k49) (Eq.trans (letC_eq hr51) (Eq.trans (letC_eq hr53) (Eq.trans (letC_eq hr55) (Eq.trans (cond_f k60) (Eq.trans (letC_eq hr62) (Eq.trans (letC_eq hr65) (Eq.trans (letC_eq hr70) (Eq.trans (letC_eq hr72) (Eq.trans (cond_f k82) (Eq.trans (letC_eq hr84) (Eq.trans (letC_eq hr86) (Eq.trans (cond_f k87) (Eq.trans (thenE_err e222) rfl)))))))))))))))))))) hq
            intro r223 e224; have h := h r223 e224
            obtain ⟨o225, h⟩ := h
            obtain ⟨r226, hr226⟩ : ∃ r : (List (List Int)), r = (m_ring_twice (5 : Int)) := ⟨_, rfl⟩
            replace h := letC_mp hr226 h
            obtain ⟨o227, o230, h⟩ := h
            exact ws_ret (ex_and (ex_eq (e := (eT PyData.int)) (ex_ixT (ex_call C_m_ring_twice (av_cons ex_int av_nil) (R_m_ring_twice.mk hr226 o225) (hk := le_b rfl)) ex_int o227) (ex_tupE (en := PyData.int) (xs := [(1 : Int), (1 : Int), (0 : Int), (0 : Int), (0 : Int)]) (av_cons ex_int (av_cons ex_int (av_cons ex_int (av_cons ex_int (av_cons ex_int av_nil))))))) (fun k229 => by obtain ⟨o228, -⟩ := o230 k229; exact (ex_one (ex_eq (e := (eT (eT PyData.int))) (ex_call C_m_whole_twice (av_cons ex_int av_nil) (R_m_whole_twice.mk rfl o228) (hk := le_b rfl)) (ex_tupE (en := (eT PyData.int)) (xs := [[(1 : Int)]]) (av_cons (ex_tupE (en := PyData.int) (xs := [(1 : Int)]) (av_cons ex_int av_nil)) av_nil))))) (fun _ => Imp.refl _)) (ret_ok (Wf := fun r => .val (PyData.bool r)) (v := ((decide ((nth r226 (0 : Int)) = [(1 : Int), (1 : Int), (0 : Int), (0 : Int), (0 : Int)])) && (decide ((m_whole_twice (1 : Int)) = [[(1 : Int)]])))) (Eq.trans (letC_eq hr3) (Eq.trans (letC_eq hr5) (Eq.trans (letC_eq hr8) (Eq.trans (letC_eq hr29) (Eq.trans (cond_f k37) (Eq.trans (letC_eq hr39) (Eq.trans (cond_f k49) (Eq.trans (letC_eq hr51) (Eq.trans (letC_eq hr53) (Eq.trans (letC_eq hr55) (Eq.trans (cond_f k60) (Eq.trans (letC_eq hr62) (Eq.trans (letC_eq hr65) (Eq.trans (letC_eq hr70) (Eq.trans (letC_eq hr72) (Eq.trans (cond_f k82) (Eq.trans (letC_eq hr84) (Eq.trans (letC_eq hr86) (Eq.trans (cond_f k87) (Eq.trans (thenE_ok e224) (Eq.trans (letC_eq hr226) rfl))))))))))))))))))))))
theorem fn_m_law {P : Program} {w : World} {K : PySem.W.Frag} {mg : Str → Option Value} {base : Heap} {f : Addr} {fd : FuncData} (bt : NoB mg) (C_m_law_open_cells : Callee P w K mg base "_law_open_cells" 1 A__law_open_cells (spO K m_law_open_cells)) (C_m_law_pick : Callee P w K mg base "_law_pick" 1 A__law_pick (spS R_m_law_pick)) (C_m_ring_twice : Callee P w K mg base "ring_twice" 1 A_ring_twice (spP R_m_ring_twice)) (C_m_law_is_twice : Callee P w K mg base "_law_is_twice" 2 A__law_is_twice (spP R_m_law_is_twice)) (C_m_law_far : Callee P w K mg base "_law_far" 1 A__law_far (spP R_m_law_far)) (C_m_law_ring : Callee P w K mg base "_law_ring" 1 A__law_ring (spP R_m_law_ring)) (C_m_whole_twice : Callee P w K mg base "whole_twice" 1 A_whole_twice (spP R_m_whole_twice)) (C_m_are_twice : Callee P w K mg base "are_twice" 4 A_are_twice (spP R_m_are_twice)) (C_m_law_whole : Callee P w K mg base "_law_whole" 1 A__law_whole (spP R_m_law_whole)) (C_m_pairs_apart : Callee P w K mg base "pairs_apart" 1 A_pairs_apart (spP R_m_pairs_apart)) (C_m_pairs_twice : Callee P w K mg base "pairs_twice" 3 A_pairs_twice (spP R_m_pairs_twice)) (C_m_law_told : Callee P w K mg base "_law_told" 4 A__law_told (spS R_m_law_told)) (C_m_web_product : Callee P w K mg base "web_product" 3 A_web_product (spP R_m_web_product)) (C_m_product_twice : Callee P w K mg base "product_twice" 1 A_product_twice (spP R_m_product_twice)) (C_m_distances_of : Callee P w K mg base "distances_of" 2 A_distances_of (spP R_m_distances_of)) (C_m_first_five : Callee P w K mg base "first_five" 3 A_first_five (spP R_m_first_five)) (F : FnP K "law" s_law f fd) (hok : ∀ ns : List Int, ns.length ≤ 63 → m_law_ok ns ∧ m_law ns = true) : FnG P w K mg base (4 + 1) f fd A_law (spLaw K 63) :=
  ok_law F sc_law (by decide) fun ns hl => by
    have := ws_m_law bt C_m_law_open_cells C_m_law_pick C_m_ring_twice C_m_law_is_twice C_m_law_far C_m_law_ring C_m_whole_twice C_m_are_twice C_m_law_whole C_m_pairs_apart C_m_pairs_twice C_m_law_told C_m_web_product C_m_product_twice C_m_distances_of C_m_first_five ns (hok ns hl).1
    rw [(hok ns hl).2] at this
    exact this

/-! ### the source -/
abbrev SOk (s : Src) : Prop := s.cells.length ≤ 63
theorem open_ok : ∀ ns, m_law_open_cells_ok ns := fun ns => by
  unfold m_law_open_cells_ok
  refine ⟨(foldl_inv (fun _ => True) trivial fun s x _ _ => ⟨?_, trivial⟩).1, ?_⟩
  · unfold m_law_open_cells_l4_o; trivial
  · rw [letC_def]; trivial
theorem open_src {ns : List Int} (h : ns.length ≤ 63) : SOk (m_law_open_cells ns) := by
  unfold m_law_open_cells
  simp only [letC_def]
  show (List.reverse _).length ≤ 63
  rw [List.length_reverse, List.length_map]; exact h
theorem pick_w (s : Src) (h : SOk s) : WOk (m_law_pick_w4_c) (m_law_pick_w4_s) (m_law_pick_w4_q) (m_law_pick_w4_o) FU s ∧ SOk (m_law_pick_w4 s) := by
  have := whl_FU (c := m_law_pick_w4_c) (f := m_law_pick_w4_s) (okc := m_law_pick_w4_q) (okb := m_law_pick_w4_o) SOk (fun s => s.cells.length) (s := s) h (by unfold SOk at h; omega) fun s hs => ⟨trivial, fun hc => by
    unfold m_law_pick_w4_c at hc
    simp only [Bool.and_eq_true, decide_eq_true_eq] at hc
    have hl : 0 < s.cells.length := by omega
    refine ⟨⟨?_, trivial⟩, ?_, ?_⟩
    · intro e; rw [e] at hl; simp at hl
    · unfold SOk m_law_pick_w4_s at *; simp; omega
    · unfold m_law_pick_w4_s; simp; omega⟩
  refine ⟨this.1, ?_⟩
  unfold m_law_pick_w4
  exact this.2.1
theorem pick_ok {s : Src} {most : Int} (h : SOk s) (hm : most < 1073741824) : m_law_pick_ok s most := by
  unfold m_law_pick_ok
  refine ⟨fun _ => trivial, fun e => ?_⟩
  have e : 2 ≤ most := by simpa using e
  refine ⟨(pick_w s h).1, ?_⟩
  rw [letC_def]
  refine ⟨fun _ => ⟨⟨by omega, hm⟩, by omega, trivial⟩, fun _ => ⟨?_, by omega, trivial⟩⟩
  unfold DL.MulOk CMul
  left
  constructor
  · have := Int.emod_nonneg ((Src.setT (m_law_pick_w4 s) ((m_law_pick_w4 s).turn + 1)).mixed + (Src.setT (m_law_pick_w4 s) ((m_law_pick_w4 s).turn + 1)).turn * 104729) (show (998244353 : Int) ≠ 0 by decide)
    omega
  · have := Int.emod_lt_of_pos ((Src.setT (m_law_pick_w4 s) ((m_law_pick_w4 s).turn + 1)).mixed + (Src.setT (m_law_pick_w4 s) ((m_law_pick_w4 s).turn + 1)).turn * 104729) (show (0 : Int) < 998244353 by decide)
    omega
theorem pick_src {s : Src} (most : Int) (h : SOk s) : SOk (m_law_pick s most).2 := by
  unfold m_law_pick
  cases decide (most < 2) with
  | true => exact h
  | false =>
    have := (pick_w s h).2
    simp only [cond_false, letC_def]
    cases decide (1 < (m_law_pick_w4 s).left) with
    | true => exact this
    | false => exact this
theorem pick_rng (s : Src) (most : Int) : 0 ≤ (m_law_pick s most).1 ∧ ((m_law_pick s most).1 < most ∨ most < 2 ∧ (m_law_pick s most).1 = 0) := by
  unfold m_law_pick
  by_cases e : most < 2
  · rw [decide_eq_true e]
    exact ⟨Int.le_refl _, .inr ⟨e, rfl⟩⟩
  · rw [decide_eq_false e]
    simp only [cond_false, letC_def]
    cases decide (1 < (m_law_pick_w4 s).left) with
    | true => exact ⟨Int.emod_nonneg _ (by omega), .inl (Int.emod_lt_of_pos _ (by omega))⟩
    | false => exact ⟨Int.emod_nonneg _ (by omega), .inl (Int.emod_lt_of_pos _ (by omega))⟩
theorem pick_lt (s : Src) {most : Int} (h : 0 < most) : 0 ≤ (m_law_pick s most).1 ∧ (m_law_pick s most).1 < most := by
  have := pick_rng s most
  omega

/-! ### distances -/
theorem near_at {n : Int} {ties : List (Int × Int)} (h : Tied n ties) :
    LOk (m_neighbours_of_l7_s) (m_neighbours_of_l7_o) (((rng 0 n)).map fun (q3 : Int) => ([] : List Int)) ties
    ∧ ((m_neighbours_of_l7 (((rng 0 n)).map fun (q3 : Int) => ([] : List Int)) ties).length : Int) = n
    ∧ ∀ a, Rg n a → ∀ b, b ∈ nth (m_neighbours_of_l7 (((rng 0 n)).map fun (q3 : Int) => ([] : List Int)) ties) a ↔ Adj ties a b := by
  have := foldl_at (f := m_neighbours_of_l7_s) (ok := m_neighbours_of_l7_o) (xs := ties) (s := (((rng 0 n)).map fun (q3 : Int) => ([] : List Int)))
    (fun p s => (s.length : Int) = n ∧ ∀ a, Rg n a → (nth s a).length ≤ 2 * p.length ∧ ∀ b, b ∈ nth s a ↔ Adj p a b) ⟨?_, fun a ha => ⟨?_, fun b => ?_⟩⟩ fun p t q s e i => ?_
  · refine ⟨this.1, ?_, fun a ha => ?_⟩
    · unfold m_neighbours_of_l7; exact this.2.1
    · unfold m_neighbours_of_l7; exact (this.2.2 a ha).2
  · rw [List.length_map, rng_length]; have := h.lo; omega
  · rw [nth_map_rng ha.1 ha.2]; simp
  · rw [nth_map_rng ha.1 ha.2]; simp [Adj]
  · obtain ⟨i1, i2⟩ := i
    have ht : t ∈ ties := by rw [e]; simp
    have rt := h.rg t ht
    have h1 : Rg n t.1 := by unfold Rg; omega
    have h2 : Rg n t.2 := by unfold Rg; omega
    have hp : p.length + 1 ≤ ties.length := by rw [e]; simp
    have tl := h.tl
    have l1 : (setI s t.1 (nth s t.1 ++ [t.2])).length = s.length := setI_length ..
    have n2 : nth (setI s t.1 (nth s t.1 ++ [t.2])) t.2 = nth s t.2 := by rw [nth_setI (by omega) (by omega) (by omega), if_neg (by omega)]
    refine ⟨⟨.mk (by omega) (by omega), ?_, .mk (by omega) (by rw [l1]; omega), ?_, trivial⟩, ?_, fun a ha => ?_⟩
    · have := (i2 t.1 h1).1; rw [sizeLine_eq]; omega
    · rw [n2]; have := (i2 t.2 h2).1; rw [sizeLine_eq]; omega
    · unfold m_neighbours_of_l7_s; simp only [setI_length]; exact i1
    · have ha' := ha
      have := i2 a ha
      unfold m_neighbours_of_l7_s
      simp only
      rw [n2, nth_setI (by unfold Rg at ha; omega) (by rw [l1]; unfold Rg at ha; omega) (by omega)]
      by_cases e2 : a = t.2
      · rw [if_pos e2]
        have q := i2 t.2 h2
        refine ⟨by simp; omega, fun b => ?_⟩
        simp only [List.mem_append, List.mem_singleton, q.2, Adj]
        rw [e2]
        constructor
        · rintro ((r | r) | r)
          · exact .inl (.inl r)
          · exact .inr (.inl r)
          · right; right; rw [r]
        · rintro ((r | r) | (r | r))
          · exact .inl (.inl r)
          · have := congrArg Prod.fst r; simp only at this; omega
          · exact .inl (.inr r)
          · have := congrArg Prod.fst r; simp only at this; exact .inr this
      · rw [if_neg e2, nth_setI (by unfold Rg at ha; omega) (by unfold Rg at ha; omega) (by omega)]
        by_cases e3 : a = t.1
        · rw [if_pos e3]
          have q := i2 t.1 h1
          refine ⟨by simp; omega, fun b => ?_⟩
          simp only [List.mem_append, List.mem_singleton, q.2, Adj]
          rw [e3]
          constructor
          · rintro ((r | r) | r)
            · exact .inl (.inl r)
            · exact .inr (.inl r)
            · left; right; rw [r]
          · rintro ((r | r) | (r | r))
            · exact .inl (.inl r)
            · have := congrArg Prod.snd r; simp only at this; exact .inr this
            · exact .inl (.inr r)
            · have := congrArg Prod.snd r; simp only at this; omega
        · rw [if_neg e3]
          refine ⟨by have := this.1; simp; omega, fun b => ?_⟩
          rw [this.2]
          simp only [List.mem_append, List.mem_singleton, Adj]
          constructor
          · rintro (r | r)
            · exact .inl (.inl r)
            · exact .inr (.inl r)
          · rintro ((r | r) | (r | r))
            · exact .inl r
            · have := congrArg Prod.fst r; simp only at this; omega
            · exact .inr r
            · have := congrArg Prod.snd r; simp only at this; omega
theorem near_ok {n : Int} {ties : List (Int × Int)} (h : Tied n ties) : m_neighbours_of_ok (n, ties) := by
  unfold m_neighbours_of_ok
  have := h.lo; have := h.hi
  refine ⟨⟨by simp only; omega, by simp only; omega⟩, (near_at h).1, ?_⟩
  rw [letC_def]
  exact ⟨fun q _ => ⟨SrtOk.int q, trivial⟩, trivial⟩
theorem near_len {n : Int} {ties : List (Int × Int)} (h : Tied n ties) : ((m_neighbours_of (n, ties)).length : Int) = n := by
  unfold m_neighbours_of
  simp only [letC_def, List.length_map]
  exact (near_at h).2.1
theorem near_eq {n : Int} {ties : List (Int × Int)} (h : Tied n ties) {a : Int} (ha : Rg n a) : nth (m_neighbours_of (n, ties)) a = srt PyData.int (nth (m_neighbours_of_l7 (((rng 0 n)).map fun (q3 : Int) => ([] : List Int)) ties) a) := by
  unfold m_neighbours_of
  simp only [letC_def]
  exact nth_map ha.1 (by rw [(near_at h).2.1]; exact ha.2)
theorem mem_near {n : Int} {ties : List (Int × Int)} (h : Tied n ties) {a : Int} (ha : Rg n a) (b : Int) : b ∈ nth (m_neighbours_of (n, ties)) a ↔ Adj ties a b := by
  rw [near_eq h ha, mem_srt]
  exact (near_at h).2.2 a ha b
theorem keys_le {n : Int} {ties : List (Int × Int)} {d : Int → Int → Int} (h : Net n ties d) (m : List (Int × Int)) (nd : (dkeys m).Nodup) (k : ∀ b, (dget m b).isSome = true → Rg n b) : m.length < 64 := by
  have sub := nodup_sub_len (ys := rng 0 n) nd fun b hb => by rw [mem_rng]; exact k b (mem_dkeys.mp hb)
  rw [rng_length] at sub
  have := h.lo
  have := h.hi
  simp only [dkeys, List.length_map] at sub
  omega
/-- what one turn of the widening does -/
theorem late_at {n : Int} {ties : List (Int × Int)} {d : Int → Int → Int} (h : Net n ties d) {near : List (List Int)} (hl : (near.length : Int) = n) (hn : ∀ a, Rg n a → ∀ b, b ∈ nth near a ↔ Adj ties a b) (s7 : (List (Int × Int)) × (List Int) × Int) (step : Int) (hs : ∀ a ∈ s7.2.1, Rg n a) (hz : s7.2.1.Nodup) :
    LOk (m_distance_row_l11_s near s7 step) (m_distance_row_l11_o near s7 step) [] s7.2.1
    ∧ (dkeys (m_distance_row_l11 near s7 step [] s7.2.1)).Nodup
    ∧ ∀ b, dget (m_distance_row_l11 near s7 step [] s7.2.1) b = if (∃ a ∈ s7.2.1, Adj ties a b) ∧ dget s7.1 b = none then some step else none := by
  have keys_le := @keys_le _ _ _ h
  have := foldl_at (f := m_distance_row_l11_s near s7 step) (ok := m_distance_row_l11_o near s7 step) (xs := s7.2.1) (s := [])
    (fun p s => (dkeys s).Nodup ∧ ∀ b, dget s b = if (∃ a ∈ p, Adj ties a b) ∧ dget s7.1 b = none then some step else none) ⟨by simp [dkeys], fun b => by simp [dget_nil]⟩ fun p a q s e i => ?_
  · unfold m_distance_row_l11; exact this
  · obtain ⟨i1, i2⟩ := i
    have ha : Rg n a := hs a (by rw [e]; simp)
    have dn := dictOf_nodup (nth near a) (fun (q16 : Int) => (!(dget s7.1 q16).isSome)) (fun (q16 : Int) => q16) (fun (q16 : Int) => step)
    have dg : ∀ b, dget (dictOf (nth near a) (fun (q16 : Int) => (!(dget s7.1 q16).isSome)) (fun (q16 : Int) => q16) (fun (q16 : Int) => step)) b = if Adj ties a b ∧ dget s7.1 b = none then some step else none := fun b => by
      rw [dget_dictOf_const]
      by_cases c : Adj ties a b ∧ dget s7.1 b = none
      · rw [if_pos c, if_pos ⟨b, (hn a ha b).mpr c.1, by rw [c.2]; rfl, rfl⟩]
      · rw [if_neg c, if_neg]
        rintro ⟨x, hx, h1, rfl⟩
        exact c ⟨(hn a ha x).mp hx, by simpa using h1⟩
    have d1 := keys_le _ i1 fun b hb => by
      rw [i2] at hb
      split at hb
      · rename_i c
        obtain ⟨⟨a, _, k⟩, _⟩ := c
        exact (h.adj k).2.1
      · simp at hb
    have d2 := keys_le _ dn fun b hb => by
      rw [dg] at hb
      split at hb
      · rename_i c
        exact (h.adj c.1).2.1
      · simp at hb
    refine ⟨⟨.mk (by have := ha.1; omega) (by rw [hl]; exact ha.2), ?_, trivial⟩, ?_, fun b => ?_⟩
    · show _ ≤ sizeLine
      rw [sizeLine_eq]; omega
    · unfold m_distance_row_l11_s; exact dmerge_nodup i1 _
    · unfold m_distance_row_l11_s
      simp only
      rw [dget_dmerge dn, dg, i2]
      by_cases c0 : dget s7.1 b = none
      · by_cases c1 : Adj ties a b
        · rw [if_pos ⟨c1, c0⟩, if_pos (c := (∃ a' ∈ p ++ [a], Adj ties a' b) ∧ dget s7.1 b = none) ⟨⟨a, List.mem_append_right p (List.mem_singleton.mpr rfl), c1⟩, c0⟩]; rfl
        · rw [if_neg (fun q => c1 q.1)]
          simp only [Option.none_or]
          by_cases c2 : ∃ a ∈ p, Adj ties a b
          · rw [if_pos ⟨c2, c0⟩, if_pos ⟨let ⟨a, ha, k⟩ := c2; ⟨a, by simp [ha], k⟩, c0⟩]
          · rw [if_neg (fun q => c2 q.1), if_neg]
            rintro ⟨⟨a', ha', k⟩, _⟩
            rcases List.mem_append.mp ha' with r | r
            · exact c2 ⟨a', r, k⟩
            · rw [List.mem_singleton] at r; subst r; exact c1 k
      · rw [if_neg (fun q => c0 q.2), if_neg (fun q => c0 q.2), if_neg (fun q => c0 q.2)]; rfl
/-- the state of the widening: all that is step or less away is told -/
def WInv (n : Int) (d : Int → Int → Int) (x : Int) (s : (List (Int × Int)) × (List Int) × Int) : Prop :=
  0 ≤ s.2.2 ∧ s.2.1.Nodup ∧ (∀ y, y ∈ s.2.1 ↔ Rg n y ∧ d x y = s.2.2) ∧ (dkeys s.1).Nodup ∧ ∀ y, dget s.1 y = if Rg n y ∧ d x y ≤ s.2.2 then some (d x y) else none
theorem row_at {n : Int} {ties : List (Int × Int)} {d : Int → Int → Int} (h : Net n ties d) {near : List (List Int)} (hl : (near.length : Int) = n) (hn : ∀ a, Rg n a → ∀ b, b ∈ nth near a ↔ Adj ties a b) {x : Int} (hx : Rg n x) :
    m_distance_row_ok near x ∧ m_distance_row near x = (rng 0 n).map fun y => some (d x y) := by
  have hi := h.hi
  have keys_le := @keys_le _ _ _ h
  have w := whl_FU (c := m_distance_row_w6_c near) (f := m_distance_row_w6_s near) (okc := m_distance_row_w6_q near) (okb := m_distance_row_w6_o near) (WInv n d x) (fun s => (1000001 - s.2.2).toNat) (s := ([(x, (0 : Int))], [x], (0 : Int))) ?_ (by simp) fun s i => ⟨trivial, fun hc => ?_⟩
  · obtain ⟨w1, w2, w3⟩ := w
    generalize hr : whl (m_distance_row_w6_c near) (m_distance_row_w6_s near) FU ([(x, (0 : Int))], [x], (0 : Int)) = r at w2 w3
    have hr : m_distance_row_w6 near [(x, (0 : Int))] [x] (0 : Int) = r := by unfold m_distance_row_w6; exact hr
    obtain ⟨i1, i2, i3, i4, i5⟩ := w2
    have e : r.2.1 = [] := by unfold m_distance_row_w6_c at w3; simpa using w3
    have top : ∀ y, Rg n y → d x y ≤ r.2.2 := fun y hy => by
      by_cases q : d x y ≤ r.2.2
      · exact q
      · obtain ⟨z, hz, ez⟩ := h.down hx (d x y).toNat hy (by have := (h.nn x y hx hy).1; omega) r.2.2.toNat (by omega)
        have : z ∈ r.2.1 := (i3 z).mpr ⟨hz, by omega⟩
        rw [e] at this; simp at this
    constructor
    · unfold m_distance_row_ok
      refine ⟨w1, ?_⟩
      rw [letC_def]
      exact ⟨⟨by omega, by omega⟩, trivial⟩
    · unfold m_distance_row
      simp only [letC_def, hr, hl]
      refine List.map_congr_left fun y hy => ?_
      rw [mem_rng] at hy
      rw [i5, if_pos ⟨hy, top y hy⟩]
  · refine ⟨by simp, by simp, fun y => ?_, by simp [dkeys], fun y => ?_⟩
    · simp only [List.mem_singleton]
      constructor
      · rintro rfl; exact ⟨hx, (h.ze y y hx hx).mpr rfl⟩
      · rintro ⟨hy, e⟩; exact ((h.ze x y hx hy).mp e).symm
    · rw [dget_cons, dget_nil]
      by_cases e : x = y
      · subst e
        have := (h.ze x x hx hx).mpr rfl
        rw [if_pos rfl, if_pos ⟨hx, by rw [this]; exact Int.le_refl _⟩, this]
      · rw [if_neg e, if_neg]
        rintro ⟨hy, q⟩
        have q : d x y ≤ 0 := q
        have := (h.nn x y hx hy).1
        exact e ((h.ze x y hx hy).mp (by omega))
  · obtain ⟨i1, i2, i3, i4, i5⟩ := i
    have L := late_at h hl hn s (s.2.2 + 1) (fun a ha => ((i3 a).mp ha).1) i2
    obtain ⟨l1, l2, l3⟩ := L
    have l4 : ∀ b, dget (m_distance_row_l11 near s (s.2.2 + 1) [] s.2.1) b = if Rg n b ∧ d x b = s.2.2 + 1 then some (s.2.2 + 1) else none := fun b => by
      rw [l3]
      by_cases c : Rg n b ∧ d x b = s.2.2 + 1
      · rw [if_pos c, if_pos]
        have ne : x ≠ b := fun e => by have := (h.ze x b hx c.1).mpr e; omega
        obtain ⟨a, ha, k, ea⟩ := h.bk x b hx c.1 ne
        refine ⟨⟨a, (i3 a).mpr ⟨ha, by omega⟩, k⟩, ?_⟩
        rw [i5, if_neg (fun q => by have := q.2; omega)]
      · rw [if_neg c, if_neg]
        rintro ⟨⟨a, ha, k⟩, e⟩
        have hb := (h.adj k).2.1
        have ha := (i3 a).mp ha
        have := h.st x a b hx k
        rw [i5] at e
        split at e
        · simp at e
        · rename_i q
          exact c ⟨hb, by have : ¬ d x b ≤ s.2.2 := fun r => q ⟨hb, r⟩; omega⟩
    have r1 := keys_le _ l2 fun b hb => by
      rw [l4] at hb
      split at hb
      · rename_i c; exact c.1
      · simp at hb
    have r2 := keys_le _ i4 fun b hb => by
      rw [i5] at hb
      split at hb
      · rename_i c; exact c.1
      · simp at hb
    generalize hr : m_distance_row_l11 near s (s.2.2 + 1) [] s.2.1 = r at *
    refine ⟨?_, ?_, ?_⟩
    · unfold m_distance_row_w6_o
      refine ⟨l1, ?_⟩
      simp only [letC_def, hr]
      exact ⟨by show _ ≤ sizeLine; rw [sizeLine_eq]; omega, r1, trivial⟩
    · unfold m_distance_row_w6_s WInv
      simp only [letC_def, hr]
      refine ⟨by omega, srt_nodup l2, fun y => ?_, dmerge_nodup i4 _, fun y => ?_⟩
      · rw [mem_srt, mem_dkeys, l4]
        by_cases c : Rg n y ∧ d x y = s.2.2 + 1
        · rw [if_pos c]; exact ⟨fun _ => c, fun _ => rfl⟩
        · rw [if_neg c]; simp [c]
      · rw [dget_dmerge l2, l4, i5]
        by_cases c : Rg n y ∧ d x y = s.2.2 + 1
        · rw [if_pos c, if_pos (c := Rg n y ∧ d x y ≤ s.2.2 + 1) ⟨c.1, Int.le_of_eq c.2⟩, c.2]; rfl
        · rw [if_neg c]
          simp only [Option.none_or]
          by_cases c2 : Rg n y ∧ d x y ≤ s.2.2
          · rw [if_pos c2, if_pos ⟨c2.1, by omega⟩]
          · rw [if_neg c2, if_neg]
            rintro ⟨hy, q⟩
            exact c2 ⟨hy, by have : ¬ d x y = s.2.2 + 1 := fun e => c ⟨hy, e⟩; omega⟩
    · have e : s.2.1 ≠ [] := by unfold m_distance_row_w6_c at hc; simpa using hc
      obtain ⟨y, ys, e⟩ := List.exists_cons_of_ne_nil e
      have hy := (i3 y).mp (by rw [e]; simp)
      have := (h.nn x y hx hy.1).2
      unfold m_distance_row_w6_s
      simp only [letC_def]
      omega
theorem dist_ok {n : Int} {ties : List (Int × Int)} {d : Int → Int → Int} (h : Net n ties d) : m_distances_of_ok (n, ties) := by
  unfold m_distances_of_ok
  refine ⟨near_ok h.toTied, ?_⟩
  have := h.lo; have := h.hi
  simp only [letC_def]
  exact ⟨⟨by omega, by omega⟩, fun x hx => ⟨(row_at h (near_len h.toTied) (fun a ha b => mem_near h.toTied ha b) (mem_rng.mp hx)).1, trivial⟩, trivial⟩
theorem dist_eq {n : Int} {ties : List (Int × Int)} {d : Int → Int → Int} (h : Net n ties d) : m_distances_of (n, ties) = tab n d := by
  unfold m_distances_of tab
  simp only [letC_def]
  exact List.map_congr_left fun x hx => (row_at h (near_len h.toTied) (fun a ha b => mem_near h.toTied ha b) (mem_rng.mp hx)).2

/-! ### distances, the other way -/
theorem far_l17 {n : Int} (s : (List (Option Int)) × (List Int) × Int) (hl : (s.1.length : Int) = n) (hs : ∀ a ∈ s.2.1, Rg n a) :
    LOk (m_law_far_l17_s s) (m_law_far_l17_o s) s.1 s.2.1 ∧ ((m_law_far_l17 s s.2.1).length : Int) = n ∧ ∀ y, Rg n y → nth (m_law_far_l17 s s.2.1) y = if y ∈ s.2.1 then some s.2.2 else nth s.1 y := by
  have := foldl_at (f := m_law_far_l17_s s) (ok := m_law_far_l17_o s) (xs := s.2.1) (s := s.1)
    (fun p t => (t.length : Int) = n ∧ ∀ y, Rg n y → nth t y = if y ∈ p then some s.2.2 else nth s.1 y) ⟨hl, fun y _ => by simp⟩ fun p x q t e i => ?_
  · unfold m_law_far_l17; exact this
  · obtain ⟨i1, i2⟩ := i
    have hx := hs x (by rw [e]; simp)
    refine ⟨⟨.mk hx.1 (by rw [i1]; exact hx.2), trivial⟩, ?_, fun y hy => ?_⟩
    · unfold m_law_far_l17_s; simp only [setI_length]; exact i1
    · unfold m_law_far_l17_s
      simp only
      rw [nth_setI hy.1 (by rw [i1]; exact hy.2) hx.1, i2 y hy]
      by_cases c : y = x
      · rw [if_pos c, if_pos (by rw [c]; simp)]
      · rw [if_neg c]
        by_cases c2 : y ∈ p
        · rw [if_pos c2, if_pos (by simp [c2])]
        · rw [if_neg c2, if_neg (by simp [c2, c])]
theorem far_row {n : Int} {ties : List (Int × Int)} {d : Int → Int → Int} (h : Net n ties d) {x : Int} (hx : Rg n x) :
    WOk (m_law_far_w14_c (n, ties) n) (m_law_far_w14_s (n, ties) n) (m_law_far_w14_q (n, ties) n) (m_law_far_w14_o (n, ties) n) FU (rep ([(none : (Option Int))]) n, [x], (0 : Int))
    ∧ (m_law_far_w14 (n, ties) n (rep ([(none : (Option Int))]) n) [x] 0).1 = (rng 0 n).map fun y => some (d x y) := by
  have hi := h.hi
  have lo := h.lo
  have w := whl_FU (c := m_law_far_w14_c (n, ties) n) (f := m_law_far_w14_s (n, ties) n) (okc := m_law_far_w14_q (n, ties) n) (okb := m_law_far_w14_o (n, ties) n)
    (fun s => 0 ≤ s.2.2 ∧ (s.1.length : Int) = n ∧ (∀ y, y ∈ s.2.1 ↔ Rg n y ∧ d x y = s.2.2) ∧ ∀ y, Rg n y → nth s.1 y = if d x y < s.2.2 then some (d x y) else none) (fun s => (1000001 - s.2.2).toNat) (s := (rep ([(none : (Option Int))]) n, [x], (0 : Int))) ?_ (by simp) fun s i => ⟨trivial, fun hc => ?_⟩
  · obtain ⟨w1, w2, w3⟩ := w
    generalize hr : whl (m_law_far_w14_c (n, ties) n) (m_law_far_w14_s (n, ties) n) FU (rep ([(none : (Option Int))]) n, [x], (0 : Int)) = r at w2 w3
    have hr : m_law_far_w14 (n, ties) n (rep ([(none : (Option Int))]) n) [x] 0 = r := by unfold m_law_far_w14; exact hr
    obtain ⟨i1, i2, i3, i4⟩ := w2
    have e : r.2.1 = [] := by unfold m_law_far_w14_c at w3; simpa using w3
    refine ⟨w1, ?_⟩
    rw [hr]
    refine map_rng_of _ i2 fun y h0 h1 => ?_
    have hy : Rg n y := ⟨h0, h1⟩
    rw [i4 y hy, if_pos]
    by_cases q : d x y < r.2.2
    · exact q
    · obtain ⟨z, hz, ez⟩ := h.down hx (d x y).toNat hy (by have := (h.nn x y hx hy).1; omega) r.2.2.toNat (by omega)
      have : z ∈ r.2.1 := (i3 z).mpr ⟨hz, by omega⟩
      rw [e] at this; simp at this
  · refine ⟨by simp, ?_, fun y => ?_, fun y hy => ?_⟩
    · show ((rep _ n).length : Int) = n
      rw [rep_one_length]; omega
    · simp only [List.mem_singleton]
      constructor
      · rintro rfl; exact ⟨hx, (h.ze y y hx hx).mpr rfl⟩
      · rintro ⟨hy, e⟩; exact ((h.ze x y hx hy).mp e).symm
    · show nth (rep _ n) y = _
      rw [nth_rep hy.1 hy.2, if_neg]
      have := (h.nn x y hx hy).1
      show ¬ d x y < 0
      omega
  · obtain ⟨i1, i2, i3, i4⟩ := i
    obtain ⟨l1, l2, l3⟩ := far_l17 s i2 fun a ha => ((i3 a).mp ha).1
    generalize hr : m_law_far_l17 s s.2.1 = r at l2 l3
    have l4 : ∀ y, Rg n y → nth r y = if d x y < s.2.2 + 1 then some (d x y) else none := fun y hy => by
      rw [l3 y hy, i4 y hy]
      by_cases c : y ∈ s.2.1
      · have := ((i3 y).mp c).2
        rw [if_pos c, if_pos (by omega), this]
      · rw [if_neg c]
        have : ¬ d x y = s.2.2 := fun e => c ((i3 y).mpr ⟨hy, e⟩)
        by_cases c2 : d x y < s.2.2
        · rw [if_pos c2, if_pos (by omega)]
        · rw [if_neg c2, if_neg (by omega)]
    refine ⟨?_, ?_, ?_⟩
    · unfold m_law_far_w14_o
      refine ⟨l1, ?_⟩
      simp only [letC_def, hr]
      exact ⟨⟨by omega, by omega⟩, fun y hy => ⟨.mk (mem_rng.mp hy).1 (by rw [l2]; exact (mem_rng.mp hy).2), trivial⟩, trivial⟩
    · unfold m_law_far_w14_s
      simp only [letC_def, hr, List.map_id']
      refine ⟨by omega, l2, fun y => ?_, l4⟩
      simp only [List.mem_filter, mem_rng]
      constructor
      · rintro ⟨⟨hy, h2⟩, h3⟩
        refine ⟨hy, ?_⟩
        have hy : Rg n y := hy
        rw [l4 y hy] at h2
        have h3 : s.2.1.filter (fun (q34 : Int) => (mem ((min q34 y), (max q34 y)) ties)) ≠ [] := by simpa using h3
        obtain ⟨a, as, ea⟩ := List.exists_cons_of_ne_nil h3
        have ha : a ∈ s.2.1.filter (fun (q34 : Int) => (mem ((min q34 y), (max q34 y)) ties)) := by rw [ea]; simp
        rw [List.mem_filter, mem_iff] at ha
        have k := h.toTied.adj_min.mpr ha.2
        have := h.st x a y hx k
        have := ((i3 a).mp ha.1).2
        have : ¬ d x y < s.2.2 + 1 := fun c => by rw [if_pos c] at h2; simp at h2
        omega
      · rintro ⟨hy, e⟩
        refine ⟨⟨hy, ?_⟩, ?_⟩
        · rw [l4 y hy, if_neg (by omega)]; rfl
        · have ne : x ≠ y := fun e => by have := (h.ze x y hx hy).mpr e; omega
          obtain ⟨a, ha, k, ea⟩ := h.bk x y hx hy ne
          have : a ∈ s.2.1.filter (fun (q34 : Int) => (mem ((min q34 y), (max q34 y)) ties)) := by
            rw [List.mem_filter, mem_iff]
            exact ⟨(i3 a).mpr ⟨ha, by omega⟩, h.toTied.adj_min.mp k⟩
          have : ¬ s.2.1.filter (fun (q34 : Int) => (mem ((min q34 y), (max q34 y)) ties)) = [] := fun e => by rw [e] at this; simp at this
          simpa using this
    · have e : s.2.1 ≠ [] := by unfold m_law_far_w14_c at hc; simpa using hc
      obtain ⟨y, ys, e⟩ := List.exists_cons_of_ne_nil e
      have hy := (i3 y).mp (by rw [e]; simp)
      have := (h.nn x y hx hy.1).2
      unfold m_law_far_w14_s
      simp only [letC_def]
      omega
theorem far_at {n : Int} {ties : List (Int × Int)} {d : Int → Int → Int} (h : Net n ties d) : m_law_far_ok (n, ties) ∧ m_law_far (n, ties) = tab n d := by
  have hi := h.hi
  have lo := h.lo
  have := foldl_at (f := m_law_far_l6_s (n, ties) n) (ok := m_law_far_l6_o (n, ties) n) (xs := rng 0 n) (s := [])
    (fun p t => t = p.map fun x => (rng 0 n).map fun y => some (d x y)) rfl fun p x q t e i => ?_
  · constructor
    · unfold m_law_far_ok
      exact ⟨⟨by simp only; omega, by simp only; omega⟩, this.1, by rw [letC_def]; trivial⟩
    · unfold m_law_far
      simp only [letC_def]
      unfold m_law_far_l6
      exact this.2
  · have hx : Rg n x := mem_rng.mp (by rw [e]; simp)
    have hl : p.length + 1 ≤ (n - 0).toNat := by rw [← rng_length, e]; simp
    obtain ⟨f1, f2⟩ := far_row h hx
    constructor
    · unfold m_law_far_l6_o
      refine ⟨⟨by omega, by omega, ?_⟩, f1, ?_⟩
      · simp only [List.length_singleton]; rw [sizeLine_eq]; omega
      · rw [letC_def]
        exact ⟨by rw [i, List.length_map, sizeLine_eq]; omega, trivial⟩
    · unfold m_law_far_l6_s
      simp only [letC_def]
      rw [f2, i]; simp

/-! ### lots, excess, fives -/
theorem lc2_len {α β γ : Type} {xs : List α} {p : α → Bool} {ys : α → List β} {q : α → β → Bool} {f : α → β → γ} {k : Nat} (h : ∀ x ∈ xs, (ys x).length ≤ k) : (lc2 xs p ys q f).length ≤ xs.length * k := by
  unfold lc2
  induction xs with
  | nil => simp
  | cons x xs ih =>
    have i := ih fun y hy => h y (by simp [hy])
    have a := h x (by simp)
    have b := List.length_filter_le (q x) (ys x)
    rw [List.filter_cons]
    split
    · simp only [List.flatMap_cons, List.length_append, List.length_map, List.length_cons, Nat.succ_mul]; omega
    · simp only [List.length_cons, Nat.succ_mul]; omega
theorem mem_lc2 {α β γ : Type} {xs : List α} {p : α → Bool} {ys : α → List β} {q : α → β → Bool} {f : α → β → γ} {z : γ} : z ∈ lc2 xs p ys q f ↔ ∃ x ∈ xs, p x = true ∧ ∃ y ∈ ys x, q x y = true ∧ f x y = z := by
  unfold lc2
  simp only [List.mem_flatMap, List.mem_filter, List.mem_map]
  constructor
  · rintro ⟨x, ⟨h1, h2⟩, y, ⟨h3, h4⟩, h5⟩; exact ⟨x, h1, h2, y, h3, h4, h5⟩
  · rintro ⟨x, h1, h2, y, h3, h4, h5⟩; exact ⟨x, ⟨h1, h2⟩, y, ⟨h3, h4⟩, h5⟩
theorem lots_at {places : List Int} {size : Int} (h0 : 0 ≤ size) (h3 : size ≤ 3) (hp : places.length ≤ 64) : m_lots_of_places_ok places size ∧ ∀ l ∈ m_lots_of_places places size, (l.length : Int) = size ∧ l.Pairwise (· < ·) ∧ ∀ a ∈ l, a ∈ places := by
  have := foldl_at (f := m_lots_of_places_l6_s places) (ok := m_lots_of_places_l6_o places) (xs := rng 0 size) (s := [([] : List Int)])
    (fun p s => s.length ≤ 64 ^ p.length ∧ ∀ l ∈ s, l.length = p.length ∧ l.Pairwise (· < ·) ∧ ∀ a ∈ l, a ∈ places) ⟨by simp, fun l hl => by rw [List.mem_singleton] at hl; subst hl; simp⟩ fun p x q s e i => ?_
  · constructor
    · unfold m_lots_of_places_ok
      exact ⟨⟨by omega, by omega⟩, this.1, by rw [letC_def]; trivial⟩
    · unfold m_lots_of_places
      simp only [letC_def]
      unfold m_lots_of_places_l6
      intro l hl
      have := this.2.2 l hl
      rw [rng_length] at this
      exact ⟨by omega, this.2⟩
  · obtain ⟨i1, i2⟩ := i
    have hl : p.length + 1 ≤ (size - 0).toNat := by rw [← rng_length, e]; simp
    have p3 : p.length < 3 := by omega
    have ln : (lc2 s (fun (q10 : (List Int)) => true) (fun (q10 : (List Int)) => places) (fun (q10 : (List Int)) (q12 : Int) => ((decide (q10 = ([] : List Int))) || (decide ((nth q10 (-(1 : Int))) < q12)))) (fun (q10 : (List Int)) (q12 : Int) => (q10 ++ [q12]))).length ≤ 64 ^ (p.length + 1) := by
      refine Nat.le_trans (lc2_len (k := 64) fun _ _ => hp) ?_
      rw [Nat.pow_succ]; exact Nat.mul_le_mul_right _ i1
    have big : 64 ^ (p.length + 1) ≤ 16777216 := by
      have : 64 ^ (p.length + 1) ≤ 64 ^ 3 := Nat.pow_le_pow_right (by decide) (by omega)
      exact Nat.le_trans this (by decide)
    refine ⟨⟨?_, fun l hl => ⟨trivial, fun _ => ⟨trivial, fun a ha => ⟨⟨fun c => ⟨?_, trivial⟩, trivial⟩, fun _ => ⟨?_, trivial⟩⟩⟩⟩, trivial⟩, ?_, fun l hl => ?_⟩
    · show _ ≤ sizeLine
      rw [sizeLine_eq]; omega
    · have c : l ≠ [] := by simpa using c
      have : 0 < l.length := List.length_pos_iff.mpr c
      unfold InB; omega
    · show (l ++ [a]).length ≤ sizeLine
      have := (i2 l hl).1
      simp only [List.length_append, List.length_singleton]
      rw [sizeLine_eq]; omega
    · unfold m_lots_of_places_l6_s; simp only [List.length_append, List.length_singleton]; exact ln
    · unfold m_lots_of_places_l6_s at hl
      obtain ⟨m, hm, _, a, ha, c, rfl⟩ := mem_lc2.mp hl
      obtain ⟨j1, j2, j3⟩ := i2 m hm
      refine ⟨by simp; exact j1, ?_, fun b hb => ?_⟩
      · match m, j1, j2, c with
        | [], _, _, _ => simp
        | [x], _, _, c =>
          have c : x < a := by simpa [nth] using c
          simpa using c
        | [x, y], _, j2, c =>
          have c : y < a := by simpa [nth] using c
          have j2 : x < y := by simpa using j2
          simp; omega
        | x :: y :: z :: m, j1, _, _ => simp at j1; omega
      · rcases List.mem_append.mp hb with hb | hb
        · exact j3 b hb
        · rw [List.mem_singleton] at hb; subst hb; exact ha
def exc (d : Int → Int → Int) (three two : List Int) : Int := d (nth three 0) (nth three 1) + d (nth three 0) (nth three 2) + d (nth three 1) (nth three 2) + d (nth two 0) (nth two 1) - d (nth three 0) (nth two 0) - d (nth three 0) (nth two 1) - d (nth three 1) (nth two 0) - d (nth three 1) (nth two 1) - d (nth three 2) (nth two 0) - d (nth three 2) (nth two 1)
theorem exc_eq (d : Int → Int → Int) (x y z u v : Int) : exc d [x, y, z] [u, v] = d x y + d x z + d y z + d u v - d x u - d x v - d y u - d y v - d z u - d z v := rfl
theorem excess_at {n : Int} {d : Int → Int → Int} {x y z u v : Int} (hx : Rg n x) (hy : Rg n y) (hz : Rg n z) (hu : Rg n u) (hv : Rg n v) :
    m_excess_of_ok (tab n d) [x, y, z] [u, v] ∧ m_excess_of (tab n d) [x, y, z] [u, v] = exc d [x, y, z] [u, v] := by
  have s3 : m_steps_within (tab n d) [x, y, z] = d x y + (d x z + d y z) := by
    unfold m_steps_within
    simp [lc2, enumI, slc, HT.sIx, tab_at hx hy, tab_at hx hz, tab_at hy hz, getO]
  have s2 : m_steps_within (tab n d) [u, v] = d u v := by
    unfold m_steps_within
    simp [lc2, enumI, slc, HT.sIx, tab_at hu hv, getO]
  have sz : ∀ k : Nat, k ≤ 100 → SzOk k := fun k h => by show k ≤ sizeLine; rw [sizeLine_eq]; omega
  have o3 : m_steps_within_ok (tab n d) [x, y, z] := by
    unfold m_steps_within_ok
    refine ⟨sz _ (by simp [lc2, enumI, slc, HT.sIx]), ?_, trivial⟩
    simp [enumI, slc, HT.sIx, tab_at hx hy, tab_at hx hz, tab_at hy hz, tab_inB2 hx hy, tab_inB2 hx hz, tab_inB2 hy hz, tab_inB hx, tab_inB hy]
  have o2 : m_steps_within_ok (tab n d) [u, v] := by
    unfold m_steps_within_ok
    refine ⟨sz _ (by simp [lc2, enumI, slc, HT.sIx]), ?_, trivial⟩
    simp [enumI, slc, HT.sIx, tab_at hu hv, tab_inB2 hu hv, tab_inB hu]
  constructor
  · unfold m_excess_of_ok
    simp only [letC_def]
    refine ⟨o3, o2, sz _ (by simp [lc2]), ?_, trivial⟩
    simp [tab_at hx hu, tab_at hx hv, tab_at hy hu, tab_at hy hv, tab_at hz hu, tab_at hz hv, tab_inB2 hx hu, tab_inB2 hx hv, tab_inB2 hy hu, tab_inB2 hy hv, tab_inB2 hz hu, tab_inB2 hz hv, tab_inB hx, tab_inB hy, tab_inB hz]
  · unfold m_excess_of
    simp only [letC_def, s3, s2, exc_eq]
    simp [lc2, tab_at hx hu, tab_at hx hv, tab_at hy hu, tab_at hy hv, tab_at hz hu, tab_at hz hv, getO]
    omega
def oE {ρ : Type} (o : Option ρ) : Except ρ Unit := match o with | some r => .error r | none => .ok ()
theorem foldE_opt {α ρ : Type} {f : Unit → α → Except ρ Unit} {o : α → Option ρ} (h : ∀ x, f () x = oE (o x)) : ∀ xs : List α, foldE f () xs = oE (xs.findSome? o)
  | [] => rfl
  | x :: xs => by
    unfold foldE
    rw [h, List.findSome?_cons]
    cases o x with
    | some r => rfl
    | none => exact foldE_opt h xs
theorem findSome_nest {α β ρ : Type} (ys : α → List β) (o : α → β → Option ρ) : ∀ xs : List α, xs.findSome? (fun x => (ys x).findSome? (o x)) = (xs.flatMap fun x => (ys x).map fun y => (x, y)).findSome? fun p => o p.1 p.2
  | [] => rfl
  | x :: xs => by
    rw [List.findSome?_cons, List.flatMap_cons, List.findSome?_append, findSome_nest ys o xs, List.findSome?_map]
    have : ((fun p : α × β => o p.1 p.2) ∘ fun y => (x, y)) = o x := rfl
    rw [this]
    cases (ys x).findSome? (o x) with
    | none => rfl
    | some r => rfl
theorem findSome_find {α : Type} (p : α → Bool) : ∀ xs : List α, xs.findSome? (fun x => if p x = true then some (some x) else none) = (xs.find? p).map some
  | [] => rfl
  | x :: xs => by
    rw [List.findSome?_cons, List.find?_cons]
    cases p x with
    | true => rfl
    | false => exact findSome_find p xs
theorem filter_head {α : Type} [Inhabited α] (p : α → Bool) : ∀ xs : List α, xs.find? p = if xs.filter p = [] then none else some (nth (xs.filter p) 0)
  | [] => rfl
  | x :: xs => by
    rw [List.find?_cons, List.filter_cons]
    cases p x with
    | true => simp [nth]
    | false => exact filter_head p xs
def restL (n : Int) (three : List Int) : List Int := (((rng 0 n).filter fun q => !(mem q three))).map fun q => q
def fivesL (n : Int) : List (List Int × List Int) := (m_lots_of_places (rng 0 n) 3).flatMap fun three => (m_lots_of_places (restL n three) 2).map fun two => (three, two)
theorem rest_len {n : Int} (hn : n < 64) (three : List Int) : (restL n three).length ≤ 64 := by
  unfold restL
  rw [List.length_map]
  have := List.length_filter_le (fun q => !(mem q three)) (rng 0 n)
  rw [rng_length] at this
  omega
theorem mem_rest {n a : Int} {three : List Int} : a ∈ restL n three ↔ Rg n a ∧ a ∉ three := by
  unfold restL
  rw [List.map_id', List.mem_filter, mem_rng]
  simp [mem, Rg]
theorem three_of {l : List Int} (h : (l.length : Int) = 3) : ∃ x y z, l = [x, y, z] := by
  match l, h with
  | [x, y, z], _ => exact ⟨x, y, z, rfl⟩
  | [], h => simp at h
  | [_], h => simp at h
  | [_, _], h => simp at h
  | _ :: _ :: _ :: _ :: l, h => simp at h; omega
theorem two_of {l : List Int} (h : (l.length : Int) = 2) : ∃ x y, l = [x, y] := by
  match l, h with
  | [x, y], _ => exact ⟨x, y, rfl⟩
  | [], h => simp at h
  | [_], h => simp at h
  | _ :: _ :: _ :: l, h => simp at h; omega
theorem mem_threes {n : Int} (hn : n < 64) {l : List Int} (h : l ∈ m_lots_of_places (rng 0 n) 3) : ∃ x y z, l = [x, y, z] ∧ Rg n x ∧ Rg n y ∧ Rg n z ∧ x < y ∧ y < z := by
  obtain ⟨h1, h2, h3⟩ := (lots_at (size := 3) (places := rng 0 n) (by decide) (by decide) (by rw [rng_length]; omega)).2 l h
  obtain ⟨x, y, z, rfl⟩ := three_of h1
  refine ⟨x, y, z, rfl, mem_rng.mp (h3 x (by simp)), mem_rng.mp (h3 y (by simp)), mem_rng.mp (h3 z (by simp)), ?_⟩
  simp at h2
  omega
theorem mem_twos {n : Int} (hn : n < 64) {three l : List Int} (h : l ∈ m_lots_of_places (restL n three) 2) : ∃ u v, l = [u, v] ∧ Rg n u ∧ Rg n v ∧ u < v ∧ u ∉ three ∧ v ∉ three := by
  obtain ⟨h1, h2, h3⟩ := (lots_at (size := 2) (places := restL n three) (by decide) (by decide) (rest_len hn three)).2 l h
  obtain ⟨x, y, rfl⟩ := two_of h1
  have a := mem_rest.mp (h3 x (by simp))
  have b := mem_rest.mp (h3 y (by simp))
  exact ⟨x, y, rfl, a.1, b.1, by simpa using h2, a.2, b.2⟩
theorem mem_fives {n : Int} (hn : n < 64) {p : List Int × List Int} (h : p ∈ fivesL n) : ∃ x y z u v, p = ([x, y, z], [u, v]) ∧ Rg n x ∧ Rg n y ∧ Rg n z ∧ Rg n u ∧ Rg n v ∧ x < y ∧ y < z ∧ u < v ∧ u ∉ [x, y, z] ∧ v ∉ [x, y, z] := by
  unfold fivesL at h
  obtain ⟨three, h1, h2⟩ := List.mem_flatMap.mp h
  obtain ⟨two, h3, rfl⟩ := List.mem_map.mp h2
  obtain ⟨x, y, z, rfl, a1, a2, a3, a4, a5⟩ := mem_threes hn h1
  obtain ⟨u, v, rfl, b1, b2, b3, b4, b5⟩ := mem_twos hn h3
  exact ⟨x, y, z, u, v, rfl, a1, a2, a3, b1, b2, a4, a5, b3, b4, b5⟩
theorem first_at {n : Int} {ties : List (Int × Int)} {d : Int → Int → Int} (h : Net n ties d) : m_first_five_ok (n, ties) ∧ m_first_five (n, ties) = (fivesL n).find? fun p => decide (0 < exc d p.1 p.2) := by
  have hi := h.hi
  have lo := h.lo
  have dq := dist_eq h
  have ex : ∀ three ∈ m_lots_of_places (rng 0 n) 3, ∀ two ∈ m_lots_of_places (restL n three) 2, m_excess_of_ok (tab n d) three two ∧ m_excess_of (tab n d) three two = exc d three two := fun three h1 two h2 => by
    obtain ⟨x, y, z, rfl, a1, a2, a3, a4, a5⟩ := mem_threes hi h1
    obtain ⟨u, v, rfl, b1, b2, b3, b4, b5⟩ := mem_twos hi h2
    exact excess_at a1 a2 a3 b1 b2
  constructor
  · unfold m_first_five_ok
    simp only [letC_def, dq]
    refine ⟨dist_ok h, ⟨by omega, by omega⟩, (lots_at (by decide) (by decide) (by rw [rng_length]; omega)).1, ?_, fun _ _ => trivial⟩
    refine LOkE.of_inv (fun _ => True) trivial fun s three h1 _ => ⟨?_, fun _ _ => trivial⟩
    unfold m_first_five_l10_o
    simp only [letC_def]
    refine ⟨(lots_at (by decide) (by decide) (rest_len hi three)).1, ?_, fun _ _ => trivial⟩
    refine LOkE.of_inv (fun _ => True) trivial fun s two h2 _ => ⟨?_, fun _ _ => trivial⟩
    unfold m_first_five_l19_o
    exact ⟨(ex three h1 two h2).1, by rw [letC_def]; exact ⟨fun _ => trivial, fun _ => trivial⟩⟩
  · unfold m_first_five
    simp only [letC_def, dq]
    have inner : ∀ three, m_first_five_l10_s (tab n d) (rng 0 n) () three = oE ((m_lots_of_places (restL n three) 2).findSome? fun two => if decide (0 < m_excess_of (tab n d) three two) = true then some (some (three, two)) else none) := fun three => by
      unfold m_first_five_l10_s
      simp only [letC_def]
      unfold m_first_five_l19
      rw [foldE_opt (o := fun two => if decide (0 < m_excess_of (tab n d) three two) = true then some (some (three, two)) else none)]
      · have bm : ∀ o : Option (Option (List Int × List Int)), bindE (oE o) (fun (r30 : Unit) => (.ok () : Except (Option ((List Int) × (List Int))) Unit)) = oE o := fun o => by cases o <;> rfl
        exact bm _
      · intro two
        unfold m_first_five_l19_s
        simp only [letC_def]
        cases decide (0 < m_excess_of (tab n d) three two) with
        | true => rfl
        | false => rfl
    unfold m_first_five_l10
    rw [foldE_opt (o := fun three => (m_lots_of_places (restL n three) 2).findSome? fun two => if decide (0 < m_excess_of (tab n d) three two) = true then some (some (three, two)) else none) inner, findSome_nest (fun three => m_lots_of_places (restL n three) 2) (fun three two => if decide (0 < m_excess_of (tab n d) three two) = true then some (some (three, two)) else none)]
    have e : (fivesL n).findSome? (fun p => if decide (0 < m_excess_of (tab n d) p.1 p.2) = true then some (some (p.1, p.2)) else none) = ((fivesL n).find? fun p => decide (0 < exc d p.1 p.2)).map some := by
      rw [← findSome_find]
      have : ∀ xs : List (List Int × List Int), (∀ p ∈ xs, p ∈ fivesL n) → xs.findSome? (fun p => if decide (0 < m_excess_of (tab n d) p.1 p.2) = true then some (some (p.1, p.2)) else none) = xs.findSome? (fun p => if (decide (0 < exc d p.1 p.2)) = true then some (some p) else none) := fun xs => by
        induction xs with
        | nil => intro _; rfl
        | cons p xs ih =>
          intro k
          rw [List.findSome?_cons, List.findSome?_cons, ih fun q hq => k q (by simp [hq])]
          have hp := k p (by simp)
          unfold fivesL at hp
          obtain ⟨three, h1, h2⟩ := List.mem_flatMap.mp hp
          obtain ⟨two, h3, rfl⟩ := List.mem_map.mp h2
          rw [(ex three h1 two h3).2]
      exact this _ fun p hp => hp
    rw [show ((m_lots_of_places (rng 0 n) 3).flatMap fun x => ((fun three => m_lots_of_places (restL n three) 2) x).map fun y => (x, y)) = fivesL n from rfl, e]
    cases (fivesL n).find? fun p => decide (0 < exc d p.1 p.2) with
    | none => rfl
    | some r => rfl
theorem first_none {n : Int} {ties : List (Int × Int)} {d : Int → Int → Int} (h : Net n ties d) (k : ∀ x y z u v, Rg n x → Rg n y → Rg n z → Rg n u → Rg n v → x < y → y < z → u < v → u ∉ [x, y, z] → v ∉ [x, y, z] → exc d [x, y, z] [u, v] ≤ 0) : m_first_five (n, ties) = none := by
  rw [(first_at h).2, List.find?_eq_none]
  intro p hp
  obtain ⟨x, y, z, u, v, rfl, h1, h2, h3, h4, h5, h6, h7, h8, h9, h10⟩ := mem_fives h.hi hp
  have := k x y z u v h1 h2 h3 h4 h5 h6 h7 h8 h9 h10
  simp
  exact this

/-! ### told words -/
structure Told (L : Nat) (n : Int) (T : List (Int × Int)) (d : Int → Int → Int) (W : List Wrd) : Prop where
  net : Net n T d
  len : (W.length : Int) = n
  bw : ∀ w ∈ W, Bw L w
  tw : ∀ x y, Rg n x → Rg n y → ham (nth W x) (nth W y) = 2 * d x y
  Lk : L ≤ 1000
  dk : ∀ x y, Rg n x → Rg n y → d x y ≤ 1000
theorem Told.at' {L : Nat} {n : Int} {T : List (Int × Int)} {d : Int → Int → Int} {W : List Wrd} (h : Told L n T d W) {x : Int} (hx : Rg n x) : InB W x ∧ nth W x ∈ W ∧ Bw L (nth W x) := by
  have i : InB W x := .mk hx.1 (by rw [h.len]; exact hx.2)
  exact ⟨i, nth_mem i, h.bw _ (nth_mem i)⟩
theorem letter_row {L : Nat} {w : Wrd} (h : Bw L w) : m_is_letter_row_ok (L : Int) w ∧ m_is_letter_row (L : Int) w = true := by
  have c : ((!(isiB "tuple" ((eT PyData.int) w))) || (!(decide ((w.length : Int) = (L : Int))))) = false := by
    rw [h.1]; simp [isiB, eT]
  constructor
  · unfold m_is_letter_row_ok
    exact ⟨fun _ => trivial, fun _ => trivial⟩
  · unfold m_is_letter_row
    rw [c, cond_false, List.all_eq_true]
    intro b hb
    obtain ⟨a, ha, rfl⟩ := List.mem_map.mp hb
    rcases h.2 a ha with rfl | rfl <;> decide
theorem are_words_at {L : Nat} {W : List Wrd} (h : ∀ w ∈ W, Bw L w) : m_are_words_ok (W.length : Int) W ∧ m_are_words (W.length : Int) W = true := by
  have c : ((!(isiB "tuple" ((eT (eT PyData.int)) W))) || ((!(decide ((W.length : Int) = (W.length : Int)))) || (!((W.map (fun (q3 : (List Int)) => (isiB "tuple" ((eT PyData.int) q3))))).all id))) = false := by
    simp [isiB, eT]
  have z : ∀ w ∈ W, InB W 0 ∧ (nth W 0).length = L := fun w hw => by
    have i : InB W 0 := .mk (by decide) (by have := List.length_pos_of_mem hw; omega)
    exact ⟨i, (h _ (nth_mem i)).1⟩
  constructor
  · unfold m_are_words_ok
    refine ⟨fun _ => trivial, fun _ => ⟨fun w hw => ⟨(z w hw).1, ?_, trivial⟩, trivial⟩⟩
    rw [(z w hw).2]
    exact (letter_row (h w hw)).1
  · unfold m_are_words
    rw [c, cond_false, List.all_eq_true]
    intro b hb
    obtain ⟨a, ha, rfl⟩ := List.mem_map.mp hb
    rw [(z a ha).2]
    exact (letter_row (h a ha)).2
theorem not_twice_at {L : Nat} {n : Int} {T : List (Int × Int)} {d : Int → Int → Int} {W : List Wrd} (h : Told L n T d W) : m_first_not_twice_ok (n, T) W ∧ m_first_not_twice (n, T) W = none := by
  have hi := h.net.hi
  have inner : ∀ q9 : Int × List Int, q9 ∈ enumI 0 W → LOkE (m_first_not_twice_l14_s W (tab n d) q9) (m_first_not_twice_l14_o W (tab n d) q9) () (rng (q9.1 + 1) (W.length : Int)) ∧ m_first_not_twice_l14 W (tab n d) q9 (rng (q9.1 + 1) (W.length : Int)) = .ok () ∧ Rg n q9.1 := fun q9 hq => by
    obtain ⟨i, e⟩ := List.getElem?_of_mem hq
    rw [enumI_get] at e
    have hw : i < W.length := by
      by_cases c : i < W.length
      · exact c
      · rw [List.getElem?_eq_none (by omega)] at e; simp at e
    have hx : Rg n (i : Int) := ⟨by omega, by have := h.len; omega⟩
    have e2 : W[i]? = some (nth W i) := by
      have := nth_at (xs := W) (j := i) (.mk (by omega) (by omega))
      rwa [if_pos (by omega)] at this
    rw [e2] at e
    have e : ((0 : Int) + (i : Int), nth W i) = q9 := by simpa using e
    rw [Int.zero_add] at e
    subst e
    have := foldE_at (f := m_first_not_twice_l14_s W (tab n d) ((i : Int), nth W i)) (ok := m_first_not_twice_l14_o W (tab n d) ((i : Int), nth W i)) (xs := rng ((i : Int) + 1) (W.length : Int)) (fun _ _ => True) (fun _ => False) [] (s := ()) trivial fun p b q s eq _ => by
      have hb : Rg n b := by
        have : (i : Int) + 1 ≤ b ∧ b < W.length := mem_rng.mp (by rw [List.nil_append] at eq; rw [eq]; simp)
        have := h.len
        exact ⟨by omega, by omega⟩
      have c : (!(decide (m_unlike_letters (nth W i) (nth W b) = ((2 : Int) * (getO (nth (nth (tab n d) (i : Int)) b)))))) = false := by
        rw [tab_at hx hb, show m_unlike_letters (nth W i) (nth W b) = ham (nth W i) (nth W b) from ham_zip _ _, h.tw _ _ hx hb]
        simp [getO]
      constructor
      · unfold m_first_not_twice_l14_o
        simp only [letC_def]
        exact ⟨(h.at' hb).1, trivial, tab_inB hx, tab_inB2 hx hb, by rw [tab_at hx hb]; rfl, fun _ => ⟨(h.at' hb).1, trivial, trivial⟩, fun _ => trivial⟩
      · unfold m_first_not_twice_l14_s
        simp only [letC_def, c, cond_false]
    refine ⟨this.1, ?_, hx⟩
    unfold m_first_not_twice_l14
    have t := this.2
    cases e : foldE (m_first_not_twice_l14_s W (tab n d) ((i : Int), nth W i)) () (rng ((i : Int) + 1) (W.length : Int)) with
    | ok u => rfl
    | error r => rw [e] at t; exact t.elim
  have run := foldE_at (f := m_first_not_twice_l7_s W (tab n d)) (ok := m_first_not_twice_l7_o W (tab n d)) (xs := enumI 0 W) (fun _ _ => True) (fun _ => False) [] (s := ()) trivial fun p q9 q s eq _ => by
    obtain ⟨i1, i2, i3⟩ := inner q9 (by rw [List.nil_append] at eq; rw [eq]; simp)
    have ln := h.len
    constructor
    · unfold m_first_not_twice_l7_o
      exact ⟨⟨by have := i3.1; omega, by have := i3.2; omega⟩, ⟨by omega, by omega⟩, i1, fun _ _ => trivial⟩
    · unfold m_first_not_twice_l7_s
      simp only [i2, bindE]
  have ok7 : m_first_not_twice_l7 W (tab n d) (enumI 0 W) = .ok () := by
    unfold m_first_not_twice_l7
    have t := run.2
    cases e : foldE (m_first_not_twice_l7_s W (tab n d)) () (enumI 0 W) with
    | ok u => rfl
    | error r => rw [e] at t; exact t.elim
  constructor
  · unfold m_first_not_twice_ok
    simp only [letC_def, dist_eq h.net]
    exact ⟨dist_ok h.net, run.1, fun _ _ => trivial⟩
  · unfold m_first_not_twice
    simp only [letC_def, dist_eq h.net, ok7, thenE]
theorem twice_at {L : Nat} {n : Int} {T : List (Int × Int)} {d : Int → Int → Int} {W : List Wrd} (h : Told L n T d W) : m_are_twice_ok (n, T) W ∧ m_are_twice (n, T) W = true := by
  obtain ⟨a1, a2⟩ := are_words_at h.bw
  rw [h.len] at a1 a2
  obtain ⟨b1, b2⟩ := not_twice_at h
  constructor
  · unfold m_are_twice_ok
    simp only [letC_def]
    exact ⟨a1, fun _ => ⟨b1, trivial⟩, trivial⟩
  · unfold m_are_twice
    simp only [letC_def, a2, b2]
    rfl
theorem is_twice_at {L : Nat} {n : Int} {T : List (Int × Int)} {d : Int → Int → Int} {W : List Wrd} (h : Told L n T d W) : m_law_is_twice_ok (tab n d) W ∧ m_law_is_twice (tab n d) W = true := by
  have hi := h.net.hi
  have lo := h.net.lo
  have tl : ((tab n d).length : Int) = n := by unfold tab; rw [List.length_map, rng_length]; omega
  have run := foldE_at (f := m_law_is_twice_l6_s (tab n d) W n) (ok := m_law_is_twice_l6_o (tab n d) W n) (xs := rng 0 n) (fun _ _ => True) (fun _ => False) [] (s := ()) trivial fun p a q s eq _ => by
    have ha : Rg n a := mem_rng.mp (by rw [List.nil_append] at eq; rw [eq]; simp)
    have c : (((rng 0 n).filter (fun (q11 : Int) => (!(decide ((m_law_apart (nth W a) (nth W q11)) = ((2 : Int) * (getO (nth (nth (tab n d) a) q11)))))))).map (fun (q11 : Int) => q11)) = ([] : List Int) := by
      rw [List.map_id', List.filter_eq_nil_iff]
      intro b hb
      have hb : Rg n b := mem_rng.mp hb
      rw [tab_at ha hb, show m_law_apart (nth W a) (nth W b) = ham (nth W a) (nth W b) from ham_zip _ _, h.tw _ _ ha hb]
      simp [getO]
    constructor
    · unfold m_law_is_twice_l6_o
      refine ⟨⟨by omega, by omega⟩, fun b hb => ?_, fun _ => trivial, fun _ => trivial⟩
      have hb : Rg n b := mem_rng.mp hb
      exact ⟨(h.at' ha).1, (h.at' hb).1, trivial, tab_inB ha, tab_inB2 ha hb, by rw [tab_at ha hb]; rfl, trivial⟩
    · unfold m_law_is_twice_l6_s
      rw [c]
      simp
  have ok6 : m_law_is_twice_l6 (tab n d) W n (rng 0 n) = .ok () := by
    unfold m_law_is_twice_l6
    have t := run.2
    cases e : foldE (m_law_is_twice_l6_s (tab n d) W n) () (rng 0 n) with
    | ok u => rfl
    | error r => rw [e] at t; exact t.elim
  constructor
  · unfold m_law_is_twice_ok
    simp only [tl]
    exact ⟨⟨by omega, by omega⟩, run.1, fun _ _ => trivial⟩
  · unfold m_law_is_twice
    simp only [tl, ok6, thenE]
theorem told_five {L : Nat} {n : Int} {T : List (Int × Int)} {d : Int → Int → Int} {W : List Wrd} (h : Told L n T d W) : m_first_five_ok (n, T) ∧ m_first_five (n, T) = none := by
  refine ⟨(first_at h.net).1, first_none h.net fun x y z u v hx hy hz hu hv _ _ _ _ _ => ?_⟩
  have := penta (h.at' hx).2.2 (h.at' hy).2.2 (h.at' hz).2.2 (h.at' hu).2.2 (h.at' hv).2.2
  rw [h.tw _ _ hx hy, h.tw _ _ hx hz, h.tw _ _ hy hz, h.tw _ _ hu hv, h.tw _ _ hx hu, h.tw _ _ hx hv, h.tw _ _ hy hu, h.tw _ _ hy hv, h.tw _ _ hz hu, h.tw _ _ hz hv] at this
  rw [exc_eq]
  omega
/-! ### reprs -/
theorem repr_words {L : Nat} {W : List Wrd} (h : ∀ w ∈ W, Bw L w) (hL : L ≤ 1000) (hW : W.length ≤ 64) : ReprOk ((eT (eT PyData.int)) W) := by
  refine (ReprB.eT (n := 64) (B := 1000 * (13 + 2) + 3) (fun w hw => ReprB.eT (n := 1000) (fun a ha => ReprB.int ?_) ?_) hW).ok (by decide)
  · rcases (h w hw).2 a ha with rfl | rfl <;> decide
  · rw [(h w hw).1]; exact hL
theorem repr_web {n : Int} {T : List (Int × Int)} (h : Tied n T) (tl : T.length ≤ 200000) : ReprOk ((eP PyData.int (eT (eP PyData.int PyData.int))) (n, T)) := by
  have lo := h.lo; have hi := h.hi
  refine (ReprB.eP (B := 200000 * ((2 * (13 + 2) + 3) + 2) + 3) ((ReprB.int (by simp only; omega)).mono (by decide)) (ReprB.eT (n := 200000) (fun t ht => ReprB.eP (ReprB.int ?_) (ReprB.int ?_)) tl)).ok (by decide)
  · have := h.rg t ht; omega
  · have := h.rg t ht; omega

theorem fold_len {σ α : Type} {f : List σ → α → List σ} {ok : List σ → α → Prop} {xs : List α} {s : List σ} (L k : Nat) (h : s.length ≤ L) (g : ∀ s x, x ∈ xs → s.length ≤ L + xs.length * k → ok s x ∧ (f s x).length ≤ s.length + k) : LOk f ok s xs ∧ (xs.foldl f s).length ≤ L + xs.length * k := by
  refine foldl_at (fun p (s : List σ) => s.length ≤ L + p.length * k) (by simpa using h) fun p x q s e i => ?_
  have hx : x ∈ xs := by rw [e]; simp
  have hl : p.length + 1 ≤ xs.length := by rw [e]; simp
  have := g s x hx (by have : p.length * k ≤ xs.length * k := Nat.mul_le_mul_right _ (by omega); omega)
  refine ⟨this.1, ?_⟩
  simp only [List.length_append, List.length_singleton, Nat.add_mul]
  omega

/-! ### rings -/
def ringD (n : Int) (x y : Int) : Int := min (if x ≤ y then y - x else x - y) (n - (if x ≤ y then y - x else x - y))
theorem mem_ring {n : Int} (h3 : 3 ≤ n) (a b : Int) : (a, b) ∈ (m_law_ring n).2 ↔ (0 ≤ a ∧ b = a + 1 ∧ b < n) ∨ (a = 0 ∧ b = n - 1) := by
  unfold m_law_ring
  simp only [mem_srt, List.mem_append, List.mem_map, List.mem_singleton, mem_rng, Prod.mk.injEq]
  constructor
  · rintro (⟨c, h, rfl, rfl⟩ | ⟨rfl, rfl⟩)
    · left; omega
    · right; omega
  · rintro (⟨h1, rfl, h2⟩ | ⟨rfl, rfl⟩)
    · exact .inl ⟨a, by omega, rfl, rfl⟩
    · exact .inr ⟨rfl, rfl⟩
theorem ring_net {n : Int} (h3 : 3 ≤ n) (h63 : n ≤ 63) : Net n (m_law_ring n).2 (ringD n) := by
  have adj : ∀ a b, Adj (m_law_ring n).2 a b ↔ ((0 ≤ a ∧ b = a + 1 ∧ b < n) ∨ (a = 0 ∧ b = n - 1)) ∨ ((0 ≤ b ∧ a = b + 1 ∧ a < n) ∨ (b = 0 ∧ a = n - 1)) := fun a b => by
    unfold Adj; rw [mem_ring h3, mem_ring h3]
  refine ⟨⟨by omega, by omega, ?_, fun t ht => ?_⟩, fun x y hx hy => ?_, fun x y hx hy => ?_, fun x a b hx k => ?_, fun x y hx hy ne => ?_⟩
  · unfold m_law_ring
    simp only [srt_length, List.length_append, List.length_map, rng_length, List.length_singleton]; omega
  · have := (mem_ring h3 t.1 t.2).mp ht; omega
  · unfold ringD; unfold Rg at hx hy; split <;> omega
  · unfold ringD; unfold Rg at hx hy; split <;> omega
  · have k := (adj a b).mp k
    unfold ringD; unfold Rg at hx
    by_cases c1 : x ≤ a
    · by_cases c2 : x ≤ b
      · rw [if_pos c1, if_pos c2]; omega
      · rw [if_pos c1, if_neg c2]; omega
    · by_cases c2 : x ≤ b
      · rw [if_neg c1, if_pos c2]; omega
      · rw [if_neg c1, if_neg c2]; omega
  · unfold Rg at hx hy
    have step : ∀ a, Rg n a → Adj (m_law_ring n).2 a y → ringD n x a + 1 = ringD n x y → ∃ a, Rg n a ∧ Adj (m_law_ring n).2 a y ∧ ringD n x a + 1 = ringD n x y := fun a h1 h2 h3 => ⟨a, h1, h2, h3⟩
    by_cases c : x ≤ y
    · by_cases c2 : y - x ≤ n - (y - x)
      · refine step (y - 1) ⟨by omega, by omega⟩ ((adj _ _).mpr (.inl (.inl (by omega)))) ?_
        unfold ringD
        rw [if_pos c, if_pos (by omega)]; omega
      · by_cases c3 : y = n - 1
        · refine step 0 ⟨by omega, by omega⟩ ((adj _ _).mpr (.inl (.inr (by omega)))) ?_
          unfold ringD
          rw [if_pos c]
          by_cases c4 : x ≤ 0
          · rw [if_pos c4]; omega
          · rw [if_neg c4]; omega
        · refine step (y + 1) ⟨by omega, by omega⟩ ((adj _ _).mpr (.inr (.inl (by omega)))) ?_
          unfold ringD
          rw [if_pos c, if_pos (by omega)]; omega
    · by_cases c2 : x - y ≤ n - (x - y)
      · refine step (y + 1) ⟨by omega, by omega⟩ ((adj _ _).mpr (.inr (.inl (by omega)))) ?_
        unfold ringD
        rw [if_neg c]
        by_cases c4 : x ≤ y + 1
        · rw [if_pos c4]; omega
        · rw [if_neg c4]; omega
      · by_cases c3 : y = 0
        · refine step (n - 1) ⟨by omega, by omega⟩ ((adj _ _).mpr (.inr (.inr (by omega)))) ?_
          unfold ringD
          rw [if_neg c]
          rw [if_pos (by omega)]; omega
        · refine step (y - 1) ⟨by omega, by omega⟩ ((adj _ _).mpr (.inl (.inl (by omega)))) ?_
          unfold ringD
          rw [if_neg c, if_neg (by omega)]; omega
def ringW (n q : Int) : Wrd := (rng 0 n).map fun k => b2n (decide (((k - q) % n) < n / 2))
theorem bw_map {n : Int} (p : Int → Bool) : Bw n.toNat ((rng 0 n).map fun k => b2n (p k)) := by
  refine ⟨by rw [List.length_map, rng_length]; omega, fun a ha => ?_⟩
  obtain ⟨k, _, rfl⟩ := List.mem_map.mp ha
  cases p k with
  | true => exact .inr rfl
  | false => exact .inl rfl
theorem ring_words : ∀ n ∈ [(3 : Int), 4, 5, 6, 7, 8, 9, 10, 11, 12, 13, 14, 15, 16, 17, 18, 19, 20], ∀ x ∈ rng 0 n, ∀ y ∈ rng 0 n, ham (ringW n x) (ringW n y) = 2 * ringD n x y := by decide +kernel
theorem ring_due : ∀ n ∈ [(3 : Int), 4, 5, 6, 7, 8, 9, 10, 11, 12, 13, 14, 15, 16, 17, 18, 19, 20], ∀ x ∈ rng 0 n, ((rng 0 n).map (fun (q24 : Int) => (b2n (mem q24 ((rng 0 (n / (2 : Int))).map (fun (q18 : Int) => ((x + q18) % n))))))) = ringW n x := by decide +kernel
theorem few_mem {n : Int} (h3 : 3 ≤ n) (h20 : n ≤ 20) : n ∈ [(3 : Int), 4, 5, 6, 7, 8, 9, 10, 11, 12, 13, 14, 15, 16, 17, 18, 19, 20] := by
  simp only [List.mem_cons, List.not_mem_nil, or_false]
  omega
theorem ring_ok {n : Int} (h3 : 3 ≤ n) (h : n ≤ 63) : m_law_ring_ok n := by
  unfold m_law_ring_ok
  refine ⟨⟨by omega, by omega⟩, ?_, SrtOk.pair _ (by decide), trivial⟩
  show _ ≤ sizeLine
  rw [List.length_map, rng_length, List.length_singleton, sizeLine_eq]; omega
theorem ringt_ok {n : Int} (h3 : 3 ≤ n) (h : n ≤ 63) : m_ring_twice_ok n := by
  unfold m_ring_twice_ok
  exact ⟨⟨by omega, by omega⟩, fun q _ => ⟨⟨by omega, by omega⟩, fun k _ => ⟨by omega, trivial⟩, trivial⟩, trivial⟩
theorem ring_told {n : Int} (h3 : 3 ≤ n) (h20 : n ≤ 20) : Told n.toNat n (m_law_ring n).2 (ringD n) (m_ring_twice n) := by
  refine ⟨ring_net h3 (by omega), ?_, fun w hw => ?_, fun x y hx hy => ?_, by omega, fun x y hx hy => ?_⟩
  · unfold m_ring_twice
    rw [List.length_map, rng_length]; omega
  · unfold m_ring_twice at hw
    obtain ⟨q, _, rfl⟩ := List.mem_map.mp hw
    exact bw_map _
  · unfold m_ring_twice
    simp only
    rw [nth_map_rng hx.1 hx.2, nth_map_rng hy.1 hy.2]
    exact ring_words n (few_mem h3 h20) x (mem_rng.mpr hx) y (mem_rng.mpr hy)
  · unfold ringD; unfold Rg at hx hy; split <;> omega
/-! ### all ties -/
theorem foldl_app {α β : Type} (f : α → List β) : ∀ (xs : List α) (s : List β), xs.foldl (fun s x => s ++ f x) s = s ++ xs.flatMap f
  | [], s => by simp
  | x :: xs, s => by rw [List.foldl_cons, foldl_app f xs]; simp
theorem whole_eq (n : Int) : m_law_whole n = (n, (rng 0 n).flatMap fun x => (rng (x + 1) n).map fun y => (x, y)) := by
  unfold m_law_whole
  simp only [letC_def]
  unfold m_law_whole_l5
  have : m_law_whole_l5_s n = fun s x => s ++ (rng (x + 1) n).map fun y => (x, y) := rfl
  rw [this, foldl_app]; rfl
theorem mem_whole {n : Int} (a b : Int) : (a, b) ∈ (m_law_whole n).2 ↔ 0 ≤ a ∧ a < b ∧ b < n := by
  rw [whole_eq]
  simp only [List.mem_flatMap, List.mem_map, mem_rng, Prod.mk.injEq]
  constructor
  · rintro ⟨x, hx, y, hy, rfl, rfl⟩; omega
  · rintro ⟨h1, h2, h3⟩; exact ⟨a, by omega, b, by omega, rfl, rfl⟩
theorem flatMap_len {α β : Type} {f : α → List β} {k : Nat} : ∀ {xs : List α}, (∀ x ∈ xs, (f x).length ≤ k) → (xs.flatMap f).length ≤ xs.length * k
  | [], _ => by simp
  | x :: xs, h => by
    have := flatMap_len (xs := xs) fun y hy => h y (by simp [hy])
    have := h x (by simp)
    simp only [List.flatMap_cons, List.length_append, List.length_cons, Nat.add_mul]
    omega
theorem whole_len {n : Int} (h0 : 0 ≤ n) (h : n ≤ 63) : (m_law_whole n).2.length ≤ 4096 := by
  rw [whole_eq]
  refine Nat.le_trans (flatMap_len (k := 63) fun x hx => ?_) ?_
  · rw [List.length_map, rng_length]; have := (mem_rng.mp hx).1; omega
  · rw [rng_length]; omega
theorem whole_ok {n : Int} (h0 : 0 ≤ n) (h : n ≤ 63) : m_law_whole_ok n := by
  unfold m_law_whole_ok
  refine ⟨⟨by omega, by omega⟩, (fold_len 0 63 (by simp) fun s x hx hl => ?_).1, by rw [letC_def]; trivial⟩
  have hx := mem_rng.mp hx
  rw [rng_length] at hl
  constructor
  · unfold m_law_whole_l5_o
    refine ⟨⟨by omega, by omega⟩, ⟨by omega, by omega⟩, ?_, trivial⟩
    show _ ≤ sizeLine
    rw [List.length_map, rng_length, sizeLine_eq]; omega
  · unfold m_law_whole_l5_s
    simp only [List.length_append, List.length_map, rng_length]; omega
theorem whole_net {n : Int} (h0 : 1 ≤ n) (h : n ≤ 63) : Net n (m_law_whole n).2 fun x y => if x = y then 0 else 1 := by
  have adj : ∀ a b, Adj (m_law_whole n).2 a b ↔ (0 ≤ a ∧ a < b ∧ b < n) ∨ (0 ≤ b ∧ b < a ∧ a < n) := fun a b => by
    unfold Adj; rw [mem_whole, mem_whole]
  refine ⟨⟨by omega, by omega, by have := whole_len (by omega) h; omega, fun t ht => by have := (mem_whole t.1 t.2).mp ht; omega⟩, fun x y hx hy => ?_, fun x y hx hy => ?_, fun x a b hx k => ?_, fun x y hx hy ne => ?_⟩
  · split <;> omega
  · split <;> omega
  · have k := (adj a b).mp k
    split <;> split <;> omega
  · refine ⟨x, hx, (adj _ _).mpr (by unfold Rg at hx hy; omega), ?_⟩
    simp only
    rw [if_pos trivial, if_neg ne]; omega
theorem wholet_ok {n : Int} (h0 : 0 ≤ n) (h : n ≤ 63) : m_whole_twice_ok n := by
  unfold m_whole_twice_ok
  exact ⟨⟨by omega, by omega⟩, fun q _ => ⟨⟨by omega, by omega⟩, trivial⟩, trivial⟩
theorem ham_units (x y : Int) : ∀ (lo : Int) (k : Nat), ham ((rngN lo k).map fun q => b2n (decide (q = x))) ((rngN lo k).map fun q => b2n (decide (q = y))) = if x = y then 0 else (if lo ≤ x ∧ x < lo + k then 1 else 0) + (if lo ≤ y ∧ y < lo + k then 1 else 0) := fun lo k => by
  induction k generalizing lo with
  | zero =>
    have : rngN lo 0 = [] := rfl
    rw [this]
    simp [ham]
    intro _
    rw [if_neg (by omega), if_neg (by omega)]; rfl
  | succ k ih =>
    have e : rngN lo (k + 1) = lo :: rngN (lo + 1) k := by
      have := rng_cons (a := lo) (b := lo + (k + 1 : Nat)) (by omega)
      unfold rng at this
      rw [show (lo + ((k + 1 : Nat) : Int) - lo).toNat = k + 1 by omega, show (lo + ((k + 1 : Nat) : Int) - (lo + 1)).toNat = k by omega] at this
      exact this
    rw [e, List.map_cons, List.map_cons, ham, ih]
    by_cases c : x = y
    · subst c; simp
    · rw [if_neg c, if_neg c]
      by_cases c1 : lo = x
      · subst c1
        have c2 : ¬ lo = y := c
        simp only [c2, decide_true, decide_false, b2n, if_true]
        rw [if_neg (by decide)]
        rw [if_neg (by omega : ¬ (lo + 1 ≤ lo ∧ lo < lo + 1 + (k : Int))), if_pos (by omega : lo ≤ lo ∧ lo < lo + ((k + 1 : Nat) : Int))]
        by_cases c3 : lo + 1 ≤ y ∧ y < lo + 1 + (k : Int)
        · rw [if_pos c3, if_pos (by omega)]; omega
        · rw [if_neg c3, if_neg (by omega)]; omega
      · by_cases c2 : lo = y
        · subst c2
          simp only [c1, decide_true, decide_false, b2n, if_true]
          rw [if_neg (by decide)]
          rw [if_neg (by omega : ¬ (lo + 1 ≤ lo ∧ lo < lo + 1 + (k : Int))), if_pos (by omega : lo ≤ lo ∧ lo < lo + ((k + 1 : Nat) : Int))]
          by_cases c3 : lo + 1 ≤ x ∧ x < lo + 1 + (k : Int)
          · rw [if_pos c3, if_pos (by omega)]; omega
          · rw [if_neg c3, if_neg (by omega)]; omega
        · simp only [c1, c2, decide_false, if_true]
          by_cases c3 : lo + 1 ≤ x ∧ x < lo + 1 + (k : Int) <;> by_cases c4 : lo + 1 ≤ y ∧ y < lo + 1 + (k : Int)
          · rw [if_pos c3, if_pos c4, if_pos (by omega), if_pos (by omega)]; omega
          · rw [if_pos c3, if_neg c4, if_pos (by omega), if_neg (by omega)]; omega
          · rw [if_neg c3, if_pos c4, if_neg (by omega), if_pos (by omega)]; omega
          · rw [if_neg c3, if_neg c4, if_neg (by omega), if_neg (by omega)]; omega
theorem whole_told {n : Int} (h0 : 1 ≤ n) (h : n ≤ 63) : Told n.toNat n (m_law_whole n).2 (fun x y => if x = y then 0 else 1) (m_whole_twice n) := by
  refine ⟨whole_net h0 h, ?_, fun w hw => ?_, fun x y hx hy => ?_, by omega, fun x y hx hy => ?_⟩
  · unfold m_whole_twice
    rw [List.length_map, rng_length]; omega
  · unfold m_whole_twice at hw
    obtain ⟨q, _, rfl⟩ := List.mem_map.mp hw
    exact bw_map _
  · unfold m_whole_twice
    rw [nth_map_rng hx.1 hx.2, nth_map_rng hy.1 hy.2]
    have := ham_units x y 0 (n - 0).toNat
    rw [if_pos (by unfold Rg at hx; omega : (0 : Int) ≤ x ∧ x < 0 + ((n - 0).toNat : Int)), if_pos (by unfold Rg at hy; omega : (0 : Int) ≤ y ∧ y < 0 + ((n - 0).toNat : Int))] at this
    unfold rng
    rw [this]
    split <;> omega
  · split <;> omega
/-! ### pairs apart -/
def pairsD (x y : Int) : Int := if x = y then 0 else if x / 2 = y / 2 then 2 else 1
theorem pairs_few : ∀ k ∈ [(2 : Int), 3, 4], netB (2 * k) (m_pairs_apart k).2 pairsD = true ∧ ((m_pairs_twice k).length : Int) = 2 * k ∧ (∀ w ∈ m_pairs_twice k, w.length = 4 ∧ ∀ a ∈ w, a = 0 ∨ a = 1) ∧ (∀ x ∈ rng 0 (2 * k), ∀ y ∈ rng 0 (2 * k), ham (nth (m_pairs_twice k) x) (nth (m_pairs_twice k) y) = 2 * pairsD x y) ∧ (m_pairs_apart k).2.length ≤ 4096
    ∧ (((m_law_whole (2 * k)).2.filter (fun (q66 : (Int × Int)) => (!(decide ((q66.1 / (2 : Int)) = (q66.2 / (2 : Int))))))).map (fun (q66 : (Int × Int)) => (q66.1, q66.2))) = (m_pairs_apart k).2 := by decide +kernel
theorem k_mem {k : Int} (h2 : 2 ≤ k) (h4 : k ≤ 4) : k ∈ [(2 : Int), 3, 4] := by
  simp only [List.mem_cons, List.not_mem_nil, or_false]
  omega
theorem pairs_told {k : Int} (h2 : 2 ≤ k) (h4 : k ≤ 4) : Told 4 (2 * k) (m_pairs_apart k).2 pairsD (m_pairs_twice k) := by
  obtain ⟨p1, p2, p3, p4, _⟩ := pairs_few k (k_mem h2 h4)
  exact ⟨netB_net p1 (List.Perm.refl _), p2, fun w hw => ⟨(p3 w hw).1, (p3 w hw).2⟩, fun x y hx hy => p4 x (mem_rng.mpr hx) y (mem_rng.mpr hy), by decide, fun x y _ _ => by unfold pairsD; split <;> (try split) <;> omega⟩

/-! ### words of a cube -/
theorem cube_at {k : Int} (h0 : 0 ≤ k) (h : k ≤ 12) : m_cube_words_ok k ∧ (∀ w ∈ m_cube_words k, Bw k.toNat w) ∧ (m_cube_words k).length ≤ 2 ^ k.toNat := by
  have inner : ∀ (W : List Wrd) (j : Nat), j ≤ 12 → W.length ≤ 2 ^ j → (∀ w ∈ W, Bw j w) → LOk (m_cube_words_l11_s) (m_cube_words_l11_o) [] W ∧ (∀ w ∈ m_cube_words_l11 [] W, Bw (j + 1) w) ∧ (m_cube_words_l11 [] W).length ≤ 2 ^ (j + 1) := fun W j hj hW hb => by
    have big : 2 ^ j ≤ 4096 := by
      have : 2 ^ j ≤ 2 ^ 12 := Nat.pow_le_pow_right (by decide) hj
      exact this
    have := foldl_at (f := m_cube_words_l11_s) (ok := m_cube_words_l11_o) (xs := W) (s := []) (fun p s => (∀ w ∈ s, Bw (j + 1) w) ∧ s.length = 2 * p.length) ⟨by simp, rfl⟩ fun p w q s e i => by
      obtain ⟨i1, i2⟩ := i
      have hw : w ∈ W := by rw [e]; simp
      have hl : p.length + 1 ≤ W.length := by rw [e]; simp
      have bw := hb w hw
      refine ⟨⟨?_, ?_, ?_, trivial⟩, fun u hu => ?_, ?_⟩
      · show _ ≤ sizeLine
        rw [bw.1, sizeLine_eq]; simp; omega
      · show _ ≤ sizeLine
        rw [bw.1, sizeLine_eq]; simp; omega
      · show _ ≤ sizeLine
        rw [i2, sizeLine_eq]; simp; omega
      · unfold m_cube_words_l11_s at hu
        rcases List.mem_append.mp hu with hu | hu
        · exact i1 u hu
        · simp only [List.mem_cons, List.not_mem_nil, or_false] at hu
          rcases hu with rfl | rfl
          · exact bw.snoc (.inl rfl)
          · exact bw.snoc (.inr rfl)
      · unfold m_cube_words_l11_s
        simp only [List.length_append, List.length_cons, List.length_nil, i2]; omega
    unfold m_cube_words_l11
    refine ⟨this.1, this.2.1, ?_⟩
    rw [this.2.2, Nat.pow_succ]; omega
  have := foldl_at (f := m_cube_words_l5_s) (ok := m_cube_words_l5_o) (xs := rng 0 k) (s := [([] : List Int)]) (fun p s => (∀ w ∈ s, Bw p.length w) ∧ s.length ≤ 2 ^ p.length) ⟨fun w hw => ?_, by simp⟩ fun p x q s e i => ?_
  · obtain ⟨w1, w2, w3⟩ := this
    rw [rng_length, Int.sub_zero] at w2 w3
    refine ⟨?_, ?_, ?_⟩
    · unfold m_cube_words_ok
      exact ⟨⟨by omega, by omega⟩, w1, by rw [letC_def]; trivial⟩
    · unfold m_cube_words; simp only [letC_def]; unfold m_cube_words_l5; exact w2
    · unfold m_cube_words; simp only [letC_def]; unfold m_cube_words_l5; exact w3
  · rw [List.mem_singleton] at hw; subst hw; exact ⟨rfl, fun a ha => by simp at ha⟩
  · have hl : p.length + 1 ≤ (k - 0).toNat := by rw [← rng_length, e]; simp
    obtain ⟨a, b, c⟩ := inner s p.length (by omega) i.2 i.1
    constructor
    · unfold m_cube_words_l5_o
      exact ⟨a, by rw [letC_def]; trivial⟩
    · unfold m_cube_words_l5_s
      simp only [letC_def, List.length_append, List.length_singleton]
      exact ⟨b, c⟩
theorem half_at {k : Int} (h0 : 0 ≤ k) (h : k ≤ 12) : m_half_words_ok k ∧ (∀ w ∈ m_half_words k, Bw k.toNat w) ∧ (m_half_words k).length ≤ 2 ^ k.toNat := by
  obtain ⟨a, b, c⟩ := cube_at h0 h
  refine ⟨?_, fun w hw => ?_, ?_⟩
  · unfold m_half_words_ok
    exact ⟨a, by rw [letC_def]; trivial⟩
  · unfold m_half_words at hw
    simp only [letC_def, List.map_id', List.mem_filter] at hw
    exact b w hw.1
  · unfold m_half_words
    simp only [letC_def, List.map_id']
    exact Nat.le_trans (List.length_filter_le _ _) c

theorem pairsa_ok {k : Int} (h2 : 2 ≤ k) (h4 : k ≤ 4) : m_pairs_apart_ok k := by
  unfold m_pairs_apart_ok
  refine ⟨⟨by omega, by omega⟩, ?_, fun x hx => ⟨trivial, fun _ => ⟨⟨⟨by have := (mem_rng.mp hx).1; omega, by have := (mem_rng.mp hx).2; omega⟩, ⟨by omega, by omega⟩, trivial⟩, fun y _ => ⟨trivial, fun _ => trivial⟩⟩⟩, trivial⟩
  have := (pairs_few k (k_mem h2 h4)).2.2.2.2.1
  show _ ≤ sizeLine
  rw [sizeLine_eq]
  exact Nat.le_trans this (by decide)
theorem pairst_ok {k : Int} (h2 : 2 ≤ k) (h4 : k ≤ 4) : m_pairs_twice_ok k := by
  obtain ⟨a, b, c⟩ := half_at (k := 4) (by decide) (by decide)
  have c : (m_half_words 4).length ≤ 16 := c
  unfold m_pairs_twice_ok
  simp only [letC_def]
  refine ⟨a, fun w hw => ⟨.mk (by decide) (by have := (b w hw).1; rw [this]; decide), trivial⟩, ?_, trivial⟩
  have sl : (slc (((m_half_words 4).filter (fun (q5 : List Int) => (decide ((nth q5 (0 : Int)) = (0 : Int))))).map (fun (q5 : (List Int)) => q5)) none (some k)).length ≤ 16 := by
    unfold slc
    rw [List.length_take, List.length_drop, List.length_map]
    have := List.length_filter_le (fun (q5 : List Int) => (decide ((nth q5 (0 : Int)) = (0 : Int)))) (m_half_words 4)
    omega
  refine (fold_len 0 2 (by simp) fun s x hx hl => ?_).1
  constructor
  · unfold m_pairs_twice_l10_o
    refine ⟨?_, trivial⟩
    show _ ≤ sizeLine
    simp only [List.length_cons, List.length_nil]
    rw [sizeLine_eq]; omega
  · unfold m_pairs_twice_l10_s
    simp
/-- what a told web is -/
def Good (n : Int) (r : (Int × List (Int × Int)) × List Wrd) : Prop := ∃ L d, Told L n r.1.2 d r.2 ∧ r.1.1 = n ∧ L ≤ 20 ∧ r.1.2.length ≤ 4096
theorem told_at {s : Src} (hs : SOk s) {most : Int} (h4 : 4 ≤ most) (h8 : most ≤ 20) : m_law_told_ok s most ∧ SOk (m_law_told s most).2 ∧ ∃ n, 3 ≤ n ∧ n ≤ most ∧ Good n (m_law_told s most).1 := by
  have a1 := pick_src 3 hs
  generalize e1 : m_law_pick s 3 = r1 at a1
  have b1 := pick_src (most - 2) a1
  have b2 := pick_lt r1.2 (most := most - 2) (by omega)
  generalize e2 : m_law_pick r1.2 (most - 2) = r2 at b1 b2
  have c1 := pick_src (min 3 (most / 2 - 1)) b1
  have c2 := pick_lt r2.2 (most := min 3 (most / 2 - 1)) (by omega)
  generalize e3 : m_law_pick r2.2 (min 3 (most / 2 - 1)) = r3 at c1 c2
  refine ⟨?_, ?_⟩
  · unfold m_law_told_ok
    simp only [letC_def, e1, e2, e3]
    refine ⟨pick_ok hs (by decide), pick_ok a1 (by omega), fun _ => ⟨ring_ok (by omega) (by omega), ringt_ok (by omega) (by omega), trivial⟩, fun _ => ⟨fun _ => ⟨whole_ok (by omega) (by omega), wholet_ok (by omega) (by omega), trivial⟩, fun _ => ⟨pick_ok b1 (by omega), pairsa_ok (by omega) (by omega), pairst_ok (by omega) (by omega), trivial⟩⟩⟩
  · unfold m_law_told
    simp only [letC_def, e1, e2, e3]
    by_cases w0 : r1.1 = 0
    · rw [decide_eq_true w0]
      refine ⟨b1, 3 + r2.1, by omega, by omega, _, _, ring_told (by omega) (by omega), rfl, by omega, ?_⟩
      simp only [cond_true]
      unfold m_law_ring
      simp only [srt_length, List.length_append, List.length_map, rng_length, List.length_singleton]; omega
    · rw [decide_eq_false w0]
      by_cases w1 : r1.1 = 1
      · rw [decide_eq_true w1]
        exact ⟨b1, 3 + r2.1, by omega, by omega, _, _, whole_told (by omega) (by omega), by rw [cond_false, cond_true, whole_eq], by omega, whole_len (by omega) (by omega)⟩
      · rw [decide_eq_false w1]
        exact ⟨c1, 2 * (2 + r3.1), by omega, by omega, _, _, pairs_told (by omega) (by omega), rfl, by omega, (pairs_few _ (k_mem (by omega) (by omega))).2.2.2.2.1⟩
/-! ### products -/
theorem flatMap_cons_perm {α β : Type} (g : α → β) (h : α → List β) : ∀ ys : List α, (ys.flatMap fun y => g y :: h y).Perm (ys.map g ++ ys.flatMap h)
  | [] => List.Perm.refl _
  | y :: ys => by
    have ih := flatMap_cons_perm g h ys
    simp only [List.flatMap_cons, List.map_cons, List.cons_append]
    refine List.Perm.cons _ ?_
    refine (ih.append_left (h y)).trans ?_
    rw [← List.append_assoc, ← List.append_assoc]
    exact (List.perm_append_comm).append_right _
theorem flatMap_swap {α β γ : Type} (f : α → β → γ) (ys : List β) : ∀ xs : List α, (xs.flatMap fun x => ys.map (f x)).Perm (ys.flatMap fun y => xs.map fun x => f x y)
  | [] => by
    have : (ys.flatMap fun y => ([] : List α).map fun x => f x y) = [] := by simp
    rw [this]; exact List.Perm.refl _
  | x :: xs => by
    simp only [List.flatMap_cons, List.map_cons]
    exact ((flatMap_swap f ys xs).append_left _).trans (flatMap_cons_perm (f x) (fun y => xs.map fun x => f x y) ys).symm
def prodT (n m : Int) (T1 T2 : List (Int × Int)) : List (Int × Int) := ((rng 0 n).flatMap fun x => T2.map fun e => (x * m + e.1, x * m + e.2)) ++ (rng 0 m).flatMap fun y => T1.map fun e => (e.1 * m + y, e.2 * m + y)
theorem mem_prodT {n m : Int} {T1 T2 : List (Int × Int)} (t : Int × Int) : t ∈ prodT n m T1 T2 ↔ (∃ x, Rg n x ∧ ∃ e ∈ T2, t = (x * m + e.1, x * m + e.2)) ∨ ∃ y, Rg m y ∧ ∃ e ∈ T1, t = (e.1 * m + y, e.2 * m + y) := by
  unfold prodT
  simp only [List.mem_append, List.mem_flatMap, List.mem_map, mem_rng]
  constructor
  · rintro (⟨x, hx, e, he, rfl⟩ | ⟨x, hx, e, he, rfl⟩)
    · exact .inl ⟨x, hx, e, he, rfl⟩
    · exact .inr ⟨x, hx, e, he, rfl⟩
  · rintro (⟨x, hx, e, he, rfl⟩ | ⟨x, hx, e, he, rfl⟩)
    · exact .inl ⟨x, hx, e, he, rfl⟩
    · exact .inr ⟨x, hx, e, he, rfl⟩
theorem prodT_len {n m : Int} {T1 T2 : List (Int × Int)} (hn : n ≤ 24) (hm : m ≤ 24) (l1 : T1.length ≤ 4096) (l2 : T2.length ≤ 4096) : (prodT n m T1 T2).length ≤ 200000 := by
  unfold prodT
  rw [List.length_append]
  have a := flatMap_len (f := fun x => T2.map fun e => (x * m + e.1, x * m + e.2)) (k := 4096) (xs := rng 0 n) fun x _ => by rw [List.length_map]; exact l2
  have b := flatMap_len (f := fun y => T1.map fun e => (e.1 * m + y, e.2 * m + y)) (k := 4096) (xs := rng 0 m) fun x _ => by rw [List.length_map]; exact l1
  rw [rng_length] at a b
  omega
theorem mulok {i j : Int} (h : -1000 ≤ j ∧ j ≤ 1000) : DL.MulOk i j := DL.MulOk.litR (by omega)
theorem ties_at {n m : Int} {T1 T2 : List (Int × Int)} (w1 : Tied n T1) (w2 : Tied m T2) (hn : n ≤ 24) (hm : m ≤ 24) (l1 : T1.length ≤ 4096) (l2 : T2.length ≤ 4096) :
    (LOk (m_law_l111_s (m, T2) m) (m_law_l111_o (m, T2) m) [] (rng 0 n) ∧ LOk (m_law_l126_s (n, T1) m) (m_law_l126_o (n, T1) m) (m_law_l111 (m, T2) m [] (rng 0 n)) (rng 0 m))
    ∧ m_law_l126 (n, T1) m (m_law_l111 (m, T2) m [] (rng 0 n)) (rng 0 m) = prodT n m T1 T2
    ∧ m_web_product_ok (n, T1) (m, T2) ∧ m_web_product (n, T1) (m, T2) = (n * m, srt (eP PyData.int PyData.int) (prodT n m T1 T2)) := by
  have n0 := w1.lo; have m0 := w2.lo
  have e1 : m_law_l111 (m, T2) m [] (rng 0 n) = (rng 0 n).flatMap fun x => T2.map fun e => (x * m + e.1, x * m + e.2) := by
    unfold m_law_l111
    have : m_law_l111_s (m, T2) m = fun s x => s ++ T2.map fun e => (x * m + e.1, x * m + e.2) := rfl
    rw [this, foldl_app]; rfl
  have e2 : m_law_l126 (n, T1) m (m_law_l111 (m, T2) m [] (rng 0 n)) (rng 0 m) = prodT n m T1 T2 := by
    unfold m_law_l126
    have : m_law_l126_s (n, T1) m = fun s y => s ++ T1.map fun e => (e.1 * m + y, e.2 * m + y) := rfl
    rw [this, foldl_app, e1]; rfl
  have L1 : ((rng 0 n).flatMap fun x => T2.map fun e => (x * m + e.1, x * m + e.2)).length ≤ 98304 := by
    have a := flatMap_len (f := fun x => T2.map fun e => (x * m + e.1, x * m + e.2)) (k := 4096) (xs := rng 0 n) fun x _ => by rw [List.length_map]; exact l2
    rw [rng_length] at a; omega
  have s1 : m_sorted_ties_l10 m T2 [] (rng 0 n) = (rng 0 n).flatMap fun x => T2.map fun e => ((x * m + e.1, x * m + e.2), (1 : Int)) := by
    unfold m_sorted_ties_l10
    have : m_sorted_ties_l10_s m T2 = fun s x => s ++ T2.map fun e => ((x * m + e.1, x * m + e.2), (1 : Int)) := rfl
    rw [this, foldl_app]; rfl
  have s2 : ∀ r, m_sorted_ties_l24 m r T1 = r ++ T1.flatMap fun e => (rng 0 m).map fun y => ((e.1 * m + y, e.2 * m + y), (0 : Int)) := fun r => by
    unfold m_sorted_ties_l24
    have : m_sorted_ties_l24_s m = fun s e => s ++ (rng 0 m).map fun y => ((e.1 * m + y, e.2 * m + y), (0 : Int)) := rfl
    rw [this, foldl_app]
  have S1 : ((rng 0 n).flatMap fun x => T2.map fun e => ((x * m + e.1, x * m + e.2), (1 : Int))).length ≤ 98304 := by
    have a := flatMap_len (f := fun x => T2.map fun e => ((x * m + e.1, x * m + e.2), (1 : Int))) (k := 4096) (xs := rng 0 n) fun x _ => by rw [List.length_map]; exact l2
    rw [rng_length] at a; omega
  refine ⟨⟨?_, ?_⟩, e2, ?_, ?_⟩
  · refine (fold_len 0 4096 (by simp) fun s x hx hl => ?_).1
    rw [rng_length] at hl
    have hx := mem_rng.mp hx
    constructor
    · unfold m_law_l111_o
      refine ⟨fun e he => ⟨mulok (by omega), mulok (by omega), trivial⟩, ?_, trivial⟩
      show _ ≤ sizeLine
      rw [List.length_map, sizeLine_eq]; simp only; omega
    · unfold m_law_l111_s
      simp only [List.length_append, List.length_map]; omega
  · rw [e1]
    refine (fold_len _ 4096 L1 fun s x hx hl => ?_).1
    rw [rng_length] at hl
    constructor
    · unfold m_law_l126_o
      refine ⟨fun e he => ⟨mulok (by omega), mulok (by omega), trivial⟩, ?_, trivial⟩
      show _ ≤ sizeLine
      rw [List.length_map, sizeLine_eq]; simp only; omega
    · unfold m_law_l126_s
      simp only [List.length_append, List.length_map]; omega
  · unfold m_web_product_ok m_sorted_ties_ok
    simp only [letC_def]
    refine ⟨mulok (by omega), ⟨⟨by omega, by omega⟩, ?_, ?_, SrtOk.pair _ (by decide), trivial⟩, trivial⟩
    · refine (fold_len 0 4096 (by simp) fun s x hx hl => ?_).1
      rw [rng_length] at hl
      constructor
      · unfold m_sorted_ties_l10_o m_pair_number_ok
        refine ⟨fun e he => ⟨⟨mulok (by omega), trivial⟩, ⟨mulok (by omega), trivial⟩, trivial⟩, ?_, trivial⟩
        show _ ≤ sizeLine
        rw [List.length_map, sizeLine_eq]; omega
      · unfold m_sorted_ties_l10_s
        simp only [List.length_append, List.length_map]; omega
    · rw [s1]
      refine (fold_len _ 24 S1 fun s x hx hl => ?_).1
      constructor
      · unfold m_sorted_ties_l24_o m_pair_number_ok
        refine ⟨⟨by omega, by omega⟩, fun y hy => ⟨⟨mulok (by omega), trivial⟩, ⟨mulok (by omega), trivial⟩, trivial⟩, ?_, trivial⟩
        show _ ≤ sizeLine
        rw [List.length_map, rng_length, sizeLine_eq]; omega
      · unfold m_sorted_ties_l24_s
        simp only [List.length_append, List.length_map, rng_length]; omega
  · unfold m_web_product m_sorted_ties
    simp only [letC_def]
    rw [s1, s2, srt_fst]
    congr 1
    refine srt_congr ?_
    rw [List.map_append, List.map_flatMap, List.map_flatMap]
    unfold prodT
    simp only [List.map_map]
    exact ((flatMap_swap (fun e y => (e.1 * m + y, e.2 * m + y)) (rng 0 m) T1).append_left _)
theorem made_at {W1 W2 : List Wrd} {L1 L2 : Nat} (b1 : ∀ w ∈ W1, Bw L1 w) (b2 : ∀ w ∈ W2, Bw L2 w) (hL1 : L1 ≤ 1000) (hL2 : L2 ≤ 1000) (h1 : W1.length ≤ 100) (h2 : W2.length ≤ 100) :
    LOk (m_law_l149_s W2) (m_law_l149_o W2) [] W1 ∧ m_law_l149 W2 [] W1 = W1.flatMap (fun w => W2.map fun v => w ++ v) ∧ m_product_twice_ok W1 W2 ∧ m_product_twice W1 W2 = W1.flatMap fun w => W2.map fun v => w ++ v := by
  have e2 : m_product_twice W1 W2 = W1.flatMap fun w => W2.map fun v => w ++ v := by
    have ft : ∀ {α : Type} (l : List α), l.filter (fun _ => true) = l := fun l => List.filter_eq_self.mpr (by simp)
    unfold m_product_twice lc2
    simp only [ft]
  refine ⟨?_, ?_, ?_, e2⟩
  · refine (fold_len 0 100 (by simp) fun s x hx hl => ?_).1
    constructor
    · unfold m_law_l149_o
      refine ⟨fun v hv => ⟨?_, trivial⟩, ?_, trivial⟩
      · show _ ≤ sizeLine
        rw [(b1 x hx).1, (b2 v hv).1, sizeLine_eq]; omega
      · show _ ≤ sizeLine
        rw [List.length_map, sizeLine_eq]; omega
    · unfold m_law_l149_s
      simp only [List.length_append, List.length_map]; omega
  · unfold m_law_l149
    have : m_law_l149_s W2 = fun s w => s ++ W2.map fun v => w ++ v := rfl
    rw [this, foldl_app]; rfl
  · unfold m_product_twice_ok
    refine ⟨?_, fun w hw => ⟨trivial, fun _ => ⟨trivial, fun v hv => ⟨trivial, fun _ => ⟨?_, trivial⟩⟩⟩⟩, trivial⟩
    · show _ ≤ sizeLine
      have : (m_product_twice W1 W2).length ≤ W1.length * 100 := by
        rw [e2]; exact flatMap_len fun w _ => by rw [List.length_map]; exact h2
      unfold m_product_twice at this
      rw [sizeLine_eq]; omega
    · show _ ≤ sizeLine
      rw [List.length_append, (b1 w hw).1, (b2 v hv).1, sizeLine_eq]; omega
theorem nth_flat {α β γ : Type} [Inhabited α] [Inhabited β] [Inhabited γ] (f : α → β → γ) (ys : List β) {m : Int} (hm : (ys.length : Int) = m) : ∀ (xs : List α) {x y : Int}, Rg xs.length x → Rg m y → nth (xs.flatMap fun a => ys.map (f a)) (x * m + y) = f (nth xs x) (nth ys y)
  | [], x, y, hx, _ => by have := hx.1; have := hx.2; simp at this; omega
  | a :: xs, x, y, hx, hy => by
    rw [List.flatMap_cons]
    by_cases c : x = 0
    · subst c
      rw [Int.zero_mul, Int.zero_add]
      have l : y.toNat < (ys.map (f a)).length := by rw [List.length_map]; have := hy.1; have := hy.2; omega
      rw [nth_nat hy.1, List.getD_eq_getElem?_getD, List.getElem?_append_left l, ← List.getD_eq_getElem?_getD, ← nth_nat hy.1, nth_map hy.1 (by rw [hm]; exact hy.2)]
      rfl
    · have h0 : 0 ≤ x - 1 := by have := hx.1; omega
      have mm : 0 ≤ (x - 1) * m := Int.mul_nonneg h0 (by omega)
      have e : x * m + y = m + ((x - 1) * m + y) := by rw [Int.sub_mul]; omega
      have ih := nth_flat f ys hm xs (x := x - 1) (y := y) ⟨h0, by have := hx.2; simp at this; omega⟩ hy
      have i0 : 0 ≤ (x - 1) * m + y := by have := hy.1; omega
      have ln : (ys.map (f a)).length = m.toNat := by rw [List.length_map]; omega
      rw [e, nth_nat (by omega), List.getD_eq_getElem?_getD, List.getElem?_append_right (by rw [ln]; omega), ln, show (m + ((x - 1) * m + y)).toNat - m.toNat = ((x - 1) * m + y).toNat by omega, ← List.getD_eq_getElem?_getD, ← nth_nat i0, ih]
      have : x = (x - 1) + 1 := by omega
      conv => rhs; rw [this]
      congr 1
      rw [nth_nat h0, nth_nat (i := x - 1 + 1) (by omega), show (x - 1 + 1).toNat = (x - 1).toNat + 1 by omega]
      rfl
theorem told_prod {L1 L2 : Nat} {n m : Int} {T1 T2 : List (Int × Int)} {d1 d2 : Int → Int → Int} {W1 W2 : List Wrd} (h1 : Told L1 n T1 d1 W1) (h2 : Told L2 m T2 d2 W2) (n0 : 0 < n) (m0 : 0 < m) (hnm : n * m < 64) (hn : n ≤ 24) (hm : m ≤ 24) (l1 : T1.length ≤ 4096) (l2 : T2.length ≤ 4096) (hL : L1 + L2 ≤ 1000) (dk1 : ∀ x y, Rg n x → Rg n y → d1 x y ≤ 500) (dk2 : ∀ x y, Rg m x → Rg m y → d2 x y ≤ 500) :
    Told (L1 + L2) (n * m) (srt (eP PyData.int PyData.int) (prodT n m T1 T2)) (fun p q => d1 (p / m) (q / m) + d2 (p % m) (q % m)) (W1.flatMap fun w => W2.map fun v => w ++ v) := by
  have pl := prodT_len hn hm l1 l2
  refine ⟨Net.prod h1.net h2.net n0 m0 hnm (by rw [srt_length]; omega) h1.dk h2.dk (fun t => by rw [mem_srt]; exact mem_prodT t), ?_, fun w hw => ?_, fun p q hp hq => ?_, hL, fun p q hp hq => ?_⟩
  · have : ∀ xs : List Wrd, (xs.flatMap fun w => W2.map fun v => w ++ v).length = xs.length * W2.length := fun xs => by
      induction xs with
      | nil => simp
      | cons x xs ih => rw [List.flatMap_cons, List.length_append, ih, List.length_map, List.length_cons, Nat.succ_mul]; omega
    rw [this, Int.natCast_mul, h1.len, h2.len]
  · obtain ⟨u, hu, h⟩ := List.mem_flatMap.mp hw
    obtain ⟨v, hv, rfl⟩ := List.mem_map.mp h
    exact (h1.bw u hu).append (h2.bw v hv)
  · obtain ⟨p1, p2, p3⟩ := dm_split m0 hp
    obtain ⟨q1, q2, q3⟩ := dm_split m0 hq
    have a := nth_flat (fun w v : Wrd => w ++ v) W2 h2.len W1 (x := p / m) (y := p % m) (by rw [h1.len]; exact p1) p2
    have b := nth_flat (fun w v : Wrd => w ++ v) W2 h2.len W1 (x := q / m) (y := q % m) (by rw [h1.len]; exact q1) q2
    rw [p3] at a; rw [q3] at b
    rw [a, b, ham_append (by rw [(h1.at' p1).2.2.1, (h1.at' q1).2.2.1]), h1.tw _ _ p1 q1, h2.tw _ _ p2 q2]
    omega
  · obtain ⟨p1, p2, _⟩ := dm_split m0 hp
    obtain ⟨q1, q2, _⟩ := dm_split m0 hq
    have := dk1 _ _ p1 q1
    have := dk2 _ _ p2 q2
    omega

theorem foldl_push {α β : Type} (g : α → β) : ∀ (xs : List α) (s : List β), xs.foldl (fun s x => s ++ [g x]) s = s ++ xs.map g
  | [], s => by simp
  | x :: xs, s => by rw [List.foldl_cons, foldl_push g xs]; simp
theorem Told.small {L : Nat} {n : Int} {T : List (Int × Int)} {d : Int → Int → Int} {W : List Wrd} (h : Told L n T d W) (hL : L ≤ 1000) {x y : Int} (hx : Rg n x) (hy : Rg n y) : d x y ≤ 500 := by
  have a := h.tw x y hx hy
  have b := ham_le (nth W x) (nth W y)
  rw [(h.at' hx).2.2.1] at b
  omega
theorem due_at {n : Int} (h3 : 3 ≤ n) (h20 : n ≤ 20) : LOk (m_law_l13_s n) (m_law_l13_o n) [] (rng 0 n) ∧ m_law_l13 n [] (rng 0 n) = m_ring_twice n := by
  constructor
  · refine (fold_len 0 1 (by simp) fun s x hx hl => ?_).1
    rw [rng_length] at hl
    constructor
    · unfold m_law_l13_o
      exact ⟨⟨by omega, by omega⟩, fun q _ => ⟨by omega, trivial⟩, ⟨by omega, by omega⟩, by rw [sizeLine_eq]; omega, trivial⟩
    · unfold m_law_l13_s
      simp
  · unfold m_law_l13
    have : m_law_l13_s n = fun s x => s ++ [((rng 0 n).map (fun (q24 : Int) => (b2n (mem q24 ((rng 0 (n / (2 : Int))).map (fun (q18 : Int) => ((x + q18) % n)))))))] := rfl
    rw [this, foldl_push, List.nil_append]
    unfold m_ring_twice
    exact List.map_congr_left fun x hx => ring_due n (few_mem h3 h20) x hx
/-- one turn of the pairs of places -/
theorem place_at {n m : Int} {T1 T2 : List (Int × Int)} {d1 d2 : Int → Int → Int} (h1 : Net n T1 d1) (h2 : Net m T2 d2) (n0 : 0 < n) (m0 : 0 < m) (h24 : n * m ≤ 24) (hn : n ≤ 24) (hm : m ≤ 24) {s : Src} (hs : SOk s) (q : Int) :
    m_law_l179_o n m (tab n d1) (tab m d2) (tab (n * m) fun p q => d1 (p / m) (q / m) + d2 (p % m) (q % m)) s q ∧ ∃ s', m_law_l179_s n m (tab n d1) (tab m d2) (tab (n * m) fun p q => d1 (p / m) (q / m) + d2 (p % m) (q % m)) s q = .ok s' ∧ SOk s' := by
  have nm : 0 < n * m := Int.mul_pos n0 m0
  have a1 := pick_src (n * m) hs
  have a2 := pick_lt s nm
  generalize e1 : m_law_pick s (n * m) = r at a1 a2
  have b1 := pick_src (n * m) a1
  have b2 := pick_lt r.2 nm
  generalize e2 : m_law_pick r.2 (n * m) = t at b1 b2
  obtain ⟨p1, p2, p3⟩ := dm_split m0 (show Rg (n * m) r.1 from a2)
  obtain ⟨q1, q2, q3⟩ := dm_split m0 (show Rg (n * m) t.1 from b2)
  constructor
  · unfold m_law_l179_o
    simp only [letC_def, e1, e2]
    exact ⟨mulok (by omega), pick_ok hs (by omega), mulok (by omega), pick_ok a1 (by omega), tab_inB a2, tab_inB2 a2 b2, ⟨m0, by omega⟩, tab_inB p1, ⟨m0, by omega⟩, tab_inB2 p1 q1, by rw [tab_at p1 q1]; rfl, m0, tab_inB p2, m0, tab_inB2 p2 q2, by rw [tab_at p2 q2]; rfl, fun _ => trivial, fun _ => trivial⟩
  · refine ⟨t.2, ?_, b1⟩
    unfold m_law_l179_s
    simp only [letC_def, e1, e2]
    rw [tab_at a2 b2, tab_at p1 q1, tab_at p2 q2]
    simp [getO]
theorem turn_at {s : Src × Int × (List (Int × Int)) × (List (List Int))} (hs : SOk s.1) (q : Int) : m_law_l89_o s q ∧ ∃ s', m_law_l89_s s q = .ok s' ∧ SOk s'.1 := by
  obtain ⟨a0, a1, n, a2, a3, L1, d1, a4, a5, a6, a7⟩ := told_at hs (most := 6) (by decide) (by decide)
  generalize e1 : m_law_told s.1 6 = r at a1 a4 a5 a7
  obtain ⟨⟨⟨n0, T1⟩, W1⟩, s1⟩ := r
  have a1 : SOk s1 := a1
  have a4 : Told L1 n T1 d1 W1 := a4
  have a5 : n0 = n := a5
  have a7 : T1.length ≤ 4096 := a7
  subst a5
  have n24 : 4 ≤ 24 / n0 ∧ 24 / n0 ≤ 8 := by
    have : n0 = 3 ∨ n0 = 4 ∨ n0 = 5 ∨ n0 = 6 := by omega
    rcases this with rfl | rfl | rfl | rfl <;> decide
  obtain ⟨b0, b1, m, b2, b3, L2, d2, b4, b5, b6, b7⟩ := told_at a1 (most := 24 / n0) (by omega) (by omega)
  generalize e2 : m_law_told s1 (24 / n0) = r2 at b1 b4 b5 b7
  obtain ⟨⟨⟨m0, T2⟩, W2⟩, s2⟩ := r2
  have b1 : SOk s2 := b1
  have b4 : Told L2 m T2 d2 W2 := b4
  have b5 : m0 = m := b5
  have b7 : T2.length ≤ 4096 := b7
  subst b5
  have nm : n0 * m0 ≤ 24 := by
    have h1 : n0 * m0 ≤ n0 * (24 / n0) := Int.mul_le_mul_of_nonneg_left b3 (by omega)
    have h2 := Int.mul_ediv_self_le (x := 24) (k := n0) (by omega)
    omega
  have six : (decide ((6 : Int) < n0)) = false := decide_eq_false (by omega)
  obtain ⟨⟨t1, t2⟩, t3, t4, t5⟩ := ties_at a4.net.toTied b4.net.toTied (by omega) (by omega) a7 b7
  have w1 : W1.length ≤ 100 := by have := a4.len; omega
  have w2 : W2.length ≤ 100 := by have := b4.len; omega
  obtain ⟨m1, m2, m3, m4⟩ := made_at a4.bw b4.bw a4.Lk b4.Lk w1 w2
  have tp := told_prod a4 b4 (by omega) (by omega) (by omega) (by omega) (by omega) a7 b7 (by omega) (fun x y hx hy => a4.small a4.Lk hx hy) (fun x y hx hy => b4.small b4.Lk hx hy)
  obtain ⟨u1, u2⟩ := twice_at tp
  have rw1 := repr_web tp.net.toTied (by rw [srt_length]; exact prodT_len (by omega) (by omega) a7 b7)
  have rw2 := repr_words tp.bw (by omega) (by have := tp.len; omega)
  obtain ⟨f1, f2⟩ := far_at a4.net
  obtain ⟨g1, g2⟩ := far_at b4.net
  have d1' := dist_ok tp.net
  have d2' := dist_eq tp.net
  obtain ⟨v1, v2⟩ := told_five tp
  have loop := foldE_at (f := m_law_l179_s n0 m0 (tab n0 d1) (tab m0 d2) (tab (n0 * m0) fun p q => d1 (p / m0) (q / m0) + d2 (p % m0) (q % m0))) (ok := m_law_l179_o n0 m0 (tab n0 d1) (tab m0 d2) (tab (n0 * m0) fun p q => d1 (p / m0) (q / m0) + d2 (p % m0) (q % m0))) (xs := rng 0 5) (fun _ s => SOk s) (fun _ => False) [] (s := s2) b1 fun p x q s e i => by
    obtain ⟨h1, s', h2, h3⟩ := place_at a4.net b4.net (by omega) (by omega) nm (by omega) (by omega) i x
    exact ⟨h1, by rw [h2]; exact h3⟩
  obtain ⟨s3, es, hs3⟩ : ∃ s3, foldE (m_law_l179_s n0 m0 (tab n0 d1) (tab m0 d2) (tab (n0 * m0) fun p q => d1 (p / m0) (q / m0) + d2 (p % m0) (q % m0))) s2 (rng 0 5) = .ok s3 ∧ SOk s3 := by
    have := loop.2
    cases e : foldE (m_law_l179_s n0 m0 (tab n0 d1) (tab m0 d2) (tab (n0 * m0) fun p q => d1 (p / m0) (q / m0) + d2 (p % m0) (q % m0))) s2 (rng 0 5) with
    | ok s3 => rw [e] at this; exact ⟨s3, rfl, this⟩
    | error r => rw [e] at this; exact this.elim
  constructor
  · unfold m_law_l89_o
    simp only [letC_def, e1, six, e2, cond_false, t3, t5, m2, m4, f2, g2, d2']
    refine ⟨a0, fun _ => ⟨⟨by omega, by omega⟩, b0, trivial⟩, ⟨by omega, by omega⟩, t1, ⟨by omega, by omega⟩, t2, mulok (by omega), SrtOk.pair _ (by decide), t4, rw1, rw1, fun _ => trivial, fun _ => ⟨m1, m3, rw2, rw2, fun _ => ⟨u1, trivial⟩, fun _ => trivial, fun _ => ⟨f1, g1, d1', loop.1, fun r _ => ⟨mulok (by omega), fun _ => ⟨v1, trivial⟩, fun _ => trivial, fun _ => trivial⟩⟩⟩⟩
  · refine ⟨(s3, n0, prodT n0 m0 T1 T2, W1), ?_, hs3⟩
    unfold m_law_l89_s
    simp only [letC_def, e1, six, e2, cond_false, t3, t5, m2, m4, f2, g2, d2', u2, v2, decide_true, Bool.not_true, Bool.or_false, Option.isSome_none, Bool.and_false]
    unfold m_law_l179
    simp only [six, e2, cond_false, es, bindE]
theorem law_ok : ∀ ns : List Int, ns.length ≤ 63 → m_law_ok ns ∧ m_law ns = true := fun ns hn => by
  have os := open_src hn
  have a1 := pick_src 18 os
  have a2 := pick_lt (m_law_open_cells ns) (most := 18) (by decide)
  generalize e1 : m_law_pick (m_law_open_cells ns) 18 = r at a1 a2
  have h3 : 3 ≤ 3 + r.1 := by omega
  have h20 : 3 + r.1 ≤ 20 := by omega
  generalize hn6 : 3 + r.1 = n at h3 h20
  have b1 := pick_src 3 a1
  have b2 := pick_lt r.2 (most := 3) (by decide)
  generalize e2 : m_law_pick r.2 3 = t at b1 b2
  have k2 : 2 ≤ 2 + t.1 := by omega
  have k4 : 2 + t.1 ≤ 4 := by omega
  generalize hk : 2 + t.1 = k at k2 k4
  obtain ⟨du1, du2⟩ := due_at h3 h20
  have rt := ring_told h3 h20
  have wt := whole_told (n := n) (by omega) (by omega)
  have pt := pairs_told k2 k4
  obtain ⟨rf1, rf2⟩ := far_at rt.net
  obtain ⟨ri1, ri2⟩ := is_twice_at rt
  obtain ⟨ra1, ra2⟩ := twice_at rt
  obtain ⟨wa1, wa2⟩ := twice_at wt
  obtain ⟨pa1, pa2⟩ := twice_at pt
  obtain ⟨pf1, pf2⟩ := far_at pt.net
  obtain ⟨pi1, pi2⟩ := is_twice_at pt
  obtain ⟨p1, p2, p3, p4, p5, p6⟩ := pairs_few k (k_mem k2 k4)
  have er : m_law_ring n = (n, (m_law_ring n).2) := rfl
  have ew : m_law_whole n = (n, (m_law_whole n).2) := by rw [whole_eq]
  have ep : m_pairs_apart k = (2 * k, (m_pairs_apart k).2) := rfl
  rw [← er] at rf1 rf2 ra1 ra2
  rw [← ew] at wa1 wa2
  rw [← ep] at pa1 pa2 pf1 pf2
  have rr := repr_words rt.bw (by omega) (by have := rt.len; omega)
  have wr := repr_words wt.bw (by omega) (by have := wt.len; omega)
  have pr := repr_web pt.net.toTied (by omega)
  rw [← ep] at pr
  have ew2 : ((rng 0 n).map (fun (q42 : Int) => ((rng 0 n).map (fun (q45 : Int) => (b2n (decide (q45 = q42))))))) = m_whole_twice n := rfl
  have run := foldE_at (f := m_law_l89_s) (ok := m_law_l89_o) (xs := rng 0 2) (fun _ s => SOk s.1) (fun _ => False) [] (s := (t.2, n, (m_pairs_apart k).2, m_pairs_twice k)) b1 fun p x q s e i => by
    obtain ⟨t1, s', t2, t3⟩ := turn_at i x
    exact ⟨t1, by rw [t2]; exact t3⟩
  obtain ⟨s', es⟩ : ∃ s', m_law_l89 n t (m_pairs_apart k).2 (m_pairs_twice k) (rng 0 2) = .ok s' := by
    unfold m_law_l89
    cases e : foldE m_law_l89_s (t.2, n, (m_pairs_apart k).2, m_pairs_twice k) (rng 0 2) with
    | ok s' => exact ⟨s', rfl⟩
    | error r => have := run.2; rw [e] at this; exact this.elim
  constructor
  · unfold m_law_ok
    simp only [letC_def, e1, hn6, e2, hk, du2, p6, rf2, pf2]
    refine ⟨open_ok ns, pick_ok os (by decide), ringt_ok h3 (by omega), ⟨by omega, by omega⟩, du1, rr, rr, fun _ => ⟨ring_ok h3 (by omega), rf1, ri1, trivial⟩, fun _ => trivial, fun _ => ⟨wholet_ok (by omega) (by omega), wr, ⟨by omega, by omega⟩, fun q _ => ⟨⟨by omega, by omega⟩, trivial⟩, ?_, fun _ => trivial, fun _ => ⟨whole_ok (by omega) (by omega), wholet_ok (by omega) (by omega), wa1, fun _ => ⟨ring_ok h3 (by omega), ra1, trivial⟩, fun _ => trivial, fun _ => ⟨pick_ok a1 (by decide), whole_ok (by omega) (by omega), pairsa_ok k2 k4, pairst_ok k2 k4, pr, pr, fun _ => ⟨fun _ => ⟨pa1, trivial⟩, trivial⟩, fun _ => trivial, fun _ => ⟨pf1, pi1, fun _ => trivial, fun _ => ⟨run.1, fun _ _ => ⟨ringt_ok (by decide) (by decide), .mk (by decide) (by decide +kernel), fun _ => ⟨wholet_ok (by decide) (by decide), trivial⟩, trivial⟩⟩⟩⟩⟩⟩⟩
    rw [ew2]; exact wr
  · unfold m_law
    simp only [letC_def, e1, hn6, e2, hk, du2, p6, rf2, pf2, ri2, wa2, ra2, pa2, pi2, es, thenE, ew2, p2, decide_true, Bool.not_true, Bool.or_false, cond_false]
    have : (!(decide (((eP PyData.int (eT (eP PyData.int PyData.int))) (m_pairs_apart k)).shown = ((eP PyData.int (eT (eP PyData.int PyData.int))) ((2 * k, (m_pairs_apart k).2) : Int × List (Int × Int))).shown))) = false := by
      rw [← ep]; simp
    rw [this]
    decide +kernel

/-! ### the head -/
def d_neighbours_of : He.DefD := ⟨("neighbours_of", none), "neighbours_of", "neighbours_of", defArgs s_neighbours_of, defBody s_neighbours_of, defScope s_neighbours_of, [], []⟩
def d_distance_row : He.DefD := ⟨("distance_row", none), "distance_row", "distance_row", defArgs s_distance_row, defBody s_distance_row, defScope s_distance_row, [], []⟩
def d_distances_of : He.DefD := ⟨("distances_of", none), "distances_of", "distances_of", defArgs s_distances_of, defBody s_distances_of, defScope s_distances_of, [], []⟩
def d_is_letter_row : He.DefD := ⟨("is_letter_row", none), "is_letter_row", "is_letter_row", defArgs s_is_letter_row, defBody s_is_letter_row, defScope s_is_letter_row, [], []⟩
def d_are_words : He.DefD := ⟨("are_words", none), "are_words", "are_words", defArgs s_are_words, defBody s_are_words, defScope s_are_words, [], []⟩
def d_unlike_letters : He.DefD := ⟨("unlike_letters", none), "unlike_letters", "unlike_letters", defArgs s_unlike_letters, defBody s_unlike_letters, defScope s_unlike_letters, [], []⟩
def d_cube_words : He.DefD := ⟨("cube_words", none), "cube_words", "cube_words", defArgs s_cube_words, defBody s_cube_words, defScope s_cube_words, [], []⟩
def d_half_words : He.DefD := ⟨("half_words", none), "half_words", "half_words", defArgs s_half_words, defBody s_half_words, defScope s_half_words, [], []⟩
def d_first_not_twice : He.DefD := ⟨("first_not_twice", none), "first_not_twice", "first_not_twice", defArgs s_first_not_twice, defBody s_first_not_twice, defScope s_first_not_twice, [], []⟩
def d_are_twice : He.DefD := ⟨("are_twice", none), "are_twice", "are_twice", defArgs s_are_twice, defBody s_are_twice, defScope s_are_twice, [], []⟩
def d_ring_twice : He.DefD := ⟨("ring_twice", none), "ring_twice", "ring_twice", defArgs s_ring_twice, defBody s_ring_twice, defScope s_ring_twice, [], []⟩
def d_whole_twice : He.DefD := ⟨("whole_twice", none), "whole_twice", "whole_twice", defArgs s_whole_twice, defBody s_whole_twice, defScope s_whole_twice, [], []⟩
def d_pairs_apart : He.DefD := ⟨("pairs_apart", none), "pairs_apart", "pairs_apart", defArgs s_pairs_apart, defBody s_pairs_apart, defScope s_pairs_apart, [], []⟩
def d_pairs_twice : He.DefD := ⟨("pairs_twice", none), "pairs_twice", "pairs_twice", defArgs s_pairs_twice, defBody s_pairs_twice, defScope s_pairs_twice, [], []⟩
def d_product_twice : He.DefD := ⟨("product_twice", none), "product_twice", "product_twice", defArgs s_product_twice, defBody s_product_twice, defScope s_product_twice, [], []⟩
def d_steps_within : He.DefD := ⟨("steps_within", none), "steps_within", "steps_within", defArgs s_steps_within, defBody s_steps_within, defScope s_steps_within, [], []⟩
def d_excess_of : He.DefD := ⟨("excess_of", none), "excess_of", "excess_of", defArgs s_excess_of, defBody s_excess_of, defScope s_excess_of, [], []⟩
def d_lots_of_places : He.DefD := ⟨("lots_of_places", none), "lots_of_places", "lots_of_places", defArgs s_lots_of_places, defBody s_lots_of_places, defScope s_lots_of_places, [], []⟩
def d_first_five : He.DefD := ⟨("first_five", none), "first_five", "first_five", defArgs s_first_five, defBody s_first_five, defScope s_first_five, [], []⟩
def d_pair_number : He.DefD := ⟨("pair_number", none), "pair_number", "pair_number", defArgs s_pair_number, defBody s_pair_number, defScope s_pair_number, [], []⟩
def d_sorted_ties : He.DefD := ⟨("sorted_ties", none), "sorted_ties", "sorted_ties", defArgs s_sorted_ties, defBody s_sorted_ties, defScope s_sorted_ties, [], []⟩
def d_web_product : He.DefD := ⟨("web_product", none), "web_product", "web_product", defArgs s_web_product, defBody s_web_product, defScope s_web_product, [], []⟩
def d__law_open_cells : He.DefD := ⟨("_law_open_cells", none), "_law_open_cells", "_law_open_cells", defArgs s__law_open_cells, defBody s__law_open_cells, defScope s__law_open_cells, [], []⟩
def d__law_pick : He.DefD := ⟨("_law_pick", none), "_law_pick", "_law_pick", defArgs s__law_pick, defBody s__law_pick, defScope s__law_pick, [], []⟩
def d__law_apart : He.DefD := ⟨("_law_apart", none), "_law_apart", "_law_apart", defArgs s__law_apart, defBody s__law_apart, defScope s__law_apart, [], []⟩
def d__law_far : He.DefD := ⟨("_law_far", none), "_law_far", "_law_far", defArgs s__law_far, defBody s__law_far, defScope s__law_far, [], []⟩
def d__law_is_twice : He.DefD := ⟨("_law_is_twice", none), "_law_is_twice", "_law_is_twice", defArgs s__law_is_twice, defBody s__law_is_twice, defScope s__law_is_twice, [], []⟩
def d__law_ring : He.DefD := ⟨("_law_ring", none), "_law_ring", "_law_ring", defArgs s__law_ring, defBody s__law_ring, defScope s__law_ring, [], []⟩
def d__law_whole : He.DefD := ⟨("_law_whole", none), "_law_whole", "_law_whole", defArgs s__law_whole, defBody s__law_whole, defScope s__law_whole, [], []⟩
def d__law_told : He.DefD := ⟨("_law_told", none), "_law_told", "_law_told", defArgs s__law_told, defBody s__law_told, defScope s__law_told, [], []⟩
def d_law : He.DefD := ⟨("law", none), "law", "law", defArgs s_law, defBody s_law, defScope s_law, [], []⟩
def fn : List He.DefD := [d_neighbours_of, d_distance_row, d_distances_of, d_is_letter_row, d_are_words, d_unlike_letters, d_cube_words, d_half_words, d_first_not_twice, d_are_twice, d_ring_twice, d_whole_twice, d_pairs_apart, d_pairs_twice, d_product_twice, d_steps_within, d_excess_of, d_lots_of_places, d_first_five, d_pair_number, d_sorted_ties, d_web_product, d__law_open_cells, d__law_pick, d__law_apart, d__law_far, d__law_is_twice, d__law_ring, d__law_whole, d__law_told, d_law]
def fa : List He.Fa := [.glo "neighbours_of", .glo "distance_row", .glo "distances_of", .glo "is_letter_row", .glo "are_words", .glo "unlike_letters", .glo "cube_words", .glo "half_words", .glo "first_not_twice", .glo "are_twice", .glo "ring_twice", .glo "whole_twice", .glo "pairs_apart", .glo "pairs_twice", .glo "product_twice", .glo "steps_within", .glo "excess_of", .glo "lots_of_places", .glo "first_five", .glo "pair_number", .glo "sorted_ties", .glo "web_product", .glo "_law_open_cells", .glo "_law_pick", .glo "_law_apart", .glo "_law_far", .glo "_law_is_twice", .glo "_law_ring", .glo "_law_whole", .glo "_law_told", .glo "law", .free "range", .free "len", .free "sorted", .free "list", .free "tuple", .free "enumerate", .free "zip", .free "sum", .free "max", .free "min", .free "all", .free "any", .free "abs", .free "int", .free "repr", .free "dict", .free "isinstance", .free "bool", .free "str", .free "set"]
abbrev R : PySem.W.OpenRow := PySem.W.OpenLaw.row PySem.Challenge.rw_websincubes_k92_whole_told_words_twice
abbrev hk : PySem.W.Hook := He.hookD 4 fa fn
def ob (s : PySem.W.SharedT) : He.AlD := He.obsDG 4 fa fn (HandSHeadRun.getT s)
theorem ob_eq (s : PySem.W.SharedT) : ob s = hk.obs s.abs := He.obsDG_eq (HandSHeadRun.getT_eq s)
def loose : List PySem.Str := ["neighbours_of", "distance_row", "distances_of", "is_letter_row", "are_words", "unlike_letters", "cube_words", "half_words", "first_not_twice", "are_twice", "ring_twice", "whole_twice", "pairs_apart", "pairs_twice", "product_twice", "steps_within", "excess_of", "lots_of_places", "first_five", "pair_number", "sorted_ties", "web_product", "_law_open_cells", "_law_pick", "_law_apart", "_law_far", "_law_is_twice", "_law_ring", "_law_whole", "_law_told"]
theorem run (w : World) : HandSHeadRun.RunEq R (PySem.W.view R.prog [38]) hk ob 4000 loose w := by
  intro os
  kernel_rfl
theorem facts {P : Program} {w : World} {K : PySem.W.Frag} {h : Heap} {mg : Str → Option Value} {f : Addr} (X : K.In h) (G : h.Ns mainGlobals mg) (hfa : mg ("law" : Str) = some (.ref f)) (c : He.SaysD fa fn K) (hom_law_open_cells : ∀ ns, m_law_open_cells_ok ns) (hok : ∀ ns : List Int, ns.length ≤ 63 → m_law_ok ns ∧ m_law ns = true) :
    ∃ fd : FuncData, (∀ (s : Shared) (v : Value), BindsTo s fd ⟨[v], []⟩ [("script", v)]) ∧ ∀ base : Heap, K.In base → base.Ns mainGlobals mg → FnG P w K mg base 5 f fd ["script"] (spLaw K 63) := by
  have bt : NoB mg := fun x hx => by
    simp only [List.mem_cons, List.not_mem_nil, or_false] at hx
    rcases hx with rfl | rfl | rfl | rfl | rfl | rfl | rfl | rfl | rfl | rfl | rfl | rfl | rfl | rfl | rfl | rfl | rfl | rfl | rfl | rfl
    · exact He.free_ok X G (c.fact 31 (f := .free "range") rfl)
    · exact He.free_ok X G (c.fact 32 (f := .free "len") rfl)
    · exact He.free_ok X G (c.fact 33 (f := .free "sorted") rfl)
    · exact He.free_ok X G (c.fact 34 (f := .free "list") rfl)
    · exact He.free_ok X G (c.fact 35 (f := .free "tuple") rfl)
    · exact He.free_ok X G (c.fact 36 (f := .free "enumerate") rfl)
    · exact He.free_ok X G (c.fact 37 (f := .free "zip") rfl)
    · exact He.free_ok X G (c.fact 38 (f := .free "sum") rfl)
    · exact He.free_ok X G (c.fact 39 (f := .free "max") rfl)
    · exact He.free_ok X G (c.fact 40 (f := .free "min") rfl)
    · exact He.free_ok X G (c.fact 41 (f := .free "all") rfl)
    · exact He.free_ok X G (c.fact 42 (f := .free "any") rfl)
    · exact He.free_ok X G (c.fact 43 (f := .free "abs") rfl)
    · exact He.free_ok X G (c.fact 44 (f := .free "int") rfl)
    · exact He.free_ok X G (c.fact 45 (f := .free "repr") rfl)
    · exact He.free_ok X G (c.fact 46 (f := .free "dict") rfl)
    · exact He.free_ok X G (c.fact 47 (f := .free "isinstance") rfl)
    · exact He.free_ok X G (c.fact 48 (f := .free "bool") rfl)
    · exact He.free_ok X G (c.fact 49 (f := .free "str") rfl)
    · exact He.free_ok X G (c.fact 50 (f := .free "set") rfl)
  obtain ⟨fd_neighbours_of, F_neighbours_of⟩ := c.def_ 0 (d := d_neighbours_of) rfl
  have g_neighbours_of := He.glo_ok X G (c.fact 0 (f := .glo "neighbours_of") rfl)
  have b_neighbours_of : Binds K fd_neighbours_of A_neighbours_of [] := FunD.bindsN F_neighbours_of fun _ _ _ _ _ _ us hl => match us, hl with | [_], _ => rfl
  obtain ⟨fd_distance_row, F_distance_row⟩ := c.def_ 1 (d := d_distance_row) rfl
  have g_distance_row := He.glo_ok X G (c.fact 1 (f := .glo "distance_row") rfl)
  have b_distance_row : Binds K fd_distance_row A_distance_row [] := FunD.bindsN F_distance_row fun _ _ _ _ _ _ us hl => match us, hl with | [_, _], _ => rfl
  obtain ⟨fd_distances_of, F_distances_of⟩ := c.def_ 2 (d := d_distances_of) rfl
  have g_distances_of := He.glo_ok X G (c.fact 2 (f := .glo "distances_of") rfl)
  have b_distances_of : Binds K fd_distances_of A_distances_of [] := FunD.bindsN F_distances_of fun _ _ _ _ _ _ us hl => match us, hl with | [_], _ => rfl
  obtain ⟨fd_is_letter_row, F_is_letter_row⟩ := c.def_ 3 (d := d_is_letter_row) rfl
  have g_is_letter_row := He.glo_ok X G (c.fact 3 (f := .glo "is_letter_row") rfl)
  have b_is_letter_row : Binds K fd_is_letter_row A_is_letter_row [] := FunD.bindsN F_is_letter_row fun _ _ _ _ _ _ us hl => match us, hl with | [_, _], _ => rfl
  obtain ⟨fd_are_words, F_are_words⟩ := c.def_ 4 (d := d_are_words) rfl
  have g_are_words := He.glo_ok X G (c.fact 4 (f := .glo "are_words") rfl)
  have b_are_words : Binds K fd_are_words A_are_words [] := FunD.bindsN F_are_words fun _ _ _ _ _ _ us hl => match us, hl with | [_, _], _ => rfl
  obtain ⟨fd_unlike_letters, F_unlike_letters⟩ := c.def_ 5 (d := d_unlike_letters) rfl
  have g_unlike_letters := He.glo_ok X G (c.fact 5 (f := .glo "unlike_letters") rfl)
  have b_unlike_letters : Binds K fd_unlike_letters A_unlike_letters [] := FunD.bindsN F_unlike_letters fun _ _ _ _ _ _ us hl => match us, hl with | [_, _], _ => rfl
  obtain ⟨fd_cube_words, F_cube_words⟩ := c.def_ 6 (d := d_cube_words) rfl
  have g_cube_words := He.glo_ok X G (c.fact 6 (f := .glo "cube_words") rfl)
  have b_cube_words : Binds K fd_cube_words A_cube_words [] := FunD.bindsN F_cube_words fun _ _ _ _ _ _ us hl => match us, hl with | [_], _ => rfl
  obtain ⟨fd_half_words, F_half_words⟩ := c.def_ 7 (d := d_half_words) rfl
  have g_half_words := He.glo_ok X G (c.fact 7 (f := .glo "half_words") rfl)
  have b_half_words : Binds K fd_half_words A_half_words [] := FunD.bindsN F_half_words fun _ _ _ _ _ _ us hl => match us, hl with | [_], _ => rfl
  obtain ⟨fd_first_not_twice, F_first_not_twice⟩ := c.def_ 8 (d := d_first_not_twice) rfl
  have g_first_not_twice := He.glo_ok X G (c.fact 8 (f := .glo "first_not_twice") rfl)
  have b_first_not_twice : Binds K fd_first_not_twice A_first_not_twice [] := FunD.bindsN F_first_not_twice fun _ _ _ _ _ _ us hl => match us, hl with | [_, _], _ => rfl
  obtain ⟨fd_are_twice, F_are_twice⟩ := c.def_ 9 (d := d_are_twice) rfl
  have g_are_twice := He.glo_ok X G (c.fact 9 (f := .glo "are_twice") rfl)
  have b_are_twice : Binds K fd_are_twice A_are_twice [] := FunD.bindsN F_are_twice fun _ _ _ _ _ _ us hl => match us, hl with | [_, _], _ => rfl
  obtain ⟨fd_ring_twice, F_ring_twice⟩ := c.def_ 10 (d := d_ring_twice) rfl
  have g_ring_twice := He.glo_ok X G (c.fact 10 (f := .glo "ring_twice") rfl)
  have b_ring_twice : Binds K fd_ring_twice A_ring_twice [] := FunD.bindsN F_ring_twice fun _ _ _ _ _ _ us hl => match us, hl with | [_], _ => rfl
  obtain ⟨fd_whole_twice, F_whole_twice⟩ := c.def_ 11 (d := d_whole_twice) rfl
  have g_whole_twice := He.glo_ok X G (c.fact 11 (f := .glo "whole_twice") rfl)
  have b_whole_twice : Binds K fd_whole_twice A_whole_twice [] := FunD.bindsN F_whole_twice fun _ _ _ _ _ _ us hl => match us, hl with | [_], _ => rfl
  obtain ⟨fd_pairs_apart, F_pairs_apart⟩ := c.def_ 12 (d := d_pairs_apart) rfl
  have g_pairs_apart := He.glo_ok X G (c.fact 12 (f := .glo "pairs_apart") rfl)
  have b_pairs_apart : Binds K fd_pairs_apart A_pairs_apart [] := FunD.bindsN F_pairs_apart fun _ _ _ _ _ _ us hl => match us, hl with | [_], _ => rfl
  obtain ⟨fd_pairs_twice, F_pairs_twice⟩ := c.def_ 13 (d := d_pairs_twice) rfl
  have g_pairs_twice := He.glo_ok X G (c.fact 13 (f := .glo "pairs_twice") rfl)
  have b_pairs_twice : Binds K fd_pairs_twice A_pairs_twice [] := FunD.bindsN F_pairs_twice fun _ _ _ _ _ _ us hl => match us, hl with | [_], _ => rfl
  obtain ⟨fd_product_twice, F_product_twice⟩ := c.def_ 14 (d := d_product_twice) rfl
  have g_product_twice := He.glo_ok X G (c.fact 14 (f := .glo "product_twice") rfl)
  have b_product_twice : Binds K fd_product_twice A_product_twice [] := FunD.bindsN F_product_twice fun _ _ _ _ _ _ us hl => match us, hl with | [_, _], _ => rfl
  obtain ⟨fd_steps_within, F_steps_within⟩ := c.def_ 15 (d := d_steps_within) rfl
  have g_steps_within := He.glo_ok X G (c.fact 15 (f := .glo "steps_within") rfl)
  have b_steps_within : Binds K fd_steps_within A_steps_within [] := FunD.bindsN F_steps_within fun _ _ _ _ _ _ us hl => match us, hl with | [_, _], _ => rfl
  obtain ⟨fd_excess_of, F_excess_of⟩ := c.def_ 16 (d := d_excess_of) rfl
  have g_excess_of := He.glo_ok X G (c.fact 16 (f := .glo "excess_of") rfl)
  have b_excess_of : Binds K fd_excess_of A_excess_of [] := FunD.bindsN F_excess_of fun _ _ _ _ _ _ us hl => match us, hl with | [_, _, _], _ => rfl
  obtain ⟨fd_lots_of_places, F_lots_of_places⟩ := c.def_ 17 (d := d_lots_of_places) rfl
  have g_lots_of_places := He.glo_ok X G (c.fact 17 (f := .glo "lots_of_places") rfl)
  have b_lots_of_places : Binds K fd_lots_of_places A_lots_of_places [] := FunD.bindsN F_lots_of_places fun _ _ _ _ _ _ us hl => match us, hl with | [_, _], _ => rfl
  obtain ⟨fd_first_five, F_first_five⟩ := c.def_ 18 (d := d_first_five) rfl
  have g_first_five := He.glo_ok X G (c.fact 18 (f := .glo "first_five") rfl)
  have b_first_five : Binds K fd_first_five A_first_five [] := FunD.bindsN F_first_five fun _ _ _ _ _ _ us hl => match us, hl with | [_], _ => rfl
  obtain ⟨fd_pair_number, F_pair_number⟩ := c.def_ 19 (d := d_pair_number) rfl
  have g_pair_number := He.glo_ok X G (c.fact 19 (f := .glo "pair_number") rfl)
  have b_pair_number : Binds K fd_pair_number A_pair_number [] := FunD.bindsN F_pair_number fun _ _ _ _ _ _ us hl => match us, hl with | [_, _, _], _ => rfl
  obtain ⟨fd_sorted_ties, F_sorted_ties⟩ := c.def_ 20 (d := d_sorted_ties) rfl
  have g_sorted_ties := He.glo_ok X G (c.fact 20 (f := .glo "sorted_ties") rfl)
  have b_sorted_ties : Binds K fd_sorted_ties A_sorted_ties [] := FunD.bindsN F_sorted_ties fun _ _ _ _ _ _ us hl => match us, hl with | [_, _], _ => rfl
  obtain ⟨fd_web_product, F_web_product⟩ := c.def_ 21 (d := d_web_product) rfl
  have g_web_product := He.glo_ok X G (c.fact 21 (f := .glo "web_product") rfl)
  have b_web_product : Binds K fd_web_product A_web_product [] := FunD.bindsN F_web_product fun _ _ _ _ _ _ us hl => match us, hl with | [_, _], _ => rfl
  obtain ⟨fd__law_open_cells, F__law_open_cells⟩ := c.def_ 22 (d := d__law_open_cells) rfl
  have g__law_open_cells := He.glo_ok X G (c.fact 22 (f := .glo "_law_open_cells") rfl)
  have b__law_open_cells : Binds K fd__law_open_cells A__law_open_cells [] := FunD.bindsN F__law_open_cells fun _ _ _ _ _ _ us hl => match us, hl with | [_], _ => rfl
  obtain ⟨fd__law_pick, F__law_pick⟩ := c.def_ 23 (d := d__law_pick) rfl
  have g__law_pick := He.glo_ok X G (c.fact 23 (f := .glo "_law_pick") rfl)
  have b__law_pick : Binds K fd__law_pick A__law_pick [] := FunD.bindsN F__law_pick fun _ _ _ _ _ _ us hl => match us, hl with | [_, _], _ => rfl
  obtain ⟨fd__law_apart, F__law_apart⟩ := c.def_ 24 (d := d__law_apart) rfl
  have g__law_apart := He.glo_ok X G (c.fact 24 (f := .glo "_law_apart") rfl)
  have b__law_apart : Binds K fd__law_apart A__law_apart [] := FunD.bindsN F__law_apart fun _ _ _ _ _ _ us hl => match us, hl with | [_, _], _ => rfl
  obtain ⟨fd__law_far, F__law_far⟩ := c.def_ 25 (d := d__law_far) rfl
  have g__law_far := He.glo_ok X G (c.fact 25 (f := .glo "_law_far") rfl)
  have b__law_far : Binds K fd__law_far A__law_far [] := FunD.bindsN F__law_far fun _ _ _ _ _ _ us hl => match us, hl with | [_], _ => rfl
  obtain ⟨fd__law_is_twice, F__law_is_twice⟩ := c.def_ 26 (d := d__law_is_twice) rfl
  have g__law_is_twice := He.glo_ok X G (c.fact 26 (f := .glo "_law_is_twice") rfl)
  have b__law_is_twice : Binds K fd__law_is_twice A__law_is_twice [] := FunD.bindsN F__law_is_twice fun _ _ _ _ _ _ us hl => match us, hl with | [_, _], _ => rfl
  obtain ⟨fd__law_ring, F__law_ring⟩ := c.def_ 27 (d := d__law_ring) rfl
  have g__law_ring := He.glo_ok X G (c.fact 27 (f := .glo "_law_ring") rfl)
  have b__law_ring : Binds K fd__law_ring A__law_ring [] := FunD.bindsN F__law_ring fun _ _ _ _ _ _ us hl => match us, hl with | [_], _ => rfl
  obtain ⟨fd__law_whole, F__law_whole⟩ := c.def_ 28 (d := d__law_whole) rfl
  have g__law_whole := He.glo_ok X G (c.fact 28 (f := .glo "_law_whole") rfl)
  have b__law_whole : Binds K fd__law_whole A__law_whole [] := FunD.bindsN F__law_whole fun _ _ _ _ _ _ us hl => match us, hl with | [_], _ => rfl
  obtain ⟨fd__law_told, F__law_told⟩ := c.def_ 29 (d := d__law_told) rfl
  have g__law_told := He.glo_ok X G (c.fact 29 (f := .glo "_law_told") rfl)
  have b__law_told : Binds K fd__law_told A__law_told [] := FunD.bindsN F__law_told fun _ _ _ _ _ _ us hl => match us, hl with | [_, _], _ => rfl
  obtain ⟨fd_law, F_law⟩ := c.def_ 30 (d := d_law) rfl
  have e := hfa.symm.trans (He.glo_ok X G (c.fact 30 (f := .glo "law") rfl))
  cases e
  have b := FunD.bindsA (ps := ["script"]) F_law fun _ _ _ _ _ _ us hl => match us, hl with | [_], _ => rfl
  refine ⟨fd_law, fun s v => b s [v] rfl, fun base _ _ => ?_⟩
  have C_m_neighbours_of : Callee P w K mg base "neighbours_of" 1 A_neighbours_of (spP R_m_neighbours_of) := ⟨_, _, g_neighbours_of, F_neighbours_of.kp, b_neighbours_of, fn_m_neighbours_of bt  F_neighbours_of⟩
  have C_m_distance_row : Callee P w K mg base "distance_row" 1 A_distance_row (spP R_m_distance_row) := ⟨_, _, g_distance_row, F_distance_row.kp, b_distance_row, fn_m_distance_row bt  F_distance_row⟩
  have C_m_distances_of : Callee P w K mg base "distances_of" 2 A_distances_of (spP R_m_distances_of) := ⟨_, _, g_distances_of, F_distances_of.kp, b_distances_of, fn_m_distances_of bt C_m_neighbours_of C_m_distance_row F_distances_of⟩
  have C_m_is_letter_row : Callee P w K mg base "is_letter_row" 1 A_is_letter_row (spP R_m_is_letter_row) := ⟨_, _, g_is_letter_row, F_is_letter_row.kp, b_is_letter_row, fn_m_is_letter_row bt  F_is_letter_row⟩
  have C_m_are_words : Callee P w K mg base "are_words" 2 A_are_words (spP R_m_are_words) := ⟨_, _, g_are_words, F_are_words.kp, b_are_words, fn_m_are_words bt C_m_is_letter_row F_are_words⟩
  have C_m_unlike_letters : Callee P w K mg base "unlike_letters" 1 A_unlike_letters (spP R_m_unlike_letters) := ⟨_, _, g_unlike_letters, F_unlike_letters.kp, b_unlike_letters, fn_m_unlike_letters bt  F_unlike_letters⟩
  have C_m_cube_words : Callee P w K mg base "cube_words" 1 A_cube_words (spP R_m_cube_words) := ⟨_, _, g_cube_words, F_cube_words.kp, b_cube_words, fn_m_cube_words bt  F_cube_words⟩
  have C_m_half_words : Callee P w K mg base "half_words" 2 A_half_words (spP R_m_half_words) := ⟨_, _, g_half_words, F_half_words.kp, b_half_words, fn_m_half_words bt C_m_cube_words F_half_words⟩
  have C_m_first_not_twice : Callee P w K mg base "first_not_twice" 3 A_first_not_twice (spP R_m_first_not_twice) := ⟨_, _, g_first_not_twice, F_first_not_twice.kp, b_first_not_twice, fn_m_first_not_twice bt C_m_distances_of C_m_unlike_letters F_first_not_twice⟩
  have C_m_are_twice : Callee P w K mg base "are_twice" 4 A_are_twice (spP R_m_are_twice) := ⟨_, _, g_are_twice, F_are_twice.kp, b_are_twice, fn_m_are_twice bt C_m_are_words C_m_first_not_twice F_are_twice⟩
  have C_m_ring_twice : Callee P w K mg base "ring_twice" 1 A_ring_twice (spP R_m_ring_twice) := ⟨_, _, g_ring_twice, F_ring_twice.kp, b_ring_twice, fn_m_ring_twice bt  F_ring_twice⟩
  have C_m_whole_twice : Callee P w K mg base "whole_twice" 1 A_whole_twice (spP R_m_whole_twice) := ⟨_, _, g_whole_twice, F_whole_twice.kp, b_whole_twice, fn_m_whole_twice bt  F_whole_twice⟩
  have C_m_pairs_apart : Callee P w K mg base "pairs_apart" 1 A_pairs_apart (spP R_m_pairs_apart) := ⟨_, _, g_pairs_apart, F_pairs_apart.kp, b_pairs_apart, fn_m_pairs_apart bt  F_pairs_apart⟩
  have C_m_pairs_twice : Callee P w K mg base "pairs_twice" 3 A_pairs_twice (spP R_m_pairs_twice) := ⟨_, _, g_pairs_twice, F_pairs_twice.kp, b_pairs_twice, fn_m_pairs_twice bt C_m_half_words F_pairs_twice⟩
  have C_m_product_twice : Callee P w K mg base "product_twice" 1 A_product_twice (spP R_m_product_twice) := ⟨_, _, g_product_twice, F_product_twice.kp, b_product_twice, fn_m_product_twice bt  F_product_twice⟩
  have C_m_steps_within : Callee P w K mg base "steps_within" 1 A_steps_within (spP R_m_steps_within) := ⟨_, _, g_steps_within, F_steps_within.kp, b_steps_within, fn_m_steps_within bt  F_steps_within⟩
  have C_m_excess_of : Callee P w K mg base "excess_of" 2 A_excess_of (spP R_m_excess_of) := ⟨_, _, g_excess_of, F_excess_of.kp, b_excess_of, fn_m_excess_of bt C_m_steps_within F_excess_of⟩
  have C_m_lots_of_places : Callee P w K mg base "lots_of_places" 1 A_lots_of_places (spP R_m_lots_of_places) := ⟨_, _, g_lots_of_places, F_lots_of_places.kp, b_lots_of_places, fn_m_lots_of_places bt  F_lots_of_places⟩
  have C_m_first_five : Callee P w K mg base "first_five" 3 A_first_five (spP R_m_first_five) := ⟨_, _, g_first_five, F_first_five.kp, b_first_five, fn_m_first_five bt C_m_distances_of C_m_lots_of_places C_m_excess_of F_first_five⟩
  have C_m_pair_number : Callee P w K mg base "pair_number" 1 A_pair_number (spP R_m_pair_number) := ⟨_, _, g_pair_number, F_pair_number.kp, b_pair_number, fn_m_pair_number bt  F_pair_number⟩
  have C_m_sorted_ties : Callee P w K mg base "sorted_ties" 2 A_sorted_ties (spP R_m_sorted_ties) := ⟨_, _, g_sorted_ties, F_sorted_ties.kp, b_sorted_ties, fn_m_sorted_ties bt C_m_pair_number F_sorted_ties⟩
  have C_m_web_product : Callee P w K mg base "web_product" 3 A_web_product (spP R_m_web_product) := ⟨_, _, g_web_product, F_web_product.kp, b_web_product, fn_m_web_product bt C_m_sorted_ties F_web_product⟩
  have C_m_law_open_cells : Callee P w K mg base "_law_open_cells" 1 A__law_open_cells (spO K m_law_open_cells) := ⟨_, _, g__law_open_cells, F__law_open_cells.kp, b__law_open_cells, fn_m_law_open_cells bt  F__law_open_cells hom_law_open_cells⟩
  have C_m_law_pick : Callee P w K mg base "_law_pick" 1 A__law_pick (spS R_m_law_pick) := ⟨_, _, g__law_pick, F__law_pick.kp, b__law_pick, fn_m_law_pick bt  F__law_pick⟩
  have C_m_law_apart : Callee P w K mg base "_law_apart" 1 A__law_apart (spP R_m_law_apart) := ⟨_, _, g__law_apart, F__law_apart.kp, b__law_apart, fn_m_law_apart bt  F__law_apart⟩
  have C_m_law_far : Callee P w K mg base "_law_far" 1 A__law_far (spP R_m_law_far) := ⟨_, _, g__law_far, F__law_far.kp, b__law_far, fn_m_law_far bt  F__law_far⟩
  have C_m_law_is_twice : Callee P w K mg base "_law_is_twice" 2 A__law_is_twice (spP R_m_law_is_twice) := ⟨_, _, g__law_is_twice, F__law_is_twice.kp, b__law_is_twice, fn_m_law_is_twice bt C_m_law_apart F__law_is_twice⟩
  have C_m_law_ring : Callee P w K mg base "_law_ring" 1 A__law_ring (spP R_m_law_ring) := ⟨_, _, g__law_ring, F__law_ring.kp, b__law_ring, fn_m_law_ring bt  F__law_ring⟩
  have C_m_law_whole : Callee P w K mg base "_law_whole" 1 A__law_whole (spP R_m_law_whole) := ⟨_, _, g__law_whole, F__law_whole.kp, b__law_whole, fn_m_law_whole bt  F__law_whole⟩
  have C_m_law_told : Callee P w K mg base "_law_told" 4 A__law_told (spS R_m_law_told) := ⟨_, _, g__law_told, F__law_told.kp, b__law_told, fn_m_law_told bt C_m_law_pick C_m_law_ring C_m_ring_twice C_m_law_whole C_m_whole_twice C_m_pairs_apart C_m_pairs_twice F__law_told⟩
  exact fn_m_law bt C_m_law_open_cells C_m_law_pick C_m_ring_twice C_m_law_is_twice C_m_law_far C_m_law_ring C_m_whole_twice C_m_are_twice C_m_law_whole C_m_pairs_apart C_m_pairs_twice C_m_law_told C_m_web_product C_m_product_twice C_m_distances_of C_m_first_five F_law hok

end K92
open PySem PySem.W PySem.Calls PyProof.Rows
set_option maxRecDepth 100000 in
set_option maxHeartbeats 0 in
theorem PySem.Challenge.cw_websincubes_k92_whole_told_words_twice_holds : PySem.Challenge.rw_websincubes_k92_whole_told_words_twice.Holds := by
  w_on; o_law
  refine HandSHeadRun.head_any (r := OpenLaw.row PySem.Challenge.rw_websincubes_k92_whole_told_words_twice) (q := view (OpenLaw.row PySem.Challenge.rw_websincubes_k92_whole_told_words_twice).prog [38]) (H := K92.hk) (ob := K92.ob) (M := 4000) (loose := K92.loose) (d := HandSHeadRun.topDef (OpenLaw.row PySem.Challenge.rw_websincubes_k92_whole_told_words_twice).prog 38) (kwd := []) K92.ob_eq
    (by kernel_rfl) (fun s => by kernel_rfl) K92.run (by kernel_rfl) (by kernel_rfl) (by kernel_rfl) (by rfl) (by first | assumption | decide +kernel) (by decide +kernel) ⟨rfl, rfl, rfl, rfl, rfl, by decide +kernel⟩ ?hw ?hc
  case hw => w_witness2
  case hc =>
    refine DL.law_walk (l := PySem.Challenge.rw_websincubes_k92_whole_told_words_twice) (n := 63) (k := 5) (x := "script") rfl (by decide) (by kernel_rfl) ⟨rfl, by decide, by decide⟩ ?F
    intro w mg fa h Y G hmg0
    obtain ⟨K, KX, c⟩ := Y
    have hmg : mg ("law" : PySem.Str) = some (.ref fa) := by
      have e : (HandSHeadRun.topDef (OpenLaw.row PySem.Challenge.rw_websincubes_k92_whole_told_words_twice).prog 38).name = ("law" : PySem.Str) := by kernel_rfl
      rw [← e]
      exact hmg0
    obtain ⟨fd, hb, hF⟩ := K92.facts (P := (PySem.Challenge.rw_websincubes_k92_whole_told_words_twice).prog) (w := w) KX G hmg c K92.open_ok K92.law_ok
    exact ⟨K, fd, KX, hb, hF⟩

