import PyProof.Rows.All
import HandS.Dict
import KE.KeyNested
import HandS.List
import HandS.ForMost
import HandS.ForExc
import HandS.TupAny
import HandS.Deep
import HandS.IsInst
import HandS.Zip
import HandS.Conv
import HandS.More
import HandS.Flow
import HandS.Style
import HandS.Strs
import HandS.SetKeys
import HandS.TupSets
import HandS.SortKw
import HandS.SortInts
import HandS.Wide
import HandS.TupLe
import HandS.TupMul
import HandS.WordsExc
import HandS.Lambda
import PyProof.StrOps2
import KE.SortData
import HandS.Set
import HandS.SetBool
import KE.SortKeyHeap
import HandS.EndTab
import HandS.Iter
import HandS.DictEq
import KE.KEqDict
import HandS.New
import HandS.Call
import HandS.Exc
import HandS.ExcOwn
import HandS.ExcIs
import PyProof.DictRoadsH
import PyProof.DictMoreH
import KE.KDictCopyH
import HandS.Replace
import HandS.Text
import PySem.Challenge.RW_partmeet_k09_malformed_packs
import Wide.All
import OpenK.AllK
import Wide.FinOn
set_option Elab.async false
set_option linter.all false
set_option maxRecDepth 100000
set_option autoImplicit false
namespace PM
open PySem PySem.Spec L2
open Sem (wp)
open PyProof.Rows hiding St

/-! ### dicts whose keys are nested data, None among them -/
abbrev NEnt := NestedKey × Value × Value
def nEnt (w : World) (x : NEnt) : DictEntry := ⟨x.1.hash w, x.2.1, x.2.2⟩
def nKeyAt (xs : List NEnt) (k : NestedKey) (i : Nat) : Bool := match xs[i]? with
  | some x => decide (x.1 = k)
  | none => false
section
variable {prog : Program} {w : World} {A : Around} {E : Value → Shared → Prop} {s : Shared}
/-- what a search among places gives -/
structure NSeek (w : World) (s : Shared) (xs : List NEnt) (es : Array DictEntry) : Prop where
  ent : ∀ i : Nat, es[i]? = (xs[i]?).map (nEnt w)
  sz : es.size = xs.length
  key : ∀ x ∈ xs, NestedIs s.heap x.1 x.2.1 ∧ x.1.depth ≤ 8
  nd : (xs.map (·.1)).Nodup
theorem NSeek.one {xs : List NEnt} {es : Array DictEntry} (S : NSeek w s xs es) {k : NestedKey} {i j : Nat} (hi : nKeyAt xs k i = true) (hj : nKeyAt xs k j = true) : i = j := by
  unfold nKeyAt at hi hj
  cases ei : xs[i]? with
  | none => rw [ei] at hi; cases hi
  | some x =>
    cases ej : xs[j]? with
    | none => rw [ej] at hj; cases hj
    | some y =>
      rw [ei] at hi
      rw [ej] at hj
      have e1 : (xs.map (·.1))[i]? = some k := by rw [List.getElem?_map, ei]; exact congrArg some (of_decide_eq_true hi)
      have e2 : (xs.map (·.1))[j]? = some k := by rw [List.getElem?_map, ej]; exact congrArg some (of_decide_eq_true hj)
      exact (List.getElem?_inj (List.getElem?_eq_some_iff.mp e1).1 S.nd).mp (e1.trans e2.symm)
/-- where a search stands, l the places that are left -/
def nHit (xs : List NEnt) (k : NestedKey) (Q : Option Nat → Shared → Prop) (s : Shared) (l : List Nat) : Option Nat → Prop
  | some j => nKeyAt xs k j = true ∧ j ∉ l ∧ Q (some j) s
  | none => Q (l.find? (nKeyAt xs k)) s
/-- the end of a search -/
theorem NSeek.fin {xs : List NEnt} {es : Array DictEntry} (S : NSeek w s xs es) {k : NestedKey} {Q : Option Nat → Shared → Prop}
    (hnone : (∀ (j : Nat) (p : Value × Value), xs[j]? ≠ some (k, p)) → Q none s) (hsome : ∀ (j : Nat) (p : Value × Value), xs[j]? = some (k, p) → Q (some j) s) :
    Q ((placesWithHash es.size (fun i => es[i]?.map (·.hash)) (k.hash w)).find? (nKeyAt xs k)) s := by
  cases e : (placesWithHash es.size (fun i => es[i]?.map (·.hash)) (k.hash w)).find? (nKeyAt xs k) with
  | none =>
    refine hnone fun j p hj => ?_
    have hm : j ∈ placesWithHash es.size (fun i => es[i]?.map (·.hash)) (k.hash w) := by
      unfold placesWithHash
      rw [List.mem_filter, List.mem_range, S.sz]
      refine ⟨(List.getElem?_eq_some_iff.mp hj).1, ?_⟩
      dsimp only
      rw [S.ent j, hj]
      exact beq_self_eq_true _
    have := List.find?_eq_none.mp e j hm
    refine this ?_
    unfold nKeyAt
    rw [hj]
    exact decide_eq_true rfl
  | some i =>
    have h1 := List.find?_some e
    unfold nKeyAt at h1
    cases ei : xs[i]? with
    | none => rw [ei] at h1; cases h1
    | some x =>
      rw [ei] at h1
      have : x.1 = k := of_decide_eq_true h1
      exact hsome i x.2 (by rw [ei, ← this])
theorem places_lt {n : Nat} {f : Nat → Option Int} {h : Int} {i : Nat} (hi : i ∈ placesWithHash n f h) : i < n := by
  unfold placesWithHash at hi
  exact List.mem_range.mp (List.mem_filter.mp hi).1
theorem places_nd (n : Nat) (f : Nat → Option Int) (h : Int) : (placesWithHash n f h).Nodup := by
  unfold placesWithHash
  exact List.Nodup.sublist List.filter_sublist List.nodup_range

theorem quiet_n {key : Value} {k : NestedKey} {stored : List Value} {Q : Bool → Shared → Prop} (hkey : NestedIs s.heap k key) (hkd : k.depth ≤ 8)
    (hst : ∀ v ∈ stored, ∃ k', NestedIs s.heap k' v ∧ k'.depth ≤ 8) (h : Q false s) : wpAny (model prog w) A (tableMayTell key stored) Q E s := by
  unfold tableMayTell
  by_cases he : stored.isEmpty = true
  · rw [if_pos he]
    exact wpAny_pure h
  · rw [if_neg he]
    refine wpAny_bind (quiet_key k _ 8 s hkey hkd A E _ ?_)
    simp only [Bool.not_true, Bool.false_eq_true, if_false]
    refine wpAny_bind ?_
    refine wpAny_forIn_list _ (fun l b s2 => s2 = s ∧ b = (none, ()) ∧ ∀ v ∈ l, ∃ k', NestedIs s.heap k' v ∧ k'.depth ≤ 8) _ ?_ ?_ _ _ ⟨rfl, rfl, hst⟩
    · intro y l b s2 hy
      obtain ⟨rfl, rfl, hl⟩ := hy
      obtain ⟨k', h1, h2⟩ := hl y List.mem_cons_self
      refine wpAny_bind (quiet_key k' _ 8 s2 h1 h2 A E _ ?_)
      simp only [Bool.not_true, Bool.false_eq_true, if_false]
      exact wpAny_pure ⟨rfl, rfl, fun v hv => hl v (List.mem_cons_of_mem _ hv)⟩
    · intro b s2 hy
      obtain ⟨rfl, rfl, _⟩ := hy
      exact wpAny_pure h
theorem eq_n {x y : NestedKey} {a b : Value} {Q : Bool → Shared → Prop} (hu : A.units + 8 < cLine) (hx : NestedIs s.heap x a) (hy : NestedIs s.heap y b) (dx : x.depth ≤ 8) (h : Q (decide (x = y)) s) : wpAny (model prog w) A (eqBool a b) Q E s :=
  eqAt_key x y A s a b hx hy (by omega) _ _ _ _ (by rw [← NestedKey.decide_eq]; exact h)

theorem find_n {d : Addr} {key : Value} {o : Obj} {es : Array DictEntry} {ep : Nat} {xs : List NEnt} {k : NestedKey} {Q : Option Nat → Shared → Prop} (hu : A.units + 8 < cLine) (hkey : NestedIs s.heap k key) (hkd : k.depth ≤ 8) (hns : (∃ a, key = .ref a) ∨ key = .none)
    (ho : s.heap.get? d = some o) (hd : o.data = .dict es ep) (S : NSeek w s xs es)
    (hnone : (∀ (j : Nat) (p : Value × Value), xs[j]? ≠ some (k, p)) → Q none s) (hsome : ∀ (j : Nat) (p : Value × Value), xs[j]? = some (k, p) → Q (some j) s) :
    wpAny (model prog w) A (dictFind d key (k.hash w)) Q E s := by
  have QF := S.fin hnone hsome
  generalize hpl : placesWithHash es.size (fun i => es[i]?.map (·.hash)) (k.hash w) = pl at QF
  have hlt : ∀ i ∈ pl, i < es.size := fun i hi => places_lt (by rw [hpl]; exact hi)
  have hnd : pl.Nodup := by rw [← hpl]; exact places_nd _ _ _
  have entx : ∀ i, i < es.size → ∃ x, xs[i]? = some x ∧ es[i]? = some (nEnt w x) ∧ NestedIs s.heap x.1 x.2.1 ∧ x.1.depth ≤ 8 := fun i hi => by
    obtain ⟨x, hx⟩ : ∃ x, xs[i]? = some x := ⟨xs[i]'(by rw [← S.sz]; exact hi), List.getElem?_eq_getElem _⟩
    exact ⟨x, hx, by rw [S.ent i, hx]; rfl, S.key x (List.mem_of_getElem? hx)⟩
  have hst : ∀ v ∈ pl.filterMap (fun i => es[i]?.map (·.key)), ∃ k', NestedIs s.heap k' v ∧ k'.depth ≤ 8 := by
    intro v hv
    obtain ⟨i, mi, hi⟩ := List.mem_filterMap.mp hv
    obtain ⟨x, _, h2, h3⟩ := entx i (hlt i mi)
    rw [h2] at hi
    obtain rfl : x.2.1 = v := Option.some.inj hi
    exact ⟨x.1, h3⟩
  have plain : wpAny (model prog w) A (dictWalkPlain d key (k.hash w) es pl) Q E s := by
    unfold dictWalkPlain
    refine wpAny_bind ?_
    refine wpAny_forIn_list _ (fun l b s2 => s2 = s ∧ b = (none, ()) ∧ (∀ i ∈ l, i < es.size) ∧ Q (l.find? (nKeyAt xs k)) s) _ ?_ ?_ _ _ ⟨rfl, rfl, hlt, QF⟩
    · intro i l b s2 hy
      obtain ⟨rfl, rfl, hl, hq⟩ := hy
      obtain ⟨x, hx1, hx2, hx3, hx4⟩ := entx i (hl i List.mem_cons_self)
      have hl2 : ∀ j ∈ l, j < es.size := fun j hj => hl j (List.mem_cons_of_mem _ hj)
      have km : nKeyAt xs k i = decide (x.1 = k) := by unfold nKeyAt; rw [hx1]
      rw [List.find?_cons, km] at hq
      simp only [hx2]
      by_cases hh : ((nEnt w x).hash == k.hash w) = true
      · rw [if_pos hh]
        refine wpAny_bind (wpAny_dictEpoch ho hd (wpAny_bind (eq_n hu hx3 hkey hx4 (wpAny_bind (wpAny_dictEpoch ho hd ?_)))))
        show wpAny _ _ (if (ep != ep) = true then _ else _) _ E _
        rw [if_neg (by simp)]
        by_cases hk : x.1 = k
        · rw [decide_eq_true hk] at hq ⊢
          exact wpAny_bind (wpAny_rule (wpAny_pure (wpAny_pure hq)))
        · rw [decide_eq_false hk] at hq ⊢
          exact wpAny_bind (wpAny_rule (wpAny_pure ⟨rfl, rfl, hl2, hq⟩))
      · rw [if_neg hh]
        have hk : ¬ x.1 = k := fun e => hh (by rw [← e]; exact beq_self_eq_true _)
        rw [decide_eq_false hk] at hq
        exact wpAny_pure ⟨rfl, rfl, hl2, hq⟩
    · intro b s2 hy
      obtain ⟨rfl, rfl, _, hq⟩ := hy
      exact wpAny_pure hq
  have hany : ∀ a : Addr, key = .ref a → ¬ (es.any fun e => e.key == Value.ref a && e.hash != k.hash w) = true := by
    intro a ea
    rw [← Array.any_toList, List.any_eq_true]
    intro hc
    obtain ⟨e, me, hc⟩ := hc
    obtain ⟨i, hi, rfl⟩ := Array.mem_iff_getElem.mp (Array.mem_toList_iff.mp me)
    obtain ⟨x, _, h2, h3, _⟩ := entx i hi
    rw [Array.getElem?_eq_getElem hi] at h2
    rw [Option.some.inj h2] at hc
    rw [Bool.and_eq_true] at hc
    obtain ⟨c1, c2⟩ := hc
    have e1 : x.2.1 = .ref a := by simpa [nEnt] using c1
    rw [e1, ← ea] at h3
    rw [NestedIs.inj _ _ _ h3 hkey |>.symm] at c2
    simp [nEnt] at c2
  have uni : ∀ i j, nKeyAt xs k i = true → nKeyAt xs k j = true → i = j := fun i j a b => S.one a b
  unfold dictFind
  try with_reducible refine wpAny_holding ?_
  refine wpAny_bind (wpAny_dictEntries ho hd ?_)
  rcases hns with ⟨a, rfl⟩ | rfl
  all_goals
    dsimp only
    rw [hpl]
  case' inl =>
    rw [if_neg (show ¬ ((Value.ref a :: pl.filterMap (fun i => es[i]?.map (·.key))).all carriedByValue) = true by simp [carriedByValue])]
    rw [if_neg (hany a rfl)]
    by_cases hone : ((pl.filterMap (fun i => es[i]?.map (·.key))) == [Value.ref a]) = true
  case' inr =>
    by_cases hall : ((Value.none :: pl.filterMap (fun i => es[i]?.map (·.key))).all carriedByValue) = true
    · rw [if_pos hall]
      exact plain
    rw [if_neg hall]
    by_cases hone : ((pl.filterMap (fun i => es[i]?.map (·.key))) == [Value.none]) = true
  all_goals
    (first | rw [if_pos hone] | rw [if_neg hone])
    (first | refine wpAny_bind (wpAny_pure ?_) | refine wpAny_bind (quiet_n hkey hkd hst ?_))
    rw [if_neg (by simp)]
    refine wpAny_bind ?_
    refine wpAny_forIn_list _ (fun l b s2 => s2 = s ∧ (∀ i ∈ l, i < es.size) ∧ l.Nodup ∧ ∃ hit, b = (none, hit) ∧ nHit xs k Q s l hit) _ ?_ ?_ _ _ ⟨rfl, hlt, hnd, none, rfl, QF⟩
    · intro i l b s2 hy
      obtain ⟨rfl, hl, hn2, hit, rfl, hq⟩ := hy
      obtain ⟨x, hx1, hx2, hx3, hx4⟩ := entx i (hl i List.mem_cons_self)
      have hl2 : ∀ j ∈ l, j < es.size := fun j hj => hl j (List.mem_cons_of_mem _ hj)
      have km : nKeyAt xs k i = decide (x.1 = k) := by unfold nKeyAt; rw [hx1]
      have hn3 := List.nodup_cons.mp hn2
      have stay : ¬ x.1 = k → nHit xs k Q s2 l hit := fun hk => by
        cases hit with
        | none =>
          simp only [nHit] at hq ⊢
          rw [List.find?_cons, km, decide_eq_false hk] at hq
          exact hq
        | some j =>
          simp only [nHit] at hq ⊢
          exact ⟨hq.1, fun z => hq.2.1 (List.mem_cons_of_mem _ z), hq.2.2⟩
      simp only [hx2]
      by_cases hh : ((nEnt w x).hash == k.hash w) = true
      · rw [if_pos hh]
        refine wpAny_bind (wpAny_dictEpoch ho hd (wpAny_bind (eq_n hu hx3 hkey hx4 (wpAny_bind (wpAny_dictEpoch ho hd ?_)))))
        show wpAny _ _ (if (ep != ep) = true then _ else _) _ E _
        rw [if_neg (by simp)]
        by_cases hk : x.1 = k
        · rw [decide_eq_true hk]
          cases hit with
          | some j =>
            simp only [nHit] at hq
            have : i = j := uni i j (by rw [km]; exact decide_eq_true hk) hq.1
            exact absurd (List.mem_cons_self) (this ▸ hq.2.1)
          | none =>
            simp only [nHit] at hq
            rw [List.find?_cons, km, decide_eq_true hk] at hq
            simp only [nHit] at hq
            first | rw [if_pos rfl] | skip
            simp only [Option.isSome_none, Bool.false_eq_true, if_false]
            first | refine wpAny_bind (wpAny_pure ?_) | skip
            refine wpAny_bind (wpAny_rule ?_)
            split
            · exact wpAny_pure (wpAny_pure hq)
            · exact wpAny_pure ⟨rfl, hl2, hn3.2, some i, rfl, by rw [km]; exact decide_eq_true hk, hn3.1, hq⟩
        · rw [decide_eq_false hk]
          simp only [Bool.false_eq_true, if_false]
          refine wpAny_bind (wpAny_rule ?_)
          first | rw [if_neg (by simp)] | skip
          first
            | exact wpAny_pure ⟨rfl, hl2, hn3.2, hit, rfl, stay hk⟩
            | exact wpAny_bind (wpAny_pure (wpAny_pure ⟨rfl, hl2, hn3.2, hit, rfl, stay hk⟩))
      · rw [if_neg hh]
        have hk : ¬ x.1 = k := fun e => hh (by rw [← e]; exact beq_self_eq_true _)
        exact wpAny_pure ⟨rfl, hl2, hn3.2, hit, rfl, stay hk⟩
    · intro b s2 hy
      obtain ⟨rfl, _, _, hit, rfl, hq⟩ := hy
      cases hit with
      | none => exact wpAny_pure hq
      | some j => exact wpAny_pure hq.2.2
end
end PM

namespace PM
open PySem PySem.Spec L2
open Sem (wp)
open PyProof.Rows hiding St

/-! ### a key: None, or a tuple of numbers -/
abbrev OKey := Option (List Int)
def OKey.nk : OKey → NestedKey
  | none => .none
  | some is => .tup (is.map .num)
theorem num_inj : ∀ {a b : List Int}, a.map NestedKey.num = b.map NestedKey.num → a = b
  | [], [], _ => rfl
  | [], _ :: _, e => by simp at e
  | _ :: _, [], e => by simp at e
  | x :: xs, y :: ys, e => by
    simp only [List.map_cons, List.cons.injEq] at e
    obtain ⟨e1, e2⟩ := e
    injection e1 with e1
    rw [e1, num_inj e2]
theorem OKey.nk_inj {a b : OKey} (e : a.nk = b.nk) : a = b := by
  cases a with
  | none => cases b with
    | none => rfl
    | some is => exact nomatch (show NestedKey.none = NestedKey.tup _ from e)
  | some is => cases b with
    | none => exact nomatch (show NestedKey.tup _ = NestedKey.none from e)
    | some js =>
      have e' : NestedKey.tup (is.map .num) = NestedKey.tup (js.map .num) := e
      injection e' with e'
      rw [num_inj e']
theorem nums_depth : ∀ is : List Int, NestedKey.depthAll (is.map .num) = 0
  | [] => rfl
  | i :: is => by
    rw [List.map_cons, NestedKey.depthAll, nums_depth is]
    rfl
theorem OKey.depth (k : OKey) : k.nk.depth ≤ 8 := by
  cases k with
  | none => exact Nat.zero_le _
  | some is =>
    show NestedKey.depth (.tup (is.map .num)) ≤ 8
    rw [NestedKey.depth, nums_depth]
    omega
theorem nums_hash (w w' : World) : ∀ is : List Int, NestedKey.hashes w (is.map .num) = NestedKey.hashes w' (is.map .num)
  | [] => rfl
  | i :: is => by
    rw [List.map_cons, NestedKey.hashes, NestedKey.hashes, nums_hash w w' is]
    rfl
theorem OKey.hash (w w' : World) (k : OKey) : k.nk.hash w = k.nk.hash w' := by
  cases k with
  | none => rfl
  | some is =>
    show NestedKey.hash w (.tup (is.map .num)) = NestedKey.hash w' (.tup (is.map .num))
    rw [NestedKey.hash, NestedKey.hash, nums_hash w w']
/-- an entry: the key, its value, what it holds -/
abbrev OEnt := OKey × Value × Value
def oN (x : OEnt) : NEnt := (x.1.nk, x.2)
/-- the dict at a has just these entries -/
def NDict (a : Addr) (es : List OEnt) : Heap → Prop := fun h => (a == sysModules) = false ∧ es.length ≤ sizeLine ∧ ∃ o er ep, h.get? a = some o ∧ o.ExactDict ∧ o.data = .dict er ep ∧ (∀ w, er.toList = es.map fun x => nEnt w (oN x)) ∧ (es.map (·.1)).Nodup
theorem NDict.st {a : Addr} {es : List OEnt} {h1 h2 : Heap} (x : NDict a es h1) (k : ∀ o, h1.get? a = some o → h2.get? a = some o) : NDict a es h2 := by
  obtain ⟨n, z, o, er, ep, h, r⟩ := x
  exact ⟨n, z, o, er, ep, k _ h, r⟩
theorem NDict.ok {P : Program} {w : World} {H : Hp} {h : Heap} {a : Addr} {es : List OEnt} (x : NDict a es h) : ObjOk P w H h a (.ext (NDict a es)) := by
  refine ⟨x, ?_, fun h1 h2 y k => y.st k⟩
  obtain ⟨_, _, o, _, _, h, _⟩ := x
  exact ⟨o, h⟩
def oAt (es : List OEnt) (k : OKey) : Option Value := (es.find? fun x => decide (x.1 = k)).map (·.2.2)
theorem NDict.seek {w : World} {s : Shared} {es : List OEnt} {er : Array DictEntry} (he : ∀ w, er.toList = es.map fun x => nEnt w (oN x)) (hk : ∀ x ∈ es, NestedIs s.heap x.1.nk x.2.1) (nd : (es.map (·.1)).Nodup) : NSeek w s (es.map oN) er where
  ent := fun i => by
    rw [← Array.getElem?_toList, he w, List.getElem?_map, List.getElem?_map, Option.map_map]
    rfl
  sz := by rw [← Array.length_toList, he w, List.length_map, List.length_map]
  key := fun x m => by
    obtain ⟨y, my, rfl⟩ := List.mem_map.mp m
    exact ⟨hk y my, y.1.depth⟩
  nd := by
    rw [List.map_map]
    have : es.map ((fun x : NEnt => x.1) ∘ oN) = (es.map (·.1)).map OKey.nk := by
      rw [List.map_map]
      rfl
    exact this ▸ (List.pairwise_map.mpr (nd.imp fun ne e => ne (OKey.nk_inj e)))
theorem oAt_none {es : List OEnt} {k : OKey} (h : ∀ (j : Nat) (p : Value × Value), (es.map oN)[j]? ≠ some (k.nk, p)) : oAt es k = none := by
  unfold oAt
  rw [Option.map_eq_none_iff, List.find?_eq_none]
  intro x m e
  obtain ⟨j, hj⟩ := List.mem_iff_getElem?.mp m
  refine h j x.2 ?_
  rw [List.getElem?_map, hj, ← of_decide_eq_true e]
  rfl
theorem oAt_some : ∀ {es : List OEnt} {k : OKey} {j : Nat} {u v : Value}, (es.map (·.1)).Nodup → (es.map oN)[j]? = some (k.nk, u, v) → oAt es k = some v
  | [], _, _, _, _, _, e => by simp at e
  | x :: es, k, 0, u, v, _, e => by
    simp only [List.map_cons, List.getElem?_cons_zero, Option.some.injEq] at e
    have e1 : x.1 = k := OKey.nk_inj (congrArg (·.1) e)
    have e2 : x.2 = (u, v) := congrArg (·.2) e
    unfold oAt
    rw [List.find?_cons, decide_eq_true e1]
    exact congrArg some (congrArg (·.2) e2)
  | x :: es, k, j + 1, u, v, nd, e => by
    rw [List.map_cons, List.nodup_cons] at nd
    simp only [List.map_cons, List.getElem?_cons_succ] at e
    have ne : ¬ x.1 = k := fun z => by
      rw [List.getElem?_map, Option.map_eq_some_iff] at e
      obtain ⟨y, hy, ey⟩ := e
      have e1 : y.1 = k := OKey.nk_inj (congrArg (·.1) ey)
      exact nd.1 (List.mem_map.mpr ⟨y, List.mem_of_getElem? hy, by rw [e1, z]⟩)
    have := oAt_some nd.2 e
    unfold oAt at this ⊢
    rw [List.find?_cons, decide_eq_false ne]
    exact this
section
variable {prog : Program} {w : World} {A : Around} {E : Value → Shared → Prop} {s : Shared}
theorem get_n {d : Addr} {key : Value} {es : List OEnt} {k : OKey} {Q : Option Value → Shared → Prop} (hu : A.units + 8 < cLine) (hkey : NestedIs s.heap k.nk key) (hm : NDict d es s.heap) (hk : ∀ x ∈ es, NestedIs s.heap x.1.nk x.2.1)
    (h : ∀ tk, Q (oAt es k) { s with toks := tk }) : wpAny (model prog w) A (dictGet d key) Q E s := by
  obtain ⟨_, hz, o, er, ep, ho, hc, hd, he, nd⟩ := hm
  have hns : (∃ a, key = .ref a) ∨ key = .none := by
    cases k with
    | none => cases hkey; exact .inr rfl
    | some is => cases hkey; exact .inl ⟨_, rfl⟩
  unfold dictGet
  try with_reducible refine wpAny_holding ?_
  refine wpAny_bind (pyHash_key _ _ A s _ hkey (by have := k.depth; omega) (wpAny_bind ?_))
  refine find_n (s := { s with toks := s.toks + k.nk.draws }) hu hkey k.depth hns ho hd (NDict.seek he hk nd) (fun hno => ?_) fun j p hj => ?_
  · have := h (s.toks + k.nk.draws)
    rw [oAt_none hno] at this
    exact wpAny_pure this
  · have := h (s.toks + k.nk.draws)
    rw [oAt_some nd (u := p.1) (v := p.2) hj] at this
    refine wpAny_bind (wpAny_dictEntries (s := { s with toks := s.toks + k.nk.draws }) ho hd ?_)
    have e1 : er[j]? = some (nEnt w (k.nk, p)) := by
      rw [← Array.getElem?_toList, he w]
      rw [List.getElem?_map] at hj ⊢
      rw [Option.map_eq_some_iff] at hj
      obtain ⟨y, hy, ey⟩ := hj
      rw [hy, Option.map_some, ey]
    rw [e1]
    exact wpAny_pure this
theorem setdef_n {d : Addr} {key dflt : Value} {es : List OEnt} {k : OKey} {Q : Value → Shared → Prop} (hu : A.units + 8 < cLine) (hkey : NestedIs s.heap k.nk key) (hm : NDict d es s.heap) (hk : ∀ x ∈ es, NestedIs s.heap x.1.nk x.2.1) (lz : es.length < sizeLine)
    (h1 : ∀ v tk, oAt es k = some v → Q v { s with toks := tk })
    (h2 : oAt es k = none → ∀ h' tk, NDict d (es ++ [(k, key, dflt)]) h' → Heap.SameBut d s.heap h' → Q dflt { s with heap := h', toks := tk }) : wpAny (model prog w) A (dictSetDefault d key dflt) Q E s := by
  obtain ⟨hs, hz, o, er, ep, ho, hc, hd, he, nd⟩ := hm
  have hns : (∃ a, key = .ref a) ∨ key = .none := by
    cases k with
    | none => cases hkey; exact .inr rfl
    | some is => cases hkey; exact .inl ⟨_, rfl⟩
  have esz : er.size = es.length := by
    rw [← Array.length_toList, he w, List.length_map]
  unfold dictSetDefault
  try with_reducible refine wpAny_holding ?_
  refine wpAny_bind (pyHash_key _ _ A s _ hkey (by have := k.depth; omega) (wpAny_bind ?_))
  refine find_n (s := { s with toks := s.toks + k.nk.draws }) hu hkey k.depth hns ho hd (NDict.seek he hk nd) (fun hno => ?_) fun j p hj => ?_
  · have hnot : k ∉ es.map (·.1) := fun z => by
      obtain ⟨x, mx, ex⟩ := List.mem_map.mp z
      obtain ⟨j, hj⟩ := List.mem_iff_getElem?.mp mx
      refine hno j x.2 ?_
      rw [List.getElem?_map, hj, ← ex]
      rfl
    refine wpAny_bind (wpAny_rule (wpAny_bind (wpAny_updateDictKeys (hz := by omega) (s := { s with toks := s.toks + k.nk.draws }) ho hd (wpAny_pure (h2 (oAt_none hno) _ _ ⟨hs, by simp; omega, _, _, ep + 1, Heap.get?_update_self _ ho (Obj.isFreed_of_dict (Obj.data_mapDictKeys hd _)),
      hc.mapDictKeys _, Obj.data_mapDictKeys hd _, fun w' => ?_, ?_⟩ (Heap.SameBut.update ..))))))
    · rw [List.map_append, ← he w', Array.toList_push]
      simp only [nEnt, oN, List.map_cons, List.map_nil]
      rw [OKey.hash w w' k]
    · rw [List.map_append, List.nodup_append]
      refine ⟨nd, by simp, fun x hx y hy z => ?_⟩
      simp only [List.map_cons, List.map_nil, List.mem_singleton] at hy
      exact hnot (by rw [← hy, ← z]; exact hx)
  · refine wpAny_bind (wpAny_dictEntries (s := { s with toks := s.toks + k.nk.draws }) ho hd ?_)
    have e1 : er[j]? = some (nEnt w (k.nk, p)) := by
      rw [← Array.getElem?_toList, he w]
      rw [List.getElem?_map] at hj ⊢
      rw [Option.map_eq_some_iff] at hj
      obtain ⟨y, hy, ey⟩ := hj
      rw [hy, Option.map_some, ey]
    rw [e1]
    exact wpAny_bind (wpAny_rule (wpAny_pure (h1 p.2 _ (oAt_some nd (u := p.1) (v := p.2) hj))))
end
section
variable {prog : Program} {w : World} (d : Addr)
theorem meets_setdef (key dflt : Value) :
    MeetsIn prog w (Builtin.«dict.setdefault» ⟨[.ref d, key, dflt], []⟩) (fun A R s => A.in1.units + 8 < cLine ∧ ∃ k es, NestedIs s.heap (OKey.nk k) key ∧ NDict d es s.heap ∧ (∀ x ∈ es, NestedIs s.heap x.1.nk x.2.1) ∧ es.length < sizeLine ∧
      (∀ v tk, oAt es k = some v → R (.ok (.ret v)) { s with toks := tk }) ∧
      (oAt es k = none → ∀ h' tk, NDict d (es ++ [(k, key, dflt)]) h' → Heap.SameBut d s.heap h' → R (.ok (.ret dflt)) { s with heap := h', toks := tk })) :=
  .of_wp fun A R s ⟨hu, k, es, hkey, hm, hk, hz, h1, h2⟩ => by
    have hd := hm.1
    obtain ⟨_, _, o, _, _, ho, hc, _⟩ := id hm
    unfold Builtin.«dict.setdefault»
    refine wpAny_bind ?_
    unfold Builtin.Dict.keyAndDefault
    refine wpAny_bind (wpAny_notOrdered_dict ⟨o, ho, hc.1⟩ ?_)
    show wpAny _ _ (pure (d, key, some dflt)) _ _ s
    refine wpAny_pure ?_
    show wpAny _ _ (if (d == sysModules) = true then _ else (dictSetDefault d key dflt >>= _)) _ _ s
    rw [if_neg (by rw [hd]; exact Bool.false_ne_true)]
    exact wpAny_bind (setdef_n hu hkey hm hk hz (fun v tk e => wpAny_pure ⟨v, rfl, h1 v tk e⟩) fun e h' tk hm' hs' => wpAny_pure ⟨dflt, rfl, h2 e h' tk hm' hs'⟩)
theorem meets_getd (key dflt : Value) :
    MeetsIn prog w (Builtin.«dict.get» ⟨[.ref d, key, dflt], []⟩) (fun A R s => A.in1.units + 8 < cLine ∧ ∃ k es, NestedIs s.heap (OKey.nk k) key ∧ NDict d es s.heap ∧ (∀ x ∈ es, NestedIs s.heap x.1.nk x.2.1) ∧
      ∀ tk, R (.ok (.ret ((oAt es k).getD dflt))) { s with toks := tk }) :=
  .of_wp fun A R s ⟨hu, k, es, hkey, hm, hk, h1⟩ => by
    show wpAny _ _ (dictGet d key >>= _) _ _ s
    refine wpAny_bind (get_n hu hkey hm hk fun tk => ?_)
    have h1 := h1 tk
    cases hf : oAt es k with
    | some v =>
      rw [hf] at h1
      exact wpAny_pure ⟨v, rfl, h1⟩
    | none =>
      rw [hf] at h1
      show wpAny _ _ (Builtin.Dict.missed d key >>= _) _ _ _
      exact wpAny_bind (wpAny_missed_other hm.1 (wpAny_pure ⟨dflt, rfl, h1⟩))
end
end PM

namespace PM
open PySem PySem.Spec L2
open Sem (wp)
open PyProof.Rows hiding St
section
variable {X : Cx} {pins : List (Addr × Obj)} {σ : St} {H : Hp} {s : Shared}
/-- a value that is a key -/
def KeyV (K : PySem.W.Frag) (H : Hp) : V → OKey → Prop
  | .non, none => True
  | .ref a, some is => SqT K H a (is.map V.int)
  | _, _ => False
theorem ints_all {h : Heap} : ∀ {is : List Int} {us : List Value}, Vals (is.map V.int) us → NestedAll h (is.map .num) us
  | [], _, r => by cases r; exact .nil
  | i :: is, _, r => by
    cases r with
    | cons h t =>
      obtain ⟨tk, rfl⟩ := h
      exact .cons (.int _ _) (ints_all t)
theorem KeyV.is {v : V} {u : Value} {k : OKey} (x : KeyV X.K H v k) (r : RelV v u) (I : Inv X pins σ H s) : NestedIs s.heap k.nk u := by
  cases k with
  | none =>
    cases v <;> first | exact x.elim | skip
    cases r
    exact .none
  | some is =>
    cases v <;> first | exact x.elim | skip
    cases r
    obtain ⟨its, rv, ⟨o, h1, h2, n, h3⟩, _⟩ := I.tuple (show SqT X.K H _ (is.map V.int) from x)
    exact .tup h1 h2 h3 (by simpa using ints_all rv)
theorem keys_is {es : List OEnt} {ks : List V} (I : Inv X pins σ H s) (hk : Paired (KeyV X.K H) ks (es.map (·.1))) (hv : Vals ks (es.map (·.2.1))) : ∀ x ∈ es, NestedIs s.heap x.1.nk x.2.1 := by
  intro x m
  obtain ⟨j, hj⟩ := List.mem_iff_getElem?.mp m
  have e2 : (es.map (·.2.1))[j]? = some x.2.1 := by rw [List.getElem?_map, hj]; rfl
  have aux : ∀ {ks : List V} {ls : List OKey} {us : List Value} {j : Nat} {k : OKey} {u : Value}, Paired (KeyV X.K H) ks ls → Vals ks us → ls[j]? = some k → us[j]? = some u → NestedIs s.heap k.nk u := by
    intro ks ls us j k u p
    induction p generalizing us j with
    | nil => intro _ e; simp at e
    | cons h t ih =>
      intro r e e'
      cases r with
      | cons r1 r2 =>
        cases j with
        | zero =>
          simp only [List.getElem?_cons_zero, Option.some.injEq] at e e'
          subst e e'
          exact h.is r1 I
        | succ j => exact ih r2 (by simpa using e) (by simpa using e')
  exact aux hk hv (by rw [List.getElem?_map, hj]; rfl) e2
theorem oAt_rel : ∀ {es : List OEnt} {kvs : List (OKey × V)}, es.map (·.1) = kvs.map (·.1) → Vals (kvs.map (·.2)) (es.map (·.2.2)) → ∀ k, RelO (valV kvs k) (oAt es k)
  | [], [], _, _, _ => True.intro
  | [], _ :: _, e, _, _ => by simp at e
  | _ :: _, [], e, _, _ => by simp at e
  | x :: es, y :: kvs, e, r, k => by
    simp only [List.map_cons, List.cons.injEq] at e r
    cases r with
    | cons r1 r2 =>
      have ih := oAt_rel e.2 r2 k
      by_cases q : x.1 = k
      · rw [valV_pos (e.1.symm.trans q)]
        unfold oAt
        rw [List.find?_cons, decide_eq_true q]
        exact r1
      · rw [valV_neg fun z => q (e.1.trans z)]
        unfold oAt at ih ⊢
        rw [List.find?_cons, decide_eq_false q]
        exact ih
/-- what is asked of such a dict -/
def DictV (K : PySem.W.Frag) (H : Hp) (a : Addr) (es : List OEnt) (kvs : List (OKey × V)) : Prop :=
  H a = some (.ext (NDict a es)) ∧ es.map (·.1) = kvs.map (·.1) ∧ (∃ ks, Paired (KeyV K H) ks (es.map (·.1)) ∧ Vals ks (es.map (·.2.1))) ∧ Vals (kvs.map (·.2)) (es.map (·.2.2))
def rGetN (K : PySem.W.Frag) : V → List V → Hp → VK → Prop := fun x xs H Q => ∃ (a : Addr) (es : List OEnt) (kvs : List (OKey × V)) (kx d : V) (k : OKey), x = .ref a ∧ xs = [kx, d] ∧ DictV K H a es kvs ∧ KeyV K H kx k ∧ Q ((valV kvs k).getD d) H
def rSetdN (K : PySem.W.Frag) : V → List V → Hp → VK → Prop := fun x xs H Q => ∃ (a : Addr) (es : List OEnt) (kvs : List (OKey × V)) (kx d : V) (k : OKey), x = .ref a ∧ xs = [kx, d] ∧ DictV K H a es kvs ∧ KeyV K H kx k ∧ es.length < sizeLine ∧
  (∀ v, valV kvs k = some v → Q v H) ∧ (valV kvs k = none → ∀ u w, RelV kx u → RelV d w → Q d (upd H a (.ext (NDict a (es ++ [(k, u, w)])))))
theorem typeIs_N {a : Addr} {es : List OEnt} (x : NDict a es s.heap) : s.TypeIs (.ref a) "dict" := by
  obtain ⟨_, _, o, _, _, ho, hc, _⟩ := x
  exact ⟨o, ho, hc.1⟩
theorem mt_getN (hu : X.A.units + 65 < cLine) : MtR X "dict.get" (rGetN X.K) := by
  intro pins s σ H x xs v us Q I rx rxs h
  obtain ⟨a, es, kvs, kx, d, k, rfl, rfl, ⟨ha, ek, ⟨ks, p1, p2⟩, rv⟩, hk, q⟩ := h
  cases rx
  obtain ⟨u1, u2, rfl, r1, r2⟩ := vals2 rxs
  have hm : NDict a es s.heap := (show ObjOk X.prog X.w H s.heap a (.ext (NDict a es)) from I.hok a _ ha).1
  refine call_meetsIn PySem.F.slot_dict_get (typeIs_N hm) PySem.F.entry_dict_get (PySem.F.args_dict_get_3 _ _ _) (meets_getd a u1 u2) ⟨by simp only [Around.in1_units]; omega, k, es, hk.is r1 I, hm, keys_is I p1 p2, fun tk => ?_⟩
  exact ⟨(valV kvs k).getD d, H, I.tok tk, (oAt_rel ek rv k).getD r2, q⟩
theorem mt_setdN (hu : X.A.units + 65 < cLine) : MtR X "dict.setdefault" (rSetdN X.K) := by
  intro pins s σ H x xs v us Q I rx rxs h
  obtain ⟨a, es, kvs, kx, d, k, rfl, rfl, ⟨ha, ek, ⟨ks, p1, p2⟩, rv⟩, hk, lz, q1, q2⟩ := h
  cases rx
  obtain ⟨u1, u2, rfl, r1, r2⟩ := vals2 rxs
  have hm : NDict a es s.heap := (show ObjOk X.prog X.w H s.heap a (.ext (NDict a es)) from I.hok a _ ha).1
  refine call_meetsIn PySem.F.slot_dict_setdefault (typeIs_N hm) PySem.F.entry_dict_setdefault (PySem.F.args_dict_setdefault_3 _ _ _) (meets_setdef a u1 u2) ⟨by simp only [Around.in1_units]; omega, k, es, hk.is r1 I, hm, keys_is I p1 p2, lz, fun v' tk e => ?_, fun e h' tk hm' hs => ?_⟩
  · have r := oAt_rel ek rv k
    rw [e] at r
    cases ev : valV kvs k with
    | none =>
      rw [ev] at r
      exact (show False from r).elim
    | some v0 =>
      rw [ev] at r
      exact ⟨v0, H, I.tok tk, r, q1 v0 ev⟩
  · have r := oAt_rel ek rv k
    rw [e] at r
    have ev : valV kvs k = none := by
      cases ev : valV kvs k with
      | none => rfl
      | some v0 =>
        rw [ev] at r
        exact (show False from r).elim
    obtain ⟨_, _, o, _, _, ho, _⟩ := id hm'
    exact ⟨d, _, d_write I (by rw [ha]; exact True.intro) hs ⟨o, ho⟩ hm'.ok, r2, q2 ev u1 u2 r1 r2⟩
/-- {} -/
def tNewN : TE := fun _ H Q => ∀ p, H p = none → Q (.ref p) (upd H p (.ext (NDict p [])))
theorem pe_newN {pos : Pos} : PE X (.Dict [] [] pos) tNewN := ⟨fun pins s σ H Q I h =>
  wpAny_Dict_empty ⟨.ref s.heap.objs.size, _, I.laid (a := s.heap.objs.size) (t' := s.toks) (fun _ _ q => Heap.get?_push_of_some _ q) (Nat.le_refl _) (NDict.ok (a := s.heap.objs.size) (es := []) ⟨
      beq_eq_false_iff_ne.mpr (Ne.symm (Nat.ne_of_lt I.big)), Nat.zero_le _, _, #[], 0, Heap.get?_push_size _ rfl, ⟨rfl, rfl, rfl⟩, rfl, fun w => rfl, List.nodup_nil⟩), rfl, h _ (I.hok.fresh (Nat.le_refl _))⟩⟩
end
end PM

/-! Values without a heap, symbolic cells, and how they lie in the layer's abstract heap. -/
namespace PM
open PySem PySem.Spec L2
open PyProof.Rows hiding St

/-- pure values; a list here never changes any more; ref: a cell of the symbolic heap -/
inductive PV where
  | non | bl (b : Bool) | int (i : Int) | str (x : Str) | tup (xs : List PV) | lst (xs : List PV) | ref (n : Nat)

/-- a cell: what may change -/
inductive Cell where
  | lst (xs : List PV)
  | dK (kvs : List (Key × PV))
  | dT (kvs : List (List Key × PV))
  | ins (C : Addr) (fs : List (Str × PV))
  /-- the table of code objects at P, whose code objects bear the name q -/
  | tab (P : Addr) (q : Str)
  /-- a dict whose keys are None and tuples of numbers -/
  | dN (kvs : List (OKey × PV))
  /-- a dict of ints and texts that is locked while it is walked; its object, its values where they lie -/
  | lkK (o : Obj) (us : List (Key × V)) (kvs : List (Key × PV))

def okP : OKey → PV
  | none => .non
  | some is => .tup (is.map .int)
/-- what a name or an expression may hold: a value; a list of its own; a list that is only read; the script -/
inductive SV where
  | val (p : PV) | own (xs : List PV) | brw (xs : List PV) | scr (ns : List Int)
  /-- a caught exception at a, of the class D -/
  | exc (D a : Addr)
@[simp] def SV.isB : SV → Bool
  | .brw _ => true
  | .scr _ => true
  | .exc _ _ => true
  | _ => false
@[simp] def SV.isOwn : SV → Bool
  | .own _ => true
  | _ => false

abbrev Hs := List Cell
abbrev Env := List (Option SV)
abbrev VQ := SV → Hs → Prop
abbrev XQ := Addr → Hs → Prop
abbrev DE := Env → Hs → VQ → XQ → Prop
abbrev DA := Env → Hs → (List SV → Hs → Prop) → XQ → Prop
abbrev DT := Env → Hs → (Bool → Hs → Prop) → XQ → Prop
structure DEnds where
  nx : Env → Hs → Prop
  rt : VQ
  bk : Env → Hs → Prop := fun _ _ => False
  ct : Env → Hs → Prop := fun _ _ => False
  ex : Addr → Env → Hs → Prop := fun _ _ _ => False
abbrev DS := DEnds → Env → Hs → Prop
abbrev DF := List SV → Hs → VQ → XQ → Prop

/-! ### how values lie -/
abbrev Ad := Addr → Prop
def KTup (K : PySem.W.Frag) (a : Addr) (xs : List V) : Prop :=
  ∃ (o : Obj) (its : Array Value) (n : Nat), K.lookup a = some o ∧ o.cls = .type "tuple" ∧ o.data = .seq its n ∧ its.size ≤ sizeLine ∧ Vals xs its.toList
def TupAt (K : PySem.W.Frag) (Ex : Ad) (H : Hp) (a : Addr) (xs : List V) : Prop := (Rd H a (.tup xs) ∧ ¬ Ex a) ∨ KTup K a xs
def LstAt (Ex : Ad) (H : Hp) (a : Addr) (xs : List V) : Prop := Rd H a (.lst xs) ∧ ¬ Ex a
theorem TupAt.sq {K : PySem.W.Frag} {Ex : Ad} {H : Hp} {a : Addr} {xs : List V} (h : TupAt K Ex H a xs) : SqT K H a xs := h.imp And.left id
theorem LstAt.sq {K : PySem.W.Frag} {Ex : Ad} {H : Hp} {a : Addr} {xs : List V} (h : LstAt Ex H a xs) : SqL K H a xs := .inl h.1

mutual
inductive Rep (K : PySem.W.Frag) (Ex : Ad) (m : List Addr) (H : Hp) : V → PV → Prop
  | non : Rep K Ex m H .non .non
  | bl (b : Bool) : Rep K Ex m H (.bl b) (.bl b)
  | int (i : Int) : Rep K Ex m H (.int i) (.int i)
  | str (x : Str) : Rep K Ex m H (.str x) (.str x)
  | tup {a : Addr} {vs : List V} {xs : List PV} (h : TupAt K Ex H a vs) (r : RepL K Ex m H vs xs) : Rep K Ex m H (.ref a) (.tup xs)
  | lst {a : Addr} {vs : List V} {xs : List PV} (h : LstAt Ex H a vs) (r : RepL K Ex m H vs xs) : Rep K Ex m H (.ref a) (.lst xs)
  | ref {n : Nat} {a : Addr} (h : m[n]? = some a) : Rep K Ex m H (.ref a) (.ref n)
inductive RepL (K : PySem.W.Frag) (Ex : Ad) (m : List Addr) (H : Hp) : List V → List PV → Prop
  | nil : RepL K Ex m H [] []
  | cons {v : V} {p : PV} {vs : List V} {ps : List PV} (h : Rep K Ex m H v p) (r : RepL K Ex m H vs ps) : RepL K Ex m H (v :: vs) (p :: ps)
end

/-- what is known outside Ex stays known outside Ex' -/
def Kp (Ex : Ad) (H : Hp) (Ex' : Ad) (H' : Hp) : Prop := ∀ a o, H a = some o → ¬ Ex a → H' a = some o ∧ ¬ Ex' a
theorem Kp.rd {Ex Ex' : Ad} {H H' : Hp} {a : Addr} {u : HO} (k : Kp Ex H Ex' H') (h : Rd H a u) (n : ¬ Ex a) : Rd H' a u ∧ ¬ Ex' a := by
  rcases h with h | ⟨o, h⟩
  · exact ⟨.inl (k _ _ h n).1, (k _ _ h n).2⟩
  · exact ⟨.inr ⟨o, (k _ _ h n).1⟩, (k _ _ h n).2⟩
section
variable {K : PySem.W.Frag} {Ex Ex' : Ad} {m m' : List Addr} {H H' : Hp}
theorem TupAt.mono {a : Addr} {xs : List V} (h : TupAt K Ex H a xs) (k : Kp Ex H Ex' H') : TupAt K Ex' H' a xs := by
  rcases h with ⟨h, n⟩ | h
  · exact .inl (k.rd h n)
  · exact .inr h
theorem LstAt.mono {a : Addr} {xs : List V} (h : LstAt Ex H a xs) (k : Kp Ex H Ex' H') : LstAt Ex' H' a xs := k.rd h.1 h.2
mutual
theorem Rep.mono {v : V} {p : PV} (k : Kp Ex H Ex' H') (e : ∃ ms, m' = m ++ ms) : Rep K Ex m H v p → Rep K Ex' m' H' v p
  | .non => .non
  | .bl b => .bl b
  | .int i => .int i
  | .str x => .str x
  | .tup h r => .tup (h.mono k) (RepL.mono k e r)
  | .lst h r => .lst (h.mono k) (RepL.mono k e r)
  | .ref h => .ref (by
      obtain ⟨ms, rfl⟩ := e
      exact List.getElem?_append_left (List.getElem?_eq_some_iff.mp h).1 ▸ h)
theorem RepL.mono {vs : List V} {ps : List PV} (k : Kp Ex H Ex' H') (e : ∃ ms, m' = m ++ ms) : RepL K Ex m H vs ps → RepL K Ex' m' H' vs ps
  | .nil => .nil
  | .cons h r => .cons (Rep.mono k e h) (RepL.mono k e r)
end
theorem RepL.length {vs : List V} {ps : List PV} : RepL K Ex m H vs ps → vs.length = ps.length
  | .nil => rfl
  | .cons _ r => by simp [r.length]
theorem RepL.append : ∀ {vs ws : List V} {ps qs : List PV}, RepL K Ex m H vs ps → RepL K Ex m H ws qs → RepL K Ex m H (vs ++ ws) (ps ++ qs)
  | _, _, _, _, .nil, s => s
  | _, _, _, _, .cons h r, s => .cons h (r.append s)
theorem RepL.get : ∀ {vs : List V} {ps : List PV} {i : Nat} {p : PV}, RepL K Ex m H vs ps → ps[i]? = some p → ∃ v, vs[i]? = some v ∧ Rep K Ex m H v p
  | _, _, _, _, .nil, e => by simp at e
  | _, _, 0, _, .cons h _, e => by
    obtain rfl := Option.some.inj e
    exact ⟨_, rfl, h⟩
  | _, _, i + 1, _, .cons _ r, e => r.get (i := i) e
theorem RepL.get' : ∀ {vs : List V} {ps : List PV} {i : Nat} {v : V}, RepL K Ex m H vs ps → vs[i]? = some v → ∃ p, ps[i]? = some p ∧ Rep K Ex m H v p
  | _, _, _, _, .nil, e => by simp at e
  | _, _, 0, _, .cons h _, e => by
    obtain rfl := Option.some.inj e
    exact ⟨_, rfl, h⟩
  | _, _, i + 1, _, .cons _ r, e => r.get' (i := i) e
theorem RepL.set : ∀ {vs : List V} {ps : List PV} {v : V} {p : PV} (i : Nat), RepL K Ex m H vs ps → Rep K Ex m H v p → RepL K Ex m H (vs.set i v) (ps.set i p)
  | _, _, _, _, _, .nil, _ => .nil
  | _, _, _, _, 0, .cons _ r, q => .cons q r
  | _, _, _, _, i + 1, .cons h r, q => .cons h (r.set i q)
theorem RepL.take : ∀ {vs : List V} {ps : List PV} (n : Nat), RepL K Ex m H vs ps → RepL K Ex m H (vs.take n) (ps.take n)
  | _, _, 0, _ => .nil
  | _, _, _ + 1, .nil => .nil
  | _, _, n + 1, .cons h r => .cons h (r.take n)
theorem RepL.drop : ∀ {vs : List V} {ps : List PV} (n : Nat), RepL K Ex m H vs ps → RepL K Ex m H (vs.drop n) (ps.drop n)
  | _, _, 0, r => r
  | _, _, _ + 1, .nil => .nil
  | _, _, n + 1, .cons _ r => r.drop n
theorem RepL.ints : ∀ {vs : List V} {ns : List Int}, RepL K Ex m H vs (ns.map PV.int) → vs = ns.map V.int
  | _, [], .nil => rfl
  | _, n :: ns, .cons h r => by
    cases h
    rw [RepL.ints r]
    rfl
theorem RepL.of_ints : ∀ {ns : List Int}, RepL K Ex m H (ns.map V.int) (ns.map PV.int)
  | [] => .nil
  | n :: ns => .cons (.int n) RepL.of_ints
end

/-! ### names -/
def OwnAt (σ : St) (env : Env) (a : Addr) : Prop := ∃ (i : Nat) (xs : List PV), env[i]? = some (some (SV.own xs)) ∧ σ[i]? = some (some (V.ref a))
/-- the frame of a call: G what stands outside and must not be met, H0, m0 the heap and cells at its beginning, pins: values that are kept beside the names -/
structure Ctx where
  K : PySem.W.Frag
  G : Ad
  T : Ad := fun _ => False
  H0 : Hp
  m0 : List Addr
  pins : List (V × SV) := []
def Ctx.GT (C : Ctx) (a : Addr) : Prop := C.G a ∨ C.T a
def ExOf (C : Ctx) (σ : St) (env : Env) (m : List Addr) : Ad := fun a => C.GT a ∨ OwnAt σ env a ∨ a ∈ m
/-- how a slot's or an expression's value lies; N: what is said of the place of a list of its own -/
def RepS (C : Ctx) (Ex : Ad) (m : List Addr) (N : Ad) (H : Hp) (v : V) : SV → Prop
  | .val p => Rep C.K Ex m H v p
  | .own xs => ∃ a vs, v = .ref a ∧ H a = some (.lst vs) ∧ N a ∧ a ∉ m ∧ RepL C.K (fun b => Ex b ∨ b = a) m H vs xs
  | .brw xs => ∃ a vs, v = .ref a ∧ LstAt (· ∈ m) H a vs ∧ RepL C.K Ex m H vs xs
  | .scr ns => ∃ a, v = .ref a ∧ ((Rd H a (.lst (ns.map V.int)) ∧ a ∉ m) ∨ ∀ H', SqL C.K H' a (ns.map V.int))
  | .exc _ a => v = .ref a

def CellR (K : PySem.W.Frag) (Ex : Ad) (m : List Addr) (H : Hp) (a : Addr) : Cell → Prop
  | .lst xs => ∃ vs, H a = some (.lst vs) ∧ RepL K Ex m H vs xs
  | .dK kvs => ∃ vs, H a = some (.dK vs) ∧ vs.map (·.1) = kvs.map (·.1) ∧ RepL K Ex m H (vs.map (·.2)) (kvs.map (·.2))
  | .dT kvs => ∃ vs, H a = some (.dT vs) ∧ vs.map (·.1) = kvs.map (·.1) ∧ RepL K Ex m H (vs.map (·.2)) (kvs.map (·.2))
  | .ins D fs => ∃ dx vs, H a = some (.ins D dx vs) ∧ H dx = some (.own a) ∧ ¬ Ex dx ∧ vs.map (·.1) = fs.map (·.1) ∧ RepL K Ex m H (vs.map (·.2)) (fs.map (·.2))
  | .tab P q => a = P ∧ ∃ ps : Array Value, H a = some (.tbl ps) ∧ TriplesOk ps.toList ∧ ∀ (pos : Pos) (cv : Value), codeAmong pos ps.toList = some cv → ∃ c, cv = .ref c ∧ H c = some (LamX.CodeO c q) ∧ ¬ Ex c
  | .dN kvs => ∃ (es : List OEnt) (ks : List V) (vs : List V), H a = some (.ext (NDict a es)) ∧ es.map (·.1) = kvs.map (·.1) ∧ Vals ks (es.map (·.2.1)) ∧ Vals vs (es.map (·.2.2)) ∧ RepL K Ex m H ks (kvs.map fun x => okP x.1) ∧ RepL K Ex m H vs (kvs.map (·.2))
  | .lkK o us kvs => H a = some (.frz o (.dK us)) ∧ us.map (·.1) = kvs.map (·.1) ∧ RepL K Ex m H (us.map (·.2)) (kvs.map (·.2))
structure HeapR (K : PySem.W.Frag) (Ex : Ad) (m : List Addr) (H : Hp) (h : Hs) : Prop where
  len : m.length = h.length
  nd : m.Nodup
  at_ : ∀ (n : Nat) (a : Addr) (c : Cell), m[n]? = some a → h[n]? = some c → CellR K Ex m H a c

/-- a list that is read stands apart from the lists of one's own -/
def NB (C : Ctx) (σ : St) (env : Env) (v : V) : SV → Prop
  | .brw _ => ∀ b, v = .ref b → ¬ OwnAt σ env b ∧ ¬ C.T b
  | .scr ns => ∀ b, v = .ref b → (∀ H', SqL C.K H' b (ns.map V.int)) ∨ (¬ OwnAt σ env b ∧ ¬ C.T b)
  | _ => True
def SlotR (C : Ctx) (σ : St) (env : Env) (m : List Addr) (H : Hp) (v : V) (sv : SV) : Prop :=
  RepS C (ExOf C σ env m) m (fun a => C.H0 a = none) H v sv ∧ NB C σ env v sv
structure Rel (C : Ctx) (m : List Addr) (σ : St) (H : Hp) (env : Env) (h : Hs) : Prop where
  len : σ.length = env.length
  slot : ∀ (i : Nat) (sv : SV), env[i]? = some (some sv) → ∃ v, σ[i]? = some (some v) ∧ SlotR C σ env m H v sv
  pin : ∀ p ∈ C.pins, SlotR C σ env m H p.1 p.2 ∧ p.2.isOwn = false
  uniq : ∀ (i j : Nat) (xs ys : List PV) (a : Addr), env[i]? = some (some (SV.own xs)) → env[j]? = some (some (SV.own ys)) → σ[i]? = some (some (V.ref a)) → σ[j]? = some (some (V.ref a)) → i = j
  hm : HeapR C.K (ExOf C σ env m) m H h
  keep : ∀ b o, C.H0 b = some o → b ∉ C.m0 → H b = some o
  dom : ∀ b, C.H0 b ≠ none → H b ≠ none
  pre : ∃ ms, m = C.m0 ++ ms ∧ ∀ b ∈ ms, C.H0 b = none
  gdom : ∀ a, C.GT a → H a ≠ none
  gown : ∀ a, C.GT a → ¬ OwnAt σ env a

/-- a step of an expression: the cells may change, new things may stand -/
structure StE (m : List Addr) (H : Hp) (m' : List Addr) (H' : Hp) : Prop where
  keep : ∀ b o, H b = some o → b ∉ m → H' b = some o
  dom : ∀ b, H b ≠ none → H' b ≠ none
  ext : ∃ ms, m' = m ++ ms ∧ ∀ b ∈ ms, H b = none
theorem StE.refl (m : List Addr) (H : Hp) : StE m H m H := ⟨fun _ _ h _ => h, fun _ h => h, [], by simp, by simp⟩
theorem StE.trans {m m1 m2 : List Addr} {H H1 H2 : Hp} (a : StE m H m1 H1) (b : StE m1 H1 m2 H2) : StE m H m2 H2 := by
  obtain ⟨ms, rfl, n1⟩ := a.ext
  obtain ⟨ns, rfl, n2⟩ := b.ext
  refine ⟨fun c o h n => b.keep c o (a.keep c o h n) fun q => ?_, fun c h => b.dom c (a.dom c h), ms ++ ns, by simp, fun c hc => ?_⟩
  · rcases List.mem_append.mp q with q | q
    · exact n q
    · rw [n1 c q] at h
      cases h
  · rcases List.mem_append.mp hc with q | q
    · exact n1 c q
    · cases e : H c with
      | none => rfl
      | some o => exact absurd (n2 c q) (a.dom c (by rw [e]; simp))
theorem StE.notin {m m' : List Addr} {H H' : Hp} (a : StE m H m' H') {b : Addr} (h : H b ≠ none) (n : b ∉ m) : b ∉ m' := by
  obtain ⟨ms, rfl, n1⟩ := a.ext
  intro q
  rcases List.mem_append.mp q with q | q
  · exact n q
  · exact h (n1 b q)
theorem StE.ex' {m m' : List Addr} {H H' : Hp} (a : StE m H m' H') : ∃ ms, m' = m ++ ms := by
  obtain ⟨ms, e, _⟩ := a.ext
  exact ⟨ms, e⟩
/-- the cells' facts alone -/
theorem StE.kp {m m' : List Addr} {H H' : Hp} (a : StE m H m' H') {Ex Ex' : Ad} (h1 : ∀ b, b ∈ m → Ex b) (h2 : ∀ b, Ex' b → Ex b ∨ b ∈ m') : Kp Ex H Ex' H' := fun b o e n => by
  have nm : b ∉ m := fun q => n (h1 b q)
  exact ⟨a.keep b o e nm, fun q => (h2 b q).elim n (a.notin (by rw [e]; simp) nm)⟩
theorem StE.same {m : List Addr} {H H' : Hp} (s : Same H H') : StE m H m H' where
  keep := fun b o e _ => s b o e
  dom := fun b h q => by
    cases e : H b with
    | none => exact h e
    | some o =>
      rw [s b o e] at q
      cases q
  ext := ⟨[], by simp, by simp⟩
theorem Same.upd {H : Hp} {p : Addr} {o : HO} (n : H p = none) : Same H (upd H p o) := fun b u e => by
  rw [upd_ne (ne_of_none e n)]
  exact e
theorem StE.new {m : List Addr} {H : Hp} {p : Addr} {o : HO} (n : H p = none) : StE m H m (upd H p o) := StE.same (Same.upd n)

section
variable {C : Ctx} {m m' : List Addr} {σ : St} {H H' : Hp} {env : Env} {h h' : Hs}
theorem Rel.ownDom (R : Rel C m σ H env h) {a : Addr} (o : OwnAt σ env a) : ∃ vs, H a = some (.lst vs) ∧ C.H0 a = none ∧ a ∉ m := by
  obtain ⟨i, xs, e, s⟩ := o
  obtain ⟨v, s', ⟨a', vs, rfl, ha, h0, nm, _⟩, _⟩ := R.slot i _ e
  rw [s] at s'
  cases s'
  exact ⟨vs, ha, h0, nm⟩
theorem Rel.mDom (R : Rel C m σ H env h) {a : Addr} (o : a ∈ m) : H a ≠ none := by
  obtain ⟨n, hn, e⟩ := List.getElem_of_mem o
  have e1 : m[n]? = some a := by rw [List.getElem?_eq_getElem hn, e]
  obtain ⟨c, hc⟩ : ∃ c, h[n]? = some c := ⟨h[n]'(by rw [← R.hm.len]; exact hn), List.getElem?_eq_getElem _⟩
  have q := R.hm.at_ n a c e1 hc
  cases c with
  | lst xs => obtain ⟨vs, q, _⟩ := q; rw [q]; simp
  | dK xs => obtain ⟨vs, q, _⟩ := q; rw [q]; simp
  | dT xs => obtain ⟨vs, q, _⟩ := q; rw [q]; simp
  | ins D fs => obtain ⟨dx, vs, q, _⟩ := q; rw [q]; simp
  | tab P n => obtain ⟨_, ps, q, _⟩ := q; rw [q]; simp
  | dN kvs => obtain ⟨es, ks, vs, q, _⟩ := q; rw [q]; simp
  | lkK o us kvs => obtain ⟨q, _⟩ := q; rw [q]; simp
theorem Rel.exDom (R : Rel C m σ H env h) {a : Addr} (o : ExOf C σ env m a) : H a ≠ none := by
  rcases o with g | o | o
  · exact R.gdom a g
  · obtain ⟨vs, e, _⟩ := R.ownDom o
    rw [e]; simp
  · exact R.mDom o
/-- a new place is not met by anything -/
theorem Rel.exNew (R : Rel C m σ H env h) {p : Addr} (n : H p = none) : ¬ ExOf C σ env m p := fun q => R.exDom q n
theorem ExOf.step {b : Addr} (q : ExOf C σ env m' b) : ExOf C σ env m b ∨ b ∈ m' := by
  rcases q with q | q | q
  · exact .inl (.inl q)
  · exact .inl (.inr (.inl q))
  · exact .inr q
theorem Rel.kp (R : Rel C m σ H env h) (S : StE m H m' H') : Kp (ExOf C σ env m) H (ExOf C σ env m') H' :=
  S.kp (fun _ q => .inr (.inr q)) fun _ q => q.step
/-- an expression's value behind a further step -/
theorem RepS.step {N N' : Ad} {v : V} {sv : SV} (r : RepS C (ExOf C σ env m) m N H v sv) (S : StE m H m' H') (hN : ∀ a, N a → N' a) : RepS C (ExOf C σ env m') m' N' H' v sv := by
  have k : Kp (ExOf C σ env m) H (ExOf C σ env m') H' := S.kp (fun _ q => .inr (.inr q)) fun _ q => q.step
  cases sv with
  | val p => exact Rep.mono k S.ex' r
  | own xs =>
    obtain ⟨a, vs, rfl, ha, n, nm, q⟩ := r
    refine ⟨a, vs, rfl, S.keep _ _ ha nm, hN a n, S.notin (by rw [ha]; simp) nm, RepL.mono ?_ S.ex' q⟩
    refine S.kp (fun _ q => .inl (.inr (.inr q))) fun b q => ?_
    rcases q with q | q
    · exact q.step.imp .inl id
    · exact .inl (.inr q)
  | brw xs =>
    obtain ⟨a, vs, rfl, ha, q⟩ := r
    exact ⟨a, vs, rfl, ha.mono (S.kp (fun _ q => q) fun b q => .inr q), RepL.mono k S.ex' q⟩
  | exc _ _ => first | (cases e; done) | (cases nb; done) | exact r | exact r1 | exact ⟨r, trivial⟩ | exact ⟨r1, trivial⟩ | exact ⟨rv, trivial⟩ | trivial
  | scr ns =>
    obtain ⟨a, rfl, ha⟩ := r
    refine ⟨a, rfl, ha.imp (fun ha => ?_) id⟩
    obtain ⟨h1, h2⟩ := LstAt.mono (Ex := (· ∈ m)) (Ex' := (· ∈ m')) ha (S.kp (fun _ q => q) fun b q => .inr q)
    exact ⟨h1, h2⟩
/-- the names behind a step, if the cells are told anew -/
theorem Rel.step (R : Rel C m σ H env h) (S : StE m H m' H') (hm : HeapR C.K (ExOf C σ env m') m' H' h') : Rel C m' σ H' env h' where
  len := R.len
  slot := fun i sv e => by
    obtain ⟨v, s, r, b⟩ := R.slot i sv e
    exact ⟨v, s, r.step S fun _ q => q, b⟩
  pin := fun p hp => ⟨⟨(R.pin p hp).1.1.step S fun _ q => q, (R.pin p hp).1.2⟩, (R.pin p hp).2⟩
  uniq := R.uniq
  hm := hm
  keep := fun b o e n => by
    obtain ⟨ms, rfl, hn⟩ := R.pre
    refine S.keep b o (R.keep b o e n) fun q => ?_
    rcases List.mem_append.mp q with q | q
    · exact n q
    · rw [hn b q] at e
      cases e
  dom := fun b q => S.dom b (R.dom b q)
  pre := by
    obtain ⟨ms, rfl, hn⟩ := R.pre
    obtain ⟨ns, rfl, hn2⟩ := S.ext
    refine ⟨ms ++ ns, by simp, fun b hb => ?_⟩
    rcases List.mem_append.mp hb with q | q
    · exact hn b q
    · cases e : C.H0 b with
      | none => rfl
      | some o => exact absurd (hn2 b q) (R.dom b (by rw [e]; simp))
  gdom := fun a q => S.dom a (R.gdom a q)
  gown := R.gown
theorem CellR.mono {K : PySem.W.Frag} {Ex Ex' : Ad} {a : Addr} {c : Cell} (r : CellR K Ex m H a c) (k : Kp Ex H Ex' H') (e : ∃ ms, m' = m ++ ms) (s : H' a = H a) : CellR K Ex' m' H' a c := by
  cases c with
  | lst xs =>
    obtain ⟨vs, h, q⟩ := r
    exact ⟨vs, s.trans h, q.mono k e⟩
  | dK xs =>
    obtain ⟨vs, h, z, q⟩ := r
    exact ⟨vs, s.trans h, z, q.mono k e⟩
  | dT xs =>
    obtain ⟨vs, h, z, q⟩ := r
    exact ⟨vs, s.trans h, z, q.mono k e⟩
  | ins D fs =>
    obtain ⟨dx, vs, h, hd, nd, z, q⟩ := r
    exact ⟨dx, vs, s.trans h, (k dx _ hd nd).1, (k dx _ hd nd).2, z, q.mono k e⟩
  | tab P q =>
    obtain ⟨e0, ps, h, ht, hc⟩ := r
    refine ⟨e0, ps, s.trans h, ht, fun pos cv z => ?_⟩
    obtain ⟨c, e1, e2, e3⟩ := hc pos cv z
    exact ⟨c, e1, (k c _ e2 e3).1, (k c _ e2 e3).2⟩
  | dN kvs =>
    obtain ⟨es, ks, vs, h, e1, e2, e3, r1, r2⟩ := r
    exact ⟨es, ks, vs, s.trans h, e1, e2, e3, r1.mono k e, r2.mono k e⟩
  | lkK o us kvs =>
    obtain ⟨h, z, q⟩ := r
    exact ⟨s.trans h, z, q.mono k e⟩
/-- new things alone -/
theorem Rel.grow (R : Rel C m σ H env h) (s : Same H H') : Rel C m σ H' env h := by
  have S : StE m H m H' := StE.same s
  refine R.step S ⟨R.hm.len, R.hm.nd, fun n a c e f => (R.hm.at_ n a c e f).mono (R.kp S) ⟨[], by simp⟩ ?_⟩
  cases q : H a with
  | none => exact absurd q (R.mDom (List.mem_of_getElem? e))
  | some o => exact s a o q
end
end PM

namespace PM
open PySem PySem.Spec L2
open PyProof.Rows hiding St

/-! ### contexts with temporary lists outside -/
def Ctx.own (C : Ctx) (v : V) : SV → Ctx
  | .own _ => { C with T := fun b => C.T b ∨ V.ref b = v }
  | _ => C
theorem Ctx.own_K (C : Ctx) (v : V) (sv : SV) : (C.own v sv).K = C.K := by cases sv <;> rfl
theorem Ctx.own_H0 (C : Ctx) (v : V) (sv : SV) : (C.own v sv).H0 = C.H0 := by cases sv <;> rfl
theorem Ctx.own_m0 (C : Ctx) (v : V) (sv : SV) : (C.own v sv).m0 = C.m0 := by cases sv <;> rfl
theorem Ctx.own_pins (C : Ctx) (v : V) (sv : SV) : (C.own v sv).pins = C.pins := by cases sv <;> rfl
theorem Ctx.own_T (C : Ctx) (v : V) (sv : SV) {b : Addr} (h : C.T b) : (C.own v sv).T b := by
  cases sv <;> first | exact h | exact .inl h
theorem Ctx.own_GT (C : Ctx) (v : V) (sv : SV) {b : Addr} (h : C.GT b) : (C.own v sv).GT b := h.imp (fun q => by cases sv <;> exact q) (C.own_T v sv)
section
variable {C C' : Ctx} {m m' : List Addr} {σ : St} {H H' : Hp} {env : Env} {h h' : Hs}
theorem ExOf.le (g : ∀ b, C.GT b → C'.GT b) {b : Addr} (q : ExOf C σ env m b) : ExOf C' σ env m b := by
  rcases q with q | q | q
  · exact .inl (g b q)
  · exact .inr (.inl q)
  · exact .inr (.inr q)
theorem Kp.le {Ex Ex' : Ad} (g : ∀ b, Ex' b → Ex b) : Kp Ex H Ex' H := fun a o e n => ⟨e, fun q => n (g a q)⟩
theorem RepS.less {Ex Ex' N N' : Ad} {v : V} {sv : SV} (r : RepS C Ex m N H v sv) (e : C'.K = C.K) (g : ∀ b, Ex' b → Ex b) (n : ∀ b, N b → N' b) : RepS C' Ex' m N' H v sv := by
  cases sv with
  | val p =>
    show Rep C'.K Ex' m H v p
    rw [e]
    exact Rep.mono (Kp.le g) ⟨[], by simp⟩ r
  | own xs =>
    obtain ⟨a, vs, rfl, ha, na, nm, q⟩ := r
    refine ⟨a, vs, rfl, ha, n a na, nm, e ▸ RepL.mono (Kp.le fun b q => ?_) ⟨[], by simp⟩ q⟩
    exact q.imp (g b) id
  | brw xs =>
    obtain ⟨a, vs, rfl, ha, q⟩ := r
    exact ⟨a, vs, rfl, ha, e ▸ RepL.mono (Kp.le g) ⟨[], by simp⟩ q⟩
  | exc _ _ => first | (cases e; done) | (cases nb; done) | exact r | exact r1 | exact ⟨r, trivial⟩ | exact ⟨r1, trivial⟩ | exact ⟨rv, trivial⟩ | trivial
  | scr ns =>
    obtain ⟨a, rfl, ha⟩ := r
    exact ⟨a, rfl, ha.imp id fun q H' => by rw [e]; exact q H'⟩
theorem NB.less {v : V} {sv : SV} (n : NB C' σ env v sv) (eK : C'.K = C.K) (t : ∀ b, C.T b → C'.T b) : NB C σ env v sv := by
  cases sv with
  | val p => trivial
  | own xs => trivial
  | brw xs => exact fun b e => ⟨(n b e).1, fun q => (n b e).2 (t b q)⟩
  | exc _ _ => first | (cases e; done) | (cases nb; done) | exact r | exact r1 | exact ⟨r, trivial⟩ | exact ⟨r1, trivial⟩ | exact ⟨rv, trivial⟩ | trivial
  | scr ns =>
    intro b e
    rcases n b e with q | q
    · exact .inl fun H' => by rw [← eK]; exact q H'
    · exact .inr ⟨q.1, fun z => q.2 (t b z)⟩
theorem Rel.less (R : Rel C' m σ H env h) (eK : C'.K = C.K) (e0 : C'.H0 = C.H0) (em : C'.m0 = C.m0) (g : ∀ b, C.GT b → C'.GT b) (t : ∀ b, C.T b → C'.T b) (ep : ∀ p ∈ C.pins, p ∈ C'.pins) : Rel C m σ H env h where
  len := R.len
  slot := fun i sv e => by
    obtain ⟨v, s, r, b⟩ := R.slot i sv e
    exact ⟨v, s, r.less eK.symm (fun b q => q.le g) fun b q => e0 ▸ q, b.less eK t⟩
  pin := fun p hp => ⟨⟨(R.pin p (ep p hp)).1.1.less eK.symm (fun b q => q.le g) fun b q => e0 ▸ q, (R.pin p (ep p hp)).1.2.less eK t⟩, (R.pin p (ep p hp)).2⟩
  uniq := R.uniq
  hm := ⟨R.hm.len, R.hm.nd, fun n a c e f => by
    have q := R.hm.at_ n a c e f
    rw [eK] at q
    exact q.mono (Kp.le fun b q => q.le g) ⟨[], by simp⟩ rfl⟩
  keep := by rw [← e0, ← em]; exact R.keep
  dom := by rw [← e0]; exact R.dom
  pre := by rw [← e0, ← em]; exact R.pre
  gdom := fun a q => R.gdom a (g a q)
  gown := fun a q => R.gown a (g a q)
theorem Rel.drop {v : V} {sv : SV} (R : Rel (C.own v sv) m σ H env h) : Rel C m σ H env h :=
  R.less (C.own_K v sv) (C.own_H0 v sv) (C.own_m0 v sv) (fun _ => C.own_GT v sv) (fun _ => C.own_T v sv) fun _ hp => (C.own_pins v sv).symm ▸ hp
/-- a new thing that nothing meets -/
theorem Rel.fresh (R : Rel C m σ H env h) {p : Addr} {o : HO} (n : H p = none) (xs : List PV) : Rel (C.own (.ref p) (.own xs)) m σ (upd H p o) env h := by
  have k : Kp (ExOf C σ env m) H (ExOf (C.own (.ref p) (.own xs)) σ env m) (upd H p o) := fun b u e q => by
    have nb : b ≠ p := ne_of_none e n
    refine ⟨by rw [upd_ne nb]; exact e, fun z => ?_⟩
    rcases z with z | z | z
    · rcases z with z | z | z
      · exact q (.inl (.inl z))
      · exact q (.inl (.inr z))
      · exact nb (V.ref.inj z)
    · exact q (.inr (.inl z))
    · exact q (.inr (.inr z))
  have up : ∀ b, H b ≠ none → upd H p o b = H b := fun b q => upd_ne fun e => q (by rw [e]; exact n)
  have slots : ∀ v sv, SlotR C σ env m H v sv → SlotR (C.own (.ref p) (.own xs)) σ env m (upd H p o) v sv := fun v sv ⟨r, bb⟩ => by
    refine ⟨?_, ?_⟩
    rotate_left
    · cases sv with
      | val p => trivial
      | own xs => trivial
      | brw ys =>
        obtain ⟨a, vs, rfl, ha, q⟩ := r
        intro b e
        cases e
        refine ⟨(bb a rfl).1, fun z => z.elim (bb a rfl).2 fun z => ?_⟩
        cases z
        rcases ha.1 with z | ⟨_, z⟩
        · rw [n] at z
          cases z
        · rw [n] at z
          cases z
      | exc _ _ => first | (cases e; done) | (cases nb; done) | exact r | exact r1 | exact ⟨r, trivial⟩ | exact ⟨r1, trivial⟩ | exact ⟨rv, trivial⟩ | trivial
      | scr ns =>
        obtain ⟨a, rfl, ha⟩ := r
        intro b e
        cases e
        rcases bb a rfl with q | q
        · exact .inl q
        · rcases ha with ha | ha
          · refine .inr ⟨q.1, fun z => z.elim q.2 fun z => ?_⟩
            cases z
            rcases ha.1 with z | ⟨_, z⟩
            · rw [n] at z
              cases z
            · rw [n] at z
              cases z
          · exact .inl ha
    cases sv with
    | val p => exact Rep.mono k ⟨[], by simp⟩ r
    | own ys =>
      obtain ⟨a, vs, rfl, ha, na, nm, q⟩ := r
      have nap : a ≠ p := ne_of_none ha n
      refine ⟨a, vs, rfl, by rw [upd_ne nap]; exact ha, na, nm, RepL.mono (fun b u eb nb => ?_) ⟨[], by simp⟩ q⟩
      obtain ⟨k1, k2⟩ := k b u eb fun z => nb (.inl z)
      exact ⟨k1, fun z => z.elim k2 fun z => nb (.inr z)⟩
    | brw ys =>
      obtain ⟨a, vs, rfl, ha, q⟩ := r
      refine ⟨a, vs, rfl, ha.mono fun b u eb nb => ⟨?_, nb⟩, RepL.mono k ⟨[], by simp⟩ q⟩
      rw [upd_ne (ne_of_none eb n)]
      exact eb
    | exc _ _ => first | (cases e; done) | (cases nb; done) | exact r | exact r1 | exact ⟨r, trivial⟩ | exact ⟨r1, trivial⟩ | exact ⟨rv, trivial⟩ | trivial
    | scr ns =>
      obtain ⟨a, rfl, ha⟩ := r
      refine ⟨a, rfl, ha.imp (fun q => ?_) id⟩
      have q2 : LstAt (· ∈ m) (upd H p o) a (ns.map V.int) := LstAt.mono q fun b u eb nb => ⟨by rw [upd_ne (ne_of_none eb n)]; exact eb, nb⟩
      exact q2
  refine ⟨R.len, fun i sv e => ?_, fun q hq => ⟨slots _ _ (R.pin q hq).1, (R.pin q hq).2⟩, R.uniq, ⟨R.hm.len, R.hm.nd, fun i a c e f => (R.hm.at_ i a c e f).mono k ⟨[], by simp⟩ (up a (R.mDom (List.mem_of_getElem? e)))⟩, fun b u e q => ?_, fun b q => ?_, R.pre, fun b q => ?_, fun b q z => ?_⟩
  · obtain ⟨v, s, r⟩ := R.slot i sv e
    exact ⟨v, s, slots v sv r⟩
  · have z := R.keep b u e q
    rw [upd_ne (ne_of_none z n)]
    exact z
  · rw [up b (R.dom b q)]
    exact R.dom b q
  · rcases q with q | q | q
    · rw [up b (R.gdom b (.inl q))]
      exact R.gdom b (.inl q)
    · rw [up b (R.gdom b (.inr q))]
      exact R.gdom b (.inr q)
    · cases q
      rw [upd_same]
      simp
  · rcases q with q | q | q
    · exact R.gown b (.inl q) z
    · exact R.gown b (.inr q) z
    · cases q
      obtain ⟨vs, e, _⟩ := R.ownDom z
      rw [n] at e
      cases e
end

/-! ### soundness of readings -/
section
variable (K : PySem.W.Frag) (W : WX)
def PostE (C : Ctx) (m : List Addr) (σ : St) (H : Hp) (env : Env) (Q : VQ) (Q' : VK) : Prop :=
  ∀ m' v H' sv h', StE m H m' H' → Rel (C.own v sv) m' σ H' env h' → RepS C (ExOf C σ env m') m' (fun a => H a = none) H' v sv → Q sv h' → Q' v H'
def PostX (C : Ctx) (m : List Addr) (σ : St) (H : Hp) (env : Env) (E : XQ) : Prop :=
  ∀ c m' H' h', StE m H m' H' → Rel C m' σ H' env h' → E c h' → W (.ref c) none σ H'
structure SE (t : TE) (f : DE) : Prop where
  run : ∀ (C : Ctx) (m : List Addr) (σ : St) (H : Hp) (env : Env) (h : Hs) (Q : VQ) (E : XQ) (Q' : VK), C.K = K → Rel C m σ H env h → f env h Q E → PostE C m σ H env Q Q' → PostX W C m σ H env E → t σ H Q'
structure ST (t : TT) (f : DT) : Prop where
  run : ∀ (C : Ctx) (m : List Addr) (σ : St) (H : Hp) (env : Env) (h : Hs) (Q : Bool → Hs → Prop) (E : XQ) (Q' : Bool → Hp → Prop), C.K = K → Rel C m σ H env h → f env h Q E →
    (∀ m' b H' h', StE m H m' H' → Rel C m' σ H' env h' → Q b h' → Q' b H') → PostX W C m σ H env E → t σ H Q'
def Ctx.owns (C : Ctx) : List V → List SV → Ctx
  | v :: vs, sv :: svs => (C.own v sv).owns vs svs
  | _, _ => C
structure SA (t : TA) (f : DA) : Prop where
  run : ∀ (C : Ctx) (m : List Addr) (σ : St) (H : Hp) (env : Env) (h : Hs) (Q : List SV → Hs → Prop) (E : XQ) (Q' : List V → Hp → Prop), C.K = K → Rel C m σ H env h → f env h Q E →
    (∀ m' vs H' svs h', StE m H m' H' → Rel (C.owns vs svs) m' σ H' env h' → Paired (RepS C (ExOf C σ env m') m' (fun a => H a = none) H') vs svs → Q svs h' → Q' vs H') → PostX W C m σ H env E → t σ H Q'
end
section
variable {K : PySem.W.Frag} {W : WX} {C : Ctx} {m m1 : List Addr} {σ : St} {H H1 : Hp} {env : Env} {h : Hs}
theorem PostX.go {E : XQ} (p : PostX W C m σ H env E) (S : StE m H m1 H1) : PostX W C m1 σ H1 env E :=
  fun c m' H' h' S' R e => p c m' H' h' (S.trans S') R e
theorem PostX.own {E : XQ} {v : V} {sv : SV} (p : PostX W C m σ H env E) : PostX W (C.own v sv) m σ H env E :=
  fun c m' H' h' S' R e => p c m' H' h' S' R.drop e
theorem Ctx.owns_K : ∀ (C : Ctx) (vs : List V) (svs : List SV), (C.owns vs svs).K = C.K
  | _, [], _ => rfl
  | _, _ :: _, [] => rfl
  | C, v :: vs, sv :: svs => by rw [Ctx.owns, Ctx.owns_K, Ctx.own_K]
theorem Rel.drops : ∀ {C : Ctx} {vs : List V} {svs : List SV}, Rel (C.owns vs svs) m σ H env h → Rel C m σ H env h
  | _, [], _, R => R
  | _, _ :: _, [], R => R
  | _, v :: vs, sv :: svs, R => Rel.drop (Rel.drops (vs := vs) (svs := svs) R)
theorem stnew (S : StE m H m1 H1) {a : Addr} (n : H1 a = none) : H a = none := by
  cases e : H a with
  | none => rfl
  | some o => exact absurd n (S.dom a (by rw [e]; simp))
end

/-! ### names and constants -/
def dVar (i : Nat) : DE := fun env h Q _ => match env[i]? with
  | some (some (.val p)) => Q (.val p) h
  | some (some (.own xs)) => Q (.brw xs) h
  | some (some (.brw xs)) => Q (.brw xs) h
  | some (some (.scr ns)) => Q (.scr ns) h
  | _ => False
@[simp ↓] theorem dVar_eq (i : Nat) (env : Env) (h : Hs) (Q : VQ) (u0 : XQ) : dVar i env h Q u0 = (match env[i]? with
  | some (some (.val p)) => Q (.val p) h
  | some (some (.own xs)) => Q (.brw xs) h
  | some (some (.brw xs)) => Q (.brw xs) h
  | some (some (.scr ns)) => Q (.scr ns) h
  | _ => False) := id rfl
def dC (p : PV) : DE := fun _ h Q _ => Q (.val p) h
@[simp ↓] theorem dC_eq (p : PV) (u0 : Env) (h : Hs) (Q : VQ) (u1 : XQ) : dC p u0 h Q u1 = (Q (.val p) h) := id rfl
section
variable {K : PySem.W.Frag} {W : WX}
theorem se_var (i : Nat) : SE K W (tVar i) (dVar i) := ⟨fun C m σ H env h Q E Q' eK R hf p _ => by
  unfold dVar at hf
  split at hf
  · rename_i pv e
    obtain ⟨v, s, r, _⟩ := R.slot i _ e
    exact ⟨v, s, p m v H (.val pv) h (.refl m H) R r hf⟩
  · rename_i xs e
    obtain ⟨v, s, ⟨a, vs, rfl, ha, na, nm, r⟩, _⟩ := R.slot i _ e
    exact ⟨_, s, p m _ H (.brw xs) h (.refl m H) R ⟨a, vs, rfl, ⟨.inl ha, nm⟩, RepL.mono (Kp.le fun b q => .inl q) ⟨[], by simp⟩ r⟩ hf⟩
  · rename_i xs e
    obtain ⟨v, s, r, _⟩ := R.slot i _ e
    exact ⟨v, s, p m v H (.brw xs) h (.refl m H) R r hf⟩
  · rename_i ns e
    obtain ⟨v, s, r, _⟩ := R.slot i _ e
    exact ⟨v, s, p m v H (.scr ns) h (.refl m H) R r hf⟩
  · exact hf.elim⟩
theorem se_c {v : V} {pv : PV} (k : ∀ Ex m H, Rep K Ex m H v pv) : SE K W (tC v) (dC pv) := ⟨fun C m σ H env h Q E Q' eK R hf p _ => by
  subst eK
  exact p m v H (.val pv) h (.refl m H) R (k _ _ _) hf⟩
theorem se_int {i : Int} : SE K W (tC (.int i)) (dC (.int i)) := se_c fun _ _ _ => .int i
theorem se_bl {b : Bool} : SE K W (tC (.bl b)) (dC (.bl b)) := se_c fun _ _ _ => .bl b
theorem se_non : SE K W (tC .non) (dC .non) := se_c fun _ _ _ => .non
theorem se_str {x : Str} : SE K W (tC (.str x)) (dC (.str x)) := se_c fun _ _ _ => .str x
end

/-! ### operators on values -/
abbrev G1 := Hs → SV → (SV → Prop) → Prop
abbrev G2 := Hs → SV → SV → (SV → Prop) → Prop
def PostO (C : Ctx) (m : List Addr) (σ : St) (H : Hp) (env : Env) (h : Hs) (q : SV → Prop) (Q' : VK) : Prop :=
  ∀ v H' sv, Same H H' → Rel (C.own v sv) m σ H' env h → RepS C (ExOf C σ env m) m (fun a => H a = none) H' v sv → q sv → Q' v H'
abbrev RepA (C : Ctx) (σ : St) (env : Env) (m : List Addr) (H : Hp) : V → SV → Prop := RepS C (ExOf C σ env m) m (fun _ => True) H
def OpS (K : PySem.W.Frag) (r : R2) (g : G2) : Prop := ∀ (C : Ctx) (m : List Addr) (σ : St) (H : Hp) (env : Env) (h : Hs) (x y : V) (sx sy : SV) (q : SV → Prop) (Q' : VK), C.K = K → Rel C m σ H env h →
  RepA C σ env m H x sx → RepA C σ env m H y sy → g h sx sy q → PostO C m σ H env h q Q' → r x y H Q'
def UnS (K : PySem.W.Frag) (r : V → Hp → VK → Prop) (g : G1) : Prop := ∀ (C : Ctx) (m : List Addr) (σ : St) (H : Hp) (env : Env) (h : Hs) (x : V) (sx : SV) (q : SV → Prop) (Q' : VK), C.K = K → Rel C m σ H env h →
  RepA C σ env m H x sx → g h sx q → PostO C m σ H env h q Q' → r x H Q'
def dOp (g : G2) (a b : DE) : DE := fun env h Q E => a env h (fun x h1 => b env h1 (fun y h2 => g h2 x y fun r => Q r h2) E) E
@[simp ↓] theorem dOp_eq (g : G2) (a b : DE) (env : Env) (h : Hs) (Q : VQ) (E : XQ) : dOp g a b env h Q E = (a env h (fun x h1 => b env h1 (fun y h2 => g h2 x y fun r => Q r h2) E) E) := id rfl
def dUn (g : G1) (a : DE) : DE := fun env h Q E => a env h (fun x h1 => g h1 x fun r => Q r h1) E
@[simp ↓] theorem dUn_eq (g : G1) (a : DE) (env : Env) (h : Hs) (Q : VQ) (E : XQ) : dUn g a env h Q E = (a env h (fun x h1 => g h1 x fun r => Q r h1) E) := id rfl
section
variable {K : PySem.W.Frag} {W : WX} {ta tb : TE} {fa fb : DE}
theorem se_op {r : R2} {g : G2} (o : OpS K r g) (ha : SE K W ta fa) (hb : SE K W tb fb) : SE K W (tOp r ta tb) (dOp g fa fb) := ⟨fun C m σ H env h Q E Q' eK R hf p px => by
  refine ha.run C m σ H env h _ E _ eK R hf (fun m1 x H1 sx h1 S1 R1 r1 q1 => ?_) px
  refine hb.run (C.own x sx) m1 σ H1 env h1 _ E _ ((C.own_K x sx).trans eK) R1 q1 (fun m2 y H2 sy h2 S2 R2 r2 q2 => ?_) (px.go S1).own
  refine o C m2 σ H2 env h2 x y sx sy _ _ eK R2.drop.drop (r1.step S2 fun _ _ => trivial) (r2.less (C.own_K x sx).symm (fun b q => q.le fun _ => C.own_GT x sx) fun _ _ => trivial) q2 fun v H' sv s3 R3 r3 q3 => ?_
  have S : StE m H m2 H2 := S1.trans S2
  have S3 : StE m2 H2 m2 H' := .same s3
  exact p m2 v H' sv h2 (S.trans S3) R3 (r3.less rfl (fun _ q => q) fun a n => stnew S n) q3⟩
theorem se_un {r : V → Hp → VK → Prop} {g : G1} (o : UnS K r g) (ha : SE K W ta fa) : SE K W (tUn r ta) (dUn g fa) := ⟨fun C m σ H env h Q E Q' eK R hf p px => by
  refine ha.run C m σ H env h _ E _ eK R hf (fun m1 x H1 sx h1 S1 R1 r1 q1 => ?_) px
  refine o C m1 σ H1 env h1 x sx _ _ eK R1.drop (r1.less rfl (fun _ q => q) fun _ _ => trivial) q1 fun v H' sv s3 R3 r3 q3 => ?_
  have S3 : StE m1 H1 m1 H' := .same s3
  exact p m1 v H' sv h1 (S1.trans S3) R3 (r3.less rfl (fun _ q => q) fun a n => stnew S1 n) q3⟩
end
end PM

namespace PM
open PySem PySem.Spec L2
open PyProof.Rows hiding St

/-! ### lists and data of slot values -/
def listC (h : Hs) : SV → Option (List PV)
  | .val (.lst xs) => some xs
  | .val (.ref n) => match h[n]? with
    | some (.lst xs) => some xs
    | _ => none
  | .own xs => some xs
  | .brw xs => some xs
  | .scr _ => none
  | _ => none
/-- a list or tuple that is read -/
def seqC (h : Hs) : SV → Option (List PV)
  | .val (.tup xs) => some xs
  | .scr ns => some (ns.map .int)
  | s => listC h s
section
variable {C : Ctx} {m : List Addr} {σ : St} {H : Hp} {env : Env} {h : Hs} {v : V} {sv : SV} {xs : List PV}
theorem Rel.cell (R : Rel C m σ H env h) {n : Nat} {a : Addr} {c : Cell} (e : m[n]? = some a) (f : h[n]? = some c) : CellR C.K (ExOf C σ env m) m H a c := R.hm.at_ n a c e f
theorem Rel.listRd (R : Rel C m σ H env h) (r : RepA C σ env m H v sv) (e : listC h sv = some xs) : ∃ a vs, v = .ref a ∧ Rd H a (.lst vs) ∧ RepL C.K (ExOf C σ env m) m H vs xs := by
  cases sv with
  | own ys =>
    obtain ⟨a, vs, rfl, ha, _, _, q⟩ := r
    cases e
    exact ⟨a, vs, rfl, .inl ha, RepL.mono (Kp.le fun b q => .inl q) ⟨[], by simp⟩ q⟩
  | brw ys =>
    obtain ⟨a, vs, rfl, ha, q⟩ := r
    cases e
    exact ⟨a, vs, rfl, ha.1, q⟩
  | exc _ _ => first | (cases e; done) | (cases nb; done) | exact r | exact r1 | exact ⟨r, trivial⟩ | exact ⟨r1, trivial⟩ | exact ⟨rv, trivial⟩ | trivial
  | scr ns => cases e
  | val p =>
    cases p with
    | lst ys =>
      cases e
      cases r with
      | lst ha q => exact ⟨_, _, rfl, ha.1, q⟩
    | ref n =>
      cases r with
      | ref hn =>
        have e' : (match h[n]? with | some (.lst xs) => some xs | _ => none) = some xs := e
        split at e'
        · rename_i ys hc
          cases e'
          obtain ⟨vs, q1, q2⟩ := R.cell hn hc
          exact ⟨_, vs, rfl, .inl q1, q2⟩
        · cases e'
    | _ => cases e
theorem Rel.list (R : Rel C m σ H env h) (r : RepA C σ env m H v sv) (e : listC h sv = some xs) : ∃ a vs, v = .ref a ∧ SqL C.K H a vs ∧ RepL C.K (ExOf C σ env m) m H vs xs := by
  obtain ⟨a, vs, e1, e2, e3⟩ := R.listRd r e
  exact ⟨a, vs, e1, .inl e2, e3⟩
theorem Rel.seq (R : Rel C m σ H env h) (r : RepA C σ env m H v sv) (e : seqC h sv = some xs) : ∃ a vs, v = .ref a ∧ (SqL C.K H a vs ∨ SqT C.K H a vs) ∧ RepL C.K (ExOf C σ env m) m H vs xs := by
  have lst : listC h sv = some xs → ∃ a vs, v = .ref a ∧ (SqL C.K H a vs ∨ SqT C.K H a vs) ∧ RepL C.K (ExOf C σ env m) m H vs xs := fun e => by
    obtain ⟨a, vs, e1, e2, e3⟩ := R.list r e
    exact ⟨a, vs, e1, .inl e2, e3⟩
  cases sv with
  | own ys => exact lst e
  | brw ys => exact lst e
  | exc _ _ => first | (cases e; done) | (cases nb; done) | exact r | exact r1 | exact ⟨r, trivial⟩ | exact ⟨r1, trivial⟩ | exact ⟨rv, trivial⟩ | trivial
  | scr ns =>
    obtain ⟨a, rfl, ha⟩ := r
    cases e
    refine ⟨a, _, rfl, .inl ?_, RepL.of_ints⟩
    rcases ha with ⟨ha, _⟩ | ha
    · exact .inl ha
    · exact ha H
  | val p =>
    cases p with
    | tup ys =>
      cases e
      cases r with
      | tup ha q => exact ⟨_, _, rfl, .inr ha.sq, q⟩
    | _ => exact lst e

/-- results: scalars -/
theorem PostO.at {q : SV → Prop} {Q' : VK} (p : PostO C m σ H env h q Q') (R : Rel C m σ H env h) {v : V} {pv : PV} (r : Rep C.K (ExOf C σ env m) m H v pv) (hq : q (.val pv)) : Q' v H :=
  p v H (.val pv) (Same.refl H) R r hq
theorem PostO.int {q : SV → Prop} {Q' : VK} (p : PostO C m σ H env h q Q') (R : Rel C m σ H env h) {i : Int} (hq : q (.val (.int i))) : Q' (.int i) H := p.at R (.int i) hq
theorem PostO.bl {q : SV → Prop} {Q' : VK} (p : PostO C m σ H env h q Q') (R : Rel C m σ H env h) {i : Bool} (hq : q (.val (.bl i))) : Q' (.bl i) H := p.at R (.bl i) hq
theorem PostO.str {q : SV → Prop} {Q' : VK} (p : PostO C m σ H env h q Q') (R : Rel C m σ H env h) {i : Str} (hq : q (.val (.str i))) : Q' (.str i) H := p.at R (.str i) hq
/-- a new list -/
theorem PostO.newL {q : SV → Prop} {Q' : VK} (p : PostO C m σ H env h q Q') (R : Rel C m σ H env h) {vs : List V} {xs : List PV} (r : RepL C.K (ExOf C σ env m) m H vs xs) (hq : q (.own xs)) {a : Addr} (n : H a = none) : Q' (.ref a) (upd H a (.lst vs)) := by
  have R2 : Rel (C.own (.ref a) (.own xs)) m σ (upd H a (.lst vs)) env h := R.fresh n xs
  refine p _ _ (.own xs) (Same.upd n) R2 ⟨a, vs, rfl, upd_same, n, fun q => R.mDom q n, RepL.mono (fun b u e nb => ?_) ⟨[], by simp⟩ r⟩ hq
  have z : b ≠ a := ne_of_none e n
  exact ⟨by rw [upd_ne z]; exact e, fun q => q.elim nb z⟩
theorem Rel.newTup (R : Rel C m σ H env h) {vs : List V} {xs : List PV} (r : RepL C.K (ExOf C σ env m) m H vs xs) {a : Addr} (n : H a = none) : Rep C.K (ExOf C σ env m) m (upd H a (.tup vs)) (.ref a) (.tup xs) :=
  .tup (.inl ⟨.inl upd_same, R.exNew n⟩) (RepL.mono (fun b u e nb => ⟨by rw [upd_ne (ne_of_none e n)]; exact e, nb⟩) ⟨[], by simp⟩ r)
theorem PostO.newT {q : SV → Prop} {Q' : VK} (p : PostO C m σ H env h q Q') (R : Rel C m σ H env h) {vs : List V} {xs : List PV} (r : RepL C.K (ExOf C σ env m) m H vs xs) (hq : q (.val (.tup xs))) {a : Addr} (n : H a = none) : Q' (.ref a) (upd H a (.tup vs)) :=
  p _ _ (.val (.tup xs)) (Same.upd n) (R.grow (Same.upd n)) (R.newTup r n) hq
end

/-! ### + - * // % ** -/
section
variable {X : Cx}
def rCatL : R2 := fun x y H Q => ∃ l b xs zs, x = .ref l ∧ y = .ref b ∧ Rd H l (.lst xs) ∧ Rd H b (.lst zs) ∧ xs.length + zs.length ≤ sizeLine ∧ ∀ p, H p = none → Q (.ref p) (upd H p (.lst (xs ++ zs)))
theorem op_catL : OpR X (binaryOp .Add) rCatL := by
  intro pins s σ H x y v u Q I rx ry h
  obtain ⟨l, b, xs, zs, rfl, rfl, hH, hB, hz, q⟩ := h
  cases rx
  cases ry
  obtain ⟨z, its, n, r, e⟩ := hH.ok I.hok
  obtain ⟨z2, its2, n2, r2, e2⟩ := hB.ok I.hok
  have hl := r.length
  have hl2 := r2.length
  refine PySem.P.add_list e e2 ?_ (by rw [List.size_toArray, List.size_toArray]; omega)
  have ea : its.toArray ++ its2.toArray = (its ++ its2).toArray := by simp
  rw [ea]
  exact ⟨.ref _, _, I.lnew (t' := s.toks) (r.append r2) (by rw [List.length_append]; omega), rfl, q _ I.fresh⟩
def rAddA (K : PySem.W.Frag) : R2 := fun x y H Q => (∃ i j, x = .int i ∧ y = .int j ∧ Q (.int (i + j)) H) ∨ (∃ i j, x = .str i ∧ y = .str j ∧ i.length + j.length ≤ sizeLine ∧ Q (.str (i ++ j)) H) ∨ rCatA K x y H Q ∨ rCatL x y H Q
theorem op_addA : OpR X (binaryOp .Add) (rAddA X.K) := op_add.or (op_add_str.or (op_catA.or op_catL))
end
def gAdd : G2 := fun h x y q => match x, y with
  | .val (.int i), .val (.int j) => q (.val (.int (i + j)))
  | .val (.str a), .val (.str b) => a.length + b.length ≤ sizeLine ∧ q (.val (.str (a ++ b)))
  | .val (.tup xs), .val (.tup ys) => xs.length + ys.length ≤ sizeLine ∧ q (.val (.tup (xs ++ ys)))
  | x, y => ∃ xs ys, listC h x = some xs ∧ listC h y = some ys ∧ xs.length + ys.length ≤ sizeLine ∧ q (.own (xs ++ ys))
@[simp ↓] theorem gAdd_eq  (h : Hs) (x : SV) (y : SV) (q : SV → Prop) : gAdd  h x y q = (match x, y with
  | .val (.int i), .val (.int j) => q (.val (.int (i + j)))
  | .val (.str a), .val (.str b) => a.length + b.length ≤ sizeLine ∧ q (.val (.str (a ++ b)))
  | .val (.tup xs), .val (.tup ys) => xs.length + ys.length ≤ sizeLine ∧ q (.val (.tup (xs ++ ys)))
  | x, y => ∃ xs ys, listC h x = some xs ∧ listC h y = some ys ∧ xs.length + ys.length ≤ sizeLine ∧ q (.own (xs ++ ys))) := id rfl
theorem os_add {K : PySem.W.Frag} : OpS K (rAddA K) gAdd := fun C m σ H env h x y sx sy q Q' eK R rx ry hg p => by
  subst eK
  unfold gAdd at hg
  split at hg
  · cases rx; cases ry
    exact .inl ⟨_, _, rfl, rfl, p.int R hg⟩
  · cases rx; cases ry
    exact .inr (.inl ⟨_, _, rfl, rfl, hg.1, p.str R hg.2⟩)
  · rename_i xs ys
    cases rx with
    | tup ha qa => cases ry with
      | tup hb qb =>
        refine .inr (.inr (.inl ⟨_, _, _, _, rfl, rfl, ha.sq, hb.sq, by rw [qa.length, qb.length]; exact hg.1, fun e => ?_, fun n e => ?_, fun _ _ a n => ?_⟩))
        · subst e
          cases qa
          exact p.at R (.tup hb qb) (by simpa using hg.2)
        · subst e
          cases qb
          exact p.at R (.tup ha qa) (by simpa using hg.2)
        · exact p.newT R (qa.append qb) hg.2 n
  · obtain ⟨xs, ys, e1, e2, l, hq⟩ := hg
    obtain ⟨a, vs, rfl, h1, q1⟩ := R.listRd rx e1
    obtain ⟨b, ws, rfl, h2, q2⟩ := R.listRd ry e2
    exact .inr (.inr (.inr ⟨a, b, vs, ws, rfl, rfl, h1, h2, by rw [q1.length, q2.length]; exact l, fun c n => p.newL R (q1.append q2) hq n⟩))

/-- an operator of ints -/
def gI (P : Int → Int → Prop) (f : Int → Int → PV) : G2 := fun _ x y q => match x, y with
  | .val (.int i), .val (.int j) => P i j ∧ q (.val (f i j))
  | _, _ => False
@[simp ↓] theorem gI_eq (P : Int → Int → Prop) (f : Int → Int → PV) (u0 : Hs) (x : SV) (y : SV) (q : SV → Prop) : gI P f u0 x y q = (match x, y with
  | .val (.int i), .val (.int j) => P i j ∧ q (.val (f i j))
  | _, _ => False) := id rfl
theorem os_I {K : PySem.W.Frag} {P : Int → Int → Prop} {g : Int → Int → V} {f : Int → Int → PV} (k : ∀ i j Ex m H, Rep K Ex m H (g i j) (f i j)) : OpS K (rI P g) (gI P f) := fun C m σ H env h x y sx sy q Q' eK R rx ry hg p => by
  subst eK
  unfold gI at hg
  split at hg
  · cases rx; cases ry
    exact ⟨_, _, rfl, rfl, hg.1, p.at R (k _ _ _ _ _) hg.2⟩
  · exact hg.elim
def gI0 (f : Int → Int → PV) : G2 := fun _ x y q => match x, y with
  | .val (.int i), .val (.int j) => q (.val (f i j))
  | _, _ => False
@[simp ↓] theorem gI0_eq (f : Int → Int → PV) (u0 : Hs) (x : SV) (y : SV) (q : SV → Prop) : gI0 f u0 x y q = (match x, y with
  | .val (.int i), .val (.int j) => q (.val (f i j))
  | _, _ => False) := id rfl
theorem os_I0 {K : PySem.W.Frag} {g : Int → Int → V} {f : Int → Int → PV} (k : ∀ i j Ex m H, Rep K Ex m H (g i j) (f i j)) : OpS K (rI0 g) (gI0 f) := fun C m σ H env h x y sx sy q Q' eK R rx ry hg p => by
  subst eK
  unfold gI0 at hg
  split at hg
  · cases rx; cases ry
    exact ⟨_, _, rfl, rfl, p.at R (k _ _ _ _ _) hg⟩
  · exact hg.elim
def gSub : G2 := gI0 fun i j => .int (i - j)
@[simp ↓] theorem gSub_eq : gSub = (gI0 fun i j => .int (i - j)) := id rfl
theorem os_sub {K : PySem.W.Frag} : OpS K (rI0 fun i j => .int (i - j)) gSub := os_I0 fun _ _ _ _ _ => .int _
def gMod : G2 := gI (fun _ j => 0 < j) fun i j => .int (i % j)
@[simp ↓] theorem gMod_eq : gMod = (gI (fun _ j => 0 < j) fun i j => .int (i % j)) := id rfl
theorem os_mod {K : PySem.W.Frag} : OpS K (rI (fun _ j => 0 < j) fun i j => .int (i % j)) gMod := os_I fun _ _ _ _ _ => .int _
def gFdiv : G2 := gI CDivW fun i j => .int (i / j)
@[simp ↓] theorem gFdiv_eq : gFdiv = (gI CDivW fun i j => .int (i / j)) := id rfl
theorem os_fdiv {K : PySem.W.Frag} : OpS K (rI CDivW fun i j => .int (i / j)) gFdiv := os_I fun _ _ _ _ _ => .int _
def gPow : G2 := gI CPow fun i j => .int (i ^ j.toNat)
@[simp ↓] theorem gPow_eq : gPow = (gI CPow fun i j => .int (i ^ j.toNat)) := id rfl
theorem os_pow {K : PySem.W.Frag} : OpS K (rI CPow fun i j => .int (i ^ j.toNat)) gPow := os_I fun _ _ _ _ _ => .int _
/-! * of ints (one below 2^64), of a list and an int, of a tuple and an int -/
section
variable {X : Cx}
def rMulA (K : PySem.W.Frag) : R2 := fun x y H Q => rI CMul (fun i j => .int (i * j)) x y H Q ∨ rRep x y H Q ∨ rRepT K x y H Q
theorem op_mulA : OpR X (binaryOp .Mult) (rMulA X.K) := op_mul.or (op_rep.or op_repT)
end
def repN {α : Type} (k : Nat) (xs : List α) : List α := (List.replicate k xs).flatten
theorem RepL.rep {K : PySem.W.Frag} {Ex : Ad} {m : List Addr} {H : Hp} {vs : List V} {xs : List PV} (r : RepL K Ex m H vs xs) : ∀ k, RepL K Ex m H (List.replicate k vs).flatten (repN k xs)
  | 0 => .nil
  | k + 1 => by
    unfold repN
    rw [List.replicate_succ, List.replicate_succ, List.flatten_cons, List.flatten_cons]
    exact r.append (RepL.rep r k)
def gMul : G2 := fun h x y q => match x, y with
  | .val (.int i), .val (.int j) => CMul i j ∧ q (.val (.int (i * j)))
  | .val (.tup xs), .val (.int k) => xs ≠ [] ∧ 2 ≤ k ∧ k ≤ 1000 ∧ xs.length ≤ 1000 ∧ q (.val (.tup (repN k.toNat xs)))
  | .own xs, .val (.int k) => -(2 ^ 63) ≤ k ∧ k < 2 ^ 63 ∧ xs.length * k.toNat ≤ sizeLine ∧ q (.own (repN k.toNat xs))
  | _, _ => False
@[simp ↓] theorem gMul_eq  (h : Hs) (x : SV) (y : SV) (q : SV → Prop) : gMul  h x y q = (match x, y with
  | .val (.int i), .val (.int j) => CMul i j ∧ q (.val (.int (i * j)))
  | .val (.tup xs), .val (.int k) => xs ≠ [] ∧ 2 ≤ k ∧ k ≤ 1000 ∧ xs.length ≤ 1000 ∧ q (.val (.tup (repN k.toNat xs)))
  | .own xs, .val (.int k) => -(2 ^ 63) ≤ k ∧ k < 2 ^ 63 ∧ xs.length * k.toNat ≤ sizeLine ∧ q (.own (repN k.toNat xs))
  | _, _ => False) := id rfl
theorem os_mul {K : PySem.W.Frag} : OpS K (rMulA K) gMul := fun C m σ H env h x y sx sy q Q' eK R rx ry hg p => by
  subst eK
  unfold gMul at hg
  split at hg
  · cases rx; cases ry
    exact .inl ⟨_, _, rfl, rfl, hg.1, p.int R hg.2⟩
  · cases rx with
    | tup ha qa =>
      cases ry
      refine .inr (.inr ⟨_, _, _, rfl, rfl, ha.sq, fun e => hg.1 ?_, hg.2.1, hg.2.2.1, by rw [qa.length]; exact hg.2.2.2.1, fun a n => p.newT R (qa.rep _) hg.2.2.2.2 n⟩)
      subst e
      cases qa
      rfl
  · obtain ⟨a, vs, rfl, ha, _, _, qa⟩ := rx
    cases ry
    have qa' := RepL.mono (Kp.le fun b q => .inl q) ⟨[], (by simp : m = m ++ [])⟩ qa
    exact .inr (.inl ⟨_, _, _, rfl, rfl, ha, hg.1, hg.2.1, by rw [qa.length]; exact hg.2.2.1, fun b n => p.newL R (qa'.rep _) hg.2.2.2 n⟩)
  · exact hg.elim
def gNeg : G1 := fun _ x q => match x with
  | .val (.int i) => q (.val (.int (-i)))
  | _ => False
@[simp ↓] theorem gNeg_eq  (u0 : Hs) (x : SV) (q : SV → Prop) : gNeg  u0 x q = (match x with
  | .val (.int i) => q (.val (.int (-i)))
  | _ => False) := id rfl
theorem us_neg {K : PySem.W.Frag} : UnS K (rU fun i => .int (-i)) gNeg := fun C m σ H env h x sx q Q' eK R rx hg p => by
  subst eK
  unfold gNeg at hg
  split at hg
  · cases rx
    exact ⟨_, rfl, p.int R hg⟩
  · exact hg.elim

/-! ### comparisons -/
def gLt : G2 := gI0 fun i j => .bl (decide (i < j))
@[simp ↓] theorem gLt_eq : gLt = (gI0 fun i j => .bl (decide (i < j))) := id rfl
theorem os_lt {K : PySem.W.Frag} : OpS K (rI0 fun i j => .bl (decide (i < j))) gLt := os_I0 fun _ _ _ _ _ => .bl _
def gLe : G2 := gI0 fun i j => .bl (decide (i ≤ j))
@[simp ↓] theorem gLe_eq : gLe = (gI0 fun i j => .bl (decide (i ≤ j))) := id rfl
theorem os_le {K : PySem.W.Frag} : OpS K (rI0 fun i j => .bl (decide (i ≤ j))) gLe := os_I0 fun _ _ _ _ _ => .bl _
def gGt : G2 := gI0 fun i j => .bl (decide (j < i))
@[simp ↓] theorem gGt_eq : gGt = (gI0 fun i j => .bl (decide (j < i))) := id rfl
theorem os_gt {K : PySem.W.Frag} : OpS K (rI0 fun i j => .bl (decide (j < i))) gGt := os_I0 fun _ _ _ _ _ => .bl _
def gGe : G2 := gI0 fun i j => .bl (decide (j ≤ i))
@[simp ↓] theorem gGe_eq : gGe = (gI0 fun i j => .bl (decide (j ≤ i))) := id rfl
theorem os_ge {K : PySem.W.Frag} : OpS K (rI0 fun i j => .bl (decide (j ≤ i))) gGe := os_I0 fun _ _ _ _ _ => .bl _

/-! ### data -/
mutual
def PV.py : PV → PyData
  | .non => .none
  | .bl b => .bool b
  | .int i => .int i
  | .str x => .str x
  | .tup xs => .tuple (PV.pyL xs)
  | .lst xs => .list (PV.pyL xs)
  | .ref _ => .none
def PV.pyL : List PV → List PyData
  | [] => []
  | x :: xs => x.py :: PV.pyL xs
def PV.noRef : PV → Bool
  | .tup xs => PV.noRefL xs
  | .lst xs => PV.noRefL xs
  | .ref _ => false
  | _ => true
def PV.noRefL : List PV → Bool
  | [] => true
  | x :: xs => x.noRef && PV.noRefL xs
end
theorem PV.pyL_map : ∀ xs : List PV, PV.pyL xs = xs.map PV.py
  | [] => by simp [PV.pyL]
  | x :: xs => by simp [PV.pyL, PV.pyL_map xs]
theorem PV.noRefL_all : ∀ xs : List PV, PV.noRefL xs = xs.all PV.noRef
  | [] => by simp [PV.noRefL]
  | x :: xs => by simp [PV.noRefL, PV.noRefL_all xs]
mutual
theorem Rep.dp {K : PySem.W.Frag} {Ex : Ad} {m : List Addr} {H : Hp} {v : V} : ∀ {p : PV}, Rep K Ex m H v p → p.noRef = true → Dp K H v p.py
  | .non, .non, _ => by unfold PV.py; exact .non
  | .bl b, .bl _, _ => by unfold PV.py; exact .bl b
  | .int i, .int _, _ => by unfold PV.py; exact .int i
  | .str x, .str _, _ => by unfold PV.py; exact .str x
  | .tup xs, .tup h r, n => by unfold PV.py; exact .tup h.sq (RepL.dp r (by unfold PV.noRef at n; exact n))
  | .lst xs, .lst h r, n => by unfold PV.py; exact .lst h.sq (RepL.dp r (by unfold PV.noRef at n; exact n))
  | .ref _, .ref _, n => by unfold PV.noRef at n; cases n
theorem RepL.dp {K : PySem.W.Frag} {Ex : Ad} {m : List Addr} {H : Hp} {vs : List V} : ∀ {ps : List PV}, RepL K Ex m H vs ps → PV.noRefL ps = true → DpAll K H vs (PV.pyL ps)
  | [], .nil, _ => by unfold PV.pyL; exact .nil
  | p :: ps, .cons h r, n => by
    unfold PV.noRefL at n
    rw [Bool.and_eq_true] at n
    unfold PV.pyL
    exact .cons (Rep.dp h n.1) (RepL.dp r n.2)
end
/-- what a slot value says as data; a list that it holds counts by its items -/
def SV.pv (h : Hs) : SV → Option PV
  | .val (.ref n) => match h[n]? with
    | some (.lst xs) => some (.lst xs)
    | _ => none
  | .val p => some p
  | .own xs => some (.lst xs)
  | .brw xs => some (.lst xs)
  | .scr ns => some (.lst (ns.map .int))
  | .exc _ _ => none
def PV.okD (p : PV) : Bool := p.noRef && SeqAt.shaped p.py
theorem noRef_ints (ns : List Int) : PV.noRefL (ns.map .int) = true := by
  rw [PV.noRefL_all]
  simp [PV.noRef]
theorem Rel.dp {C : Ctx} {m : List Addr} {σ : St} {H : Hp} {env : Env} {h : Hs} {v : V} {sv : SV} {p : PV} (R : Rel C m σ H env h) (r : RepA C σ env m H v sv) (e : sv.pv h = some p) (n : p.noRef = true) : Dp C.K H v p.py := by
  have lst : ∀ xs, listC h sv = some xs → PV.noRefL xs = true → Dp C.K H v (PV.lst xs).py := fun xs e n => by
    obtain ⟨a, vs, rfl, h1, q⟩ := R.list r e
    unfold PV.py
    exact .lst h1 (q.dp n)
  cases sv with
  | own xs => cases e; exact lst xs rfl (by unfold PV.noRef at n; exact n)
  | brw xs => cases e; exact lst xs rfl (by unfold PV.noRef at n; exact n)
  | exc _ _ => first | (cases e; done) | (cases nb; done) | exact r | exact r1 | exact ⟨r, trivial⟩ | exact ⟨r1, trivial⟩ | exact ⟨rv, trivial⟩ | trivial
  | scr ns =>
    cases e
    obtain ⟨a, vs, rfl, h1, q⟩ := R.seq r (xs := ns.map .int) rfl
    obtain ⟨a', ea, ha⟩ := r
    cases ea
    have e2 := q.ints
    subst e2
    have h2 : SqL C.K H a (ns.map V.int) := by
      rcases ha with ⟨ha, _⟩ | ha
      · exact .inl ha
      · exact ha H
    unfold PV.py
    exact .lst h2 (q.dp (noRef_ints ns))
  | val q =>
    cases q with
    | ref k =>
      have e' : (match h[k]? with | some (.lst xs) => some (PV.lst xs) | _ => none) = some p := e
      split at e'
      · rename_i xs hc
        cases e'
        refine lst xs ?_ (by unfold PV.noRef at n; exact n)
        show (match h[k]? with | some (.lst xs) => some xs | _ => none) = some xs
        rw [hc]
      · cases e'
    | _ => cases e; exact Rep.dp r n
def pyEq (p q : PV) : Bool := PyData.eqv p.py q.py
def gEqB (neg : Bool) : G2 := fun h x y q => ∃ a b, x.pv h = some a ∧ y.pv h = some b ∧ a.okD = true ∧ b.okD = true ∧ q (.val (.bl (if neg then !pyEq a b else pyEq a b)))
@[simp ↓] theorem gEqB_eq (neg : Bool) (h : Hs) (x : SV) (y : SV) (q : SV → Prop) : gEqB neg h x y q = (∃ a b, x.pv h = some a ∧ y.pv h = some b ∧ a.okD = true ∧ b.okD = true ∧ q (.val (.bl (if neg then !pyEq a b else pyEq a b)))) := id rfl
def gEq : G2 := gEqB false
@[simp ↓] theorem gEq_eq : gEq = (gEqB false) := id rfl
def gNe : G2 := gEqB true
@[simp ↓] theorem gNe_eq : gNe = (gEqB true) := id rfl
theorem os_eq {K : PySem.W.Frag} : OpS K (rEqD K) gEq := fun C m σ H env h x y sx sy q Q' eK R rx ry hg p => by
  subst eK
  obtain ⟨a, b, e1, e2, o1, o2, hq⟩ := hg
  unfold PV.okD at o1 o2
  rw [Bool.and_eq_true] at o1 o2
  exact ⟨_, _, R.dp rx e1 o1.1, R.dp ry e2 o2.1, o1.2, o2.2, p.bl R hq⟩
theorem os_ne {K : PySem.W.Frag} : OpS K (rNeD K) gNe := fun C m σ H env h x y sx sy q Q' eK R rx ry hg p => by
  subst eK
  obtain ⟨a, b, e1, e2, o1, o2, hq⟩ := hg
  unfold PV.okD at o1 o2
  rw [Bool.and_eq_true] at o1 o2
  exact ⟨_, _, R.dp rx e1 o1.1, R.dp ry e2 o2.1, o1.2, o2.2, p.bl R hq⟩
/-- is None, is not None -/
@[simp] def PV.isN : PV → Bool
  | .non => true
  | _ => false
def gIsN (neg : Bool) : G2 := fun _ x y q => match x, y with
  | .val p, .val .non => q (.val (.bl (if neg then !p.isN else p.isN)))
  | _, _ => False
@[simp ↓] theorem gIsN_eq (neg : Bool) (u0 : Hs) (x : SV) (y : SV) (q : SV → Prop) : gIsN neg u0 x y q = (match x, y with
  | .val p, .val .non => q (.val (.bl (if neg then !p.isN else p.isN)))
  | _, _ => False) := id rfl
theorem Rep.isN {K : PySem.W.Frag} {Ex : Ad} {m : List Addr} {H : Hp} {v : V} {p : PV} (r : Rep K Ex m H v p) : decide (v = .non) = p.isN := by
  cases r <;> rfl
theorem os_isN {K : PySem.W.Frag} : OpS K (fun x y H Q => y = .non ∧ Q (.bl (decide (x = .non))) H) (gIsN false) := fun C m σ H env h x y sx sy q Q' eK R rx ry hg p => by
  subst eK
  unfold gIsN at hg
  split at hg
  · cases ry
    refine ⟨rfl, p.bl R ?_⟩
    rw [Rep.isN rx]
    exact hg
  · exact hg.elim
theorem os_notN {K : PySem.W.Frag} : OpS K (fun x y H Q => y = .non ∧ Q (.bl (!decide (x = .non))) H) (gIsN true) := fun C m σ H env h x y sx sy q Q' eK R rx ry hg p => by
  subst eK
  unfold gIsN at hg
  split at hg
  · cases ry
    refine ⟨rfl, p.bl R ?_⟩
    rw [Rep.isN rx]
    exact hg
  · exact hg.elim
/-! in: one sign in a text; a value in a list or tuple, by == -/
section
variable {X : Cx}
def rInT (K : PySem.W.Frag) (neg : Bool) : R2 := fun x y H Q => ∃ d ds, Dp K H x d ∧ Dp K H y (.tuple ds) ∧ SeqAt.shaped d = true ∧ SeqAt.shaped (.tuple ds) = true ∧ Q (.bl (if neg then !ds.any fun z => PyData.eqv z d else ds.any fun z => PyData.eqv z d)) H
theorem op_inT (hu : X.A.units + 65 < cLine) : OpR X (compareOp .In) (rInT X.K false) := by
  intro pins s σ H x y v u Q I rx ry h
  obtain ⟨d, ds, hd, he, sd, se, q⟩ := h
  obtain ⟨as, r1⟩ := Dp.reads I d x v hd rx
  obtain ⟨bs, r2⟩ := Dp.reads I (.tuple ds) y u he ry
  exact SeqAt.in_tuple_reads r2 r1 (SeqAt.canLay_of_shaped se) (SeqAt.canLay_of_shaped sd) (PyProof.Rows.room_in_shaped sd hu) ⟨.bl _, H, I, rfl, q⟩
theorem op_notInT (hu : X.A.units + 65 < cLine) : OpR X (compareOp .NotIn) (rInT X.K true) := by
  intro pins s σ H x y v u Q I rx ry h
  obtain ⟨d, ds, hd, he, sd, se, q⟩ := h
  obtain ⟨as, r1⟩ := Dp.reads I d x v hd rx
  obtain ⟨bs, r2⟩ := Dp.reads I (.tuple ds) y u he ry
  exact SeqAt.notIn_tuple_reads r2 r1 (SeqAt.canLay_of_shaped se) (SeqAt.canLay_of_shaped sd) (PyProof.Rows.room_in_shaped sd hu) ⟨.bl _, H, I, rfl, q⟩
def rInAll (K : PySem.W.Frag) : R2 := fun x y H Q => (∃ (c : Nat) (z : Str), x = .str ⟨#[c]⟩ ∧ y = .str z ∧ Q (.bl (decide (c ∈ z.cps.toList))) H) ∨ rInD K x y H Q ∨ rInT K false x y H Q
def rNotInAll (K : PySem.W.Frag) : R2 := fun x y H Q => (∃ (c : Nat) (z : Str), x = .str ⟨#[c]⟩ ∧ y = .str z ∧ Q (.bl (!decide (c ∈ z.cps.toList))) H) ∨ rNotInD K x y H Q ∨ rInT K true x y H Q
theorem op_inAll (hu : X.A.units + 65 < cLine) : OpR X (compareOp .In) (rInAll X.K) := op_in_sign.or ((op_inD hu).or (op_inT hu))
theorem op_notInAll (hu : X.A.units + 65 < cLine) : OpR X (compareOp .NotIn) (rNotInAll X.K) := op_notIn_sign.or ((op_notInD hu).or (op_notInT hu))
end
def gInB (neg : Bool) : G2 := fun h x y q => match x, y with
  | .val (.str z), .val (.str w) => ∃ c, z = ⟨#[c]⟩ ∧ q (.val (.bl (if neg then !decide (c ∈ w.cps.toList) else decide (c ∈ w.cps.toList))))
  | x, y => ∃ p xs, x.pv h = some p ∧ ((y.pv h = some (.lst xs)) ∨ (y.pv h = some (.tup xs))) ∧ p.okD = true ∧ (PV.tup xs).okD = true ∧ q (.val (.bl (if neg then !xs.any fun z => pyEq z p else xs.any fun z => pyEq z p)))
@[simp ↓] theorem gInB_eq (neg : Bool) (h : Hs) (x : SV) (y : SV) (q : SV → Prop) : gInB neg h x y q = (match x, y with
  | .val (.str z), .val (.str w) => ∃ c, z = ⟨#[c]⟩ ∧ q (.val (.bl (if neg then !decide (c ∈ w.cps.toList) else decide (c ∈ w.cps.toList))))
  | x, y => ∃ p xs, x.pv h = some p ∧ ((y.pv h = some (.lst xs)) ∨ (y.pv h = some (.tup xs))) ∧ p.okD = true ∧ (PV.tup xs).okD = true ∧ q (.val (.bl (if neg then !xs.any fun z => pyEq z p else xs.any fun z => pyEq z p)))) := id rfl
def gIn : G2 := gInB false
@[simp ↓] theorem gIn_eq : gIn = (gInB false) := id rfl
def gNotIn : G2 := gInB true
@[simp ↓] theorem gNotIn_eq : gNotIn = (gInB true) := id rfl
theorem okD_tl {xs : List PV} (h : (PV.tup xs).okD = true) : PV.noRefL xs = true ∧ SeqAt.shaped (.tuple (PV.pyL xs)) = true ∧ SeqAt.shaped (.list (PV.pyL xs)) = true := by
  unfold PV.okD at h
  rw [Bool.and_eq_true] at h
  obtain ⟨h1, h2⟩ := h
  unfold PV.noRef at h1
  unfold PV.py at h2
  refine ⟨h1, h2, ?_⟩
  unfold SeqAt.shaped at h2 ⊢
  simpa [PyData.canLay0, PyData.depth] using h2
theorem os_inAll {K : PySem.W.Frag} : OpS K (rInAll K) gIn := fun C m σ H env h x y sx sy q Q' eK R rx ry hg p => by
  subst eK
  unfold gIn gInB at hg
  split at hg
  · obtain ⟨c, rfl, hq⟩ := hg
    cases rx; cases ry
    exact .inl ⟨_, _, rfl, rfl, p.bl R hq⟩
  · obtain ⟨a, xs, e1, e2, o1, o2, hq⟩ := hg
    obtain ⟨n2, s2, s3⟩ := okD_tl o2
    unfold PV.okD at o1
    rw [Bool.and_eq_true] at o1
    have ea : (PV.pyL xs).any (fun z => PyData.eqv z a.py) = xs.any fun z => pyEq z a := by
      rw [PV.pyL_map, List.any_map]
      rfl
    have hq' : q (.val (.bl ((PV.pyL xs).any fun z => PyData.eqv z a.py))) := by rw [ea]; exact hq
    rcases e2 with e2 | e2
    · have d2 := R.dp ry e2 (by unfold PV.noRef; exact n2)
      unfold PV.py at d2
      exact .inr (.inl ⟨_, _, R.dp rx e1 o1.1, d2, o1.2, s3, p.bl R hq'⟩)
    · have d2 := R.dp ry e2 (by unfold PV.noRef; exact n2)
      unfold PV.py at d2
      exact .inr (.inr ⟨_, _, R.dp rx e1 o1.1, d2, o1.2, s2, p.bl R hq'⟩)
theorem os_notInAll {K : PySem.W.Frag} : OpS K (rNotInAll K) gNotIn := fun C m σ H env h x y sx sy q Q' eK R rx ry hg p => by
  subst eK
  unfold gNotIn gInB at hg
  split at hg
  · obtain ⟨c, rfl, hq⟩ := hg
    cases rx; cases ry
    exact .inl ⟨_, _, rfl, rfl, p.bl R hq⟩
  · obtain ⟨a, xs, e1, e2, o1, o2, hq⟩ := hg
    obtain ⟨n2, s2, s3⟩ := okD_tl o2
    unfold PV.okD at o1
    rw [Bool.and_eq_true] at o1
    have ea : (PV.pyL xs).any (fun z => PyData.eqv z a.py) = xs.any fun z => pyEq z a := by
      rw [PV.pyL_map, List.any_map]
      rfl
    have hq' : q (.val (.bl (!(PV.pyL xs).any fun z => PyData.eqv z a.py))) := by rw [ea]; exact hq
    rcases e2 with e2 | e2
    · have d2 := R.dp ry e2 (by unfold PV.noRef; exact n2)
      unfold PV.py at d2
      exact .inr (.inl ⟨_, _, R.dp rx e1 o1.1, d2, o1.2, s3, p.bl R hq'⟩)
    · have d2 := R.dp ry e2 (by unfold PV.noRef; exact n2)
      unfold PV.py at d2
      exact .inr (.inr ⟨_, _, R.dp rx e1 o1.1, d2, o1.2, s2, p.bl R hq'⟩)

/-! ### items and slices -/
def gIx : G2 := fun h x y q => match y with
  | .val (.int i) => match x with
    | .val (.str z) => ∃ c, z.length ≤ sizeLine ∧ atI z.cps.toList i = some c ∧ q (.val (.str ⟨#[c]⟩))
    | x => ∃ xs p, seqC h x = some xs ∧ atI xs i = some p ∧ q (.val p)
  | _ => False
@[simp ↓] theorem gIx_eq  (h : Hs) (x : SV) (y : SV) (q : SV → Prop) : gIx  h x y q = (match y with
  | .val (.int i) => match x with
    | .val (.str z) => ∃ c, z.length ≤ sizeLine ∧ atI z.cps.toList i = some c ∧ q (.val (.str ⟨#[c]⟩))
    | x => ∃ xs p, seqC h x = some xs ∧ atI xs i = some p ∧ q (.val p)
  | _ => False) := id rfl
theorem RepL.atI {K : PySem.W.Frag} {Ex : Ad} {m : List Addr} {H : Hp} {vs : List V} {xs : List PV} {i : Int} {p : PV} (r : RepL K Ex m H vs xs) (e : L2.atI xs i = some p) : ∃ v, L2.atI vs i = some v ∧ Rep K Ex m H v p := by
  unfold L2.atI at e ⊢
  rw [r.length]
  cases q : ixN xs.length i with
  | none =>
    rw [q] at e
    cases e
  | some j =>
    rw [q] at e
    exact r.get e
theorem os_ix {K : PySem.W.Frag} : OpS K (rIx K) gIx := fun C m σ H env h x y sx sy q Q' eK R rx ry hg p => by
  subst eK
  unfold gIx at hg
  split at hg
  · cases ry
    split at hg
    · obtain ⟨c, l, e, hq⟩ := hg
      cases rx
      exact .inr (.inr ⟨_, _, c, rfl, rfl, l, e, p.str R hq⟩)
    · obtain ⟨xs, pv, e1, e2, hq⟩ := hg
      obtain ⟨a, vs, rfl, h1, q1⟩ := R.seq rx e1
      obtain ⟨v, e3, r3⟩ := q1.atI e2
      rcases h1 with h1 | h1
      · exact .inl ⟨a, vs, _, v, rfl, rfl, h1, e3, p.at R r3 hq⟩
      · exact .inr (.inl ⟨a, vs, _, v, rfl, rfl, h1, e3, p.at R r3 hq⟩)
  · exact hg.elim
def cutP (xs : List PV) (lo hi : Option Int) : List PV := (xs.drop (HT.sIx xs.length 0 lo)).take (HT.sIx xs.length xs.length hi - HT.sIx xs.length 0 lo)
theorem RepL.cut {K : PySem.W.Frag} {Ex : Ad} {m : List Addr} {H : Hp} {vs : List V} {xs : List PV} (r : RepL K Ex m H vs xs) (lo hi : Option Int) : RepL K Ex m H (cutV vs lo hi) (cutP xs lo hi) := by
  unfold cutV cutP
  rw [r.length]
  exact (r.drop _).take _
def rSlAll (K : PySem.W.Frag) : V → Option Int → Option Int → Hp → VK → Prop := fun x lo hi H Q => rSlL K x lo hi H Q ∨ rSlA K x lo hi H Q ∨ rSlS x lo hi H Q
theorem sl_all {X : Cx} : SlR X (rSlAll X.K) := sl_list.or (sl_tupA.or sl_str)
def gSl (h : Hs) (x : SV) (lo hi : Option Int) (q : SV → Prop) : Prop := match x with
  | .val (.str z) => z.length ≤ sizeLine ∧ q (.val (.str (cutS z lo hi)))
  | .val (.tup xs) => q (.val (.tup (cutP xs lo hi)))
  | x => ∃ xs, listC h x = some xs ∧ q (.own (cutP xs lo hi))
@[simp ↓] theorem gSl_eq (h : Hs) (x : SV) (lo hi : Option Int) (q : SV → Prop) : gSl h x lo hi q = (match x with
  | .val (.str z) => z.length ≤ sizeLine ∧ q (.val (.str (cutS z lo hi)))
  | .val (.tup xs) => q (.val (.tup (cutP xs lo hi)))
  | x => ∃ xs, listC h x = some xs ∧ q (.own (cutP xs lo hi))) := id rfl
def OptI : Option SV → Option (Option Int)
  | none => some none
  | some (.val (.int i)) => some (some i)
  | _ => none
theorem sIx_whole {xs : List PV} {lo hi : Option Int} (h : HT.sIx xs.length 0 lo = 0 ∧ HT.sIx xs.length xs.length hi = xs.length) : cutP xs lo hi = xs := by
  unfold cutP
  rw [h.1, h.2]
  simp
theorem os_sl {C : Ctx} {m : List Addr} {σ : St} {H : Hp} {env : Env} {h : Hs} {x : V} {sx : SV} {lo hi : Option Int} {q : SV → Prop} {Q' : VK} (R : Rel C m σ H env h) (rx : RepA C σ env m H x sx) (hg : gSl h sx lo hi q) (p : PostO C m σ H env h q Q') : rSlAll C.K x lo hi H Q' := by
  unfold gSl at hg
  split at hg
  · cases rx
    exact .inr (.inr ⟨_, rfl, hg.1, p.str R hg.2⟩)
  · cases rx with
    | tup ha qa =>
      refine .inr (.inl ⟨_, _, rfl, ha.sq, fun e => ?_, fun _ a n => p.newT R (qa.cut lo hi) hg n⟩)
      rw [qa.length] at e
      rw [sIx_whole e] at hg
      exact p.at R (.tup ha qa) hg
  · obtain ⟨xs, e, hq⟩ := hg
    obtain ⟨a, vs, rfl, h1, q1⟩ := R.list rx e
    exact .inl ⟨a, vs, rfl, h1, fun b n => p.newL R (q1.cut lo hi) hq n⟩
end PM

namespace PM
open PySem PySem.Spec L2
open PyProof.Rows hiding St

/-! ### arguments and displays -/
def dNil : DA := fun _ h Q _ => Q [] h
@[simp ↓] theorem dNil_eq  (u0 : Env) (h : Hs) (Q : List SV → Hs → Prop) (u1 : XQ) : dNil  u0 h Q u1 = (Q [] h) := id rfl
def dCons (a : DE) (r : DA) : DA := fun env h Q E => a env h (fun x h1 => r env h1 (fun xs h2 => Q (x :: xs) h2) E) E
@[simp ↓] theorem dCons_eq (a : DE) (r : DA) (env : Env) (h : Hs) (Q : List SV → Hs → Prop) (E : XQ) : dCons a r env h Q E = (a env h (fun x h1 => r env h1 (fun xs h2 => Q (x :: xs) h2) E) E) := id rfl
section
variable {K : PySem.W.Frag} {W : WX}
theorem sa_nil : SA K W tNil dNil := ⟨fun C m σ H env h Q E Q' eK R hf p _ => p m [] H [] h (.refl m H) R .nil hf⟩
theorem sa_cons {ta : TE} {fa : DE} {tr : TA} {fr : DA} (ha : SE K W ta fa) (hr : SA K W tr fr) : SA K W (tCons ta tr) (dCons fa fr) := ⟨fun C m σ H env h Q E Q' eK R hf p px => by
  refine ha.run C m σ H env h _ E _ eK R hf (fun m1 x H1 sx h1 S1 R1 r1 q1 => ?_) px
  refine hr.run (C.own x sx) m1 σ H1 env h1 _ E _ ((C.own_K x sx).trans eK) R1 q1 (fun m2 vs H2 svs h2 S2 R2 r2 q2 => ?_) (px.go S1).own
  refine p m2 (x :: vs) H2 (sx :: svs) h2 (S1.trans S2) R2 (.cons (r1.step S2 fun _ q => q) (Paired.mapP r2 fun v sv r => ?_)) q2
  exact r.less (C.own_K x sx).symm (fun b q => q.le fun _ => C.own_GT x sx) fun b n => stnew S1 n⟩
end
/-- a list of one's own that nobody else sees becomes a value -/
@[simp] def SV.toVal : SV → Option PV
  | .val p => some p
  | .own xs => some (.lst xs)
  | _ => none
@[simp] def valsOf : List SV → Option (List PV)
  | [] => some []
  | s :: ss => match s.toVal, valsOf ss with
    | some p, some ps => some (p :: ps)
    | _, _ => none
section
variable {C : Ctx} {m m' : List Addr} {σ : St} {H H' : Hp} {env : Env} {h : Hs}
theorem Rel.toVal (R : Rel C m σ H env h) {v : V} {sv : SV} {p : PV} (r : RepS C (ExOf C σ env m') m' (fun a => H a = none) H' v sv) (e : sv.toVal = some p) : Rep C.K (ExOf C σ env m') m' H' v p := by
  cases sv with
  | val q => cases e; exact r
  | own xs =>
    cases e
    obtain ⟨a, vs, rfl, ha, n, nm, q⟩ := r
    refine .lst ⟨.inl ha, fun z => ?_⟩ (RepL.mono (Kp.le fun b q => .inl q) ⟨[], by simp⟩ q)
    rcases z with z | z | z
    · exact R.gdom a z n
    · obtain ⟨ws, e, _⟩ := R.ownDom z
      rw [n] at e
      cases e
    · exact nm z
  | brw xs => cases e
  | exc _ _ => first | (cases e; done) | (cases nb; done) | exact r | exact r1 | exact ⟨r, trivial⟩ | exact ⟨r1, trivial⟩ | exact ⟨rv, trivial⟩ | trivial
  | scr ns => cases e
theorem Rel.toVals (R : Rel C m σ H env h) : ∀ {vs : List V} {svs : List SV} {ps : List PV}, Paired (RepS C (ExOf C σ env m') m' (fun a => H a = none) H') vs svs → valsOf svs = some ps → RepL C.K (ExOf C σ env m') m' H' vs ps
  | _, _, _, .nil, e => by
    cases e
    exact .nil
  | _, _, _, .cons r t, e => by
    unfold valsOf at e
    split at e
    · rename_i p ps e1 e2
      cases e
      exact .cons (R.toVal r e1) (R.toVals t e2)
    · cases e
end
def dTup (a : DA) : DE := fun env h Q E => a env h (fun svs h1 => match valsOf svs with
  | some ps => ps.length ≤ sizeLine ∧ Q (.val (.tup ps)) h1
  | none => False) E
@[simp ↓] theorem dTup_eq (a : DA) (env : Env) (h : Hs) (Q : VQ) (E : XQ) : dTup a env h Q E = (a env h (fun svs h1 => match valsOf svs with
  | some ps => ps.length ≤ sizeLine ∧ Q (.val (.tup ps)) h1
  | none => False) E) := id rfl
def dLst (a : DA) : DE := fun env h Q E => a env h (fun svs h1 => match valsOf svs with
  | some ps => ps.length ≤ sizeLine ∧ Q (.own ps) h1
  | none => False) E
@[simp ↓] theorem dLst_eq (a : DA) (env : Env) (h : Hs) (Q : VQ) (E : XQ) : dLst a env h Q E = (a env h (fun svs h1 => match valsOf svs with
  | some ps => ps.length ≤ sizeLine ∧ Q (.own ps) h1
  | none => False) E) := id rfl
section
variable {K : PySem.W.Frag} {W : WX} {ta : TA} {fa : DA}
theorem se_tup (ha : SA K W ta fa) : SE K W (tTup ta) (dTup fa) := ⟨fun C m σ H env h Q E Q' eK R hf p px => by
  refine ha.run C m σ H env h _ E _ eK R hf (fun m1 vs H1 svs h1 S1 R1 r1 q1 => ?_) px
  split at q1
  · rename_i ps e
    have rl := R.toVals r1 e
    have R1' : Rel C m1 σ H1 env h1 := R1.drops
    refine ⟨by rw [rl.length]; exact q1.1, fun a n => ?_⟩
    exact p m1 _ _ (.val (.tup ps)) h1 (S1.trans (.new n)) (R1'.grow (Same.upd n)) (R1'.newTup rl n) q1.2
  · exact q1.elim⟩
theorem se_lst (ha : SA K W ta fa) : SE K W (tLst ta) (dLst fa) := ⟨fun C m σ H env h Q E Q' eK R hf p px => by
  refine ha.run C m σ H env h _ E _ eK R hf (fun m1 vs H1 svs h1 S1 R1 r1 q1 => ?_) px
  split at q1
  · rename_i ps e
    have rl := R.toVals r1 e
    have R1' : Rel C m1 σ H1 env h1 := R1.drops
    refine ⟨by rw [rl.length]; exact q1.1, fun a n => ?_⟩
    refine PostO.newL (C := C) (m := m1) (σ := σ) (H := H1) (env := env) (h := h1) (q := fun r => Q r h1) (fun v H' sv s3 R3 r3 q3 => ?_) R1' rl q1.2 n
    exact p m1 v H' sv h1 (S1.trans (.same s3)) R3 (r3.less rfl (fun _ q => q) fun a n => stnew S1 n) q3
  · exact q1.elim⟩
end

/-! ### slices -/
abbrev DO := Env → Hs → (Option Int → Hs → Prop) → XQ → Prop
structure SO (K : PySem.W.Frag) (W : WX) (t : TO) (f : DO) : Prop where
  run : ∀ (C : Ctx) (m : List Addr) (σ : St) (H : Hp) (env : Env) (h : Hs) (Q : Option Int → Hs → Prop) (E : XQ) (Q' : Option Int → Hp → Prop), C.K = K → Rel C m σ H env h → f env h Q E →
    (∀ m' o H' h', StE m H m' H' → Rel C m' σ H' env h' → Q o h' → Q' o H') → PostX W C m σ H env E → t σ H Q'
def dNoPart : DO := fun _ h Q _ => Q none h
@[simp ↓] theorem dNoPart_eq  (u0 : Env) (h : Hs) (Q : Option Int → Hs → Prop) (u1 : XQ) : dNoPart  u0 h Q u1 = (Q none h) := id rfl
def dPart (a : DE) : DO := fun env h Q E => a env h (fun x h1 => match x with
  | .val (.int i) => Q (some i) h1
  | _ => False) E
@[simp ↓] theorem dPart_eq (a : DE) (env : Env) (h : Hs) (Q : Option Int → Hs → Prop) (E : XQ) : dPart a env h Q E = (a env h (fun x h1 => match x with
  | .val (.int i) => Q (some i) h1
  | _ => False) E) := id rfl
def dSl (a : DE) (lo hi : DO) : DE := fun env h Q E => a env h (fun x h1 => lo env h1 (fun l h2 => hi env h2 (fun u h3 => gSl h3 x l u fun r => Q r h3) E) E) E
@[simp ↓] theorem dSl_eq (a : DE) (lo hi : DO) (env : Env) (h : Hs) (Q : VQ) (E : XQ) : dSl a lo hi env h Q E = (a env h (fun x h1 => lo env h1 (fun l h2 => hi env h2 (fun u h3 => gSl h3 x l u fun r => Q r h3) E) E) E) := id rfl
section
variable {K : PySem.W.Frag} {W : WX}
theorem so_none : SO K W tNoPart dNoPart := ⟨fun C m σ H env h Q E Q' eK R hf p _ => p m none H h (.refl m H) R hf⟩
theorem so_some {ta : TE} {fa : DE} (ha : SE K W ta fa) : SO K W (tPart ta) (dPart fa) := ⟨fun C m σ H env h Q E Q' eK R hf p px => by
  refine ha.run C m σ H env h _ E _ eK R hf (fun m1 x H1 sx h1 S1 R1 r1 q1 => ?_) px
  split at q1
  · cases r1
    exact ⟨_, rfl, p m1 _ H1 h1 S1 R1 q1⟩
  · exact q1.elim⟩
theorem se_sl {ta : TE} {fa : DE} {tl th : TO} {fl fh : DO} (ha : SE K W ta fa) (hl : SO K W tl fl) (hh : SO K W th fh) : SE K W (tSl (rSlAll K) ta tl th) (dSl fa fl fh) := ⟨fun C m σ H env h Q E Q' eK R hf p px => by
  refine ha.run C m σ H env h _ E _ eK R hf (fun m1 x H1 sx h1 S1 R1 r1 q1 => ?_) px
  refine hl.run (C.own x sx) m1 σ H1 env h1 _ E _ ((C.own_K x sx).trans eK) R1 q1 (fun m2 l H2 h2 S2 R2 q2 => ?_) (px.go S1).own
  refine hh.run (C.own x sx) m2 σ H2 env h2 _ E _ ((C.own_K x sx).trans eK) R2 q2 (fun m3 u H3 h3 S3 R3 q3 => ?_) ((px.go S1).go S2).own
  have S : StE m H m3 H3 := (S1.trans S2).trans S3
  have r3 : RepA C σ env m3 H3 x sx := r1.step (S2.trans S3) fun _ _ => trivial
  have z := os_sl (C := C) (Q' := Q') R3.drop r3 q3 (fun v H' sv s3 R4 r4 q4 => p m3 v H' sv h3 (S.trans (.same s3)) R4 (r4.less rfl (fun _ q => q) fun a n => stnew S n) q4)
  rw [eK] at z
  exact z⟩
end

/-! ### tests -/
/-- a value's truth -/
def SV.tru (h : Hs) : SV → Option Bool
  | .val (.bl b) => some b
  | .val (.int i) => some (i != 0)
  | .val .non => some false
  | .val (.tup xs) => some (!xs.isEmpty)
  | .val (.ref n) => match h[n]? with
    | some (.lst xs) => some (!xs.isEmpty)
    | some (.dK xs) => some (!xs.isEmpty)
    | _ => none
  | .val (.lst xs) => some (!xs.isEmpty)
  | .own xs => some (!xs.isEmpty)
  | .brw xs => some (!xs.isEmpty)
  | _ => none
def dTru (a : DE) : DT := fun env h Q E => a env h (fun x h1 => match x.tru h1 with
  | some b => Q b h1
  | none => False) E
@[simp ↓] theorem dTru_eq (a : DE) (env : Env) (h : Hs) (Q : Bool → Hs → Prop) (E : XQ) : dTru a env h Q E = (a env h (fun x h1 => match x.tru h1 with
  | some b => Q b h1
  | none => False) E) := id rfl
/-- a test whose value is a bool by itself -/
def dTst (a : DE) : DT := fun env h Q E => a env h (fun x h1 => match x with
  | .val (.bl b) => Q b h1
  | _ => False) E
@[simp ↓] theorem dTst_eq (a : DE) (env : Env) (h : Hs) (Q : Bool → Hs → Prop) (E : XQ) : dTst a env h Q E = (a env h (fun x h1 => match x with
  | .val (.bl b) => Q b h1
  | _ => False) E) := id rfl
def tTru (K : PySem.W.Frag) (ta : TE) : TT := fun σ H Q => ta σ H fun x H' => ∃ k, TruV K x H' k ∧ Q k H'
section
variable {K : PySem.W.Frag} {W : WX}
theorem RepL.emp {K : PySem.W.Frag} {Ex : Ad} {m : List Addr} {H : Hp} {vs : List V} {xs : List PV} (r : RepL K Ex m H vs xs) : (!xs.isEmpty) = !vs.isEmpty := by
  cases r <;> rfl
theorem Rel.tru {C : Ctx} {m : List Addr} {σ : St} {H : Hp} {env : Env} {h : Hs} {v : V} {sv : SV} {b : Bool} (R : Rel C m σ H env h) (r : RepA C σ env m H v sv) (e : sv.tru h = some b) : TruV C.K v H b := by
  have lst : ∀ xs, listC h sv = some xs → b = !xs.isEmpty → TruV C.K v H b := fun xs e e2 => by
    obtain ⟨a, vs, rfl, h1, q⟩ := R.list r e
    exact .inl ⟨vs, h1, by rw [e2, q.emp]⟩
  cases sv with
  | own xs => cases e; exact lst xs rfl rfl
  | brw xs => cases e; exact lst xs rfl rfl
  | exc _ _ => first | (cases e; done) | (cases nb; done) | exact r | exact r1 | exact ⟨r, trivial⟩ | exact ⟨r1, trivial⟩ | exact ⟨rv, trivial⟩ | trivial
  | scr ns => cases e
  | val p =>
    cases p with
    | non => cases e; cases r; rfl
    | bl _ => cases e; cases r; rfl
    | int _ => cases e; cases r; rfl
    | str _ => cases e
    | tup xs =>
      cases e
      cases r with
      | tup ha q => exact .inr (.inl ⟨_, ha.sq, q.emp⟩)
    | lst xs => cases e; exact lst xs rfl rfl
    | ref n =>
      have e' : (match h[n]? with | some (.lst xs) => some (!xs.isEmpty) | some (.dK xs) => some (!xs.isEmpty) | _ => none) = some b := e
      split at e'
      · rename_i xs hc
        cases e'
        refine lst xs ?_ rfl
        show (match h[n]? with | some (.lst xs) => some xs | _ => none) = some xs
        rw [hc]
      · rename_i xs hc
        cases e'
        cases r with
        | ref hn =>
          obtain ⟨vs, q1, q2, _⟩ := R.cell hn hc
          refine .inr (.inr ⟨vs, q1, ?_⟩)
          have : xs.length = vs.length := by simpa using (congrArg List.length q2).symm
          cases xs <;> cases vs <;> simp_all
      · cases e'
theorem st_tru {ta : TE} {fa : DE} (ha : SE K W ta fa) : ST K W (tTru K ta) (dTru fa) := ⟨fun C m σ H env h Q E Q' eK R hf p px => by
  refine ha.run C m σ H env h _ E _ eK R hf (fun m1 x H1 sx h1 S1 R1 r1 q1 => ?_) px
  split at q1
  · rename_i b e
    subst eK
    exact ⟨b, R1.drop.tru (r1.less rfl (fun _ q => q) fun _ _ => trivial) e, p m1 b H1 h1 S1 R1.drop q1⟩
  · exact q1.elim⟩
theorem st_tst {ta : TE} {fa : DE} (ha : SE K W ta fa) : ST K W (tTest ta) (dTst fa) := ⟨fun C m σ H env h Q E Q' eK R hf p px => by
  refine ha.run C m σ H env h _ E _ eK R hf (fun m1 x H1 sx h1 S1 R1 r1 q1 => ?_) px
  split at q1
  · cases r1
    exact ⟨_, rfl, p m1 _ H1 h1 S1 R1 q1⟩
  · exact q1.elim⟩
def dAnd (a b : DT) : DT := fun env h Q E => a env h (fun c h1 => if c = true then b env h1 Q E else Q false h1) E
@[simp ↓] theorem dAnd_eq (a b : DT) (env : Env) (h : Hs) (Q : Bool → Hs → Prop) (E : XQ) : dAnd a b env h Q E = (a env h (fun c h1 => if c = true then b env h1 Q E else Q false h1) E) := id rfl
def dOr (a b : DT) : DT := fun env h Q E => a env h (fun c h1 => if c = true then Q true h1 else b env h1 Q E) E
@[simp ↓] theorem dOr_eq (a b : DT) (env : Env) (h : Hs) (Q : Bool → Hs → Prop) (E : XQ) : dOr a b env h Q E = (a env h (fun c h1 => if c = true then Q true h1 else b env h1 Q E) E) := id rfl
def dNot (a : DT) : DT := fun env h Q E => a env h (fun c h1 => Q (!c) h1) E
@[simp ↓] theorem dNot_eq (a : DT) (env : Env) (h : Hs) (Q : Bool → Hs → Prop) (E : XQ) : dNot a env h Q E = (a env h (fun c h1 => Q (!c) h1) E) := id rfl
variable {ta tb : TT} {fa fb : DT}
theorem st_and (ha : ST K W ta fa) (hb : ST K W tb fb) : ST K W (tAnd ta tb) (dAnd fa fb) := ⟨fun C m σ H env h Q E Q' eK R hf p px => by
  refine ha.run C m σ H env h _ E _ eK R hf (fun m1 c H1 h1 S1 R1 q1 => ?_) px
  cases c with
  | true => exact iteT (hb.run C m1 σ H1 env h1 Q E Q' eK R1 (by simpa using q1) (fun m2 b H2 h2 S2 => p m2 b H2 h2 (S1.trans S2)) (px.go S1))
  | false => exact iteF (p m1 false H1 h1 S1 R1 (by simpa using q1))⟩
theorem st_or (ha : ST K W ta fa) (hb : ST K W tb fb) : ST K W (tOr ta tb) (dOr fa fb) := ⟨fun C m σ H env h Q E Q' eK R hf p px => by
  refine ha.run C m σ H env h _ E _ eK R hf (fun m1 c H1 h1 S1 R1 q1 => ?_) px
  cases c with
  | false => exact iteF (hb.run C m1 σ H1 env h1 Q E Q' eK R1 (by simpa using q1) (fun m2 b H2 h2 S2 => p m2 b H2 h2 (S1.trans S2)) (px.go S1))
  | true => exact iteT (p m1 true H1 h1 S1 R1 (by simpa using q1))⟩
theorem st_not (ha : ST K W ta fa) : ST K W (tNot ta) (dNot fa) := ⟨fun C m σ H env h Q E Q' eK R hf p px =>
  ha.run C m σ H env h _ E _ eK R hf (fun m1 c H1 h1 S1 R1 q1 => p m1 (!c) H1 h1 S1 R1 q1) px⟩
end
/-! as values: bools -/
def dAndV (a b : DE) : DE := fun env h Q E => a env h (fun x h1 => match x with
  | .val (.bl c) => if c = true then b env h1 Q E else Q (.val (.bl false)) h1
  | _ => False) E
@[simp ↓] theorem dAndV_eq (a b : DE) (env : Env) (h : Hs) (Q : VQ) (E : XQ) : dAndV a b env h Q E = (a env h (fun x h1 => match x with
  | .val (.bl c) => if c = true then b env h1 Q E else Q (.val (.bl false)) h1
  | _ => False) E) := id rfl
def dOrV (a b : DE) : DE := fun env h Q E => a env h (fun x h1 => match x with
  | .val (.bl c) => if c = true then Q (.val (.bl true)) h1 else b env h1 Q E
  | _ => False) E
@[simp ↓] theorem dOrV_eq (a b : DE) (env : Env) (h : Hs) (Q : VQ) (E : XQ) : dOrV a b env h Q E = (a env h (fun x h1 => match x with
  | .val (.bl c) => if c = true then Q (.val (.bl true)) h1 else b env h1 Q E
  | _ => False) E) := id rfl
def dNotV (a : DE) : DE := fun env h Q E => a env h (fun x h1 => match x with
  | .val (.bl c) => Q (.val (.bl (!c))) h1
  | _ => False) E
@[simp ↓] theorem dNotV_eq (a : DE) (env : Env) (h : Hs) (Q : VQ) (E : XQ) : dNotV a env h Q E = (a env h (fun x h1 => match x with
  | .val (.bl c) => Q (.val (.bl (!c))) h1
  | _ => False) E) := id rfl
section
variable {K : PySem.W.Frag} {W : WX} {ta tb : TE} {fa fb : DE}
theorem PostE.go {C : Ctx} {m m1 : List Addr} {σ : St} {H H1 : Hp} {env : Env} {Q : VQ} {Q' : VK} (p : PostE C m σ H env Q Q') (S : StE m H m1 H1) : PostE C m1 σ H1 env Q Q' :=
  fun m' v H' sv h' S' R r q => p m' v H' sv h' (S.trans S') R (r.less rfl (fun _ q => q) fun a n => stnew S n) q
theorem se_and (ha : SE K W ta fa) (hb : SE K W tb fb) : SE K W (tAndV ta tb) (dAndV fa fb) := ⟨fun C m σ H env h Q E Q' eK R hf p px => by
  refine ha.run C m σ H env h _ E _ eK R hf (fun m1 x H1 sx h1 S1 R1 r1 q1 => ?_) px
  split at q1
  · rename_i c
    cases r1
    refine ⟨c, rfl, ?_⟩
    cases c with
    | true => exact iteT (hb.run C m1 σ H1 env h1 Q E Q' eK R1 (by simpa using q1) (p.go S1) (px.go S1))
    | false => exact iteF (p m1 _ H1 (.val (.bl false)) h1 S1 R1 (.bl false) (by simpa using q1))
  · exact q1.elim⟩
theorem se_or (ha : SE K W ta fa) (hb : SE K W tb fb) : SE K W (tOrV ta tb) (dOrV fa fb) := ⟨fun C m σ H env h Q E Q' eK R hf p px => by
  refine ha.run C m σ H env h _ E _ eK R hf (fun m1 x H1 sx h1 S1 R1 r1 q1 => ?_) px
  split at q1
  · rename_i c
    cases r1
    refine ⟨c, rfl, ?_⟩
    cases c with
    | false => exact iteF (hb.run C m1 σ H1 env h1 Q E Q' eK R1 (by simpa using q1) (p.go S1) (px.go S1))
    | true => exact iteT (p m1 _ H1 (.val (.bl true)) h1 S1 R1 (.bl true) (by simpa using q1))
  · exact q1.elim⟩
theorem se_not (ha : SE K W ta fa) : SE K W (tNotV ta) (dNotV fa) := ⟨fun C m σ H env h Q E Q' eK R hf p px => by
  refine ha.run C m σ H env h _ E _ eK R hf (fun m1 x H1 sx h1 S1 R1 r1 q1 => ?_) px
  split at q1
  · rename_i c
    cases r1
    exact ⟨c, rfl, p m1 _ H1 (.val (.bl (!c))) h1 S1 R1 (.bl _) q1⟩
  · exact q1.elim⟩
/-- a < b < c -/
def dChain (g g' : G2) (a b c : DE) : DE := fun env h Q E => a env h (fun x h1 => b env h1 (fun y h2 => g h2 x y fun z => match z with
  | .val (.bl k) => if k = true then c env h2 (fun w h3 => g' h3 y w fun r => Q r h3) E else Q (.val (.bl false)) h2
  | _ => False) E) E
@[simp ↓] theorem dChain_eq (g g' : G2) (a b c : DE) (env : Env) (h : Hs) (Q : VQ) (E : XQ) : dChain g g' a b c env h Q E = (a env h (fun x h1 => b env h1 (fun y h2 => g h2 x y fun z => match z with
  | .val (.bl k) => if k = true then c env h2 (fun w h3 => g' h3 y w fun r => Q r h3) E else Q (.val (.bl false)) h2
  | _ => False) E) E) := id rfl
theorem se_chain {r r' : R2} {g g' : G2} {tc : TE} {fc : DE} (o : OpS K r g) (o' : OpS K r' g') (ha : SE K W ta fa) (hb : SE K W tb fb) (hc : SE K W tc fc) : SE K W (tChain r r' ta tb tc) (dChain g g' fa fb fc) := ⟨fun C m σ H env h Q E Q' eK R hf p px => by
  refine ha.run C m σ H env h _ E _ eK R hf (fun m1 x H1 sx h1 S1 R1 r1 q1 => ?_) px
  refine hb.run (C.own x sx) m1 σ H1 env h1 _ E _ ((C.own_K x sx).trans eK) R1 q1 (fun m2 y H2 sy h2 S2 R2 r2 q2 => ?_) (px.go S1).own
  have r2' : RepA C σ env m2 H2 y sy := r2.less (C.own_K x sx).symm (fun b q => q.le fun _ => C.own_GT x sx) fun _ _ => trivial
  refine o C m2 σ H2 env h2 x y sx sy _ _ eK R2.drop.drop (r1.step S2 fun _ _ => trivial) r2' q2 fun v H3 sv s3 R3 r3 q3 => ?_
  split at q3
  · rename_i k
    cases r3
    refine ⟨k, rfl, ?_⟩
    have S : StE m H m2 H3 := (S1.trans S2).trans (.same s3)
    cases k with
    | false => exact iteF (p m2 _ H3 (.val (.bl false)) h2 S R3 (.bl false) (by simpa using q3))
    | true =>
      refine iteT (hc.run C m2 σ H3 env h2 _ E _ eK R3 (by simpa using q3) (fun m4 w H4 sw h4 S4 R4 r4 q4 => ?_) (px.go S))
      have ry4 : RepA C σ env m4 H4 y sy := r2'.step ((StE.same s3).trans S4) fun _ _ => trivial
      refine o' C m4 σ H4 env h4 y w sy sw _ _ eK R4.drop ry4 (r4.less rfl (fun _ q => q) fun _ _ => trivial) q4 fun v' H5 sv' s5 R5 r5 q5 => ?_
      have S5 : StE m4 H4 m4 H5 := .same s5
      have SS := S.trans S4
      exact p m4 v' H5 sv' h4 (SS.trans S5) R5 (r5.less rfl (fun _ q => q) fun a n => stnew SS n) q5
  · exact q3.elim⟩
end
end PM

namespace PM
open PySem PySem.Spec L2
open PyProof.Rows hiding St

/-! ### slots change -/
theorem get_set {α : Type} {xs : List α} {i j : Nat} {x y : α} (h : (xs.set i x)[j]? = some y) : (j = i ∧ i < xs.length ∧ y = x) ∨ (j ≠ i ∧ xs[j]? = some y) := by
  rw [List.getElem?_set] at h
  split at h
  · rename_i e
    split at h
    · exact .inl ⟨e.symm, by assumption, (Option.some.inj h).symm⟩
    · cases h
  · rename_i e
    exact .inr ⟨fun z => e z.symm, h⟩
theorem nd_ix {α : Type} {N : List α} (hN : N.Nodup) {i j : Nat} {x : α} (a : N[i]? = some x) (b : N[j]? = some x) : i = j := by
  obtain ⟨hi, ei⟩ := List.getElem?_eq_some_iff.mp a
  obtain ⟨hj, ej⟩ := List.getElem?_eq_some_iff.mp b
  rcases Nat.lt_trichotomy i j with l | l | l
  · exact absurd (ei.trans ej.symm) (List.pairwise_iff_getElem.mp hN i j hi hj l)
  · exact l
  · exact absurd (ej.trans ei.symm) (List.pairwise_iff_getElem.mp hN j i hj hi l)
section
variable {C : Ctx} {m m' : List Addr} {σ : St} {H H' : Hp} {env : Env} {h h' : Hs}
theorem own_set {i : Nat} {v : V} {sv : SV} {b : Addr} (o : OwnAt (σ.set i (some v)) (env.set i (some sv)) b) : OwnAt σ env b ∨ (sv.isOwn = true ∧ v = .ref b) := by
  obtain ⟨j, xs, e, s⟩ := o
  rcases get_set e with ⟨rfl, l, e1⟩ | ⟨n, e1⟩
  · rcases get_set s with ⟨_, _, e2⟩ | ⟨n, _⟩
    · cases e1
      cases e2
      exact .inr ⟨rfl, rfl⟩
    · exact absurd rfl n
  · rcases get_set s with ⟨q, _⟩ | ⟨_, e2⟩
    · exact absurd q n
    · exact .inl ⟨j, xs, e1, e2⟩
theorem own_clear {i : Nat} {x : Option V} {b : Addr} (o : OwnAt (σ.set i x) (env.set i none) b) : OwnAt σ env b := by
  obtain ⟨j, xs, e, s⟩ := o
  rcases get_set e with ⟨rfl, l, e1⟩ | ⟨n, e1⟩
  · cases e1
  · rcases get_set s with ⟨q, _⟩ | ⟨_, e2⟩
    · exact absurd q n
    · exact ⟨j, xs, e1, e2⟩
theorem NB.le {σ' : St} {env' : Env} {C' : Ctx} {v : V} {sv : SV} (n : NB C σ env v sv) (eK : C'.K = C.K) (o : ∀ b, OwnAt σ' env' b → OwnAt σ env b ∨ C.T b) (t : ∀ b, C'.T b → C.T b) : NB C' σ' env' v sv := by
  cases sv with
  | val p => trivial
  | own xs => trivial
  | brw xs => exact fun b e => ⟨fun q => (o b q).elim (n b e).1 (n b e).2, fun q => (n b e).2 (t b q)⟩
  | exc _ _ => first | (cases e; done) | (cases nb; done) | exact r | exact r1 | exact ⟨r, trivial⟩ | exact ⟨r1, trivial⟩ | exact ⟨rv, trivial⟩ | trivial
  | scr ns =>
    intro b e
    rcases n b e with q | q
    · exact .inl fun H' => by rw [eK]; exact q H'
    · exact .inr ⟨fun z => (o b z).elim q.1 q.2, fun z => q.2 (t b z)⟩
/-- a slot is stored -/
theorem Rel.setSlot {i : Nat} {v : V} {sv : SV} (R : Rel (C.own v sv) m σ H env h) (r : RepS C (ExOf C σ env m) m (fun a => C.H0 a = none) H v sv) (nb : sv.isB = false) (nG : ∀ a, sv.isOwn = true → v = .ref a → ¬ C.GT a) :
    Rel C m (σ.set i (some v)) H (env.set i (some sv)) h := by
  have own : ∀ b, OwnAt (σ.set i (some v)) (env.set i (some sv)) b → OwnAt σ env b ∨ (C.own v sv).T b := fun b o => (own_set o).imp id fun ⟨q, e⟩ => by
    cases sv with
    | own xs => exact .inr e.symm
    | _ => cases q
  have ex : ∀ b, ExOf C (σ.set i (some v)) (env.set i (some sv)) m b → ExOf (C.own v sv) σ env m b := fun b q => by
    rcases q with q | q | q
    · exact .inl (C.own_GT v sv q)
    · rcases own b q with z | z
      · exact .inr (.inl z)
      · exact .inl (.inr z)
    · exact .inr (.inr q)
  have slots : ∀ w sw, SlotR (C.own v sv) σ env m H w sw → SlotR C (σ.set i (some v)) (env.set i (some sv)) m H w sw := fun w sw ⟨r1, b1⟩ =>
    ⟨r1.less (C.own_K v sv).symm ex fun b q => by rw [← C.own_H0 v sv]; exact q, b1.le (C.own_K v sv).symm own fun b q => C.own_T v sv q⟩
  have R0 := R.drop
  refine ⟨by rw [List.length_set, List.length_set]; exact R.len, fun j sw e => ?_, fun p hp => ?_, fun j k xs ys a e1 e2 s1 s2 => ?_, ⟨R.hm.len, R.hm.nd, fun n a c e f => ?_⟩, R0.keep, R0.dom, R0.pre, R0.gdom, fun a g o => ?_⟩
  · rcases get_set e with ⟨rfl, l, e1⟩ | ⟨n, e1⟩
    · cases e1
      refine ⟨v, by rw [List.getElem?_set_self (by rw [R.len]; exact l)], ?_, by cases sv <;> first | trivial | cases nb⟩
      cases sv with
      | own xs =>
        obtain ⟨a, vs, rfl, ha, h0, nm, q⟩ := r
        refine ⟨a, vs, rfl, ha, h0, nm, RepL.mono (Kp.le fun b z => ?_) ⟨[], by simp⟩ q⟩
        rcases z with z | z
        · rcases ex b z with z | z | z
          · rcases z with z | z | z
            · exact .inl (.inl (.inl z))
            · exact .inl (.inl (.inr z))
            · cases z
              exact .inr rfl
          · exact .inl (.inr (.inl z))
          · exact .inl (.inr (.inr z))
        · exact .inr z
      | val p => exact Rep.mono (Kp.le fun b z => ex b z) ⟨[], by simp⟩ r
      | brw xs => cases nb
      | exc _ _ => first | (cases e; done) | (cases nb; done) | exact r | exact r1 | exact ⟨r, trivial⟩ | exact ⟨r1, trivial⟩ | exact ⟨rv, trivial⟩ | trivial
      | scr ns => cases nb
    · obtain ⟨w, s, r1⟩ := R.slot j sw e1
      exact ⟨w, by rw [List.getElem?_set_ne (Ne.symm n)]; exact s, slots w sw r1⟩
  · have z := R.pin p (by rw [C.own_pins]; exact hp)
    exact ⟨slots _ _ z.1, z.2⟩
  · have fresh : sv.isOwn = true → v = .ref a → ¬ OwnAt σ env a := fun q e o => R.gown a (by
      cases sv with
      | own xs => exact .inr (.inr e.symm)
      | _ => cases q) o
    rcases get_set e1 with ⟨rfl, l, f1⟩ | ⟨n1, f1⟩
    · rcases get_set e2 with ⟨rfl, _, f2⟩ | ⟨n2, f2⟩
      · rfl
      · cases f1
        rcases get_set s1 with ⟨_, _, g1⟩ | ⟨n, _⟩
        · cases g1
          rcases get_set s2 with ⟨q, _⟩ | ⟨_, g2⟩
          · exact absurd q n2
          · exact absurd ⟨k, ys, f2, g2⟩ (fresh rfl rfl)
        · exact absurd rfl n
    · rcases get_set e2 with ⟨rfl, _, f2⟩ | ⟨n2, f2⟩
      · cases f2
        rcases get_set s2 with ⟨_, _, g2⟩ | ⟨n, _⟩
        · cases g2
          rcases get_set s1 with ⟨q, _⟩ | ⟨_, g1⟩
          · exact absurd q n1
          · exact absurd ⟨j, xs, f1, g1⟩ (fresh rfl rfl)
        · exact absurd rfl n
      · rcases get_set s1 with ⟨q, _⟩ | ⟨_, g1⟩
        · exact absurd q n1
        · rcases get_set s2 with ⟨q, _⟩ | ⟨_, g2⟩
          · exact absurd q n2
          · exact R.uniq j k xs ys a f1 f2 g1 g2
  · have z := R.hm.at_ n a c e f
    rw [C.own_K] at z
    exact z.mono (Kp.le ex) ⟨[], by simp⟩ rfl
  · rcases own_set o with q | ⟨q, e⟩
    · exact R0.gown a g q
    · exact nG a q e g
theorem Rel.setVal {i : Nat} {v : V} {p : PV} (R : Rel C m σ H env h) (r : Rep C.K (ExOf C σ env m) m H v p) : Rel C m (σ.set i (some v)) H (env.set i (some (.val p))) h :=
  Rel.setSlot (sv := .val p) R r rfl fun _ q => nomatch q
/-- a slot is forgotten -/
theorem Rel.clear {i : Nat} {x : Option V} (R : Rel C m σ H env h) : Rel C m (σ.set i x) H (env.set i none) h := by
  have ex : ∀ b, ExOf C (σ.set i x) (env.set i none) m b → ExOf C σ env m b := fun b q => by
    rcases q with q | q | q
    · exact .inl q
    · exact .inr (.inl (own_clear q))
    · exact .inr (.inr q)
  have slots : ∀ w sw, SlotR C σ env m H w sw → SlotR C (σ.set i x) (env.set i none) m H w sw := fun w sw ⟨r1, b1⟩ => ⟨r1.less rfl ex fun _ q => q, b1.le rfl (fun b o => .inl (own_clear o)) fun _ q => q⟩
  refine ⟨by rw [List.length_set, List.length_set]; exact R.len, fun j sw e => ?_, fun p hp => ⟨slots _ _ (R.pin p hp).1, (R.pin p hp).2⟩, fun j k xs ys a e1 e2 s1 s2 => ?_, ⟨R.hm.len, R.hm.nd, fun n a c e f => (R.hm.at_ n a c e f).mono (Kp.le ex) ⟨[], by simp⟩ rfl⟩, R.keep, R.dom, R.pre, R.gdom, fun a g o => R.gown a g (own_clear o)⟩
  · rcases get_set e with ⟨rfl, l, e1⟩ | ⟨n, e1⟩
    · cases e1
    · obtain ⟨w, s, r1⟩ := R.slot j sw e1
      exact ⟨w, by rw [List.getElem?_set_ne (Ne.symm n)]; exact s, slots w sw r1⟩
  · rcases get_set e1 with ⟨rfl, l, f1⟩ | ⟨n1, f1⟩
    · cases f1
    · rcases get_set e2 with ⟨rfl, l, f2⟩ | ⟨n2, f2⟩
      · cases f2
      · rcases get_set s1 with ⟨q, _⟩ | ⟨_, g1⟩
        · exact absurd q n1
        · rcases get_set s2 with ⟨q, _⟩ | ⟨_, g2⟩
          · exact absurd q n2
          · exact R.uniq j k xs ys a f1 f2 g1 g2
/-- a list of one's own is locked for ever -/
def frzE (i : Nat) (env : Env) : Env := match env[i]? with
  | some (some (.own xs)) => env.set i (some (.val (.lst xs)))
  | _ => env
@[simp ↓] theorem frzE_eq (i : Nat) (env : Env) : frzE i env = (match env[i]? with
  | some (some (.own xs)) => env.set i (some (.val (.lst xs)))
  | _ => env) := id rfl
theorem own_frz {i : Nat} {xs : List PV} {b : Addr} (o : OwnAt σ (env.set i (some (.val (.lst xs)))) b) : ∃ j ys, j ≠ i ∧ env[j]? = some (some (.own ys)) ∧ σ[j]? = some (some (.ref b)) := by
  obtain ⟨j, ys, e, s⟩ := o
  rcases get_set e with ⟨rfl, l, e1⟩ | ⟨n, e1⟩
  · cases e1
  · exact ⟨j, ys, n, e1, s⟩
theorem Rel.frz {i : Nat} (R : Rel C m σ H env h) : Rel C m σ H (frzE i env) h := by
  unfold frzE
  split
  · rename_i xs e0
    obtain ⟨v0, s0, ⟨a0, vs0, rfl, ha0, h00, nm0, q0⟩, _⟩ := R.slot i _ e0
    have il : i < env.length := (List.getElem?_eq_some_iff.mp e0).1
    have o2 : ∀ b, OwnAt σ (env.set i (some (.val (.lst xs)))) b → OwnAt σ env b ∧ b ≠ a0 := fun b o => by
      obtain ⟨j, ys, n, e, s⟩ := own_frz o
      refine ⟨⟨j, ys, e, s⟩, fun z => ?_⟩
      subst z
      exact n (R.uniq j i ys xs b e e0 s s0)
    have ex : ∀ b, ExOf C σ (env.set i (some (.val (.lst xs)))) m b → ExOf C σ env m b := fun b q => by
      rcases q with q | q | q
      · exact .inl q
      · exact .inr (.inl (o2 b q).1)
      · exact .inr (.inr q)
    have slots : ∀ w sw, SlotR C σ env m H w sw → SlotR C σ (env.set i (some (.val (.lst xs)))) m H w sw := fun w sw ⟨r1, b1⟩ => ⟨r1.less rfl ex fun _ q => q, b1.le rfl (fun b o => .inl (o2 b o).1) fun _ q => q⟩
    refine ⟨by rw [List.length_set]; exact R.len, fun j sw e => ?_, fun p hp => ⟨slots _ _ (R.pin p hp).1, (R.pin p hp).2⟩, fun j k xs ys a e1 e2 s1 s2 => ?_, ⟨R.hm.len, R.hm.nd, fun n a c e f => (R.hm.at_ n a c e f).mono (Kp.le ex) ⟨[], by simp⟩ rfl⟩, R.keep, R.dom, R.pre, R.gdom, fun a g o => R.gown a g (o2 a o).1⟩
    · rcases get_set e with ⟨rfl, l, e1⟩ | ⟨n, e1⟩
      · cases e1
        refine ⟨_, s0, .lst ⟨.inl ha0, fun z => ?_⟩ (RepL.mono (Kp.le fun b z => .inl (ex b z)) ⟨[], by simp⟩ q0), trivial⟩
        rcases z with z | z | z
        · exact R.gown a0 z ⟨_, _, e0, s0⟩
        · exact (o2 a0 z).2 rfl
        · exact nm0 z
      · obtain ⟨w, s, r1⟩ := R.slot j sw e1
        exact ⟨w, s, slots w sw r1⟩
    · rcases get_set e1 with ⟨rfl, l, f1⟩ | ⟨n1, f1⟩
      · cases f1
      · rcases get_set e2 with ⟨rfl, l, f2⟩ | ⟨n2, f2⟩
        · cases f2
        · exact R.uniq j k _ _ a f1 f2 s1 s2
  · exact R
/-- a list of one's own is changed -/
theorem Rel.mutOwn {i : Nat} {a : Addr} {xs ys : List PV} {vs : List V} (R : Rel C m σ H env h) (e0 : env[i]? = some (some (.own xs))) (s0 : σ[i]? = some (some (.ref a))) (r : RepL C.K (ExOf C σ env m) m H vs ys) :
    Rel C m σ (upd H a (.lst vs)) (env.set i (some (.own ys))) h := by
  obtain ⟨v0, s0', ⟨a0, vs0, e00, ha0, h00, nm0, q0⟩, _⟩ := R.slot i _ e0
  rw [s0] at s0'
  cases s0'
  cases e00
  have il : i < env.length := (List.getElem?_eq_some_iff.mp e0).1
  have oa : OwnAt σ env a := ⟨i, xs, e0, s0⟩
  have o2 : ∀ b, OwnAt σ (env.set i (some (.own ys))) b → OwnAt σ env b := fun b ⟨j, zs, e, s⟩ => by
    rcases get_set e with ⟨rfl, l, e1⟩ | ⟨n, e1⟩
    · exact ⟨_, xs, e0, s⟩
    · exact ⟨j, zs, e1, s⟩
  have ex : ∀ b, ExOf C σ (env.set i (some (.own ys))) m b → ExOf C σ env m b := fun b q => by
    rcases q with q | q | q
    · exact .inl q
    · exact .inr (.inl (o2 b q))
    · exact .inr (.inr q)
  have k : Kp (ExOf C σ env m) H (ExOf C σ (env.set i (some (.own ys))) m) (upd H a (.lst vs)) := fun b u e n => by
    have nb : b ≠ a := fun z => n (by rw [z]; exact .inr (.inl oa))
    exact ⟨by rw [upd_ne nb]; exact e, fun q => n (ex b q)⟩
  have am : ∀ b, b ∈ m → b ≠ a := fun b q z => nm0 (z ▸ q)
  have oex : ∀ b, (ExOf C σ env m b ∨ b = a) → ExOf C σ env m b := fun b q => q.elim id fun z => by rw [z]; exact .inr (.inl oa)
  have slots : ∀ w sw, (sw.isOwn = true → w ≠ .ref a) → SlotR C σ env m H w sw → SlotR C σ (env.set i (some (.own ys))) m (upd H a (.lst vs)) w sw := fun w sw no ⟨r1, b1⟩ => by
    refine ⟨?_, b1.le rfl (fun b o => .inl (o2 b o)) fun _ q => q⟩
    cases sw with
    | val p => exact Rep.mono k ⟨[], by simp⟩ r1
    | own zs =>
      obtain ⟨c, ws, rfl, hc, hn, cm, q⟩ := r1
      have nc : c ≠ a := fun z => no rfl (by rw [z])
      refine ⟨c, ws, rfl, by rw [upd_ne nc]; exact hc, hn, cm, RepL.mono (fun b u e n => ?_) ⟨[], by simp⟩ q⟩
      obtain ⟨k1, k2⟩ := k b u e fun z => n (.inl z)
      exact ⟨k1, fun z => z.elim k2 fun z => n (.inr z)⟩
    | brw zs =>
      obtain ⟨c, ws, rfl, hc, q⟩ := r1
      have nc : c ≠ a := fun z => (b1 c rfl).1 (by rw [z]; exact oa)
      refine ⟨c, ws, rfl, ⟨?_, hc.2⟩, RepL.mono k ⟨[], by simp⟩ q⟩
      unfold Rd
      rw [upd_ne nc]
      exact hc.1
    | exc _ _ => first | (cases e; done) | (cases nb; done) | exact r | exact r1 | exact ⟨r, trivial⟩ | exact ⟨r1, trivial⟩ | exact ⟨rv, trivial⟩ | trivial
    | scr ns =>
      obtain ⟨c, rfl, hc⟩ := r1
      refine ⟨c, rfl, ?_⟩
      rcases b1 c rfl with z | z
      · exact .inr z
      · rcases hc with hc | hc
        · have nc : c ≠ a := fun e => z.1 (by rw [e]; exact oa)
          refine .inl ⟨?_, hc.2⟩
          unfold Rd
          rw [upd_ne nc]
          exact hc.1
        · exact .inr hc
  refine ⟨by rw [List.length_set]; exact R.len, fun j sw e => ?_, fun p hp => ⟨slots _ _ (fun q => by rw [(R.pin p hp).2] at q; cases q) (R.pin p hp).1, (R.pin p hp).2⟩, fun j k' us ws b e1 e2 s1 s2 => ?_, ⟨R.hm.len, R.hm.nd, fun n b c e f => (R.hm.at_ n b c e f).mono k ⟨[], by simp⟩ (upd_ne (am b (List.mem_of_getElem? e)))⟩, fun b u e n => ?_, fun b q => ?_, R.pre, fun b q => ?_, fun b g o => R.gown b g (o2 b o)⟩
  · rcases get_set e with ⟨rfl, l, e1⟩ | ⟨n, e1⟩
    · cases e1
      refine ⟨_, s0, ⟨a, vs, rfl, upd_same, h00, nm0, RepL.mono (fun b u e n => ?_) ⟨[], by simp⟩ r⟩, trivial⟩
      obtain ⟨k1, k2⟩ := k b u e n
      exact ⟨k1, fun z => z.elim k2 fun z => n (by rw [z]; exact .inr (.inl oa))⟩
    · obtain ⟨w, s, r1⟩ := R.slot j sw e1
      refine ⟨w, s, slots w sw (fun q z => ?_) r1⟩
      cases sw with
      | own zs =>
        subst z
        exact n (R.uniq j i zs xs a e1 e0 s s0)
      | _ => cases q
  · have to : ∀ {j : Nat} {us : List PV}, (env.set i (some (.own ys)))[j]? = some (some (.own us)) → ∃ us', env[j]? = some (some (.own us')) := fun {j us} e => by
      rcases get_set e with ⟨rfl, _, _⟩ | ⟨_, e1⟩
      · exact ⟨_, e0⟩
      · exact ⟨_, e1⟩
    obtain ⟨us', f1⟩ := to e1
    obtain ⟨ws', f2⟩ := to e2
    exact R.uniq j k' us' ws' b f1 f2 s1 s2
  · have nb : b ≠ a := fun z => by
      rw [z, h00] at e
      cases e
    rw [upd_ne nb]
    exact R.keep b u e n
  · by_cases z : b = a
    · rw [z, upd_same]
      simp
    · rw [upd_ne z]
      exact R.dom b q
  · by_cases z : b = a
    · rw [z, upd_same]
      simp
    · rw [upd_ne z]
      exact R.gdom b q
/-- a cell is changed -/
theorem Rel.mutCell {n : Nat} {a : Addr} {c' : Cell} {o : HO} (R : Rel C m σ H env h) (e0 : m[n]? = some a) (s0 : n < h.length) (r : CellR C.K (ExOf C σ env m) m (upd H a o) a c') :
    StE m H m (upd H a o) ∧ Rel C m σ (upd H a o) env (h.set n c') := by
  have am : a ∈ m := List.mem_of_getElem? e0
  have S : StE m H m (upd H a o) := ⟨fun b u e n => by rw [upd_ne (fun z => n (by rw [z]; exact am))]; exact e, fun b q => by
    by_cases z : b = a
    · rw [z, upd_same]
      simp
    · rw [upd_ne z]
      exact q, [], by simp, by simp⟩
  refine ⟨S, R.step S ⟨by rw [List.length_set]; exact R.hm.len, R.hm.nd, fun k b c e f => ?_⟩⟩
  rcases get_set f with ⟨rfl, l, f1⟩ | ⟨n', f1⟩
  · rw [e0] at e
    cases e
    cases f1
    exact r
  · have nb : b ≠ a := fun z => by
      subst z
      exact n' (nd_ix R.hm.nd e e0)
    exact (R.hm.at_ k b c e f1).mono (R.kp S) ⟨[], by simp⟩ (upd_ne nb)
/-- a new cell for a list that nobody sees -/
theorem Rel.alloc {a : Addr} {vs : List V} {xs : List PV} (R : Rel (C.own (.ref a) (.own xs)) m σ H env h) (ha : H a = some (.lst vs)) (nm : a ∉ m) (n0 : C.H0 a = none) (nG : ¬ C.GT a) (q : RepL C.K (fun b => ExOf C σ env m b ∨ b = a) m H vs xs) :
    Rel C (m ++ [a]) σ H env (h ++ [.lst xs]) := by
  have R0 := R.drop
  have no : ¬ OwnAt σ env a := R.gown a (.inr (.inr rfl))
  have ex : ∀ b, ExOf C σ env (m ++ [a]) b → ExOf (C.own (.ref a) (.own xs)) σ env m b := fun b z => by
    rcases z with z | z | z
    · exact .inl (C.own_GT _ _ z)
    · exact .inr (.inl z)
    · rcases List.mem_append.mp z with z | z
      · exact .inr (.inr z)
      · rw [List.mem_singleton.mp z]
        exact .inl (.inr (.inr rfl))
  have slots : ∀ w sw, SlotR (C.own (.ref a) (.own xs)) σ env m H w sw → (sw.isOwn = true → w ≠ .ref a) → SlotR C σ env (m ++ [a]) H w sw := fun w sw ⟨r1, b1⟩ no' => by
    refine ⟨?_, b1.le rfl (fun b o => .inl o) fun b q => .inl q⟩
    cases sw with
    | val p => exact Rep.mono (Kp.le ex) ⟨_, rfl⟩ r1
    | own zs =>
      obtain ⟨c, ws, rfl, hc, hn, cm, q⟩ := r1
      refine ⟨c, ws, rfl, hc, hn, fun z => ?_, RepL.mono (Kp.le fun b z => z.imp (ex b) id) ⟨_, rfl⟩ q⟩
      rcases List.mem_append.mp z with z | z
      · exact cm z
      · exact no' rfl (by rw [List.mem_singleton.mp z])
    | brw zs =>
      obtain ⟨c, ws, rfl, hc, q⟩ := r1
      refine ⟨c, ws, rfl, ⟨hc.1, fun z => ?_⟩, RepL.mono (Kp.le ex) ⟨_, rfl⟩ q⟩
      rcases List.mem_append.mp z with z | z
      · exact hc.2 z
      · exact (b1 c rfl).2 (.inr (by rw [List.mem_singleton.mp z]))
    | exc _ _ => first | (cases e; done) | (cases nb; done) | exact r | exact r1 | exact ⟨r, trivial⟩ | exact ⟨r1, trivial⟩ | exact ⟨rv, trivial⟩ | trivial
    | scr ns =>
      obtain ⟨c, rfl, hc⟩ := r1
      refine ⟨c, rfl, ?_⟩
      rcases b1 c rfl with z | z
      · exact .inr z
      · rcases hc with hc | hc
        · refine .inl ⟨hc.1, fun e => ?_⟩
          rcases List.mem_append.mp e with e | e
          · exact hc.2 e
          · exact z.2 (.inr (by rw [List.mem_singleton.mp e]))
        · exact .inr hc
  refine ⟨R.len, fun j sw e => ?_, fun p hp => ⟨slots _ _ (R.pin p hp).1 (fun q => by rw [(R.pin p hp).2] at q; cases q), (R.pin p hp).2⟩, R.uniq, ⟨by rw [List.length_append, List.length_append, R.hm.len]; rfl, ?_, fun k b c e f => ?_⟩, R0.keep, R0.dom, ?_, R0.gdom, R0.gown⟩
  · obtain ⟨w, s, r1⟩ := R.slot j sw e
    refine ⟨w, s, slots w sw r1 fun q z => ?_⟩
    cases sw with
    | own zs => exact no ⟨j, zs, e, by rw [← z]; exact s⟩
    | _ => cases q
  · rw [List.nodup_append]
    exact ⟨R.hm.nd, by simp, fun x hx y hy => by rw [List.mem_singleton.mp hy]; exact fun z => nm (z ▸ hx)⟩
  · by_cases hk : k < m.length
    · rw [List.getElem?_append_left hk] at e
      rw [List.getElem?_append_left (by rw [← R.hm.len]; exact hk)] at f
      exact (R.hm.at_ k b c e f).mono (Kp.le ex) ⟨_, rfl⟩ rfl
    · rw [List.getElem?_append_right (by omega)] at e
      rw [List.getElem?_append_right (by rw [← R.hm.len]; omega)] at f
      have e1 := List.mem_singleton.mp (List.mem_of_getElem? e)
      have e2 := List.mem_singleton.mp (List.mem_of_getElem? f)
      subst e1 e2
      refine ⟨vs, ha, RepL.mono (Kp.le fun z w => ?_) ⟨_, rfl⟩ q⟩
      rcases ex z w with w | w | w
      · rcases w with w | w | w
        · exact .inl (.inl (.inl w))
        · exact .inl (.inl (.inr w))
        · cases w
          exact .inr rfl
      · exact .inl (.inr (.inl w))
      · exact .inl (.inr (.inr w))
  · obtain ⟨ms, rfl, hn⟩ := R0.pre
    refine ⟨ms ++ [a], by simp, fun b hb => ?_⟩
    rcases List.mem_append.mp hb with z | z
    · exact hn b z
    · rw [List.mem_singleton.mp z]
      exact n0
end
end PM

namespace PM
open PySem PySem.Spec L2
open PyProof.Rows hiding St

/-! ### what is walked -/
/-- J yields the items xs, as long as chk holds -/
def ItOk (C : Ctx) (J : It) (xs : List PV) (chk : Hs → Prop) : Prop :=
  ∀ (C2 : Ctx) (m2 : List Addr) (σ2 : St) (H2 : Hp) (env2 : Env) (h2 : Hs), C2.K = C.K → (∀ p ∈ C.pins, p ∈ C2.pins) → Rel C2 m2 σ2 H2 env2 h2 → chk h2 → ∀ i,
    (∀ p, xs[i]? = some p → J.go i H2 ∧ ∀ x H3, J.yld i H2 x H3 → Same H2 H3 ∧ Rep C2.K (ExOf C2 σ2 env2 m2) m2 H3 x p) ∧ (xs.length ≤ i → J.stop i H2)
/-- C' is C with more pins and more temporary lists outside -/
structure CtxLe (C C' : Ctx) : Prop where
  K : C'.K = C.K
  H0 : C'.H0 = C.H0
  m0 : C'.m0 = C.m0
  gt : ∀ b, C.GT b → C'.GT b
  t : ∀ b, C.T b → C'.T b
  pins : ∀ p ∈ C.pins, p ∈ C'.pins
theorem CtxLe.refl (C : Ctx) : CtxLe C C := ⟨rfl, rfl, rfl, fun _ q => q, fun _ q => q, fun _ q => q⟩
theorem CtxLe.trans {C C1 C2 : Ctx} (a : CtxLe C C1) (b : CtxLe C1 C2) : CtxLe C C2 := ⟨b.K.trans a.K, b.H0.trans a.H0, b.m0.trans a.m0, fun x q => b.gt x (a.gt x q), fun x q => b.t x (a.t x q), fun p q => b.pins p (a.pins p q)⟩
theorem Rel.back {C C' : Ctx} {m : List Addr} {σ : St} {H : Hp} {env : Env} {h : Hs} (R : Rel C' m σ H env h) (l : CtxLe C C') : Rel C m σ H env h := R.less l.K l.H0 l.m0 l.gt l.t l.pins
abbrev DI := Env → Hs → (List PV → (Hs → Prop) → Hs → Prop) → XQ → Prop
structure SI (K : PySem.W.Frag) (W : WX) (t : TI) (f : DI) : Prop where
  run : ∀ (C : Ctx) (m : List Addr) (σ : St) (H : Hp) (env : Env) (h : Hs) (Q : List PV → (Hs → Prop) → Hs → Prop) (E : XQ) (Q' : It → Hp → Prop), C.K = K → Rel C m σ H env h → f env h Q E →
    (∀ C' m' J H' xs chk h', CtxLe C C' → StE m H m' H' → Rel C' m' σ H' env h' → ItOk C' J xs chk → Q xs chk h' → Q' J H') → PostX W C m σ H env E → t σ H Q'

/-- a value is kept beside the names -/
def Ctx.keep (C : Ctx) (v : V) : SV → Ctx
  | .own xs => { C with G := fun b => C.G b ∨ V.ref b = v, pins := (v, .brw xs) :: C.pins }
  | sv => { C with pins := (v, sv) :: C.pins }
theorem Ctx.keep_le (C : Ctx) (v : V) (sv : SV) : CtxLe C (C.keep v sv) := by
  cases sv <;> exact ⟨rfl, rfl, rfl, fun b q => by first | exact q | exact q.imp .inl id, fun b q => q, fun p q => List.mem_cons_of_mem _ q⟩
/-- what the pin says -/
@[simp] def SV.kept : SV → SV
  | .own xs => .brw xs
  | sv => sv
theorem Ctx.keep_in (C : Ctx) (v : V) (sv : SV) : (v, sv.kept) ∈ (C.keep v sv).pins := by
  cases sv <;> exact List.mem_cons_self
section
variable {C : Ctx} {m : List Addr} {σ : St} {H : Hp} {env : Env} {h : Hs}
theorem Rel.pinned (R : Rel C m σ H env h) {v : V} {sv : SV} (r : SlotR C σ env m H v sv) (no : sv.isOwn = false) : Rel { C with pins := (v, sv) :: C.pins } m σ H env h := by
  have slots : ∀ w sw, SlotR C σ env m H w sw → SlotR { C with pins := (v, sv) :: C.pins } σ env m H w sw := fun w sw q => ⟨RepS.less q.1 rfl (fun b q => q) fun _ q => q, q.2.less rfl fun _ q => q⟩
  refine ⟨R.len, fun i sw e => ?_, fun p hp => ?_, R.uniq, R.hm, R.keep, R.dom, R.pre, R.gdom, R.gown⟩
  · obtain ⟨w, s, q⟩ := R.slot i sw e
    exact ⟨w, s, slots w sw q⟩
  · rcases List.mem_cons.mp hp with e | e
    · subst e
      exact ⟨slots _ _ r, no⟩
    · exact ⟨slots _ _ (R.pin p e).1, (R.pin p e).2⟩
/-- the value of an expression that is no name is kept -/
theorem Rel.keepE {m1 : List Addr} {H1 : Hp} {h1 : Hs} (R0 : Rel C m σ H env h) {v : V} {sv : SV} (R : Rel (C.own v sv) m1 σ H1 env h1) (r : RepS C (ExOf C σ env m1) m1 (fun a => H a = none) H1 v sv) (nb : sv.isB = false) : Rel (C.keep v sv) m1 σ H1 env h1 := by
  cases sv with
  | brw xs => cases nb
  | exc _ _ => first | (cases e; done) | (cases nb; done) | exact r | exact r1 | exact ⟨r, trivial⟩ | exact ⟨r1, trivial⟩ | exact ⟨rv, trivial⟩ | trivial
  | scr ns => cases nb
  | val p => exact R.pinned (v := v) (sv := .val p) ⟨r, trivial⟩ rfl
  | own xs =>
    obtain ⟨a, vs, rfl, ha, na, nm, q⟩ := r
    have R1 : Rel { C with G := fun b => C.G b ∨ V.ref b = V.ref a } m1 σ H1 env h1 := by
      refine R.less rfl rfl rfl (fun b z => ?_) (fun b z => .inl z) fun p z => z
      rcases z with z | z
      · exact z.elim (fun z => .inl z) fun z => .inr (.inr z)
      · exact .inr (.inl z)
    refine R1.pinned (v := .ref a) (sv := .brw xs) ⟨⟨a, vs, rfl, ⟨.inl ha, nm⟩, RepL.mono (Kp.le fun b z => ?_) ⟨[], by simp⟩ q⟩, fun b e => ?_⟩ rfl
    · rcases z with z | z | z
      · rcases z with z | z
        · rcases z with z | z
          · exact .inl (.inl (.inl z))
          · cases z
            exact .inr rfl
        · exact .inl (.inl (.inr z))
      · exact .inl (.inr (.inl z))
      · exact .inl (.inr (.inr z))
    · cases e
      exact ⟨R.gown a (.inr (.inr rfl)), fun z => R0.gdom a (.inr z) na⟩
theorem Rel.seqL {v : V} {sv : SV} {xs : List PV} (R : Rel C m σ H env h) (r : RepA C σ env m H v sv) (e : seqC h sv = some xs) (nt : ∀ ys, sv ≠ .val (.tup ys)) : ∃ a vs, v = .ref a ∧ SqL C.K H a vs ∧ RepL C.K (ExOf C σ env m) m H vs xs := by
  have lst : listC h sv = some xs → ∃ a vs, v = .ref a ∧ SqL C.K H a vs ∧ RepL C.K (ExOf C σ env m) m H vs xs := fun e => R.list r e
  cases sv with
  | own ys => exact lst e
  | brw ys => exact lst e
  | exc _ _ => first | (cases e; done) | (cases nb; done) | exact r | exact r1 | exact ⟨r, trivial⟩ | exact ⟨r1, trivial⟩ | exact ⟨rv, trivial⟩ | trivial
  | scr ns =>
    obtain ⟨a, rfl, ha⟩ := r
    cases e
    refine ⟨a, _, rfl, ?_, RepL.of_ints⟩
    rcases ha with ⟨ha, _⟩ | ha
    · exact .inl ha
    · exact ha H
  | val p =>
    cases p with
    | tup ys => exact absurd rfl (nt ys)
    | _ => exact lst e
theorem Rel.pinA {v : V} {sv : SV} (R : Rel C m σ H env h) (p : (v, sv) ∈ C.pins) : RepA C σ env m H v sv := (R.pin _ p).1.1.less rfl (fun _ q => q) fun _ _ => trivial
end
theorem RepL.here {K : PySem.W.Frag} {Ex : Ad} {m : List Addr} {H : Hp} {vs : List V} {xs : List PV} {i : Nat} {x : V} {p : PV} (r : RepL K Ex m H vs xs) (e : vs[i]? = some x) (f : xs[i]? = some p) : Rep K Ex m H x p := by
  obtain ⟨q, h1, h2⟩ := r.get' e
  rw [f] at h1
  cases h1
  exact h2
/-- what a kept list says at any later moment -/
theorem itok_list {C : Ctx} {v : V} {sv : SV} {xs : List PV} {a : Addr} (hp : (v, sv) ∈ C.pins) (ev : v = .ref a) (nt : ∀ ys, sv ≠ .val (.tup ys)) : ItOk C (Itl C.K a) xs fun h => seqC h sv = some xs := by
  intro C2 m2 σ2 H2 env2 h2 eK lp R hc i
  obtain ⟨b, vs, e, hs, q⟩ := R.seqL (R.pinA (lp _ hp)) hc nt
  rw [ev] at e
  cases e
  rw [eK] at hs
  refine ⟨fun p f => ?_, fun l => ⟨vs, hs, by rw [q.length]; exact l⟩⟩
  obtain ⟨x, ex, _⟩ := q.get f
  refine ⟨⟨vs, x, hs, ex⟩, fun y H3 ⟨e1, e2⟩ => ?_⟩
  subst e1
  exact ⟨Same.refl _, q.here (e2 _ hs) f⟩
theorem itok_tup {C : Ctx} {v : V} {xs : List PV} {a : Addr} (hp : (v, SV.val (.tup xs)) ∈ C.pins) (ev : v = .ref a) : ItOk C (Itt C.K a) xs fun _ => True := by
  intro C2 m2 σ2 H2 env2 h2 eK lp R _ i
  have r := R.pinA (lp _ hp)
  subst ev
  cases r with
  | tup ha q =>
    rename_i vs
    have hs := ha.sq
    rw [eK] at hs
    refine ⟨fun p f => ?_, fun l => ⟨vs, hs, by rw [q.length]; exact l⟩⟩
    obtain ⟨x, ex, _⟩ := q.get f
    refine ⟨⟨vs, x, hs, ex⟩, fun y H3 ⟨e1, e2⟩ => ?_⟩
    subst e1
    exact ⟨Same.refl _, q.here (e2 _ hs) f⟩
/-- one walked thing: a list, a tuple, the signs of a text -/
def iSeq (K : PySem.W.Frag) (te : TE) : TI := fun σ H R => te σ H fun x H1 => (∃ a, x = .ref a ∧ (∃ xs, SqL K H1 a xs) ∧ R (Itl K a) H1) ∨ (∃ a, x = .ref a ∧ (∃ xs, SqT K H1 a xs) ∧ R (Itt K a) H1) ∨ ∃ z, x = .str z ∧ R (Its z) H1
theorem pi_seq {X : Cx} {tg e : Expr} {te : TE} (he : PE X e te) : PI X tg e (iSeq X.K te) := by
  refine ⟨fun pins s σ H R I h => ?_⟩
  refine thn (he.run pins s σ H _ I h) fun v s1 ⟨x, H1, I1, r1, q1⟩ => ?_
  rcases q1 with ⟨a, e, ⟨xs, hq⟩, q⟩ | ⟨a, e, ⟨xs, hq⟩, q⟩ | ⟨x, ex, q⟩
  · subst e
    cases r1
    obtain ⟨its, rv, p, hz⟩ := I1.list hq
    refine wpAny_pyIter_list p.isList ?_
    refine ⟨s1.heap.objs.size, [s1.heap.objs.size], _, _, H1, rfl, I1.kept (t' := s1.toks) fun b o e => Heap.get?_push_of_some _ e, turn_list a _, ⟨_, Heap.get?_push_size _ rfl, rfl, rfl⟩, fun b hb => ?_, q⟩
    have e : b = s1.heap.objs.size := by simpa using hb
    subst e
    exact I1.fpOk (Nat.le_refl _) (I1.hok.fresh (Nat.le_refl _))
  · subst e
    cases r1
    obtain ⟨its, rv, p, hz⟩ := I1.tuple hq
    refine wpAny_pyIter_tuple (show s1.heap.IsTuple a its.toArray from p) ?_
    refine ⟨s1.heap.objs.size, [s1.heap.objs.size], _, _, H1, rfl, I1.kept (t' := s1.toks) fun b o e => Heap.get?_push_of_some _ e, turn_tuple a _, ⟨_, Heap.get?_push_size _ rfl, rfl, rfl⟩, fun b hb => ?_, q⟩
    have e : b = s1.heap.objs.size := by simpa using hb
    subst e
    exact I1.fpOk (Nat.le_refl _) (I1.hok.fresh (Nat.le_refl _))
  · subst ex
    obtain ⟨t, rfl⟩ := r1
    cases ha : x.cps.all (· < 128)
    · exact wpAny_pyIter_wide ha (pi_one (tk := s1.toks) I1 _ (turn_str _ x t "str_iterator" (.inr rfl)) ⟨_, Heap.get?_push_size _ rfl, rfl, rfl⟩ q)
    · exact wpAny_pyIter_ascii ha (pi_one (tk := s1.toks) I1 _ (turn_str _ x t "str_ascii_iterator" (.inl rfl)) ⟨_, Heap.get?_push_size _ rfl, rfl, rfl⟩ q)
def signs (z : Str) : List PV := z.cps.toList.map fun c => .str ⟨#[c]⟩
theorem itok_str {C : Ctx} {z : Str} : ItOk C (Its z) (signs z) fun _ => True := by
  intro C2 m2 σ2 H2 env2 h2 eK lp R _ i
  have sz : z.cps.size = z.cps.toList.length := by simp
  refine ⟨fun p f => ?_, fun l => ?_⟩
  · unfold signs at f
    rw [List.getElem?_map] at f
    cases g : z.cps.toList[i]? with
    | none =>
      rw [g] at f
      cases f
    | some c =>
      rw [g] at f
      cases f
      have l : i < z.cps.size := by
        rw [sz]
        exact (List.getElem?_eq_some_iff.mp g).1
      refine ⟨l, fun x H3 ⟨e1, d, e2, e3⟩ => ?_⟩
      subst e1 e3
      have : d = c := by
        have e4 : z.cps.toList[i]? = some d := by rw [Array.getElem?_toList]; exact e2
        rw [g] at e4
        exact (Option.some.inj e4).symm
      subst this
      exact ⟨Same.refl _, .str _⟩
  · unfold signs at l
    rw [List.length_map] at l
    show z.cps.size ≤ i
    rw [sz]
    exact l
/-- the walk of a value; fixed: what must stay as it is, a cell's list -/
def walkQ (x : SV) (h1 : Hs) (Q : List PV → (Hs → Prop) → Hs → Prop) : Prop := match x with
  | .val (.str z) => Q (signs z) (fun _ => True) h1
  | .val (.tup xs) => Q xs (fun _ => True) h1
  | x => ∃ xs, seqC h1 x = some xs ∧ Q xs (fun h => seqC h x = some xs) h1
@[simp ↓] theorem walkQ_eq (x : SV) (h1 : Hs) (Q : List PV → (Hs → Prop) → Hs → Prop) : walkQ x h1 Q = (match x with
  | .val (.str z) => Q (signs z) (fun _ => True) h1
  | .val (.tup xs) => Q xs (fun _ => True) h1
  | x => ∃ xs, seqC h1 x = some xs ∧ Q xs (fun h => seqC h x = some xs) h1) := id rfl
/-- the value of an expression, kept -/
def dKE (a : DE) : DE := fun env h Q E => a env h (fun x h1 => x.isB = false ∧ Q x.kept h1) E
@[simp ↓] theorem dKE_eq (a : DE) (env : Env) (h : Hs) (Q : VQ) (E : XQ) : dKE a env h Q E = (a env h (fun x h1 => x.isB = false ∧ Q x.kept h1) E) := id rfl
/-- a name's value, kept: it may be a parameter that is only read -/
def dKV (i : Nat) : DE := fun env h Q _ => match env[i]? with
  | some (some (.own _)) => False
  | some (some sv) => Q sv h
  | _ => False
@[simp ↓] theorem dKV_eq (i : Nat) (env : Env) (h : Hs) (Q : VQ) (u0 : XQ) : dKV i env h Q u0 = (match env[i]? with
  | some (some (.own _)) => False
  | some (some sv) => Q sv h
  | _ => False) := id rfl
structure SKp (K : PySem.W.Frag) (W : WX) (t : TE) (f : DE) : Prop where
  run : ∀ (C : Ctx) (m : List Addr) (σ : St) (H : Hp) (env : Env) (h : Hs) (Q : VQ) (E : XQ) (Q' : VK), C.K = K → Rel C m σ H env h → f env h Q E →
    (∀ C' m' v H' sv h', CtxLe C C' → StE m H m' H' → Rel C' m' σ H' env h' → (v, sv) ∈ C'.pins → Q sv h' → Q' v H') → PostX W C m σ H env E → t σ H Q'
def dIt (a : DE) : DI := fun env h Q E => a env h (fun x h1 => walkQ x h1 Q) E
@[simp ↓] theorem dIt_eq (a : DE) (env : Env) (h : Hs) (Q : List PV → (Hs → Prop) → Hs → Prop) (E : XQ) : dIt a env h Q E = (a env h (fun x h1 => walkQ x h1 Q) E) := id rfl
section
variable {K : PySem.W.Frag} {W : WX}
theorem sk_e {ta : TE} {fa : DE} (ha : SE K W ta fa) : SKp K W ta (dKE fa) := ⟨fun C m σ H env h Q E Q' eK R hf p px => by
  refine ha.run C m σ H env h _ E _ eK R hf (fun m1 x H1 sx h1 S1 R1 r1 ⟨nb, q1⟩ => ?_) px
  exact p (C.keep x sx) m1 x H1 sx.kept h1 (C.keep_le x sx) S1 (R.keepE R1 r1 nb) (C.keep_in x sx) q1⟩
theorem sk_v (i : Nat) : SKp K W (tVar i) (dKV i) := ⟨fun C m σ H env h Q E Q' eK R hf p px => by
  unfold dKV at hf
  split at hf
  · exact hf.elim
  · rename_i sv no e
    obtain ⟨v, s, sl⟩ := R.slot i sv e
    have no' : sv.isOwn = false := by
      cases sv with
      | own xs => exact absurd rfl (no xs)
      | _ => rfl
    have le : CtxLe C { C with pins := (v, sv) :: C.pins } := ⟨rfl, rfl, rfl, fun _ q => q, fun _ q => q, fun _ q => List.mem_cons_of_mem _ q⟩
    exact ⟨v, s, p _ m v H sv h le (.refl m H) (R.pinned sl no') List.mem_cons_self hf⟩
  · exact hf.elim⟩
theorem walk_ok {C' : Ctx} {m1 : List Addr} {σ : St} {H1 : Hp} {env : Env} {h1 : Hs} {v : V} {sv : SV} {Q : List PV → (Hs → Prop) → Hs → Prop} {Q' : It → Hp → Prop} (eK : C'.K = K) (R : Rel C' m1 σ H1 env h1) (hp : (v, sv) ∈ C'.pins) (q : walkQ sv h1 Q)
    (p : ∀ J xs chk, ItOk C' J xs chk → Q xs chk h1 → Q' J H1) :
    (∃ a, v = .ref a ∧ (∃ xs, SqL K H1 a xs) ∧ Q' (Itl K a) H1) ∨ (∃ a, v = .ref a ∧ (∃ xs, SqT K H1 a xs) ∧ Q' (Itt K a) H1) ∨ ∃ z, v = .str z ∧ Q' (Its z) H1 := by
  have r := R.pinA hp
  subst eK
  unfold walkQ at q
  split at q
  · cases r
    exact .inr (.inr ⟨_, rfl, p _ _ _ itok_str q⟩)
  · cases r with
    | tup ha qa => exact .inr (.inl ⟨_, rfl, ⟨_, ha.sq⟩, p _ _ _ (itok_tup hp rfl) q⟩)
  · rename_i nt
    obtain ⟨xs, e, q⟩ := q
    obtain ⟨a, vs, ev, hs, _⟩ := R.seqL r e nt
    exact .inl ⟨a, ev, ⟨vs, hs⟩, p _ _ _ (itok_list hp ev nt) q⟩
theorem si_it {ta : TE} {fa : DE} (ha : SKp K W ta fa) : SI K W (iSeq K ta) (dIt fa) := ⟨fun C m σ H env h Q E Q' eK R hf p px =>
  ha.run C m σ H env h _ E _ eK R hf (fun C1 m1 x H1 sx h1 le S1 R1 hp q1 => walk_ok (le.K.trans eK) R1 hp q1 fun J xs chk ok q => p C1 m1 J H1 xs chk h1 le S1 R1 ok q) px⟩
/-- range(n), range(a, b) -/
def rangeP (lo : Int) (n : Nat) : List PV := (List.range n).map fun k => .int (lo + (k : Nat))
theorem itok_rng {C : Ctx} {lo : Int} {n : Nat} : ItOk C (Itr lo n) (rangeP lo n) fun _ => True := by
  intro C2 m2 σ2 H2 env2 h2 eK lp R _ i
  unfold rangeP
  refine ⟨fun p f => ?_, fun l => by rw [List.length_map, List.length_range] at l; exact l⟩
  rw [List.getElem?_map] at f
  by_cases hi : i < n
  · rw [List.getElem?_range hi] at f
    cases f
    refine ⟨hi, fun x H3 ⟨e1, e2⟩ => ?_⟩
    subst e1 e2
    exact ⟨Same.refl _, .int _⟩
  · rw [List.getElem?_eq_none (by rw [List.length_range]; omega)] at f
    cases f
def dRng1 (a : DE) : DI := fun env h Q E => a env h (fun x h1 => match x with
  | .val (.int j) => -(2 ^ 62) ≤ j ∧ j < 2 ^ 62 ∧ Q (rangeP 0 j.toNat) (fun _ => True) h1
  | _ => False) E
@[simp ↓] theorem dRng1_eq (a : DE) (env : Env) (h : Hs) (Q : List PV → (Hs → Prop) → Hs → Prop) (E : XQ) : dRng1 a env h Q E = (a env h (fun x h1 => match x with
  | .val (.int j) => -(2 ^ 62) ≤ j ∧ j < 2 ^ 62 ∧ Q (rangeP 0 j.toNat) (fun _ => True) h1
  | _ => False) E) := id rfl
def dRng2 (a b : DE) : DI := fun env h Q E => a env h (fun x h1 => b env h1 (fun y h2 => match x, y with
  | .val (.int i), .val (.int j) => (-(2 ^ 62) ≤ i ∧ i < 2 ^ 62 ∧ -(2 ^ 62) ≤ j ∧ j < 2 ^ 62) ∧ Q (rangeP i (j - i).toNat) (fun _ => True) h2
  | _, _ => False) E) E
@[simp ↓] theorem dRng2_eq (a b : DE) (env : Env) (h : Hs) (Q : List PV → (Hs → Prop) → Hs → Prop) (E : XQ) : dRng2 a b env h Q E = (a env h (fun x h1 => b env h1 (fun y h2 => match x, y with
  | .val (.int i), .val (.int j) => (-(2 ^ 62) ≤ i ∧ i < 2 ^ 62 ∧ -(2 ^ 62) ≤ j ∧ j < 2 ^ 62) ∧ Q (rangeP i (j - i).toNat) (fun _ => True) h2
  | _, _ => False) E) E) := id rfl
theorem si_rng1 {ta : TE} {fa : DE} (ha : SE K W ta fa) : SI K W (iRng1 (tCons ta tNil)) (dRng1 fa) := ⟨fun C m σ H env h Q E Q' eK R hf p px => by
  refine ha.run C m σ H env h _ E _ eK R hf (fun m1 x H1 sx h1 S1 R1 r1 q1 => ?_) px
  split at q1
  · cases r1
    exact ⟨_, rfl, q1.1, q1.2.1, p C m1 _ H1 _ _ h1 (.refl C) S1 R1 itok_rng q1.2.2⟩
  · exact q1.elim⟩
theorem si_rng2 {ta tb : TE} {fa fb : DE} (ha : SE K W ta fa) (hb : SE K W tb fb) : SI K W (iRng2 (tCons ta (tCons tb tNil))) (dRng2 fa fb) := ⟨fun C m σ H env h Q E Q' eK R hf p px => by
  refine ha.run C m σ H env h _ E _ eK R hf (fun m1 x H1 sx h1 S1 R1 r1 q1 => ?_) px
  refine hb.run (C.own x sx) m1 σ H1 env h1 _ E _ ((C.own_K x sx).trans eK) R1 q1 (fun m2 y H2 sy h2 S2 R2 r2 q2 => ?_) (px.go S1).own
  split at q2
  · cases r2
    cases r1
    exact ⟨_, _, rfl, q2.1, p C m2 _ H2 _ _ h2 (.refl C) (S1.trans S2) R2 itok_rng q2.2⟩
  · exact q2.elim⟩
/-- zip of two lists or two tuples -/
def pairs (xs ys : List PV) : List PV := List.zipWith (fun x y => .tup [x, y]) xs ys
theorem pairs_get {xs ys : List PV} {i : Nat} {p : PV} (e : (pairs xs ys)[i]? = some p) : ∃ x y, xs[i]? = some x ∧ ys[i]? = some y ∧ p = .tup [x, y] := by
  unfold pairs at e
  rw [List.getElem?_zipWith] at e
  cases ex : xs[i]? with
  | none => rw [ex] at e; cases e
  | some x => cases ey : ys[i]? with
    | none => rw [ex, ey] at e; cases e
    | some y =>
      rw [ex, ey] at e
      cases e
      exact ⟨x, y, rfl, rfl, rfl⟩
@[simp] def SV.isT : SV → Bool
  | .val (.tup _) => true
  | _ => false
theorem newPair {C : Ctx} {m : List Addr} {σ : St} {H : Hp} {env : Env} {h : Hs} {x y : V} {p q : PV} {T : Addr} (R : Rel C m σ H env h) (rx : Rep C.K (ExOf C σ env m) m H x p) (ry : Rep C.K (ExOf C σ env m) m H y q) (n : H T = none) :
    Same H (upd H T (.tup [x, y])) ∧ Rep C.K (ExOf C σ env m) m (upd H T (.tup [x, y])) (.ref T) (.tup [p, q]) := ⟨Same.upd n, R.newTup (.cons rx (.cons ry .nil)) n⟩
theorem itok_zip {C : Ctx} {v w : V} {sv sw : SV} {xs ys : List PV} {a b : Addr} (hp : (v, sv) ∈ C.pins) (hq : (w, sw) ∈ C.pins) (ev : v = .ref a) (ew : w = .ref b) (n1 : ∀ ys, sv ≠ .val (.tup ys)) (n2 : ∀ ys, sw ≠ .val (.tup ys)) :
    ItOk C (Itz C.K a b) (pairs xs ys) fun h => seqC h sv = some xs ∧ seqC h sw = some ys := by
  intro C2 m2 σ2 H2 env2 h2 eK lp R hc i
  obtain ⟨a', vs, e, hs, q⟩ := R.seqL (R.pinA (lp _ hp)) hc.1 n1
  obtain ⟨b', ws, f, ht, r⟩ := R.seqL (R.pinA (lp _ hq)) hc.2 n2
  rw [ev] at e
  rw [ew] at f
  cases e
  cases f
  rw [eK] at hs ht
  refine ⟨fun p g => ?_, fun l => ⟨vs, ws, hs, ht, ?_⟩⟩
  · obtain ⟨x, y, g1, g2, rfl⟩ := pairs_get g
    obtain ⟨x', ex, _⟩ := q.get g1
    obtain ⟨y', ey, _⟩ := r.get g2
    refine ⟨⟨vs, ws, x', y', hs, ht, ex, ey⟩, fun z H3 ⟨T, x1, y1, e1, nT, e2, f1, f2⟩ => ?_⟩
    subst e1 e2
    exact newPair R (q.here (f1 _ hs) g1) (r.here (f2 _ ht) g2) nT
  · unfold pairs at l
    rw [List.length_zipWith] at l
    rw [q.length, r.length]
    omega
theorem itok_zipT {C : Ctx} {v w : V} {xs ys : List PV} {a b : Addr} (hp : (v, SV.val (.tup xs)) ∈ C.pins) (hq : (w, SV.val (.tup ys)) ∈ C.pins) (ev : v = .ref a) (ew : w = .ref b) : ItOk C (RZ.ItzT C.K a b) (pairs xs ys) fun _ => True := by
  intro C2 m2 σ2 H2 env2 h2 eK lp R hc i
  have r1 := R.pinA (lp _ hp)
  have r2 := R.pinA (lp _ hq)
  subst ev ew
  cases r1 with
  | tup ha q => cases r2 with
    | tup hb r =>
      rename_i vs ws
      have hs := ha.sq
      have ht := hb.sq
      rw [eK] at hs ht
      refine ⟨fun p g => ?_, fun l => ⟨vs, ws, hs, ht, ?_⟩⟩
      · obtain ⟨x, y, g1, g2, rfl⟩ := pairs_get g
        obtain ⟨x', ex, _⟩ := q.get g1
        obtain ⟨y', ey, _⟩ := r.get g2
        refine ⟨⟨vs, ws, x', y', hs, ht, ex, ey⟩, fun z H3 ⟨T, x1, y1, e1, nT, e2, f1, f2⟩ => ?_⟩
        subst e1 e2
        exact newPair R (q.here (f1 _ hs) g1) (r.here (f2 _ ht) g2) nT
      · unfold pairs at l
        rw [List.length_zipWith] at l
        rw [q.length, r.length]
        omega
def zipQ (x y : SV) (h2 : Hs) (Q : List PV → (Hs → Prop) → Hs → Prop) : Prop := match x, y with
  | .val (.tup xs), .val (.tup ys) => Q (pairs xs ys) (fun _ => True) h2
  | x, y => x.isT = false ∧ y.isT = false ∧ ∃ xs ys, seqC h2 x = some xs ∧ seqC h2 y = some ys ∧ Q (pairs xs ys) (fun h => seqC h x = some xs ∧ seqC h y = some ys) h2
@[simp ↓] theorem zipQ_eq (x y : SV) (h2 : Hs) (Q : List PV → (Hs → Prop) → Hs → Prop) : zipQ x y h2 Q = (match x, y with
  | .val (.tup xs), .val (.tup ys) => Q (pairs xs ys) (fun _ => True) h2
  | x, y => x.isT = false ∧ y.isT = false ∧ ∃ xs ys, seqC h2 x = some xs ∧ seqC h2 y = some ys ∧ Q (pairs xs ys) (fun h => seqC h x = some xs ∧ seqC h y = some ys) h2) := id rfl
def dZip (a b : DE) : DI := fun env h Q E => a env h (fun x h1 => b env h1 (fun y h2 => zipQ x y h2 Q) E) E
@[simp ↓] theorem dZip_eq (a b : DE) (env : Env) (h : Hs) (Q : List PV → (Hs → Prop) → Hs → Prop) (E : XQ) : dZip a b env h Q E = (a env h (fun x h1 => b env h1 (fun y h2 => zipQ x y h2 Q) E) E) := id rfl
theorem notT {sv : SV} (e : sv.isT = false) : ∀ ys, sv ≠ .val (.tup ys) := fun ys z => by
  subst z
  cases e
theorem PostX.back {C C' : Ctx} {m : List Addr} {σ : St} {H : Hp} {env : Env} {E : XQ} (p : PostX W C m σ H env E) (l : CtxLe C C') : PostX W C' m σ H env E :=
  fun c m' H' h' S' R e => p c m' H' h' S' (R.back l) e
theorem si_zip {ta tb : TE} {fa fb : DE} (ha : SKp K W ta fa) (hb : SKp K W tb fb) : SI K W (RZ.iZipA K (tCons ta (tCons tb tNil))) (dZip fa fb) := ⟨fun C m σ H env h Q E Q' eK R hf p px => by
  refine ha.run C m σ H env h _ E _ eK R hf (fun C1 m1 x H1 sx h1 l1 S1 R1 hp q1 => ?_) px
  refine hb.run C1 m1 σ H1 env h1 _ E _ (l1.K.trans eK) R1 q1 (fun C2 m2 y H2 sy h2 l2 S2 R2 hq q2 => ?_) ((px.go S1).back l1)
  have l := l1.trans l2
  have hp2 := l2.pins _ hp
  have S := S1.trans S2
  have eK2 := l.K.trans eK
  subst eK2
  unfold zipQ at q2
  split at q2
  · have rx := R2.pinA hp2
    have ry := R2.pinA hq
    cases rx with
    | tup ha _ => cases ry with
      | tup hb _ => exact ⟨_, _, _, _, rfl, .inr ⟨ha.sq, hb.sq, p C2 m2 _ H2 _ _ h2 l S R2 (itok_zipT hp2 hq rfl rfl) q2⟩⟩
  · obtain ⟨n1, n2, xs, ys, e1, e2, q⟩ := q2
    obtain ⟨a, vs, ev, hs, _⟩ := R2.seqL (R2.pinA hp2) e1 (notT n1)
    obtain ⟨b, ws, ew, ht, _⟩ := R2.seqL (R2.pinA hq) e2 (notT n2)
    exact ⟨a, b, vs, ws, by rw [ev, ew], .inl ⟨hs, ht, p C2 m2 _ H2 _ _ h2 l S R2 (itok_zip hp2 hq ev ew (notT n1) (notT n2)) q⟩⟩⟩
/-- enumerate of a list -/
def enums : Nat → List PV → List PV
  | _, [] => []
  | k, x :: xs => .tup [.int (k : Nat), x] :: enums (k + 1) xs
theorem enums_get : ∀ {xs : List PV} {k i : Nat} {p : PV}, (enums k xs)[i]? = some p → ∃ x, xs[i]? = some x ∧ p = .tup [.int ((k + i : Nat) : Int), x]
  | [], _, _, _, e => by simp [enums] at e
  | x :: xs, k, 0, p, e => by
    cases e
    exact ⟨x, rfl, rfl⟩
  | x :: xs, k, i + 1, p, e => by
    obtain ⟨y, h1, h2⟩ := enums_get (xs := xs) (k := k + 1) (i := i) e
    exact ⟨y, h1, by rw [h2]; congr 4; omega⟩
theorem enums_len : ∀ (xs : List PV) (k : Nat), (enums k xs).length = xs.length
  | [], _ => rfl
  | x :: xs, k => by simp [enums, enums_len xs]
def dEnum (a : DE) : DI := fun env h Q E => a env h (fun x h1 => x.isT = false ∧ ∃ xs, seqC h1 x = some xs ∧ Q (enums 0 xs) (fun h => seqC h x = some xs) h1) E
@[simp ↓] theorem dEnum_eq (a : DE) (env : Env) (h : Hs) (Q : List PV → (Hs → Prop) → Hs → Prop) (E : XQ) : dEnum a env h Q E = (a env h (fun x h1 => x.isT = false ∧ ∃ xs, seqC h1 x = some xs ∧ Q (enums 0 xs) (fun h => seqC h x = some xs) h1) E) := id rfl
theorem itok_enum {C : Ctx} {v : V} {sv : SV} {xs : List PV} {a : Addr} (hp : (v, sv) ∈ C.pins) (ev : v = .ref a) (nt : ∀ ys, sv ≠ .val (.tup ys)) : ItOk C (Ite C.K a) (enums 0 xs) fun h => seqC h sv = some xs := by
  intro C2 m2 σ2 H2 env2 h2 eK lp R hc i
  obtain ⟨b, vs, e, hs, q⟩ := R.seqL (R.pinA (lp _ hp)) hc nt
  rw [ev] at e
  cases e
  rw [eK] at hs
  refine ⟨fun p f => ?_, fun l => ⟨vs, hs, by rw [enums_len] at l; rw [q.length]; exact l⟩⟩
  obtain ⟨x, g, rfl⟩ := enums_get f
  obtain ⟨x', ex, _⟩ := q.get g
  refine ⟨⟨vs, x', hs, ex⟩, fun y H3 ⟨T, x1, e1, nT, e2, f1⟩ => ?_⟩
  subst e1 e2
  rw [Nat.zero_add]
  exact newPair R (.int _) (q.here (f1 _ hs) g) nT
theorem si_enum {ta : TE} {fa : DE} (ha : SKp K W ta fa) : SI K W (iEnum K (tCons ta tNil)) (dEnum fa) := ⟨fun C m σ H env h Q E Q' eK R hf p px => by
  refine ha.run C m σ H env h _ E _ eK R hf (fun C1 m1 x H1 sx h1 l1 S1 R1 hp q1 => ?_) px
  have eK1 := l1.K.trans eK
  subst eK1
  obtain ⟨nt, xs, e, q⟩ := q1
  obtain ⟨a, vs, ev, hs, _⟩ := R1.seqL (R1.pinA hp) e (notT nt)
  exact ⟨a, vs, by rw [ev], hs, p C1 m1 _ H1 _ _ h1 l1 S1 R1 (itok_enum hp ev (notT nt)) q⟩⟩
end
end PM

namespace PM
open PySem PySem.Spec L2
open PyProof.Rows hiding St

/-! ### targets -/
abbrev DB := PV → Env → (Env → Prop) → Prop
/-- vs: the slots that it stores -/
structure SG (K : PySem.W.Frag) (vs : List Nat) (g : TG) (f : DB) : Prop where
  run : ∀ (C : Ctx) (m : List Addr) (σ : St) (H : Hp) (env : Env) (h : Hs) (x : V) (p : PV) (q : Env → Prop) (Q : St → Hp → Prop), C.K = K → Rel C m σ H env h → Rep C.K (ExOf C σ env m) m H x p → f p env q →
    (∀ σ' env', Rel C m σ' H env' h → σ'.length = σ.length → (∀ k, k ∉ vs → σ'[k]? = σ[k]? ∧ env'[k]? = env[k]?) → q env' → Q σ' H) → g x σ H Q
def bName (i : Nat) : DB := fun p env q => q (env.set i (some (.val p)))
@[simp ↓] theorem bName_eq (i : Nat) (p : PV) (env : Env) (q : Env → Prop) : bName i p env q = (q (env.set i (some (.val p)))) := id rfl
/-- a, b = .. of two names -/
def bTup2 (i j : Nat) : DB := fun p env q => match p with
  | .tup [x, y] => q ((env.set i (some (.val x))).set j (some (.val y)))
  | _ => False
@[simp ↓] theorem bTup2_eq (i j : Nat) (p : PV) (env : Env) (q : Env → Prop) : bTup2 i j p env q = (match p with
  | .tup [x, y] => q ((env.set i (some (.val x))).set j (some (.val y)))
  | _ => False) := id rfl
def bTup3 (i j k : Nat) : DB := fun p env q => match p with
  | .tup [x, y, z] => q (((env.set i (some (.val x))).set j (some (.val y))).set k (some (.val z)))
  | _ => False
@[simp ↓] theorem bTup3_eq (i j k : Nat) (p : PV) (env : Env) (q : Env → Prop) : bTup3 i j k p env q = (match p with
  | .tup [x, y, z] => q (((env.set i (some (.val x))).set j (some (.val y))).set k (some (.val z)))
  | _ => False) := id rfl
theorem ex_val {C : Ctx} {m : List Addr} {σ : St} {env : Env} {i : Nat} {v : V} {p : PV} : ∀ b, ExOf C (σ.set i (some v)) (env.set i (some (.val p))) m b → ExOf C σ env m b := fun b q => by
  rcases q with q | q | q
  · exact .inl q
  · rcases own_set q with z | ⟨z, _⟩
    · exact .inr (.inl z)
    · cases z
  · exact .inr (.inr q)
section
variable {K : PySem.W.Frag}
theorem sg_name (i : Nat) : SG K [i] (gName i) (bName i) := ⟨fun C m σ H env h x p q Q eK R r hf k =>
  k _ _ (R.setVal r) (by rw [List.length_set]) (fun j hj => ⟨List.getElem?_set_ne (fun e => hj (by simp [e])), List.getElem?_set_ne (fun e => hj (by simp [e]))⟩) hf⟩
theorem sg_tup2 (i j : Nat) : SG K [i, j] (gTup K 2 (gCons (gName i) (gCons (gName j) gNil))) (bTup2 i j) := ⟨fun C m σ H env h x p q Q eK R r hf k => by
  subst eK
  unfold bTup2 at hf
  split at hf
  · cases r with
    | tup ha rl =>
      cases rl with
      | cons r1 rl => cases rl with
        | cons r2 rl =>
          cases rl
          refine ⟨_, _, rfl, ha.sq, rfl, _, _, rfl, _, _, rfl, rfl, ?_⟩
          have R1 := R.setVal (i := i) r1
          have R2 := R1.setVal (i := j) (Rep.mono (Kp.le ex_val) ⟨[], by simp⟩ r2)
          refine k _ _ R2 (by rw [List.length_set, List.length_set]) (fun l hl => ?_) hf
          have n1 : i ≠ l := fun e => hl (by simp [e])
          have n2 : j ≠ l := fun e => hl (by simp [e])
          rw [List.getElem?_set_ne n2, List.getElem?_set_ne n1, List.getElem?_set_ne n2, List.getElem?_set_ne n1]
          exact ⟨rfl, rfl⟩
  · exact hf.elim⟩
theorem sg_tup3 (i j l : Nat) : SG K [i, j, l] (gTup K 3 (gCons (gName i) (gCons (gName j) (gCons (gName l) gNil)))) (bTup3 i j l) := ⟨fun C m σ H env h x p q Q eK R r hf k => by
  subst eK
  unfold bTup3 at hf
  split at hf
  · cases r with
    | tup ha rl =>
      cases rl with
      | cons r1 rl => cases rl with
        | cons r2 rl => cases rl with
          | cons r3 rl =>
            cases rl
            refine ⟨_, _, rfl, ha.sq, rfl, _, _, rfl, _, _, rfl, _, _, rfl, rfl, ?_⟩
            have R1 := R.setVal (i := i) r1
            have R2 := R1.setVal (i := j) (Rep.mono (Kp.le ex_val) ⟨[], by simp⟩ r2)
            have R3 := R2.setVal (i := l) (Rep.mono (Kp.le fun b q => ex_val b (ex_val b q)) ⟨[], by simp⟩ r3)
            refine k _ _ R3 (by rw [List.length_set, List.length_set, List.length_set]) (fun z hz => ?_) hf
            have n1 : i ≠ z := fun e => hz (by simp [e])
            have n2 : j ≠ z := fun e => hz (by simp [e])
            have n3 : l ≠ z := fun e => hz (by simp [e])
            rw [List.getElem?_set_ne n3, List.getElem?_set_ne n2, List.getElem?_set_ne n1, List.getElem?_set_ne n3, List.getElem?_set_ne n2, List.getElem?_set_ne n1]
            exact ⟨rfl, rfl⟩
  · exact hf.elim⟩
end

/-! ### comprehensions -/
@[simp] def wipeE (env : Env) : List Nat → Env
  | [] => env
  | v :: vs => (wipeE env vs).set v none
theorem Rel.wipe {C : Ctx} {m : List Addr} {σ : St} {H : Hp} {env : Env} {h : Hs} (R : Rel C m σ H env h) : ∀ vs : List Nat, Rel C m (L2.wipe σ vs) H (wipeE env vs) h
  | [] => R
  | v :: vs => (R.wipe vs).clear
theorem wipe_get (σ : St) (k : Nat) : ∀ vs : List Nat, (wipe σ vs)[k]? = if k ∈ vs ∧ k < σ.length then some none else σ[k]?
  | [] => by simp [wipe]
  | v :: vs => by
    unfold wipe
    rw [List.getElem?_set, wipe_length]
    by_cases e : v = k
    · subst e
      by_cases l : v < σ.length
      · simp [l]
      · rw [if_pos rfl, if_neg l]
        simp [l]
    · rw [if_neg e, wipe_get σ k vs]
      have : (k ∈ v :: vs ∧ k < σ.length) ↔ (k ∈ vs ∧ k < σ.length) := by
        simp only [List.mem_cons]
        constructor
        · rintro ⟨z | z, l⟩
          · exact absurd z.symm e
          · exact ⟨z, l⟩
        · rintro ⟨z, l⟩
          exact ⟨.inr z, l⟩
      simp only [this]
theorem wipe_of {σ σ2 : St} {vs : List Nat} (l : σ2.length = σ.length) (k : ∀ j, j ∉ vs → σ2[j]? = σ[j]?) : wipe σ2 vs = wipe σ vs := by
  apply List.ext_getElem?
  intro j
  rw [wipe_get, wipe_get, l]
  by_cases e : j ∈ vs
  · by_cases z : j < σ.length
    · simp [e, z]
    · simp only [z, and_false, if_false]
      rw [List.getElem?_eq_none (by omega), List.getElem?_eq_none (by omega)]
  · simp only [e, false_and, if_false]
    exact k j e
theorem wipe_wipe (σ : St) (vs : List Nat) : wipe (wipe σ vs) vs = wipe σ vs := wipe_of (wipe_length σ vs) fun j hj => by
  rw [wipe_get]
  simp [hj]
/-- the turns of a comprehension: env is the block's names ahead of each turn -/
def compL (chk : Hs → Prop) (bd : DB) (tt : DT) (te : DE) (env : Env) : List PV → List PV → Hs → (List PV → Hs → Prop) → Prop
  | [], acc, h, Q => chk h ∧ Q acc h
  | x :: xs, acc, h, Q => chk h ∧ bd x env fun env1 => tt env1 h (fun b h1 => if b = true then te env1 h1 (fun y h2 => match y.toVal with
      | some p => acc.length < sizeLine ∧ compL chk bd tt te env xs (acc ++ [p]) h2 Q
      | none => False) (fun _ _ => False) else compL chk bd tt te env xs acc h1 Q) (fun _ _ => False)
@[simp ↓] theorem compL_nil (chk : Hs → Prop) (bd : DB) (tt : DT) (te : DE) (env : Env) (acc : List PV) (h : Hs) (Q : List PV → Hs → Prop) : compL chk bd tt te env [] acc h Q = (chk h ∧ Q acc h) := id rfl
@[simp ↓] theorem compL_cons (chk : Hs → Prop) (bd : DB) (tt : DT) (te : DE) (env : Env) (x : PV) (xs : List PV) (acc : List PV) (h : Hs) (Q : List PV → Hs → Prop) : compL chk bd tt te env (x :: xs) acc h Q = (chk h ∧ bd x env fun env1 => tt env1 h (fun b h1 => if b = true then te env1 h1 (fun y h2 => match y.toVal with
      | some p => acc.length < sizeLine ∧ compL chk bd tt te env xs (acc ++ [p]) h2 Q
      | none => False) (fun _ _ => False) else compL chk bd tt te env xs acc h1 Q) (fun _ _ => False)) := id rfl
def dYes : DT := fun _ h Q _ => Q true h
@[simp ↓] theorem dYes_eq  (u0 : Env) (h : Hs) (Q : Bool → Hs → Prop) (u1 : XQ) : dYes  u0 h Q u1 = (Q true h) := id rfl
/-- none of the slots holds a list of one's own -/
@[simp] def notOwn (env : Env) (vs : List Nat) : Bool := vs.all fun v => match env[v]? with
  | some (some (.own _)) => false
  | _ => true
def dLc (src : DI) (vs : List Nat) (bd : DB) (tt : DT) (te : DE) : DE := fun env h Q E => notOwn env vs = true ∧ src env h (fun xs chk h1 => compL chk bd tt te (wipeE env vs) xs [] h1 fun acc h2 => Q (.own acc) h2) E
@[simp ↓] theorem dLc_eq (src : DI) (vs : List Nat) (bd : DB) (tt : DT) (te : DE) (env : Env) (h : Hs) (Q : VQ) (E : XQ) : dLc src vs bd tt te env h Q E = (notOwn env vs = true ∧ src env h (fun xs chk h1 => compL chk bd tt te (wipeE env vs) xs [] h1 fun acc h2 => Q (.own acc) h2) E) := id rfl
theorem wipeE_get {env : Env} {k : Nat} : ∀ {vs : List Nat}, k ∉ vs → (wipeE env vs)[k]? = env[k]?
  | [], _ => rfl
  | v :: vs, h => by
    unfold wipeE
    rw [List.getElem?_set_ne (fun e => h (by simp [e])), wipeE_get fun z => h (List.mem_cons_of_mem _ z)]
theorem own_wipe {σ : St} {env : Env} {b : Addr} : ∀ {vs : List Nat}, OwnAt (wipe σ vs) (wipeE env vs) b → OwnAt σ env b
  | [], q => q
  | _ :: vs, q => own_wipe (vs := vs) (own_clear q)
theorem CtxLe.own {C C1 : Ctx} (l : CtxLe C C1) (v : V) (sv sw : SV) (e : sv.isOwn = sw.isOwn) : CtxLe (C.own v sv) (C1.own v sw) := by
  cases sv <;> cases sw <;> first | cases e | skip
  all_goals first | exact l | skip
  refine ⟨l.K, l.H0, l.m0, fun b q => ?_, fun b q => q.imp (l.t b) id, l.pins⟩
  rcases q with q | q | q
  · exact (l.gt b (.inl q)).elim .inl fun z => .inr (.inl z)
  · exact (l.gt b (.inr q)).elim .inl fun z => .inr (.inl z)
  · exact .inr (.inr q)
/-- a temporary list is changed -/
theorem Rel.mutTemp {C : Ctx} {m : List Addr} {σ : St} {H : Hp} {env : Env} {h : Hs} {D : Addr} {xs : List PV} {o : HO} (R : Rel (C.own (.ref D) (.own xs)) m σ H env h) (h0 : C.H0 D = none) (nm : D ∉ m) : Rel (C.own (.ref D) (.own xs)) m σ (upd H D o) env h := by
  have k : Kp (ExOf (C.own (.ref D) (.own xs)) σ env m) H (ExOf (C.own (.ref D) (.own xs)) σ env m) (upd H D o) := fun b u e n => by
    have nb : b ≠ D := fun z => n (by rw [z]; exact .inl (.inr (.inr rfl)))
    exact ⟨by rw [upd_ne nb]; exact e, n⟩
  have dm : ∀ b, H b ≠ none → upd H D o b ≠ none := fun b q => by
    by_cases z : b = D
    · rw [z, upd_same]
      simp
    · rw [upd_ne z]
      exact q
  have slots : ∀ w sw, (sw.isOwn = true → w ≠ .ref D) → SlotR (C.own (.ref D) (.own xs)) σ env m H w sw → SlotR (C.own (.ref D) (.own xs)) σ env m (upd H D o) w sw := fun w sw no ⟨r1, b1⟩ => by
    refine ⟨?_, b1⟩
    cases sw with
    | val p => exact Rep.mono k ⟨[], by simp⟩ r1
    | own zs =>
      obtain ⟨c, ws, rfl, hc, hn, cm, q⟩ := r1
      have nc : c ≠ D := fun z => no rfl (by rw [z])
      refine ⟨c, ws, rfl, by rw [upd_ne nc]; exact hc, hn, cm, RepL.mono (fun b u e n => ?_) ⟨[], by simp⟩ q⟩
      obtain ⟨k1, k2⟩ := k b u e fun z => n (.inl z)
      exact ⟨k1, fun z => z.elim k2 fun z => n (.inr z)⟩
    | brw zs =>
      obtain ⟨c, ws, rfl, hc, q⟩ := r1
      have nc : c ≠ D := fun z => (b1 c rfl).2 (.inr (by rw [z]))
      refine ⟨c, ws, rfl, ⟨?_, hc.2⟩, RepL.mono k ⟨[], by simp⟩ q⟩
      unfold Rd
      rw [upd_ne nc]
      exact hc.1
    | exc _ _ => first | (cases e; done) | (cases nb; done) | exact r | exact r1 | exact ⟨r, trivial⟩ | exact ⟨r1, trivial⟩ | exact ⟨rv, trivial⟩ | trivial
    | scr ns =>
      obtain ⟨c, rfl, hc⟩ := r1
      refine ⟨c, rfl, ?_⟩
      rcases b1 c rfl with z | z
      · exact .inr z
      · rcases hc with hc | hc
        · have nc : c ≠ D := fun e => z.2 (.inr (by rw [e]))
          refine .inl ⟨?_, hc.2⟩
          unfold Rd
          rw [upd_ne nc]
          exact hc.1
        · exact .inr hc
  refine ⟨R.len, fun j sw e => ?_, fun p hp => ⟨slots _ _ (fun q => by rw [(R.pin p hp).2] at q; cases q) (R.pin p hp).1, (R.pin p hp).2⟩, R.uniq, ⟨R.hm.len, R.hm.nd, fun n b c e f => (R.hm.at_ n b c e f).mono k ⟨[], by simp⟩ (upd_ne fun z => nm (by rw [← z]; exact List.mem_of_getElem? e))⟩, fun b u e n => ?_, fun b q => dm b (R.dom b q), R.pre, fun b q => dm b (R.gdom b q), R.gown⟩
  · obtain ⟨w, s, r1⟩ := R.slot j sw e
    refine ⟨w, s, slots w sw (fun q z => ?_) r1⟩
    cases sw with
    | own zs => exact R.gown D (.inr (.inr rfl)) ⟨j, zs, e, by rw [← z]; exact s⟩
    | _ => cases q
  · have z := R.keep b u e n
    have nb : b ≠ D := fun w => by
      rw [w] at e
      have e' : C.H0 D = some u := e
      rw [h0] at e'
      cases e'
    rw [upd_ne nb]
    exact z
section
variable {K : PySem.W.Frag} {W : WX}
theorem st_yes : ST K W tYes dYes := ⟨fun C m σ H env h Q E Q' eK R hf p _ => p m true H h (.refl m H) R hf⟩
theorem se_lc {wi : TI} {g : TG} {tt : TT} {te : TE} {vs : List Nat} {src : DI} {bd : DB} {ft : DT} {fe : DE} (hs : SI K W wi src) (hg : SG K vs g bd) (ht : ST K (fun _ _ _ _ => False) tt ft) (he : SE K (fun _ _ _ _ => False) te fe) :
    SE K W (tLc wi g tt te vs) (dLc src vs bd ft fe) := ⟨fun C m σ H env h Q E Q' eK R hf p px => by
  obtain ⟨hno, hf⟩ := hf
  refine hs.run C m σ H env h _ E _ eK R hf (fun C1 m1 J H1 xs chk h1 le S1 R1 ok q1 => ?_) px
  have eK1 : C1.K = K := le.K.trans eK
  intro D hD
  have h0D : C1.H0 D = none := by
    cases e : C1.H0 D with
    | none => rfl
    | some o => exact absurd hD (R1.dom D (by rw [e]; simp))
  have n0 : (C1.own (.ref D) (.own [])).K = K := (C1.own_K _ _).trans eK1
  have lep : ∀ p ∈ C1.pins, p ∈ (C1.own (.ref D) (.own [])).pins := fun p hp => by rw [C1.own_pins]; exact hp
  -- the state of the loop
  let Inv (i : Nat) (H2 : Hp) : Prop := i ≤ xs.length ∧ ∃ (m2 : List Addr) (h2 : Hs) (acc : List PV) (av : List V), StE m1 H1 m2 H2 ∧ Rel (C1.own (.ref D) (.own [])) m2 σ H2 env h2 ∧ H2 D = some (.lst av) ∧ D ∉ m2 ∧
    RepL C1.K (fun b => ExOf C1 σ env m2 b ∨ b = D) m2 H2 av acc ∧ compL chk bd ft fe (wipeE env vs) (xs.drop i) acc h2 fun acc h2 => Q (.own acc) h2
  refine ⟨fun i n H2 => n = xs.length - i ∧ Inv i H2, ?_, ?_⟩
  · exact ⟨_, rfl, Nat.zero_le _, m1, h1, [], [], .new hD, R1.fresh hD [], upd_same, fun z => R1.mDom z hD, .nil, q1⟩
  · rintro i n H2 ⟨rfl, hi, m2, h2, acc, av, S2, R2, hDa, nD, ra, q2⟩
    by_cases hlt : i < xs.length
    · right
      have ex : xs[i]? = some xs[i] := List.getElem?_eq_getElem hlt
      rw [List.drop_eq_getElem_cons hlt] at q2
      unfold compL at q2
      obtain ⟨hc, q2⟩ := q2
      obtain ⟨go, yld⟩ := (ok _ m2 σ H2 env h2 (C1.own_K _ _) lep R2 hc i).1 _ ex
      refine ⟨go, Inv (i + 1), fun H' hN => ⟨_, by omega, rfl, hN⟩, fun x H3 hy => ?_⟩
      obtain ⟨sm, rx⟩ := yld x H3 hy
      have R3 : Rel (C1.own (.ref D) (.own [])) m2 σ H3 env h2 := R2.grow sm
      have Rw := R3.wipe vs
      have exw : ∀ b, ExOf (C1.own (.ref D) (.own [])) (wipe σ vs) (wipeE env vs) m2 b → ExOf (C1.own (.ref D) (.own [])) σ env m2 b := fun b q => by
        rcases q with q | q | q
        · exact .inl q
        · exact .inr (.inl (own_wipe q))
        · exact .inr (.inr q)
      refine hg.run _ m2 _ H3 _ h2 x _ _ _ n0 Rw (Rep.mono (Kp.le exw) ⟨[], by simp⟩ rx) q2 fun σ' env' R4 l4 k4 q4 => ?_
      refine ⟨(wipe_of (by rw [l4]) fun j hj => (k4 j hj).1).trans (wipe_wipe σ vs), ?_⟩
      -- the outer lists of one's own are there within the turn, too
      have own' : ∀ b, OwnAt σ env b → OwnAt σ' env' b := fun b ⟨j, ys, e, s⟩ => by
        have nj : j ∉ vs := fun z => by
          have w := List.all_eq_true.mp hno j z
          rw [e] at w
          cases w
        refine ⟨j, ys, ?_, ?_⟩
        · rw [(k4 j nj).2, wipeE_get nj]
          exact e
        · rw [(k4 j nj).1, wipe_get]
          simp only [nj, false_and, if_false]
          exact s
      have exo : ∀ {m5 : List Addr} (b : Addr), ExOf (C1.own (.ref D) (.own [])) σ env m5 b → ExOf (C1.own (.ref D) (.own [])) σ' env' m5 b := fun {m5} b w => by
        rcases w with w | w | w
        · exact .inl w
        · exact .inr (.inl (own' b w))
        · exact .inr (.inr w)
      have outer : ∀ {m5 : List Addr} {H5 : Hp} {h5 : Hs}, StE m2 H3 m5 H5 → Rel (C1.own (.ref D) (.own [])) m5 σ' H5 env' h5 → Rel (C1.own (.ref D) (.own [])) m5 σ H5 env h5 := fun {m5 H5 h5} S R5 =>
        R3.step S ⟨R5.hm.len, R5.hm.nd, fun n a c e f => (R5.hm.at_ n a c e f).mono (Kp.le exo) ⟨[], by simp⟩ rfl⟩
      have base : StE m1 H1 m2 H3 := S2.trans (.same sm)
      have hD3 : H3 D = some (.lst av) := sm _ _ hDa
      have ra3 : RepL C1.K (fun b => ExOf C1 σ env m2 b ∨ b = D) m2 H3 av acc := RepL.mono (fun b u e n => ⟨sm _ _ e, n⟩) ⟨[], by simp⟩ ra
      have raS : ∀ {m5 : List Addr} {H5 : Hp}, StE m2 H3 m5 H5 → RepL C1.K (fun b => ExOf C1 σ env m5 b ∨ b = D) m5 H5 av acc := fun {m5 H5} S => RepL.mono (S.kp (fun b q => .inl (.inr (.inr q))) fun b q => by
        rcases q with q | q
        · exact q.step.imp .inl id
        · exact .inl (.inr q)) S.ex' ra3
      have nopx : ∀ {m5 : List Addr} {H5 : Hp}, PostX (fun _ _ _ _ => False) (C1.own (.ref D) (.own [])) m5 σ' H5 env' (fun _ _ => False) := fun c m' H' h' _ _ z => z
      refine ht.run _ m2 σ' H3 env' h2 _ _ _ n0 R4 q4 (fun m5 b H5 h5 S5 R5 q5 => ?_) nopx
      cases b with
      | false =>
        refine iteF ⟨hlt, m5, h5, acc, av, base.trans S5, outer S5 R5, S5.keep _ _ hD3 nD, S5.notin (by rw [hD3]; simp) nD, raS S5, ?_⟩
        simpa using q5
      | true =>
        refine iteT (he.run _ m5 σ' H5 env' h5 _ _ _ n0 R5 (by simpa using q5) (fun m6 y H6 sy h6 S6 R6 r6 q6 => ?_) nopx)
        split at q6
        · rename_i pv ep
          obtain ⟨lz, q6⟩ := q6
          have S := S5.trans S6
          have hD6 : H6 D = some (.lst av) := S.keep _ _ hD3 nD
          have nD6 : D ∉ m6 := S.notin (by rw [hD3]; simp) nD
          have ry := R5.toVal r6 ep
          rw [C1.own_K] at ry
          have ro := outer S R6.drop
          have ra6 := raS S
          have lz' : av.length < sizeLine := by
            rw [ra6.length]
            exact lz
          refine ⟨av, hD6, lz', hlt, m6, h6, acc ++ [pv], av ++ [y], ?_, ro.mutTemp h0D nD6, upd_same, nD6, ?_, q6⟩
          · have B := base.trans S
            exact ⟨fun b o e n => by rw [upd_ne (ne_of_none e hD)]; exact B.keep b o e n, fun b q => by
              by_cases z : b = D
              · rw [z, upd_same]
                simp
              · rw [upd_ne z]
                exact B.dom b q, B.ext⟩
          · have ru : RepL C1.K (fun b => ExOf C1 σ env m6 b ∨ b = D) m6 H6 (av ++ [y]) (acc ++ [pv]) := ra6.append (.cons (Rep.mono (Kp.le fun b q => ?_) ⟨[], by simp⟩ ry) .nil)
            · exact RepL.mono (fun b u e n => ⟨by rw [upd_ne (fun z => n (.inr z))]; exact e, n⟩) ⟨[], by simp⟩ ru
            · rcases q with q | q
              · exact exo b (q.le fun _ => C1.own_GT _ _)
              · rw [q]
                exact .inl (.inr (.inr rfl))
        · exact q6.elim
    · left
      have ei : i = xs.length := by omega
      rw [List.drop_eq_nil_of_le (by omega)] at q2
      obtain ⟨hc, q2⟩ := q2
      refine ⟨(ok _ m2 σ H2 env h2 (C1.own_K _ _) lep R2 hc i).2 (by omega), ?_⟩
      have S := S1.trans S2
      have lo := le.own (.ref D) (.own acc) (.own []) rfl
      refine p m2 (.ref D) H2 (.own acc) h2 S (R2.back lo) ⟨D, av, rfl, hDa, stnew S1 hD, nD, ?_⟩ q2
      rw [← le.K]
      exact RepL.mono (Kp.le fun b q => q.imp (fun q => q.le le.gt) id) ⟨[], by simp⟩ ra⟩
end
end PM

namespace PM
open PySem PySem.Spec L2
open PyProof.Rows hiding St

/-! ### statements -/
structure EndsOk (W : WX) (C : Ctx) (Df : DEnds) (D : Ends) : Prop where
  nx : ∀ m σ H env h, Rel C m σ H env h → Df.nx env h → D.nx σ H
  bk : ∀ m σ H env h, Rel C m σ H env h → Df.bk env h → D.bk σ H
  ct : ∀ m σ H env h, Rel C m σ H env h → Df.ct env h → D.ct σ H
  rt : ∀ m σ H env h v sv, Rel (C.own v sv) m σ H env h → RepS C (ExOf C σ env m) m (fun a => C.H0 a = none) H v sv → (sv.isOwn = true → ∀ a, v = .ref a → ¬ C.GT a) → Df.rt sv h → D.rt v H
  ex : ∀ c m σ H env h, Rel C m σ H env h → Df.ex c env h → W (.ref c) none σ H
structure SS (K : PySem.W.Frag) (W : WX) (t : TS) (f : DS) : Prop where
  run : ∀ (C : Ctx) (m : List Addr) (σ : St) (H : Hp) (env : Env) (h : Hs) (Df : DEnds) (D : Ends), C.K = K → Rel C m σ H env h → f Df env h → EndsOk W C Df D → t D σ H
section
variable {K : PySem.W.Frag} {W : WX} {C : Ctx} {Df : DEnds} {D : Ends}
theorem EndsOk.px (p : EndsOk W C Df D) {m : List Addr} {σ : St} {H : Hp} {env : Env} : PostX W C m σ H env fun c h => Df.ex c env h := fun c m' H' h' _ R e => p.ex c m' σ H' env h' R e
theorem EndsOk.next (p : EndsOk W C Df D) {nx : Env → Hs → Prop} {nx' : St → Hp → Prop} (q : ∀ m σ H env h, Rel C m σ H env h → nx env h → nx' σ H) : EndsOk W C { Df with nx := nx } { D with nx := nx' } := ⟨q, p.bk, p.ct, p.rt, p.ex⟩
def sNil : DS := fun D env h => D.nx env h
@[simp ↓] theorem sNil_eq  (D : DEnds) (env : Env) (h : Hs) : sNil  D env h = (D.nx env h) := id rfl
def sSeq (s t : DS) : DS := fun D env h => s { D with nx := fun env1 h1 => t D env1 h1 } env h
@[simp ↓] theorem sSeq_eq (s t : DS) (D : DEnds) (env : Env) (h : Hs) : sSeq s t D env h = (s { D with nx := fun env1 h1 => t D env1 h1 } env h) := id rfl
theorem ss_nil : SS K W tNext sNil := ⟨fun C m σ H env h Df D eK R hf p => p.nx m σ H env h R hf⟩
theorem ss_seq {t u : TS} {f g : DS} (h1 : SS K W t f) (h2 : SS K W u g) : SS K W (tSeq t u) (sSeq f g) := ⟨fun C m σ H env h Df D eK R hf p =>
  h1.run C m σ H env h _ _ eK R hf (p.next fun m σ H env h R q => h2.run C m σ H env h Df D eK R q p)⟩
/-- a list of one's own is locked ahead of a statement -/
theorem ss_frz {t : TS} {f : DS} (i : Nat) (hs : SS K W t f) : SS K W t (fun D env h => f D (frzE i env) h) := ⟨fun C m σ H env h Df D eK R hf p => hs.run C m σ H _ h Df D eK R.frz hf p⟩
def sFrz (i : Nat) (f : DS) : DS := fun D env h => f D (frzE i env) h
@[simp ↓] theorem sFrz_eq (i : Nat) (f : DS) (D : DEnds) (env : Env) (h : Hs) : sFrz i f D env h = (f D (frzE i env) h) := id rfl
theorem Rel.newOk {m1 : List Addr} {H1 : Hp} {m : List Addr} {σ : St} {H : Hp} {env : Env} {h : Hs} (R : Rel C m σ H env h) {v : V} {sv : SV} (r : RepS C (ExOf C σ env m1) m1 (fun a => H a = none) H1 v sv) :
    RepS C (ExOf C σ env m1) m1 (fun a => C.H0 a = none) H1 v sv ∧ (sv.isOwn = true → ∀ a, v = .ref a → ¬ C.GT a) := by
  have n0 : ∀ a, H a = none → C.H0 a = none := fun a n => by
    cases e : C.H0 a with
    | none => rfl
    | some o => exact absurd n (R.dom a (by rw [e]; simp))
  refine ⟨r.less rfl (fun _ q => q) n0, fun o a e g => ?_⟩
  cases sv with
  | own xs =>
    obtain ⟨b, vs, rfl, _, n, _⟩ := r
    cases e
    exact R.gdom _ g n
  | _ => cases o
/-- x = e -/
def sAsg (i : Nat) (e : DE) : DS := fun D env h => e env h (fun x h1 => x.isB = false ∧ D.nx (env.set i (some x)) h1) fun c h1 => D.ex c env h1
@[simp ↓] theorem sAsg_eq (i : Nat) (e : DE) (D : DEnds) (env : Env) (h : Hs) : sAsg i e D env h = (e env h (fun x h1 => x.isB = false ∧ D.nx (env.set i (some x)) h1) fun c h1 => D.ex c env h1) := id rfl
theorem ss_asg {te : TE} {fe : DE} (i : Nat) (he : SE K W te fe) : SS K W (tAsg te (gName i)) (sAsg i fe) := ⟨fun C m σ H env h Df D eK R hf p => by
  refine he.run C m σ H env h _ _ _ eK R hf (fun m1 x H1 sx h1 S1 R1 r1 ⟨nb, q1⟩ => ?_) p.px
  obtain ⟨r2, ng⟩ := R.newOk r1
  exact p.nx m1 _ H1 _ h1 (R1.setSlot r2 nb fun a o e => ng o a e) q1⟩
/-- a target that takes a value apart; a value that is stored elsewhere -/
def sBind (bd : DB) (e : DE) : DS := fun D env h => e env h (fun x h1 => match x.toVal with
  | some p => bd p env fun env1 => D.nx env1 h1
  | none => False) fun c h1 => D.ex c env h1
@[simp ↓] theorem sBind_eq (bd : DB) (e : DE) (D : DEnds) (env : Env) (h : Hs) : sBind bd e D env h = (e env h (fun x h1 => match x.toVal with
  | some p => bd p env fun env1 => D.nx env1 h1
  | none => False) fun c h1 => D.ex c env h1) := id rfl
theorem ss_bind {te : TE} {fe : DE} {g : TG} {vs : List Nat} {bd : DB} (hg : SG K vs g bd) (he : SE K W te fe) : SS K W (tAsg te g) (sBind bd fe) := ⟨fun C m σ H env h Df D eK R hf p => by
  refine he.run C m σ H env h _ _ _ eK R hf (fun m1 x H1 sx h1 S1 R1 r1 q1 => ?_) p.px
  split at q1
  · rename_i pv ep
    exact hg.run C m1 σ H1 env h1 x pv _ _ eK R1.drop (R.toVal r1 ep) q1 fun σ' env' R' _ _ q => p.nx m1 σ' H1 env' h1 R' q
  · exact q1.elim⟩
def sExpr (e : DE) : DS := fun D env h => e env h (fun _ h1 => D.nx env h1) fun c h1 => D.ex c env h1
@[simp ↓] theorem sExpr_eq (e : DE) (D : DEnds) (env : Env) (h : Hs) : sExpr e D env h = (e env h (fun _ h1 => D.nx env h1) fun c h1 => D.ex c env h1) := id rfl
theorem ss_expr {te : TE} {fe : DE} (he : SE K W te fe) : SS K W (tDrop te) (sExpr fe) := ⟨fun C m σ H env h Df D eK R hf p =>
  he.run C m σ H env h _ _ _ eK R hf (fun m1 x H1 sx h1 S1 R1 r1 q1 => p.nx m1 σ H1 env h1 R1.drop q1) p.px⟩
def sRet (e : DE) : DS := fun D env h => e env h D.rt fun c h1 => D.ex c env h1
@[simp ↓] theorem sRet_eq (e : DE) (D : DEnds) (env : Env) (h : Hs) : sRet e D env h = (e env h D.rt fun c h1 => D.ex c env h1) := id rfl
theorem ss_ret {te : TE} {fe : DE} (he : SE K W te fe) : SS K W (tRet te) (sRet fe) := ⟨fun C m σ H env h Df D eK R hf p => by
  refine he.run C m σ H env h _ _ _ eK R hf (fun m1 x H1 sx h1 S1 R1 r1 q1 => ?_) p.px
  obtain ⟨r2, ng⟩ := R.newOk r1
  exact p.rt m1 σ H1 env h1 x sx R1 r2 ng q1⟩
def sRetN : DS := fun D _ h => D.rt (.val .non) h
@[simp ↓] theorem sRetN_eq  (D : DEnds) (u0 : Env) (h : Hs) : sRetN  D u0 h = (D.rt (.val .non) h) := id rfl
theorem ss_retN : SS K W tRetN sRetN := ⟨fun C m σ H env h Df D eK R hf p => p.rt m σ H env h .non (.val .non) R .non (fun o => nomatch o) hf⟩
/-- a name's list is handed on -/
theorem Rel.take {m : List Addr} {σ : St} {H : Hp} {env : Env} {h : Hs} {i : Nat} {xs : List PV} (R : Rel C m σ H env h) (e0 : env[i]? = some (some (.own xs))) : ∃ a, σ[i]? = some (some (.ref a)) ∧ Rel (C.own (.ref a) (.own xs)) m σ H (env.set i none) h ∧
    RepS C (ExOf C σ (env.set i none) m) m (fun a => C.H0 a = none) H (.ref a) (.own xs) ∧ ¬ C.GT a := by
  obtain ⟨v0, s0, ⟨a, vs, rfl, ha, h0, nm, q⟩, _⟩ := R.slot i _ e0
  have oa : OwnAt σ env a := ⟨i, xs, e0, s0⟩
  have sub : ∀ b, OwnAt σ (env.set i none) b → OwnAt σ env b ∧ b ≠ a := fun b ⟨j, ys, e, s⟩ => by
    rcases get_set e with ⟨rfl, l, e1⟩ | ⟨n, e1⟩
    · cases e1
    · refine ⟨⟨j, ys, e1, s⟩, fun z => ?_⟩
      subst z
      exact n (R.uniq j i ys xs _ e1 e0 s s0)
  have ex : ∀ b, ExOf (C.own (.ref a) (.own xs)) σ (env.set i none) m b → ExOf C σ env m b := fun b q => by
    rcases q with q | q | q
    · rcases q with q | q | q
      · exact .inl (.inl q)
      · exact .inl (.inr q)
      · cases q
        exact .inr (.inl oa)
    · exact .inr (.inl (sub b q).1)
    · exact .inr (.inr q)
  have nGT : ¬ C.GT a := fun g => R.gown a g oa
  have slots : ∀ w sw, (sw.isOwn = true → True) → SlotR C σ env m H w sw → SlotR (C.own (.ref a) (.own xs)) σ (env.set i none) m H w sw := fun w sw _ ⟨r1, b1⟩ => by
    refine ⟨r1.less rfl ex fun _ q => q, ?_⟩
    cases sw with
    | val p => trivial
    | own zs => trivial
    | brw zs => exact fun b e => ⟨fun z => (b1 b e).1 (sub b z).1, fun z => z.elim (b1 b e).2 fun z => (b1 b e).1 (by cases z; exact oa)⟩
    | exc _ _ => first | (cases e; done) | (cases nb; done) | exact r | exact r1 | exact ⟨r, trivial⟩ | exact ⟨r1, trivial⟩ | exact ⟨rv, trivial⟩ | trivial
    | scr ns =>
      intro b e
      rcases b1 b e with z | z
      · exact .inl z
      · exact .inr ⟨fun w => z.1 (sub b w).1, fun w => w.elim z.2 fun w => z.1 (by cases w; exact oa)⟩
  refine ⟨a, s0, ⟨by rw [List.length_set]; exact R.len, fun j sw e => ?_, fun p hp => ⟨slots _ _ (fun _ => trivial) (R.pin p hp).1, (R.pin p hp).2⟩, fun j k us ws b e1 e2 s1 s2 => ?_, ⟨R.hm.len, R.hm.nd, fun n b c e f => (R.hm.at_ n b c e f).mono (Kp.le ex) ⟨[], by simp⟩ rfl⟩, R.keep, R.dom, R.pre, fun b g => ?_, fun b g o => ?_⟩, ?_, nGT⟩
  · rcases get_set e with ⟨rfl, l, e1⟩ | ⟨n, e1⟩
    · cases e1
    · obtain ⟨w, s, r1⟩ := R.slot j sw e1
      exact ⟨w, s, slots w sw (fun _ => trivial) r1⟩
  · rcases get_set e1 with ⟨rfl, _, f1⟩ | ⟨_, f1⟩
    · cases f1
    · rcases get_set e2 with ⟨rfl, _, f2⟩ | ⟨_, f2⟩
      · cases f2
      · exact R.uniq j k us ws b f1 f2 s1 s2
  · rcases g with g | g | g
    · exact R.gdom b (.inl g)
    · exact R.gdom b (.inr g)
    · cases g
      rw [ha]
      simp
  · obtain ⟨o1, o2⟩ := sub b o
    rcases g with g | g | g
    · exact R.gown b (.inl g) o1
    · exact R.gown b (.inr g) o1
    · cases g
      exact o2 rfl
  · refine ⟨a, vs, rfl, ha, h0, nm, RepL.mono (Kp.le fun b q => ?_) ⟨[], by simp⟩ q⟩
    rcases q with q | q
    · rcases q with q | q | q
      · exact .inl (.inl q)
      · exact .inl (.inr (.inl (sub b q).1))
      · exact .inl (.inr (.inr q))
    · exact .inr q
/-- return x -/
def sRetV (i : Nat) : DS := fun D env h => match env[i]? with
  | some (some (.own xs)) => D.rt (.own xs) h
  | some (some (.val p)) => D.rt (.val p) h
  | _ => False
@[simp ↓] theorem sRetV_eq (i : Nat) (D : DEnds) (env : Env) (h : Hs) : sRetV i D env h = (match env[i]? with
  | some (some (.own xs)) => D.rt (.own xs) h
  | some (some (.val p)) => D.rt (.val p) h
  | _ => False) := id rfl
theorem ss_retV (i : Nat) : SS K W (tRet (tVar i)) (sRetV i) := ⟨fun C m σ H env h Df D eK R hf p => by
  unfold sRetV at hf
  split at hf
  · rename_i xs e0
    obtain ⟨a, s0, R1, r1, nG⟩ := R.take e0
    exact ⟨_, s0, p.rt m σ H _ h _ _ R1 r1 (fun _ b e => by cases e; exact nG) hf⟩
  · rename_i pv e0
    obtain ⟨v, s, r, _⟩ := R.slot i _ e0
    exact ⟨v, s, p.rt m σ H env h v (.val pv) R r (fun o => nomatch o) hf⟩
  · exact hf.elim⟩
def sIf (c : DT) (s t : DS) : DS := fun D env h => c env h (fun b h1 => if b = true then s D env h1 else t D env h1) fun c h1 => D.ex c env h1
@[simp ↓] theorem sIf_eq (c : DT) (s t : DS) (D : DEnds) (env : Env) (h : Hs) : sIf c s t D env h = (c env h (fun b h1 => if b = true then s D env h1 else t D env h1) fun c h1 => D.ex c env h1) := id rfl
theorem ss_if {tc : TT} {t u : TS} {fc : DT} {f g : DS} (hc : ST K W tc fc) (h1 : SS K W t f) (h2 : SS K W u g) : SS K W (tIfS tc t u) (sIf fc f g) := ⟨fun C m σ H env h Df D eK R hf p => by
  refine hc.run C m σ H env h _ _ _ eK R hf (fun m1 b H1 h1' S1 R1 q1 => ?_) p.px
  cases b with
  | true => exact iteT (h1.run C m1 σ H1 env h1' Df D eK R1 (by simpa using q1) p)
  | false => exact iteF (h2.run C m1 σ H1 env h1' Df D eK R1 (by simpa using q1) p)⟩
def sPass : DS := sNil
@[simp ↓] theorem sPass_eq : sPass = (sNil) := id rfl
theorem ss_pass : SS K W tNext sPass := ss_nil
def sBreak : DS := fun D env h => D.bk env h
@[simp ↓] theorem sBreak_eq  (D : DEnds) (env : Env) (h : Hs) : sBreak  D env h = (D.bk env h) := id rfl
theorem ss_break : SS K W tBreak sBreak := ⟨fun C m σ H env h Df D eK R hf p => p.bk m σ H env h R hf⟩
def sCont : DS := fun D env h => D.ct env h
@[simp ↓] theorem sCont_eq  (D : DEnds) (env : Env) (h : Hs) : sCont  D env h = (D.ct env h) := id rfl
theorem ss_cont : SS K W tCont sCont := ⟨fun C m σ H env h Df D eK R hf p => p.ct m σ H env h R hf⟩
/-- while, by an invariant and a number that falls -/
def sWhile (c : DT) (b : DS) : DS := fun D env h => ∃ I : Nat → Env → Hs → Prop, (∃ n, I n env h) ∧ ∀ n env h, I n env h → c env h (fun v h1 => if v = true then b { D with nx := fun env' h' => ∃ n', n' < n ∧ I n' env' h', ct := fun env' h' => ∃ n', n' < n ∧ I n' env' h', bk := D.nx } env h1 else D.nx env h1) fun c h1 => D.ex c env h1
theorem ss_while {tc : TT} {tb : TS} {fc : DT} {f : DS} (hc : ST K W tc fc) (hb : SS K W tb f) : SS K W (tWhile tc tb) (sWhile fc f) := ⟨fun C m σ H env h Df D eK R hf p => by
  obtain ⟨I, ⟨n, i0⟩, step⟩ := hf
  refine ⟨fun n σ H => ∃ m env h, Rel C m σ H env h ∧ I n env h, ⟨n, m, env, h, R, i0⟩, ?_⟩
  rintro n σ H ⟨m, env, h, R, i⟩
  refine hc.run C m σ H env h _ _ _ eK R (step n env h i) (fun m1 b H1 h1 S1 R1 q1 => ?_) p.px
  cases b with
  | false => exact p.nx m1 σ H1 env h1 R1 (by simpa using q1)
  | true =>
    refine ⟨fun σ' H' => ∃ n', n' < n ∧ ∃ m env h, Rel C m σ' H' env h ∧ I n' env h, fun σ' H' q => q, ?_⟩
    have q2 : f { Df with nx := fun env' h' => ∃ n', n' < n ∧ I n' env' h', ct := fun env' h' => ∃ n', n' < n ∧ I n' env' h', bk := Df.nx } env h1 := by simpa using q1
    exact hb.run C m1 σ H1 env h1 _ _ eK R1 q2 ⟨fun m σ H env h R ⟨n', l, q⟩ => ⟨n', l, m, env, h, R, q⟩, p.nx, fun m σ H env h R ⟨n', l, q⟩ => ⟨n', l, m, env, h, R, q⟩, p.rt, p.ex⟩⟩
/-- the turns of a for -/
def forL (chk : Hs → Prop) (bd : DB) (b : DS) (D : DEnds) : List PV → Env → Hs → Prop
  | [], env, h => chk h ∧ D.nx env h
  | x :: xs, env, h => chk h ∧ bd x env fun env1 => b { D with nx := forL chk bd b D xs, ct := forL chk bd b D xs, bk := D.nx } env1 h
@[simp ↓] theorem forL_nil (chk : Hs → Prop) (bd : DB) (b : DS) (D : DEnds) (env : Env) (h : Hs) : forL chk bd b D [] env h = (chk h ∧ D.nx env h) := id rfl
@[simp ↓] theorem forL_cons (chk : Hs → Prop) (bd : DB) (b : DS) (D : DEnds) (x : PV) (xs : List PV) (env : Env) (h : Hs) : forL chk bd b D (x :: xs) env h = (chk h ∧ bd x env fun env1 => b { D with nx := forL chk bd b D xs, ct := forL chk bd b D xs, bk := D.nx } env1 h) := id rfl
def sFor (src : DI) (bd : DB) (b : DS) : DS := fun D env h => src env h (fun xs chk h1 => forL chk bd b D xs env h1) fun c h1 => D.ex c env h1
@[simp ↓] theorem sFor_eq (src : DI) (bd : DB) (b : DS) (D : DEnds) (env : Env) (h : Hs) : sFor src bd b D env h = (src env h (fun xs chk h1 => forL chk bd b D xs env h1) fun c h1 => D.ex c env h1) := id rfl
theorem ss_for {wi : TI} {g : TG} {tb : TS} {src : DI} {vs : List Nat} {bd : DB} {f : DS} (hs : SI K W wi src) (hg : SG K vs g bd) (hb : SS K W tb f) : SS K W (tFor wi g tb) (sFor src bd f) := ⟨fun C m σ H env h Df D eK R hf p => by
  refine hs.run C m σ H env h _ _ _ eK R hf (fun C1 m1 J H1 xs chk h1 le S1 R1 ok q1 => ?_) p.px
  have eK1 : C1.K = K := le.K.trans eK
  let Inv (i : Nat) (σ : St) (H : Hp) : Prop := i ≤ xs.length ∧ ∃ m env h, Rel C1 m σ H env h ∧ forL chk bd f Df (xs.drop i) env h
  refine ⟨fun i n σ H => n = xs.length - i ∧ Inv i σ H, ⟨_, rfl, Nat.zero_le _, m1, env, h1, R1, q1⟩, ?_⟩
  rintro i n σ H ⟨rfl, hi, m, env, h, R, q⟩
  by_cases hlt : i < xs.length
  · right
    have ex : xs[i]? = some xs[i] := List.getElem?_eq_getElem hlt
    rw [List.drop_eq_getElem_cons hlt] at q
    unfold forL at q
    obtain ⟨hc, q⟩ := q
    obtain ⟨go, yld⟩ := (ok C1 m σ H env h rfl (fun _ q => q) R hc i).1 _ ex
    refine ⟨go, Inv (i + 1), fun σ' H' hN => ⟨_, by omega, rfl, hN⟩, fun x H3 hy => ?_⟩
    obtain ⟨sm, rx⟩ := yld x H3 hy
    refine hg.run C1 m σ H3 env h x _ _ _ eK1 (R.grow sm) rx q fun σ' env' R4 _ _ q4 => ?_
    refine hb.run C1 m σ' H3 env' h _ _ eK1 R4 q4 ⟨fun m σ H env h R q => ⟨hlt, m, env, h, R, q⟩, fun m σ H env h R q => p.nx m σ H env h (R.back le) q, fun m σ H env h R q => ⟨hlt, m, env, h, R, q⟩, fun m σ H env h v sv R r ng q => ?_, fun c m σ H env h R q => p.ex c m σ H env h (R.back le) q⟩
    exact p.rt m σ H env h v sv (R.back (le.own v sv sv rfl)) (r.less le.K.symm (fun b q => q.le le.gt) fun b q => by rw [← le.H0]; exact q) (fun o a e g => ng o a e (le.gt a g)) q
  · left
    rw [List.drop_eq_nil_of_le (by omega)] at q
    obtain ⟨hc, q⟩ := q
    exact ⟨(ok C1 m σ H env h rfl (fun _ q => q) R hc i).2 (by omega), p.nx m σ H env h (R.back le) q⟩⟩
end
end PM

namespace PM
open PySem PySem.Spec L2
open PyProof.Rows hiding St

/-! ### defs -/
abbrev W0 : WX := fun _ _ _ _ => False
@[simp] def SV.toArg : SV → SV
  | .own xs => .brw xs
  | sv => sv
theorem RepS.wide {C : Ctx} {Ex Ex' N : Ad} {m m' : List Addr} {H H' : Hp} {v : V} {sv : SV} (r : RepS C Ex m N H v sv) (S : StE m H m' H') (h1 : ∀ b, b ∈ m → Ex b) (h2 : ∀ b, Ex' b → Ex b ∨ b ∈ m' ∨ H b = none) : RepS C Ex' m' N H' v sv := by
  have kp : ∀ {Z Z' : Ad}, (∀ b, b ∈ m → Z b) → (∀ b, Z' b → Z b ∨ b ∈ m' ∨ H b = none) → Kp Z H Z' H' := fun {Z Z'} g1 g2 b u e n => by
    have nm : b ∉ m := fun q => n (g1 b q)
    refine ⟨S.keep b u e nm, fun q => ?_⟩
    rcases g2 b q with q | q | q
    · exact n q
    · exact S.notin (by rw [e]; simp) nm q
    · rw [e] at q
      cases q
  cases sv with
  | val p => exact Rep.mono (kp h1 h2) S.ex' r
  | own xs =>
    obtain ⟨a, vs, rfl, ha, n, nm, q⟩ := r
    exact ⟨a, vs, rfl, S.keep _ _ ha nm, n, S.notin (by rw [ha]; simp) nm, RepL.mono (kp (fun b q => .inl (h1 b q)) fun b q => by
      rcases q with q | q
      · exact (h2 b q).imp .inl id
      · exact .inl (.inr q)) S.ex' q⟩
  | brw xs =>
    obtain ⟨a, vs, rfl, ha, q⟩ := r
    exact ⟨a, vs, rfl, ha.mono (S.kp (fun _ q => q) fun b q => .inr q), RepL.mono (kp h1 h2) S.ex' q⟩
  | exc _ _ => first | (cases e; done) | (cases nb; done) | exact r | exact r1 | exact ⟨r, trivial⟩ | exact ⟨r1, trivial⟩ | exact ⟨rv, trivial⟩ | trivial
  | scr ns =>
    obtain ⟨a, rfl, ha⟩ := r
    refine ⟨a, rfl, ha.imp (fun ha => ?_) id⟩
    have z : LstAt (· ∈ m') H' a (ns.map V.int) := LstAt.mono ha (S.kp (fun _ q => q) fun b q => .inr q)
    exact z
/-- the names behind a step that hands on a new list -/
theorem Rel.stepOwn {C : Ctx} {m m' : List Addr} {σ : St} {H H' : Hp} {env : Env} {h h' : Hs} {v : V} {sv : SV} (R : Rel C m σ H env h) (S : StE m H m' H') (hm : HeapR C.K (ExOf (C.own v sv) σ env m') m' H' h') (fr : ∀ a, sv.isOwn = true → v = .ref a → H a = none ∧ H' a ≠ none) : Rel (C.own v sv) m' σ H' env h' := by
  have gt : ∀ b, (C.own v sv).GT b → C.GT b ∨ (sv.isOwn = true ∧ v = .ref b) := fun b q => by
    cases sv with
    | own xs =>
      rcases q with q | q | q
      · exact .inl (.inl q)
      · exact .inl (.inr q)
      · exact .inr ⟨rfl, q.symm⟩
    | _ => exact .inl q
  have ex : ∀ b, ExOf (C.own v sv) σ env m' b → ExOf C σ env m b ∨ b ∈ m' ∨ H b = none := fun b q => by
    rcases q with q | q | q
    · rcases gt b q with q | ⟨o, e⟩
      · exact .inl (.inl q)
      · exact .inr (.inr (fr b o e).1)
    · exact .inl (.inr (.inl q))
    · exact .inr (.inl q)
  have R1 : Rel C m' σ H' env h' := R.step S ⟨hm.len, hm.nd, fun n a c e f => by
    have z := hm.at_ n a c e f
    exact z.mono (Kp.le fun b q => q.le fun _ => C.own_GT v sv) ⟨[], by simp⟩ rfl⟩
  have slots : ∀ w sw, SlotR C σ env m H w sw → SlotR (C.own v sv) σ env m' H' w sw := fun w sw ⟨r1, b1⟩ => by
    refine ⟨((r1.wide S (fun b q => .inr (.inr q)) ex).less (C.own_K v sv) (fun _ q => q) fun b q => by rw [C.own_H0]; exact q), ?_⟩
    have tt : ∀ b, H b ≠ none → ¬ C.T b → ¬ (C.own v sv).T b := fun b nb nt z => by
      cases sv with
      | own xs =>
        rcases z with z | z
        · exact nt z
        · exact nb (fr b rfl z.symm).1
      | _ => exact nt z
    cases sw with
    | val p => trivial
    | own xs => trivial
    | brw xs =>
      obtain ⟨c, ws, rfl, hc, _⟩ := r1
      intro b e
      cases e
      refine ⟨(b1 c rfl).1, tt c (fun z => ?_) (b1 c rfl).2⟩
      rcases hc.1 with q | ⟨_, q⟩ <;> (rw [z] at q; cases q)
    | exc _ _ => first | (cases e; done) | (cases nb; done) | exact r | exact r1 | exact ⟨r, trivial⟩ | exact ⟨r1, trivial⟩ | exact ⟨rv, trivial⟩ | trivial
    | scr ns =>
      obtain ⟨c, rfl, hc⟩ := r1
      intro b e
      cases e
      rcases b1 c rfl with q | q
      · exact .inl fun H' => by rw [C.own_K]; exact q H'
      · rcases hc with hc | hc
        · refine .inr ⟨q.1, tt c (fun z => ?_) q.2⟩
          rcases hc.1 with q | ⟨_, q⟩ <;> (rw [z] at q; cases q)
        · exact .inl fun H' => by rw [C.own_K]; exact hc H'
  refine ⟨R.len, fun i sw e => ?_, fun p hp => ?_, R.uniq, by rw [C.own_K]; exact hm, by rw [C.own_H0, C.own_m0]; exact R1.keep, by rw [C.own_H0]; exact R1.dom, by rw [C.own_H0, C.own_m0]; exact R1.pre, fun b q => ?_, fun b q o => ?_⟩
  · obtain ⟨w, s, r⟩ := R.slot i sw e
    exact ⟨w, s, slots w sw r⟩
  · have z := R.pin p (by rw [C.own_pins] at hp; exact hp)
    exact ⟨slots _ _ z.1, z.2⟩
  · rcases gt b q with q | ⟨o, e⟩
    · exact R1.gdom b q
    · exact (fr b o e).2
  · rcases gt b q with q | ⟨so, e⟩
    · exact R.gown b q o
    · obtain ⟨vs, z, _⟩ := R.ownDom o
      rw [(fr b so e).1] at z
      cases z
def ctxAt (K : PySem.W.Frag) (G : Ad) (m : List Addr) (H : Hp) : Ctx := { K := K, G := G, H0 := H, m0 := m }
/-- what a def promises: its denotation -/
def spD (K : PySem.W.Frag) (n : Nat) (d : DF) : Sp := fun vs H Q _ => vs.length = n ∧ ∃ (G : Ad) (m : List Addr) (h : Hs) (svs : List SV) (Qd : VQ), Rel (ctxAt K G m H) m (vs.map some) H (svs.map some) h ∧ d svs h Qd (fun _ _ => False) ∧
  ∀ m' v H' sv h', StE m H m' H' → HeapR K (ExOf ((ctxAt K G m H).own v sv) [] [] m') m' H' h' → RepS (ctxAt K G m H) (ExOf (ctxAt K G m H) [] [] m') m' (fun a => H a = none) H' v sv → Qd sv h' → Q v H'
theorem own_nil {b : Addr} : ¬ OwnAt [] [] b := fun ⟨i, xs, e, _⟩ => by simp at e
theorem own_rep {σ : St} {env : Env} {k : Nat} {b : Addr} (l : σ.length = env.length) (o : OwnAt (σ ++ List.replicate k none) (env ++ List.replicate k none) b) : OwnAt σ env b := by
  obtain ⟨i, xs, e, s⟩ := o
  by_cases hi : i < env.length
  · rw [List.getElem?_append_left hi] at e
    rw [List.getElem?_append_left (by omega)] at s
    exact ⟨i, xs, e, s⟩
  · rw [List.getElem?_append_right (by omega), List.getElem?_replicate] at e
    split at e <;> cases e
theorem Rel.ext {C : Ctx} {m : List Addr} {σ : St} {H : Hp} {env : Env} {h : Hs} (R : Rel C m σ H env h) (k : Nat) : Rel C m (σ ++ List.replicate k none) H (env ++ List.replicate k none) h := by
  have sub : ∀ b, OwnAt (σ ++ List.replicate k none) (env ++ List.replicate k none) b → OwnAt σ env b := fun b o => own_rep R.len o
  have ex : ∀ b, ExOf C (σ ++ List.replicate k none) (env ++ List.replicate k none) m b → ExOf C σ env m b := fun b q => by
    rcases q with q | q | q
    · exact .inl q
    · exact .inr (.inl (sub b q))
    · exact .inr (.inr q)
  have slots : ∀ w sw, SlotR C σ env m H w sw → SlotR C (σ ++ List.replicate k none) (env ++ List.replicate k none) m H w sw := fun w sw ⟨r1, b1⟩ => ⟨r1.less rfl ex fun _ q => q, b1.le rfl (fun b o => .inl (sub b o)) fun _ q => q⟩
  have left : ∀ {i : Nat} {sv : SV}, (env ++ List.replicate k none)[i]? = some (some sv) → i < env.length ∧ env[i]? = some (some sv) := fun {i sv} e => by
    by_cases hi : i < env.length
    · rw [List.getElem?_append_left hi] at e
      exact ⟨hi, e⟩
    · rw [List.getElem?_append_right (by omega), List.getElem?_replicate] at e
      split at e <;> cases e
  refine ⟨by simp [R.len], fun i sv e => ?_, fun p hp => ⟨slots _ _ (R.pin p hp).1, (R.pin p hp).2⟩, fun i j xs ys a e1 e2 s1 s2 => ?_, ⟨R.hm.len, R.hm.nd, fun n a c e f => (R.hm.at_ n a c e f).mono (Kp.le ex) ⟨[], by simp⟩ rfl⟩, R.keep, R.dom, R.pre, R.gdom, fun a g o => R.gown a g (sub a o)⟩
  · obtain ⟨hi, e⟩ := left e
    obtain ⟨w, s, r⟩ := R.slot i sv e
    exact ⟨w, by rw [List.getElem?_append_left (by rw [R.len]; exact hi)]; exact s, slots w sv r⟩
  · obtain ⟨h1, e1⟩ := left e1
    obtain ⟨h2, e2⟩ := left e2
    rw [List.getElem?_append_left (by rw [R.len]; exact h1)] at s1
    rw [List.getElem?_append_left (by rw [R.len]; exact h2)] at s2
    exact R.uniq i j xs ys a e1 e2 s1 s2
/-- a def: n parameters, k further names -/
def dDef (n k : Nat) (body : DS) : DF := fun svs h Q E => svs.length = n ∧ body { nx := fun _ h' => Q (.val .non) h', rt := Q, ex := fun c _ h' => E c h' } (svs.map some ++ List.replicate k none) h
@[simp ↓] theorem dDef_eq (n k : Nat) (body : DS) (svs : List SV) (h : Hs) (Q : VQ) (E : XQ) : dDef n k body svs h Q E = (svs.length = n ∧ body { nx := fun _ h' => Q (.val .non) h', rt := Q, ex := fun c _ h' => E c h' } (svs.map some ++ List.replicate k none) h) := id rfl
section
variable {P : Program} {w : World} {K : PySem.W.Frag} {mg : Str → Option Value} {base : Heap}
theorem ok_def {x qual : Str} {st : Stmt} {f : Addr} {fd : FuncData} {N ps : List Str} {k : Nat} {body : DS} (F : Fun K x qual st f fd) (S : FnScope N ps (defScope st))
    (hb : ∀ (cdv : Value) (A : Around) (outer : List PySem.Env) (s : Shared) (H : Hp) (E : XK), Room k (A.deeper (envOfC qual (defScope st) s.heap.objs.size f cdv)) → ∃ t, PSs (cxOf CX0 P w K mg base N qual (defScope st) f cdv A outer s H E).nox (defBody st) t ∧ SS K W0 t body) :
    FnOk P w K mg base CX0 (k + 1) f fd ps (spD K ps.length (dDef ps.length (N.length - ps.length) body)) := by
  refine F.ok S (fun vs H Q E h => h.1) (fun cdv A outer s H vs Q E hr h => ?_)
  obtain ⟨t, hp, hs⟩ := hb cdv A outer s H E hr
  obtain ⟨hl, G, m, h, svs, Qd, R, ⟨sl, hd⟩, post⟩ := h
  refine ⟨t, hp, ?_⟩
  have R2 := R.ext (N.length - ps.length)
  have fin : ∀ m' σ H' env h' v sv, Rel ((ctxAt K G m H).own v sv) m' σ H' env h' → RepS (ctxAt K G m H) (ExOf (ctxAt K G m H) σ env m') m' (fun a => H a = none) H' v sv → Qd sv h' → Q v H' := fun m' σ H' env h' v sv R r q => by
    have R0 := R.drop
    have ex : ∀ (C : Ctx) b, ExOf C [] [] m' b → ExOf C σ env m' b := fun C b q => by
      rcases q with q | q | q
      · exact .inl q
      · exact absurd q own_nil
      · exact .inr (.inr q)
    refine post m' v H' sv h' ⟨R0.keep, R0.dom, R0.pre⟩ ⟨R.hm.len, R.hm.nd, fun n a c e f => ?_⟩ (r.less rfl (ex _) fun _ q => q) q
    have z := R.hm.at_ n a c e f
    rw [Ctx.own_K] at z
    exact z.mono (Kp.le (ex _)) ⟨[], by simp⟩ rfl
  have e0 : L2.start N vs = vs.map some ++ List.replicate (N.length - ps.length) none := by
    unfold L2.start
    rw [hl]
  rw [e0]
  refine hs.run (ctxAt K G m H) m _ H _ h _ _ rfl R2 hd ⟨fun m' σ H' env h' R q => fin m' σ H' env h' .non (.val .non) R .non q, fun _ _ _ _ _ _ q => q, fun _ _ _ _ _ _ q => q, fun m' σ H' env h' v sv R r _ q => fin m' σ H' env h' v sv R r q, fun _ _ _ _ _ _ _ q => q⟩
end
/-- f(..) -/
def apA (svs : List SV) (k : List SV → Prop) : Prop := k (svs.map SV.toArg)
@[simp ↓] theorem apA_nil (k : List SV → Prop) : apA [] k = k [] := id rfl
@[simp ↓] theorem apA_val (p : PV) (l : List SV) (k : List SV → Prop) : apA (.val p :: l) k = apA l fun vs => k (.val p :: vs) := id rfl
@[simp ↓] theorem apA_own (p : List PV) (l : List SV) (k : List SV → Prop) : apA (.own p :: l) k = apA l fun vs => k (.brw p :: vs) := id rfl
@[simp ↓] theorem apA_brw (p : List PV) (l : List SV) (k : List SV → Prop) : apA (.brw p :: l) k = apA l fun vs => k (.brw p :: vs) := id rfl
@[simp ↓] theorem apA_scr (p : List Int) (l : List SV) (k : List SV → Prop) : apA (.scr p :: l) k = apA l fun vs => k (.scr p :: vs) := id rfl
def dCall (n : Nat) (d : DF) (a : DA) : DE := fun env h Q E => a env h (fun svs h1 => svs.length = n ∧ apA svs fun vs => d vs h1 Q fun _ _ => False) E
@[simp ↓] theorem dCall_eq (n : Nat) (d : DF) (a : DA) (env : Env) (h : Hs) (Q : VQ) (E : XQ) : dCall n d a env h Q E = (a env h (fun svs h1 => svs.length = n ∧ apA svs fun vs => d vs h1 Q fun _ _ => False) E) := id rfl
theorem paired_get {α β : Type} {R : α → β → Prop} : ∀ {xs : List α} {ys : List β} {i : Nat} {y : β}, Paired R xs ys → ys[i]? = some y → ∃ x, xs[i]? = some x ∧ R x y
  | _, _, _, _, .nil, e => by simp at e
  | _, _, 0, _, .cons r _, e => by
    obtain rfl := Option.some.inj e
    exact ⟨_, rfl, r⟩
  | _, _, i + 1, _, .cons _ t, e => paired_get (i := i) t e
/-- the state at a callee's beginning -/
theorem Rel.enter {C : Ctx} {m : List Addr} {σ : St} {H : Hp} {env : Env} {h : Hs} {N : Ad} {vs : List V} {svs : List SV} (R : Rel C m σ H env h) (r : Paired (RepS C (ExOf C σ env m) m N H) vs svs) :
    Rel (ctxAt C.K (fun a => C.GT a ∨ OwnAt σ env a) m H) m (vs.map some) H ((svs.map SV.toArg).map some) h := by
  have noown : ∀ {b : Addr}, ¬ OwnAt (vs.map some) ((svs.map SV.toArg).map some) b := fun {b} ⟨i, xs, e, _⟩ => by
    rw [List.map_map, List.getElem?_map] at e
    cases g : svs[i]? with
    | none => rw [g] at e; cases e
    | some sv =>
      rw [g] at e
      have e1 : SV.toArg sv = .own xs := by
        have z := Option.some.inj e
        exact Option.some.inj z
      cases sv <;> cases e1
  have exi : ∀ b, ExOf (ctxAt C.K (fun a => C.GT a ∨ OwnAt σ env a) m H) (vs.map some) ((svs.map SV.toArg).map some) m b → ExOf C σ env m b := fun b q => by
    rcases q with q | q | q
    · rcases q with q | q
      · exact q.elim .inl fun q => .inr (.inl q)
      · exact q.elim
    · exact absurd q noown
    · exact .inr (.inr q)
  have len : vs.length = svs.length := Paired.length r
  refine ⟨by simp [len], fun i sv e => ?_, fun p hp => (nomatch hp), fun i j xs ys a e1 _ s1 _ => absurd ⟨i, xs, e1, s1⟩ noown, ⟨R.hm.len, R.hm.nd, fun n a c e f => (R.hm.at_ n a c e f).mono (Kp.le exi) ⟨[], by simp⟩ rfl⟩, fun b o e _ => e, fun b q => q, ⟨[], by simp [ctxAt], by simp⟩, fun a g => ?_, fun a _ o => noown o⟩
  · rw [List.map_map, List.getElem?_map] at e
    cases g : svs[i]? with
    | none => rw [g] at e; cases e
    | some s0 =>
      rw [g] at e
      obtain ⟨v, gv, rv⟩ := paired_get r g
      have e1 : SV.toArg s0 = sv := by
        have z := Option.some.inj e
        exact Option.some.inj z
      subst e1
      refine ⟨v, by rw [List.getElem?_map, gv]; rfl, ?_⟩
      cases s0 with
      | val p => exact ⟨Rep.mono (Kp.le exi) ⟨[], by simp⟩ rv, trivial⟩
      | own xs =>
        obtain ⟨a, ws, rfl, ha, _, nm, q⟩ := rv
        exact ⟨⟨a, ws, rfl, ⟨.inl ha, nm⟩, RepL.mono (Kp.le fun b q => .inl (exi b q)) ⟨[], by simp⟩ q⟩, fun b _ => ⟨noown, fun q => q⟩⟩
      | brw xs =>
        obtain ⟨a, ws, rfl, ha, q⟩ := rv
        exact ⟨⟨a, ws, rfl, ha, RepL.mono (Kp.le exi) ⟨[], by simp⟩ q⟩, fun b _ => ⟨noown, fun q => q⟩⟩
      | exc _ _ => first | (cases e; done) | (cases nb; done) | exact r | exact r1 | exact ⟨r, trivial⟩ | exact ⟨r1, trivial⟩ | exact ⟨rv, trivial⟩ | trivial
      | scr ns =>
        obtain ⟨a, rfl, ha⟩ := rv
        exact ⟨⟨a, rfl, ha⟩, fun b _ => .inr ⟨noown, fun q => q⟩⟩
  · rcases g with g | g
    · exact g.elim (R.gdom a) fun o => R.exDom (.inr (.inl o))
    · exact g.elim
section
variable {K : PySem.W.Frag} {W : WX}
theorem se_call {ta : TA} {fa : DA} {n : Nat} {d : DF} {E0 : XK} (ha : SA K W ta fa) : SE K W (tCall (spD K n d) [] E0 ta) (dCall n d fa) := ⟨fun C m σ H env h Q E Q' eK R hf p px => by
  refine ha.run C m σ H env h _ E _ eK R hf (fun m1 vs H1 svs h1 S1 R1 r1 ⟨hn, q1⟩ => ?_) px
  have len : vs.length = svs.length := Paired.length r1
  rw [List.append_nil]
  have R1' : Rel C m1 σ H1 env h1 := R1.drops
  have Re := R1'.enter r1
  subst eK
  refine ⟨len.trans hn, _, m1, h1, _, Q, Re, q1, fun m' v H' sv h' S2 hm r2 q2 => ?_⟩
  have ex : ∀ b, ExOf C σ env m' b → ExOf (ctxAt C.K (fun a => C.GT a ∨ OwnAt σ env a) m1 H1) [] [] m' b := fun b q => by
    rcases q with q | q | q
    · exact .inl (.inl (.inl q))
    · exact .inl (.inl (.inr q))
    · exact .inr (.inr q)
  have exo : ∀ b, ExOf (C.own v sv) σ env m' b → ExOf ((ctxAt C.K (fun a => C.GT a ∨ OwnAt σ env a) m1 H1).own v sv) [] [] m' b := fun b q => by
    rcases q with q | q | q
    · cases sv with
      | own xs =>
        rcases q with q | q | q
        · exact .inl (.inl (.inl (.inl q)))
        · exact .inl (.inl (.inl (.inr q)))
        · exact .inl (.inr (.inr q))
      | _ => exact .inl (.inl (.inl q))
    · exact .inl (by
        cases sv with
        | _ => exact .inl (.inr q))
    · exact .inr (.inr q)
  have r3 : RepS C (ExOf C σ env m') m' (fun a => H1 a = none) H' v sv := r2.less rfl ex fun _ q => q
  refine p m' v H' sv h' (S1.trans S2) (R1'.stepOwn S2 ⟨hm.len, hm.nd, fun n a c e f => ?_⟩ fun a o e => ?_) (r3.less rfl (fun _ q => q) fun a q => stnew S1 q) q2
  · exact (hm.at_ n a c e f).mono (Kp.le exo) ⟨[], by simp⟩ rfl
  · cases sv with
    | own xs =>
      obtain ⟨b, ws, rfl, hb, nb, _⟩ := r3
      cases e
      exact ⟨nb, by rw [hb]; simp⟩
    | _ => cases o⟩
end
end PM

namespace PM
open PySem PySem.Spec L2
open PyProof.Rows hiding St

/-! ### calls of built-ins, by values -/
abbrev GL := Hs → List SV → (SV → Prop) → Prop
def CallS (K : PySem.W.Frag) (r : List V → Hp → VK → Prop) (g : GL) : Prop := ∀ (C : Ctx) (m : List Addr) (σ : St) (H : Hp) (env : Env) (h : Hs) (vs : List V) (svs : List SV) (q : SV → Prop) (Q' : VK), C.K = K → Rel C m σ H env h →
  Paired (RepA C σ env m H) vs svs → g h svs q → PostO C m σ H env h q Q' → r vs H Q'
def dB (g : GL) (a : DA) : DE := fun env h Q E => a env h (fun svs h1 => g h1 svs fun r => Q r h1) E
@[simp ↓] theorem dB_eq (g : GL) (a : DA) (env : Env) (h : Hs) (Q : VQ) (E : XQ) : dB g a env h Q E = (a env h (fun svs h1 => g h1 svs fun r => Q r h1) E) := id rfl
section
variable {K : PySem.W.Frag} {W : WX}
theorem se_cb {ta : TA} {fa : DA} {r : List V → Hp → VK → Prop} {g : GL} (o : CallS K r g) (ha : SA K W ta fa) : SE K W (tCB r ta) (dB g fa) := ⟨fun C m σ H env h Q E Q' eK R hf p px => by
  refine ha.run C m σ H env h _ E _ eK R hf (fun m1 vs H1 svs h1 S1 R1 r1 q1 => ?_) px
  refine o C m1 σ H1 env h1 vs svs _ _ eK R1.drops (Paired.mapP r1 fun v sv r => r.less rfl (fun _ q => q) fun _ _ => trivial) q1 fun v H' sv s3 R3 r3 q3 => ?_
  have S3 : StE m1 H1 m1 H' := .same s3
  exact p m1 v H' sv h1 (S1.trans S3) R3 (r3.less rfl (fun _ q => q) fun a n => stnew S1 n) q3⟩
end
/-- one argument -/
def g1 (g : G1) : GL := fun h svs q => match svs with
  | [x] => g h x q
  | _ => False
@[simp ↓] theorem g1_eq (g : G1) (h : Hs) (svs : List SV) (q : SV → Prop) : g1 g h svs q = (match svs with
  | [x] => g h x q
  | _ => False) := id rfl
def CallS1 (K : PySem.W.Frag) (r : V → Hp → VK → Prop) (g : G1) : Prop := UnS K r g
theorem cs_1 {K : PySem.W.Frag} {r : List V → Hp → VK → Prop} {g : G1} (u : UnS K (fun x H Q => r [x] H Q) g) : CallS K r (g1 g) := fun C m σ H env h vs svs q Q' eK R rs hg p => by
  unfold g1 at hg
  split at hg
  · cases rs with
    | cons r1 rs =>
      cases rs
      exact u C m σ H env h _ _ q Q' eK R r1 hg p
  · exact hg.elim
/-- len -/
def gLen : G1 := fun h x q => match x with
  | .val (.str z) => z.length ≤ sizeLine ∧ q (.val (.int z.length))
  | x => ∃ xs, seqC h x = some xs ∧ q (.val (.int xs.length))
@[simp ↓] theorem gLen_eq  (h : Hs) (x : SV) (q : SV → Prop) : gLen  h x q = (match x with
  | .val (.str z) => z.length ≤ sizeLine ∧ q (.val (.int z.length))
  | x => ∃ xs, seqC h x = some xs ∧ q (.val (.int xs.length))) := id rfl
theorem us_len {K : PySem.W.Frag} : UnS K (fun x H Q => ∃ y n, [x] = [y] ∧ LenV K y H n ∧ Q (.int n) H) gLen := fun C m σ H env h x sx q Q' eK R rx hg p => by
  subst eK
  unfold gLen at hg
  split at hg
  · cases rx
    exact ⟨_, _, rfl, ⟨hg.1, rfl⟩, p.int R hg.2⟩
  · obtain ⟨xs, e, hq⟩ := hg
    obtain ⟨a, vs, rfl, h1, q1⟩ := R.seq rx e
    refine ⟨_, vs.length, rfl, h1.imp (fun z => ⟨vs, z, rfl⟩) (fun z => ⟨vs, z, rfl⟩), ?_⟩
    rw [q1.length]
    exact p.int R hq
def gInt1 : G1 := fun _ x q => match x with
  | .val (.int i) => q (.val (.int i))
  | .val (.bl b) => q (.val (.int (if b then 1 else 0)))
  | _ => False
@[simp ↓] theorem gInt1_eq  (u0 : Hs) (x : SV) (q : SV → Prop) : gInt1  u0 x q = (match x with
  | .val (.int i) => q (.val (.int i))
  | .val (.bl b) => q (.val (.int (if b then 1 else 0)))
  | _ => False) := id rfl
theorem us_int1 {K : PySem.W.Frag} : UnS K (fun x H Q => (∃ i, [x] = [V.int i] ∧ Q (.int i) H) ∨ ∃ k, [x] = [V.bl k] ∧ Q (.int (if k then 1 else 0)) H) gInt1 := fun C m σ H env h x sx q Q' eK R rx hg p => by
  subst eK
  unfold gInt1 at hg
  split at hg
  · cases rx
    exact .inl ⟨_, rfl, p.int R hg⟩
  · cases rx
    exact .inr ⟨_, rfl, p.int R hg⟩
  · exact hg.elim
/-- lists of ints, of bools -/
def intsOf : List PV → Option (List Int)
  | [] => some []
  | .int i :: xs => (intsOf xs).map (i :: ·)
  | _ :: _ => none
theorem intsOf_eq : ∀ {xs : List PV} {ns : List Int}, intsOf xs = some ns → xs = ns.map .int
  | [], _, e => by cases e; rfl
  | .int i :: xs, ns, e => by
    unfold intsOf at e
    cases g : intsOf xs with
    | none => rw [g] at e; cases e
    | some ms =>
      rw [g] at e
      cases e
      rw [intsOf_eq g]
      rfl
  | .non :: _, _, e => by cases e
  | .bl _ :: _, _, e => by cases e
  | .str _ :: _, _, e => by cases e
  | .tup _ :: _, _, e => by cases e
  | .lst _ :: _, _, e => by cases e
  | .ref _ :: _, _, e => by cases e
@[simp] theorem intsOf_map (ns : List Int) : intsOf (ns.map .int) = some ns := by
  induction ns with
  | nil => rfl
  | cons n ns ih => simp [intsOf, ih]
def blsOf : List PV → Option (List Bool)
  | [] => some []
  | .bl i :: xs => (blsOf xs).map (i :: ·)
  | _ :: _ => none
theorem blsOf_eq : ∀ {xs : List PV} {ns : List Bool}, blsOf xs = some ns → xs = ns.map .bl
  | [], _, e => by cases e; rfl
  | .bl i :: xs, ns, e => by
    unfold blsOf at e
    cases g : blsOf xs with
    | none => rw [g] at e; cases e
    | some ms =>
      rw [g] at e
      cases e
      rw [blsOf_eq g]
      rfl
  | .non :: _, _, e => by cases e
  | .int _ :: _, _, e => by cases e
  | .str _ :: _, _, e => by cases e
  | .tup _ :: _, _, e => by cases e
  | .lst _ :: _, _, e => by cases e
  | .ref _ :: _, _, e => by cases e
@[simp] theorem blsOf_map (ns : List Bool) : blsOf (ns.map .bl) = some ns := by
  induction ns with
  | nil => rfl
  | cons n ns ih => simp [blsOf, ih]
theorem RepL.bls {K : PySem.W.Frag} {Ex : Ad} {m : List Addr} {H : Hp} : ∀ {vs : List V} {ns : List Bool}, RepL K Ex m H vs (ns.map PV.bl) → vs = ns.map V.bl
  | _, [], .nil => rfl
  | _, n :: ns, .cons h r => by
    cases h
    rw [RepL.bls r]
    rfl
def gInts (f : List Int → (SV → Prop) → Prop) : G1 := fun h x q => match listC h x with
  | some xs => match intsOf xs with
    | some ns => f ns q
    | none => False
  | none => False
@[simp ↓] theorem gInts_eq (f : List Int → (SV → Prop) → Prop) (h : Hs) (x : SV) (q : SV → Prop) : gInts f h x q = (match listC h x with
  | some xs => match intsOf xs with
    | some ns => f ns q
    | none => False
  | none => False) := id rfl
theorem Rel.intsL {C : Ctx} {m : List Addr} {σ : St} {H : Hp} {env : Env} {h : Hs} {x : V} {sx : SV} {f : List Int → (SV → Prop) → Prop} {q : SV → Prop} (R : Rel C m σ H env h) (rx : RepA C σ env m H x sx) (hg : gInts f h sx q) : ∃ a ns, x = .ref a ∧ SqL C.K H a (ns.map V.int) ∧ f ns q := by
  unfold gInts at hg
  split at hg
  · rename_i xs e
    split at hg
    · rename_i ns e2
      obtain ⟨a, vs, rfl, h1, q1⟩ := R.list rx e
      rw [intsOf_eq e2] at q1
      exact ⟨a, ns, rfl, by rw [← q1.ints]; exact h1, hg⟩
    · exact hg.elim
  · exact hg.elim
def gSum : G1 := gInts fun ns q => q (.val (.int ns.sum))
@[simp ↓] theorem gSum_eq : gSum = (gInts fun ns q => q (.val (.int ns.sum))) := id rfl
theorem us_sum {K : PySem.W.Frag} : UnS K (fun x H Q => rSum K [x] H Q) gSum := fun C m σ H env h x sx q Q' eK R rx hg p => by
  subst eK
  obtain ⟨a, ns, rfl, h1, hq⟩ := R.intsL rx hg
  exact ⟨a, ns, rfl, h1, p.int R hq⟩
def maxI : List Int → Int
  | [] => 0
  | [n] => n
  | n :: ns => max n (maxI ns)
def minI : List Int → Int
  | [] => 0
  | [n] => n
  | n :: ns => min n (minI ns)
theorem maxI_spec : ∀ (ns : List Int), ns ≠ [] → maxI ns ∈ ns ∧ ∀ y ∈ ns, y ≤ maxI ns
  | [], h => absurd rfl h
  | [n], _ => by simp [maxI]
  | n :: k :: ns, _ => by
    obtain ⟨h1, h2⟩ := maxI_spec (k :: ns) (by simp)
    have e : maxI (n :: k :: ns) = max n (maxI (k :: ns)) := rfl
    rw [e]
    refine ⟨?_, fun y hy => ?_⟩
    · rcases Int.le_total n (maxI (k :: ns)) with l | l
      · rw [Int.max_eq_right l]
        exact List.mem_cons_of_mem _ h1
      · rw [Int.max_eq_left l]
        exact List.mem_cons_self
    · rcases List.mem_cons.mp hy with z | z
      · subst z
        exact Int.le_max_left _ _
      · exact Int.le_trans (h2 y z) (Int.le_max_right _ _)
theorem minI_spec : ∀ (ns : List Int), ns ≠ [] → minI ns ∈ ns ∧ ∀ y ∈ ns, minI ns ≤ y
  | [], h => absurd rfl h
  | [n], _ => by simp [minI]
  | n :: k :: ns, _ => by
    obtain ⟨h1, h2⟩ := minI_spec (k :: ns) (by simp)
    have e : minI (n :: k :: ns) = min n (minI (k :: ns)) := rfl
    rw [e]
    refine ⟨?_, fun y hy => ?_⟩
    · rcases Int.le_total n (minI (k :: ns)) with l | l
      · rw [Int.min_eq_left l]
        exact List.mem_cons_self
      · rw [Int.min_eq_right l]
        exact List.mem_cons_of_mem _ h1
    · rcases List.mem_cons.mp hy with z | z
      · subst z
        exact Int.min_le_left _ _
      · exact Int.le_trans (Int.min_le_right _ _) (h2 y z)
def gMaxL : G1 := gInts fun ns q => ns ≠ [] ∧ q (.val (.int (maxI ns)))
@[simp ↓] theorem gMaxL_eq : gMaxL = (gInts fun ns q => ns ≠ [] ∧ q (.val (.int (maxI ns)))) := id rfl
def gMinL : G1 := gInts fun ns q => ns ≠ [] ∧ q (.val (.int (minI ns)))
@[simp ↓] theorem gMinL_eq : gMinL = (gInts fun ns q => ns ≠ [] ∧ q (.val (.int (minI ns)))) := id rfl
theorem us_maxL {K : PySem.W.Frag} : UnS K (fun x H Q => rMax K [x] H Q) gMaxL := fun C m σ H env h x sx q Q' eK R rx hg p => by
  subst eK
  obtain ⟨a, ns, rfl, h1, hne, hq⟩ := R.intsL rx hg
  refine ⟨a, ns, rfl, h1, List.length_pos_iff.mpr hne, fun m hm hy => ?_⟩
  obtain ⟨z1, z2⟩ := maxI_spec ns hne
  have e : m = maxI ns := Int.le_antisymm (z2 m hm) (hy _ z1)
  rw [e]
  exact p.int R hq
theorem us_minL {K : PySem.W.Frag} : UnS K (fun x H Q => rMin K [x] H Q) gMinL := fun C m σ H env h x sx q Q' eK R rx hg p => by
  subst eK
  obtain ⟨a, ns, rfl, h1, hne, hq⟩ := R.intsL rx hg
  refine ⟨a, ns, rfl, h1, List.length_pos_iff.mpr hne, fun m hm hy => ?_⟩
  obtain ⟨z1, z2⟩ := minI_spec ns hne
  have e : m = minI ns := Int.le_antisymm (hy _ z1) (z2 m hm)
  rw [e]
  exact p.int R hq
/-- max, min: of two ints, of a list of ints -/
def gMax : GL := fun h svs q => match svs with
  | [x] => gMaxL h x q
  | [.val (.int i), .val (.int j)] => q (.val (.int (max i j)))
  | _ => False
@[simp ↓] theorem gMax_eq  (h : Hs) (svs : List SV) (q : SV → Prop) : gMax  h svs q = (match svs with
  | [x] => gMaxL h x q
  | [.val (.int i), .val (.int j)] => q (.val (.int (max i j)))
  | _ => False) := id rfl
def gMin : GL := fun h svs q => match svs with
  | [x] => gMinL h x q
  | [.val (.int i), .val (.int j)] => q (.val (.int (min i j)))
  | _ => False
@[simp ↓] theorem gMin_eq  (h : Hs) (svs : List SV) (q : SV → Prop) : gMin  h svs q = (match svs with
  | [x] => gMinL h x q
  | [.val (.int i), .val (.int j)] => q (.val (.int (min i j)))
  | _ => False) := id rfl
def rMaxA (K : PySem.W.Frag) : List V → Hp → VK → Prop := fun xs H Q => rMax K xs H Q ∨ ∃ i j, xs = [.int i, .int j] ∧ Q (.int (if j > i then j else i)) H
def rMinA (K : PySem.W.Frag) : List V → Hp → VK → Prop := fun xs H Q => rMin K xs H Q ∨ ∃ i j, xs = [.int i, .int j] ∧ Q (.int (if j < i then j else i)) H
theorem cr_maxA {X : Cx} (hc : X.calm = true) : CallR X (.builtin "max") (rMaxA X.K) := (cr_max hc).or (call_max2 hc)
theorem cr_minA {X : Cx} (hc : X.calm = true) : CallR X (.builtin "min") (rMinA X.K) := (cr_min hc).or (call_min2 hc)
theorem cs_max {K : PySem.W.Frag} : CallS K (rMaxA K) gMax := fun C m σ H env h vs svs q Q' eK R rs hg p => by
  unfold gMax at hg
  split at hg
  · cases rs with
    | cons r1 rs =>
      cases rs
      exact .inl (us_maxL C m σ H env h _ _ q Q' eK R r1 hg p)
  · cases rs with
    | cons r1 rs => cases rs with
      | cons r2 rs =>
        cases rs
        cases r1
        cases r2
        rename_i i j
        refine .inr ⟨i, j, rfl, ?_⟩
        have e : (if j > i then j else i) = max i j := by
          split <;> omega
        rw [e]
        exact p.int R hg
  · exact hg.elim
theorem cs_min {K : PySem.W.Frag} : CallS K (rMinA K) gMin := fun C m σ H env h vs svs q Q' eK R rs hg p => by
  unfold gMin at hg
  split at hg
  · cases rs with
    | cons r1 rs =>
      cases rs
      exact .inl (us_minL C m σ H env h _ _ q Q' eK R r1 hg p)
  · cases rs with
    | cons r1 rs => cases rs with
      | cons r2 rs =>
        cases rs
        cases r1
        cases r2
        rename_i i j
        refine .inr ⟨i, j, rfl, ?_⟩
        have e : (if j < i then j else i) = min i j := by
          split <;> omega
        rw [e]
        exact p.int R hg
  · exact hg.elim
def gBls (f : List Bool → Bool) : G1 := fun h x q => match listC h x with
  | some xs => match blsOf xs with
    | some ns => q (.val (.bl (f ns)))
    | none => False
  | none => False
@[simp ↓] theorem gBls_eq (f : List Bool → Bool) (h : Hs) (x : SV) (q : SV → Prop) : gBls f h x q = (match listC h x with
  | some xs => match blsOf xs with
    | some ns => q (.val (.bl (f ns)))
    | none => False
  | none => False) := id rfl
theorem us_any {K : PySem.W.Frag} : UnS K (fun x H Q => rAny K [x] H Q) (gBls fun bs => bs.any id) := fun C m σ H env h x sx q Q' eK R rx hg p => by
  subst eK
  unfold gBls at hg
  split at hg
  · rename_i xs e
    split at hg
    · rename_i ns e2
      obtain ⟨a, vs, rfl, h1, q1⟩ := R.list rx e
      rw [blsOf_eq e2] at q1
      exact ⟨a, ns, rfl, by rw [← q1.bls]; exact h1, p.bl R hg⟩
    · exact hg.elim
  · exact hg.elim
theorem us_all {K : PySem.W.Frag} : UnS K (fun x H Q => rAll K [x] H Q) (gBls fun bs => bs.all id) := fun C m σ H env h x sx q Q' eK R rx hg p => by
  subst eK
  unfold gBls at hg
  split at hg
  · rename_i xs e
    split at hg
    · rename_i ns e2
      obtain ⟨a, vs, rfl, h1, q1⟩ := R.list rx e
      rw [blsOf_eq e2] at q1
      exact ⟨a, ns, rfl, by rw [← q1.bls]; exact h1, p.bl R hg⟩
    · exact hg.elim
  · exact hg.elim
def gAny : G1 := gBls fun bs => bs.any id
@[simp ↓] theorem gAny_eq : gAny = (gBls fun bs => bs.any id) := id rfl
def gAll : G1 := gBls fun bs => bs.all id
@[simp ↓] theorem gAll_eq : gAll = (gBls fun bs => bs.all id) := id rfl
/-- list(xs), tuple(xs) -/
def gList : G1 := fun h x q => ∃ xs, seqC h x = some xs ∧ q (.own xs)
@[simp ↓] theorem gList_eq  (h : Hs) (x : SV) (q : SV → Prop) : gList  h x q = (∃ xs, seqC h x = some xs ∧ q (.own xs)) := id rfl
theorem us_list {K : PySem.W.Frag} : UnS K (fun x H Q => ∃ p ys, [x] = [V.ref p] ∧ (SqL K H p ys ∨ SqT K H p ys) ∧ ∀ l, H l = none → Q (.ref l) (upd H l (.lst ys))) gList := fun C m σ H env h x sx q Q' eK R rx ⟨xs, e, hq⟩ p => by
  subst eK
  obtain ⟨a, vs, rfl, h1, q1⟩ := R.seq rx e
  exact ⟨a, vs, rfl, h1, fun l n => p.newL R q1 hq n⟩
def gTuple : G1 := fun h x q => ∃ xs, seqC h x = some xs ∧ q (.val (.tup xs))
@[simp ↓] theorem gTuple_eq  (h : Hs) (x : SV) (q : SV → Prop) : gTuple  h x q = (∃ xs, seqC h x = some xs ∧ q (.val (.tup xs))) := id rfl
theorem us_tuple {K : PySem.W.Frag} : UnS K (fun x H Q => ∃ p ys, [x] = [V.ref p] ∧ ((SqL K H p ys ∧ ∀ l, H l = none → Q (.ref l) (upd H l (.tup ys))) ∨ (SqT K H p ys ∧ Q (.ref p) H))) gTuple := fun C m σ H env h x sx q Q' eK R rx ⟨xs, e, hq⟩ p => by
  subst eK
  by_cases t : sx.isT = true
  · cases sx with
    | val pv => cases pv with
      | tup ys =>
        cases e
        cases rx with
        | tup ha qa => exact ⟨_, _, rfl, .inr ⟨ha.sq, p.at R (.tup ha qa) hq⟩⟩
      | _ => cases t
    | _ => cases t
  · obtain ⟨a, vs, rfl, h1, q1⟩ := R.seqL rx e (notT (by simpa using t))
    exact ⟨a, vs, rfl, .inl ⟨h1, fun l n => p.newT R q1 hq n⟩⟩
def gOrd : G1 := fun _ x q => match x with
  | .val (.str z) => z.length = 1 ∧ q (.val (.int (z.cps.getD 0 0 : Nat)))
  | _ => False
@[simp ↓] theorem gOrd_eq  (u0 : Hs) (x : SV) (q : SV → Prop) : gOrd  u0 x q = (match x with
  | .val (.str z) => z.length = 1 ∧ q (.val (.int (z.cps.getD 0 0 : Nat)))
  | _ => False) := id rfl
theorem us_ord {K : PySem.W.Frag} : UnS K (fun x H Q => ∃ z, [x] = [V.str z] ∧ z.length = 1 ∧ Q (.int (z.cps.getD 0 0 : Nat)) H) gOrd := fun C m σ H env h x sx q Q' eK R rx hg p => by
  subst eK
  unfold gOrd at hg
  split at hg
  · cases rx
    exact ⟨_, rfl, hg.1, p.int R hg.2⟩
  · exact hg.elim
/-- isinstance of a value and a built-in type -/
inductive Kd where
  | non | bl | int | str | tup | lst | dict
  deriving DecidableEq
def Kd.name : Kd → String
  | .non => "NoneType" | .bl => "bool" | .int => "int" | .str => "str" | .tup => "tuple" | .lst => "list" | .dict => "dict"
@[simp] def Kd.is (k t : Kd) : Bool := decide (k = t) || (decide (k = .bl) && decide (t = .int))
theorem kd_ok (k t : Kd) (ht : t ≠ .non) : kitB k.name t.name = some (k.is t) := by
  cases k <;> cases t <;> first | exact absurd rfl ht | decide +kernel
def SV.kd (h : Hs) : SV → Option Kd
  | .val .non => some .non
  | .val (.bl _) => some .bl
  | .val (.int _) => some .int
  | .val (.str _) => some .str
  | .val (.tup _) => some .tup
  | .val (.lst _) => some .lst
  | .val (.ref n) => match h[n]? with
    | some (.lst _) => some .lst
    | some (.dK _) => some .dict
    | some (.dT _) => some .dict
    | _ => none
  | .own _ => some .lst
  | .brw _ => some .lst
  | .scr _ => none
  | .exc _ _ => none
def dIsi (t : Kd) (a : DE) : DE := fun env h Q E => a env h (fun x h1 => match x.kd h1 with
  | some k => t ≠ .non ∧ Q (.val (.bl (k.is t))) h1
  | none => False) E
@[simp ↓] theorem dIsi_eq (t : Kd) (a : DE) (env : Env) (h : Hs) (Q : VQ) (E : XQ) : dIsi t a env h Q E = (a env h (fun x h1 => match x.kd h1 with
  | some k => t ≠ .non ∧ Q (.val (.bl (k.is t))) h1
  | none => False) E) := id rfl
theorem tyx_rdL {K : PySem.W.Frag} {H : Hp} {a : Addr} {vs : List V} (h : Rd H a (.lst vs)) : TyX K H (.ref a) (.type "list") := by
  rcases h with h | ⟨o, h⟩
  · exact .base (.lst h)
  · exact .base (.frz h)
theorem Rel.tyx {C : Ctx} {m : List Addr} {σ : St} {H : Hp} {env : Env} {h : Hs} {x : V} {sx : SV} {k : Kd} (R : Rel C m σ H env h) (rx : RepA C σ env m H x sx) (e : sx.kd h = some k) : TyX C.K H x (.type k.name) := by
  cases sx with
  | own xs =>
    obtain ⟨a, vs, rfl, ha, _⟩ := rx
    cases e
    exact .base (.lst ha)
  | brw xs =>
    obtain ⟨a, vs, rfl, ha, _⟩ := rx
    cases e
    exact tyx_rdL ha.1
  | exc _ _ => first | (cases e; done) | (cases nb; done) | exact r | exact r1 | exact ⟨r, trivial⟩ | exact ⟨r1, trivial⟩ | exact ⟨rv, trivial⟩ | trivial
  | scr ns => cases e
  | val p =>
    cases p with
    | non => cases e; cases rx; exact .base .non
    | bl b => cases e; cases rx; exact .base (.bl _)
    | int i => cases e; cases rx; exact .base (.int _)
    | str z => cases e; cases rx; exact .base (.str _)
    | tup xs =>
      cases e
      cases rx with
      | tup ha _ =>
        rcases ha with ⟨z, _⟩ | ⟨o, its, n, hk, hc, _⟩
        · rcases z with z | ⟨o, z⟩
          · exact .base (.tup z)
          · exact .fTuple z
        · exact .kTuple hk hc
    | lst xs =>
      cases e
      cases rx with
      | lst ha _ => exact tyx_rdL ha.1
    | ref n =>
      cases rx with
      | ref hn =>
        have e' : (match h[n]? with | some (.lst _) => some Kd.lst | some (.dK _) => some Kd.dict | some (.dT _) => some Kd.dict | _ => none) = some k := e
        split at e'
        · rename_i hc
          cases e'
          obtain ⟨vs, q1, _⟩ := R.cell hn hc
          exact .base (.lst q1)
        · rename_i hc
          cases e'
          obtain ⟨vs, q1, _⟩ := R.cell hn hc
          exact .base (.dK q1)
        · rename_i hc
          cases e'
          obtain ⟨vs, q1, _⟩ := R.cell hn hc
          exact .base (.dT q1)
        · cases e'
theorem se_isi {K : PySem.W.Frag} {W : WX} {ta : TE} {fa : DE} {t : Kd} (ha : SE K W ta fa) : SE K W (tCB (rIsi K) (tCons ta (tCons (tC (.ty t.name)) tNil))) (dIsi t fa) := ⟨fun C m σ H env h Q E Q' eK R hf p px => by
  refine ha.run C m σ H env h _ E _ eK R hf (fun m1 x H1 sx h1 S1 R1 r1 q1 => ?_) px
  split at q1
  · rename_i k e
    subst eK
    exact ⟨x, .ty t.name, .type k.name, .type t.name, k.is t, rfl, .ty _, R1.drop.tyx (r1.less rfl (fun _ q => q) fun _ _ => trivial) e, kit_ty (kd_ok k t q1.1), p m1 _ H1 (.val (.bl _)) h1 S1 R1.drop (.bl _) q1.2⟩
  · exact q1.elim⟩

/-! ### lists of one's own and cells change -/
section
variable {K : PySem.W.Frag} {W : WX}
theorem CellR.lstC {C : Ctx} {m : List Addr} {σ : St} {env : Env} {H : Hp} {h : Hs} {n : Nat} {a : Addr} {vs : List V} {ys : List PV} (R : Rel C m σ H env h) (e0 : m[n]? = some a) (r : RepL C.K (ExOf C σ env m) m H vs ys) : CellR C.K (ExOf C σ env m) m (upd H a (.lst vs)) a (.lst ys) := by
  have am : a ∈ m := List.mem_of_getElem? e0
  refine ⟨vs, upd_same, RepL.mono (fun b u e q => ⟨by rw [upd_ne fun z => q (by rw [z]; exact .inr (.inr am))]; exact e, q⟩) ⟨[], by simp⟩ r⟩
theorem Rel.owned {C : Ctx} {m : List Addr} {σ : St} {env : Env} {H : Hp} {h : Hs} {i : Nat} {xs : List PV} (R : Rel C m σ H env h) (e0 : env[i]? = some (some (.own xs))) : ∃ a vs, σ[i]? = some (some (.ref a)) ∧ H a = some (.lst vs) ∧ RepL C.K (ExOf C σ env m) m H vs xs := by
  obtain ⟨v0, s0, ⟨a, vs, rfl, ha, h0, nm, q0⟩, _⟩ := R.slot i _ e0
  exact ⟨a, vs, s0, ha, RepL.mono (Kp.le fun b q => .inl q) ⟨[], by simp⟩ q0⟩
theorem Rel.cellAt {C : Ctx} {m : List Addr} {σ : St} {env : Env} {H : Hp} {h : Hs} {n : Nat} {v : V} {c : Cell} {Ex : Ad} (R : Rel C m σ H env h) (r : Rep C.K Ex m H v (.ref n)) (e : h[n]? = some c) : ∃ a, v = .ref a ∧ m[n]? = some a ∧ CellR C.K (ExOf C σ env m) m H a c := by
  cases r with
  | ref hn => exact ⟨_, rfl, hn, R.hm.at_ n _ c hn e⟩
/-- x.append(e), x a name that holds a list of its own -/
def sAppV (i : Nat) (e : DE) : DS := fun D env h => match env[i]? with
  | some (some (.own xs)) => e env h (fun y h1 => match y.toVal with
      | some p => xs.length < sizeLine ∧ D.nx (env.set i (some (.own (xs ++ [p])))) h1
      | none => False) fun c h1 => D.ex c env h1
  | _ => False
@[simp ↓] theorem sAppV_eq (i : Nat) (e : DE) (D : DEnds) (env : Env) (h : Hs) : sAppV i e D env h = (match env[i]? with
  | some (some (.own xs)) => e env h (fun y h1 => match y.toVal with
      | some p => xs.length < sizeLine ∧ D.nx (env.set i (some (.own (xs ++ [p])))) h1
      | none => False) fun c h1 => D.ex c env h1
  | _ => False) := id rfl
theorem ss_appV {te : TE} {fe : DE} (i : Nat) (he : SE K W te fe) : SS K W (tDrop (tBM K "list" rAppend (tVar i) (tCons te tNil))) (sAppV i fe) := ⟨fun C m σ H env h Df D eK R hf p => by
  unfold sAppV at hf
  split at hf
  · rename_i xs e0
    obtain ⟨a, vs, s0, ha, _⟩ := R.owned e0
    refine ⟨_, s0, .inl ⟨rfl, vs, .inl (.inl ha)⟩, ?_⟩
    refine he.run C m σ H env h _ _ _ eK R hf (fun m1 y H1 sy h1 S1 R1 r1 q1 => ?_) p.px
    split at q1
    · rename_i pv ep
      obtain ⟨l, q1⟩ := q1
      obtain ⟨a1, vs1, s1, ha1, q3⟩ := R1.drop.owned e0
      rw [s0] at s1
      cases s1
      have ry := R.toVal r1 ep
      refine ⟨a, vs1, y, rfl, rfl, ha1, by rw [q3.length]; exact l, ?_⟩
      exact p.nx m1 σ _ _ h1 (R1.drop.mutOwn e0 s0 (q3.append (.cons ry .nil))) q1
    · exact q1.elim
  · exact hf.elim⟩
/-- o.append(e), o a cell -/
def sAppE (o e : DE) : DS := fun D env h => o env h (fun x h1 => match x with
  | .val (.ref n) => (∃ ys, h1[n]? = some (.lst ys)) ∧ e env h1 (fun y h2 => match y.toVal with
      | some p => ∃ xs, h2[n]? = some (.lst xs) ∧ xs.length < sizeLine ∧ D.nx env (h2.set n (.lst (xs ++ [p])))
      | none => False) fun c h2 => D.ex c env h2
  | _ => False) fun c h1 => D.ex c env h1
@[simp ↓] theorem sAppE_eq (o e : DE) (D : DEnds) (env : Env) (h : Hs) : sAppE o e D env h = (o env h (fun x h1 => match x with
  | .val (.ref n) => (∃ ys, h1[n]? = some (.lst ys)) ∧ e env h1 (fun y h2 => match y.toVal with
      | some p => ∃ xs, h2[n]? = some (.lst xs) ∧ xs.length < sizeLine ∧ D.nx env (h2.set n (.lst (xs ++ [p])))
      | none => False) fun c h2 => D.ex c env h2
  | _ => False) fun c h1 => D.ex c env h1) := id rfl
theorem ss_appE {to te : TE} {fo fe : DE} (ho : SE K W to fo) (he : SE K W te fe) : SS K W (tDrop (tBM K "list" rAppend to (tCons te tNil))) (sAppE fo fe) := ⟨fun C m σ H env h Df D eK R hf p => by
  refine ho.run C m σ H env h _ _ _ eK R hf (fun m1 x H1 sx h1 S1 R1 r1 q1 => ?_) p.px
  split at q1
  · rename_i n
    obtain ⟨⟨ys, e0⟩, q1⟩ := q1
    obtain ⟨a, rfl, ea, vs, hv, _⟩ := R1.cellAt r1 e0
    refine ⟨.inl ⟨rfl, vs, .inl (.inl hv)⟩, ?_⟩
    refine he.run C m1 σ H1 env h1 _ _ _ eK R1 q1 (fun m2 y H2 sy h2 S2 R2 r2 q2 => ?_) p.px
    split at q2
    · rename_i pv ep
      obtain ⟨xs, e2, l, q2⟩ := q2
      have ea2 : m2[n]? = some a := by
        obtain ⟨ms, rfl, _⟩ := S2.ext
        rw [List.getElem?_append_left (List.getElem?_eq_some_iff.mp ea).1]
        exact ea
      obtain ⟨vs2, hv2, rl⟩ := R2.drop.hm.at_ n a _ ea2 e2
      have ry := R1.toVal r2 ep
      obtain ⟨_, R3⟩ := R2.drop.mutCell ea2 (List.getElem?_eq_some_iff.mp e2).1 (CellR.lstC R2.drop ea2 (rl.append (.cons ry .nil)))
      exact ⟨a, vs2, y, rfl, rfl, hv2, by rw [rl.length]; exact l, p.nx m2 σ _ env _ R3 q2⟩
    · exact q2.elim
  · exact q1.elim⟩
/-- x[i] = e, x a name that holds a list of its own -/
def sSetV (k : Nat) (i e : DE) : DS := fun D env h => e env h (fun y h1 => match y.toVal with
  | some p => match env[k]? with
    | some (some (.own xs)) => i env h1 (fun j h2 => match j with
        | .val (.int z) => ∃ n, ixN xs.length z = some n ∧ D.nx (env.set k (some (.own (xs.set n p)))) h2
        | _ => False) fun c h2 => D.ex c env h2
    | _ => False
  | none => False) fun c h1 => D.ex c env h1
@[simp ↓] theorem sSetV_eq (k : Nat) (i e : DE) (D : DEnds) (env : Env) (h : Hs) : sSetV k i e D env h = (e env h (fun y h1 => match y.toVal with
  | some p => match env[k]? with
    | some (some (.own xs)) => i env h1 (fun j h2 => match j with
        | .val (.int z) => ∃ n, ixN xs.length z = some n ∧ D.nx (env.set k (some (.own (xs.set n p)))) h2
        | _ => False) fun c h2 => D.ex c env h2
    | _ => False
  | none => False) fun c h1 => D.ex c env h1) := id rfl
theorem ss_setV {ti te : TE} {fi fe : DE} (k : Nat) (hi : SE K W ti fi) (he : SE K W te fe) : SS K W (tAsg te (L2.gSub (tVar k) ti rSetL)) (sSetV k fi fe) := ⟨fun C m σ H env h Df D eK R hf p => by
  refine he.run C m σ H env h _ _ _ eK R hf (fun m1 y H1 sy h1 S1 R1 r1 q1 => ?_) p.px
  split at q1
  · rename_i pv ep
    split at q1
    · rename_i xs e0
      obtain ⟨a, vs, s0, ha, _⟩ := R1.drop.owned e0
      have ry := R.toVal r1 ep
      refine ⟨_, s0, ?_⟩
      refine hi.run C m1 σ H1 env h1 _ _ _ eK R1.drop q1 (fun m2 j H2 sj h2 S2 R2 r2 q2 => ?_) p.px
      split at q2
      · obtain ⟨n, en, q2⟩ := q2
        cases r2
        obtain ⟨a2, vs2, s2, ha2, rl⟩ := R2.drop.owned e0
        rw [s0] at s2
        cases s2
        have ry2 : Rep C.K (ExOf C σ env m2) m2 H2 y pv := Rep.mono (R1.drop.kp S2) S2.ex' ry
        refine ⟨a, vs2, _, n, rfl, rfl, ha2, by rw [rl.length]; exact en, ?_⟩
        exact p.nx m2 σ _ _ h2 (R2.drop.mutOwn e0 s0 (rl.set n ry2)) q2
      · exact q2.elim
    · exact q1.elim
  · exact q1.elim⟩
/-- o[i] = e, o a cell -/
def sSetE (o i e : DE) : DS := fun D env h => e env h (fun y h1 => match y.toVal with
  | some p => o env h1 (fun x h2 => match x with
      | .val (.ref n) => i env h2 (fun j h3 => match j with
          | .val (.int z) => ∃ xs k, h3[n]? = some (.lst xs) ∧ ixN xs.length z = some k ∧ D.nx env (h3.set n (.lst (xs.set k p)))
          | _ => False) fun c h3 => D.ex c env h3
      | _ => False) fun c h2 => D.ex c env h2
  | none => False) fun c h1 => D.ex c env h1
@[simp ↓] theorem sSetE_eq (o i e : DE) (D : DEnds) (env : Env) (h : Hs) : sSetE o i e D env h = (e env h (fun y h1 => match y.toVal with
  | some p => o env h1 (fun x h2 => match x with
      | .val (.ref n) => i env h2 (fun j h3 => match j with
          | .val (.int z) => ∃ xs k, h3[n]? = some (.lst xs) ∧ ixN xs.length z = some k ∧ D.nx env (h3.set n (.lst (xs.set k p)))
          | _ => False) fun c h3 => D.ex c env h3
      | _ => False) fun c h2 => D.ex c env h2
  | none => False) fun c h1 => D.ex c env h1) := id rfl
theorem ss_setE {to ti te : TE} {fo fi fe : DE} (ho : SE K W to fo) (hi : SE K W ti fi) (he : SE K W te fe) : SS K W (tAsg te (L2.gSub to ti rSetL)) (sSetE fo fi fe) := ⟨fun C m σ H env h Df D eK R hf p => by
  refine he.run C m σ H env h _ _ _ eK R hf (fun m1 y H1 sy h1 S1 R1 r1 q1 => ?_) p.px
  split at q1
  · rename_i pv ep
    have ry := R.toVal r1 ep
    refine ho.run C m1 σ H1 env h1 _ _ _ eK R1.drop q1 (fun m2 x H2 sx h2 S2 R2 r2 q2 => ?_) p.px
    split at q2
    · rename_i n
      refine hi.run C m2 σ H2 env h2 _ _ _ eK R2 q2 (fun m3 j H3 sj h3 S3 R3 r3 q3 => ?_) p.px
      split at q3
      · obtain ⟨xs, k, e3, ek, q3⟩ := q3
        cases r3
        have rx : Rep C.K (ExOf C σ env m3) m3 H3 x (.ref n) := Rep.mono (R2.kp S3) S3.ex' r2
        obtain ⟨a, rfl, ea, vs, hv, rl⟩ := R3.cellAt rx e3
        have ry3 : Rep C.K (ExOf C σ env m3) m3 H3 y pv := Rep.mono (R1.drop.kp (S2.trans S3)) (S2.trans S3).ex' ry
        obtain ⟨_, R4⟩ := R3.mutCell ea (List.getElem?_eq_some_iff.mp e3).1 (CellR.lstC R3 ea (rl.set k ry3))
        exact ⟨a, vs, _, k, rfl, rfl, hv, by rw [rl.length]; exact ek, p.nx m3 σ _ env _ R4 q3⟩
      · exact q3.elim
    · exact q2.elim
  · exact q1.elim⟩
/-- a new list goes into a cell -/
def dAlloc (a : DE) : DE := fun env h Q E => a env h (fun x h1 => match x with
  | .own xs => Q (.val (.ref h1.length)) (h1 ++ [.lst xs])
  | _ => False) E
@[simp ↓] theorem dAlloc_eq (a : DE) (env : Env) (h : Hs) (Q : VQ) (E : XQ) : dAlloc a env h Q E = (a env h (fun x h1 => match x with
  | .own xs => Q (.val (.ref h1.length)) (h1 ++ [.lst xs])
  | _ => False) E) := id rfl
theorem se_alloc {ta : TE} {fa : DE} (ha : SE K W ta fa) : SE K W ta (dAlloc fa) := ⟨fun C m σ H env h Q E Q' eK R hf p px => by
  refine ha.run C m σ H env h _ E _ eK R hf (fun m1 x H1 sx h1 S1 R1 r1 q1 => ?_) px
  split at q1
  · rename_i xs
    obtain ⟨a, vs, rfl, hv, na, nm, q⟩ := r1
    have n0 : C.H0 a = none := by
      cases e : C.H0 a with
      | none => rfl
      | some o => exact absurd na (R.dom a (by rw [e]; simp))
    have R2 := R1.alloc hv nm n0 (fun g => R.gdom a g na) q
    refine p (m1 ++ [a]) _ H1 (.val (.ref h1.length)) _ ⟨S1.keep, S1.dom, ?_⟩ R2 (.ref ?_) q1
    · obtain ⟨ms, rfl, hn⟩ := S1.ext
      refine ⟨ms ++ [a], by simp, fun b hb => ?_⟩
      rcases List.mem_append.mp hb with z | z
      · exact hn b z
      · rw [List.mem_singleton.mp z]
        exact na
    · rw [← R1.hm.len]
      simp
  · exact q1.elim⟩
/-- a new list becomes a value -/
def dFrz (a : DE) : DE := fun env h Q E => a env h (fun x h1 => match x.toVal with
  | some p => Q (.val p) h1
  | none => False) E
@[simp ↓] theorem dFrz_eq (a : DE) (env : Env) (h : Hs) (Q : VQ) (E : XQ) : dFrz a env h Q E = (a env h (fun x h1 => match x.toVal with
  | some p => Q (.val p) h1
  | none => False) E) := id rfl
theorem se_frz {ta : TE} {fa : DE} (ha : SE K W ta fa) : SE K W ta (dFrz fa) := ⟨fun C m σ H env h Q E Q' eK R hf p px => by
  refine ha.run C m σ H env h _ E _ eK R hf (fun m1 x H1 sx h1 S1 R1 r1 q1 => ?_) px
  split at q1
  · rename_i pv ep
    exact p m1 x H1 (.val pv) h1 S1 R1.drop (R.toVal r1 ep) q1
  · exact q1.elim⟩
end
section
variable (h : Hs) (b : Bool) (i : Int) (z : Str) (xs : List PV) (ns : List Int) (n : Nat)
@[simp] theorem kd_non : (SV.val .non).kd h = some .non := rfl
@[simp] theorem kd_bl : (SV.val (.bl b)).kd h = some .bl := rfl
@[simp] theorem kd_int : (SV.val (.int i)).kd h = some .int := rfl
@[simp] theorem kd_str : (SV.val (.str z)).kd h = some .str := rfl
@[simp] theorem kd_tup : (SV.val (.tup xs)).kd h = some .tup := rfl
@[simp] theorem kd_lst : (SV.val (.lst xs)).kd h = some .lst := rfl
@[simp] theorem kd_own : (SV.own xs).kd h = some .lst := rfl
@[simp] theorem kd_brw : (SV.brw xs).kd h = some .lst := rfl
@[simp] theorem tru_non : (SV.val .non).tru h = some false := rfl
@[simp] theorem tru_bl : (SV.val (.bl b)).tru h = some b := rfl
@[simp] theorem tru_int : (SV.val (.int i)).tru h = some (i != 0) := rfl
@[simp] theorem tru_tup : (SV.val (.tup xs)).tru h = some (!xs.isEmpty) := rfl
@[simp] theorem tru_lst : (SV.val (.lst xs)).tru h = some (!xs.isEmpty) := rfl
@[simp] theorem tru_own : (SV.own xs).tru h = some (!xs.isEmpty) := rfl
@[simp] theorem tru_brw : (SV.brw xs).tru h = some (!xs.isEmpty) := rfl
@[simp] theorem listC_lst : listC h (.val (.lst xs)) = some xs := rfl
@[simp] theorem listC_own : listC h (.own xs) = some xs := rfl
@[simp] theorem listC_brw : listC h (.brw xs) = some xs := rfl
@[simp] theorem listC_tup : listC h (.val (.tup xs)) = none := rfl
@[simp] theorem listC_int : listC h (.val (.int i)) = none := rfl
theorem listC_ref {c : List PV} (e : h[n]? = some (.lst c)) : listC h (.val (.ref n)) = some c := by simp [listC, e]
@[simp] theorem seqC_lst : seqC h (.val (.lst xs)) = some xs := rfl
@[simp] theorem seqC_own : seqC h (.own xs) = some xs := rfl
@[simp] theorem seqC_brw : seqC h (.brw xs) = some xs := rfl
@[simp] theorem seqC_tup : seqC h (.val (.tup xs)) = some xs := rfl
@[simp] theorem seqC_scr : seqC h (.scr ns) = some (ns.map .int) := rfl
theorem seqC_ref {c : List PV} (e : h[n]? = some (.lst c)) : seqC h (.val (.ref n)) = some c := by simp [seqC, listC, e]
@[simp] theorem pv_non : (SV.val .non).pv h = some .non := rfl
@[simp] theorem pv_bl : (SV.val (.bl b)).pv h = some (.bl b) := rfl
@[simp] theorem pv_int : (SV.val (.int i)).pv h = some (.int i) := rfl
@[simp] theorem pv_str : (SV.val (.str z)).pv h = some (.str z) := rfl
@[simp] theorem pv_tup : (SV.val (.tup xs)).pv h = some (.tup xs) := rfl
@[simp] theorem pv_lst : (SV.val (.lst xs)).pv h = some (.lst xs) := rfl
@[simp] theorem pv_own : (SV.own xs).pv h = some (.lst xs) := rfl
@[simp] theorem pv_brw : (SV.brw xs).pv h = some (.lst xs) := rfl
end
end PM

namespace PM
open PySem PySem.Spec L2
open PyProof.Rows hiding St

/-! ### a piece of syntax and its denotation -/
section
variable (K : PySem.W.Frag) (W : WX)
def tE (f : DE) : TE := fun σ H Q' => ∃ (C : Ctx) (m : List Addr) (env : Env) (h : Hs) (Q : VQ) (E : XQ), C.K = K ∧ Rel C m σ H env h ∧ f env h Q E ∧ PostE C m σ H env Q Q' ∧ PostX W C m σ H env E
def tT (f : DT) : TT := fun σ H Q' => ∃ (C : Ctx) (m : List Addr) (env : Env) (h : Hs) (Q : Bool → Hs → Prop) (E : XQ), C.K = K ∧ Rel C m σ H env h ∧ f env h Q E ∧ (∀ m' b H' h', StE m H m' H' → Rel C m' σ H' env h' → Q b h' → Q' b H') ∧ PostX W C m σ H env E
def tA (f : DA) : TA := fun σ H Q' => ∃ (C : Ctx) (m : List Addr) (env : Env) (h : Hs) (Q : List SV → Hs → Prop) (E : XQ), C.K = K ∧ Rel C m σ H env h ∧ f env h Q E ∧
  (∀ m' vs H' svs h', StE m H m' H' → Rel (C.owns vs svs) m' σ H' env h' → Paired (RepS C (ExOf C σ env m') m' (fun a => H a = none) H') vs svs → Q svs h' → Q' vs H') ∧ PostX W C m σ H env E
def tI (f : DI) : TI := fun σ H Q' => ∃ (C : Ctx) (m : List Addr) (env : Env) (h : Hs) (Q : List PV → (Hs → Prop) → Hs → Prop) (E : XQ), C.K = K ∧ Rel C m σ H env h ∧ f env h Q E ∧
  (∀ C' m' J H' xs chk h', CtxLe C C' → StE m H m' H' → Rel C' m' σ H' env h' → ItOk C' J xs chk → Q xs chk h' → Q' J H') ∧ PostX W C m σ H env E
def tK (f : DE) : TE := fun σ H Q' => ∃ (C : Ctx) (m : List Addr) (env : Env) (h : Hs) (Q : VQ) (E : XQ), C.K = K ∧ Rel C m σ H env h ∧ f env h Q E ∧
  (∀ C' m' v H' sv h', CtxLe C C' → StE m H m' H' → Rel C' m' σ H' env h' → (v, sv) ∈ C'.pins → Q sv h' → Q' v H') ∧ PostX W C m σ H env E
def tO (f : DO) : TO := fun σ H Q' => ∃ (C : Ctx) (m : List Addr) (env : Env) (h : Hs) (Q : Option Int → Hs → Prop) (E : XQ), C.K = K ∧ Rel C m σ H env h ∧ f env h Q E ∧ (∀ m' o H' h', StE m H m' H' → Rel C m' σ H' env h' → Q o h' → Q' o H') ∧ PostX W C m σ H env E
def tS (f : DS) : TS := fun D σ H => ∃ (C : Ctx) (m : List Addr) (env : Env) (h : Hs) (Df : DEnds), C.K = K ∧ Rel C m σ H env h ∧ f Df env h ∧ EndsOk W C Df D
end
section
variable {K : PySem.W.Frag} {W : WX}
theorem seE {f : DE} : SE K W (tE K W f) f := ⟨fun C m σ H env h Q E Q' eK R hf p px => ⟨C, m, env, h, Q, E, eK, R, hf, p, px⟩⟩
theorem stT {f : DT} : ST K W (tT K W f) f := ⟨fun C m σ H env h Q E Q' eK R hf p px => ⟨C, m, env, h, Q, E, eK, R, hf, p, px⟩⟩
theorem saA {f : DA} : SA K W (tA K W f) f := ⟨fun C m σ H env h Q E Q' eK R hf p px => ⟨C, m, env, h, Q, E, eK, R, hf, p, px⟩⟩
theorem siI {f : DI} : SI K W (tI K W f) f := ⟨fun C m σ H env h Q E Q' eK R hf p px => ⟨C, m, env, h, Q, E, eK, R, hf, p, px⟩⟩
theorem skK {f : DE} : SKp K W (tK K W f) f := ⟨fun C m σ H env h Q E Q' eK R hf p px => ⟨C, m, env, h, Q, E, eK, R, hf, p, px⟩⟩
theorem soO {f : DO} : SO K W (tO K W f) f := ⟨fun C m σ H env h Q E Q' eK R hf p px => ⟨C, m, env, h, Q, E, eK, R, hf, p, px⟩⟩
theorem ssS {f : DS} : SS K W (tS K W f) f := ⟨fun C m σ H env h Df D eK R hf p => ⟨C, m, env, h, Df, eK, R, hf, p⟩⟩
end
section
variable (X : Cx) (W : WX)
def PEd (e : Expr) (f : DE) : Prop := PE X e (tE X.K W f)
def PTd (e : Expr) (f : DT) : Prop := PT X e (tT X.K W f)
def PWd (e : Expr) (f : DT) : Prop := PW X e (tT X.K W f)
def PTsd (es : List Expr) (f : DT) : Prop := PTs X es (tT X.K W f)
def PAd (es : List Expr) (f : DA) : Prop := PA X es (tA X.K W f)
def PId (tg e : Expr) (f : DI) : Prop := PI X tg e (tI X.K W f)
def PKd (e : Expr) (f : DE) : Prop := PE X e (tK X.K W f)
def POd (e : Option Expr) (f : DO) : Prop := PO X e (tO X.K W f)
def PSd (s : Stmt) (f : DS) : Prop := PS X s (tS X.K W f)
def PSsd (s : List Stmt) (f : DS) : Prop := PSs X s (tS X.K W f)
end
section
variable {X : Cx} {W : WX} {e : Expr} {t : TE} {f : DE}
theorem PEd.of (h : PE X e t) (s : SE X.K W t f) : PEd X W e f := ⟨fun pins st σ H Q I ⟨C, m, env, h', Qd, E, eK, R, hf, p, px⟩ => h.run pins st σ H Q I (s.run C m σ H env h' Qd E Q eK R hf p px)⟩
theorem PKd.of (h : PE X e t) (s : SKp X.K W t f) : PKd X W e f := ⟨fun pins st σ H Q I ⟨C, m, env, h', Qd, E, eK, R, hf, p, px⟩ => h.run pins st σ H Q I (s.run C m σ H env h' Qd E Q eK R hf p px)⟩
theorem PTd.of {t : TT} {f : DT} (h : PT X e t) (s : ST X.K W t f) : PTd X W e f := ⟨fun pins st σ H Q I ⟨C, m, env, h', Qd, E, eK, R, hf, p, px⟩ => h.run pins st σ H Q I (s.run C m σ H env h' Qd E Q eK R hf p px)⟩
theorem PWd.of {t : TT} {f : DT} (h : PW X e t) (s : ST X.K W t f) : PWd X W e f := ⟨fun wh pins st σ H Q I ⟨C, m, env, h', Qd, E, eK, R, hf, p, px⟩ => h.run wh pins st σ H Q I (s.run C m σ H env h' Qd E Q eK R hf p px)⟩
theorem PTsd.of {es : List Expr} {t : TT} {f : DT} (h : PTs X es t) (s : ST X.K W t f) : PTsd X W es f := ⟨fun pins st σ H Q I ⟨C, m, env, h', Qd, E, eK, R, hf, p, px⟩ => h.run pins st σ H Q I (s.run C m σ H env h' Qd E Q eK R hf p px)⟩
theorem PAd.of {es : List Expr} {t : TA} {f : DA} (h : PA X es t) (s : SA X.K W t f) : PAd X W es f := ⟨fun pos pins st σ H Q I ⟨C, m, env, h', Qd, E, eK, R, hf, p, px⟩ => h.run pos pins st σ H Q I (s.run C m σ H env h' Qd E Q eK R hf p px)⟩
theorem PId.of {tg : Expr} {t : TI} {f : DI} (h : PI X tg e t) (s : SI X.K W t f) : PId X W tg e f := ⟨fun pins st σ H Q I ⟨C, m, env, h', Qd, E, eK, R, hf, p, px⟩ => h.run pins st σ H Q I (s.run C m σ H env h' Qd E Q eK R hf p px)⟩
theorem POd.of {e : Option Expr} {t : TO} {f : DO} (h : PO X e t) (s : SO X.K W t f) : POd X W e f := ⟨fun pins st σ H Q I ⟨C, m, env, h', Qd, E, eK, R, hf, p, px⟩ => h.run pins st σ H Q I (s.run C m σ H env h' Qd E Q eK R hf p px)⟩
theorem PSd.of {st : Stmt} {t : TS} {f : DS} (h : PS X st t) (s : SS X.K W t f) : PSd X W st f := ⟨fun pins s' σ H D I ⟨C, m, env, h', Df, eK, R, hf, p⟩ => h.run pins s' σ H D I (s.run C m σ H env h' Df D eK R hf p)⟩
theorem PSsd.of {st : List Stmt} {t : TS} {f : DS} (h : PSs X st t) (s : SS X.K W t f) : PSsd X W st f := ⟨fun pins s' σ H D I ⟨C, m, env, h', Df, eK, R, hf, p⟩ => h.run pins s' σ H D I (s.run C m σ H env h' Df D eK R hf p)⟩
end

/-! ### the rules -/
section
variable {X : Cx} {W : WX} {a b c e : Expr} {fa fb fc fe : DE} {pos : Pos}
theorem pd_var (i : Nat) {x : Str} (hN : X.N[i]? = some x := by rfl) (hv : Vis X.env.scope x := by first | exact Or.inl rfl | exact Or.inr (Or.inl rfl) | exact Or.inr (Or.inr rfl)) (hd : (x == ("__debug__" : Str)) = false := by decide)
    (hcd : (x == ("__classdict__" : Str)) = false := by decide) : PEd X W (.Name x pos) (dVar i) := .of (pe_var hN hv hd hcd) (se_var i)
theorem pk_var (i : Nat) {x : Str} (hN : X.N[i]? = some x := by rfl) (hv : Vis X.env.scope x := by first | exact Or.inl rfl | exact Or.inr (Or.inl rfl) | exact Or.inr (Or.inr rfl)) (hd : (x == ("__debug__" : Str)) = false := by decide)
    (hcd : (x == ("__classdict__" : Str)) = false := by decide) : PKd X W (.Name x pos) (dKV i) := .of (pe_var hN hv hd hcd) (sk_v i)
theorem pk_e (h : PEd X W e fe) : PKd X W e (dKE fe) := .of h (sk_e seE)
theorem pd_int {i : Int} {j} : PEd X W (.Constant (.int i) j pos) (dC (.int i)) := .of pe_int se_int
theorem pd_bl {i : Bool} {j} : PEd X W (.Constant (.bool i) j pos) (dC (.bl i)) := .of pe_bl se_bl
theorem pd_non {j} : PEd X W (.Constant .none j pos) (dC .non) := .of pe_non se_non
theorem pd_str {i : Str} {j} : PEd X W (.Constant (.str i) j pos) (dC (.str i)) := .of pe_str se_str
/-- a constant of the module -/
structure GC (K : PySem.W.Frag) (mg : Str → Option Value) (x : Str) (p : PV) : Prop where
  at_ : ∃ (v : V) (u : Value), mg x = some u ∧ RelV v u ∧ ∀ Ex m H, Rep K Ex m H v p
theorem pd_glob {x : Str} {p : PV} (G : GC X.K X.mg x p) (hg : Gl X x := by rfl) (hd : (x == ("__debug__" : Str)) = false := by decide) : PEd X W (.Name x pos) (dC p) := by
  obtain ⟨v, u, hm, r, k⟩ := G.at_
  exact .of (pe_glob hg hm r hd) (se_c k)
theorem pd_add (ha : PEd X W a fa) (hb : PEd X W b fb) : PEd X W (.BinOp a .Add b pos) (dOp gAdd fa fb) := .of (pe_op op_addA ha hb) (se_op os_add seE seE)
theorem pd_sub (ha : PEd X W a fa) (hb : PEd X W b fb) : PEd X W (.BinOp a .Sub b pos) (dOp gSub fa fb) := .of (pe_op op_sub ha hb) (se_op os_sub seE seE)
theorem pd_mul (ha : PEd X W a fa) (hb : PEd X W b fb) : PEd X W (.BinOp a .Mult b pos) (dOp gMul fa fb) := .of (pe_op op_mulA ha hb) (se_op os_mul seE seE)
theorem pd_fdiv (ha : PEd X W a fa) (hb : PEd X W b fb) : PEd X W (.BinOp a .FloorDiv b pos) (dOp gFdiv fa fb) := .of (pe_op op_fdivW ha hb) (se_op os_fdiv seE seE)
theorem pd_mod (ha : PEd X W a fa) (hb : PEd X W b fb) : PEd X W (.BinOp a .Mod b pos) (dOp gMod fa fb) := .of (pe_op op_mod ha hb) (se_op os_mod seE seE)
theorem pd_pow (ha : PEd X W a fa) (hb : PEd X W b fb) : PEd X W (.BinOp a .Pow b pos) (dOp gPow fa fb) := .of (pe_op op_pow ha hb) (se_op os_pow seE seE)
theorem pd_neg (ha : PEd X W a fa) : PEd X W (.UnaryOp .USub a pos) (dUn gNeg fa) := .of (pe_un un_neg ha) (se_un us_neg seE)
/-! comparisons: the operator's pair -/
structure CmpD (X : Cx) (op : CmpOp) (g : G2) : Prop where
  ok : ∃ r, OpR X (compareOp op) r ∧ OpS X.K r g
theorem cd_lt : CmpD X .Lt gLt := ⟨_, op_lt, os_lt⟩
theorem cd_le : CmpD X .LtE gLe := ⟨_, op_le, os_le⟩
theorem cd_gt : CmpD X .Gt gGt := ⟨_, op_gt, os_gt⟩
theorem cd_ge : CmpD X .GtE gGe := ⟨_, op_ge, os_ge⟩
theorem cd_eq (hu : X.A.units + 65 < cLine) : CmpD X .Eq gEq := ⟨_, op_eqD (by omega), os_eq⟩
theorem cd_ne (hu : X.A.units + 65 < cLine) : CmpD X .NotEq gNe := ⟨_, op_neD (by omega), os_ne⟩
theorem cd_in (hu : X.A.units + 65 < cLine) : CmpD X .In gIn := ⟨_, op_inAll hu, os_inAll⟩
theorem cd_notIn (hu : X.A.units + 65 < cLine) : CmpD X .NotIn gNotIn := ⟨_, op_notInAll hu, os_notInAll⟩
theorem cd_is : CmpD X .Is (gIsN false) := ⟨_, op_isN, os_isN⟩
theorem cd_isNot : CmpD X .IsNot (gIsN true) := ⟨_, op_notN, os_notN⟩
theorem pd_cmp {op : CmpOp} {g : G2} (o : CmpD X op g) (ha : PEd X W a fa) (hb : PEd X W b fb) (hm : behindInMarks op b = false := by first | exact nobehind _ (by decide) (by decide) | rfl | with_unfolding_all rfl) : PEd X W (.Compare a [op] [b] pos) (dOp g fa fb) := by
  obtain ⟨r, h1, h2⟩ := o.ok
  exact .of (pe_cmpR h1 ha hb hm) (se_op h2 seE seE)
theorem ptd_cmp {op : CmpOp} {g : G2} (o : CmpD X op g) (ha : PEd X W a fa) (hb : PEd X W b fb) (hm : behindInMarks op b = false := by first | exact nobehind _ (by decide) (by decide) | rfl | with_unfolding_all rfl) : PTd X W (.Compare a [op] [b] pos) (dTst (dOp g fa fb)) := by
  obtain ⟨r, h1, h2⟩ := o.ok
  exact .of (pt_cmpR h1 ha hb hm) (st_tst (se_op h2 seE seE))
theorem pd_chain {op op' : CmpOp} {g g' : G2} (o : CmpD X op g) (o' : CmpD X op' g') (ha : PEd X W a fa) (hb : PEd X W b fb) (hc : PEd X W c fc) (hm : lastMarks [op, op'] [b, c] = false := by with_unfolding_all rfl) : PEd X W (.Compare a [op, op'] [b, c] pos) (dChain g g' fa fb fc) := by
  obtain ⟨r, h1, h2⟩ := o.ok
  obtain ⟨r', h1', h2'⟩ := o'.ok
  exact .of (pe_chain h1 h1' ha hb hc hm) (se_chain h2 h2' seE seE seE)
theorem ptd_chain {op op' : CmpOp} {g g' : G2} (o : CmpD X op g) (o' : CmpD X op' g') (ha : PEd X W a fa) (hb : PEd X W b fb) (hc : PEd X W c fc) (hm : lastMarks [op, op'] [b, c] = false := by with_unfolding_all rfl) : PTd X W (.Compare a [op, op'] [b, c] pos) (dTst (dChain g g' fa fb fc)) := by
  obtain ⟨r, h1, h2⟩ := o.ok
  obtain ⟨r', h1', h2'⟩ := o'.ok
  exact .of (pt_chain h1 h1' ha hb hc hm) (st_tst (se_chain h2 h2' seE seE seE))
/-! tests -/
theorem ptd_tru (h : PEd X W e fe) (he : ∀ whole, isTrue e X.env whole = (do let v ← whole; standAt e.pos; holding [v] (truthy v)) := by intro _; rfl) : PTd X W e (dTru fe) := .of (pt_truth h he) (st_tru seE)
variable {ta tb : DT} {rest : List Expr}
theorem pwd_and1 (ha : PTd X W a ta) : PWd X W (.BoolOp .And [a] pos) ta := .of (pw_and1 ha) stT
theorem pwd_or1 (ha : PTd X W a ta) : PWd X W (.BoolOp .Or [a] pos) ta := .of (pw_or1 ha) stT
theorem pwd_and (ha : PTd X W a ta) (hb : PWd X W (.BoolOp .And (b :: rest) pos) tb) : PWd X W (.BoolOp .And (a :: b :: rest) pos) (dAnd ta tb) := .of (pw_and ha hb) (st_and stT stT)
theorem pwd_or (ha : PTd X W a ta) (hb : PWd X W (.BoolOp .Or (b :: rest) pos) tb) : PWd X W (.BoolOp .Or (a :: b :: rest) pos) (dOr ta tb) := .of (pw_or ha hb) (st_or stT stT)
theorem PWd.pt (h : PWd X W e ta) : PTd X W e ta := PW.pt h
theorem ptd_not (ha : PTd X W a ta) : PTd X W (.UnaryOp .Not a pos) (dNot ta) := .of (pt_not ha) (st_not stT)
/-! .. as values -/
theorem pd_one {op} (h : PEd X W a fa) : PEd X W (.BoolOp op [a] pos) fa := .of (pe_one h) seE
theorem pd_and (ha : PEd X W a fa) (hb : PEd X W (.BoolOp .And (b :: rest) pos) fb) : PEd X W (.BoolOp .And (a :: b :: rest) pos) (dAndV fa fb) := .of (pe_and ha hb) (se_and seE seE)
theorem pd_or (ha : PEd X W a fa) (hb : PEd X W (.BoolOp .Or (b :: rest) pos) fb) : PEd X W (.BoolOp .Or (a :: b :: rest) pos) (dOrV fa fb) := .of (pe_or ha hb) (se_or seE seE)
theorem pd_not (ha : PEd X W a fa) : PEd X W (.UnaryOp .Not a pos) (dNotV fa) := .of (pe_not ha) (se_not seE)
/-! displays, items, slices -/
variable {es : List Expr} {fs : DA}
theorem pad_nil : PAd X W [] dNil := .of pa_nil sa_nil
theorem pad_cons (ha : PEd X W e fe) (hr : PAd X W es fs) (hs : starEach (e :: es) X.env = (false, eval e X.env) :: starEach es X.env := by rfl) : PAd X W (e :: es) (dCons fe fs) := .of (pa_cons ha hr hs) (sa_cons seE saA)
theorem pd_tup {x1} (h : PAd X W es fs) : PEd X W (.Tuple es x1 pos) (dTup fs) := .of (pe_tup h) (se_tup saA)
theorem pd_lst (h : PAd X W es fs) : PEd X W (.List es pos) (dLst fs) := .of (pe_lst h) (se_lst saA)
theorem pd_ix (ha : PEd X W a fa) (hb : PEd X W b fb) (hs : PlainIx b := by exact fun _ _ => rfl) : PEd X W (.Subscript a b pos) (dOp gIx fa fb) := .of (pe_ix ix_seq ha hb hs) (se_op os_ix seE seE)
variable {lo hi : Option Expr} {fl fh : DO} {p2 : Pos}
theorem pod_none : POd X W none dNoPart := .of po_none so_none
theorem pod_some (h : PEd X W e fe) : POd X W (some e) (dPart fe) := .of (po_some h) (so_some seE)
theorem pd_sl (he : PEd X W e fe) (hl : POd X W lo fl) (hh : POd X W hi fh) : PEd X W (.Subscript e (.Slice lo hi none p2) pos) (dSl fe fl fh) := .of (pe_slice sl_all he hl hh) (se_sl seE soO soO)
theorem pd_alloc (h : PEd X W e fe) : PEd X W e (dAlloc fe) := .of h (se_alloc seE)
theorem pd_frz (h : PEd X W e fe) : PEd X W e (dFrz fe) := .of h (se_frz seE)
/-! what is walked -/
variable {tg : Expr}
theorem pid_it (h : PKd X W e fe) : PId X W tg e (dIt fe) := .of (pi_seq h) (si_it skK)
theorem pid_rng1 {p : Pos} (hm : X.mg "range" = none) (ha : PEd X W a fa) (hg : Gl X "range" := by rfl) (hs : starEach [a] X.env = [(false, eval a X.env)] := by rfl) : PId X W tg (.Call (.Name "range" p) [a] [] pos) (dRng1 fa) :=
  .of (pi_range1 hg hm (pa_cons ha pa_nil hs) hs) (si_rng1 seE)
theorem pid_rng2 {p : Pos} (hm : X.mg "range" = none) (ha : PEd X W a fa) (hb : PEd X W b fb) (hg : Gl X "range" := by rfl) (hs : starEach [a, b] X.env = [(false, eval a X.env), (false, eval b X.env)] := by rfl) (hs2 : starEach [b] X.env = [(false, eval b X.env)] := by rfl) :
    PId X W tg (.Call (.Name "range" p) [a, b] [] pos) (dRng2 fa fb) := .of (pi_range2 hg hm (pa_cons ha (pa_cons hb pa_nil hs2) (by rw [hs, hs2])) hs hs2) (si_rng2 seE seE)
theorem pid_zip {p tpos : Pos} {elts : List Expr} {kk : Nat} (hm : X.mg "zip" = none) (ha : PKd X W a fa) (hb : PKd X W b fb) (hg : Gl X "zip" := by rfl) (hs : starEach [a, b] X.env = (false, eval a X.env) :: starEach [b] X.env := by rfl) (hs2 : starEach [b] X.env = (false, eval b X.env) :: starEach [] X.env := by rfl)
    (hpl : (backTo pos (starEach [b] X.env)).any (·.1) = false := by rfl) : PId X W (.Tuple elts kk tpos) (.Call (.Name "zip" p) [a, b] [] pos) (dZip fa fb) := .of (RZ.pi_zipA hg hm (pa_cons ha (pa_cons hb pa_nil hs2) hs) hs hpl) (si_zip skK skK)
theorem pid_enum {p tpos : Pos} {elts : List Expr} {kk : Nat} (hm : X.mg "enumerate" = none) (ha : PKd X W a fa) (hg : Gl X "enumerate" := by rfl) (hs : starEach [a] X.env = [(false, eval a X.env)] := by rfl) :
    PId X W (.Tuple elts kk tpos) (.Call (.Name "enumerate" p) [a] [] pos) (dEnum fa) := .of (pi_enum hg hm (pa_cons ha pa_nil hs) hs) (si_enum skK)
/-! comprehensions -/
structure PGd (X : Cx) (vs : List Nat) (tg : Expr) (f : DB) : Prop where
  ok : ∃ g, PG X tg g ∧ SG X.K vs g f
theorem pgd_name (i : Nat) {x : Str} (hN : X.N.Nodup) (hi : X.N[i]? = some x := by rfl) (hx : Loc X.env.scope x := by first | exact .inl rfl | exact .inr rfl) (hf : X.fn x = true ∨ X.env.scope.names.lookup x = some .local := by first | exact .inl rfl | exact .inr rfl | assumption) : PGd X [i] (.Name x pos) (bName i) :=
  ⟨_, pg_name hN hi hx hf, sg_name i⟩
theorem pgd_tup2 (i j : Nat) {x y : Str} {p q : Pos} {k : Nat} (hc : X.calm = true) (hN : X.N.Nodup) (hi : X.N[i]? = some x := by rfl) (hj : X.N[j]? = some y := by rfl) (hx : Loc X.env.scope x := by first | exact .inl rfl | exact .inr rfl) (hy : Loc X.env.scope y := by first | exact .inl rfl | exact .inr rfl)
    (hf : X.fn x = true ∨ X.env.scope.names.lookup x = some .local := by first | exact .inl rfl | exact .inr rfl | assumption) (hf2 : X.fn y = true ∨ X.env.scope.names.lookup y = some .local := by first | exact .inl rfl | exact .inr rfl | assumption) :
    PGd X [i, j] (.Tuple [.Name x p, .Name y q] k pos) (bTup2 i j) := ⟨_, pg_tup hc (pgs_cons (pg_name hN hi hx hf) (pgs_cons (pg_name hN hj hy hf2) pgs_nil)), sg_tup2 i j⟩
theorem pgd_tup3 (i j l : Nat) {x y z : Str} {p q r : Pos} {k : Nat} (hc : X.calm = true) (hN : X.N.Nodup) (hi : X.N[i]? = some x := by rfl) (hj : X.N[j]? = some y := by rfl) (hl : X.N[l]? = some z := by rfl) (hx : Loc X.env.scope x := by first | exact .inl rfl | exact .inr rfl) (hy : Loc X.env.scope y := by first | exact .inl rfl | exact .inr rfl) (hz : Loc X.env.scope z := by first | exact .inl rfl | exact .inr rfl)
    (hf : X.fn x = true ∨ X.env.scope.names.lookup x = some .local := by first | exact .inl rfl | exact .inr rfl | assumption) (hf2 : X.fn y = true ∨ X.env.scope.names.lookup y = some .local := by first | exact .inl rfl | exact .inr rfl | assumption) (hf3 : X.fn z = true ∨ X.env.scope.names.lookup z = some .local := by first | exact .inl rfl | exact .inr rfl | assumption) :
    PGd X [i, j, l] (.Tuple [.Name x p, .Name y q, .Name z r] k pos) (bTup3 i j l) := ⟨_, pg_tup hc (pgs_cons (pg_name hN hi hx hf) (pgs_cons (pg_name hN hj hy hf2) (pgs_cons (pg_name hN hl hz hf3) pgs_nil))), sg_tup3 i j l⟩
theorem ptsd_nil : PTsd X W [] dYes := .of pts_nil st_yes
theorem ptsd_one {t : DT} (h : PTd X W e t) : PTsd X W [e] t := .of (pts_one h) stT
/-- the rules of a block hold whatever the block's beginning: the context's parts of a block -/
abbrev BlkAll (X : Cx) (scope : Scope) (P : Cx → Prop) : Prop := ∀ (s : Shared) (H : Hp) (C : Addr) (cl : List (Str × Addr)) (fp : List Addr), P (X.blk s H scope (compEnvC scope cl C X.env) fp)
theorem PGd.all {scope : Scope} {tg : Expr} {vs : List Nat} {bd : DB} (h : BlkAll X scope fun Y => PGd Y vs tg bd) : ∃ g, (BlkAll X scope fun Y => PG Y tg g) ∧ SG X.K vs g bd := by
  refine ⟨fun x σ H Q => ∀ (s : Shared) (H0 : Hp) (C : Addr) (cl : List (Str × Addr)) (fp : List Addr), Classical.choose (h s H0 C cl fp).ok x σ H Q, fun s H0 C cl fp => ?_, ⟨fun C m σ H env h' x p q Q eK R r hf k s H0 C' cl fp => ?_⟩⟩
  · have z := (Classical.choose_spec (h s H0 C cl fp).ok).1
    exact ⟨fun pins s' σ H x u Q I r q => z.run pins s' σ H x u Q I r (q s H0 C cl fp)⟩
  · exact (Classical.choose_spec (h s H0 C' cl fp).ok).2.run C m σ H env h' x p q Q eK R r hf k
theorem pd_lc {elt iter : Expr} {ifs : List Expr} {scope : Scope} {own : List (Str × Nat)} {vs : List Nat} {fi : DI} {bd : DB} {ft : DT} (hc : X.calm = true) (hN : X.N.Nodup) (ok : BlkOk X.N X.env.scope scope own) (ev : own.map (·.2) = vs) (hi : PId X W tg iter fi)
    (hg : BlkAll X scope fun Y => PGd Y vs tg bd) (ht : BlkAll X scope fun Y => PTsd Y W0 ifs ft) (he : BlkAll X scope fun Y => PEd Y W0 elt fe) (hs : ∀ x, foldedSetIterable iter X.env x = pure x := by intro _; rfl) :
    PEd X W (.ListComp elt [⟨tg, iter, ifs, 0⟩] scope pos) (dLc fi vs bd ft fe) := by
  subst ev
  obtain ⟨g, h1, h2⟩ := PGd.all hg
  exact .of (pe_lc (tt := tT X.K W0 ft) (te := tE X.K W0 fe) hc hN hi ok h1 ht he hs) (se_lc siI h2 stT seE)
/-! calls -/
variable {x : Str} {p : Pos}
theorem pd_call {n k : Nat} {d : DF} {f : Addr} {fd : FuncData} {ps : List Str} (F : FnOk X.prog X.w X.K X.mg X.base CX0 k f fd ps (spD X.K n d)) (hr : Room k X.A) (hm : X.mg x = some (.ref f)) (hk : PySem.W.keepIn X.K (.ref f) = true) (hb : Binds X.K fd ps []) (ha : PAd X W (e :: es) fs)
    (hg : Gl X x := by rfl) (hdb : (x == ("__debug__" : Str)) = false := by decide) (he : starEach (e :: es) X.env = (false, eval e X.env) :: starEach es X.env := by rfl) (hpl : (backTo pos (starEach es X.env)).any (·.1) = false := by rfl) : PEd X W (.Call (.Name x p) (e :: es) [] pos) (dCall n d fs) :=
  .of (pe_call F hr hg hm hk hb .nil pass0 ha hdb he hpl) (se_call saA)
theorem pd_call0 {k : Nat} {d : DF} {f : Addr} {fd : FuncData} {ps : List Str} (F : FnOk X.prog X.w X.K X.mg X.base CX0 k f fd ps (spD X.K 0 d)) (hr : Room k X.A) (hm : X.mg x = some (.ref f)) (hk : PySem.W.keepIn X.K (.ref f) = true) (hb : Binds X.K fd ps [])
    (hg : Gl X x := by rfl) (hdb : (x == ("__debug__" : Str)) = false := by decide) : PEd X W (.Call (.Name x p) [] [] pos) (dCall 0 d dNil) :=
  .of (pe_call0 F hr hg hm hk hb .nil pass0 hdb) (se_call sa_nil)
/-- a built-in that is called by its name -/
theorem pd_cb {id : String} {r : List V → Hp → VK → Prop} {g : GL} (cr : CallR X (.builtin id) r) (cs : CallS X.K r g) (hv : bootBuiltins x = some (.builtin id)) (hm : X.mg x = none) (ha : PAd X W (e :: es) fs) (hg : Gl X x := by rfl) (hn : x ≠ "__name__" := by decide) (hdb : (x == ("__debug__" : Str)) = false := by decide)
    (he : starEach (e :: es) X.env = (false, eval e X.env) :: starEach es X.env := by rfl) (hpl : (backTo pos (starEach es X.env)).any (·.1) = false := by rfl) : PEd X W (.Call (.Name x p) (e :: es) [] pos) (dB g fs) := .of (pe_callB cr hg hm hv ha hn hdb he hpl) (se_cb cs saA)
theorem pd_ct {id : String} {r : List V → Hp → VK → Prop} {g : GL} (cr : CallR X (.type id) r) (cs : CallS X.K r g) (hv : bootBuiltins x = some (.type id)) (hm : X.mg x = none) (ha : PAd X W (e :: es) fs) (hg : Gl X x := by rfl) (hn : x ≠ "__name__" := by decide) (hdb : (x == ("__debug__" : Str)) = false := by decide)
    (he : starEach (e :: es) X.env = (false, eval e X.env) :: starEach es X.env := by rfl) (hpl : (backTo pos (starEach es X.env)).any (·.1) = false := by rfl) : PEd X W (.Call (.Name x p) (e :: es) [] pos) (dB g fs) := .of (pe_callTy cr hg hm hv ha hn hdb he hpl) (se_cb cs saA)
theorem boot_isi : bootBuiltins "isinstance" = some (.builtin "isinstance") := by decide +kernel
theorem pd_isi {t : Kd} {y : Str} {q : Pos} (hm : X.mg "isinstance" = none) (hv : bootBuiltins y = some (.type t.name)) (hm2 : X.mg y = none) (ha : PEd X W a fa) (hg : Gl X "isinstance" := by rfl) (hg2 : Gl X y := by rfl) (hn2 : y ≠ "__name__" := by decide) (hdb2 : (y == ("__debug__" : Str)) = false := by decide)
    (he : starEach [a, .Name y q] X.env = (false, eval a X.env) :: starEach [.Name y q] X.env := by rfl) (hpl : (backTo pos (starEach [.Name y q] X.env)).any (·.1) = false := by rfl) (hs2 : starEach [.Name y q] X.env = (false, eval (.Name y q) X.env) :: starEach [] X.env := by rfl) :
    PEd X W (.Call (.Name "isinstance" p) [a, .Name y q] [] pos) (dIsi t fa) := .of (pe_callB call_isi hg hm boot_isi (pa_cons ha (pa_cons (pe_bltn (v := .ty t.name) hg2 hm2 hv rfl hn2 hdb2) pa_nil hs2) he) (by decide) (by decide) he hpl) (se_isi seE)
end
/-! ### statements -/
section
variable {X : Cx} {W : WX} {a b c e o : Expr} {fa fb fc fe fo : DE} {pos : Pos} {st : Stmt} {rest : List Stmt} {f g : DS}
theorem psd_nil : PSsd X W [] sNil := .of pss_nil ss_nil
theorem psd_cons (h1 : PSd X W st f) (h2 : PSsd X W rest g) : PSsd X W (st :: rest) (sSeq f g) := .of (pss_cons h1 h2) (ss_seq ssS ssS)
theorem psd_one (h1 : PSd X W st f) : PSsd X W [st] f := .of (pss_one h1) ssS
theorem psd_frz (i : Nat) (h : PSd X W st f) : PSd X W st (sFrz i f) := .of h (ss_frz i ssS)
theorem psd_set (i : Nat) {x : Str} {pos' : Pos} (he : PEd X W e fe) (hN : X.N.Nodup) (hi : X.N[i]? = some x := by rfl) (hx : Loc X.env.scope x := by first | exact .inl rfl | exact .inr rfl) (hs : swapsWith e (some (.Name x pos')) pos.line X.env = pure false := by rfl)
    (hf : X.fn x = true ∨ X.env.scope.names.lookup x = some .local := by first | exact .inl rfl | exact .inr rfl | assumption) : PSd X W (.Assign [.Name x pos'] e pos) (sAsg i fe) := .of (ps_set hN hi hx he hs hf) (ss_asg i seE)
theorem psd_bind {tg : Expr} {vs : List Nat} {bd : DB} (hg : PGd X vs tg bd) (he : PEd X W e fe) (hs : swapsWithSole [tg] e pos.line X.env = pure false := by rfl) (hw : swappedStores [tg] e X.env = pure none := by rfl) (ha : (assignEach [tg] X.env).map (·.2) = [assign tg X.env] := by rfl) : PSd X W (.Assign [tg] e pos) (sBind bd fe) := by
  obtain ⟨g, h1, h2⟩ := hg.ok
  exact .of (ps_asg he h1 hs hw ha) (ss_bind h2 seE)
/-- y = [..] -/
theorem psd_setLc (i : Nat) {y : Str} {py : Pos} {elt tg iter : Expr} {ifs : List Expr} {scope : Scope} {own : List (Str × Nat)} {vs : List Nat} {spos : Pos} {fi : DI} {bd : DB} {ft : DT} (hc : X.calm = true) (hN : X.N.Nodup) (ok : BlkOk X.N X.env.scope scope own) (ev : own.map (·.2) = vs)
    (hsw : swapsWith (.ListComp elt [⟨tg, iter, ifs, 0⟩] scope pos) (some (.Name y py)) spos.line X.env = pure true) (hi : PId X W tg iter fi)
    (hg : BlkAll X scope fun Y => PGd Y vs tg bd) (ht : BlkAll X scope fun Y => PTsd Y W0 ifs ft) (he : BlkAll X scope fun Y => PEd Y W0 elt fe) (hy : X.N[i]? = some y := by rfl) (hyl : X.env.scope.names.lookup y = some .local := by rfl) (hs : ∀ x, foldedSetIterable iter X.env x = pure x := by intro _; rfl) :
    PSd X W (.Assign [.Name y py] (.ListComp elt [⟨tg, iter, ifs, 0⟩] scope pos) spos) (sAsg i (dLc fi vs bd ft fe)) := by
  subst ev
  obtain ⟨g, h1, h2⟩ := PGd.all hg
  exact .of (ps_setLc (tt := tT X.K W0 ft) (te := tE X.K W0 fe) hc hN hy hyl hsw hi ok h1 ht he hs) (ss_asg i (se_lc siI h2 stT seE))
theorem psd_expr (he : PEd X W e fe) (hs : swapsWith e none pos.line X.env = pure false := by rfl) : PSd X W (.Expr e pos) (sExpr fe) := .of (ps_expr he hs) (ss_expr seE)
theorem psd_ret (he : PEd X W e fe) : PSd X W (.Return (some e) pos) (sRet fe) := .of (ps_ret he) (ss_ret seE)
theorem psd_retN : PSd X W (.Return none pos) sRetN := .of ps_retN ss_retN
theorem psd_retV (i : Nat) {x : Str} {pos' : Pos} (hN : X.N[i]? = some x := by rfl) (hv : Vis X.env.scope x := by first | exact Or.inl rfl | exact Or.inr (Or.inl rfl) | exact Or.inr (Or.inr rfl)) (hd : (x == ("__debug__" : Str)) = false := by decide)
    (hcd : (x == ("__classdict__" : Str)) = false := by decide) : PSd X W (.Return (some (.Name x pos')) pos) (sRetV i) := .of (ps_ret (pe_var hN hv hd hcd)) (ss_retV i)
variable {fc' : DT} {s1 s2 : List Stmt}
theorem psd_if (hc : PTd X W c fc') (h1 : PSsd X W s1 f) (h2 : PSsd X W s2 g) : PSd X W (.If c s1 s2 pos) (sIf fc' f g) := .of (ps_if hc h1 h2) (ss_if stT ssS ssS)
theorem psd_pass : PSd X W (.Pass pos) sPass := .of ps_pass ss_pass
theorem psd_break : PSd X W (.Break pos) sBreak := .of ps_break ss_break
theorem psd_cont : PSd X W (.Continue pos) sCont := .of ps_continue ss_cont
theorem psd_while (hp : PassesOwn (model X.prog X.w) X.A X.env X.xe) (hc : PTd X W c fc') (hb : PSsd X W s1 f) : PSd X W (.While c s1 [] pos) (sWhile fc' f) := .of (ps_while hp hc hb) (ss_while stT ssS)
theorem psd_for {tg iter : Expr} {vs : List Nat} {bd : DB} {fi : DI} (hp : PassesOwn (model X.prog X.w) X.A X.env X.xe) (hc : X.calm = true) (hi : PId X W tg iter fi) (hg : PGd X vs tg bd) (hb : PSsd X W s1 f) (hs : ∀ x, foldedSetIterable iter X.env x = pure x := by intro _; rfl) : PSd X W (.For tg iter s1 [] pos) (sFor fi bd f) := by
  obtain ⟨g, h1, h2⟩ := hg.ok
  exact .of (ps_for hp hc hi h1 hb hs) (ss_for siI h2 ssS)
/-! lists change -/
variable {apos cpos : Pos}
theorem pe_app {to : TE} {t : TA} (ho : PE X o to) (ha : PA X [e] t) (hbase : attributeBase o "append" X.env (eval o X.env) = eval o X.env := by rfl)
    (hfew : ((backTo cpos (starEach [e] X.env)).all (fun x => !x.1) && (backToKw cpos (keywordEach [] X.env)).all (fun x => x.1.isSome) && decide (([e] : List Expr).length + ([] : List Keyword).length + (if ([] : List Keyword).isEmpty then 0 else 1) < 30)) = true := by rfl)
    (hline : (apos.endLine == cpos.line) = true := by rfl) (hs : starEach [e] X.env = (false, eval e X.env) :: starEach [] X.env := by rfl) (hplain : (backTo cpos (starEach [] X.env)).any (·.1) = false := by rfl) :
    PE X (.Call (.Attribute o "append" apos) [e] [] cpos) (tBM X.K "list" rAppend to t) := pe_bm PySem.F.plainAttrs_list PySem.F.slot_list_append PySem.F.type_list_append mt_append ho ha hbase hfew hline hs hplain
theorem psd_appV (i : Nat) {x : Str} {p : Pos} (he : PEd X W e fe) (hN : X.N[i]? = some x := by rfl) (hv : Vis X.env.scope x := by first | exact Or.inl rfl | exact Or.inr (Or.inl rfl) | exact Or.inr (Or.inr rfl)) (hd : (x == ("__debug__" : Str)) = false := by decide) (hcd : (x == ("__classdict__" : Str)) = false := by decide)
    (hbase : attributeBase (.Name x p) "append" X.env (eval (.Name x p) X.env) = eval (.Name x p) X.env := by rfl)
    (hfew : ((backTo cpos (starEach [e] X.env)).all (fun x => !x.1) && (backToKw cpos (keywordEach [] X.env)).all (fun x => x.1.isSome) && decide (([e] : List Expr).length + ([] : List Keyword).length + (if ([] : List Keyword).isEmpty then 0 else 1) < 30)) = true := by rfl)
    (hline : (apos.endLine == cpos.line) = true := by rfl) (hs : starEach [e] X.env = (false, eval e X.env) :: starEach [] X.env := by rfl) (hplain : (backTo cpos (starEach [] X.env)).any (·.1) = false := by rfl)
    (hsw : swapsWith (.Call (.Attribute (.Name x p) "append" apos) [e] [] cpos) none pos.line X.env = pure false := by rfl) :
    PSd X W (.Expr (.Call (.Attribute (.Name x p) "append" apos) [e] [] cpos) pos) (sAppV i fe) := .of (ps_expr (pe_app (pe_var hN hv hd hcd) (pa_cons he pa_nil hs) hbase hfew hline hs hplain) hsw) (ss_appV i seE)
theorem psd_appE (ho : PEd X W o fo) (he : PEd X W e fe) (hbase : attributeBase o "append" X.env (eval o X.env) = eval o X.env := by rfl)
    (hfew : ((backTo cpos (starEach [e] X.env)).all (fun x => !x.1) && (backToKw cpos (keywordEach [] X.env)).all (fun x => x.1.isSome) && decide (([e] : List Expr).length + ([] : List Keyword).length + (if ([] : List Keyword).isEmpty then 0 else 1) < 30)) = true := by rfl)
    (hline : (apos.endLine == cpos.line) = true := by rfl) (hs : starEach [e] X.env = (false, eval e X.env) :: starEach [] X.env := by rfl) (hplain : (backTo cpos (starEach [] X.env)).any (·.1) = false := by rfl)
    (hsw : swapsWith (.Call (.Attribute o "append" apos) [e] [] cpos) none pos.line X.env = pure false := by rfl) :
    PSd X W (.Expr (.Call (.Attribute o "append" apos) [e] [] cpos) pos) (sAppE fo fe) := .of (ps_expr (pe_app ho (pa_cons he pa_nil hs) hbase hfew hline hs hplain) hsw) (ss_appE seE seE)
variable {i : Expr} {fi : DE}
theorem psd_setV (k : Nat) {x : Str} {p tpos : Pos} (hi : PEd X W i fi) (he : PEd X W e fe) (hN : X.N[k]? = some x := by rfl) (hv : Vis X.env.scope x := by first | exact Or.inl rfl | exact Or.inr (Or.inl rfl) | exact Or.inr (Or.inr rfl)) (hd : (x == ("__debug__" : Str)) = false := by decide) (hcd : (x == ("__classdict__" : Str)) = false := by decide)
    (hs : swapsWithSole [.Subscript (.Name x p) i tpos] e pos.line X.env = pure false := by rfl) (hw : swappedStores [.Subscript (.Name x p) i tpos] e X.env = pure none := by rfl)
    (ha : ∀ v, assign (.Subscript (.Name x p) i tpos) X.env v = (do
      let ov ← holding [v] (eval (.Name x p) X.env)
      let iv ← holding [v, ov] (eval i X.env)
      standAt tpos
      holding [v, ov, iv] (setItem ov iv v)
      release [v, ov, iv] []) := by intro _; rfl) (ha1 : (assignEach [.Subscript (.Name x p) i tpos] X.env).map (·.2) = [assign (.Subscript (.Name x p) i tpos) X.env] := by rfl) :
    PSd X W (.Assign [.Subscript (.Name x p) i tpos] e pos) (sSetV k fi fe) := .of (ps_asg he (pg_sub (pe_var hN hv hd hcd) hi set_list ha) hs hw ha1) (ss_setV k seE seE)
theorem psd_setE {tpos : Pos} (ho : PEd X W o fo) (hi : PEd X W i fi) (he : PEd X W e fe) (hs : swapsWithSole [.Subscript o i tpos] e pos.line X.env = pure false := by rfl) (hw : swappedStores [.Subscript o i tpos] e X.env = pure none := by rfl)
    (ha : ∀ v, assign (.Subscript o i tpos) X.env v = (do
      let ov ← holding [v] (eval o X.env)
      let iv ← holding [v, ov] (eval i X.env)
      standAt tpos
      holding [v, ov, iv] (setItem ov iv v)
      release [v, ov, iv] []) := by intro _; rfl) (ha1 : (assignEach [.Subscript o i tpos] X.env).map (·.2) = [assign (.Subscript o i tpos) X.env] := by rfl) :
    PSd X W (.Assign [.Subscript o i tpos] e pos) (sSetE fo fi fe) := .of (ps_asg he (pg_sub ho hi set_list ha) hs hw ha1) (ss_setE seE seE seE)
end
section
variable {P : Program} {w : World} {K : PySem.W.Frag} {mg : Str → Option Value} {base : Heap}
/-- a def's promise from its body's denotation -/
theorem ok_defD {x qual : Str} {st : Stmt} {f : Addr} {fd : FuncData} {N ps : List Str} {k : Nat} {body : DS} (F : Fun K x qual st f fd) (S : FnScope N ps (defScope st))
    (hb : ∀ (X : Cx), X.prog = P → X.w = w → X.K = K → X.mg = mg → X.base = base → X.N = N → X.calm = true → Room k X.A → (∃ (cdv : Value) (A : Around) (outer : List PySem.Env) (s : Shared) (H : Hp) (E : XK), X = (cxOf CX0 P w K mg base N qual (defScope st) f cdv A outer s H E).nox) → PSsd X W0 (defBody st) body) :
    FnOk P w K mg base CX0 (k + 1) f fd ps (spD K ps.length (dDef ps.length (N.length - ps.length) body)) :=
  ok_def F S fun cdv A outer s H E hr => ⟨_, hb _ rfl rfl rfl rfl rfl rfl rfl hr ⟨cdv, A, outer, s, H, E, rfl⟩, ssS⟩
end
end PM

namespace PM
open PySem PySem.Spec L2
open PyProof.Rows hiding St

/-! ### a def that stands at a name of the module -/
structure DefAt (K : PySem.W.Frag) (mg : Str → Option Value) (x : Str) (st : Stmt) (ps : List Str) : Prop where
  at_ : ∃ (f : Addr) (fd : FuncData), Fun K x x st f fd ∧ mg x = some (.ref f) ∧ Binds K fd ps []
structure FnAt (P : Program) (w : World) (K : PySem.W.Frag) (mg : Str → Option Value) (base : Heap) (k : Nat) (x : Str) (n : Nat) (d : DF) : Prop where
  at_ : ∃ (f : Addr) (fd : FuncData) (ps : List Str), mg x = some (.ref f) ∧ PySem.W.keepIn K (.ref f) = true ∧ Binds K fd ps [] ∧ FnOk P w K mg base CX0 k f fd ps (spD K n d)
theorem u65 {k : Nat} {A : Around} (r : Room k A) : A.units + 65 < cLine := by
  have := r.un
  omega
section
variable {P : Program} {w : World} {K : PySem.W.Frag} {mg : Str → Option Value} {base : Heap}
theorem FnAt.mk' {x : Str} {st : Stmt} {N ps : List Str} {k : Nat} {body : DS} (D : DefAt K mg x st ps) (S : FnScope N ps (defScope st))
    (hb : ∀ (f : Addr) (cdv : Value) (A : Around) (outer : List PySem.Env) (s : Shared) (H : Hp) (E : XK), Room k (A.deeper (envOfC x (defScope st) s.heap.objs.size f cdv)) → PSsd (cxOf CX0 P w K mg base N x (defScope st) f cdv A outer s H E).nox W0 (defBody st) body) :
    FnAt P w K mg base (k + 1) x ps.length (dDef ps.length (N.length - ps.length) body) := by
  obtain ⟨f, fd, F, hm, hb'⟩ := D.at_
  exact ⟨f, fd, ps, hm, F.kp, hb', ok_def F S fun cdv A outer s H E hr => ⟨_, hb f cdv A outer s H E hr, ssS⟩⟩
theorem fnOk_mk {x : Str} {st : Stmt} {f : Addr} {fd : FuncData} {N ps : List Str} {k : Nat} {body : DS} (F : Fun K x x st f fd) (S : FnScope N ps (defScope st))
    (hb : ∀ (f : Addr) (cdv : Value) (A : Around) (outer : List PySem.Env) (s : Shared) (H : Hp) (E : XK), Room k (A.deeper (envOfC x (defScope st) s.heap.objs.size f cdv)) → PSsd (cxOf CX0 P w K mg base N x (defScope st) f cdv A outer s H E).nox W0 (defBody st) body) :
    FnOk P w K mg base CX0 (k + 1) f fd ps (spD K ps.length (dDef ps.length (N.length - ps.length) body)) := ok_def F S fun cdv A outer s H E hr => ⟨_, hb f cdv A outer s H E hr, ssS⟩
theorem relInt {i : Int} {t : Tok} : RelV (.int i) (.int i t) := ⟨t, rfl⟩
theorem relStr {z : Str} {t : Tok} : RelV (.str z) (.str z t) := ⟨t, rfl⟩
/-- the law's beginning: the script alone -/
theorem law_start {H : Hp} {a : Addr} {ns : List Int} {d : DF} {E : XK} (hS : SqL K H a (ns.map V.int)) (hd : d [.scr ns] [] (fun sv _ => sv = .val (.bl true)) fun _ _ => False) : spD K 1 d [.ref a] H (fun v _ => v = .bl true) E := by
  have no : ∀ {b : Addr}, ¬ OwnAt [some (V.ref a)] [some (SV.scr ns)] b := fun {b} ⟨i, xs, e, _⟩ => by
    cases i with
    | zero => cases e
    | succ i => simp at e
  refine ⟨rfl, fun _ => False, [], [], [.scr ns], _, ⟨rfl, fun i sv e => ?_, fun p hp => (nomatch hp), fun i j xs ys a e1 _ s1 _ => absurd ⟨i, xs, e1, s1⟩ no, ⟨rfl, List.nodup_nil, fun n a c e _ => by simp at e⟩, fun b o e _ => e, fun b q => q, ⟨[], rfl, by simp⟩, fun b q => q.elim False.elim False.elim, fun b q => q.elim False.elim False.elim⟩, hd, fun m' v H' sv h' _ _ r q => ?_⟩
  · cases i with
    | zero =>
      cases e
      refine ⟨.ref a, rfl, ⟨a, rfl, ?_⟩, fun b _ => .inr ⟨no, fun q => q⟩⟩
      rcases hS with hS | hS
      · exact .inl ⟨hS, by simp⟩
      · exact .inr fun H' => .inr hS
    | succ i => simp at e
  · subst q
    cases r
    rfl
end
section
variable {X : Cx} {W : WX} {e : Expr} {es : List Expr} {fs : DA} {pos p : Pos} {x : Str}
theorem pd_callF {n k k' : Nat} {d : DF} (F : FnAt X.prog X.w X.K X.mg X.base k x n d) (hr : Room k' X.A) (hk : k ≤ k') (ha : PAd X W (e :: es) fs)
    (hg : Gl X x := by rfl) (hdb : (x == ("__debug__" : Str)) = false := by decide) (he : starEach (e :: es) X.env = (false, eval e X.env) :: starEach es X.env := by rfl) (hpl : (backTo pos (starEach es X.env)).any (·.1) = false := by rfl) : PEd X W (.Call (.Name x p) (e :: es) [] pos) (dCall n d fs) := by
  obtain ⟨f, fd, ps, hm, kp, hb, G⟩ := F.at_
  exact pd_call G (hr.mono hk) hm kp hb ha hg hdb he hpl
theorem pd_callF0 {k k' : Nat} {d : DF} (F : FnAt X.prog X.w X.K X.mg X.base k x 0 d) (hr : Room k' X.A) (hk : k ≤ k') (hg : Gl X x := by rfl) (hdb : (x == ("__debug__" : Str)) = false := by decide) : PEd X W (.Call (.Name x p) [] [] pos) (dCall 0 d dNil) := by
  obtain ⟨f, fd, ps, hm, kp, hb, G⟩ := F.at_
  exact pd_call0 G (hr.mono hk) hm kp hb hg hdb
/-! the built-ins -/
abbrev BNone (X : Cx) (x : Str) : Prop := X.mg x = none
theorem bt_len : bootBuiltins "len" = some (.builtin "len") := by decide +kernel
theorem bt_max : bootBuiltins "max" = some (.builtin "max") := by decide +kernel
theorem bt_min : bootBuiltins "min" = some (.builtin "min") := by decide +kernel
theorem bt_sum : bootBuiltins "sum" = some (.builtin "sum") := by decide +kernel
theorem bt_all : bootBuiltins "all" = some (.builtin "all") := by decide +kernel
theorem bt_any : bootBuiltins "any" = some (.builtin "any") := by decide +kernel
theorem bt_ord : bootBuiltins "ord" = some (.builtin "ord") := by decide +kernel
theorem bt_int : bootBuiltins "int" = some (.type "int") := by decide +kernel
theorem bt_str : bootBuiltins "str" = some (.type "str") := by decide +kernel
theorem bt_bool : bootBuiltins "bool" = some (.type "bool") := by decide +kernel
theorem bt_list : bootBuiltins "list" = some (.type "list") := by decide +kernel
theorem bt_tuple : bootBuiltins "tuple" = some (.type "tuple") := by decide +kernel
theorem bt_dict : bootBuiltins "dict" = some (.type "dict") := by decide +kernel
variable (hm : X.mg x = none)
theorem pd_len (hm : X.mg "len" = none) (ha : PAd X W (e :: es) fs) (hg : Gl X "len" := by rfl) (he : starEach (e :: es) X.env = (false, eval e X.env) :: starEach es X.env := by rfl) (hpl : (backTo pos (starEach es X.env)).any (·.1) = false := by rfl) : PEd X W (.Call (.Name "len" p) (e :: es) [] pos) (dB (g1 gLen) fs) :=
  pd_cb call_len (cs_1 us_len) bt_len hm ha hg (by decide) (by decide) he hpl
theorem pd_max (hc : X.calm = true) (hm : X.mg "max" = none) (ha : PAd X W (e :: es) fs) (hg : Gl X "max" := by rfl) (he : starEach (e :: es) X.env = (false, eval e X.env) :: starEach es X.env := by rfl) (hpl : (backTo pos (starEach es X.env)).any (·.1) = false := by rfl) : PEd X W (.Call (.Name "max" p) (e :: es) [] pos) (dB gMax fs) :=
  pd_cb (cr_maxA hc) cs_max bt_max hm ha hg (by decide) (by decide) he hpl
theorem pd_min (hc : X.calm = true) (hm : X.mg "min" = none) (ha : PAd X W (e :: es) fs) (hg : Gl X "min" := by rfl) (he : starEach (e :: es) X.env = (false, eval e X.env) :: starEach es X.env := by rfl) (hpl : (backTo pos (starEach es X.env)).any (·.1) = false := by rfl) : PEd X W (.Call (.Name "min" p) (e :: es) [] pos) (dB gMin fs) :=
  pd_cb (cr_minA hc) cs_min bt_min hm ha hg (by decide) (by decide) he hpl
theorem pd_sum (hc : X.calm = true) (hm : X.mg "sum" = none) (ha : PAd X W (e :: es) fs) (hg : Gl X "sum" := by rfl) (he : starEach (e :: es) X.env = (false, eval e X.env) :: starEach es X.env := by rfl) (hpl : (backTo pos (starEach es X.env)).any (·.1) = false := by rfl) : PEd X W (.Call (.Name "sum" p) (e :: es) [] pos) (dB (g1 gSum) fs) :=
  pd_cb (cr_sum hc) (cs_1 us_sum) bt_sum hm ha hg (by decide) (by decide) he hpl
theorem pd_all (hc : X.calm = true) (hm : X.mg "all" = none) (ha : PAd X W (e :: es) fs) (hg : Gl X "all" := by rfl) (he : starEach (e :: es) X.env = (false, eval e X.env) :: starEach es X.env := by rfl) (hpl : (backTo pos (starEach es X.env)).any (·.1) = false := by rfl) : PEd X W (.Call (.Name "all" p) (e :: es) [] pos) (dB (g1 gAll) fs) :=
  pd_cb (cr_all hc) (cs_1 us_all) bt_all hm ha hg (by decide) (by decide) he hpl
theorem pd_any (hc : X.calm = true) (hm : X.mg "any" = none) (ha : PAd X W (e :: es) fs) (hg : Gl X "any" := by rfl) (he : starEach (e :: es) X.env = (false, eval e X.env) :: starEach es X.env := by rfl) (hpl : (backTo pos (starEach es X.env)).any (·.1) = false := by rfl) : PEd X W (.Call (.Name "any" p) (e :: es) [] pos) (dB (g1 gAny) fs) :=
  pd_cb (cr_any hc) (cs_1 us_any) bt_any hm ha hg (by decide) (by decide) he hpl
theorem pd_ord (hm : X.mg "ord" = none) (ha : PAd X W (e :: es) fs) (hg : Gl X "ord" := by rfl) (he : starEach (e :: es) X.env = (false, eval e X.env) :: starEach es X.env := by rfl) (hpl : (backTo pos (starEach es X.env)).any (·.1) = false := by rfl) : PEd X W (.Call (.Name "ord" p) (e :: es) [] pos) (dB (g1 gOrd) fs) :=
  pd_cb call_ord (cs_1 us_ord) bt_ord hm ha hg (by decide) (by decide) he hpl
theorem pd_int1 (hm : X.mg "int" = none) (ha : PAd X W (e :: es) fs) (hg : Gl X "int" := by rfl) (he : starEach (e :: es) X.env = (false, eval e X.env) :: starEach es X.env := by rfl) (hpl : (backTo pos (starEach es X.env)).any (·.1) = false := by rfl) : PEd X W (.Call (.Name "int" p) (e :: es) [] pos) (dB (g1 gInt1) fs) :=
  pd_ct call_int1 (cs_1 us_int1) bt_int hm ha hg (by decide) (by decide) he hpl
theorem pd_list (hm : X.mg "list" = none) (ha : PAd X W (e :: es) fs) (hg : Gl X "list" := by rfl) (he : starEach (e :: es) X.env = (false, eval e X.env) :: starEach es X.env := by rfl) (hpl : (backTo pos (starEach es X.env)).any (·.1) = false := by rfl) : PEd X W (.Call (.Name "list" p) (e :: es) [] pos) (dB (g1 gList) fs) :=
  pd_ct call_list_of (cs_1 us_list) bt_list hm ha hg (by decide) (by decide) he hpl
theorem pd_tuple (hm : X.mg "tuple" = none) (ha : PAd X W (e :: es) fs) (hg : Gl X "tuple" := by rfl) (he : starEach (e :: es) X.env = (false, eval e X.env) :: starEach es X.env := by rfl) (hpl : (backTo pos (starEach es X.env)).any (·.1) = false := by rfl) : PEd X W (.Call (.Name "tuple" p) (e :: es) [] pos) (dB (g1 gTuple) fs) :=
  pd_ct call_tuple_of (cs_1 us_tuple) bt_tuple hm ha hg (by decide) (by decide) he hpl
end
end PM

namespace PM
open PySem PySem.Spec L2
open PyProof.Rows hiding St
section
variable {K : PySem.W.Frag} {W : WX}
def rIns : V → List V → Hp → VK → Prop := fun x vs H Q => ∃ (l : Addr) (xs : List V) (i : Int) (y : V), x = .ref l ∧ vs = [.int i, y] ∧ H l = some (.lst xs) ∧ xs.length < sizeLine ∧ 0 ≤ i ∧ i < 2 ^ 63 ∧
    Q .non (upd H l (.lst (xs.take i.toNat ++ [y] ++ xs.drop i.toNat)))
/-- x.insert(j, e), x a name that holds a list of its own -/
def sInsV (i : Nat) (fj e : DE) : DS := fun D env h => match env[i]? with
  | some (some (.own xs)) => fj env h (fun j h1 => match j with
      | .val (.int k) => e env h1 (fun y h2 => match y.toVal with
          | some p => xs.length < sizeLine ∧ 0 ≤ k ∧ k < 2 ^ 63 ∧ D.nx (env.set i (some (.own (xs.take k.toNat ++ [p] ++ xs.drop k.toNat)))) h2
          | none => False) fun c h2 => D.ex c env h2
      | _ => False) fun c h1 => D.ex c env h1
  | _ => False
@[simp ↓] theorem sInsV_eq (i : Nat) (fj e : DE) (D : DEnds) (env : Env) (h : Hs) : sInsV i fj e D env h = (match env[i]? with
  | some (some (.own xs)) => fj env h (fun j h1 => match j with
      | .val (.int k) => e env h1 (fun y h2 => match y.toVal with
          | some p => xs.length < sizeLine ∧ 0 ≤ k ∧ k < 2 ^ 63 ∧ D.nx (env.set i (some (.own (xs.take k.toNat ++ [p] ++ xs.drop k.toNat)))) h2
          | none => False) fun c h2 => D.ex c env h2
      | _ => False) fun c h1 => D.ex c env h1
  | _ => False) := id rfl
theorem ss_insV {tj te : TE} {fj fe : DE} (i : Nat) (hj : SE K W tj fj) (he : SE K W te fe) : SS K W (tDrop (tBM K "list" rIns (tVar i) (tCons tj (tCons te tNil)))) (sInsV i fj fe) := ⟨fun C m σ H env h Df D eK R hf p => by
  unfold sInsV at hf
  split at hf
  · rename_i xs e0
    obtain ⟨a, vs, s0, ha, _⟩ := R.owned e0
    refine ⟨_, s0, .inl ⟨rfl, vs, .inl (.inl ha)⟩, ?_⟩
    refine hj.run C m σ H env h _ _ _ eK R hf (fun m0 j H0 sj h0 S0 R0 r0 q0 => ?_) p.px
    split at q0
    · rename_i k
      cases r0
      refine he.run C m0 σ H0 env h0 _ _ _ eK R0.drop q0 (fun m1 y H1 sy h1 S1 R1 r1 q1 => ?_) p.px
      split at q1
      · rename_i pv ep
        obtain ⟨l, k0, k1, q1⟩ := q1
        obtain ⟨a1, vs1, s1, ha1, q3⟩ := R1.drop.owned e0
        rw [s0] at s1
        cases s1
        have ry := R0.drop.toVal r1 ep
        refine ⟨a, vs1, k, y, rfl, rfl, ha1, by rw [q3.length]; exact l, k0, k1, ?_⟩
        exact p.nx m1 σ _ _ h1 (R1.drop.mutOwn e0 s0 (((q3.take _).append (.cons ry .nil)).append (q3.drop _))) q1
      · exact q1.elim
    · exact q0.elim
  · exact hf.elim⟩
end
section
variable {X : Cx} {W : WX} {e j : Expr} {fe fj : DE} {apos cpos pos : Pos}
theorem pe_ins {to : TE} {o : Expr} {t : TA} (ho : PE X o to) (ha : PA X [j, e] t) (hbase : attributeBase o "insert" X.env (eval o X.env) = eval o X.env := by rfl)
    (hfew : ((backTo cpos (starEach [j, e] X.env)).all (fun x => !x.1) && (backToKw cpos (keywordEach [] X.env)).all (fun x => x.1.isSome) && decide (([j, e] : List Expr).length + ([] : List Keyword).length + (if ([] : List Keyword).isEmpty then 0 else 1) < 30)) = true := by rfl)
    (hline : (apos.endLine == cpos.line) = true := by rfl) (hs : starEach [j, e] X.env = (false, eval j X.env) :: starEach [e] X.env := by rfl) (hplain : (backTo cpos (starEach [e] X.env)).any (·.1) = false := by rfl) :
    PE X (.Call (.Attribute o "insert" apos) [j, e] [] cpos) (tBM X.K "list" rIns to t) := pe_bm PySem.F.plainAttrs_list PySem.F.slot_list_insert PySem.F.type_list_insert mt_insert ho ha hbase hfew hline hs hplain
theorem psd_insV (i : Nat) {x : Str} {p : Pos} (hj : PEd X W j fj) (he : PEd X W e fe) (hN : X.N[i]? = some x := by rfl) (hv : Vis X.env.scope x := by first | exact Or.inl rfl | exact Or.inr (Or.inl rfl) | exact Or.inr (Or.inr rfl)) (hd : (x == ("__debug__" : Str)) = false := by decide) (hcd : (x == ("__classdict__" : Str)) = false := by decide)
    (hbase : attributeBase (.Name x p) "insert" X.env (eval (.Name x p) X.env) = eval (.Name x p) X.env := by rfl)
    (hfew : ((backTo cpos (starEach [j, e] X.env)).all (fun x => !x.1) && (backToKw cpos (keywordEach [] X.env)).all (fun x => x.1.isSome) && decide (([j, e] : List Expr).length + ([] : List Keyword).length + (if ([] : List Keyword).isEmpty then 0 else 1) < 30)) = true := by rfl)
    (hline : (apos.endLine == cpos.line) = true := by rfl) (hs : starEach [j, e] X.env = (false, eval j X.env) :: starEach [e] X.env := by rfl) (hplain : (backTo cpos (starEach [e] X.env)).any (·.1) = false := by rfl)
    (hs1 : starEach [e] X.env = (false, eval e X.env) :: starEach [] X.env := by rfl)
    (hsw : swapsWith (.Call (.Attribute (.Name x p) "insert" apos) [j, e] [] cpos) none pos.line X.env = pure false := by rfl) :
    PSd X W (.Expr (.Call (.Attribute (.Name x p) "insert" apos) [j, e] [] cpos) pos) (sInsV i fj fe) := .of (ps_expr (pe_ins (pe_var hN hv hd hcd) (pa_cons hj (pa_cons he pa_nil hs1) hs) hbase hfew hline hs hplain) hsw) (ss_insV i seE seE)
end
end PM

namespace PM
open PySem PySem.Spec L2
open PyProof.Rows hiding St
theorem tuple_mul0 (l : Addr) (items : Array Value) (n : Nat) (dd : Option Addr) (sl : Array (Option Value)) (u : Tok) (c1 : items.isEmpty = false) :
    Meets (Builtin.«tuple.__mul__» ⟨[.ref l, .int 0 u], []⟩) (fun _ R s => s.heap.get? l = some { cls := .type "tuple", dict := dd, data := .seq items n, slots := sl } ∧
      R (.ok (.ret (Value.ref s.heap.objs.size))) { s with heap := s.heap.push { cls := Value.type "tuple", data := Data.seq #[] }, toks := s.toks }) :=
  .of_wp fun prog w A R s h => by
    obtain ⟨hp, g, d, tk, os⟩ := s
    obtain ⟨hl, h⟩ := h
    have f1 := AutoSeq1.idx_int
    have c0 : (decide ((0 : Int) < -(2 ^ 63)) || decide ((0 : Int) ≥ 2 ^ 63)) = false := by decide
    have c2 : (items.isEmpty || (0 : Int) == 1) = false := by rw [c1]; rfl
    wp_walk using wpAny_loadPart' hl
    repeat (first
      | (refine wpAny_ite_false (decide_eq_false (by rw [c0]; exact Bool.false_ne_true)) ?_; wp_walk using wpAny_loadPart' hl)
      | (refine wpAny_ite_false (decide_eq_false (by rw [c2]; exact Bool.false_ne_true)) ?_; wp_walk using wpAny_loadPart' hl)
      | (refine wpAny_ite_true (decide_eq_true (by rfl)) ?_; wp_walk using wpAny_loadPart' hl))
    exact ⟨_, rfl, h⟩
theorem tuple_mul1 (l : Addr) (items : Array Value) (n : Nat) (dd : Option Addr) (sl : Array (Option Value)) (u : Tok) :
    Meets (Builtin.«tuple.__mul__» ⟨[.ref l, .int 1 u], []⟩) (fun _ R s => s.heap.get? l = some { cls := .type "tuple", dict := dd, data := .seq items n, slots := sl } ∧
      R (.ok (.ret (Value.ref l))) s) :=
  .of_wp fun prog w A R s h => by
    obtain ⟨hp, g, d, tk, os⟩ := s
    obtain ⟨hl, h⟩ := h
    have f1 := AutoSeq1.idx_int
    have c0 : (decide ((1 : Int) < -(2 ^ 63)) || decide ((1 : Int) ≥ 2 ^ 63)) = false := by decide
    have c2 : (items.isEmpty || (1 : Int) == 1) = true := by cases items.isEmpty <;> rfl
    wp_walk using wpAny_loadPart' hl
    repeat (first
      | (refine wpAny_ite_false (decide_eq_false (by rw [c0]; exact Bool.false_ne_true)) ?_; wp_walk using wpAny_loadPart' hl)
      | (refine wpAny_ite_true (decide_eq_true c2) ?_; wp_walk using wpAny_loadPart' hl)
      | (refine wpAny_ite_true (decide_eq_true (by rfl)) ?_; wp_walk using wpAny_loadPart' hl))
    exact ⟨_, rfl, h⟩
section
variable {X : Cx}
def rRepT0 (K : PySem.W.Frag) : R2 := fun x y H Q => ∃ l xs, x = .ref l ∧ y = .int 0 ∧ SqT K H l xs ∧ xs ≠ [] ∧ ∀ p, H p = none → Q (.ref p) (upd H p (.tup []))
def rRepT1 (K : PySem.W.Frag) : R2 := fun x y H Q => ∃ l xs, x = .ref l ∧ y = .int 1 ∧ SqT K H l xs ∧ Q (.ref l) H
theorem op_repT0 : OpR X (binaryOp .Mult) (rRepT0 X.K) := by
  intro pins s σ H x y v u Q I rx ry h
  obtain ⟨l, xs, rfl, rfl, hT, hne, q⟩ := h
  cases rx
  obtain ⟨t, rfl⟩ := ry
  obtain ⟨its, r, ⟨⟨cls, dd, data, sl⟩, ho, hc, n, hd⟩, hs⟩ := I.tuple hT
  simp only at hc hd
  subst hc hd
  have hle : its.length = xs.length := r.length.symm
  have hn : its ≠ [] := fun e => hne (by
    rw [e] at hle
    exact List.eq_nil_of_length_eq_zero hle.symm)
  have hi : its.toArray.isEmpty = false := by
    cases its with
    | nil => exact absurd rfl hn
    | cons a b => rfl
  refine wpAny_binaryOp_repeat_ref (T := "tuple") (U := "int") (by decide) ⟨_, ho, rfl⟩ (fun s' => typeIs_int s' 0 t) noFill_tuple_mul F.fills_int_mul F.slot_int_rmul repeat_tuple F.slot_int_index.lookup
    (call_meets F.slot_int_rmul (typeIs_int s 0 t) F.entry_int_rmul (F.args_int_rmul_2 _ _) (int_rmul_tuple 0 t l its.toArray n dd sl)
      ⟨ho, rfl, ⟨_, ho, rfl⟩, call_meets F.slot_tuple_mul ⟨_, ho, rfl⟩ F.entry_tuple_mul (F.args_tuple_mul_2 _ _) (tuple_mul0 l its.toArray n dd sl t hi) ⟨ho, ?_⟩⟩)
  refine ⟨.ref s.heap.objs.size, _, I.laid (t' := s.toks) (o := .tup []) (fun b ob q => Heap.get?_push_of_some _ q) (Nat.le_refl _) ?_, rfl, q _ (I.hok.fresh (Nat.le_refl _))⟩
  exact ⟨Nat.zero_le _, [], .nil, IsTup.new _ _⟩
theorem op_repT1 : OpR X (binaryOp .Mult) (rRepT1 X.K) := by
  intro pins s σ H x y v u Q I rx ry h
  obtain ⟨l, xs, rfl, rfl, hT, q⟩ := h
  cases rx
  obtain ⟨t, rfl⟩ := ry
  obtain ⟨its, r, ⟨⟨cls, dd, data, sl⟩, ho, hc, n, hd⟩, hs⟩ := I.tuple hT
  simp only at hc hd
  subst hc hd
  exact wpAny_binaryOp_repeat_ref (T := "tuple") (U := "int") (by decide) ⟨_, ho, rfl⟩ (fun s' => typeIs_int s' 1 t) noFill_tuple_mul F.fills_int_mul F.slot_int_rmul repeat_tuple F.slot_int_index.lookup
    (call_meets F.slot_int_rmul (typeIs_int s 1 t) F.entry_int_rmul (F.args_int_rmul_2 _ _) (int_rmul_tuple 1 t l its.toArray n dd sl)
      ⟨ho, rfl, ⟨_, ho, rfl⟩, call_meets F.slot_tuple_mul ⟨_, ho, rfl⟩ F.entry_tuple_mul (F.args_tuple_mul_2 _ _) (tuple_mul1 l its.toArray n dd sl t) ⟨ho, ⟨.ref l, H, I, rfl, q⟩⟩⟩)
def repS (k : Nat) (z : Str) : Str := ⟨(List.replicate k z.cps).foldl (· ++ ·) #[]⟩
def rRepS : R2 := fun x y H Q => ∃ z k, x = .str z ∧ y = .int k ∧ 0 ≤ k ∧ k ≤ 1000 ∧ 0 < z.length ∧ z.length ≤ 1000 ∧ Q (.str (repS k.toNat z)) H
theorem op_repS : OpR X (binaryOp .Mult) rRepS := by
  intro pins s σ H x y v u Q I rx ry h
  obtain ⟨z, k, rfl, rfl, h1, h2, h3, hz, q⟩ := h
  obtain ⟨t0, rfl⟩ := rx
  obtain ⟨t, rfl⟩ := ry
  by_cases k0 : k = 0
  · subst k0
    refine PySem.P.mul_str_none (by decide) (by decide) ⟨.str (repS 0 z), H, I.tok _, ⟨s.toks, ?_⟩, q⟩
    rfl
  by_cases k1 : k = 1
  · subst k1
    refine PySem.P.mul_str (by decide) (fun _ z => absurd z (by simp)) (fun _ z => absurd z (by simp)) ?_
    rw [if_neg (by decide), if_pos (by rfl)]
    refine ⟨.str (repS 1 z), H, I, ⟨t0, ?_⟩, q⟩
    have : repS 1 z = z := by
      unfold repS
      cases z
      simp
    rw [this]
  have e1 : ¬ k < 1 := by omega
  have e2 : (k == 1 || z.length == 0) = false := by
    rw [beq_eq_false_iff_ne.mpr (by omega : k ≠ 1), beq_eq_false_iff_ne.mpr (by omega : z.length ≠ 0)]
    rfl
  refine PySem.P.mul_str (by rw [decide_eq_false (by omega), decide_eq_false (by omega)]; rfl) (fun _ _ => ?_) (fun _ _ => ?_) ?_
  · have a0 : ((z.length : Nat) : Int) * k ≤ 1000 * k := Int.mul_le_mul_of_nonneg_right (by omega) (by omega)
    have : ((z.length : Nat) : Int) ≤ (2 ^ 63 - 1) / k := Int.le_ediv_of_mul_le (by omega) (by omega)
    omega
  · unfold Builtin.Str.tooLong
    have a1 : z.length * k.toNat ≤ 1000 * 1000 := Nat.mul_le_mul hz (by omega)
    rw [sizeLine_eq]
    exact decide_eq_false (by omega)
  · rw [if_neg e1, e2, if_neg (by decide)]
    refine ⟨?_, ?_⟩
    · have e : (List.foldl (fun x1 x2 => x1 ++ x2) #[] (List.replicate k.toNat z.cps)).size = k.toNat * z.length := by
        have g : ∀ (n : Nat) (a acc : Array Nat), (List.foldl (fun x1 x2 => x1 ++ x2) acc (List.replicate n a)).size = acc.size + n * a.size := fun n a => by
          induction n with
          | zero => intro acc; simp
          | succ n ih => intro acc; rw [List.replicate_succ, List.foldl_cons, ih, Array.size_append, Nat.succ_mul]; omega
        have := g k.toNat z.cps #[]
        rw [this]
        simp [Str.length]
      show (List.foldl (fun x1 x2 => x1 ++ x2) #[] (List.replicate k.toNat z.cps)).size ≤ sizeLine
      have a1 : k.toNat * z.length ≤ 1000 * 1000 := Nat.mul_le_mul (by omega) hz
      rw [e, sizeLine_eq]
      omega
    · exact ⟨.str (repS k.toNat z), H, I.tok _, ⟨_, rfl⟩, q⟩
def rMulX (K : PySem.W.Frag) : R2 := fun x y H Q => rMulA K x y H Q ∨ rRepT0 K x y H Q ∨ rRepT1 K x y H Q ∨ rRepS x y H Q
theorem op_mulX2 : OpR X (binaryOp .Mult) (rMulX X.K) := op_mulA.or (op_repT0.or (op_repT1.or op_repS))
end
/-- * : ints, a tuple and an int not below 0, a list and an int, a text and an int not below 0 -/
def gMulX : G2 := fun h x y q => match x, y with
  | .val (.int i), .val (.int j) => CMul i j ∧ q (.val (.int (i * j)))
  | .val (.str z), .val (.int k) => 0 ≤ k ∧ k ≤ 1000 ∧ 0 < z.length ∧ z.length ≤ 1000 ∧ q (.val (.str (repS k.toNat z)))
  | .val (.tup xs), .val (.int k) => xs ≠ [] ∧ 0 ≤ k ∧ k ≤ 1000 ∧ xs.length ≤ 1000 ∧ q (.val (.tup (repN k.toNat xs)))
  | .own xs, .val (.int k) => -(2 ^ 63) ≤ k ∧ k < 2 ^ 63 ∧ xs.length * k.toNat ≤ sizeLine ∧ q (.own (repN k.toNat xs))
  | _, _ => False
@[simp ↓] theorem gMulX_eq (h : Hs) (x y : SV) (q : SV → Prop) : gMulX h x y q = (match x, y with
  | .val (.int i), .val (.int j) => CMul i j ∧ q (.val (.int (i * j)))
  | .val (.str z), .val (.int k) => 0 ≤ k ∧ k ≤ 1000 ∧ 0 < z.length ∧ z.length ≤ 1000 ∧ q (.val (.str (repS k.toNat z)))
  | .val (.tup xs), .val (.int k) => xs ≠ [] ∧ 0 ≤ k ∧ k ≤ 1000 ∧ xs.length ≤ 1000 ∧ q (.val (.tup (repN k.toNat xs)))
  | .own xs, .val (.int k) => -(2 ^ 63) ≤ k ∧ k < 2 ^ 63 ∧ xs.length * k.toNat ≤ sizeLine ∧ q (.own (repN k.toNat xs))
  | _, _ => False) := id rfl
theorem os_mulX {K : PySem.W.Frag} : OpS K (rMulX K) gMulX := fun C m σ H env h x y sx sy q Q' eK R rx ry hg p => by
  have base := os_mul C m σ H env h x y sx sy q Q' eK R rx ry
  subst eK
  unfold gMulX at hg
  split at hg
  · exact .inl (base hg p)
  · cases rx; cases ry
    exact .inr (.inr (.inr ⟨_, _, rfl, rfl, hg.1, hg.2.1, hg.2.2.1, hg.2.2.2.1, p.str R hg.2.2.2.2⟩))
  · rename_i xs k
    obtain ⟨hne, h0, h1, h2, hq⟩ := hg
    by_cases k2 : 2 ≤ k
    · exact .inl (base ⟨hne, k2, h1, h2, hq⟩ p)
    · cases rx with
      | tup ha qa =>
        cases ry
        have hn : ∀ vs, RepL C.K (ExOf C σ env m) m H vs xs → vs ≠ [] := fun vs r e => hne (by subst e; cases r; rfl)
        by_cases k1 : k = 1
        · subst k1
          rw [show repN (1 : Int).toNat xs = xs by simp [repN]] at hq
          exact .inr (.inr (.inl ⟨_, _, rfl, rfl, ha.sq, p.at R (.tup ha qa) hq⟩))
        · obtain rfl : k = 0 := by omega
          rw [show repN (0 : Int).toNat xs = [] by simp [repN]] at hq
          exact .inr (.inl ⟨_, _, rfl, rfl, ha.sq, hn _ qa, fun a n => p.newT R .nil hq n⟩)
  · exact .inl (base hg p)
  · exact hg.elim
section
variable {X : Cx} {W : WX} {a b : Expr} {fa fb : DE} {pos : Pos}
theorem pd_mulX (ha : PEd X W a fa) (hb : PEd X W b fb) : PEd X W (.BinOp a .Mult b pos) (dOp gMulX fa fb) := .of (pe_op op_mulX2 ha hb) (se_op os_mulX seE seE)
end
/-! abs -/
def gAbs : G1 := fun _ x q => match x with
  | .val (.int i) => q (.val (.int (if i < 0 then -i else i)))
  | _ => False
@[simp ↓] theorem gAbs_eq (h : Hs) (x : SV) (q : SV → Prop) : gAbs h x q = (match x with
  | .val (.int i) => q (.val (.int (if i < 0 then -i else i)))
  | _ => False) := id rfl
theorem us_abs {K : PySem.W.Frag} : UnS K (fun x H Q => ∃ i, [x] = [V.int i] ∧ Q (.int (if i < 0 then -i else i)) H) gAbs := fun C m σ H env h x sx q Q' eK R rx hg p => by
  subst eK
  unfold gAbs at hg
  split at hg
  · cases rx
    exact ⟨_, rfl, p.int R hg⟩
  · exact hg.elim
theorem bt_abs : bootBuiltins "abs" = some (.builtin "abs") := by decide +kernel
section
variable {X : Cx} {W : WX} {e : Expr} {es : List Expr} {fs : DA} {p pos : Pos}
theorem pd_abs (hm : X.mg "abs" = none) (ha : PAd X W (e :: es) fs) (hg : Gl X "abs" := by rfl) (he : starEach (e :: es) X.env = (false, eval e X.env) :: starEach es X.env := by rfl) (hpl : (backTo pos (starEach es X.env)).any (·.1) = false := by rfl) : PEd X W (.Call (.Name "abs" p) (e :: es) [] pos) (dB (g1 gAbs) fs) :=
  pd_cb call_abs (cs_1 us_abs) bt_abs hm ha hg (by decide) (by decide) he hpl
end
end PM

namespace PM
open PySem PySem.Spec L2
open PyProof.Rows hiding St

/-! ### words for evaluation -/
@[simp] theorem blsOf_mapf {α : Type} (l : List α) (f : α → Bool) : blsOf (l.map fun a => .bl (f a)) = some (l.map f) := by
  induction l with
  | nil => rfl
  | cons a l ih => simp [blsOf, ih]
@[simp] theorem intsOf_mapf {α : Type} (l : List α) (f : α → Int) : intsOf (l.map fun a => .int (f a)) = some (l.map f) := by
  induction l with
  | nil => rfl
  | cons a l ih => simp [intsOf, ih]
section
variable {chk : Hs → Prop} {bd : DB} {tt : DT} {te : DE} {env : Env} {h : Hs} {Q : List PV → Hs → Prop}
/-- a comprehension that changes nothing -/
theorem compL_eq {α : Type} (e1 : α → Env) (sv : α → SV) (f g : α → PV) (hc : chk h) (hsv : ∀ a, (sv a).toVal = some (g a)) : ∀ (l : List α) (acc : List PV), (∀ a ∈ l, ∀ q, bd (f a) env q = q (e1 a)) → (∀ a ∈ l, ∀ Q E, te (e1 a) h Q E = Q (sv a) h) → acc.length + l.length ≤ sizeLine →
    compL chk bd dYes te env (l.map f) acc h Q = Q (acc ++ l.map g) h
  | [], acc, _, _, _ => by simp [hc]
  | a :: l, acc, hb, he, hl => by
    have ih := compL_eq e1 sv f g hc hsv l (acc ++ [g a]) (fun b m => hb b (List.mem_cons_of_mem _ m)) (fun b m => he b (List.mem_cons_of_mem _ m)) (by simp at hl ⊢; omega)
    have l1 : acc.length < sizeLine := by simp at hl; omega
    rw [List.map_cons, compL, hb a List.mem_cons_self]
    simp only [dYes, if_true, he a List.mem_cons_self, hsv, hc, l1, true_and, ih]
    simp
/-- .. with a test -/
theorem compL_feq {α : Type} (e1 : α → Env) (sv : α → SV) (f g : α → PV) (p : α → Bool) (hc : chk h) (hsv : ∀ a, (sv a).toVal = some (g a)) : ∀ (l : List α) (acc : List PV), (∀ a ∈ l, ∀ q, bd (f a) env q = q (e1 a)) → (∀ a ∈ l, ∀ Q E, tt (e1 a) h Q E = Q (p a) h) → (∀ a ∈ l, p a = true → ∀ Q E, te (e1 a) h Q E = Q (sv a) h) → acc.length + l.length ≤ sizeLine →
    compL chk bd tt te env (l.map f) acc h Q = Q (acc ++ (l.filter p).map g) h
  | [], acc, _, _, _, _ => by simp [hc]
  | a :: l, acc, hb, ht, he, hl => by
    have l1 : acc.length < sizeLine := by simp at hl; omega
    rw [List.map_cons, compL, hb a List.mem_cons_self]
    simp only [ht a List.mem_cons_self, hc, true_and]
    by_cases pa : p a = true
    · have ih := compL_feq e1 sv f g p hc hsv l (acc ++ [g a]) (fun b m => hb b (List.mem_cons_of_mem _ m)) (fun b m => ht b (List.mem_cons_of_mem _ m)) (fun b m => he b (List.mem_cons_of_mem _ m)) (by simp at hl ⊢; omega)
      simp only [pa, if_true, he a List.mem_cons_self pa, hsv, l1, true_and, ih]
      simp [List.filter_cons, pa]
    · have ih := compL_feq e1 sv f g p hc hsv l acc (fun b m => hb b (List.mem_cons_of_mem _ m)) (fun b m => ht b (List.mem_cons_of_mem _ m)) (fun b m => he b (List.mem_cons_of_mem _ m)) (by simp at hl ⊢; omega)
      simp only [pa, if_false, ih]
      simp [List.filter_cons, pa]
theorem compL_id (e1 : PV → Env) (sv : PV → SV) (g : PV → PV) (hc : chk h) (hsv : ∀ a, (sv a).toVal = some (g a)) (l : List PV) (hb : ∀ a ∈ l, ∀ q, bd a env q = q (e1 a)) (he : ∀ a ∈ l, ∀ Q E, te (e1 a) h Q E = Q (sv a) h) (hl : l.length ≤ sizeLine) :
    compL chk bd dYes te env l [] h Q = Q (l.map g) h := by
  have := compL_eq (Q := Q) e1 sv (fun x => x) g hc hsv l [] hb he (by simpa using hl)
  simpa using this
theorem compL_fid (e1 : PV → Env) (sv : PV → SV) (g : PV → PV) (p : PV → Bool) (hc : chk h) (hsv : ∀ a, (sv a).toVal = some (g a)) (l : List PV) (hb : ∀ a ∈ l, ∀ q, bd a env q = q (e1 a)) (ht : ∀ a ∈ l, ∀ Q E, tt (e1 a) h Q E = Q (p a) h) (he : ∀ a ∈ l, p a = true → ∀ Q E, te (e1 a) h Q E = Q (sv a) h) (hl : l.length ≤ sizeLine) :
    compL chk bd tt te env l [] h Q = Q ((l.filter p).map g) h := by
  have := compL_feq (Q := Q) e1 sv (fun x => x) g p hc hsv l [] hb ht he (by simpa using hl)
  simpa using this
/-- any comprehension, by what holds after each turn -/
theorem compL_inv (I : Nat → List PV → Hs → Prop) : ∀ (xs : List PV) (j : Nat) (acc : List PV) (h : Hs), I j acc h →
    (∀ i x, xs[i]? = some x → ∀ acc h, I (j + i) acc h → ∀ N : List PV → Hs → Prop, (∀ acc' h', I (j + i + 1) acc' h' → N acc' h') → chk h ∧ bd x env fun env1 => tt env1 h (fun b h1 => if b = true then te env1 h1 (fun y h2 => match y.toVal with
      | some p => acc.length < sizeLine ∧ N (acc ++ [p]) h2
      | none => False) (fun _ _ => False) else N acc h1) (fun _ _ => False)) →
    (∀ acc h, I (j + xs.length) acc h → chk h ∧ Q acc h) → compL chk bd tt te env xs acc h Q
  | [], j, acc, h, i0, _, he => he acc h i0
  | x :: xs, j, acc, h, i0, hs, he => by
    rw [compL]
    exact hs 0 x rfl acc h i0 _ fun acc' h' i1 => compL_inv I xs (j + 1) acc' h' i1 (fun i y e acc h q N hN => hs (i + 1) y e acc h (by rw [show j + (i + 1) = j + 1 + i by omega]; exact q) N fun a b c => hN a b (by rw [show j + 1 + i + 1 = j + (i + 1) + 1 by omega]; exact c)) fun acc h q => he acc h (by rw [List.length_cons, show j + (xs.length + 1) = j + 1 + xs.length by omega]; exact q)
/-- a for, by what holds after each turn -/
theorem forL_inv {b : DS} {D : DEnds} (I : Nat → Env → Hs → Prop) : ∀ (xs : List PV) (j : Nat) (env : Env) (h : Hs), I j env h →
    (∀ i x, xs[i]? = some x → ∀ env h, I (j + i) env h → ∀ N : Env → Hs → Prop, (∀ env' h', I (j + i + 1) env' h' → N env' h') → chk h ∧ bd x env fun env1 => b { D with nx := N, ct := N, bk := D.nx } env1 h) →
    (∀ env h, I (j + xs.length) env h → chk h ∧ D.nx env h) → forL chk bd b D xs env h
  | [], j, env, h, i0, _, he => he env h i0
  | x :: xs, j, env, h, i0, hs, he => by
    rw [forL]
    exact hs 0 x rfl env h i0 _ fun env' h' i1 => forL_inv I xs (j + 1) env' h' i1 (fun i y e env h q N hN => hs (i + 1) y e env h (by rw [show j + (i + 1) = j + 1 + i by omega]; exact q) N fun a b c => hN a b (by rw [show j + 1 + i + 1 = j + (i + 1) + 1 by omega]; exact c)) fun env h q => he env h (by rw [List.length_cons, show j + (xs.length + 1) = j + 1 + xs.length by omega]; exact q)
end
/-- one statement at a time: what follows is kept shut -/
theorem seq_in {s t : DS} {D : DEnds} {env : Env} {h : Hs} (p : ∀ N : Env → Hs → Prop, (∀ e1 h1, t D e1 h1 → N e1 h1) → s { D with nx := N } env h) : sSeq s t D env h := p _ fun _ _ q => q
/-- the test first: the branches are kept shut -/
theorem if_in {c : DT} {s t : DS} {D : DEnds} {env : Env} {h : Hs} (p : ∀ S T : Env → Hs → Prop, (∀ e1 h1, s D e1 h1 → S e1 h1) → (∀ e1 h1, t D e1 h1 → T e1 h1) → c env h (fun b h1 => if b = true then S env h1 else T env h1) fun x h1 => D.ex x env h1) : sIf c s t D env h := p _ _ (fun _ _ q => q) (fun _ _ q => q)
/-! items -/
theorem atI_pos {α : Type} {xs : List α} {i : Int} (h0 : 0 ≤ i) : atI xs i = xs[i.toNat]? := by
  unfold atI ixN
  rw [if_pos h0]
  split
  · rfl
  · rw [List.getElem?_eq_none (by omega)]
    rfl
theorem atI_nat' {α : Type} {xs : List α} {n : Nat} : atI xs (n : Int) = xs[n]? := by
  rw [atI_pos (by omega)]
  simp
theorem cdivW {i j : Int} (h0 : 0 < j) (h1 : j < 2 ^ 200) : CDivW i j := by
  have h2 : j.natAbs < 2 ^ 200 := by omega
  refine ⟨h0, ?_⟩
  have := (Nat.log2_lt (n := j.natAbs) (k := 200) (by omega)).mpr h2
  omega
@[simp] theorem atI_map {α β : Type} (f : α → β) (xs : List α) (i : Int) : atI (xs.map f) i = (atI xs i).map f := by
  unfold atI
  rw [List.length_map]
  cases ixN xs.length i with
  | none => rfl
  | some j => simp
theorem atI_some {α : Type} {xs : List α} {i : Int} (h0 : 0 ≤ i) (h1 : i < xs.length) : ∃ c, atI xs i = some c := by
  rw [atI_pos h0, List.getElem?_eq_getElem (by omega)]
  exact ⟨_, rfl⟩
theorem atI_mem {α : Type} {xs : List α} {i : Int} {c : α} (e : atI xs i = some c) : c ∈ xs := by
  unfold atI at e
  cases q : ixN xs.length i with
  | none => simp [q] at e
  | some j => exact List.mem_of_getElem? (by simpa [q] using e)
theorem ixN_some {n : Nat} {i : Int} (h0 : 0 ≤ i) (h1 : i < n) : ixN n i = some i.toNat := by
  unfold ixN
  rw [if_pos h0, if_pos (by omega)]
@[simp] theorem atI_0 {α : Type} (a : α) (l : List α) : atI (a :: l) 0 = some a := by rw [atI_pos (by decide)]; rfl
@[simp] theorem atI_1 {α : Type} (a b : α) (l : List α) : atI (a :: b :: l) 1 = some b := by rw [atI_pos (by decide)]; rfl
@[simp] theorem atI_2 {α : Type} (a b c : α) (l : List α) : atI (a :: b :: c :: l) 2 = some c := by rw [atI_pos (by decide)]; rfl
@[simp] theorem atI_3 {α : Type} (a b c d : α) (l : List α) : atI (a :: b :: c :: d :: l) 3 = some d := by rw [atI_pos (by decide)]; rfl
@[simp] theorem atI_4 {α : Type} (a b c d e : α) (l : List α) : atI (a :: b :: c :: d :: e :: l) 4 = some e := by rw [atI_pos (by decide)]; rfl
/-- the number at an index -/
def gd (v : List Int) (k : Nat) : Int := v.getD k 0
theorem atI_getD {v : List Int} {k : Nat} (h : k < v.length) : atI v (k : Int) = some (gd v k) := by
  unfold gd
  rw [atI_nat', List.getElem?_eq_getElem h]
  simp [List.getD, h]
theorem cmulR {i j : Int} (h : j.natAbs < 2 ^ 64) : CMul i j := Or.inr (by omega)
theorem cmulL {i j : Int} (h : i.natAbs < 2 ^ 64) : CMul i j := Or.inl (by omega)
@[simp] theorem cpow_lit {i j : Int} : CPow i j ↔ (0 ≤ j ∧ j ≤ 1000000 ∧ i.natAbs < 2 ^ 64) := Iff.rfl
theorem szL {n : Nat} (h : n ≤ 8192) : n ≤ sizeLine := Nat.le_trans h (by show 8192 ≤ sizeLine; decide)
theorem szLt {n : Nat} (h : n < 8192) : n < sizeLine := Nat.lt_of_lt_of_le h (szL (by omega))
theorem rangeP_map (lo : Int) (n : Nat) : rangeP lo n = (List.range n).map fun k => .int (lo + (k : Nat)) := rfl
theorem rangeP_get {lo : Int} {n i : Nat} {x : PV} (e : (rangeP lo n)[i]? = some x) : i < n ∧ x = .int (lo + i) := by
  unfold rangeP at e
  rw [List.getElem?_map] at e
  by_cases hi : i < n
  · rw [List.getElem?_range hi] at e
    cases e
    exact ⟨hi, rfl⟩
  · rw [List.getElem?_eq_none (by rw [List.length_range]; omega)] at e
    cases e
theorem rangeP_succ (lo : Int) (n : Nat) : rangeP lo (n + 1) = .int lo :: rangeP (lo + 1) n := by
  unfold rangeP
  rw [List.range_succ_eq_map, List.map_cons, List.map_map]
  congr 1
  · simp
  · apply List.map_congr_left
    intro k _
    simp
    omega
theorem rangeP_len (lo : Int) (n : Nat) : (rangeP lo n).length = n := by simp [rangeP]
theorem pairs_ints (xs ys : List Int) : pairs (xs.map .int) (ys.map .int) = (xs.zip ys).map fun p => .tup [.int p.1, .int p.2] := by
  induction xs generalizing ys with
  | nil => simp [pairs]
  | cons x xs ih => cases ys with
    | nil => simp [pairs]
    | cons y ys => simpa [pairs] using ih ys
/-- a box: a cell with one int -/
def B (n : Nat) (h : Hs) : Prop := ∃ b : Int, h[n]? = some (.lst [.int b])
def bxv (n : Nat) (h : Hs) : Int := match h[n]? with
  | some (.lst [.int b]) => b
  | _ => 0
/-- the digit taken, and what it leaves -/
def tk (n : Nat) (k : Int) (h : Hs) : Int := bxv n h % k
def pt (n : Nat) (k : Int) (h : Hs) : Hs := h.set n (.lst [.int (bxv n h / k)])
theorem B.lt {n : Nat} {h : Hs} (hb : B n h) : n < h.length := by
  obtain ⟨b, hb⟩ := hb
  rcases Nat.lt_or_ge n h.length with l | l
  · exact l
  · rw [List.getElem?_eq_none l] at hb
    cases hb
theorem B.get {n : Nat} {h : Hs} (hb : B n h) : h[n]? = some (.lst [.int (bxv n h)]) := by
  obtain ⟨b, hb⟩ := hb
  rw [bxv, hb]
theorem B.pt {n : Nat} {h : Hs} {k : Int} (hb : B n h) : B n (PM.pt n k h) := ⟨bxv n h / k, by simp [PM.pt, hb.lt]⟩
theorem B.pt2 {n m : Nat} {h : Hs} {k : Int} (hb : B n h) (hm : B m h) : B m (PM.pt n k h) := by
  by_cases e : n = m
  · subst e
    exact hb.pt
  · obtain ⟨b, hm⟩ := hm
    exact ⟨b, by simp [PM.pt, List.getElem?_set, e, hm]⟩
theorem B_new {h : Hs} {b : Int} : B h.length (h ++ [.lst [.int b]]) := ⟨b, by simp⟩
theorem B.push {n : Nat} {h : Hs} {c : Cell} (hb : B n h) : B n (h ++ [c]) := by
  have l := hb.lt
  obtain ⟨b, q⟩ := hb
  exact ⟨b, by rw [List.getElem?_append_left l]; exact q⟩
theorem tk_ge {n : Nat} {h : Hs} {k : Int} (k0 : 0 < k) : 0 ≤ tk n k h := Int.emod_nonneg _ (by omega)
theorem tk_lt {n : Nat} {h : Hs} {k : Int} (k0 : 0 < k) : tk n k h < k := Int.emod_lt_of_pos _ k0
@[simp] theorem okD_int (i : Int) : (PV.int i).okD = true := by simp [PV.okD, PV.noRef, PV.py, SeqAt.shaped, PyData.canLay0, PyData.depth]
@[simp] theorem okD_bl (i : Bool) : (PV.bl i).okD = true := by simp [PV.okD, PV.noRef, PV.py, SeqAt.shaped, PyData.canLay0, PyData.depth]
@[simp] theorem okD_non : PV.non.okD = true := by simp [PV.okD, PV.noRef, PV.py, SeqAt.shaped, PyData.canLay0, PyData.depth]
@[simp] theorem pyEq_int (i j : Int) : pyEq (.int i) (.int j) = decide (i = j) := by simp [pyEq, PV.py, PyData.eqv, Bool.beq_eq_decide_eq]
@[simp] theorem pyEq_bl (i j : Bool) : pyEq (.bl i) (.bl j) = decide (i = j) := by cases i <;> cases j <;> simp [pyEq, PV.py, PyData.eqv]
/-- data with no reference, no deeper than n -/
def okN (n : Nat) (p : PV) : Prop := p.noRef = true ∧ p.py.canLay0 = true ∧ p.py.depth ≤ n
theorem okD_okN {p : PV} : p.okD = true ↔ okN 64 p := by
  unfold PV.okD SeqAt.shaped okN
  rw [Bool.and_eq_true, Bool.and_eq_true, decide_eq_true_eq]
@[simp] theorem okN_int {n : Nat} (i : Int) : okN n (.int i) ↔ True := by simp [okN, PV.noRef, PV.py, PyData.canLay0, PyData.depth]
@[simp] theorem okN_bl {n : Nat} (i : Bool) : okN n (.bl i) ↔ True := by simp [okN, PV.noRef, PV.py, PyData.canLay0, PyData.depth]
@[simp] theorem okN_non {n : Nat} : okN n .non ↔ True := by simp [okN, PV.noRef, PV.py, PyData.canLay0, PyData.depth]
@[simp] theorem okN_str {n : Nat} (x : Str) : okN n (.str x) ↔ PyData.strOk x = true := by simp [okN, PV.noRef, PV.py, PyData.canLay0, PyData.depth]
theorem okN_all {n : Nat} : ∀ xs : List PV, (PV.noRefL xs = true ∧ PyData.canLayAll0 (PV.pyL xs) = true ∧ PyData.depthAll (PV.pyL xs) ≤ n) ↔ ∀ x ∈ xs, okN n x
  | [] => by simp [PV.noRefL, PV.pyL, PyData.canLayAll0, PyData.depthAll]
  | x :: xs => by
    have ih := okN_all (n := n) xs
    rw [List.forall_mem_cons, ← ih]
    simp only [PV.noRefL, PV.pyL, PyData.canLayAll0, PyData.depthAll, Bool.and_eq_true, Nat.max_le, okN]
    constructor
    · rintro ⟨⟨a, b⟩, ⟨c, d⟩, e, f⟩
      exact ⟨⟨a, c, e⟩, b, d, f⟩
    · rintro ⟨⟨a, c, e⟩, b, d, f⟩
      exact ⟨⟨a, b⟩, ⟨c, d⟩, e, f⟩
@[simp] theorem okN_tup {n : Nat} (xs : List PV) : okN (n + 1) (.tup xs) ↔ ∀ x ∈ xs, okN n x := by
  rw [← okN_all]
  simp [okN, PV.noRef, PV.py, PyData.canLay0, PyData.depth]
@[simp] theorem okN_lst {n : Nat} (xs : List PV) : okN (n + 1) (.lst xs) ↔ ∀ x ∈ xs, okN n x := by
  rw [← okN_all]
  simp [okN, PV.noRef, PV.py, PyData.canLay0, PyData.depth]
@[simp] theorem okD_tup (xs : List PV) : (PV.tup xs).okD = true ↔ ∀ x ∈ xs, okN 63 x := by rw [okD_okN, okN_tup]
@[simp] theorem okD_lst (xs : List PV) : (PV.lst xs).okD = true ↔ ∀ x ∈ xs, okN 63 x := by rw [okD_okN, okN_lst]
@[simp] theorem okD_str (x : Str) : (PV.str x).okD = true ↔ PyData.strOk x = true := by rw [okD_okN, okN_str]
theorem pyEq_self {p : PV} (h : p.okD = true) : pyEq p p = true := PySem.SeqAt.eqv_refl _ (okD_okN.mp h).2.1
@[simp] theorem pyEq_tupc (x y : PV) (xs ys : List PV) : pyEq (.tup (x :: xs)) (.tup (y :: ys)) = (pyEq x y && pyEq (.tup xs) (.tup ys)) := by simp [pyEq, PV.py, PV.pyL, PyData.eqv, PyData.eqvAll]
@[simp] theorem pyEq_tup0 : pyEq (.tup []) (.tup []) = true := by simp [pyEq, PV.py, PV.pyL, PyData.eqv, PyData.eqvAll]
@[simp] theorem pyEq_tup1 (x : PV) (xs : List PV) : pyEq (.tup (x :: xs)) (.tup []) = false := by simp [pyEq, PV.py, PV.pyL, PyData.eqv, PyData.eqvAll]
@[simp] theorem pyEq_tup2 (x : PV) (xs : List PV) : pyEq (.tup []) (.tup (x :: xs)) = false := by simp [pyEq, PV.py, PV.pyL, PyData.eqv, PyData.eqvAll]
@[simp] theorem pyEq_lstc (x y : PV) (xs ys : List PV) : pyEq (.lst (x :: xs)) (.lst (y :: ys)) = (pyEq x y && pyEq (.lst xs) (.lst ys)) := by simp [pyEq, PV.py, PV.pyL, PyData.eqv, PyData.eqvAll]
@[simp] theorem pyEq_lst0 : pyEq (.lst []) (.lst []) = true := by simp [pyEq, PV.py, PV.pyL, PyData.eqv, PyData.eqvAll]
@[simp] theorem pyEq_lst1 (x : PV) (xs : List PV) : pyEq (.lst (x :: xs)) (.lst []) = false := by simp [pyEq, PV.py, PV.pyL, PyData.eqv, PyData.eqvAll]
@[simp] theorem pyEq_lst2 (x : PV) (xs : List PV) : pyEq (.lst []) (.lst (x :: xs)) = false := by simp [pyEq, PV.py, PV.pyL, PyData.eqv, PyData.eqvAll]
@[simp] theorem pyEq_str (x y : Str) : pyEq (.str x) (.str y) = decide (x = y) := by simp [pyEq, PV.py, PyData.eqv, Bool.beq_eq_decide_eq]
@[simp] theorem pyEq_nn : pyEq .non .non = true := by simp [pyEq, PV.py, PyData.eqv]
@[simp] theorem okD_vec (v : List Int) : (PV.tup (v.map .int)).okD = true := by
  unfold PV.okD PV.noRef PV.py SeqAt.shaped
  rw [noRef_ints]
  have e1 : ∀ w : List Int, PyData.canLayAll0 (PV.pyL (w.map PV.int)) = true := fun w => by
    induction w with
    | nil => simp [PV.pyL, PyData.canLayAll0]
    | cons x w ih => simp [PV.pyL, PV.py, PyData.canLayAll0, PyData.canLay0, ih]
  have e2 : ∀ w : List Int, PyData.depthAll (PV.pyL (w.map PV.int)) = 0 := fun w => by
    induction w with
    | nil => simp [PV.pyL, PyData.depthAll]
    | cons x w ih => simp [PV.pyL, PV.py, PyData.depthAll, PyData.depth, ih]
  simp [PyData.canLay0, PyData.depth, e1, e2]
@[simp] theorem pyEq_vec (v w : List Int) : pyEq (.tup (v.map .int)) (.tup (w.map .int)) = decide (v = w) := by
  have e : ∀ v w : List Int, PyData.eqvAll (PV.pyL (v.map PV.int)) (PV.pyL (w.map PV.int)) = decide (v = w) := fun v => by
    induction v with
    | nil => intro w; cases w <;> simp [PV.pyL, PyData.eqvAll]
    | cons x v ih => intro w; cases w <;> simp [PV.pyL, PV.py, PyData.eqvAll, PyData.eqv, ih, Bool.beq_eq_decide_eq]
  unfold pyEq PV.py
  rw [PyData.eqv, e]
theorem cutP_len (xs : List PV) (lo hi : Option Int) : (cutP xs lo hi).length ≤ xs.length := by
  unfold cutP
  rw [List.length_take, List.length_drop]
  omega
theorem cutP_from (xs : List PV) (k : Nat) : cutP xs (some (k : Int)) none = xs.drop k := by
  unfold cutP
  rw [HT.sIx_nat, HT.sIx_none, List.take_of_length_le (by rw [List.length_drop]; omega)]
  rcases Nat.le_total k xs.length with l | l
  · rw [Nat.min_eq_left l]
  · rw [Nat.min_eq_right l, List.drop_length, List.drop_eq_nil_of_le l]
theorem cutP_from1 (xs : List PV) : cutP xs (some 1) none = xs.drop 1 := cutP_from xs 1
theorem cutP_to (xs : List PV) (k : Nat) : cutP xs none (some (k : Int)) = xs.take k := by
  unfold cutP
  rw [HT.sIx_nat, HT.sIx_none, List.drop_zero]
  rcases Nat.le_total k xs.length with l | l
  · rw [Nat.min_eq_left l, Nat.sub_zero]
  · rw [Nat.min_eq_right l, Nat.sub_zero, List.take_length, List.take_of_length_le l]
theorem cutP_mem {xs : List PV} {lo hi : Option Int} {x : PV} (m : x ∈ cutP xs lo hi) : x ∈ xs := List.mem_of_mem_drop (List.mem_of_mem_take m)
@[simp] theorem pairs_cons (x y : PV) (xs ys : List PV) : pairs (x :: xs) (y :: ys) = .tup [x, y] :: pairs xs ys := rfl
@[simp] theorem pairs_nil (ys : List PV) : pairs [] ys = [] := rfl
@[simp] theorem blsOf_nil : blsOf [] = some [] := rfl
@[simp] theorem blsOf_cons (b : Bool) (xs : List PV) : blsOf (.bl b :: xs) = (blsOf xs).map (b :: ·) := rfl
@[simp] theorem intsOf_nil : intsOf [] = some [] := rfl
@[simp] theorem intsOf_cons (b : Int) (xs : List PV) : intsOf (.int b :: xs) = (intsOf xs).map (b :: ·) := rfl
/-- plain data: no reference, no bool, no list, no deeper than n -/
def Cl : Nat → PV → Prop
  | _, .non => True
  | _, .int _ => True
  | _, .str x => PyData.strOk x = true ∧ x.length ≤ 8192
  | n + 1, .tup xs => ∀ x ∈ xs, Cl n x
  | _, _ => False
@[simp] theorem Cl_non {n : Nat} : Cl n .non ↔ True := by cases n <;> simp [Cl]
@[simp] theorem Cl_int {n : Nat} (i : Int) : Cl n (.int i) ↔ True := by cases n <;> simp [Cl]
@[simp] theorem Cl_str {n : Nat} (x : Str) : Cl n (.str x) ↔ (PyData.strOk x = true ∧ x.length ≤ 8192) := by cases n <;> simp [Cl]
@[simp] theorem Cl_tup {n : Nat} (xs : List PV) : Cl (n + 1) (.tup xs) ↔ ∀ x ∈ xs, Cl n x := by simp [Cl]
@[simp] theorem Cl_bl {n : Nat} (b : Bool) : Cl n (.bl b) ↔ False := by cases n <;> simp [Cl]
@[simp] theorem Cl_ref {n m : Nat} : Cl n (.ref m) ↔ False := by cases n <;> simp [Cl]
@[simp] theorem Cl_lst {n : Nat} (xs : List PV) : Cl n (.lst xs) ↔ False := by cases n <;> simp [Cl]
theorem Cl.okN {n : Nat} : ∀ {p : PV}, Cl n p → PM.okN n p := by
  induction n with
  | zero => intro p h; cases p <;> simp_all [Cl]
  | succ n ih =>
    intro p h
    cases p with
    | tup xs => exact (okN_tup xs).mpr fun x m => ih ((Cl_tup xs).mp h x m)
    | _ => simp_all
theorem okN_mono {n m : Nat} (l : n ≤ m) {p : PV} (h : okN n p) : okN m p := ⟨h.1, h.2.1, Nat.le_trans h.2.2 l⟩
theorem Cl.okD {n : Nat} {p : PV} (h : Cl n p) (l : n ≤ 64 := by decide) : p.okD = true := okD_okN.mpr (okN_mono l h.okN)
theorem Cl.pv {n : Nat} {p : PV} (h : Cl n p) (H : Hs) : (SV.val p).pv H = some p := by
  cases p <;> first | rfl | (simp at h; done)
theorem Cl.succ {n : Nat} : ∀ {p : PV}, Cl n p → Cl (n + 1) p := by
  induction n with
  | zero => intro p h; cases p <;> simp_all [Cl]
  | succ n ih =>
    intro p h
    cases p with
    | tup xs => exact (Cl_tup xs).mpr fun x m => ih ((Cl_tup xs).mp h x m)
    | _ => simp_all
theorem Cl.mono {n m : Nat} (l : n ≤ m) {p : PV} (h : Cl n p) : Cl m p := by
  induction l with
  | refl => exact h
  | step _ ih => exact ih.succ
/-- no reference -/
def nr : PV → Bool
  | .ref _ => false
  | _ => true
/-- no reference, nor one in it -/
def fl2 : PV → Bool
  | .ref _ => false
  | .tup xs => xs.all nr
  | _ => true
theorem pick {l : List PV} {i : Int} {R : PV → Prop} (h0 : 0 ≤ i) (h1 : i < l.length) (hl : ∀ x ∈ l, fl2 x = true) (hR : ∀ p, fl2 p = true → R p) : ∃ x, atI l i = some x ∧ R x := by
  obtain ⟨c, hc⟩ := atI_some h0 h1
  exact ⟨c, hc, hR c (hl c (atI_mem hc))⟩
theorem cutP_nr (v : List Int) (lo hi : Option Int) : (cutP (v.map .int) lo hi).all nr = true := List.all_eq_true.mpr fun x m => by
  obtain ⟨i, _, rfl⟩ := List.mem_map.mp (cutP_mem m)
  rfl
theorem map_nr (v : List Int) : (v.map PV.int).all nr = true := List.all_eq_true.mpr fun x m => by
  obtain ⟨i, _, rfl⟩ := List.mem_map.mp m
  rfl
theorem len8 {v : List Int} (h : v.length = 8) : ∃ a0 a1 a2 a3 a4 a5 a6 a7, v = [a0, a1, a2, a3, a4, a5, a6, a7] := by
  match v, h with
  | [a0, a1, a2, a3, a4, a5, a6, a7], _ => exact ⟨_, _, _, _, _, _, _, _, rfl⟩
theorem rangeP8 : rangeP 0 8 = [.int 0, .int 1, .int 2, .int 3, .int 4, .int 5, .int 6, .int 7] := rfl
end PM

namespace PM
open PySem PySem.Spec L2 PySem.W
open PyProof.Rows hiding St

/-! ### sorted lists of data -/
/-- the items are alike up to the first that differ -/
def cutL : List PyData → List PyData → Bool
  | x :: xs, y :: ys => alike x y && (!PyData.eqv x y || cutL xs ys)
  | _, _ => true
def cut2 : PyData → PyData → Bool
  | .tuple xs, .tuple ys => cutL xs ys
  | x, y => alike x y
theorem dpAll_head {x : PyData} {xs : List PyData} : x.depth ≤ PyData.depthAll (x :: xs) ∧ PyData.depthAll xs ≤ PyData.depthAll (x :: xs) := by
  rw [PyData.depthAll]
  omega
section
variable {prog : Program} {w : World} {A : Around} {s : Shared}
theorem kat_cut {b fin : Bool} {Q : Bool → Shared → Prop} : ∀ (xs ys : List PyData) (i : Nat) (vs ws : List Value) (as bs : List Addr), ReadsAll s.heap vs xs as → ReadsAll s.heap ws ys bs → cutL xs ys = true → A.units + PyData.depthAll xs < cLine →
    (b = true → i = 0 → ∀ x r t, xs = x :: r → x ≠ .tuple t) → fin = decide (xs.length < ys.length) → Q (lexLt itemOrd (keyToksAll xs) (keyToksAll ys)) s → KatLex prog w A b fin Q (vs.zip ws) i s := by
  intro xs
  induction xs with
  | nil =>
    intro ys i vs ws as bs ra rb _ _ _ hf hq
    cases ra
    subst hf
    rw [List.zip_nil_left]
    refine kat_nil ?_
    cases ys with
    | nil =>
      rw [lex_irrefl] at hq
      simpa using hq
    | cons y ys =>
      rw [toks_all_cons] at hq
      simp only [keyToksAll] at hq
      rw [lex_diff (O := itemOrd) (by simp)] at hq
      simpa [itemLt] using hq
  | cons x xs ih =>
    intro ys i vs ws as bs ra rb hc hu hb hf hq
    cases ys with
    | nil =>
      cases rb
      subst hf
      rw [List.zip_nil_right]
      refine kat_nil ?_
      rw [toks_all_cons] at hq
      simp only [keyToksAll] at hq
      rw [lex_diff (O := itemOrd) (by simp)] at hq
      simpa [itemLt] using hq
    | cons y ys =>
      obtain ⟨c1, c2⟩ : alike x y = true ∧ (!PyData.eqv x y || cutL xs ys) = true := by simpa [cutL] using hc
      have d1 := (dpAll_head (x := x) (xs := xs)).1
      have d2 := (dpAll_head (x := x) (xs := xs)).2
      have u1 : A.units + min x.depth y.depth < cLine := by
        have := Nat.min_le_left x.depth y.depth
        omega
      cases ra with
      | cons r rs => cases rb with
        | cons r' rs' =>
          refine kat_cons (eqAt_alike x y A s _ _ _ _ r r' c1 u1 prog w _ _ ?_)
          cases hx : PyData.eqv x y with
          | true =>
            rw [hx] at c2
            rw [dataLt_all_yes c1 hx] at hq
            refine kat_yes (ih ys (i + 1) _ _ _ _ rs rs' (by simpa using c2) (by omega) (fun _ z => absurd z (Nat.succ_ne_zero i)) ?_ hq)
            rw [hf]
            simp
          | false =>
            rw [dataLt_all_no c1 hx] at hq
            refine kat_no (oneLt_alike (fun z t => ?_) r r' c1 (ne_none_of c1 hx) u1 hq)
            rw [Bool.and_eq_true] at z
            exact hb z.1 (by simpa using z.2) x xs t rfl
theorem cut2_tup {x x' : PyData} {r r' : List PyData} (h : cut2 (.tuple (x :: r)) (.tuple (x' :: r')) = true) : alike x x' = true := by
  simp [cut2, cutL] at h
  exact h.1
theorem cut2_type {x y : PyData} (h : cut2 x y = true) : dataType x = dataType y := by
  cases x <;> cases y <;> first | rfl | exact absurd h (by simp [cut2, alike])
noncomputable def cutKind (h : Heap) (ds : List PyData) : PyProof.Rows.KeyKind := dataKind h ds
theorem cutKind_some {h : Heap} {ds : List PyData} {v : Value} {d : PyData} {as : List Addr} (hd : d ∈ ds) (r : Reads h v d as) : (cutKind h ds).keyOf v = some (keyToks d) := by
  have q : ∃ d, d ∈ ds ∧ ∃ as, Reads h v d as := ⟨d, hd, as, r⟩
  have e : (cutKind h ds).keyOf v = some (keyToks q.choose) := dif_pos q
  obtain ⟨h1, as', h2⟩ := q.choose_spec
  rw [e, (h2.unique _ _ r).1]
/-- what can be sorted -/
theorem sorts_cut {vs : List Value} {ds : List PyData} (e : EachIs (fun v d => ∃ as, Reads s.heap v d as) vs ds) (hal : ∀ d ∈ ds, ∀ d' ∈ ds, cut2 d d' = true) (hk : Sortable ds) (hu : ∀ d ∈ ds, A.units + d.depth < cLine) : SortsAt prog w A s (cutKind s.heap ds) vs := by
  refine ⟨fun v hv => ?_, ?_⟩
  · obtain ⟨d, hd, as, r⟩ := e.left v hv
    exact ⟨_, cutKind_some hd r⟩
  rcases hk with ht | hn
  · cases ds with
    | nil =>
      cases e
      refine ⟨general', fun E x y a b Q ha _ _ => ?_, fun h2 => absurd h2 (by simp)⟩
      obtain ⟨d, _, hd, _⟩ := dataKind_inv ha
      simp at hd
    | cons d₀ ds₀ =>
      obtain ⟨x₀, r₀, e₀⟩ := ht d₀ List.mem_cons_self
      have hfirst : ∀ x r, PyData.tuple (x :: r) ∈ d₀ :: ds₀ → alike x x₀ = true := fun x r hm => by
        have q := hal _ hm d₀ List.mem_cons_self
        rw [e₀] at q
        exact cut2_tup q
      refine ⟨tuples' (dataType x₀ != Value.type "tuple"), ?_, fun h2 E Q hq => ?_⟩
      · intro E x y a b Q ha hb hq
        obtain ⟨d, as, hd, ra, rfl⟩ := dataKind_inv ha
        obtain ⟨d', as', hd', rb, rfl⟩ := dataKind_inv hb
        have hdd := hal d hd d' hd'
        have hroom := hu d hd
        obtain ⟨x1, r1, rfl⟩ := ht d hd
        obtain ⟨x2, r2, rfl⟩ := ht d' hd'
        have hq' : Q (dataLt (.tuple (x1 :: r1)) (.tuple (x2 :: r2))) s := hq
        rw [dataLt_tuple] at hq'
        cases ra with
        | tuple h1 h2 h3 h4 => cases rb with
          | tuple k1 k2 k3 k4 =>
            have n1 := SeqAt.ReadsAll.length _ _ _ h4
            have n2 := SeqAt.ReadsAll.length _ _ _ k4
            rw [PyData.depth] at hroom
            refine kat_lt h1 h3 k1 k3 (kat_cut (x1 :: r1) (x2 :: r2) 0 _ _ _ _ h4 k4 hdd (by omega) (fun hb _ x r t ex => ?_) (by rw [← Array.length_toList, ← Array.length_toList, n1, n2]) hq')
            obtain ⟨rfl, rfl⟩ := List.cons.inj ex
            have q := dataType_alike (hfirst _ _ hd)
            rw [← q] at hb
            exact dataType_tuple hb t
      · obtain ⟨fs, t1, t2, t3⟩ := each_katTups e ht
        refine kat_kind (T := dataType x₀) t1 (by omega) (fun f hf => ?_) (beq_self_eq_true _) hq
        obtain ⟨x, r, as, m1, m2⟩ := t3 f hf
        rw [← dataType_alike (hfirst x r m1)]
        exact looks_reads m2
  · have nt : ∀ d ∈ ds, ∀ d' ∈ ds, alike d d' = true := fun d hd d' hd' => by
      have q := hal d hd d' hd'
      cases d with
      | tuple xs => exact absurd rfl ((hn _ hd).2 xs)
      | _ => cases d' <;> first | exact q | exact absurd q (by simp [cut2, alike])
    exact (SortsAt.data e nt (.inr hn) hu).kind
end
/-- sorted(xs) of a list of data -/
def rSortD (K : PySem.W.Frag) : List V → Hp → VK → Prop := fun vs H Q => ∃ (a : Addr) (xs : List V) (ps : List PV), vs = [.ref a] ∧ SqL K H a xs ∧ DpAll K H xs (ps.map PV.py) ∧ xs.length = ps.length ∧ (∀ p ∈ ps, ∀ p' ∈ ps, cut2 p.py p'.py = true) ∧ Sortable (ps.map PV.py) ∧ (∀ p ∈ ps, p.py.depth ≤ 64) ∧
  ∀ (zs : List (V × PV)) (b : Addr), zs = (xs.zip ps).mergeSort (fun x y => dataLe false PV.py x.2 y.2) → H b = none → Q (.ref b) (upd H b (.lst (zs.map (·.1))))
section
variable {X : Cx}
theorem each_zip {h : Heap} : ∀ {us : List Value} {xs : List V} {ps : List PV} {as : List Addr}, Vals xs us → ReadsAll h us (ps.map PV.py) as → EachIs (fun u (x : V × PV) => RelV x.1 u ∧ ∃ as, Reads h u x.2.py as) us (xs.zip ps)
  | _, [], [], _, .nil, _ => .nil
  | _, [], p :: ps, _, .nil, r => by cases r
  | _, x :: xs, [], _, .cons _ _, r => by cases r
  | _, x :: xs, p :: ps, _, .cons q t, r => by
    cases r with
    | cons r1 r2 => exact .cons ⟨q, _, r1⟩ (each_zip t r2)
theorem vals_each {β : Type} {R : Value → β → Prop} {f : β → V} (hf : ∀ u b, R u b → RelV (f b) u) : ∀ {us : List Value} {bs : List β}, EachIs R us bs → Vals (bs.map f) us
  | _, _, .nil => .nil
  | _, _, .cons h t => .cons (hf _ _ h) (vals_each hf t)
theorem cr_sortD (hu : X.A.units + 90 < cLine) : CallR X (.builtin "sorted") (rSortD X.K) := by
  intro pins s σ H vs us Q I r h
  obtain ⟨a, xs, ps, rfl, hs, hd, hlen, hcut, hsrt, hdep, q⟩ := h
  obtain ⟨its, rv, hl, hz⟩ := I.list hs
  rw [Vals.ref1 r]
  obtain ⟨as, rd⟩ := Dp.readsAll I (ps.map PV.py) xs its hd rv
  have hh : ∀ b o, s.heap.get? b = some o → (sortingHeap (copyHeap s.heap its) (s.heap.objs.size + 1) its).get? b = some o := fun _ _ => sorting_copy_old
  have e1 := each_zip rv rd
  have zl : (xs.zip ps).length = ps.length := by rw [List.length_zip, hlen, Nat.min_self]
  have pm : (xs.zip ps).map (fun x => x.2.py) = ps.map PV.py := by
    rw [show (fun x : V × PV => x.2.py) = PV.py ∘ Prod.snd from rfl, ← List.map_map, List.map_snd_zip (by omega)]
  have e2 : EachIs (fun v d => ∃ as, Reads (sortingHeap (copyHeap s.heap its) (s.heap.objs.size + 1) its) v d as) its (ps.map PV.py) := by
    rw [← pm]
    exact each_map (R := fun v d => ∃ as, Reads (sortingHeap (copyHeap s.heap its) (s.heap.objs.size + 1) its) v d as) (fun x : V × PV => x.2.py) (e1.mono fun u x ⟨_, as, z⟩ => ⟨as, PyProof.Rows.Reads.keeps hh z⟩)
  have S : SortsAt X.prog X.w X.A.in1.in1 { s with heap := sortingHeap (copyHeap s.heap its) (s.heap.objs.size + 1) its } (cutKind (sortingHeap (copyHeap s.heap its) (s.heap.objs.size + 1) its) (ps.map PV.py)) its :=
    sorts_cut (s := { s with heap := sortingHeap (copyHeap s.heap its) (s.heap.objs.size + 1) its }) e2 (fun d m d' m' => by
      obtain ⟨p, mp, rfl⟩ := List.mem_map.mp m
      obtain ⟨p', mp', rfl⟩ := List.mem_map.mp m'
      exact hcut p mp p' mp') hsrt fun d m => by
      obtain ⟨p, mp, rfl⟩ := List.mem_map.mp m
      have := hdep p mp
      have : X.A.in1.in1.units = X.A.units + 2 := rfl
      omega
  have ev : EachIs (fun u (x : V × PV) => RelV x.1 u ∧ ∃ as, Reads s.heap u x.2.py as) (sortVals (cutKind (sortingHeap (copyHeap s.heap its) (s.heap.objs.size + 1) its) (ps.map PV.py)) false its its) ((xs.zip ps).mergeSort (dataLe false fun x => x.2.py)) := by
    refine sortVals_each (κ := cutKind (sortingHeap (copyHeap s.heap its) (s.heap.objs.size + 1) its) (ps.map PV.py)) (fun x : V × PV => keyToks x.2.py) e1 ((each_mem e1).mono fun u x ⟨⟨_, as, z⟩, m⟩ => cutKind_some ?_ (PyProof.Rows.Reads.keeps hh z))
    rw [← pm]
    exact List.mem_map.mpr ⟨x, m, rfl⟩
  refine sorted_vals hl.isList S (by rw [← rv.length]; exact hz) ?_
  obtain ⟨ep, he'⟩ := PyProof.Rows.sortedAll_at s.heap its (sortVals (cutKind (sortingHeap (copyHeap s.heap its) (s.heap.objs.size + 1) its) (ps.map PV.py)) false its its).toArray
  have hv := vals_each (f := fun x : V × PV => x.1) (fun _ _ z => z.1) ev
  refine ⟨.ref _, upd H (s.heap.objs.size + 1) (.lst (((xs.zip ps).mergeSort fun x y => dataLe false PV.py x.2 y.2).map (·.1))), I.laid (t' := s.toks) (fun _ _ => PyProof.Rows.sortedAll_old) (Nat.le_succ _) ⟨?_, _, ep, hv, he'⟩, rfl, q _ _ rfl (I.hok.fresh (Nat.le_succ _))⟩
  rw [List.length_map, List.length_mergeSort, zl, ← hlen]
  exact hz
end
/-- by <, as data -/
def leP (a b : PV) : Bool := dataLe false PV.py a b
def srtP (ps : List PV) : List PV := ps.mergeSort leP
def SrtOk (ps : List PV) : Prop := (∀ p ∈ ps, p.okD = true) ∧ (∀ p ∈ ps, ∀ p' ∈ ps, cut2 p.py p'.py = true) ∧ Sortable (ps.map PV.py)
def gSorted : G1 := fun h x q => ∃ ps, listC h x = some ps ∧ SrtOk ps ∧ q (.own (srtP ps))
@[simp ↓] theorem gSorted_eq (h : Hs) (x : SV) (q : SV → Prop) : gSorted h x q = (∃ ps, listC h x = some ps ∧ SrtOk ps ∧ q (.own (srtP ps))) := id rfl
theorem RepL.dpA {K : PySem.W.Frag} {Ex : Ad} {m : List Addr} {H : Hp} {vs : List V} {ps : List PV} (r : RepL K Ex m H vs ps) (n : ∀ p ∈ ps, p.okD = true) : DpAll K H vs (ps.map PV.py) := by
  rw [← PV.pyL_map]
  refine RepL.dp r ?_
  rw [PV.noRefL_all]
  exact List.all_eq_true.mpr fun p m => (okD_okN.mp (n p m)).1
theorem repL_zip {K : PySem.W.Frag} {Ex : Ad} {m : List Addr} {H : Hp} : ∀ {vs : List V} {ps : List PV}, RepL K Ex m H vs ps → ∀ z ∈ vs.zip ps, Rep K Ex m H z.1 z.2
  | _, _, .nil, z, h => by simp at h
  | _, _, .cons a r, z, h => by
    rcases List.mem_cons.mp h with rfl | h
    · exact a
    · exact repL_zip r z h
theorem repL_of {K : PySem.W.Frag} {Ex : Ad} {m : List Addr} {H : Hp} : ∀ {zs : List (V × PV)}, (∀ z ∈ zs, Rep K Ex m H z.1 z.2) → RepL K Ex m H (zs.map (·.1)) (zs.map (·.2))
  | [], _ => .nil
  | z :: zs, h => .cons (h z List.mem_cons_self) (repL_of fun y m => h y (List.mem_cons_of_mem _ m))
theorem us_sorted {K : PySem.W.Frag} : UnS K (fun x H Q => rSortD K [x] H Q) gSorted := fun C m σ H env h x sx q Q' eK R rx ⟨ps, e, ⟨o1, o2, o3⟩, hq⟩ p => by
  subst eK
  obtain ⟨a, vs, rfl, h1, q1⟩ := R.list rx e
  refine ⟨a, vs, ps, rfl, h1, q1.dpA o1, q1.length, o2, o3, fun p m => (okD_okN.mp (o1 p m)).2.2, fun zs b ez hb => ?_⟩
  have hz : ∀ z ∈ zs, Rep C.K (ExOf C σ env m) m H z.1 z.2 := fun z hm => by
    rw [ez] at hm
    exact repL_zip q1 z ((List.mergeSort_perm _ _).mem_iff.mp hm)
  have es : zs.map (·.2) = srtP ps := by
    rw [ez, List.map_mergeSort (r := fun x y : V × PV => dataLe false PV.py x.2 y.2) (s := leP) (f := fun z : V × PV => z.2) (fun _ _ _ _ => rfl)]
    rw [show (fun z : V × PV => z.2) = Prod.snd from rfl, List.map_snd_zip (by rw [q1.length]; exact Nat.le_refl _)]
    rfl
  have := repL_of hz
  rw [es] at this
  exact p.newL R this hq hb
theorem pd_sorted {X : Cx} {W : WX} {es : List Expr} {fs : DA} {e : Expr} {pos p : Pos} (hu : X.A.units + 90 < cLine) (hm : X.mg "sorted" = none) (h : PAd X W (e :: es) fs) (hg : Gl X "sorted" := by rfl)
    (he : starEach (e :: es) X.env = (false, eval e X.env) :: starEach es X.env := by rfl) (hpl : (backTo pos (starEach es X.env)).any (·.1) = false := by rfl) :
    PEd X W (.Call (.Name "sorted" p) (e :: es) [] pos) (dB (g1 gSorted) fs) := .of (pe_callB (cr_sortD hu) hg hm (by decide +kernel) h (he := he) (hpl := hpl)) (se_cb (cs_1 us_sorted) saA)
theorem u90 {k : Nat} {A : Around} (r : Room k A) : A.units + 90 < cLine := by
  have := r.un
  omega
end PM

namespace PM
open PySem PySem.Spec L2 PySem.W
open PyProof.Rows hiding St

/-! ### sets whose members are keys of a kind, with what a walk needs of their table -/
section
variable {P : Program} {w : World} {κ : Type} [DecidableEq κ] (knd : PySem.KeyKind P w κ)
/-- the key that a value is -/
noncomputable def kfn (v : Value) : Option κ := open Classical in if q : ∃ k, knd.is k v = true then some q.choose else none
theorem kfn_of {k : κ} {v : Value} (h : knd.is k v = true) : kfn knd v = some k := by
  have q : ∃ k, knd.is k v = true := ⟨k, h⟩
  have e : kfn knd v = some q.choose := dif_pos q
  rw [e, knd.inj _ _ _ q.choose_spec h]
noncomputable abbrev kfs (es : Array (Int × Value)) : List (Option κ) := es.toList.map fun e => kfn knd e.2
/-- the table rises, it can be walked -/
def TabOk (w : World) (t : SetTable) : Prop := Ris t.place.toList ∧ (w.params.followText "set-order" = true ∨ t.led = true)
structure Ents (es : Array (Int × Value)) (S : κ → Bool) : Prop where
  el : ElemsOf knd es.toList
  nd : (kfs knd es).Nodup
  mem : ∀ k, S k = true ↔ some k ∈ kfs knd es
  bd : es.size < scanBound
def SetX (h : Heap) (a : Addr) (S : κ → Bool) (n : Nat) : Prop :=
  ∃ o es ep t, h.get? a = some o ∧ o.ExactSet ∧ o.data = .set es ep t ∧ Ents knd es S ∧ t.fits es.size = true ∧ es.size = n ∧ TabOk w t
variable {knd}
theorem SetX.at {h h' : Heap} {a : Addr} {S : κ → Bool} {n : Nat} (R : SetX knd h a S n) (k : ∀ o, h.get? a = some o → h'.get? a = some o) : SetX knd h' a S n :=
  let ⟨o, es, ep, t, e, r⟩ := R
  ⟨o, es, ep, t, k o e, r⟩
theorem Ents.is {es : Array (Int × Value)} {S : κ → Bool} (E : Ents knd es S) {e : Int × Value} (m : e ∈ es.toList) (k : κ) : knd.is k e.2 = true ↔ kfn knd e.2 = some k := by
  obtain ⟨⟨k0, h0, _⟩, _⟩ := E.el e m
  rw [kfn_of knd h0]
  exact ⟨fun q => by rw [knd.inj _ _ _ h0 q], fun q => by rw [← Option.some.inj q]; exact h0⟩
theorem Ents.ex {es : Array (Int × Value)} {S : κ → Bool} (E : Ents knd es S) (k : κ) : S k = true ↔ ∃ e ∈ es.toList, knd.is k e.2 = true := by
  rw [E.mem, List.mem_map]
  exact ⟨fun ⟨e, m, q⟩ => ⟨e, m, (E.is m k).mpr q⟩, fun ⟨e, m, q⟩ => ⟨e, m, (E.is m k).mp q⟩⟩
theorem SetX.setOf {h : Heap} {a : Addr} {S : κ → Bool} {n : Nat} (R : SetX knd h a S n) : h.SetOf knd a S n := by
  obtain ⟨o, es, ep, t, e, x, d, E, f, z, _⟩ := R
  exact ⟨o, es, ep, t, e, x, d, E.el, E.ex, E.bd, f, z⟩
theorem Ents.perm {es es' : Array (Int × Value)} {S : κ → Bool} (E : Ents knd es S) (p : es'.toList.Perm es.toList) : Ents knd es' S where
  el := fun e m => E.el e (p.mem_iff.mp m)
  nd := (p.map _).nodup_iff.mpr E.nd
  mem := fun k => (E.mem k).trans (p.map _).mem_iff.symm
  bd := by
    have := p.length_eq
    rw [Array.length_toList, Array.length_toList] at this
    rw [this]
    exact E.bd
theorem Ents.add {es es' : Array (Int × Value)} {S : κ → Bool} (E : Ents knd es S) {k : κ} {v : Value} (hk : knd.is k v = true) (sc : v.scannable = true) (n : S k ≠ true) (p : es'.toList.Perm ((knd.hash k, v) :: es.toList)) (b : es.size + 1 < scanBound) :
    Ents knd es' (fun j => S j || decide (j = k)) ∧ es'.size = es.size + 1 := by
  have sz : es'.size = es.size + 1 := by
    have := p.length_eq
    rw [List.length_cons, Array.length_toList, Array.length_toList] at this
    exact this
  have pk : (kfs knd es').Perm (some k :: kfs knd es) := by
    have := p.map fun e : Int × Value => kfn knd e.2
    rw [List.map_cons, kfn_of knd hk] at this
    exact this
  refine ⟨⟨fun e m => ?_, pk.nodup_iff.mpr (List.nodup_cons.mpr ⟨fun z => n ((E.mem k).mpr z), E.nd⟩), fun j => ?_, by omega⟩, sz⟩
  · rcases List.mem_cons.mp (p.mem_iff.mp m) with rfl | m
    · exact ⟨⟨k, hk, rfl⟩, sc⟩
    · exact E.el e m
  · rw [pk.mem_iff, List.mem_cons, Bool.or_eq_true, decide_eq_true_eq, E.mem j]
    constructor
    · rintro (z | rfl)
      · exact .inr z
      · exact .inl rfl
    · rintro (z | z)
      · exact .inr (Option.some.inj z)
      · exact .inl z
end
section
variable {P : Program} {w : World} {κ : Type} [DecidableEq κ] {knd : PySem.KeyKind P w κ} {A : Around} {E : Value → Shared → Prop} {s : Shared} {a : Addr}
/-- what a new place in the table keeps -/
theorem lay_ok {t : SetTable} {es : Array (Int × Value)} {hv : Int} {v : Value} (T : TabOk w t) : ∀ Z, layNew t es hv v = Z → Z.1.toList.Perm ((hv, v) :: es.toList) ∧ Z.2.1.fits Z.1.size = true ∧ TabOk w Z.2.1 := by
  rintro Z rfl
  refine ⟨?_, layNew_fits t es hv v, layNew_ris t es hv v T.1, T.2.imp id fun q => by rw [layNew_led]; exact q⟩
  have p := layNew_perm t es hv v
  rw [Array.toList_push] at p
  exact p.trans (List.perm_append_singleton _ _)
theorem relay_ok {t : SetTable} {es : Array (Int × Value)} {k : Nat} (T : TabOk w t) : ∀ Z, relayAll t es k = Z → Z.1.toList.Perm es.toList ∧ Z.2.1.fits Z.1.size = true ∧ TabOk w Z.2.1 := by
  rintro Z rfl
  exact ⟨relayAll_perm t es k, relayAll_fits t es k, relayAll_ris t es k, T.2.imp id fun q => by rw [relayAll_led]; exact q⟩
theorem putX {h : Heap} {o : Obj} {es es' : Array (Int × Value)} {ep : Nat} {t t' : SetTable} (e : h.get? a = some o) (d : o.data = .set es ep t) : (h.update a (Obj.putSet es' t')).get? a = some { o with data := .set es' (ep + 1) t' } := store_at e d
theorem addX_end {g : Bool → Sem Unit} (hg : ∀ (b : Bool) (s1 : Shared) (Q' : Unit → Shared → Prop), Q' () s1 → wpAny (model P w) A (g b) Q' E s1) {o : Obj} {es : Array (Int × Value)} {ep : Nat} {t : SetTable} (e : s.heap.get? a = some o) (x : o.ExactSet) (d : o.data = .set es ep t)
    {es1 : Array (Int × Value)} {t2 : SetTable} {S : κ → Bool} (E1 : Ents knd es1 S) (f : t2.fits es1.size = true) (T : TabOk w t2) {dm : Bool} {R : Option Bool → Shared → Prop} (hR : ∀ h', Heap.SameBut a s.heap h' → SetX knd h' a S es1.size → R (some true) { s with heap := h' }) :
    wpAny (model P w) A (do
        storeSet a es1 t2
        if (!dm && t2.tooFull) = true then do
            g (relayAll t2 es1 (SetTable.grown es1.size)).2.2
            storeSet a (relayAll t2 es1 (SetTable.grown es1.size)).1 (relayAll t2 es1 (SetTable.grown es1.size)).2.1
            pure (some true)
          else pure (some true)) R E s := by
  have e1 := putX (es' := es1) (t' := t2) e d
  have b1 := Heap.SameBut.update s.heap a (Obj.putSet es1 t2)
  refine wpAny_bind (wpAny_storeSet_of e d ?_ (fits_of_scanBound E1.bd))
  split
  · have q := relay_ok (es := es1) (k := SetTable.grown es1.size) T _ rfl
    generalize relayAll t2 es1 (SetTable.grown es1.size) = Z at q ⊢
    obtain ⟨es2, t3, gv⟩ := Z
    obtain ⟨p, f3, T3⟩ : es2.toList.Perm es1.toList ∧ t3.fits es2.size = true ∧ TabOk w t3 := q
    have E2 := E1.perm p
    have z : es2.size = es1.size := by
      have := p.length_eq
      rwa [Array.length_toList, Array.length_toList] at this
    refine wpAny_bind (hg _ _ _ (wpAny_bind (wpAny_storeSet_of e1 rfl ?_ (fits_of_scanBound E2.bd))))
    exact wpAny_pure (hR _ (b1.trans (Heap.SameBut.update _ a _)) ⟨_, es2, _, t3, putX e1 rfl, x, rfl, E2, f3, z, T3⟩)
  · exact wpAny_pure (hR _ b1 ⟨_, es1, _, t2, e1, x, rfl, E1, f, rfl, T⟩)
theorem addX_hashed {k : κ} {v : Value} {S : κ → Bool} {n : Nat} {Q : Bool → Shared → Prop} (hk : knd.is k v = true) (sc : v.scannable = true) (R : SetX knd s.heap a S n) (room : n + 1 < scanBound)
    (hQ : ∀ h', Heap.SameBut a s.heap h' → SetX knd h' a (fun j => S j || decide (j = k)) (if S k = true then n else n + 1) → Q (!S k) { s with heap := h' }) : wpAny (model P w) A (setAddHashed a v (knd.hash k)) Q E s := by
  obtain ⟨o, es, ep, t, ho, x, d, E0, f, z, T⟩ := R
  unfold setAddHashed setAddHashedIn
  refine wpAny_holding (wpAny_bind (wpAny_setState_of ho d f ?_))
  dsimp only
  rw [byScan_of sc E0.bd E0.el, if_pos rfl]
  unfold setAddByScan
  refine wpAny_bind (wpAny_bind (wpAny_rule (wpAny_bind (wpAny_setScan_of hk ho d f E0.el ?_))))
  cases hfi : List.findIdx? (fun e => knd.is k e.2) es.toList with
  | some j =>
    obtain ⟨hj, pj, _⟩ := List.findIdx?_eq_some_iff_getElem.mp hfi
    have yes : S k = true := (E0.ex k).mpr ⟨_, List.getElem_mem hj, pj⟩
    have same : (fun j => S j || decide (j = k)) = S := funext fun i => by
      by_cases q : i = k
      · rw [q, yes]; rfl
      · simp [q]
    have q := hQ s.heap (Heap.SameBut.refl a s.heap) (by rw [same, if_pos yes]; exact ⟨o, es, ep, t, ho, x, d, E0, f, z, T⟩)
    rw [yes] at q
    exact wpAny_pure (wpAny_pure q)
  | none =>
    have no : S k ≠ true := fun q => by
      obtain ⟨e, m, q⟩ := (E0.ex k).mp q
      have c := List.findIdx?_eq_none_iff.mp hfi e m
      rw [q] at c
      cases c
    have no' : S k = false := by simpa using no
    have L := lay_ok (es := es) (hv := knd.hash k) (v := v) T _ rfl
    dsimp only
    generalize layNew t es (knd.hash k) v = Z at L ⊢
    obtain ⟨es1, t1, dm, gv⟩ := Z
    obtain ⟨p1, f1, T1⟩ : es1.toList.Perm ((knd.hash k, v) :: es.toList) ∧ t1.fits es1.size = true ∧ TabOk w t1 := L
    obtain ⟨E1, z1⟩ := E0.add hk sc no p1 (by omega)
    have fin : ∀ h', Heap.SameBut a s.heap h' → SetX knd h' a (fun j => S j || decide (j = k)) es1.size → Q true { s with heap := h' } := fun h' sb r => by
      have q := hQ h' sb
      rw [no', if_neg (by decide)] at q
      rw [z1, z] at r
      exact q r
    dsimp only
    have way : ∀ (b : Bool) (s1 : Shared) (Q' : Unit → Shared → Prop), Q' () s1 → wpAny (model P w) A (match b with | true => rule "set.scan.the-table-gave-way" | false => pure ()) Q' E s1 :=
      fun b s1 Q' q => by
        cases b
        · exact wpAny_pure q
        · exact wpAny_rule q
    refine wpAny_bind (way _ _ _ ?_)
    split
    · refine wpAny_bind ?_
      rw [hashByValue_scannable 8 sc]
      refine wpAny_pure (addX_end (fun b s1 Q' q => ?_) ho x d E1 ?_ ?_ fun h' sb r => wpAny_pure (fin h' sb r))
      · cases b
        · exact wpAny_pure q
        · exact wpAny_rule q
      · first | exact f1 | (split <;> first | exact f1 | exact SetTable.fits_plain_off f1)
      · first | exact T1 | (split <;> exact T1)
    · refine wpAny_bind (wpAny_pure ?_)
      rw [if_pos rfl]
      refine addX_end (fun b s1 Q' q => ?_) ho x d E1 f1 T1 fun h' sb r => wpAny_pure (fin h' sb r)
      cases b
      · exact wpAny_pure q
      · exact wpAny_rule q
theorem addX {k : κ} {v : Value} {S : κ → Bool} {n : Nat} {Q : Value → Shared → Prop} (hk : knd.is k v = true) (sc : v.scannable = true) (R : SetX knd s.heap a S n) (room : n + 1 < scanBound)
    (hQ : ∀ h' tk, Heap.SameBut a s.heap h' → SetX knd h' a (fun j => S j || decide (j = k)) (if S k = true then n else n + 1) → Q .none { s with heap := h', toks := tk }) :
    wpAny (model P w) A (call (.builtin "set.add") [.ref a, v]) Q E s := by
  refine wpAny_call_entry F.slot_set_add R.setOf.typeIs F.entry_set_add ?_ (F.args_set_add_2 _ _)
  unfold Builtin.«set.add» Builtin.Frozenset.oneOther
  simp only [List.isEmpty_nil, bind_assoc]
  unfold Builtin.Frozenset.addrOf setAdd
  refine wpAny_bind (wpAny_pure ?_)
  try dsimp only
  refine wpAny_bind (wpAny_pure ?_)
  try dsimp only
  refine wpAny_bind (wpAny_holding (wpAny_bind (knd.pyHash hk (addX_hashed (s := { s with toks := s.toks + 1 }) hk sc R room fun h' sb r => ?_))))
  exact wpAny_pure (⟨_, rfl, hQ h' _ sb r⟩)
end
end PM

set_option maxHeartbeats 1000000
namespace PM
open PySem PySem.Spec L2 PySem.W
open PyProof.Rows hiding St

/-! ### a set of keys as a thing of the layer's heap; {elt for ..} -/
def SetKO (P : Program) (w : World) (a : Addr) (S : Key → Bool) (n : Nat) : HO := .ext fun h => SetX (mixKind P w) h a S n
abbrev setNew (w : World) : Obj := { cls := .type "set", dict := none, data := .set #[] 0 (.fresh 0 0 (!w.params.followText "set-order")) }
theorem setX_fresh {P : Program} (w : World) (h : Heap) : SetX (mixKind P w) (h.push (setNew w)) h.objs.size (fun _ => false) 0 := by
  refine ⟨_, #[], 0, _, Heap.get?_push_size _ rfl, ⟨rfl, rfl, rfl⟩, rfl, ⟨fun e he => absurd (show e ∈ ([] : List (Int × Value)) from he) List.not_mem_nil, List.nodup_nil, fun k => ⟨fun z => Bool.noConfusion z, fun z => absurd (show some k ∈ ([] : List (Option Key)) from z) List.not_mem_nil⟩, by decide⟩, by rfl, rfl, List.Pairwise.nil, ?_⟩
  show _ ∨ (!w.params.followText "set-order") = true
  cases w.params.followText "set-order" <;> simp
theorem setKO_ok {P : Program} {w : World} {H : Hp} {h : Heap} {a : Addr} {S : Key → Bool} {n : Nat} (R : SetX (mixKind P w) h a S n) : ObjOk P w H h a (SetKO P w a S n) :=
  ⟨R, (let ⟨o, _, _, _, e, _⟩ := R; ⟨o, e⟩), fun _ _ p k => SetX.at p k⟩
section
variable {X : Cx}
theorem setKO_at {pins : List (Addr × Obj)} {σ : St} {H : Hp} {s : Shared} {a : Addr} {S : Key → Bool} {n : Nat} (I : Inv X pins σ H s) (e : H a = some (SetKO X.prog X.w a S n)) : SetX (mixKind X.prog X.w) s.heap a S n := (I.hok a _ e).1
theorem addKO {pins : List (Addr × Obj)} {σ : St} {H : Hp} {s : Shared} {E : Value → Shared → Prop} {D : Addr} {S : Key → Bool} {n : Nat} {k : Key} {u : Value} {Q : Value → Shared → Prop} (I : Inv X pins σ H s) (e : H D = some (SetKO X.prog X.w D S n)) (r : RelV (kV k) u) (room : n + 1 < scanBound)
    (q : ∀ s', Inv X pins σ (upd H D (SetKO X.prog X.w D (fun j => S j || decide (j = k)) (if S k = true then n else n + 1))) s' → Q .none s') : wpAny (model X.prog X.w) X.A (call (.builtin "set.add") [.ref D, u]) Q E s :=
  addX (kV_is r) (key_scan r) (setKO_at I e) room fun h' tk sb new =>
    q _ (I.write (e := D) (t' := tk) (by rw [e]; trivial) (.inl rfl) (fun b v hb hv => (sb.2 b hb).trans hv) (let ⟨o, _, _, _, z, _⟩ := new; ⟨o, z⟩) (setKO_ok new))
/-- what the turns of a set comprehension want; D: the set -/
def tScX (P : Program) (w : World) (wi : TI) (g : TG) (tt : TT) (te : TE) (vs : List Nat) : TE := fun σ H Q => wi σ H fun J H1 => ∀ D, H1 D = none → ∃ Z : Nat → Nat → Hp → Prop, (∃ m, Z 0 m (upd H1 D (SetKO P w D (fun _ => false) 0))) ∧ ∀ i m H, Z i m H →
  (J.stop i H ∧ Q (.ref D) H) ∨ (J.go i H ∧ ∃ Nx : Hp → Prop, (∀ H', Nx H' → ∃ m', m' < m ∧ Z (i + 1) m' H') ∧ ∀ x H', J.yld i H x H' → g x (wipe σ vs) H' fun σ2 H2 => wipe σ2 vs = wipe σ vs ∧ tt σ2 H2 fun b H3 =>
    if b = true then te σ2 H3 fun y H4 => ∃ (k : Key) (S : Key → Bool) (n : Nat), y = kV k ∧ H4 D = some (SetKO P w D S n) ∧ n + 1 < scanBound ∧ Nx (upd H4 D (SetKO P w D (fun j => S j || decide (j = k)) (if S k = true then n else n + 1))) else Nx H3)
theorem pe_scX {elt tg iter : Expr} {ifs : List Expr} {scope : Scope} {own : List (PySem.Str × Nat)} {pos : Pos} {wi : TI} {g : TG} {tt : TT} {te : TE} (hc : X.calm = true) (hN : X.N.Nodup) (hi : PI X tg iter wi) (ok : BlkOk X.N X.env.scope scope own)
    (hg : ∀ s H C cl fp, PG (X.blk s H scope (compEnvC scope cl C X.env) fp) tg g) (ht : ∀ s H C cl fp, PTs (X.blk s H scope (compEnvC scope cl C X.env) fp) ifs tt) (he : ∀ s H C cl fp, PE (X.blk s H scope (compEnvC scope cl C X.env) fp) elt te)
    (hs : ∀ x, foldedSetIterable iter X.env x = pure x := by intro _; rfl) : PE X (.SetComp elt [⟨tg, iter, ifs, 0⟩] scope pos) (tScX X.prog X.w wi g tt te (own.map (·.2))) := by
  refine ⟨fun pins s σ H Q I h => ?_⟩
  have free : ∀ y ∈ scope.names, y.2 = .free → ∃ c, X.env.cells.lookup y.1 = some c := fun y hy e => (ok.free y hy e).elim (fun k => I.ok.has _ (.inl k)) fun k => I.ok.has _ (.inr k)
  rw [PpSet.eval_SetComp]
  refine wpAny_comprehension_free (use := none) rfl hs (closure_ok free) ok.kind (fun y hy e => by rw [ok.uniq y hy, e]) (thn (hi.run pins s σ H _ I h) fun xv s1 hx => thn hx fun itv s2 ⟨it, fp, tn, J, H2, e, I2, T, st2, f2, q⟩ => ?_)
  subst e
  refine PpSet.newSet_ok (newEnv_comp ?_)
  generalize hD : s2.heap.objs.size = D
  have Dn : H2 D = none := I2.hok.fresh (Nat.le_of_eq hD)
  obtain ⟨Z, ⟨m0, z0⟩, turn⟩ := q D Dn
  generalize hs3 : ({ s2 with heap := s2.heap.push (setNew X.w) } : Shared) = s3
  have heap3 : s3.heap = s2.heap.push (setNew X.w) := by rw [← hs3]
  have up3 : ∀ (b : Addr) (o : Obj), s2.heap.get? b = some o → s3.heap.get? b = some o := fun b o z => by
    rw [heap3]
    exact Heap.get?_push_of_some _ z
  generalize hH3 : upd H2 D (SetKO X.prog X.w D (fun _ => false) 0) = H3 at z0
  have I3 : Inv X pins σ H3 s3 := by
    subst hs3 hH3
    exact I2.laid (t' := s2.toks) (fun b o z => Heap.get?_push_of_some _ z) (Nat.le_of_eq hD) (hD ▸ setKO_ok (setX_fresh X.w s2.heap))
  have f3 : ∀ b ∈ fp, FpOk X pins H3 b ∧ b < s3.heap.objs.size := fun b hb => by
    obtain ⟨o, z, _⟩ := T.obj _ _ st2 b hb
    have lt := Heap.lt_size z
    refine ⟨⟨?_, (f2 b hb).2⟩, Heap.lt_size (up3 b o z)⟩
    rw [← hH3, upd_ne (Nat.ne_of_lt (hD ▸ lt))]
    exact (f2 b hb).1
  have st3 : tn 0 s3.heap := T.keep _ _ _ st2 fun b _ o z => up3 b o z
  have I4 := block_start I3 ok hN f3
  generalize hcl : cellsFrom (s3.heap.objs.size + 1) scope.names (cloFrom X.env.cells scope.names []) = cl at I4
  have PGr := hg s3 H3 s3.heap.objs.size cl fp
  have PTr := ht s3 H3 s3.heap.objs.size cl fp
  have PEr := he s3 H3 s3.heap.objs.size cl fp
  have nfp : ∀ b ∈ fp, H3 b = none := fun b hb => (f3 b hb).1.1
  generalize hce : compEnvC scope cl s3.heap.objs.size X.env = ce at I4 PGr PTr PEr
  have cL : ce.locals = s3.heap.objs.size := by subst hce; rfl
  generalize hs4 : ({ s3 with heap := pushCells (s3.heap.push { cls := .type "dict", data := .dict #[] }) scope.names } : Shared) = s4 at I4
  have st4 : tn 0 s4.heap := T.keep _ _ _ st3 fun b _ o z => by
    rw [← hs4]
    exact pushCells_keeps _ _ _ _ (Heap.get?_push_of_some _ z)
  have station : ∀ {σ' : St} {H' : Hp} {s' : Shared}, Inv (X.blk s3 H3 scope ce fp) [] σ' H' s' → (∀ b ∈ fp, H' b = none) → ∀ b ∈ fp, FpOk (X.blk s3 H3 scope ce fp) [] H' b := fun {σ' H' s'} I' n b hb =>
    ⟨n b hb, (I'.ok.exf b hb).1, I'.ok.exfs b hb, .inl hb, fun x c e => (I'.ok.exf b hb).2 x c e, fun p hp => by simp at hp⟩
  have loop : codeAny (model X.prog X.w) X.A (.compLoop (.SetComp elt [⟨tg, iter, ifs, 0⟩] scope pos) 0 (.ref it) (.ref D) ce) (compPost (model X.prog X.w) X.A X.xe none (EP X pins σ Q) (.ref D) s3.heap.objs.size) s4 := by
    refine PpSet.compLoopS_any (fun n s' => ∃ i H', Inv (X.blk s3 H3 scope ce fp) [] (wipe σ (own.map (·.2))) H' s' ∧ tn i s'.heap ∧ (∀ b ∈ fp, H' b = none) ∧ Z i n H') ?_ m0 ⟨0, H3, I4, st4, nfp, z0⟩
    rintro n s5 ⟨i, H5, I5, st5, n5, w5⟩
    rcases turn i n H5 w5 with ⟨stop, fin⟩ | ⟨go, Nx, hNx, step⟩
    · refine thnF (T.done (X.blk s3 H3 scope ce fp) rfl rfl rfl hc i [] s5 _ H5 (fun _ _ => False) I5 (station I5 n5) st5 stop) fun r s6 ⟨hr, I6⟩ => ?_
      subst hr
      have I7 : Inv X pins σ H5 s6 := I3.call' (ch := fp) I6.os I6.base I6.hok I6.bare fun b hb =>
        let z := (f3 b hb).1
        ⟨z.2.2.2.1, z.2.1, z.2.2.2.2.1, z.2.2.2.2.2⟩
      have nC : H5 s3.heap.objs.size = none := cL ▸ I6.free
      obtain ⟨m, hn, _⟩ := I6.loc
      have hn' : s6.heap.Ns ce.locals m := hn
      rw [cL] at hn'
      obtain ⟨g0, g1, g2, g3, g4, g5⟩ := I3.fpOk (Nat.le_refl _) nC
      exact ⟨m, hn', fun h'' sb => ⟨.ref D, H5, I7.turned (t' := s6.toks) (fun b o hb e => (sb.2 b hb).trans e) nC g1 g3 g4 g5, rfl, fin⟩⟩
    · refine thnF (T.item (X.blk s3 H3 scope ce fp) rfl rfl rfl hc i [] s5 _ H5 (fun _ _ => False) I5 (station I5 n5) st5 go) fun r s6 ⟨u, hr, h6⟩ => ?_
      subst hr
      refine thnF h6 fun _ s7 ⟨x, H7, I7, r7, y7, st7, n7⟩ => ?_
      have I7' := I7.pinned (station I7 n7) (T.obj _ _ st7)
      refine thnF (PGr.run _ s7 _ H7 x u _ I7' r7 (step x H7 y7)) fun _ s8 ⟨σ8, H8, I8, hw8, q8⟩ => thnF (PTr.run _ s8 σ8 H8 _ I8 q8) fun b s9 ⟨H9, I9, q9⟩ => ?_
      have back : ∀ {s' : Shared} {H' : Hp}, Inv (X.blk s3 H3 scope ce fp) ([] ++ pinsAt fp s7.heap) σ8 H' s' → Nx H' → ∃ m, m < n ∧ ∃ i H', Inv (X.blk s3 H3 scope ce fp) [] (wipe σ (own.map (·.2))) H' s' ∧ tn i s'.heap ∧ (∀ b ∈ fp, H' b = none) ∧ Z i m H' := fun {s' H'} I' nx => by
        obtain ⟨m', hm, z'⟩ := hNx H' nx
        have pin : ∀ b ∈ fp, ∀ o, s7.heap.get? b = some o → s'.heap.get? b = some o ∧ H' b = none := fun b hb o e =>
          let y := I'.pin (b, o) (List.mem_append_right _ (List.mem_append_right _ (mem_pinsAt hb e)))
          ⟨y.1, y.2.1⟩
        refine ⟨m', hm, i + 1, H', (I'.unpinned (pins := [])).weak (by rw [← hw8, wipe_length]) (fun j v e => ?_), T.keep _ _ _ st7 fun b hb o e => (pin b hb o e).1, fun b hb => ?_, z'⟩
        · rw [← hw8] at e
          exact (wipe_some e).1
        · obtain ⟨o, e, _⟩ := T.obj _ _ st7 b hb
          exact (pin b hb o e).2
      cases b with
      | false =>
        rw [if_neg (by decide)] at q9 ⊢
        exact back I9 q9
      | true =>
        rw [if_pos rfl] at q9 ⊢
        refine thnF (PEr.run _ s9 σ8 H9 _ I9 q9) fun z s10 ⟨yv, H10, I10, r10, k0, S0, n0, ey, hD10, hz10, nx⟩ => ?_
        subst ey
        exact addKO (X := X.blk s3 H3 scope ce fp) I10 hD10 r10 hz10 fun s11 I11 => back I11 nx
  have := PpSet.codeAny_compStart_set loop (T.self X.A 0 _ _ _ st4 loop)
  subst hs4 hce hcl hs3
  exact this
end
end PM

namespace PM
open PySem PySem.Spec L2 PySem.W
open PyProof.Rows hiding St

/-! ### sorted(a set of ints, or of texts) -/
def kPy : Key → PyData
  | .inl i => .int i
  | .inr x => .str x
def kSame (a b : Key) : Bool := a.isLeft == b.isLeft
def kLt (a b : Key) : Prop := match a, b with
  | .inl i, .inl j => i < j
  | .inr x, .inr y => x.cps.toList < y.cps.toList
  | _, _ => False
theorem str_ext {x y : Str} (h : x.cps.toList = y.cps.toList) : x = y := by
  cases x
  cases y
  simp at h
  rw [h]
theorem kLt_of {a b : Key} (s : kSame a b = true) (n : a ≠ b) (h : dataLt (kPy b) (kPy a) = false) : kLt a b := by
  cases a with
  | inl i => cases b with
    | inl j =>
      have h' : dataLt (.int j) (.int i) = false := h
      rw [dataLt_int] at h'
      have : i ≠ j := fun e => n (by rw [e])
      show i < j
      have := of_decide_eq_false h'
      omega
    | inr y => exact absurd s (by simp [kSame])
  | inr x => cases b with
    | inl j => exact absurd s (by simp [kSame])
    | inr y =>
      have h' : dataLt (.str y) (.str x) = false := h
      rw [dataLt_str] at h'
      have h2 : ¬ y.cps.toList < x.cps.toList := of_decide_eq_false h'
      have h3 : x.cps.toList ≤ y.cps.toList := List.not_lt.mp h2
      show x.cps.toList < y.cps.toList
      exact Std.lt_of_le_of_ne h3 fun e => n (by rw [str_ext e])
def rSortX (P : Program) (w : World) : List V → Hp → VK → Prop := fun vs H Q => ∃ (a : Addr) (S : Key → Bool) (n : Nat), vs = [.ref a] ∧ H a = some (SetKO P w a S n) ∧ (∀ k j, S k = true → S j = true → kSame k j = true) ∧
  ∀ (zs : List Key) (p : Addr), zs.Pairwise kLt → (∀ k, k ∈ zs ↔ S k = true) → H p = none → Q (.ref p) (upd H p (.lst (zs.map kV)))
theorem each_is {P : Program} {w : World} : ∀ {vs : List Value}, (∀ v ∈ vs, ∃ k, (mixKind P w).is k v = true) → ∃ ks, EachIs (fun v k => (mixKind P w).is k v = true) vs ks
  | [], _ => ⟨[], .nil⟩
  | v :: vs, h => by
    obtain ⟨k, hk⟩ := h v List.mem_cons_self
    obtain ⟨ks, hks⟩ := each_is (vs := vs) fun u m => h u (List.mem_cons_of_mem _ m)
    exact ⟨k :: ks, .cons hk hks⟩
theorem is_rel {P : Program} {w : World} {k : Key} {v : Value} (h : (mixKind P w).is k v = true) : RelV (kV k) v ∧ ∀ hp, Reads hp v (kPy k) [] := by
  rcases keyIs_shape h with ⟨i, t, rfl, rfl⟩ | ⟨x, t, rfl, rfl⟩
  · exact ⟨⟨t, rfl⟩, fun _ => .int i t⟩
  · exact ⟨⟨t, rfl⟩, fun _ => .str x t⟩
theorem each_kfn {P : Program} {w : World} : ∀ {vs : List Value} {ks : List Key}, EachIs (fun v k => (mixKind P w).is k v = true) vs ks → vs.map (kfn (mixKind P w)) = ks.map some
  | _, _, .nil => rfl
  | _, _, .cons h t => by rw [List.map_cons, List.map_cons, each_kfn t, kfn_of _ h]
section
variable {X : Cx}
theorem cr_sortX (hc : X.calm = true) (hu : X.A.units + 90 < cLine) : CallR X (.builtin "sorted") (rSortX X.prog X.w) := by
  intro pins s σ H vs us Q I r h
  obtain ⟨a, S, n, rfl, ha, hom, q⟩ := h
  rw [Vals.ref1 r]
  obtain ⟨o, es, ep, t, ho, hex, hd, E0, hf, hn, T⟩ := setKO_at I ha
  refine Calls.call_function_entry kind_sorted plain_sorted entry_sorted (args_sorted1 _) ?_
  unfold Builtin.«sorted»
  refine wpAny_bind (m := checkCount "sorted" 1 1 _) (wpAny_pure ?_)
  refine wpAny_bind (collect_set (A := X.A.in1) (I.ok.hd hc) ⟨o, ho, hex.1, hd⟩ hf E0.bd T.1 T.2 fun s1 out k1 hz g1 o1 pm => ?_)
  have ol : out.length < scanBound := by
    have z := pm.length_eq
    rw [List.length_map] at z
    rw [z, Array.length_toList]
    exact E0.bd
  have osz : out.length ≤ sizeLine := Nat.le_trans (Nat.le_of_lt ol) (by show 4096 ≤ sizeLine; decide)
  refine wpAny_bind (wpAny_newList ?_ osz)
  have hL : (s1.heap.push (seqObj "list" out.toArray 0)).get? s1.heap.objs.size = some (seqObj "list" out.toArray 0) := Heap.get?_push_size _ rfl
  obtain ⟨ks, ek⟩ := each_is (P := X.prog) (w := X.w) (vs := out) fun v m => by
    obtain ⟨e, m2, rfl⟩ := List.mem_map.mp (pm.mem_iff.mp m)
    obtain ⟨⟨k, hk, _⟩, _⟩ := E0.el e m2
    exact ⟨k, hk⟩
  have pk : (ks.map some).Perm (kfs (mixKind X.prog X.w) es) := by
    have := pm.map (kfn (mixKind X.prog X.w))
    rw [each_kfn ek, List.map_map] at this
    exact this
  have mem : ∀ k, k ∈ ks ↔ S k = true := fun k => by
    rw [E0.mem, ← pk.mem_iff, List.mem_map]
    exact ⟨fun m => ⟨k, m, rfl⟩, fun ⟨j, m, e⟩ => by cases e; exact m⟩
  have nd : ks.Nodup := by
    have := pk.nodup_iff.mpr E0.nd
    rw [List.nodup_iff_pairwise_ne, List.pairwise_map] at this
    exact this.imp fun h e => h (by rw [e])
  have er : ∀ hp : Heap, EachIs (fun v k => RelV (kV k) v ∧ ∃ as, Reads hp v (kPy k) as) out ks := fun hp => ek.mono fun v k z => ⟨(is_rel z).1, _, (is_rel z).2 hp⟩
  have hal : AllAlike (ks.map kPy) := by
    intro d m d' m'
    obtain ⟨k, mk, rfl⟩ := List.mem_map.mp m
    obtain ⟨j, mj, rfl⟩ := List.mem_map.mp m'
    have := hom k j ((mem k).mp mk) ((mem j).mp mj)
    cases k <;> cases j <;> first | (simp [kPy, alike]; done) | exact absurd this (by simp [kSame])
  have hsr : Sortable (ks.map kPy) := .inr fun d m => by
    obtain ⟨k, mk, rfl⟩ := List.mem_map.mp m
    cases k <;> exact ⟨by simp [kPy], by simp [kPy]⟩
  let hp := sortingHeap (s1.heap.push (seqObj "list" out.toArray 0)) s1.heap.objs.size out
  have SA : SortsAt X.prog X.w X.A.in1.in1 { s1 with heap := hp } (dataKind hp (ks.map kPy)) out :=
    SortsAt.data (s := { s1 with heap := hp }) (each_map (R := fun v d => ∃ as, Reads hp v d as) kPy ((er hp).mono fun v k z => z.2)) hal hsr fun d m => by
      obtain ⟨k, mk, rfl⟩ := List.mem_map.mp m
      have : X.A.in1.in1.units = X.A.units + 2 := rfl
      cases k <;> simp only [kPy, PyData.depth] <;> omega
  have ev := sortVals_data (h' := hp) (R := fun v k => RelV (kV k) v ∧ ∃ as, Reads hp v (kPy k) as) false (er hp) ((er hp).mono fun v k z => z.2) hal
  have hv := vals_each (f := kV) (fun _ _ z => z.1) ev
  refine wpAny_bind (wpAny_holding (wpAny_call_entry slot_list_sort ⟨_, hL, rfl⟩ entry_list_sort (list_sort_vals (s := { s1 with heap := s1.heap.push (seqObj "list" out.toArray 0) }) hL SA osz ⟨_, rfl, ?_⟩) (args_list_sort _)))
  obtain ⟨c, hc2⟩ := sortedHeap_at (vs := out) (out := (sortVals (dataKind hp (ks.map kPy)) false out out).toArray) hL
  have keepH : ∀ b u, s.heap.get? b = some u → (sortedHeap (s1.heap.push (seqObj "list" out.toArray 0)) s1.heap.objs.size out (sortVals (dataKind hp (ks.map kPy)) false out out).toArray).get? b = some u := fun b u e => by
    have e1 := k1 b u e
    have lt := Heap.lt_size e1
    rw [sortedHeap_old (Nat.ne_of_lt lt) (by rw [size_push']; exact Nat.lt_succ_of_lt lt)]
    exact Heap.get?_push_of_some _ e1
  generalize hs2 : sortedHeap (s1.heap.push (seqObj "list" out.toArray 0)) s1.heap.objs.size out (sortVals (dataKind hp (ks.map kPy)) false out out).toArray = h2 at hc2 keepH ⊢
  have fresh : H s1.heap.objs.size = none := I.hok.fresh hz
  have ps := List.mergeSort_perm ks (dataLe false kPy)
  have len : ((ks.mergeSort (dataLe false kPy)).map kV).length ≤ sizeLine := by
    rw [List.length_map, List.length_mergeSort, ← ek.length]
    exact osz
  have J : Inv X pins σ (upd H s1.heap.objs.size (.lst ((ks.mergeSort (dataLe false kPy)).map kV))) { s with heap := h2, gens := s1.gens, drawn := s1.drawn, toks := s1.toks } :=
    I.call (ch := []) (Un.laid keepH hz fresh) (I.hok.laid keepH hz ⟨len, _, c, hv, hc2⟩) (by rw [g1]; exact I.bare) fun _ z => nomatch z
  have es1 : ({ s1 with heap := h2 } : Shared) = { s with heap := h2, gens := s1.gens, drawn := s1.drawn, toks := s1.toks } := by
    cases s1
    cases s
    cases o1
    rfl
  refine wpAny_pure ⟨_, rfl, ?_⟩
  rw [es1]
  refine ⟨.ref _, _, J, rfl, q _ _ ?_ (fun k => ?_) fresh⟩
  · have srt := sort_pairwise (sortLe_total (listOrd itemOrd) false fun k => keyToks (kPy k)) ks
    have nd2 : (ks.mergeSort (dataLe false kPy)).Pairwise (· ≠ ·) := List.nodup_iff_pairwise_ne.mp (ps.nodup_iff.mpr nd)
    have both := srt.and nd2
    refine List.Pairwise.imp_of_mem (fun {k j} mk mj z => ?_) both
    refine kLt_of (hom k j ((mem k).mp (ps.mem_iff.mp mk)) ((mem j).mp (ps.mem_iff.mp mj))) z.2 ?_
    have z1 : (!dataLt (kPy j) (kPy k)) = true := z.1
    simpa using z1
  · rw [ps.mem_iff]
    exact mem k
end
end PM

namespace PM
open PySem PySem.Spec L2 PySem.W
open PyProof.Rows hiding St

/-! ### sorted({..}) by values -/
def pvK : Key → PV
  | .inl i => .int i
  | .inr x => .str x
theorem rep_key {K : PySem.W.Frag} {Ex : Ad} {m : List Addr} {H : Hp} {v : V} {k : Key} (r : Rep K Ex m H v (pvK k)) : v = kV k := by
  cases k <;> cases r <;> rfl
theorem repL_keys {K : PySem.W.Frag} {Ex : Ad} {m : List Addr} {H : Hp} : ∀ ks : List Key, RepL K Ex m H (ks.map kV) (ks.map pvK)
  | [] => .nil
  | .inl i :: ks => .cons (.int i) (repL_keys ks)
  | .inr x :: ks => .cons (.str x) (repL_keys ks)
def memK (k : Key) (l : List Key) : Bool := l.any fun j => decide (j = k)
theorem memK_iff {k : Key} {l : List Key} : memK k l = true ↔ k ∈ l := by
  simp [memK]
def ddK : List Key → List Key
  | [] => []
  | k :: ks => if memK k (ddK ks) = true then ddK ks else k :: ddK ks
theorem ddK_mem {k : Key} : ∀ {ks : List Key}, k ∈ ddK ks ↔ k ∈ ks
  | [] => Iff.rfl
  | j :: ks => by
    have ih := ddK_mem (k := k) (ks := ks)
    have ihj := ddK_mem (k := j) (ks := ks)
    by_cases q : memK j (ddK ks) = true
    · rw [ddK, if_pos q, ih, List.mem_cons]
      exact ⟨.inr, fun z => z.elim (fun e => by rw [e]; exact ihj.mp (memK_iff.mp q)) id⟩
    · rw [ddK, if_neg q, List.mem_cons, List.mem_cons, ih]
theorem ddK_nd : ∀ ks : List Key, (ddK ks).Nodup
  | [] => List.nodup_nil
  | j :: ks => by
    by_cases q : memK j (ddK ks) = true
    · rw [ddK, if_pos q]
      exact ddK_nd ks
    · rw [ddK, if_neg q]
      exact List.nodup_cons.mpr ⟨fun z => q (memK_iff.mpr z), ddK_nd ks⟩
def sortK (ks : List Key) : List Key := (ddK ks).mergeSort (dataLe false kPy)
theorem sortK_mem {k : Key} {ks : List Key} : k ∈ sortK ks ↔ k ∈ ks := by
  unfold sortK
  rw [(List.mergeSort_perm _ _).mem_iff, ddK_mem]
theorem sortK_lt {ks : List Key} (h : ∀ k ∈ ks, ∀ j ∈ ks, kSame k j = true) : (sortK ks).Pairwise kLt := by
  have srt := sort_pairwise (sortLe_total (listOrd itemOrd) false fun k => keyToks (kPy k)) (ddK ks)
  have nd := List.nodup_iff_pairwise_ne.mp ((List.mergeSort_perm (ddK ks) (dataLe false kPy)).nodup_iff.mpr (ddK_nd ks))
  refine List.Pairwise.imp_of_mem (fun {k j} mk mj z => ?_) (srt.and nd)
  refine kLt_of (h k (sortK_mem.mp mk) j (sortK_mem.mp mj)) z.2 ?_
  have z1 : (!dataLt (kPy j) (kPy k)) = true := z.1
  simpa using z1
theorem strict_uniq {α : Type} {lt : α → α → Prop} (irr : ∀ a, ¬ lt a a) (asy : ∀ a b, lt a b → ¬ lt b a) : ∀ {l m : List α}, l.Pairwise lt → m.Pairwise lt → (∀ k, k ∈ l ↔ k ∈ m) → l = m
  | [], [], _, _, _ => rfl
  | [], y :: m, _, _, h => by
    have := (h y).mpr List.mem_cons_self
    simp at this
  | x :: l, [], _, _, h => by
    have := (h x).mp List.mem_cons_self
    simp at this
  | x :: l, y :: m, hl, hm, h => by
    obtain ⟨lx, hl2⟩ := List.pairwise_cons.mp hl
    obtain ⟨my, hm2⟩ := List.pairwise_cons.mp hm
    have e : x = y := by
      rcases List.mem_cons.mp ((h x).mp List.mem_cons_self) with e | a
      · exact e
      · rcases List.mem_cons.mp ((h y).mpr List.mem_cons_self) with e | b
        · exact e.symm
        · exact absurd (lx y b) (asy _ _ (my x a))
    subst e
    have eq : ∀ k, k ∈ l ↔ k ∈ m := fun k => ⟨fun q => by
      rcases List.mem_cons.mp ((h k).mp (List.mem_cons_of_mem _ q)) with e | z
      · subst e
        exact absurd (lx _ q) (irr _)
      · exact z, fun q => by
      rcases List.mem_cons.mp ((h k).mpr (List.mem_cons_of_mem _ q)) with e | z
      · subst e
        exact absurd (my _ q) (irr _)
      · exact z⟩
    rw [strict_uniq irr asy hl2 hm2 eq]
theorem kLt_irr (k : Key) : ¬ kLt k k := by
  cases k with
  | inl i => exact Int.lt_irrefl i
  | inr x => exact Std.lt_irrefl
theorem kLt_asy (a b : Key) : kLt a b → ¬ kLt b a := by
  cases a <;> cases b <;> simp only [kLt] <;> intro h
  · omega
  · exact h.elim
  · exact h.elim
  · exact Std.not_gt_of_lt h
theorem sortK_uniq {zs ks : List Key} (p : zs.Pairwise kLt) (h : ∀ k ∈ ks, ∀ j ∈ ks, kSame k j = true) (m : ∀ k, k ∈ zs ↔ k ∈ ks) : zs = sortK ks :=
  strict_uniq kLt_irr kLt_asy p (sortK_lt h) fun k => (m k).trans sortK_mem.symm
/-- the turns of a set comprehension: acc: the keys met -/
def setL (chk : Hs → Prop) (bd : DB) (tt : DT) (te : DE) (env : Env) : List PV → List Key → Hs → (List Key → Hs → Prop) → Prop
  | [], acc, h, Q => chk h ∧ Q acc h
  | x :: xs, acc, h, Q => chk h ∧ bd x env fun env1 => tt env1 h (fun b h1 => if b = true then te env1 h1 (fun y h2 => ∃ k, y = .val (pvK k) ∧ acc.length + 1 < 4096 ∧ setL chk bd tt te env xs (acc ++ [k]) h2 Q) (fun _ _ => False) else setL chk bd tt te env xs acc h1 Q) (fun _ _ => False)
def dSortC (src : DI) (vs : List Nat) (bd : DB) (tt : DT) (te : DE) : DE := fun env h Q E => notOwn env vs = true ∧ src env h (fun xs chk h1 => setL chk bd tt te (wipeE env vs) xs [] h1 fun ks h2 => (∀ k ∈ ks, ∀ j ∈ ks, kSame k j = true) ∧ Q (.own ((sortK ks).map pvK)) h2) E
@[simp ↓] theorem dSortC_eq (src : DI) (vs : List Nat) (bd : DB) (tt : DT) (te : DE) (env : Env) (h : Hs) (Q : VQ) (E : XQ) : dSortC src vs bd tt te env h Q E = (notOwn env vs = true ∧ src env h (fun xs chk h1 => setL chk bd tt te (wipeE env vs) xs [] h1 fun ks h2 => (∀ k ∈ ks, ∀ j ∈ ks, kSame k j = true) ∧ Q (.own ((sortK ks).map pvK)) h2) E) := id rfl
section
variable {K : PySem.W.Frag} {W : WX}
theorem se_sortc {P : Program} {w : World} {wi : TI} {g : TG} {tt : TT} {te : TE} {vs : List Nat} {src : DI} {bd : DB} {ft : DT} {fe : DE} (hs : SI K W wi src) (hg : SG K vs g bd) (ht : ST K (fun _ _ _ _ => False) tt ft) (he : SE K (fun _ _ _ _ => False) te fe) :
    SE K W (tCB (rSortX P w) (tCons (tScX P w wi g tt te vs) tNil)) (dSortC src vs bd ft fe) := ⟨fun C m σ H env h Q E Q' eK R hf p px => by
  obtain ⟨hno, hf⟩ := hf
  refine hs.run C m σ H env h _ E _ eK R hf (fun C1 m1 J H1 xs chk h1 le S1 R1 ok q1 => ?_) px
  have eK1 : C1.K = K := le.K.trans eK
  intro D hD
  have h0D : C1.H0 D = none := by
    cases e : C1.H0 D with
    | none => rfl
    | some o => exact absurd hD (R1.dom D (by rw [e]; simp))
  have n0 : (C1.own (.ref D) (.own [])).K = K := (C1.own_K _ _).trans eK1
  have lep : ∀ p ∈ C1.pins, p ∈ (C1.own (.ref D) (.own [])).pins := fun p hp => by rw [C1.own_pins]; exact hp
  let Iv (i : Nat) (H2 : Hp) : Prop := i ≤ xs.length ∧ ∃ (m2 : List Addr) (h2 : Hs) (acc : List Key) (n : Nat), StE m1 H1 m2 H2 ∧ Rel (C1.own (.ref D) (.own [])) m2 σ H2 env h2 ∧ H2 D = some (SetKO P w D (fun k => memK k acc) n) ∧ D ∉ m2 ∧ n ≤ acc.length ∧
    setL chk bd ft fe (wipeE env vs) (xs.drop i) acc h2 fun ks h2 => (∀ k ∈ ks, ∀ j ∈ ks, kSame k j = true) ∧ Q (.own ((sortK ks).map pvK)) h2
  refine ⟨fun i n H2 => n = xs.length - i ∧ Iv i H2, ?_, ?_⟩
  · refine ⟨_, rfl, Nat.zero_le _, m1, h1, [], 0, .new hD, R1.fresh hD [], ?_, fun z => R1.mDom z hD, Nat.zero_le _, q1⟩
    rw [upd_same]
    rfl
  · rintro i n H2 ⟨rfl, hi, m2, h2, acc, cnt, S2, R2, hDa, nD, hcn, q2⟩
    by_cases hlt : i < xs.length
    · right
      have ex : xs[i]? = some xs[i] := List.getElem?_eq_getElem hlt
      rw [List.drop_eq_getElem_cons hlt] at q2
      unfold setL at q2
      obtain ⟨hc, q2⟩ := q2
      obtain ⟨go, yld⟩ := (ok _ m2 σ H2 env h2 (C1.own_K _ _) lep R2 hc i).1 _ ex
      refine ⟨go, Iv (i + 1), fun H' hN => ⟨_, by omega, rfl, hN⟩, fun x H3 hy => ?_⟩
      obtain ⟨sm, rx⟩ := yld x H3 hy
      have R3 : Rel (C1.own (.ref D) (.own [])) m2 σ H3 env h2 := R2.grow sm
      have Rw := R3.wipe vs
      have exw : ∀ b, ExOf (C1.own (.ref D) (.own [])) (wipe σ vs) (wipeE env vs) m2 b → ExOf (C1.own (.ref D) (.own [])) σ env m2 b := fun b q => by
        rcases q with q | q | q
        · exact .inl q
        · exact .inr (.inl (own_wipe q))
        · exact .inr (.inr q)
      refine hg.run _ m2 _ H3 _ h2 x _ _ _ n0 Rw (Rep.mono (Kp.le exw) ⟨[], by simp⟩ rx) q2 fun σ' env' R4 l4 k4 q4 => ?_
      refine ⟨(wipe_of (by rw [l4]) fun j hj => (k4 j hj).1).trans (wipe_wipe σ vs), ?_⟩
      have own' : ∀ b, OwnAt σ env b → OwnAt σ' env' b := fun b ⟨j, ys, e, s⟩ => by
        have nj : j ∉ vs := fun z => by
          have w := List.all_eq_true.mp hno j z
          rw [e] at w
          cases w
        refine ⟨j, ys, ?_, ?_⟩
        · rw [(k4 j nj).2, wipeE_get nj]
          exact e
        · rw [(k4 j nj).1, wipe_get]
          simp only [nj, false_and, if_false]
          exact s
      have exo : ∀ {m5 : List Addr} (b : Addr), ExOf (C1.own (.ref D) (.own [])) σ env m5 b → ExOf (C1.own (.ref D) (.own [])) σ' env' m5 b := fun {m5} b w => by
        rcases w with w | w | w
        · exact .inl w
        · exact .inr (.inl (own' b w))
        · exact .inr (.inr w)
      have outer : ∀ {m5 : List Addr} {H5 : Hp} {h5 : Hs}, StE m2 H3 m5 H5 → Rel (C1.own (.ref D) (.own [])) m5 σ' H5 env' h5 → Rel (C1.own (.ref D) (.own [])) m5 σ H5 env h5 := fun {m5 H5 h5} S R5 =>
        R3.step S ⟨R5.hm.len, R5.hm.nd, fun n a c e f => (R5.hm.at_ n a c e f).mono (Kp.le exo) ⟨[], by simp⟩ rfl⟩
      have base : StE m1 H1 m2 H3 := S2.trans (.same sm)
      have hD3 := sm _ _ hDa
      have nopx : ∀ {m5 : List Addr} {H5 : Hp}, PostX (fun _ _ _ _ => False) (C1.own (.ref D) (.own [])) m5 σ' H5 env' (fun _ _ => False) := fun c m' H' h' _ _ z => z
      refine ht.run _ m2 σ' H3 env' h2 _ _ _ n0 R4 q4 (fun m5 b H5 h5 S5 R5 q5 => ?_) nopx
      cases b with
      | false =>
        refine iteF ⟨hlt, m5, h5, acc, cnt, base.trans S5, outer S5 R5, S5.keep _ _ hD3 nD, S5.notin (by rw [hD3]; simp) nD, hcn, ?_⟩
        simpa using q5
      | true =>
        refine iteT (he.run _ m5 σ' H5 env' h5 _ _ _ n0 R5 (by simpa using q5) (fun m6 y H6 sy h6 S6 R6 r6 q6 => ?_) nopx)
        obtain ⟨k, ey, lz, q6⟩ := q6
        subst ey
        have S := S5.trans S6
        have hD6 := S.keep _ _ hD3 nD
        have nD6 : D ∉ m6 := S.notin (by rw [hD3]; simp) nD
        have ro := outer S R6.drop
        refine ⟨k, fun j => memK j acc, cnt, rep_key r6, hD6, (by show cnt + 1 < 4096; omega), ?_⟩
        show Iv (i + 1) _
        refine ⟨hlt, m6, h6, acc ++ [k], (if memK k acc = true then cnt else cnt + 1), ?_, ro.mutTemp h0D nD6, ?_, nD6, ?_, q6⟩
        · have B := base.trans S
          exact ⟨fun b o e n => by rw [upd_ne (ne_of_none e hD)]; exact B.keep b o e n, fun b q => by
            by_cases z : b = D
            · rw [z, upd_same]
              simp
            · rw [upd_ne z]
              exact B.dom b q, B.ext⟩
        · rw [upd_same]
          have e1 : (fun j => memK j acc || decide (j = k)) = fun j => memK j (acc ++ [k]) := funext fun j => by
            rw [Bool.eq_iff_iff, Bool.or_eq_true, memK_iff, memK_iff, decide_eq_true_eq, List.mem_append, List.mem_singleton]
          rw [e1]
        · rw [List.length_append, List.length_singleton]
          split <;> omega
    · left
      have ei : i = xs.length := by omega
      rw [List.drop_eq_nil_of_le (by omega)] at q2
      obtain ⟨hc, hom, q2⟩ := q2
      refine ⟨(ok _ m2 σ H2 env h2 (C1.own_K _ _) lep R2 hc i).2 (by omega), ?_⟩
      have S := S1.trans S2
      refine ⟨D, _, cnt, rfl, hDa, fun k j a b => hom k (memK_iff.mp a) j (memK_iff.mp b), fun zs b zp zm hb => ?_⟩
      have R2' : Rel C m2 σ H2 env h2 := R2.drop.back le
      obtain rfl := sortK_uniq zp hom fun k => (zm k).trans memK_iff
      have pn : ∀ {v' : V} {H' : Hp} {sv' : SV}, Same H2 H' → Rel (C.own v' sv') m2 σ H' env h2 → RepS C (ExOf C σ env m2) m2 (fun a => H2 a = none) H' v' sv' → Q sv' h2 → Q' v' H' := fun {v' H' sv'} s r3 r4 q =>
        p m2 v' H' sv' h2 (S.trans (.same s)) r3 (r4.less rfl (fun _ q => q) fun a n => stnew S n) q
      exact PostO.newL (q := fun sv => Q sv h2) (fun v' H' sv' s r3 r4 q => pn s r3 r4 q) R2' (repL_keys _) q2 hb⟩
end
theorem pd_sortc {X : Cx} {W : WX} {elt tg iter : Expr} {ifs : List Expr} {scope : Scope} {own : List (PySem.Str × Nat)} {pos p2 p : Pos} {vs : List Nat} {fi : DI} {bd : DB} {ft : DT} {fe : DE} (hc : X.calm = true) (hu : X.A.units + 90 < cLine) (hm : X.mg "sorted" = none) (hN : X.N.Nodup) (ok : BlkOk X.N X.env.scope scope own) (ev : own.map (·.2) = vs) (hi : PId X W tg iter fi)
    (hg : BlkAll X scope fun Y => PGd Y vs tg bd) (ht : BlkAll X scope fun Y => PTsd Y W0 ifs ft) (he : BlkAll X scope fun Y => PEd Y W0 elt fe) (hs : ∀ x, foldedSetIterable iter X.env x = pure x := by intro _; rfl)
    (hgl : Gl X "sorted" := by rfl) (hst : starEach [.SetComp elt [⟨tg, iter, ifs, 0⟩] scope pos] X.env = (false, eval (.SetComp elt [⟨tg, iter, ifs, 0⟩] scope pos) X.env) :: starEach [] X.env := by rfl) (hpl : (backTo p2 (starEach [] X.env)).any (·.1) = false := by rfl) :
    PEd X W (.Call (.Name "sorted" p) [.SetComp elt [⟨tg, iter, ifs, 0⟩] scope pos] [] p2) (dSortC fi vs bd ft fe) := by
  subst ev
  obtain ⟨g, h1, h2⟩ := PGd.all hg
  exact .of (pe_callB (cr_sortX hc hu) hgl hm (by decide +kernel) (pa_cons (pe_scX (tt := tT X.K W0 ft) (te := tE X.K W0 fe) hc hN hi ok h1 ht he hs) pa_nil hst) (he := hst) (hpl := hpl)) (se_sortc siI h2 stT seE)
end PM

namespace PM
open PySem PySem.Spec L2 PySem.W
open PyProof.Rows hiding St

/-! ### texts: join, str -/
def strsOf : List PV → Option (List Str)
  | [] => some []
  | .str i :: xs => (strsOf xs).map (i :: ·)
  | _ :: _ => none
theorem strsOf_eq : ∀ {xs : List PV} {ns : List Str}, strsOf xs = some ns → xs = ns.map .str
  | [], _, e => by cases e; rfl
  | .str i :: xs, ns, e => by
    unfold strsOf at e
    cases q : strsOf xs with
    | none => rw [q] at e; cases e
    | some ms =>
      rw [q] at e
      cases e
      rw [List.map_cons, strsOf_eq q]
  | .non :: _, _, e => by cases e
  | .bl _ :: _, _, e => by cases e
  | .int _ :: _, _, e => by cases e
  | .tup _ :: _, _, e => by cases e
  | .lst _ :: _, _, e => by cases e
  | .ref _ :: _, _, e => by cases e
@[simp] theorem strsOf_nil : strsOf [] = some [] := rfl
@[simp] theorem strsOf_cons (b : Str) (xs : List PV) : strsOf (.str b :: xs) = (strsOf xs).map (b :: ·) := rfl
@[simp] theorem strsOf_map (ns : List Str) : strsOf (ns.map .str) = some ns := by
  induction ns with
  | nil => rfl
  | cons n ns ih => simp [ih]
@[simp] theorem strsOf_mapf {α : Type} (l : List α) (f : α → Str) : strsOf (l.map fun a => .str (f a)) = some (l.map f) := by
  induction l with
  | nil => rfl
  | cons a l ih => simp [ih]
theorem RepL.strs {K : PySem.W.Frag} {Ex : Ad} {m : List Addr} {H : Hp} : ∀ {vs : List V} {ns : List Str}, RepL K Ex m H vs (ns.map PV.str) → vs = ns.map V.str
  | _, [], .nil => rfl
  | _, n :: ns, .cons h r => by
    cases h
    rw [RepL.strs r]
    rfl
def JoinFits (s : Str) (ys : List Str) : Prop := (ys.map (·.length)).sum + ys.length * s.length ≤ 16777216
def dJoin (a b : DE) : DE := fun env h Q E => a env h (fun x h1 => ∃ s, x = .val (.str s) ∧ b env h1 (fun y h2 => ∃ xs ys, seqC h2 y = some xs ∧ strsOf xs = some ys ∧ JoinFits s ys ∧ Q (.val (.str (Txt.join s ys))) h2) E) E
@[simp ↓] theorem dJoin_eq (a b : DE) (env : Env) (h : Hs) (Q : VQ) (E : XQ) : dJoin a b env h Q E = (a env h (fun x h1 => ∃ s, x = .val (.str s) ∧ b env h1 (fun y h2 => ∃ xs ys, seqC h2 y = some xs ∧ strsOf xs = some ys ∧ JoinFits s ys ∧ Q (.val (.str (Txt.join s ys))) h2) E) E) := id rfl
def rJoinV (K : PySem.W.Frag) : V → List V → Hp → VK → Prop := fun x xs H Q => ∃ a p, ∃ ys : List Str, x = .str a ∧ xs = [.ref p] ∧ (SqL K H p (ys.map V.str) ∨ SqT K H p (ys.map V.str)) ∧ (ys.map (·.length)).sum + ys.length * a.length ≤ 16777216 ∧ Q (.str (Txt.join a ys)) H
section
variable {K : PySem.W.Frag} {W : WX} {ta tb : TE} {fa fb : DE}
theorem se_join (ha : SE K W ta fa) (hb : SE K W tb fb) : SE K W (tM1 (rJoinV K) ta tb) (dJoin fa fb) := ⟨fun C m σ H env h Q E Q' eK R hf p px => by
  refine ha.run C m σ H env h _ E _ eK R hf (fun m1 x H1 sx h1 S1 R1 r1 q1 => ?_) px
  obtain ⟨s, rfl, q1⟩ := q1
  cases r1
  refine ⟨⟨s, rfl⟩, ?_⟩
  refine hb.run C m1 σ H1 env h1 _ E _ eK R1.drop q1 (fun m2 y H2 sy h2 S2 R2 r2 q2 => ?_) (px.go S1)
  obtain ⟨xs, ys, e1, e2, fit, q2⟩ := q2
  obtain ⟨a, vs, rfl, h3, q3⟩ := R2.drop.seq (r2.less rfl (fun _ q => q) fun _ _ => trivial) e1
  obtain rfl := strsOf_eq e2
  obtain rfl := q3.strs
  subst eK
  exact ⟨s, a, ys, rfl, rfl, h3, fit, p m2 _ H2 (.val (.str _)) h2 (S1.trans S2) R2.drop (.str _) q2⟩⟩
end
/-- str(n) -/
def gStrI : G1 := fun _ x q => match x with
  | .val (.int i) => i.natAbs.log2 < 1920 ∧ q (.val (.str (toString i : String)))
  | _ => False
@[simp ↓] theorem gStrI_eq (u0 : Hs) (x : SV) (q : SV → Prop) : gStrI u0 x q = (match x with
  | .val (.int i) => i.natAbs.log2 < 1920 ∧ q (.val (.str (toString i : String)))
  | _ => False) := id rfl
theorem us_strI {K : PySem.W.Frag} : UnS K (fun x H Q => ∃ i, [x] = [V.int i] ∧ i.natAbs.log2 < 1920 ∧ Q (.str (toString i : String)) H) gStrI := fun C m σ H env h x sx q Q' eK R rx hg p => by
  subst eK
  unfold gStrI at hg
  split at hg
  · cases rx
    exact ⟨_, rfl, hg.1, p.str R hg.2⟩
  · exact hg.elim
section
variable {X : Cx} {W : WX} {o e : Expr} {fo fe : DE} {es : List Expr} {fs : DA} {pos p apos : Pos}
theorem pd_join (ho : PEd X W o fo) (he : PEd X W e fe) (hs : starEach [e] X.env = [(false, eval e X.env)] := by rfl) (hbase : attributeBase o "join" X.env (eval o X.env) = eval o X.env := by rfl) (hline : (apos.endLine == pos.line) = true := by rfl) :
    PEd X W (.Call (.Attribute o "join" apos) [e] [] pos) (dJoin fo fe) := .of (pe_join ho he hs hbase hline) (se_join seE seE)
theorem pd_strI (hm : X.mg "str" = none) (ha : PAd X W (e :: es) fs) (hg : Gl X "str" := by rfl) (he : starEach (e :: es) X.env = (false, eval e X.env) :: starEach es X.env := by rfl) (hpl : (backTo pos (starEach es X.env)).any (·.1) = false := by rfl) :
    PEd X W (.Call (.Name "str" p) (e :: es) [] pos) (dB (g1 gStrI) fs) := .of (pe_callTy call_str_int hg hm (by decide +kernel) ha (he := he) (hpl := hpl)) (se_cb (cs_1 us_strI) saA)
end
end PM

namespace PM
open PySem PySem.Spec L2 PySem.W
open PyProof.Rows hiding St

/-! ### xs.index(y): the first place of an equal one -/
def dIndex (a b : DE) : DE := fun env h Q E => a env h (fun x h1 => (∃ xs, listC h1 x = some xs) ∧ b env h1 (fun y h2 => ∃ xs p j z, x.pv h2 = some (.lst xs) ∧ y.pv h2 = some p ∧ p.okD = true ∧ (PV.tup xs).okD = true ∧ xs[j]? = some z ∧ pyEq z p = true ∧
    (∀ m z', m < j → xs[m]? = some z' → pyEq z' p = false) ∧ Q (.val (.int (j : Nat))) h2) E) E
@[simp ↓] theorem dIndex_eq (a b : DE) (env : Env) (h : Hs) (Q : VQ) (E : XQ) : dIndex a b env h Q E = (a env h (fun x h1 => (∃ xs, listC h1 x = some xs) ∧ b env h1 (fun y h2 => ∃ xs p j z, x.pv h2 = some (.lst xs) ∧ y.pv h2 = some p ∧ p.okD = true ∧ (PV.tup xs).okD = true ∧ xs[j]? = some z ∧ pyEq z p = true ∧
    (∀ m z', m < j → xs[m]? = some z' → pyEq z' p = false) ∧ Q (.val (.int (j : Nat))) h2) E) E) := id rfl
section
variable {K : PySem.W.Frag} {W : WX} {ta tb : TE} {fa fb : DE}
theorem se_index (ha : SE K W ta fa) (hb : SE K W tb fb) : SE K W (tBM K "list" (rIndexD K) ta (fun σ H Q => tb σ H fun y H1 => Q [y] H1)) (dIndex fa fb) := ⟨fun C m σ H env h Q E Q' eK R hf p px => by
  refine ha.run C m σ H env h _ E _ eK R hf (fun m1 x H1 sx h1 S1 R1 r1 q1 => ?_) px
  obtain ⟨⟨xs0, e0⟩, q1⟩ := q1
  obtain ⟨a, vs, rfl, hl0, _⟩ := R1.drop.list (r1.less rfl (fun _ q => q) fun _ _ => trivial) e0
  refine ⟨.inl ⟨rfl, vs, by rw [← eK]; exact hl0⟩, ?_⟩
  refine hb.run (C.own (.ref a) sx) m1 σ H1 env h1 _ E _ ((C.own_K _ sx).trans eK) R1 q1 (fun m2 y H2 sy h2 S2 R2 r2 q2 => ?_) (px.go S1).own
  obtain ⟨xs, pd, j, z, e1, e2, o1, o2, hj, hz, hno, q2⟩ := q2
  obtain ⟨n2, s2, s3⟩ := okD_tl o2
  unfold PV.okD at o1
  rw [Bool.and_eq_true] at o1
  have rx := r1.step S2 fun _ _ => trivial
  have ry := (r2.less (C.own_K (.ref a) sx).symm (fun b q => q.le fun _ => C.own_GT (.ref a) sx) fun _ _ => trivial : RepA C σ env m2 H2 y sy)
  have d2 := R2.drop.drop.dp rx e1 (by unfold PV.noRef; exact n2)
  unfold PV.py at d2
  rw [PV.pyL_map] at d2 s3
  subst eK
  refine ⟨a, y, pd.py, xs.map PV.py, j, z.py, rfl, rfl, d2, R2.drop.drop.dp ry e2 o1.1, s3, o1.2, by rw [List.getElem?_map, hj]; rfl, hz, fun i z' hi hz' => ?_, ?_⟩
  · rw [List.getElem?_map, Option.map_eq_some_iff] at hz'
    obtain ⟨z0, h0, rfl⟩ := hz'
    exact hno i z0 hi h0
  · exact p m2 _ H2 (.val (.int _)) h2 (S1.trans S2) R2.drop.drop (.int _) q2⟩
end
section
variable {X : Cx} {W : WX} {o e : Expr} {fo fe : DE} {pos p apos : Pos}
theorem pd_index (hu : X.A.units + 65 < cLine) (ho : PEd X W o fo) (he : PEd X W e fe) (hbase : attributeBase o "index" X.env (eval o X.env) = eval o X.env := by rfl)
    (hfew : ((backTo pos (starEach [e] X.env)).all (fun x => !x.1) && (backToKw pos (keywordEach [] X.env)).all (fun x => x.1.isSome)
      && decide ([e].length + ([] : List Keyword).length + (if ([] : List Keyword).isEmpty then 0 else 1) < 30)) = true := by rfl)
    (hline : (apos.endLine == pos.line) = true := by rfl) (hs : starEach [e] X.env = [(false, eval e X.env)] := by rfl) :
    PEd X W (.Call (.Attribute o "index" apos) [e] [] pos) (dIndex fo fe) := .of (pe_bm PySem.F.plainAttrs_list PySem.F.slot_list_index PySem.F.type_list_index (mt_indexD hu) ho (pa_cons he pa_nil hs) hbase hfew hline hs rfl) (se_index seE seE)
end
end PM

namespace PM
open PySem PySem.Spec L2 PySem.W
open PyProof.Rows hiding St

/-! ### dicts with keys ints and texts -/
def kP : L2.Key → PV
  | .inl i => .int i
  | .inr x => .str x
@[simp] theorem kP_inl (i : Int) : kP (.inl i) = .int i := rfl
@[simp] theorem kP_inr (x : Str) : kP (.inr x) = .str x := rfl
def asKey : SV → Option L2.Key
  | .val (.int i) => some (.inl i)
  | .val (.str x) => some (.inr x)
  | _ => none
@[simp] theorem asKey_int (i : Int) : asKey (.val (.int i)) = some (.inl i) := rfl
@[simp] theorem asKey_str (x : Str) : asKey (.val (.str x)) = some (.inr x) := rfl
def valP (kvs : List (L2.Key × PV)) (k : L2.Key) : Option PV := (kvs.find? fun kv => decide (kv.1 = k)).map (·.2)
section
variable {K : PySem.W.Frag} {W : WX} {C : Ctx} {m : List Addr} {σ : St} {env : Env} {H : Hp} {h : Hs}
/-- a new cell of any kind -/
theorem Rel.allocC {a : Addr} {c : Cell} {o : HO} (R : Rel C m σ H env h) (n : H a = none) (r : ∀ Ex, CellR C.K Ex (m ++ [a]) (upd H a o) a c) :
    StE m H (m ++ [a]) (upd H a o) ∧ Rel C (m ++ [a]) σ (upd H a o) env (h ++ [c]) := by
  have nm : a ∉ m := fun z => R.mDom z n
  have n0 : C.H0 a = none := by
    cases e : C.H0 a with
    | none => rfl
    | some o => exact absurd n (R.dom a (by rw [e]; simp))
  refine ⟨⟨fun b u e _ => by rw [upd_ne (ne_of_none e n)]; exact e, fun b q => by
    by_cases z : b = a
    · rw [z, upd_same]
      simp
    · rw [upd_ne z]
      exact q, [a], rfl, fun b hb => by rw [List.mem_singleton.mp hb]; exact n⟩, ?_⟩
  have R' := R.fresh (o := o) n []
  have R0 := R'.drop
  have no : ¬ OwnAt σ env a := R'.gown a (.inr (.inr rfl))
  have ex : ∀ b, ExOf C σ env (m ++ [a]) b → ExOf (C.own (.ref a) (.own [])) σ env m b := fun b z => by
    rcases z with z | z | z
    · exact .inl (C.own_GT _ _ z)
    · exact .inr (.inl z)
    · rcases List.mem_append.mp z with z | z
      · exact .inr (.inr z)
      · rw [List.mem_singleton.mp z]
        exact .inl (.inr (.inr rfl))
  have slots : ∀ w sw, SlotR (C.own (.ref a) (.own [])) σ env m (upd H a o) w sw → (sw.isOwn = true → w ≠ .ref a) → SlotR C σ env (m ++ [a]) (upd H a o) w sw := fun w sw ⟨r1, b1⟩ no' => by
    refine ⟨?_, b1.le rfl (fun b o => .inl o) fun b q => .inl q⟩
    cases sw with
    | val p => exact Rep.mono (Kp.le ex) ⟨_, rfl⟩ r1
    | own zs =>
      obtain ⟨c, ws, rfl, hc, hn, cm, q⟩ := r1
      refine ⟨c, ws, rfl, hc, hn, fun z => ?_, RepL.mono (Kp.le fun b z => z.imp (ex b) id) ⟨_, rfl⟩ q⟩
      rcases List.mem_append.mp z with z | z
      · exact cm z
      · exact no' rfl (by rw [List.mem_singleton.mp z])
    | brw zs =>
      obtain ⟨c, ws, rfl, hc, q⟩ := r1
      refine ⟨c, ws, rfl, ⟨hc.1, fun z => ?_⟩, RepL.mono (Kp.le ex) ⟨_, rfl⟩ q⟩
      rcases List.mem_append.mp z with z | z
      · exact hc.2 z
      · exact (b1 c rfl).2 (.inr (by rw [List.mem_singleton.mp z]))
    | exc _ _ => first | (cases e; done) | (cases nb; done) | exact r | exact r1 | exact ⟨r, trivial⟩ | exact ⟨r1, trivial⟩ | exact ⟨rv, trivial⟩ | trivial
    | scr ns =>
      obtain ⟨c, rfl, hc⟩ := r1
      refine ⟨c, rfl, ?_⟩
      rcases b1 c rfl with z | z
      · exact .inr z
      · rcases hc with hc | hc
        · refine .inl ⟨hc.1, fun e => ?_⟩
          rcases List.mem_append.mp e with e | e
          · exact hc.2 e
          · exact z.2 (.inr (by rw [List.mem_singleton.mp e]))
        · exact .inr hc
  refine ⟨R.len, fun j sw e => ?_, fun p hp => ⟨slots _ _ (R'.pin p hp).1 (fun q => by rw [(R'.pin p hp).2] at q; cases q), (R'.pin p hp).2⟩, R.uniq, ⟨by rw [List.length_append, List.length_append, R.hm.len]; rfl, ?_, fun k b c' e f => ?_⟩, R0.keep, R0.dom, ?_, R0.gdom, R0.gown⟩
  · obtain ⟨w, s, r1⟩ := R'.slot j sw e
    refine ⟨w, s, slots w sw r1 fun q z => ?_⟩
    cases sw with
    | own zs => exact no ⟨j, zs, e, by rw [← z]; exact s⟩
    | _ => cases q
  · rw [List.nodup_append]
    exact ⟨R.hm.nd, by simp, fun x hx y hy => by rw [List.mem_singleton.mp hy]; exact fun z => nm (z ▸ hx)⟩
  · by_cases hk : k < m.length
    · rw [List.getElem?_append_left hk] at e
      rw [List.getElem?_append_left (by rw [← R.hm.len]; exact hk)] at f
      exact (R'.hm.at_ k b c' e f).mono (Kp.le ex) ⟨_, rfl⟩ rfl
    · rw [List.getElem?_append_right (by omega)] at e
      rw [List.getElem?_append_right (by rw [← R.hm.len]; omega)] at f
      have e1 := List.mem_singleton.mp (List.mem_of_getElem? e)
      have e2 := List.mem_singleton.mp (List.mem_of_getElem? f)
      subst e1 e2
      exact r _
  · obtain ⟨ms, rfl, hn⟩ := R0.pre
    refine ⟨ms ++ [a], by simp, fun b hb => ?_⟩
    rcases List.mem_append.mp hb with z | z
    · exact hn b z
    · rw [List.mem_singleton.mp z]
      exact n0
theorem key_v {Ex : Ad} {v : V} {k : L2.Key} (r : Rep K Ex m H v (kP k)) : v = kV k := by
  cases k <;> cases r <;> rfl
theorem asKey_v {Ex N : Ad} {v : V} {sv : SV} {k : L2.Key} (r : RepS C Ex m N H v sv) (e : asKey sv = some k) : v = kV k := by
  unfold asKey at e
  split at e
  · cases e; cases r; rfl
  · cases e; cases r; rfl
  · cases e
/-- a look-up -/
theorem find_rep {Ex : Ad} : ∀ {vs : List (L2.Key × V)} {kvs : List (L2.Key × PV)}, vs.map (·.1) = kvs.map (·.1) → RepL K Ex m H (vs.map (·.2)) (kvs.map (·.2)) → ∀ k, (∃ v p, valV vs k = some v ∧ valP kvs k = some p ∧ Rep K Ex m H v p) ∨ (valV vs k = none ∧ valP kvs k = none)
  | [], [], _, _, k => .inr ⟨rfl, rfl⟩
  | [], _ :: _, e, _, _ => by simp at e
  | _ :: _, [], e, _, _ => by simp at e
  | (a, v) :: vs, (b, p) :: kvs, e, r, k => by
    simp only [List.map_cons, List.cons.injEq] at e r
    obtain ⟨rfl, e⟩ := e
    cases r with
    | cons r1 r2 =>
      by_cases q : a = k
      · exact .inl ⟨v, p, by rw [valV_pos (p := (a, v)) q], by simp [valP, List.find?_cons, q], r1⟩
      · have := find_rep e r2 k
        rw [valV_neg (p := (a, v)) q]
        simpa [valP, List.find?_cons, q] using this
def dDget (a b : DE) : DE := fun env h Q E => a env h (fun x h1 => b env h1 (fun y h2 => ∃ n kvs k p, x = .val (.ref n) ∧ h2[n]? = some (.dK kvs) ∧ asKey y = some k ∧ valP kvs k = some p ∧ Q (.val p) h2) E) E
@[simp ↓] theorem dDget_eq (a b : DE) (env : Env) (h : Hs) (Q : VQ) (E : XQ) : dDget a b env h Q E = (a env h (fun x h1 => b env h1 (fun y h2 => ∃ n kvs k p, x = .val (.ref n) ∧ h2[n]? = some (.dK kvs) ∧ asKey y = some k ∧ valP kvs k = some p ∧ Q (.val p) h2) E) E) := id rfl
theorem se_dget {ta tb : TE} {fa fb : DE} (ha : SE K W ta fa) (hb : SE K W tb fb) : SE K W (tDGet ta tb) (dDget fa fb) := ⟨fun C m σ H env h Q E Q' eK R hf p px => by
  refine ha.run C m σ H env h _ E _ eK R hf (fun m1 x H1 sx h1 S1 R1 r1 q1 => ?_) px
  refine hb.run (C.own x sx) m1 σ H1 env h1 _ E _ ((C.own_K x sx).trans eK) R1 q1 (fun m2 y H2 sy h2 S2 R2 r2 q2 => ?_) (px.go S1).own
  obtain ⟨n, kvs, k, pv, rfl, e1, e2, e3, q2⟩ := q2
  have ry := asKey_v r2 e2
  subst ry
  have rx := r1.step S2 (N' := fun _ => True) fun _ _ => trivial
  obtain ⟨a, rfl, ea, vs, hv, ek, rl⟩ := R2.drop.drop.cellAt (show Rep C.K (ExOf C σ env m2) m2 H2 x (.ref n) from rx) e1
  rcases find_rep ek rl k with ⟨v, p', f1, f2, f3⟩ | ⟨_, f2⟩
  · rw [e3] at f2
    cases f2
    refine ⟨a, v, rfl, f1 ▸ DGet.k hv, ?_⟩
    exact p m2 v H2 (.val pv) h2 (S1.trans S2) R2.drop.drop f3 q2
  · rw [e3] at f2
    cases f2⟩
/-- the pairs of a display -/
def dPairs : List (L2.Key × DE) → Env → Hs → (List (L2.Key × PV) → Hs → Prop) → XQ → Prop
  | [], _, h, Q, _ => Q [] h
  | (k, f) :: r, env, h, Q, E => f env h (fun y h1 => match y.toVal with
    | some p => dPairs r env h1 (fun ps h2 => Q ((k, p) :: ps) h2) E
    | none => False) E
@[simp ↓] theorem dPairs_nil (env : Env) (h : Hs) (Q : List (L2.Key × PV) → Hs → Prop) (E : XQ) : dPairs [] env h Q E = Q [] h := id rfl
@[simp ↓] theorem dPairs_cons (k : L2.Key) (f : DE) (r : List (L2.Key × DE)) (env : Env) (h : Hs) (Q : List (L2.Key × PV) → Hs → Prop) (E : XQ) : dPairs ((k, f) :: r) env h Q E = f env h (fun y h1 => match y.toVal with
    | some p => dPairs r env h1 (fun ps h2 => Q ((k, p) :: ps) h2) E
    | none => False) E := id rfl
def dDisp (ps : List (L2.Key × DE)) : DE := fun env h Q E => dPairs ps env (h ++ [.dK []]) (fun kvs h2 => h2[h.length]? = some (.dK []) ∧ kvs.length ≤ 15 ∧ (kvs.map (·.1)).Nodup ∧ Q (.val (.ref h.length)) (h2.set h.length (.dK kvs))) E
@[simp ↓] theorem dDisp_eq (ps : List (L2.Key × DE)) (env : Env) (h : Hs) (Q : VQ) (E : XQ) : dDisp ps env h Q E = dPairs ps env (h ++ [.dK []]) (fun kvs h2 => h2[h.length]? = some (.dK []) ∧ kvs.length ≤ 15 ∧ (kvs.map (·.1)).Nodup ∧ Q (.val (.ref h.length)) (h2.set h.length (.dK kvs))) E := id rfl
theorem merge_nodup : ∀ (more kvs : List (L2.Key × V)), ((kvs ++ more).map (·.1)).Nodup → mergeK kvs more = kvs ++ more
  | [], kvs, _ => by simp [mergeK]
  | p :: r, kvs, nd => by
    have hn : valV kvs p.1 = none := by
      unfold valV
      rw [Option.map_eq_none_iff, List.find?_eq_none]
      intro z mz
      rw [decide_eq_true_eq]
      intro e
      rw [List.map_append, List.nodup_append] at nd
      exact nd.2.2 z.1 (List.mem_map.mpr ⟨z, mz, rfl⟩) p.1 (by simp) e
    have := merge_nodup r (kvs ++ [p]) (by rw [List.append_assoc]; exact nd)
    show mergeK (putK kvs p.1 p.2) r = _
    rw [putK_new p.2 hn, this, List.append_assoc]
    rfl
inductive PrsS (K : PySem.W.Frag) (W : WX) : List (TE × TE) → List (L2.Key × DE) → Prop
  | nil : PrsS K W [] []
  | cons {k : L2.Key} {te : TE} {fe : DE} {trs : List (TE × TE)} {ps : List (L2.Key × DE)} (h : SE K W te fe) (r : PrsS K W trs ps) : PrsS K W ((tC (kV k), te) :: trs) ((k, fe) :: ps)
theorem prs_ok {trs : List (TE × TE)} {ps : List (L2.Key × DE)} (hs : PrsS K W trs ps) : ∀ (C : Ctx) (m : List Addr) (σ : St) (H : Hp) (env : Env) (h : Hs) (Q : List (L2.Key × PV) → Hs → Prop) (E : XQ) (Q' : List (V × V) → Hp → Prop), C.K = K → Rel C m σ H env h → dPairs ps env h Q E →
    (∀ m' (vs : List (L2.Key × V)) H' kvs h', StE m H m' H' → Rel C m' σ H' env h' → vs.map (·.1) = kvs.map (·.1) → RepL C.K (ExOf C σ env m') m' H' (vs.map (·.2)) (kvs.map (·.2)) → Q kvs h' → Q' (vs.map fun kv => (kV kv.1, kv.2)) H') → PostX W C m σ H env E → tPairs trs σ H Q' := by
  induction hs with
  | nil =>
    intro C m σ H env h Q E Q' eK R hf p px
    exact p m [] H [] h (.refl m H) R rfl .nil hf
  | @cons k te fe trs ps hv hr ih =>
    intro C m σ H env h Q E Q' eK R hf p px
    rw [dPairs_cons] at hf
    refine hv.run C m σ H env h _ E _ eK R hf (fun m1 y H1 sy h1 S1 R1 r1 q1 => ?_) px
    split at q1
    · rename_i pv ep
      have ry := R.toVal r1 ep
      refine ih C m1 σ H1 env h1 _ E _ eK R1.drop q1 (fun m2 vs H2 kvs h2 S2 R2 ek rl q2 => ?_) (px.go S1)
      have ry2 : Rep C.K (ExOf C σ env m2) m2 H2 y pv := Rep.mono (R1.drop.kp S2) S2.ex' ry
      exact p m2 ((k, y) :: vs) H2 ((k, pv) :: kvs) h2 (S1.trans S2) R2 (by simp [ek]) (.cons ry2 rl) q2
    · exact q1.elim
theorem se_disp {trs : List (TE × TE)} {ps : List (L2.Key × DE)} (hs : PrsS K W trs ps) : SE K W (tDisp trs) (dDisp ps) := ⟨fun C m σ H env h Q E Q' eK R hf p px => by
  intro a na
  obtain ⟨S0, R0⟩ := R.allocC (a := a) (c := .dK []) (o := .dK []) na fun Ex => ⟨[], upd_same, rfl, .nil⟩
  have ln := R.hm.len
  rw [dDisp_eq] at hf
  refine prs_ok hs C _ σ _ env _ _ E _ eK R0 hf (fun m2 vs H2 kvs h2 S2 R2 ek rl q2 => ?_) (px.go S0)
  obtain ⟨e1, l15, nd, q2⟩ := q2
  obtain ⟨ms, em, _⟩ := S2.ext
  have ea : m2[h.length]? = some a := by
    rw [em, List.append_assoc, ← ln, List.getElem?_append_right (by omega)]
    simp
  obtain ⟨us, hu, eu, ru⟩ := R2.hm.at_ _ _ _ ea e1
  have : us = [] := by simpa using eu
  subst this
  have am : a ∈ m2 := List.mem_of_getElem? ea
  have e3 : mergeK [] vs = vs := by
    have := merge_nodup vs [] (by rw [List.nil_append, ek]; exact nd)
    simpa using this
  have cr : CellR C.K (ExOf C σ env m2) m2 (upd H2 a (.dK vs)) a (.dK kvs) := ⟨vs, upd_same, ek, RepL.mono (fun b u e q => ⟨by rw [upd_ne fun z => q (by rw [z]; exact .inr (.inr am))]; exact e, q⟩) ⟨[], by simp⟩ rl⟩
  obtain ⟨S3, R3⟩ := R2.mutCell ea (List.getElem?_eq_some_iff.mp e1).1 cr
  refine ⟨hu, vs, rfl, ?_, ?_⟩
  · have := congrArg List.length ek
    simp at this
    omega
  · rw [e3]
    exact p m2 _ _ (.val (.ref h.length)) _ ((S0.trans S2).trans S3) R3 (.ref ea) q2⟩
end
section
variable {X : Cx} {W : WX} {o e : Expr} {fo fe : DE} {pos : Pos}
theorem pd_dget (hu : X.A.units + 65 < cLine) (ho : PEd X W o fo) (he : PEd X W e fe) (hs : NoSl e := by intro _ _; rfl) : PEd X W (.Subscript o e pos) (dDget fo fe) := .of (pe_dget (by omega) ho he hs) (se_dget seE seE)
structure Prsd (X : Cx) (W : WX) (pos : Pos) (ks : List (Option Expr)) (vs : List Expr) (ps : List (L2.Key × DE)) : Prop where
  ok : ∃ trs, PPs X pos ks vs trs ∧ PrsS X.K W trs ps
theorem prd_nil : Prsd X W pos [] [] [] := ⟨_, pps_nil, .nil⟩
theorem prd_str {x : Str} {j} {p2 : Pos} {v : Expr} {f : DE} {ks : List (Option Expr)} {vs : List Expr} {ps : List (L2.Key × DE)} (hv : PEd X W v f) (r : Prsd X W pos ks vs ps) : Prsd X W pos (some (.Constant (.str x) j p2) :: ks) (v :: vs) ((.inr x, f) :: ps) := by
  obtain ⟨trs, h1, h2⟩ := r.ok
  exact ⟨_, pps_cons pe_str hv h1, .cons (k := .inr x) seE h2⟩
theorem prd_int {x : Int} {j} {p2 : Pos} {v : Expr} {f : DE} {ks : List (Option Expr)} {vs : List Expr} {ps : List (L2.Key × DE)} (hv : PEd X W v f) (r : Prsd X W pos ks vs ps) : Prsd X W pos (some (.Constant (.int x) j p2) :: ks) (v :: vs) ((.inl x, f) :: ps) := by
  obtain ⟨trs, h1, h2⟩ := r.ok
  exact ⟨_, pps_cons pe_int hv h1, .cons (k := .inl x) seE h2⟩
theorem pd_disp {ks : List (Option Expr)} {vs : List Expr} {ps : List (L2.Key × DE)} (h : Prsd X W pos ks vs ps) (hall : ks.all (·.isSome) = true := by rfl) (hl : ks.length = vs.length := by rfl) (h0 : ks ≠ [] := by intro e; cases e) (h15 : ks.length ≤ 15 := by decide) : PEd X W (.Dict ks vs pos) (dDisp ps) := by
  obtain ⟨trs, h1, h2⟩ := h.ok
  exact .of (pe_disp h1 hall hl h0 h15) (se_disp h2)
end
end PM

namespace PM
open PySem PySem.Spec L2 PySem.W
open PyProof.Rows hiding St

/-! ### a comprehension over a name's own list: it stays the name's own -/
def dLcO (i : Nat) (vs : List Nat) (bd : DB) (tt : DT) (te : DE) : DE := fun env h Q _ => notOwn env vs = true ∧ ∃ xs, env[i]? = some (some (.own xs)) ∧ compL (fun _ => True) bd tt te (wipeE env vs) xs [] h fun acc h2 => Q (.own acc) h2
@[simp ↓] theorem dLcO_eq (i : Nat) (vs : List Nat) (bd : DB) (tt : DT) (te : DE) (env : Env) (h : Hs) (Q : VQ) (E : XQ) : dLcO i vs bd tt te env h Q E = (notOwn env vs = true ∧ ∃ xs, env[i]? = some (some (.own xs)) ∧ compL (fun _ => True) bd tt te (wipeE env vs) xs [] h fun acc h2 => Q (.own acc) h2) := id rfl
section
variable {K : PySem.W.Frag} {W : WX}
theorem itok_own {C : Ctx} {σ : St} {env : Env} {xs : List PV} {a : Addr} {k : Nat} (e0 : env[k]? = some (some (.own xs))) (s0 : σ[k]? = some (some (.ref a))) : ∀ (C2 : Ctx) (m2 : List Addr) (H2 : Hp) (h2 : Hs), C2.K = C.K → Rel C2 m2 σ H2 env h2 → ∀ i,
    (∀ p, xs[i]? = some p → (Itl C.K a).go i H2 ∧ ∀ x H3, (Itl C.K a).yld i H2 x H3 → Same H2 H3 ∧ Rep C2.K (ExOf C2 σ env m2) m2 H3 x p) ∧ (xs.length ≤ i → (Itl C.K a).stop i H2) := by
  intro C2 m2 H2 h2 eK R i
  obtain ⟨b, vs, sb, hv, q⟩ := R.owned e0
  rw [s0] at sb
  cases sb
  have hs : SqL C.K H2 a vs := .of hv
  refine ⟨fun p f => ?_, fun l => ⟨vs, hs, by rw [q.length]; exact l⟩⟩
  obtain ⟨x, ex, _⟩ := q.get f
  refine ⟨⟨vs, x, hs, ex⟩, fun y H3 ⟨e1, e2⟩ => ?_⟩
  subst e1
  exact ⟨Same.refl _, q.here (e2 _ hs) f⟩
theorem se_lcO {g : TG} {tt : TT} {te : TE} {vs : List Nat} {k : Nat} {bd : DB} {ft : DT} {fe : DE} (hg : SG K vs g bd) (ht : ST K (fun _ _ _ _ => False) tt ft) (he : SE K (fun _ _ _ _ => False) te fe) :
    SE K W (tLc (iSeq K (tVar k)) g tt te vs) (dLcO k vs bd ft fe) := ⟨fun C m σ H env h Q E Q' eK R hf p px => by
  obtain ⟨hno, xs, e0, q1⟩ := hf
  obtain ⟨a0, vs0, s0, hv0, _⟩ := R.owned e0
  have ok := itok_own (C := C) e0 s0
  rw [eK] at ok
  have eJ : SqL K H a0 vs0 := .of hv0
  refine ⟨_, s0, .inl ⟨a0, rfl, ⟨vs0, eJ⟩, ?_⟩⟩
  let C1 := C
  let m1 := m
  let H1 := H
  let h1 := h
  have le : CtxLe C C1 := .refl C
  have S1 : StE m H m1 H1 := .refl m H
  have R1 : Rel C1 m1 σ H1 env h1 := R
  have ok : ∀ (C2 : Ctx) (m2 : List Addr) (σ2 : St) (H2 : Hp) (env2 : Env) (h2 : Hs), C2.K = C1.K → (∀ p ∈ C1.pins, p ∈ C2.pins) → Rel C2 m2 σ H2 env h2 → True → ∀ i,
    (∀ p, xs[i]? = some p → (Itl K a0).go i H2 ∧ ∀ x H3, (Itl K a0).yld i H2 x H3 → Same H2 H3 ∧ Rep C2.K (ExOf C2 σ env m2) m2 H3 x p) ∧ (xs.length ≤ i → (Itl K a0).stop i H2) := fun C2 m2 _ H2 _ h2 e _ R _ i => ok C2 m2 H2 h2 (e.trans eK) R i
  have eK1 : C1.K = K := le.K.trans eK
  intro D hD
  have h0D : C1.H0 D = none := by
    cases e : C1.H0 D with
    | none => rfl
    | some o => exact absurd hD (R1.dom D (by rw [e]; simp))
  have n0 : (C1.own (.ref D) (.own [])).K = K := (C1.own_K _ _).trans eK1
  have lep : ∀ p ∈ C1.pins, p ∈ (C1.own (.ref D) (.own [])).pins := fun p hp => by rw [C1.own_pins]; exact hp
  -- the state of the loop
  let Inv (i : Nat) (H2 : Hp) : Prop := i ≤ xs.length ∧ ∃ (m2 : List Addr) (h2 : Hs) (acc : List PV) (av : List V), StE m1 H1 m2 H2 ∧ Rel (C1.own (.ref D) (.own [])) m2 σ H2 env h2 ∧ H2 D = some (.lst av) ∧ D ∉ m2 ∧
    RepL C1.K (fun b => ExOf C1 σ env m2 b ∨ b = D) m2 H2 av acc ∧ compL (fun _ => True) bd ft fe (wipeE env vs) (xs.drop i) acc h2 fun acc h2 => Q (.own acc) h2
  refine ⟨fun i n H2 => n = xs.length - i ∧ Inv i H2, ?_, ?_⟩
  · exact ⟨_, rfl, Nat.zero_le _, m1, h1, [], [], .new hD, R1.fresh hD [], upd_same, fun z => R1.mDom z hD, .nil, q1⟩
  · rintro i n H2 ⟨rfl, hi, m2, h2, acc, av, S2, R2, hDa, nD, ra, q2⟩
    by_cases hlt : i < xs.length
    · right
      have ex : xs[i]? = some xs[i] := List.getElem?_eq_getElem hlt
      rw [List.drop_eq_getElem_cons hlt] at q2
      unfold compL at q2
      obtain ⟨hc, q2⟩ := q2
      obtain ⟨go, yld⟩ := (ok _ m2 σ H2 env h2 (C1.own_K _ _) lep R2 hc i).1 _ ex
      refine ⟨go, Inv (i + 1), fun H' hN => ⟨_, by omega, rfl, hN⟩, fun x H3 hy => ?_⟩
      obtain ⟨sm, rx⟩ := yld x H3 hy
      have R3 : Rel (C1.own (.ref D) (.own [])) m2 σ H3 env h2 := R2.grow sm
      have Rw := R3.wipe vs
      have exw : ∀ b, ExOf (C1.own (.ref D) (.own [])) (wipe σ vs) (wipeE env vs) m2 b → ExOf (C1.own (.ref D) (.own [])) σ env m2 b := fun b q => by
        rcases q with q | q | q
        · exact .inl q
        · exact .inr (.inl (own_wipe q))
        · exact .inr (.inr q)
      refine hg.run _ m2 _ H3 _ h2 x _ _ _ n0 Rw (Rep.mono (Kp.le exw) ⟨[], by simp⟩ rx) q2 fun σ' env' R4 l4 k4 q4 => ?_
      refine ⟨(wipe_of (by rw [l4]) fun j hj => (k4 j hj).1).trans (wipe_wipe σ vs), ?_⟩
      -- the outer lists of one's own are there within the turn, too
      have own' : ∀ b, OwnAt σ env b → OwnAt σ' env' b := fun b ⟨j, ys, e, s⟩ => by
        have nj : j ∉ vs := fun z => by
          have w := List.all_eq_true.mp hno j z
          rw [e] at w
          cases w
        refine ⟨j, ys, ?_, ?_⟩
        · rw [(k4 j nj).2, wipeE_get nj]
          exact e
        · rw [(k4 j nj).1, wipe_get]
          simp only [nj, false_and, if_false]
          exact s
      have exo : ∀ {m5 : List Addr} (b : Addr), ExOf (C1.own (.ref D) (.own [])) σ env m5 b → ExOf (C1.own (.ref D) (.own [])) σ' env' m5 b := fun {m5} b w => by
        rcases w with w | w | w
        · exact .inl w
        · exact .inr (.inl (own' b w))
        · exact .inr (.inr w)
      have outer : ∀ {m5 : List Addr} {H5 : Hp} {h5 : Hs}, StE m2 H3 m5 H5 → Rel (C1.own (.ref D) (.own [])) m5 σ' H5 env' h5 → Rel (C1.own (.ref D) (.own [])) m5 σ H5 env h5 := fun {m5 H5 h5} S R5 =>
        R3.step S ⟨R5.hm.len, R5.hm.nd, fun n a c e f => (R5.hm.at_ n a c e f).mono (Kp.le exo) ⟨[], by simp⟩ rfl⟩
      have base : StE m1 H1 m2 H3 := S2.trans (.same sm)
      have hD3 : H3 D = some (.lst av) := sm _ _ hDa
      have ra3 : RepL C1.K (fun b => ExOf C1 σ env m2 b ∨ b = D) m2 H3 av acc := RepL.mono (fun b u e n => ⟨sm _ _ e, n⟩) ⟨[], by simp⟩ ra
      have raS : ∀ {m5 : List Addr} {H5 : Hp}, StE m2 H3 m5 H5 → RepL C1.K (fun b => ExOf C1 σ env m5 b ∨ b = D) m5 H5 av acc := fun {m5 H5} S => RepL.mono (S.kp (fun b q => .inl (.inr (.inr q))) fun b q => by
        rcases q with q | q
        · exact q.step.imp .inl id
        · exact .inl (.inr q)) S.ex' ra3
      have nopx : ∀ {m5 : List Addr} {H5 : Hp}, PostX (fun _ _ _ _ => False) (C1.own (.ref D) (.own [])) m5 σ' H5 env' (fun _ _ => False) := fun c m' H' h' _ _ z => z
      refine ht.run _ m2 σ' H3 env' h2 _ _ _ n0 R4 q4 (fun m5 b H5 h5 S5 R5 q5 => ?_) nopx
      cases b with
      | false =>
        refine iteF ⟨hlt, m5, h5, acc, av, base.trans S5, outer S5 R5, S5.keep _ _ hD3 nD, S5.notin (by rw [hD3]; simp) nD, raS S5, ?_⟩
        simpa using q5
      | true =>
        refine iteT (he.run _ m5 σ' H5 env' h5 _ _ _ n0 R5 (by simpa using q5) (fun m6 y H6 sy h6 S6 R6 r6 q6 => ?_) nopx)
        split at q6
        · rename_i pv ep
          obtain ⟨lz, q6⟩ := q6
          have S := S5.trans S6
          have hD6 : H6 D = some (.lst av) := S.keep _ _ hD3 nD
          have nD6 : D ∉ m6 := S.notin (by rw [hD3]; simp) nD
          have ry := R5.toVal r6 ep
          rw [C1.own_K] at ry
          have ro := outer S R6.drop
          have ra6 := raS S
          have lz' : av.length < sizeLine := by
            rw [ra6.length]
            exact lz
          refine ⟨av, hD6, lz', hlt, m6, h6, acc ++ [pv], av ++ [y], ?_, ro.mutTemp h0D nD6, upd_same, nD6, ?_, q6⟩
          · have B := base.trans S
            exact ⟨fun b o e n => by rw [upd_ne (ne_of_none e hD)]; exact B.keep b o e n, fun b q => by
              by_cases z : b = D
              · rw [z, upd_same]
                simp
              · rw [upd_ne z]
                exact B.dom b q, B.ext⟩
          · have ru : RepL C1.K (fun b => ExOf C1 σ env m6 b ∨ b = D) m6 H6 (av ++ [y]) (acc ++ [pv]) := ra6.append (.cons (Rep.mono (Kp.le fun b q => ?_) ⟨[], by simp⟩ ry) .nil)
            · exact RepL.mono (fun b u e n => ⟨by rw [upd_ne (fun z => n (.inr z))]; exact e, n⟩) ⟨[], by simp⟩ ru
            · rcases q with q | q
              · exact exo b (q.le fun _ => C1.own_GT _ _)
              · rw [q]
                exact .inl (.inr (.inr rfl))
        · exact q6.elim
    · left
      have ei : i = xs.length := by omega
      rw [List.drop_eq_nil_of_le (by omega)] at q2
      obtain ⟨hc, q2⟩ := q2
      refine ⟨(ok _ m2 σ H2 env h2 (C1.own_K _ _) lep R2 hc i).2 (by omega), ?_⟩
      have S := S1.trans S2
      have lo := le.own (.ref D) (.own acc) (.own []) rfl
      refine p m2 (.ref D) H2 (.own acc) h2 S (R2.back lo) ⟨D, av, rfl, hDa, stnew S1 hD, nD, ?_⟩ q2
      rw [← le.K]
      exact RepL.mono (Kp.le fun b q => q.imp (fun q => q.le le.gt) id) ⟨[], by simp⟩ ra⟩
end
section
variable {X : Cx} {W : WX} {tg : Expr} {fe : DE} {pos : Pos} {bd : DB}
theorem pd_lcO (k : Nat) {x : Str} {p2 : Pos} {elt : Expr} {ifs : List Expr} {scope : Scope} {own : List (Str × Nat)} {vs : List Nat} {ft : DT} (hc : X.calm = true) (hN : X.N.Nodup) (ok : BlkOk X.N X.env.scope scope own) (ev : own.map (·.2) = vs)
    (hg : BlkAll X scope fun Y => PGd Y vs tg bd) (ht : BlkAll X scope fun Y => PTsd Y W0 ifs ft) (he : BlkAll X scope fun Y => PEd Y W0 elt fe) (hNk : X.N[k]? = some x := by rfl) (hv : Vis X.env.scope x := by first | exact Or.inl rfl | exact Or.inr (Or.inl rfl) | exact Or.inr (Or.inr rfl)) (hd : (x == ("__debug__" : Str)) = false := by decide)
    (hcd : (x == ("__classdict__" : Str)) = false := by decide) (hs : ∀ y, foldedSetIterable (.Name x p2) X.env y = pure y := by intro _; rfl) :
    PEd X W (.ListComp elt [⟨tg, .Name x p2, ifs, 0⟩] scope pos) (dLcO k vs bd ft fe) := by
  subst ev
  obtain ⟨g, h1, h2⟩ := PGd.all hg
  exact .of (pe_lc (tt := tT X.K W0 ft) (te := tE X.K W0 fe) hc hN (pi_seq (pe_var hNk hv hd hcd)) ok h1 ht he hs) (se_lcO h2 stT seE)
theorem psd_setLcO (i k : Nat) {x y : Str} {py p2 : Pos} {elt : Expr} {ifs : List Expr} {scope : Scope} {own : List (Str × Nat)} {vs : List Nat} {spos : Pos} {ft : DT} (hc : X.calm = true) (hN : X.N.Nodup) (ok : BlkOk X.N X.env.scope scope own) (ev : own.map (·.2) = vs)
    (hsw : swapsWith (.ListComp elt [⟨tg, .Name x p2, ifs, 0⟩] scope pos) (some (.Name y py)) spos.line X.env = pure true)
    (hg : BlkAll X scope fun Y => PGd Y vs tg bd) (ht : BlkAll X scope fun Y => PTsd Y W0 ifs ft) (he : BlkAll X scope fun Y => PEd Y W0 elt fe) (hy : X.N[i]? = some y := by rfl) (hyl : X.env.scope.names.lookup y = some .local := by rfl) (hNk : X.N[k]? = some x := by rfl) (hv : Vis X.env.scope x := by first | exact Or.inl rfl | exact Or.inr (Or.inl rfl) | exact Or.inr (Or.inr rfl)) (hd : (x == ("__debug__" : Str)) = false := by decide)
    (hcd : (x == ("__classdict__" : Str)) = false := by decide) (hs : ∀ y, foldedSetIterable (.Name x p2) X.env y = pure y := by intro _; rfl) :
    PSd X W (.Assign [.Name y py] (.ListComp elt [⟨tg, .Name x p2, ifs, 0⟩] scope pos) spos) (sAsg i (dLcO k vs bd ft fe)) := by
  subst ev
  obtain ⟨g, h1, h2⟩ := PGd.all hg
  exact .of (ps_setLc (tt := tT X.K W0 ft) (te := tE X.K W0 fe) hc hN hy hyl hsw (pi_seq (pe_var hNk hv hd hcd)) ok h1 ht he hs) (ss_asg i (se_lcO h2 stT seE))
end
end PM

namespace PM
open PySem PySem.Spec L2 PySem.W
open PyProof.Rows hiding St

/-! ### the call of a lambda, over the heap alone -/
section
variable {prog : Program} {w : World} {A : Around} {s : Shared} {E : Value → Shared → Prop}
/-- what is asked of the lambda's scope: one parameter, nothing captured -/
structure LamOne (scope : Scope) (x : Str) : Prop where
  kind : scope.kind = .function
  co : scope.isCoroutine = false
  gen : scope.isGenerator = false
  loc : scope.names.lookup x = some .local
  nc : ∀ y ∈ scope.names, y.2 ≠ .cell
theorem lam_call {f c' : Addr} {x qual : Str} {params : Arguments} {body : Expr} {scope : Scope} {pm ctv v : Value} {Q : Value → Shared → Prop} (L : LamOne scope x) (hroom : A.depth < recursionLimit) (nl : s.heap.NoLimit)
    (hf : s.heap.get? f = some (kla_obj "<lambda>" qual params body scope [] pm c' ctv)) (hc : s.heap.CodeRec (.ref c') qual)
    (hb : bindArgs (kla_fn "<lambda>" qual params body scope [] pm (.ref c') ctv) ⟨[v], []⟩ = pure [(x, v)])
    (h : ∀ (L' : Addr) (h₁ : Heap) (tk : Nat), (∀ b o, s.heap.get? b = some o → h₁.get? b = some o) → h₁.Ns L' (fun y => [(x, v)].reverse.lookup y) →
      wpAny (model prog w) (A.deeper (envX qual scope L' f (.ref c') [])) (eval body (envX qual scope L' f (.ref c') [])) Q (fun _ _ => False) { s with heap := h₁, toks := tk }) :
    wpAny (model prog w) A (call (.ref f) [v]) Q E s := by
  refine wpAny_call (codeAny_mono (R := fun r s' => ∃ u, r = .ok (.ret u) ∧ Q u s') ?_ fun r s' hq => ?_)
  · refine kla_callFunE hroom hf rfl L.co L.gen rfl hc ?_
    rw [hb]
    refine wpAny_pure (wpAny_newFunctionEnv L.nc (fun y hy => by
      rw [List.mem_singleton.mp hy]
      exact L.loc) (fun h₁ hns hsb => ⟨nl.fresh _ hsb, ?_⟩) L.kind)
    have kp : ∀ b o, s.heap.get? b = some o → h₁.get? b = some o := fun b o e => hsb.extBut b o (Nat.ne_of_lt (Heap.lt_size e)) (Heap.get?_push_of_some _ e)
    show codeAny _ _ (.expr body (envX qual scope s.heap.objs.size f (.ref c') [])) _ _
    exact kla_codeExpr (wpAny_mono (h s.heap.objs.size h₁ _ kp hns) (fun u s' q => ⟨u, rfl, q⟩) fun _ _ q => q.elim)
  · obtain ⟨u, rfl, q⟩ := hq
    exact q
theorem lam_slice {f c' t : Addr} {x qual : Str} {params : Arguments} {scope : Scope} {pm ctv : Value} {j} {p1 p2 p3 p4 : Pos} {its : Array Value} {Q : Value → Shared → Prop} (L : LamOne scope x) (hroom : A.depth < recursionLimit) (nl : s.heap.NoLimit) (hd : (x == ("__debug__" : Str)) = false)
    (hf : s.heap.get? f = some (kla_obj "<lambda>" qual params (.Subscript (.Name x p1) (.Slice none (some (.Constant (.int 2) j p2)) none p3) p4) scope [] pm c' ctv)) (hc : s.heap.CodeRec (.ref c') qual)
    (hb : bindArgs (kla_fn "<lambda>" qual params (.Subscript (.Name x p1) (.Slice none (some (.Constant (.int 2) j p2)) none p3) p4) scope [] pm (.ref c') ctv) ⟨[.ref t], []⟩ = pure [(x, .ref t)])
    (ht : IsTup s.heap t its) (h3 : 2 < its.size) (hz : its.size ≤ sizeLine)
    (h : ∀ (h' : Heap) (r : Addr) (tk : Nat), (∀ b o, s.heap.get? b = some o → h'.get? b = some o) → IsTup h' r (its.toList.take 2).toArray → Q (.ref r) { s with heap := h', toks := tk }) :
    wpAny (model prog w) A (call (.ref f) [.ref t]) Q E s := by
  refine lam_call L hroom nl hf hc hb fun L' h₁ tk kp hns => ?_
  have ht1 : IsTup h₁ t its := by
    obtain ⟨o, ho, r⟩ := ht
    exact ⟨o, kp _ _ ho, r⟩
  have hv : ([(x, Value.ref t)].reverse.lookup x) = some (.ref t) := by simp [List.lookup]
  refine Subscript_ (wpAny_Name (wpAny_loadName_local (m := fun y => [(x, Value.ref t)].reverse.lookup y) L.kind L.loc hns hv ?_) hd)
  refine wpAny_Slice ?_
  rw [evalPart_none, evalPart_some]
  refine wpAny_pure (wpAny_Constant_int ?_)
  refine wpAny_pure ?_
  have kp2 : ∀ b o, h₁.get? b = some o → (h₁.push { cls := .type "slice", data := .fields #[.none, .int 2 tk, .none] }).get? b = some o := fun b o q => Heap.get?_push_of_some _ q
  have ht2 : IsTup (h₁.push { cls := .type "slice", data := .fields #[.none, .int 2 tk, .none] }) t its := by
    obtain ⟨o, ho, r⟩ := ht1
    exact ⟨o, kp2 _ _ ho, r⟩
  refine tail_any (T := "tuple") (ops := [.ref h₁.objs.size, .ref t]) (s := { s with heap := h₁.push { cls := .type "slice", data := .fields #[.none, .int 2 tk, .none] }, toks := tk + 1 }) ht2.typeIs PyProof.Rows.slot_tuple_getitem.lookup ?_ (by with_unfolding_all rfl)
  have e0 : HT.sIx its.size 0 none = 0 := rfl
  have e2 : HT.sIx its.size its.size (some 2) = 2 := by
    have := HT.sIx_nat its.size its.size 2
    rw [show ((2 : Nat) : Int) = 2 from rfl] at this
    rw [this]
    omega
  refine HT.getItem_tuple_cut ht2 (Heap.IsSliceOf.new ..) .none (.int 2 _) (fun z => by rw [e2] at z; omega) ?_ hz
  rw [e0, e2]
  exact h _ _ _ (fun b o q => Heap.get?_push_of_some _ (kp2 _ _ (kp _ _ q))) (IsTup.new _ _)
end

/-! ### a lambda is made: only the maker's table changes -/
/-- all but the table at P stays -/
def ExtP (P : Addr) (H H' : Hp) : Prop := ∀ b o, H b = some o → b ≠ P → H' b = some o
/-- the table tells what it told, and new code objects -/
def TabStep (P : Addr) (q : Str) (H H' : Hp) : Prop := ∀ ps : Array Value, H P = some (.tbl ps) → TriplesOk ps.toList → ∃ ps2 : Array Value, H' P = some (.tbl ps2) ∧ TriplesOk ps2.toList ∧
  ∀ (pos : Pos) (cv : Value), codeAmong pos ps2.toList = some cv → codeAmong pos ps.toList = some cv ∨ ∃ k, cv = .ref k ∧ H k = none ∧ H' k = some (LamX.CodeO k q)
section
variable {X : Cx} {pins : List (Addr × Obj)} {σ : St} {H : Hp} {s : Shared}
theorem cells_none {sc : Scope} {cl : List (Str × Addr)} (fr : ∀ y ∈ sc.names, y.2 ≠ .free) (y : Str × NameKind) (my : y ∈ sc.names) (z : y.2 = .free) : ∃ c, cl.lookup y.1 = some c := absurd z (fr y my)
theorem lam_new {cd tP : Addr} {nm : Str} {pr : Arguments} {bd : Expr} {sc : Scope} {po : Pos} {E : Value → Shared → Prop} {Q : Value → Shared → Prop} (I : Inv X pins σ H s) (TB : LamX.TabB X.base X.mg cd tP) (ec : X.env.code = .ref cd)
    (en : nm = X.env.qual ++ "<lambda>") (hT : LamX.TabS H tP nm) (dn : defaultsOf pr X.env = ([], [])) (fr : ∀ y ∈ sc.names, y.2 ≠ .free) (clo : cloFrom X.env.cells sc.names [] = [])
    (go : ∀ (f k : Addr) (v1 v2 : Value) (H1 : Hp) (s1 : Shared), Inv X pins σ H1 s1 → ExtP tP H H1 → TabStep tP nm H H1 → s1.heap.get? f = some (kla_obj "<lambda>" nm pr bd sc [] v1 k v2) → s1.heap.CodeRec (.ref k) nm → Q (.ref f) s1) :
    wpAny (model X.prog X.w) X.A (eval (.Lambda pr bd sc po) X.env) Q E s := by
  subst en
  obtain ⟨ps, tab, tri, each⟩ := hT
  have hg := I.mod.glob.keeps I.bk
  have hB := TB.bm.keeps I.bk
  have hC := TB.code.keeps I.bk
  have hO : s.heap.get? tP = some { cls := .none, data := .fields ps } := I.hok tP _ tab
  have hcl := closure_ok (cells_none (cl := X.env.cells) fr)
  rw [clo] at hcl
  refine kla_eval dn ?_
  cases known : codeAmong po ps.toList with
  | some cv =>
    obtain ⟨k, rfl, hk⟩ := each po cv known
    refine kla_makeFunctionHit (mg := X.mg) (c := cd) (P := tP) (ps := ps) hcl I.ok.glob hg ec hC hO tri known hB fun v2 h1 tk up _ => ?_
    have J : Inv X pins σ H { s with heap := h1.push (kla_obj "<lambda>" (X.env.qual ++ "<lambda>") pr bd sc [] ((X.mg "__name__").getD .none) k v2), toks := tk } := I.kept fun b o q => Heap.get?_push_of_some _ (up b o q)
    obtain ⟨⟨ob, vs, t, q1, q2, q3⟩, _⟩ := J.hok k _ hk
    exact go h1.objs.size k _ v2 H _ J (fun b o q _ => q) (fun qs e1 e2 => ⟨qs, e1, e2, fun _ _ q => .inl q⟩) (Heap.get?_push_size _ rfl) ⟨k, ob, vs, t, rfl, q1, q2, q3⟩
  | none =>
    refine kla_makeFunction (mg := X.mg) (c := cd) (P := tP) (ps := ps) hcl I.ok.glob hg ec hC hO tri known TB.gP hB fun k v2 h1 tk up ge lt rec hPt => ?_
    obtain ⟨k2, ob, vs, t, e2, q1, q2, q3⟩ := rec
    cases e2
    have fresh : H k = none := I.hok.fresh ge
    have tPk : tP ≠ k := ne_of_none tab fresh
    have J := LamX.inv_table (t' := tk) (more := #[rawInt po.line, rawInt po.col, .ref k]) (h' := h1.push (kla_obj "<lambda>" (X.env.qual ++ "<lambda>") pr bd sc [] ((X.mg "__name__").getD .none) k v2)) I tab
      (fun b o nb q => Heap.get?_push_of_some _ (up b o nb q)) (Heap.get?_push_of_some _ hPt) ge ⟨ob, vs, t, Heap.get?_push_of_some _ q1, q2, q3⟩
    have ext : ExtP tP H (upd (upd H tP (.tbl (ps ++ #[rawInt po.line, rawInt po.col, .ref k]))) k (LamX.CodeO k (X.env.qual ++ "<lambda>"))) := fun b o q nb => by
      have : b ≠ k := ne_of_none q fresh
      rw [upd_ne this, upd_ne nb]
      exact q
    have list : (ps ++ #[rawInt po.line, rawInt po.col, .ref k]).toList = ps.toList ++ [rawInt po.line, rawInt po.col, .ref k] := by simp
    refine go h1.objs.size k _ v2 _ _ J ext (fun qs e1 e2 => ?_) (Heap.get?_push_size _ rfl) ⟨k, ob, vs, t, rfl, Heap.get?_push_of_some _ q1, q2, q3⟩
    rw [tab] at e1
    cases e1
    refine ⟨_, by rw [upd_ne tPk, upd_same], by rw [list]; exact PySem.TriplesOk_snoc _ _ _ _ tri, fun p2 cv q => ?_⟩
    rw [list] at q
    rcases LamX.among_app _ tri q with q | q
    · exact .inl q
    · exact .inr ⟨k, q, fresh, upd_same⟩
end
/-! ### sorted(e, key=lambda x: x[:2]) -/
def kI2 (b : V × Int × Int) : PyData := .tuple [.int b.2.1, .int b.2.2]
def rSortLam (K : PySem.W.Frag) (P : Addr) (q : Str) : V → Hp → VK → Prop := fun x H Q => LamX.TabS H P q ∧ ∃ (a : Addr) (bs : List (V × Int × Int)), x = .ref a ∧ SqL K H a (bs.map (·.1)) ∧
  (∀ b ∈ bs, ∃ t rest, b.1 = .ref t ∧ SqT K H t (.int b.2.1 :: .int b.2.2 :: rest) ∧ rest ≠ []) ∧
  ∀ H2 p, ExtP P H H2 → TabStep P q H H2 → H2 p = none → Q (.ref p) (upd H2 p (.lst ((bs.mergeSort (dataLe false kI2)).map (·.1))))
section
variable {X : Cx}
theorem tab_ne {H : Hp} {P : Addr} {q : Str} (hT : LamX.TabS H P q) {a : Addr} {o : HO} (ho : ∀ ps, o ≠ .tbl ps) (h : H a = some o) : a ≠ P := fun z => by
  obtain ⟨ps, tab, _⟩ := hT
  rw [z, tab] at h
  exact ho ps (Option.some.inj h).symm
theorem ext_rd {H H' : Hp} {P : Addr} {q : Str} (hT : LamX.TabS H P q) (e : ExtP P H H') {a : Addr} {u : HO} (hu : ∀ ps, u ≠ .tbl ps) (h : Rd H a u) : Rd H' a u := by
  rcases h with h | ⟨o, h⟩
  · exact .inl (e _ _ h (tab_ne hT hu h))
  · exact .inr ⟨o, e _ _ h (tab_ne hT (fun ps z => by cases z) h)⟩
theorem ext_L {K : PySem.W.Frag} {H H' : Hp} {P : Addr} {q : Str} (hT : LamX.TabS H P q) (e : ExtP P H H') {a : Addr} {xs : List V} (h : SqL K H a xs) : SqL K H' a xs := by
  rcases h with h | h
  · exact .inl (ext_rd hT e (fun ps z => by cases z) h)
  · exact .inr h
theorem ext_T {K : PySem.W.Frag} {H H' : Hp} {P : Addr} {q : Str} (hT : LamX.TabS H P q) (e : ExtP P H H') {a : Addr} {xs : List V} (h : SqT K H a xs) : SqT K H' a xs := by
  rcases h with h | h
  · exact .inl (ext_rd hT e (fun ps z => by cases z) h)
  · exact .inr h
theorem vals_bs {R : Value → V × Int × Int → Prop} : ∀ {bs : List (V × Int × Int)} {its : List Value}, Vals (bs.map (·.1)) its → (∀ b ∈ bs, ∀ v, RelV b.1 v → R v b) → EachIs R its bs
  | [], _, r, _ => by cases r; exact .nil
  | b :: bs, _, r, h => by
    rw [List.map_cons] at r
    cases r with
    | cons r1 r2 => exact .cons (h b List.mem_cons_self _ r1) (vals_bs r2 fun c m => h c (List.mem_cons_of_mem _ m))
/-- the call of sorted itself: f is the lambda's function object -/
theorem sort_run {pins : List (Addr × Obj)} {s : Shared} {σ : St} {H : Hp} {a f c' : Addr} {bs : List (V × Int × Int)} {x qual : Str} {params : Arguments} {scope : Scope} {pm ctv : Value} {j} {p1 p2 p3 p4 : Pos} {Q : VK} (I : Inv X pins σ H s) (hu : X.A.units + 90 < cLine) (hroom : X.A.in1.in1.depth < recursionLimit)
    (L : LamOne scope x) (hd : (x == ("__debug__" : Str)) = false)
    (hb : ∀ v, bindArgs (kla_fn "<lambda>" qual params (.Subscript (.Name x p1) (.Slice none (some (.Constant (.int 2) j p2)) none p3) p4) scope [] pm (.ref c') ctv) ⟨[v], []⟩ = pure [(x, v)])
    (hf : s.heap.get? f = some (kla_obj "<lambda>" qual params (.Subscript (.Name x p1) (.Slice none (some (.Constant (.int 2) j p2)) none p3) p4) scope [] pm c' ctv)) (hc : s.heap.CodeRec (.ref c') qual)
    (hs : SqL X.K H a (bs.map (·.1))) (hbs : ∀ b ∈ bs, ∃ t rest, b.1 = .ref t ∧ SqT X.K H t (.int b.2.1 :: .int b.2.2 :: rest) ∧ rest ≠ [])
    (q : ∀ p, H p = none → Q (.ref p) (upd H p (.lst ((bs.mergeSort (dataLe false kI2)).map (·.1))))) :
    wpAny (model X.prog X.w) X.A (call (.builtin "sorted") [.ref a] [(Str.ofString "key", .ref f)]) (EP X pins σ Q) X.xe s := by
  obtain ⟨its, rv, hl, hz⟩ := I.list hs
  have e : EachIs (fun v b => RelV b.1 v) its bs := vals_bs rv fun b _ v r => r
  have hz' : bs.length ≤ sizeLine := by rw [List.length_map] at hz; exact hz
  refine sorted_key_data (vs := its) (bs := bs) (R := fun v b => RelV b.1 v) (b := false) kI2 hl.isList e (AllAlike.of fun _ _ => by simp [alike, alikeAll, kI2]) (Sortable.tuples fun _ => ⟨_, _, rfl⟩) hz' (fun b _ => ?_) (ksk_s1 _ _) (fun _ => ksk_l1 _ _) (fun _ => ksk_t1 _ _)
    (fun v b rb mb h tk kp => ?_) fun out c h' tk kp _ hD lo eo => ?_
  · have hd : (kI2 b).depth = 1 := by simp [kI2, PyData.depth, PyData.depthAll]
    omega
  · obtain ⟨t, rest, eb, ht, hr⟩ := hbs b mb
    rw [eb] at rb
    obtain rfl : v = .ref t := rb
    obtain ⟨ti, tv, tt, tz⟩ := I.tuple ht
    obtain ⟨ot, hot, r⟩ := tt
    have l3 : 2 < ti.toArray.size := by
      rw [List.size_toArray, ← tv.length]
      cases rest with
      | nil => exact absurd rfl hr
      | cons y ys => simp
    refine lam_slice (s := { s with heap := h, toks := tk }) L hroom (I.nolimit.keeps kp) hd (kp _ _ hf) ?_ (hb _) ⟨ot, kp _ _ hot, r⟩ l3 (by rw [List.size_toArray, ← tv.length]; exact tz) fun h2 r2 tk2 kp2 ht2 => ?_
    · obtain ⟨c2, oc, vs, tq, e1, e2, e3, e4⟩ := hc
      exact ⟨c2, oc, vs, tq, e1, kp _ _ e2, e3, e4⟩
    · refine ⟨h2, tk2, rfl, kp2, ?_⟩
      obtain ⟨o2, ho2, hc2, n2, hd2⟩ := ht2
      cases tv with
      | cons v1 tv =>
        cases tv with
        | cons v2 tv =>
          obtain ⟨t1, rfl⟩ := v1
          obtain ⟨t2, rfl⟩ := v2
          exact .tuple ho2 hc2 hd2 (.cons (.int _ _) (.cons (.int _ _) .nil))
  · have hv : Vals ((bs.mergeSort (dataLe false kI2)).map (·.1)) out := by
      clear lo hD
      generalize bs.mergeSort (dataLe false kI2) = cs at eo
      induction eo with
      | nil => exact .nil
      | cons r _ ih => exact .cons r ih
    refine ⟨.ref _, upd H (s.heap.objs.size + 1) (.lst ((bs.mergeSort (dataLe false kI2)).map (·.1))), I.laid (t' := tk) kp (Nat.le_succ _) ⟨?_, _, c, hv, hD⟩, rfl, q _ (I.hok.fresh (Nat.le_succ _))⟩
    rw [List.length_map, List.length_mergeSort]
    exact hz'
/-- what is seen of the text: the lambda, its one parameter -/
structure LamText (X : Cx) (params : Arguments) (scope : Scope) (x : Str) (body : Expr) : Prop where
  one : LamOne scope x
  dbg : (x == ("__debug__" : Str)) = false
  dflt : defaultsOf params X.env = ([], [])
  free : ∀ y ∈ scope.names, y.2 ≠ .free
  clo : cloFrom X.env.cells scope.names [] = []
  bind : ∀ (qual : Str) (pm v cd ctv : Value), bindArgs (kla_fn "<lambda>" qual params body scope [] pm cd ctv) ⟨[v], []⟩ = pure [(x, v)]
def tSortLam (K : PySem.W.Frag) (P : Addr) (q : Str) (t : TE) : TE := fun σ H Q => t σ H fun x H1 => rSortLam K P q x H1 Q
theorem pe_sortLam {c P : Addr} {e : Expr} {te : TE} {x : Str} {params : Arguments} {scope : Scope} {j} {p p1 p2 p3 p4 lpos kpos pos : Pos} (hu : X.A.units + 90 < cLine) (hroom : X.A.in1.in1.depth < recursionLimit) (TB : LamX.TabB X.base X.mg c P) (hcode : X.env.code = .ref c) (hg : Gl X "sorted") (hm : X.mg "sorted" = none)
    (L : LamText X params scope x (.Subscript (.Name x p1) (.Slice none (some (.Constant (.int 2) j p2)) none p3) p4)) (he : PE X e te)
    (hs : starEach [e] X.env = (false, eval e X.env) :: starEach [] X.env := by rfl) (hbk : backTo pos (starEach [e] X.env) = (false, eval e X.env) :: backTo pos (starEach [] X.env) := by rfl) (hpl : (backTo pos (starEach [e] X.env)).any (·.1) = false := by rfl) :
    PE X (.Call (.Name "sorted" p) [e] [⟨some "key", .Lambda params (.Subscript (.Name x p1) (.Slice none (some (.Constant (.int 2) j p2)) none p3) p4) scope lpos, kpos⟩] pos) (tSortLam X.K P (X.env.qual ++ "<lambda>") te) := by
  refine ⟨fun pins s σ H Q I h => ?_⟩
  have hbt : bootBuiltins "sorted" = some (.builtin "sorted") := by decide +kernel
  refine wpAny_Call_Name_kw (ld_blt I hg hm hbt ?_ (by decide) (by decide))
  have ha : PA X [e] (tCons te tNil) := pa_cons he pa_nil hs
  refine PyProof.Rows.callWith_kw (thn (ha.run pos pins s σ H (fun vs H1 => match vs with
    | [v] => rSortLam X.K P (X.env.qual ++ "<lambda>") v H1 Q
    | _ => False) I h) fun us s1 ⟨vs, H1, I1, r1, q1⟩ => ?_) hbk hpl rfl rfl
  simp only at q1
  split at q1
  · rename_i v
    obtain ⟨hT, a, bs, ea, hl, hbs, q⟩ := q1
    subst ea
    obtain ⟨u, eu, ra⟩ := Vals.one r1
    subst eu
    obtain rfl : u = Value.ref a := ra
    show wpAny (model X.prog X.w) X.A (evalAll [(do let v ← eval (.Lambda params (.Subscript (.Name x p1) (.Slice none (some (.Constant (.int 2) j p2)) none p3) p4) scope lpos) X.env; standAt pos; pure v)]) _ X.xe s1
    refine wpAny_evalAll_cons (wpAny_bind ?_)
    refine lam_new I1 TB hcode rfl hT L.dflt L.free L.clo fun f c' pm ctv H2 s2 I2 ex hT2 hf hcr => ?_
    refine wpAny_bind (wpAny_standAt (wpAny_pure (wpAny_evalAll_nil ?_)))
    show wpAny (model X.prog X.w) X.A (call (.builtin "sorted") [.ref a] [(Str.ofString "key", .ref f)]) (EP X pins σ Q) X.xe s2
    refine sort_run I2 hu hroom L.one L.dbg (fun v => L.bind _ _ _ _ _) hf hcr (ext_L hT ex hl) (fun b mb => ?_) fun p hp => q H2 p ex hT2 hp
    obtain ⟨t, rest, e1, e2, e3⟩ := hbs b mb
    exact ⟨t, rest, e1, ext_T hT ex e2, e3⟩
  · exact q1.elim
end
end PM

namespace PM
open PySem PySem.Spec L2 PySem.W
open PyProof.Rows hiding St

/-! ### sorted(.., key=lambda x: x[:2]) by values -/
def kI2P (b : PV × Int × Int) : PyData := .tuple [.int b.2.1, .int b.2.2]
def srt2 (bs : List (PV × Int × Int)) : List (PV × Int × Int) := bs.mergeSort (dataLe false kI2P)
def dSortLam (P : Addr) (q : Str) (a : DE) : DE := fun env h Q E => a env h (fun x h1 => ∃ (n : Nat) (bs : List (PV × Int × Int)), h1[n]? = some (.tab P q) ∧ listC h1 x = some (bs.map (·.1)) ∧ (∀ b ∈ bs, ∃ rest, b.1 = .tup (.int b.2.1 :: .int b.2.2 :: rest) ∧ rest ≠ []) ∧ Q (.own ((srt2 bs).map (·.1))) h1) E
@[simp ↓] theorem dSortLam_eq (P : Addr) (q : Str) (a : DE) (env : Env) (h : Hs) (Q : VQ) (E : XQ) : dSortLam P q a env h Q E = (a env h (fun x h1 => ∃ (n : Nat) (bs : List (PV × Int × Int)), h1[n]? = some (.tab P q) ∧ listC h1 x = some (bs.map (·.1)) ∧ (∀ b ∈ bs, ∃ rest, b.1 = .tup (.int b.2.1 :: .int b.2.2 :: rest) ∧ rest ≠ []) ∧ Q (.own ((srt2 bs).map (·.1))) h1) E) := id rfl
section
variable {K : PySem.W.Frag} {W : WX}
theorem se_sortLam {P : Addr} {q : Str} {ta : TE} {fa : DE} (ha : SE K W ta fa) : SE K W (tSortLam K P q ta) (dSortLam P q fa) := ⟨fun C m σ H env h Q E Q' eK R hf p px => by
  refine ha.run C m σ H env h _ E _ eK R hf (fun m1 x H1 sx h1 S1 R1 r1 q1 => ?_) px
  obtain ⟨n, bs, en, el, hb, q1⟩ := q1
  have R0 := R1.drop
  obtain ⟨a, vs, rfl, hl, rl⟩ := R0.list (r1.less rfl (fun _ q => q) fun _ _ => trivial) el
  have ln : n < m1.length := by
    rw [R0.hm.len]
    exact (List.getElem?_eq_some_iff.mp en).1
  obtain ⟨eP, ps, tab, tri, each⟩ := R0.hm.at_ n m1[n] _ (List.getElem?_eq_getElem ln) en
  have mP : m1[n]? = some P := by rw [← eP]; exact List.getElem?_eq_getElem ln
  have inP : P ∈ m1 := List.mem_of_getElem? mP
  rw [eP] at tab
  have hT : LamX.TabS H1 P q := ⟨ps, tab, tri, fun pos cv z => by
    obtain ⟨c, e1, e2, _⟩ := each pos cv z
    exact ⟨c, e1, e2⟩⟩
  have lv : vs.length = bs.length := by rw [rl.length]; simp
  have ez1 : (vs.zip bs).map (·.1) = vs := by rw [List.map_fst_zip (by omega)]
  have ez2 : (vs.zip bs).map (·.2) = bs := by rw [List.map_snd_zip (by omega)]
  have hz : ∀ z ∈ vs.zip bs, Rep C.K (ExOf C σ env m1) m1 H1 z.1 z.2.1 := fun z mz => by
    have : (z.1, z.2.1) ∈ vs.zip (bs.map (·.1)) := by
      rw [show vs.zip (bs.map (·.1)) = (vs.zip bs).map (fun z => (z.1, z.2.1)) by rw [List.zip_map_right]; rfl]
      exact List.mem_map.mpr ⟨z, mz, rfl⟩
    exact repL_zip rl _ this
  refine ⟨hT, a, (vs.zip bs).map (fun z => (z.1, z.2.2)), rfl, ?_, fun b mb => ?_, fun H2 p0 ex ts np => ?_⟩
  · rw [List.map_map, show ((fun z : V × Int × Int => z.1) ∘ fun z : V × PV × Int × Int => (z.1, z.2.2)) = Prod.fst from rfl, ez1, ← eK]
    exact hl
  · obtain ⟨z, mz, rfl⟩ := List.mem_map.mp mb
    have mb2 : z.2 ∈ bs := by rw [← ez2]; exact List.mem_map.mpr ⟨z, mz, rfl⟩
    obtain ⟨rest, e1, e2⟩ := hb _ mb2
    have r := hz z mz
    rw [e1] at r
    have r' : ∃ t ws, z.1 = .ref t ∧ SqT C.K H1 t ws ∧ RepL C.K (ExOf C σ env m1) m1 H1 ws (.int z.2.2.1 :: .int z.2.2.2 :: rest) := by
      generalize z.1 = zv at r
      cases r with
      | tup ht rt => exact ⟨_, _, rfl, ht.sq, rt⟩
    obtain ⟨t, ws, e3, ht, rt⟩ := r'
    cases rt with
    | cons a1 rt =>
      cases rt with
      | cons a2 rt =>
        cases a1
        cases a2
        refine ⟨t, _, e3, by rw [← eK]; exact ht, fun w => ?_⟩
        rw [w] at rt
        cases rt
        exact e2 rfl
  · obtain ⟨ps2, tab2, tri2, each2⟩ := ts ps tab tri
    have S : StE m1 H1 m1 H2 := ⟨fun b o e nb => ex b o e fun z => nb (z ▸ inP), fun b q => by
      by_cases z : b = P
      · rw [z, tab2]
        simp
      · cases e : H1 b with
        | none => exact absurd e q
        | some o =>
          rw [ex b o e z]
          simp, [], by simp, by simp⟩
    have R2 : Rel C m1 σ H2 env h1 := R0.step S ⟨R0.hm.len, R0.hm.nd, fun k b c e f => by
      by_cases z : b = P
      · subst z
        have := nd_ix R0.hm.nd e mP
        subst this
        rw [en] at f
        cases f
        refine ⟨rfl, ps2, tab2, tri2, fun pos cv w => ?_⟩
        rcases each2 pos cv w with w | ⟨k, e1, e2, e3⟩
        · obtain ⟨c, e1, e2, e3⟩ := each pos cv w
          refine ⟨c, e1, ex c _ e2 fun z => ?_, e3⟩
          rw [z, tab] at e2
          exact LamX.codeO_ne ps (Option.some.inj e2).symm
        · exact ⟨k, e1, e3, R0.exNew e2⟩
      · refine (R0.hm.at_ k b c e f).mono (R0.kp S) ⟨[], by simp⟩ ?_
        cases e2 : H1 b with
        | none => exact absurd e2 (R0.mDom (List.mem_of_getElem? e))
        | some o => exact ex b o e2 z⟩
    have ss : (((vs.zip bs).map (fun z => (z.1, z.2.2))).mergeSort (dataLe false kI2)).map (·.1) = ((vs.zip bs).mergeSort (fun x y => dataLe false kI2P x.2 y.2)).map (·.1) := by
      rw [← List.map_mergeSort (r := fun x y : V × PV × Int × Int => dataLe false kI2P x.2 y.2) (s := dataLe false kI2) (f := fun z : V × PV × Int × Int => (z.1, z.2.2)) (fun _ _ _ _ => rfl), List.map_map]
      rfl
    have sp : (srt2 bs).map (·.1) = ((vs.zip bs).mergeSort (fun x y => dataLe false kI2P x.2 y.2)).map (fun z => z.2.1) := by
      unfold srt2
      conv => lhs; rw [← ez2]
      rw [← List.map_mergeSort (r := fun x y : V × PV × Int × Int => dataLe false kI2P x.2 y.2) (s := dataLe false kI2P) (f := fun z : V × PV × Int × Int => z.2) (fun _ _ _ _ => rfl), List.map_map]
      rfl
    rw [ss]
    have rs : RepL C.K (ExOf C σ env m1) m1 H1 (((vs.zip bs).mergeSort (fun x y => dataLe false kI2P x.2 y.2)).map (·.1)) ((srt2 bs).map (·.1)) := by
      rw [sp]
      have := repL_of (zs := ((vs.zip bs).mergeSort (fun x y => dataLe false kI2P x.2 y.2)).map fun z => (z.1, z.2.1)) fun w mw => by
        obtain ⟨z, mz, rfl⟩ := List.mem_map.mp mw
        exact hz z (List.mem_mergeSort.mp mz)
      rw [List.map_map, List.map_map] at this
      exact this
    have rs2 : RepL C.K (ExOf C σ env m1) m1 H2 _ _ := RepL.mono (R0.kp S) ⟨[], by simp⟩ rs
    refine p m1 (.ref p0) _ (.own ((srt2 bs).map (·.1))) h1 (S1.trans (S.trans (StE.new np))) (R2.fresh np _) ⟨p0, _, rfl, upd_same, stnew (S1.trans S) np, fun z => R2.mDom z np, ?_⟩ q1
    exact RepL.mono (fun b u e nb => ⟨by rw [upd_ne (ne_of_none e np)]; exact e, fun z => z.elim nb fun z2 => by rw [z2, np] at e; cases e⟩) ⟨[], by simp⟩ rs2⟩
end
section
variable {X : Cx} {W : WX} {e : Expr} {fe : DE}
theorem pd_sortLam {k : Nat} {c P : Addr} {x q : Str} {params : Arguments} {scope : Scope} {j} {p p1 p2 p3 p4 lpos kpos pos : Pos} (hr : Room k X.A) (TB : LamX.TabB X.base X.mg c P) (hcode : X.env.code = .ref c) (hq : X.env.qual ++ "<lambda>" = q) (hg : Gl X "sorted") (hm : X.mg "sorted" = none)
    (L : LamText X params scope x (.Subscript (.Name x p1) (.Slice none (some (.Constant (.int 2) j p2)) none p3) p4)) (he : PEd X W e fe)
    (hs : starEach [e] X.env = (false, eval e X.env) :: starEach [] X.env := by rfl) (hbk : backTo pos (starEach [e] X.env) = (false, eval e X.env) :: backTo pos (starEach [] X.env) := by rfl) (hpl : (backTo pos (starEach [e] X.env)).any (·.1) = false := by rfl) :
    PEd X W (.Call (.Name "sorted" p) [e] [⟨some "key", .Lambda params (.Subscript (.Name x p1) (.Slice none (some (.Constant (.int 2) j p2)) none p3) p4) scope lpos, kpos⟩] pos) (dSortLam P q fe) := by
  subst hq
  refine .of (pe_sortLam (u90 hr) ?_ TB hcode hg hm L he hs hbk hpl) (se_sortLam seE)
  have := hr.dp
  show X.A.depth < recursionLimit
  omega
end
end PM

namespace PM
open PySem PySem.Spec L2
open PyProof.Rows hiding St

/-! ### a def whose own code object is known -/
theorem run_def {K : PySem.W.Frag} {N ps : List Str} {body : DS} {t : TS} {vs : List V} {H : Hp} {Q : VK} {E : XK} (hs : SS K W0 t body) (h : spD K ps.length (dDef ps.length (N.length - ps.length) body) vs H Q E) :
    t { nx := fun _ H' => Q .non H', rt := Q } (L2.start N vs) H := by
  obtain ⟨hl, G, m, h, svs, Qd, R, ⟨sl, hd⟩, post⟩ := h
  have R2 := R.ext (N.length - ps.length)
  have fin : ∀ m' σ H' env h' v sv, Rel ((ctxAt K G m H).own v sv) m' σ H' env h' → RepS (ctxAt K G m H) (ExOf (ctxAt K G m H) σ env m') m' (fun a => H a = none) H' v sv → Qd sv h' → Q v H' := fun m' σ H' env h' v sv R r q => by
    have R0 := R.drop
    have ex : ∀ (C : Ctx) b, ExOf C [] [] m' b → ExOf C σ env m' b := fun C b q => by
      rcases q with q | q | q
      · exact .inl q
      · exact absurd q own_nil
      · exact .inr (.inr q)
    refine post m' v H' sv h' ⟨R0.keep, R0.dom, R0.pre⟩ ⟨R.hm.len, R.hm.nd, fun n a c e f => ?_⟩ (r.less rfl (ex _) fun _ q => q) q
    have z := R.hm.at_ n a c e f
    rw [Ctx.own_K] at z
    exact z.mono (Kp.le (ex _)) ⟨[], by simp⟩ rfl
  have e0 : L2.start N vs = vs.map some ++ List.replicate (N.length - ps.length) none := by
    unfold L2.start
    rw [hl]
  rw [e0]
  exact hs.run (ctxAt K G m H) m _ H _ h _ _ rfl R2 hd ⟨fun m' σ H' env h' R q => fin m' σ H' env h' .non (.val .non) R .non q, fun _ _ _ _ _ _ q => q, fun _ _ _ _ _ _ q => q, fun m' σ H' env h' v sv R r _ q => fin m' σ H' env h' v sv R r q, fun _ _ _ _ _ _ _ q => q⟩
section
variable {P : Program} {w : World} {K : PySem.W.Frag} {mg : Str → Option Value} {base : Heap}
theorem FnAt.mkC {x : Str} {st : Stmt} {N ps : List Str} {k : Nat} {body : DS} {c Pt : Addr} (D : DefAt K mg x st ps) (S : FnScope N ps (defScope st)) (hK : K.In base) (hG : base.Ns mainGlobals mg) (ht : PySem.W.tabIn K x = some (c, Pt))
    (hb : ∀ (f : Addr) (A : Around) (outer : List PySem.Env) (s : Shared) (H : Hp) (E : XK), Room k (A.deeper (envOfC x (defScope st) s.heap.objs.size f (.ref c))) → PSsd (cxOf CX0 P w K mg base N x (defScope st) f (.ref c) A outer s H E).nox W0 (defBody st) body) :
    FnAt P w K mg base (k + 1) x ps.length (dDef ps.length (N.length - ps.length) body) := by
  obtain ⟨f, fd, F, hm, hb'⟩ := D.at_
  refine ⟨f, fd, ps, hm, F.kp, hb', ?_⟩
  obtain ⟨oc, od, kV, doc, pm, an, cdv, ct, osl, rfl, lk, hcd⟩ := F.ex
  have hc : cdv = .ref c := PySem.W.law_code hK hG ht hm (hK _ _ lk) rfl
  subst hc
  refine fn_of lk hcd S (fun vs H Q E h => h.1) fun A outer s H vs Q E hr hsp => ?_
  have z := hb f A outer s H E hr
  exact ⟨_, PSs.nox z, run_def ssS hsp⟩
end
/-- the law's beginning: the script and one empty table -/
theorem law_startT {K : PySem.W.Frag} {H : Hp} {a Pt : Addr} {q : Str} {ns : List Int} {d : DF} {E : XK} (hT : H Pt = some (.tbl #[])) (hS : SqL K H a (ns.map V.int)) (hd : d [.scr ns] [.tab Pt q] (fun sv _ => sv = .val (.bl true)) fun _ _ => False) : spD K 1 d [.ref a] H (fun v _ => v = .bl true) E := by
  have no : ∀ {b : Addr}, ¬ OwnAt [some (V.ref a)] [some (SV.scr ns)] b := fun {b} ⟨i, xs, e, _⟩ => by
    cases i with
    | zero => cases e
    | succ i => simp at e
  have ne : H a ≠ none → (∃ o, H a = some (.frz o (.lst (ns.map V.int)))) ∨ True := fun _ => .inr trivial
  refine ⟨rfl, fun _ => False, [Pt], [.tab Pt q], [.scr ns], _, ⟨rfl, fun i sv e => ?_, fun p hp => (nomatch hp), fun i j xs ys a e1 _ s1 _ => absurd ⟨i, xs, e1, s1⟩ no, ⟨rfl, List.nodup_cons.mpr ⟨by simp, List.nodup_nil⟩, fun n a c e f => ?_⟩, fun b o e _ => e, fun b q => q, ⟨[], rfl, by simp⟩, fun b q => q.elim False.elim False.elim, fun b q => q.elim False.elim False.elim⟩, hd, fun m' v H' sv h' _ _ r q => ?_⟩
  · cases i with
    | zero =>
      cases e
      refine ⟨.ref a, rfl, ⟨a, rfl, ?_⟩, fun b _ => .inr ⟨no, fun q => q⟩⟩
      rcases hS with hS | hS
      · refine .inl ⟨hS, fun z => ?_⟩
        rcases List.mem_singleton.mp z
        rcases hS with hS | ⟨o, hS⟩ <;> rw [hT] at hS <;> cases hS
      · exact .inr fun H' => .inr hS
    | succ i => simp at e
  · cases n with
    | zero =>
      cases e
      cases f
      exact ⟨rfl, #[], hT, trivial, fun pos cv w => nomatch w⟩
    | succ n => simp at e
  · subst q
    cases r
    rfl
/-- the end with the tables of any defs -/
theorem walkT {l : PySem.W.OpenLaw} {n k : Nat} {q : Program} {loose : List Str} {XP : (Str → Option Value) → Heap → Prop} {YP : World → Heap → Prop} {d : DefRec} {K : Params → PySem.W.Frag} {x : Str}
    (m1 : l.most = some n) (m2 : n ≤ sizeLine) (m3 : d.params.defaults = []) (m4 : Room k callerA)
    (m5 : ∀ (w : World) (h : Heap), YP w h → (K w.params).In h)
    (F : ∀ (w : World) (mg : Str → Option Value) (fa : Addr) (h : Heap), (K w.params).In h → h.Ns mainGlobals mg → mg d.name = some (.ref fa) →
      (∀ (y : Str) (c Pt : Addr), ((recsOf q).any (fun e => e.name == y)) = true → PySem.W.tabIn (K w.params) y = some (c, Pt) → PySem.W.CodeHd h c Pt ∧ h.get? Pt = some (PySem.W.tabObj #[])) → LamX.LawAtS l w (K w.params) CX0 k n x mg fa h) : PySem.W.WalkO q loose XP YP l.row.toRowW d [] (fun f vs => PySem.call f vs) := by
  refine Att.attach_callB m1 m3 fun w s₀ s₁ mg mb fa o pm cd doc a vs ns G Yw ho hd hcd hmg hobj hints hlen hbits hg => ?_
  have here := m5 w _ Yw
  obtain ⟨fd, cs, sp, t1, t2, t3, t4, t5, t6⟩ := F w mg fa _ here G.T.g hmg fun y c Pt e1 e2 => by
    obtain ⟨dy, e3⟩ := Option.isSome_iff_exists.mp ((List.find?_isSome (p := fun e : DefRec => e.name == y)).mpr (List.any_eq_true.mp e1))
    exact PySem.W.tab_of G.T here e3 e2
  exact LamX.law_callTs here G.T.g G.T.b G.T.builtins G.T.nolimit hg t1 t2 t3 G.T.bmain hobj hints (Nat.le_trans hlen m2) m4 t6 t4 (fun H' u1 u2 => t5 H' a ns hlen hbits u1 u2) fun _ _ _ h => h
theorem lamText1 {X : Cx} {params : Arguments} {scope : Scope} {x : Str} {body : Expr} (one : scope.kind = .function ∧ scope.isCoroutine = false ∧ scope.isGenerator = false ∧ scope.names = [(x, .local)]) (dbg : (x == ("__debug__" : Str)) = false) (dflt : defaultsOf params X.env = ([], []))
    (clo : cloFrom X.env.cells [(x, .local)] [] = []) (bind : ∀ (qual : Str) (pm v cd ctv : Value), bindArgs (PySem.W.kla_fn "<lambda>" qual params body scope [] pm cd ctv) ⟨[v], []⟩ = pure [(x, v)]) : LamText X params scope x body := by
  obtain ⟨o1, o2, o3, o4⟩ := one
  refine ⟨⟨o1, o2, o3, by rw [o4]; simp, fun y hy => ?_⟩, dbg, dflt, fun y hy => ?_, by rw [o4]; exact clo, bind⟩
  · rw [o4] at hy
    rw [List.mem_singleton.mp hy]
    exact nofun
  · rw [o4] at hy
    rw [List.mem_singleton.mp hy]
    exact nofun
theorem lawAt1 {l : PySem.W.OpenLaw} {w : World} {K : PySem.W.Frag} {k n : Nat} {x q : Str} {mg : Str → Option Value} {fa c Pt : Addr} {h : Heap} {d : DF}
    (z : ∃ fd : FuncData, (∀ (s : Shared) (v : Value), BindsTo s fd ⟨[v], []⟩ [(x, v)]) ∧ ∀ base : Heap, K.In base → base.Ns mainGlobals mg → (∀ p ∈ ([(c, Pt)] : List (Addr × Addr)), LamX.TabB base mg p.1 p.2) → FnOk l.prog w K mg base CX0 k fa fd [x] (spD K 1 d))
    (t : PySem.W.CodeHd h c Pt ∧ h.get? Pt = some (PySem.W.tabObj #[])) (nT : K.lookup Pt = none)
    (hd : ∀ ns : List Int, ns.length ≤ n → d [.scr ns] [.tab Pt q] (fun sv _ => sv = .val (.bl true)) fun _ _ => False) : LamX.LawAtS l w K CX0 k n x mg fa h := by
  obtain ⟨fd, z1, z2⟩ := z
  refine ⟨fd, [(c, Pt)], spD K 1 d, fun p hp => ?_, fun p hp => ?_, fun p hp => ?_, z1, fun H a ns hl _ hT hS => law_startT (hT _ (List.mem_singleton.mpr rfl)) hS (hd ns hl), z2⟩
  · rw [List.mem_singleton.mp hp]; exact t.2
  · rw [List.mem_singleton.mp hp]; exact nT
  · rw [List.mem_singleton.mp hp]; exact t.1
theorem tabIn_of {K : PySem.W.Frag} {x : Str} {f c Pt : Addr} {oc o1 : Value} {od o2 : Option Addr} {fd : FuncData} {sl s1 : Array (Option Value)} {vs : Array Value} (a : PySem.W.nsIn K mainGlobals x = some (some (.ref f))) (l : K.lookup f = some ⟨oc, od, .func fd, sl⟩) (e : fd.code = .ref c)
    (lc : K.lookup c = some ⟨o1, o2, .fields vs, s1⟩) (v : vs[11]? = some (.ref Pt)) : PySem.W.tabIn K x = some (c, Pt) := by
  unfold PySem.W.tabIn
  rw [a]
  simp only [l, e, lc, v]
end PM

namespace PM
open PySem PySem.Spec L2 PySem.W
open PyProof.Rows hiding St

/-! ### the call of `lambda x: (x[i], x[j])`, over the heap alone -/
section
variable {prog : Program} {w : World} {A : Around} {s : Shared} {E : Value → Shared → Prop}
/-- x[i] of a tuple that the parameter holds -/
theorem par_item {L' f t : Addr} {c : Value} {x qual : Str} {scope : Scope} {m : Str → Option Value} {i : Nat} {jj : Nat} {v : Value} {p1 p2 p3 : Pos} {its : Array Value} {Q : Value → Shared → Prop} (L : LamOne scope x) (hd : (x == ("__debug__" : Str)) = false) (ht : IsTup s.heap t its) (hi : its[i]? = some v) (hz : its.size ≤ sizeLine)
    (hns : s.heap.Ns L' m) (hx : m x = some (.ref t)) (h : ∀ tk, Q v { s with toks := tk }) :
    wpAny (model prog w) A (eval (.Subscript (.Name x p1) (.Constant (.int i) jj p2) p3) (envX qual scope L' f c [])) Q E s := by
  refine Subscript_ (wpAny_Name (wpAny_loadName_local (m := m) L.kind L.loc hns hx ?_) hd)
  refine wpAny_Constant_int ?_
  have li : i < its.size := (Array.getElem?_eq_some_iff.mp hi).1
  have h63 : sizeLine < 2 ^ 63 := by decide
  refine tail_any (T := "tuple") (ops := [.ref t, .int i s.toks]) (s := { s with toks := s.toks + 1 }) ht.typeIs PyProof.Rows.slot_tuple_getitem.lookup ?_ (by with_unfolding_all rfl)
  refine getItem_tuple (s := { s with toks := s.toks + 1 }) ht (by omega) (by omega) (j := i) ?_ hi (h _)
  unfold seqIndex?
  simp
  omega
theorem lam_pair {f c' t : Addr} {x qual : Str} {params : Arguments} {scope : Scope} {pm ctv : Value} {i j j1 j2 kk : Nat} {p1 p2 p3 p4 p5 p6 p7 : Pos} {its : Array Value} {a b : Value} {Q : Value → Shared → Prop} (L : LamOne scope x) (hroom : A.depth < recursionLimit) (nl : s.heap.NoLimit) (hd : (x == ("__debug__" : Str)) = false)
    (hf : s.heap.get? f = some (kla_obj "<lambda>" qual params (.Tuple [.Subscript (.Name x p1) (.Constant (.int i) j1 p2) p3, .Subscript (.Name x p4) (.Constant (.int j) j2 p5) p6] kk p7) scope [] pm c' ctv)) (hc : s.heap.CodeRec (.ref c') qual)
    (hb : bindArgs (kla_fn "<lambda>" qual params (.Tuple [.Subscript (.Name x p1) (.Constant (.int i) j1 p2) p3, .Subscript (.Name x p4) (.Constant (.int j) j2 p5) p6] kk p7) scope [] pm (.ref c') ctv) ⟨[.ref t], []⟩ = pure [(x, .ref t)])
    (ht : IsTup s.heap t its) (hi : its[i]? = some a) (hj : its[j]? = some b) (hz : its.size ≤ sizeLine)
    (h : ∀ (h' : Heap) (r : Addr) (tk : Nat), (∀ b o, s.heap.get? b = some o → h'.get? b = some o) → IsTup h' r #[a, b] → Q (.ref r) { s with heap := h', toks := tk }) :
    wpAny (model prog w) A (call (.ref f) [.ref t]) Q E s := by
  refine lam_call L hroom nl hf hc hb fun L' h₁ tk kp hns => ?_
  have ht1 : IsTup h₁ t its := by
    obtain ⟨o, ho, r⟩ := ht
    exact ⟨o, kp _ _ ho, r⟩
  have hv : ([(x, Value.ref t)].reverse.lookup x) = some (.ref t) := by simp [List.lookup]
  refine wpAny_Tuple ?_
  refine wpAny_items_cons (par_item (m := fun y => [(x, Value.ref t)].reverse.lookup y) L hd ht1 hi hz hns hv fun tk1 => ?_)
  refine wpAny_items_cons (par_item (m := fun y => [(x, Value.ref t)].reverse.lookup y) L hd ht1 hj hz hns hv fun tk2 => ?_)
  refine wpAny_items_nil ⟨by show 2 ≤ sizeLine; decide, ?_⟩
  exact h _ _ _ (fun b o q => Heap.get?_push_of_some _ (kp _ _ q)) (IsTup.new _ _)
end
end PM

namespace PM
open PySem PySem.Spec L2 PySem.W
open PyProof.Rows hiding St

/-! ### sorted(e, key=lambda x: (x[i], x[j])) -/
def rSortLam2 (K : PySem.W.Frag) (i j : Nat) (P : Addr) (q : Str) : V → Hp → VK → Prop := fun x H Q => LamX.TabS H P q ∧ ∃ (a : Addr) (bs : List (V × Int × Int)), x = .ref a ∧ SqL K H a (bs.map (·.1)) ∧
  (∀ b ∈ bs, ∃ t xs, b.1 = .ref t ∧ SqT K H t xs ∧ xs[i]? = some (.int b.2.1) ∧ xs[j]? = some (.int b.2.2)) ∧
  ∀ H2 p, ExtP P H H2 → TabStep P q H H2 → H2 p = none → Q (.ref p) (upd H2 p (.lst ((bs.mergeSort (dataLe false kI2)).map (·.1))))
theorem vals_at : ∀ {xs : List V} {its : List Value} {i : Nat} {v : V}, Vals xs its → xs[i]? = some v → ∃ u, its[i]? = some u ∧ RelV v u
  | _, _, _, _, .nil, e => by simp at e
  | _, _, 0, _, .cons r _, e => by
    obtain rfl := Option.some.inj e
    exact ⟨_, rfl, r⟩
  | _, _, i + 1, _, .cons _ t, e => vals_at (i := i) t e
section
variable {X : Cx}
/-- the call of sorted itself: f is the lambda's function object -/
theorem sort_run2 {pins : List (Addr × Obj)} {s : Shared} {σ : St} {H : Hp} {a f c' : Addr} {bs : List (V × Int × Int)} {x qual : Str} {params : Arguments} {scope : Scope} {pm ctv : Value} {i j j1 j2 kk : Nat} {p1 p2 p3 p4 p5 p6 p7 : Pos} {Q : VK} (I : Inv X pins σ H s) (hu : X.A.units + 90 < cLine) (hroom : X.A.in1.in1.depth < recursionLimit)
    (L : LamOne scope x) (hd : (x == ("__debug__" : Str)) = false)
    (hb : ∀ v, bindArgs (kla_fn "<lambda>" qual params (.Tuple [.Subscript (.Name x p1) (.Constant (.int (i : Nat)) j1 p2) p3, .Subscript (.Name x p4) (.Constant (.int (j : Nat)) j2 p5) p6] kk p7) scope [] pm (.ref c') ctv) ⟨[v], []⟩ = pure [(x, v)])
    (hf : s.heap.get? f = some (kla_obj "<lambda>" qual params (.Tuple [.Subscript (.Name x p1) (.Constant (.int (i : Nat)) j1 p2) p3, .Subscript (.Name x p4) (.Constant (.int (j : Nat)) j2 p5) p6] kk p7) scope [] pm c' ctv)) (hc : s.heap.CodeRec (.ref c') qual)
    (hs : SqL X.K H a (bs.map (·.1))) (hbs : ∀ b ∈ bs, ∃ t xs, b.1 = .ref t ∧ SqT X.K H t xs ∧ xs[i]? = some (.int b.2.1) ∧ xs[j]? = some (.int b.2.2))
    (q : ∀ p, H p = none → Q (.ref p) (upd H p (.lst ((bs.mergeSort (dataLe false kI2)).map (·.1))))) :
    wpAny (model X.prog X.w) X.A (call (.builtin "sorted") [.ref a] [(Str.ofString "key", .ref f)]) (EP X pins σ Q) X.xe s := by
  obtain ⟨its, rv, hl, hz⟩ := I.list hs
  have e : EachIs (fun v b => RelV b.1 v) its bs := vals_bs rv fun b _ v r => r
  have hz' : bs.length ≤ sizeLine := by rw [List.length_map] at hz; exact hz
  refine sorted_key_data (vs := its) (bs := bs) (R := fun v b => RelV b.1 v) (b := false) kI2 hl.isList e (AllAlike.of fun _ _ => by simp [alike, alikeAll, kI2]) (Sortable.tuples fun _ => ⟨_, _, rfl⟩) hz' (fun b _ => ?_) (ksk_s1 _ _) (fun _ => ksk_l1 _ _) (fun _ => ksk_t1 _ _)
    (fun v b rb mb h tk kp => ?_) fun out c h' tk kp _ hD lo eo => ?_
  · have hd : (kI2 b).depth = 1 := by simp [kI2, PyData.depth, PyData.depthAll]
    omega
  · obtain ⟨t, xs, eb, ht, h1, h2⟩ := hbs b mb
    rw [eb] at rb
    obtain rfl : v = .ref t := rb
    obtain ⟨ti, tv, tt, tz⟩ := I.tuple ht
    obtain ⟨ot, hot, r⟩ := tt
    obtain ⟨v1, g1, ⟨t1, rfl⟩⟩ := vals_at tv h1
    obtain ⟨v2, g2, ⟨t2, rfl⟩⟩ := vals_at tv h2
    refine lam_pair (s := { s with heap := h, toks := tk }) (i := i) (j := j) L hroom (I.nolimit.keeps kp) hd (kp _ _ hf) ?_ (hb _) ⟨ot, kp _ _ hot, r⟩ (a := .int b.2.1 t1) (b := .int b.2.2 t2) (by simpa using g1) (by simpa using g2) (by rw [List.size_toArray, ← tv.length]; exact tz) fun h2 r2 tk2 kp2 ht2 => ?_
    · obtain ⟨c2, oc, vs, tq, e1, e2, e3, e4⟩ := hc
      exact ⟨c2, oc, vs, tq, e1, kp _ _ e2, e3, e4⟩
    · refine ⟨h2, tk2, rfl, kp2, ?_⟩
      obtain ⟨o2, ho2, hc2, n2, hd2⟩ := ht2
      exact .tuple ho2 hc2 hd2 (.cons (.int _ _) (.cons (.int _ _) .nil))
  · have hv : Vals ((bs.mergeSort (dataLe false kI2)).map (·.1)) out := by
      clear lo hD
      generalize bs.mergeSort (dataLe false kI2) = cs at eo
      induction eo with
      | nil => exact .nil
      | cons r _ ih => exact .cons r ih
    refine ⟨.ref _, upd H (s.heap.objs.size + 1) (.lst ((bs.mergeSort (dataLe false kI2)).map (·.1))), I.laid (t' := tk) kp (Nat.le_succ _) ⟨?_, _, c, hv, hD⟩, rfl, q _ (I.hok.fresh (Nat.le_succ _))⟩
    rw [List.length_map, List.length_mergeSort]
    exact hz'
def tSortLam2 (K : PySem.W.Frag) (i j : Nat) (P : Addr) (q : Str) (t : TE) : TE := fun σ H Q => t σ H fun x H1 => rSortLam2 K i j P q x H1 Q
theorem pe_sortLam2 {c P : Addr} {e : Expr} {te : TE} {x : Str} {params : Arguments} {scope : Scope} {i j j1 j2 kk : Nat} {p p1 p2 p3 p4 p5 p6 p7 lpos kpos pos : Pos} (hu : X.A.units + 90 < cLine) (hroom : X.A.in1.in1.depth < recursionLimit) (TB : LamX.TabB X.base X.mg c P) (hcode : X.env.code = .ref c) (hg : Gl X "sorted") (hm : X.mg "sorted" = none)
    (L : LamText X params scope x (.Tuple [.Subscript (.Name x p1) (.Constant (.int (i : Nat)) j1 p2) p3, .Subscript (.Name x p4) (.Constant (.int (j : Nat)) j2 p5) p6] kk p7)) (he : PE X e te)
    (hs : starEach [e] X.env = (false, eval e X.env) :: starEach [] X.env := by rfl) (hbk : backTo pos (starEach [e] X.env) = (false, eval e X.env) :: backTo pos (starEach [] X.env) := by rfl) (hpl : (backTo pos (starEach [e] X.env)).any (·.1) = false := by rfl) :
    PE X (.Call (.Name "sorted" p) [e] [⟨some "key", .Lambda params (.Tuple [.Subscript (.Name x p1) (.Constant (.int (i : Nat)) j1 p2) p3, .Subscript (.Name x p4) (.Constant (.int (j : Nat)) j2 p5) p6] kk p7) scope lpos, kpos⟩] pos) (tSortLam2 X.K i j P (X.env.qual ++ "<lambda>") te) := by
  refine ⟨fun pins s σ H Q I h => ?_⟩
  have hbt : bootBuiltins "sorted" = some (.builtin "sorted") := by decide +kernel
  refine wpAny_Call_Name_kw (ld_blt I hg hm hbt ?_ (by decide) (by decide))
  have ha : PA X [e] (tCons te tNil) := pa_cons he pa_nil hs
  refine PyProof.Rows.callWith_kw (thn (ha.run pos pins s σ H (fun vs H1 => match vs with
    | [v] => rSortLam2 X.K i j P (X.env.qual ++ "<lambda>") v H1 Q
    | _ => False) I h) fun us s1 ⟨vs, H1, I1, r1, q1⟩ => ?_) hbk hpl rfl rfl
  simp only at q1
  split at q1
  · rename_i v
    obtain ⟨hT, a, bs, ea, hl, hbs, q⟩ := q1
    subst ea
    obtain ⟨u, eu, ra⟩ := Vals.one r1
    subst eu
    obtain rfl : u = Value.ref a := ra
    show wpAny (model X.prog X.w) X.A (evalAll [(do let v ← eval (.Lambda params (.Tuple [.Subscript (.Name x p1) (.Constant (.int (i : Nat)) j1 p2) p3, .Subscript (.Name x p4) (.Constant (.int (j : Nat)) j2 p5) p6] kk p7) scope lpos) X.env; standAt pos; pure v)]) _ X.xe s1
    refine wpAny_evalAll_cons (wpAny_bind ?_)
    refine lam_new I1 TB hcode rfl hT L.dflt L.free L.clo fun f c' pm ctv H2 s2 I2 ex hT2 hf hcr => ?_
    refine wpAny_bind (wpAny_standAt (wpAny_pure (wpAny_evalAll_nil ?_)))
    show wpAny (model X.prog X.w) X.A (call (.builtin "sorted") [.ref a] [(Str.ofString "key", .ref f)]) (EP X pins σ Q) X.xe s2
    refine sort_run2 I2 hu hroom L.one L.dbg (fun v => L.bind _ _ _ _ _) hf hcr (ext_L hT ex hl) (fun b mb => ?_) fun p hp => q H2 p ex hT2 hp
    obtain ⟨t, xs, e1, e2, e3, e4⟩ := hbs b mb
    exact ⟨t, xs, e1, ext_T hT ex e2, e3, e4⟩
  · exact q1.elim
end
end PM

namespace PM
open PySem PySem.Spec L2 PySem.W
open PyProof.Rows hiding St

/-! ### sorted(.., key=lambda x: (x[i], x[j])) by values -/
def dSortLam2 (i j : Nat) (P : Addr) (q : Str) (a : DE) : DE := fun env h Q E => a env h (fun x h1 => ∃ (n : Nat) (bs : List (PV × Int × Int)), h1[n]? = some (.tab P q) ∧ listC h1 x = some (bs.map (·.1)) ∧ (∀ b ∈ bs, ∃ xs, b.1 = .tup xs ∧ xs[i]? = some (.int b.2.1) ∧ xs[j]? = some (.int b.2.2)) ∧ Q (.own ((srt2 bs).map (·.1))) h1) E
@[simp ↓] theorem dSortLam2_eq (i j : Nat) (P : Addr) (q : Str) (a : DE) (env : Env) (h : Hs) (Q : VQ) (E : XQ) : dSortLam2 i j P q a env h Q E = (a env h (fun x h1 => ∃ (n : Nat) (bs : List (PV × Int × Int)), h1[n]? = some (.tab P q) ∧ listC h1 x = some (bs.map (·.1)) ∧ (∀ b ∈ bs, ∃ xs, b.1 = .tup xs ∧ xs[i]? = some (.int b.2.1) ∧ xs[j]? = some (.int b.2.2)) ∧ Q (.own ((srt2 bs).map (·.1))) h1) E) := id rfl
theorem repL_int {K : PySem.W.Frag} {Ex : Ad} {m : List Addr} {H : Hp} : ∀ {vs : List V} {ps : List PV} {i : Nat} {z : Int}, RepL K Ex m H vs ps → ps[i]? = some (.int z) → vs[i]? = some (.int z)
  | _, _, _, _, .nil, e => by simp at e
  | _, _, 0, _, .cons r _, e => by
    obtain rfl := Option.some.inj e
    cases r
    rfl
  | _, _, i + 1, _, .cons _ t, e => repL_int (i := i) t e
section
variable {K : PySem.W.Frag} {W : WX}
theorem se_sortLam2 {i j : Nat} {P : Addr} {q : Str} {ta : TE} {fa : DE} (ha : SE K W ta fa) : SE K W (tSortLam2 K i j P q ta) (dSortLam2 i j P q fa) := ⟨fun C m σ H env h Q E Q' eK R hf p px => by
  refine ha.run C m σ H env h _ E _ eK R hf (fun m1 x H1 sx h1 S1 R1 r1 q1 => ?_) px
  obtain ⟨n, bs, en, el, hb, q1⟩ := q1
  have R0 := R1.drop
  obtain ⟨a, vs, rfl, hl, rl⟩ := R0.list (r1.less rfl (fun _ q => q) fun _ _ => trivial) el
  have ln : n < m1.length := by
    rw [R0.hm.len]
    exact (List.getElem?_eq_some_iff.mp en).1
  obtain ⟨eP, ps, tab, tri, each⟩ := R0.hm.at_ n m1[n] _ (List.getElem?_eq_getElem ln) en
  have mP : m1[n]? = some P := by rw [← eP]; exact List.getElem?_eq_getElem ln
  have inP : P ∈ m1 := List.mem_of_getElem? mP
  rw [eP] at tab
  have hT : LamX.TabS H1 P q := ⟨ps, tab, tri, fun pos cv z => by
    obtain ⟨c, e1, e2, _⟩ := each pos cv z
    exact ⟨c, e1, e2⟩⟩
  have lv : vs.length = bs.length := by rw [rl.length]; simp
  have ez1 : (vs.zip bs).map (·.1) = vs := by rw [List.map_fst_zip (by omega)]
  have ez2 : (vs.zip bs).map (·.2) = bs := by rw [List.map_snd_zip (by omega)]
  have hz : ∀ z ∈ vs.zip bs, Rep C.K (ExOf C σ env m1) m1 H1 z.1 z.2.1 := fun z mz => by
    have : (z.1, z.2.1) ∈ vs.zip (bs.map (·.1)) := by
      rw [show vs.zip (bs.map (·.1)) = (vs.zip bs).map (fun z => (z.1, z.2.1)) by rw [List.zip_map_right]; rfl]
      exact List.mem_map.mpr ⟨z, mz, rfl⟩
    exact repL_zip rl _ this
  refine ⟨hT, a, (vs.zip bs).map (fun z => (z.1, z.2.2)), rfl, ?_, fun b mb => ?_, fun H2 p0 ex ts np => ?_⟩
  · rw [List.map_map, show ((fun z : V × Int × Int => z.1) ∘ fun z : V × PV × Int × Int => (z.1, z.2.2)) = Prod.fst from rfl, ez1, ← eK]
    exact hl
  · obtain ⟨z, mz, rfl⟩ := List.mem_map.mp mb
    have mb2 : z.2 ∈ bs := by rw [← ez2]; exact List.mem_map.mpr ⟨z, mz, rfl⟩
    obtain ⟨xs, e1, e2, e3⟩ := hb _ mb2
    have r := hz z mz
    rw [e1] at r
    have r' : ∃ t ws, z.1 = .ref t ∧ SqT C.K H1 t ws ∧ RepL C.K (ExOf C σ env m1) m1 H1 ws xs := by
      generalize z.1 = zv at r
      cases r with
      | tup ht rt => exact ⟨_, _, rfl, ht.sq, rt⟩
    obtain ⟨t, ws, e4, ht, rt⟩ := r'
    exact ⟨t, ws, e4, by rw [← eK]; exact ht, repL_int rt e2, repL_int rt e3⟩
  · obtain ⟨ps2, tab2, tri2, each2⟩ := ts ps tab tri
    have S : StE m1 H1 m1 H2 := ⟨fun b o e nb => ex b o e fun z => nb (z ▸ inP), fun b q => by
      by_cases z : b = P
      · rw [z, tab2]
        simp
      · cases e : H1 b with
        | none => exact absurd e q
        | some o =>
          rw [ex b o e z]
          simp, [], by simp, by simp⟩
    have R2 : Rel C m1 σ H2 env h1 := R0.step S ⟨R0.hm.len, R0.hm.nd, fun k b c e f => by
      by_cases z : b = P
      · subst z
        have := nd_ix R0.hm.nd e mP
        subst this
        rw [en] at f
        cases f
        refine ⟨rfl, ps2, tab2, tri2, fun pos cv w => ?_⟩
        rcases each2 pos cv w with w | ⟨k, e1, e2, e3⟩
        · obtain ⟨c, e1, e2, e3⟩ := each pos cv w
          refine ⟨c, e1, ex c _ e2 fun z => ?_, e3⟩
          rw [z, tab] at e2
          exact LamX.codeO_ne ps (Option.some.inj e2).symm
        · exact ⟨k, e1, e3, R0.exNew e2⟩
      · refine (R0.hm.at_ k b c e f).mono (R0.kp S) ⟨[], by simp⟩ ?_
        cases e2 : H1 b with
        | none => exact absurd e2 (R0.mDom (List.mem_of_getElem? e))
        | some o => exact ex b o e2 z⟩
    have ss : (((vs.zip bs).map (fun z => (z.1, z.2.2))).mergeSort (dataLe false kI2)).map (·.1) = ((vs.zip bs).mergeSort (fun x y => dataLe false kI2P x.2 y.2)).map (·.1) := by
      rw [← List.map_mergeSort (r := fun x y : V × PV × Int × Int => dataLe false kI2P x.2 y.2) (s := dataLe false kI2) (f := fun z : V × PV × Int × Int => (z.1, z.2.2)) (fun _ _ _ _ => rfl), List.map_map]
      rfl
    have sp : (srt2 bs).map (·.1) = ((vs.zip bs).mergeSort (fun x y => dataLe false kI2P x.2 y.2)).map (fun z => z.2.1) := by
      unfold srt2
      conv => lhs; rw [← ez2]
      rw [← List.map_mergeSort (r := fun x y : V × PV × Int × Int => dataLe false kI2P x.2 y.2) (s := dataLe false kI2P) (f := fun z : V × PV × Int × Int => z.2) (fun _ _ _ _ => rfl), List.map_map]
      rfl
    rw [ss]
    have rs : RepL C.K (ExOf C σ env m1) m1 H1 (((vs.zip bs).mergeSort (fun x y => dataLe false kI2P x.2 y.2)).map (·.1)) ((srt2 bs).map (·.1)) := by
      rw [sp]
      have := repL_of (zs := ((vs.zip bs).mergeSort (fun x y => dataLe false kI2P x.2 y.2)).map fun z => (z.1, z.2.1)) fun w mw => by
        obtain ⟨z, mz, rfl⟩ := List.mem_map.mp mw
        exact hz z (List.mem_mergeSort.mp mz)
      rw [List.map_map, List.map_map] at this
      exact this
    have rs2 : RepL C.K (ExOf C σ env m1) m1 H2 _ _ := RepL.mono (R0.kp S) ⟨[], by simp⟩ rs
    refine p m1 (.ref p0) _ (.own ((srt2 bs).map (·.1))) h1 (S1.trans (S.trans (StE.new np))) (R2.fresh np _) ⟨p0, _, rfl, upd_same, stnew (S1.trans S) np, fun z => R2.mDom z np, ?_⟩ q1
    exact RepL.mono (fun b u e nb => ⟨by rw [upd_ne (ne_of_none e np)]; exact e, fun z => z.elim nb fun z2 => by rw [z2, np] at e; cases e⟩) ⟨[], by simp⟩ rs2⟩
end
section
variable {X : Cx} {W : WX} {e : Expr} {fe : DE}
theorem pd_sortLam2 {k : Nat} {c P : Addr} {x q : Str} {params : Arguments} {scope : Scope} {i j j1 j2 kk : Nat} {p p1 p2 p3 p4 p5 p6 p7 lpos kpos pos : Pos} (hr : Room k X.A) (TB : LamX.TabB X.base X.mg c P) (hcode : X.env.code = .ref c) (hq : X.env.qual ++ "<lambda>" = q) (hg : Gl X "sorted") (hm : X.mg "sorted" = none)
    (L : LamText X params scope x (.Tuple [.Subscript (.Name x p1) (.Constant (.int (i : Nat)) j1 p2) p3, .Subscript (.Name x p4) (.Constant (.int (j : Nat)) j2 p5) p6] kk p7)) (he : PEd X W e fe)
    (hs : starEach [e] X.env = (false, eval e X.env) :: starEach [] X.env := by rfl) (hbk : backTo pos (starEach [e] X.env) = (false, eval e X.env) :: backTo pos (starEach [] X.env) := by rfl) (hpl : (backTo pos (starEach [e] X.env)).any (·.1) = false := by rfl) :
    PEd X W (.Call (.Name "sorted" p) [e] [⟨some "key", .Lambda params (.Tuple [.Subscript (.Name x p1) (.Constant (.int (i : Nat)) j1 p2) p3, .Subscript (.Name x p4) (.Constant (.int (j : Nat)) j2 p5) p6] kk p7) scope lpos, kpos⟩] pos) (dSortLam2 i j P q fe) := by
  subst hq
  refine .of (pe_sortLam2 (u90 hr) ?_ TB hcode hg hm L he hs hbk hpl) (se_sortLam2 seE)
  have := hr.dp
  show X.A.depth < recursionLimit
  omega
end
end PM

namespace PM
open PySem PySem.Spec L2
open PyProof.Rows hiding St

/-! ### y = x.pop(), x a name that holds a list of its own -/
section
variable {K : PySem.W.Frag} {W : WX}
def sPopV (i k : Nat) : DS := fun D env h => match env[k]? with
  | some (some (.own xs)) => ∃ p, xs.getLast? = some p ∧ D.nx ((env.set k (some (.own xs.dropLast))).set i (some (.val p))) h
  | _ => False
@[simp ↓] theorem sPopV_eq (i k : Nat) (D : DEnds) (env : Env) (h : Hs) : sPopV i k D env h = (match env[k]? with
  | some (some (.own xs)) => ∃ p, xs.getLast? = some p ∧ D.nx ((env.set k (some (.own xs.dropLast))).set i (some (.val p))) h
  | _ => False) := id rfl
theorem repL_at {Ex : Ad} {m : List Addr} {H : Hp} : ∀ {vs : List V} {ps : List PV} {i : Nat} {p : PV}, RepL K Ex m H vs ps → ps[i]? = some p → ∃ v, vs[i]? = some v ∧ Rep K Ex m H v p
  | _, _, _, _, .nil, e => by simp at e
  | _, _, 0, _, .cons r _, e => by
    obtain rfl := Option.some.inj e
    exact ⟨_, rfl, r⟩
  | _, _, i + 1, _, .cons _ t, e => repL_at (i := i) t e
theorem ss_popV (i k : Nat) : SS K W (tAsg (tBM0 K "list" rPop (tVar k)) (gName i)) (sPopV i k) := ⟨fun C m σ H env h Df D eK R hf p => by
  unfold sPopV at hf
  split at hf
  · rename_i xs e0
    obtain ⟨pv, ep, q⟩ := hf
    obtain ⟨a, vs, s0, ha, rl⟩ := R.owned e0
    rw [List.getLast?_eq_getElem?] at ep
    obtain ⟨y, ey, ry⟩ := repL_at rl ep
    refine ⟨_, s0, .inl ⟨rfl, vs, .inl (.inl ha)⟩, ?_⟩
    have rd : RepL C.K (ExOf C σ env m) m H vs.dropLast xs.dropLast := by
      rw [List.dropLast_eq_take, List.dropLast_eq_take, rl.length]
      exact rl.take _
    refine ⟨a, vs, y, rfl, rfl, ha, by rw [rl.length]; exact ey, ?_⟩
    have R1 := R.mutOwn e0 s0 rd
    have oa : OwnAt σ env a := ⟨k, xs, e0, s0⟩
    have o2 : ∀ b, OwnAt σ (env.set k (some (.own xs.dropLast))) b → OwnAt σ env b := fun b ⟨j, zs, e, s⟩ => by
      rcases get_set e with ⟨rfl, l, e1⟩ | ⟨n, e1⟩
      · exact ⟨_, xs, e0, s⟩
      · exact ⟨j, zs, e1, s⟩
    have kp : Kp (ExOf C σ env m) H (ExOf C σ (env.set k (some (.own xs.dropLast))) m) (upd H a (.lst vs.dropLast)) := fun b u e n => by
      have nb : b ≠ a := fun z => n (by rw [z]; exact .inr (.inl oa))
      refine ⟨by rw [upd_ne nb]; exact e, fun w => n ?_⟩
      rcases w with w | w | w
      · exact .inl w
      · exact .inr (.inl (o2 b w))
      · exact .inr (.inr w)
    have ry2 : Rep C.K (ExOf C σ (env.set k (some (.own xs.dropLast))) m) m (upd H a (.lst vs.dropLast)) y pv := ry.mono kp ⟨[], by simp⟩
    exact p.nx m _ _ _ h (R1.setSlot (sv := .val pv) ry2 rfl fun a o _ => by cases o) q
  · exact hf.elim⟩
end
section
variable {X : Cx} {W : WX} {apos cpos pos : Pos}
theorem psd_popV (i k : Nat) {x y : Str} {p py : Pos} (hNn : X.N.Nodup) (hi : X.N[i]? = some y := by rfl) (hy : Loc X.env.scope y := by first | exact .inl rfl | exact .inr rfl) (hN : X.N[k]? = some x := by rfl) (hv : Vis X.env.scope x := by first | exact Or.inl rfl | exact Or.inr (Or.inl rfl) | exact Or.inr (Or.inr rfl)) (hd : (x == ("__debug__" : Str)) = false := by decide)
    (hcd : (x == ("__classdict__" : Str)) = false := by decide) (hbase : attributeBase (.Name x p) "pop" X.env (eval (.Name x p) X.env) = eval (.Name x p) X.env := by rfl) (hline : (apos.endLine == cpos.line) = true := by rfl)
    (hs : swapsWith (.Call (.Attribute (.Name x p) "pop" apos) [] [] cpos) (some (.Name y py)) pos.line X.env = pure false := by rfl) (hf : X.fn y = true ∨ X.env.scope.names.lookup y = some .local := by first | exact .inl rfl | exact .inr rfl | assumption) :
    PSd X W (.Assign [.Name y py] (.Call (.Attribute (.Name x p) "pop" apos) [] [] cpos) pos) (sPopV i k) := .of (ps_set hNn hi hy (pe_bm0 PySem.F.plainAttrs_list PySem.F.slot_list_pop PySem.F.type_list_pop mt_pop (pe_var hN hv hd hcd) hbase hline) hs hf) (ss_popV i k)
end
end PM

namespace PM
open PySem PySem.Spec L2
open PyProof.Rows hiding St

/-! ### x.extend(e), x a name that holds a list of its own; e a new list or a cell -/
def extC (h : Hs) : SV → Option (List PV)
  | .own zs => some zs
  | .val (.ref n) => match h[n]? with
    | some (.lst zs) => some zs
    | _ => none
  | _ => none
section
variable {K : PySem.W.Frag} {W : WX}
def sExtV (i : Nat) (e : DE) : DS := fun D env h => match env[i]? with
  | some (some (.own xs)) => e env h (fun y h1 => ∃ zs, extC h1 y = some zs ∧ xs.length + zs.length ≤ sizeLine ∧ D.nx (env.set i (some (.own (xs ++ zs)))) h1) fun c h1 => D.ex c env h1
  | _ => False
@[simp ↓] theorem sExtV_eq (i : Nat) (e : DE) (D : DEnds) (env : Env) (h : Hs) : sExtV i e D env h = (match env[i]? with
  | some (some (.own xs)) => e env h (fun y h1 => ∃ zs, extC h1 y = some zs ∧ xs.length + zs.length ≤ sizeLine ∧ D.nx (env.set i (some (.own (xs ++ zs)))) h1) fun c h1 => D.ex c env h1
  | _ => False) := id rfl
theorem ss_extV {te : TE} {fe : DE} (i : Nat) (he : SE K W te fe) : SS K W (tDrop (tBM K "list" rExtend (tVar i) (tCons te tNil))) (sExtV i fe) := ⟨fun C m σ H env h Df D eK R hf p => by
  unfold sExtV at hf
  split at hf
  · rename_i xs e0
    obtain ⟨a, vs, s0, ha, _⟩ := R.owned e0
    refine ⟨_, s0, .inl ⟨rfl, vs, .inl (.inl ha)⟩, ?_⟩
    refine he.run C m σ H env h _ _ _ eK R hf (fun m1 y H1 sy h1 S1 R1 r1 q1 => ?_) p.px
    obtain ⟨zs, ez, sz, q1⟩ := q1
    obtain ⟨a1, vs1, s1, ha1, q3⟩ := R1.drop.owned e0
    rw [s0] at s1
    cases s1
    have got : ∃ b ws, y = .ref b ∧ H1 b = some (.lst ws) ∧ RepL C.K (ExOf C σ env m1) m1 H1 ws zs := by
      cases sy with
      | own l =>
        obtain rfl : l = zs := Option.some.inj ez
        obtain ⟨b, ws, rfl, hb, n, z⟩ := r1
        exact ⟨b, ws, rfl, hb, RepL.mono (Kp.le fun b q => .inl q) ⟨[], by simp⟩ z.2⟩
      | val pv =>
        cases pv with
        | ref n =>
          simp only [extC] at ez
          split at ez
          · rename_i l en
            obtain rfl : l = zs := Option.some.inj ez
            obtain ⟨b, rfl, mb, ws, hb, rb⟩ := R1.drop.cellAt r1 en
            exact ⟨b, ws, rfl, hb, rb⟩
          · cases ez
        | _ => cases ez
      | _ => cases ez
    obtain ⟨b, ws, rfl, hb, rw'⟩ := got
    refine ⟨a, b, vs1, ws, rfl, rfl, ha1, hb, by rw [q3.length, rw'.length]; exact sz, ?_⟩
    exact p.nx m1 σ _ _ h1 (R1.drop.mutOwn e0 s0 (q3.append rw')) q1
  · exact hf.elim⟩
end
section
variable {X : Cx} {W : WX} {e : Expr} {fe : DE} {apos cpos pos : Pos}
theorem psd_extV (i : Nat) {x : Str} {p : Pos} (he : PEd X W e fe) (hN : X.N[i]? = some x := by rfl) (hv : Vis X.env.scope x := by first | exact Or.inl rfl | exact Or.inr (Or.inl rfl) | exact Or.inr (Or.inr rfl)) (hd : (x == ("__debug__" : Str)) = false := by decide) (hcd : (x == ("__classdict__" : Str)) = false := by decide)
    (hbase : attributeBase (.Name x p) "extend" X.env (eval (.Name x p) X.env) = eval (.Name x p) X.env := by rfl)
    (hfew : ((backTo cpos (starEach [e] X.env)).all (fun x => !x.1) && (backToKw cpos (keywordEach [] X.env)).all (fun x => x.1.isSome) && decide (([e] : List Expr).length + ([] : List Keyword).length + (if ([] : List Keyword).isEmpty then 0 else 1) < 30)) = true := by rfl)
    (hline : (apos.endLine == cpos.line) = true := by rfl) (hs : starEach [e] X.env = (false, eval e X.env) :: starEach [] X.env := by rfl) (hplain : (backTo cpos (starEach [] X.env)).any (·.1) = false := by rfl)
    (hsw : swapsWith (.Call (.Attribute (.Name x p) "extend" apos) [e] [] cpos) none pos.line X.env = pure false := by rfl) :
    PSd X W (.Expr (.Call (.Attribute (.Name x p) "extend" apos) [e] [] cpos) pos) (sExtV i fe) := .of (ps_expr (pe_bm PySem.F.plainAttrs_list PySem.F.slot_list_extend PySem.F.type_list_extend mt_extend (pe_var hN hv hd hcd) (pa_cons he pa_nil hs) hbase hfew hline hs hplain) hsw) (ss_extV i seE)
end
end PM

namespace PM
open PySem PySem.Spec L2
open PyProof.Rows hiding St

/-! ### a method of a built-in type, whatever the thing is known by -/
def tBMG (ty : V → Hp → Prop) (r : V → List V → Hp → VK → Prop) (to : TE) (t : TA) : TE := fun σ H Q => to σ H fun x H1 => ty x H1 ∧ t σ H1 fun xs H2 => r x xs H2 Q
section
variable {X : Cx} {o e : Expr} {es : List Expr} {to : TE} {t : TA} {name : Str} {apos cpos : Pos} {T id : String} {r : V → List V → Hp → VK → Prop} {ty : V → Hp → Prop}
theorem pe_bmG (hk : ∀ (pins : List (Addr × Obj)) (σ : St) (H : Hp) (s : Shared) (x : V) (v : Value), Inv X pins σ H s → RelV x v → ty x H → s.TypeIs v T ∧ ∀ a, v = .ref a → ∃ ob, s.heap.get? a = some ob ∧ ob.dict = none)
    (pa : PlainAttrs T) (slot : Slot T name id) (hty : typeOf (.builtin id) = pure (.type "method_descriptor")) (hm : MtR X id r) (ho : PE X o to) (ha : PA X (e :: es) t)
    (hbase : attributeBase o name X.env (eval o X.env) = eval o X.env := by rfl)
    (hfew : ((backTo cpos (starEach (e :: es) X.env)).all (fun x => !x.1) && (backToKw cpos (keywordEach [] X.env)).all (fun x => x.1.isSome) && decide ((e :: es).length + ([] : List Keyword).length + (if ([] : List Keyword).isEmpty then 0 else 1) < 30)) = true := by rfl)
    (hline : (apos.endLine == cpos.line) = true := by rfl) (hs : starEach (e :: es) X.env = (false, eval e X.env) :: starEach es X.env := by rfl) (hplain : (backTo cpos (starEach es X.env)).any (·.1) = false := by rfl) :
    PE X (.Call (.Attribute o name apos) (e :: es) [] cpos) (tBMG ty r to t) := by
  refine ⟨fun pins s σ H Q I h => ?_⟩
  refine wpAny_Call_method_late hbase hfew hline rfl (thn (ho.run pins s σ H _ I h) fun v s1 ⟨x, H1, I1, r1, q0, q1⟩ => ?_)
  obtain ⟨h1, h2⟩ := hk pins σ H1 s1 x v I1 r1 q0
  refine ⟨T, id, pa, slot, hty, h1, h2, ?_⟩
  have hA := ha.run cpos pins s1 σ H1 _ I1 q1
  rw [hs] at hA ⊢
  refine Calls.callWith_builtin (by show (false || (backTo cpos (starEach es X.env)).any (·.1)) = false; rw [hplain] <;> rfl) (Calls.evalArgs_plain ?_)
  exact thn hA fun us s2 ⟨vs, H2, I2, r2, q2⟩ => hm pins s2 σ H2 x vs v us Q I2 r1 r2 q2
end
def tyN (x : V) (H : Hp) : Prop := ∃ a es, x = .ref a ∧ H a = some (.ext (NDict a es))
theorem tyN_is {X : Cx} (pins : List (Addr × Obj)) (σ : St) (H : Hp) (s : Shared) (x : V) (v : Value) (I : Inv X pins σ H s) (r : RelV x v) (ty : tyN x H) : s.TypeIs v "dict" ∧ ∀ a, v = .ref a → ∃ ob, s.heap.get? a = some ob ∧ ob.dict = none := by
  obtain ⟨a, es, rfl, ha⟩ := ty
  cases r
  have hm : NDict a es s.heap := (show ObjOk X.prog X.w H s.heap a (.ext (NDict a es)) from I.hok a _ ha).1
  refine ⟨typeIs_N hm, fun b e => ?_⟩
  cases e
  obtain ⟨_, _, o, _, _, ho, hc, _⟩ := hm
  exact ⟨o, ho, hc.2.1⟩

/-! ### d = {}, d.get(k, x), d.setdefault(k, x) -/
def valN (kvs : List (OKey × PV)) (k : OKey) : Option PV := (kvs.find? fun kv => decide (kv.1 = k)).map (·.2)
def dNewN : DE := fun _ h Q _ => Q (.val (.ref h.length)) (h ++ [.dN []])
@[simp ↓] theorem dNewN_eq (u0 : Env) (h : Hs) (Q : VQ) (u1 : XQ) : dNewN u0 h Q u1 = Q (.val (.ref h.length)) (h ++ [.dN []]) := id rfl
def dGetN (a : DE) (b : DA) : DE := fun env h Q E => a env h (fun x h1 => (∃ n kvs, x = .val (.ref n) ∧ h1[n]? = some (.dN kvs)) ∧ b env h1 (fun ys h2 => ∃ n kvs k z, x = .val (.ref n) ∧ ys = [.val (okP k), z] ∧ h2[n]? = some (.dN kvs) ∧ match valN kvs k with
  | some p => Q (.val p) h2
  | none => Q z h2) E) E
@[simp ↓] theorem dGetN_eq (a : DE) (b : DA) (env : Env) (h : Hs) (Q : VQ) (E : XQ) : dGetN a b env h Q E = (a env h (fun x h1 => (∃ n kvs, x = .val (.ref n) ∧ h1[n]? = some (.dN kvs)) ∧ b env h1 (fun ys h2 => ∃ n kvs k z, x = .val (.ref n) ∧ ys = [.val (okP k), z] ∧ h2[n]? = some (.dN kvs) ∧ match valN kvs k with
  | some p => Q (.val p) h2
  | none => Q z h2) E) E) := id rfl
def dSetdN (a : DE) (b : DA) : DE := fun env h Q E => a env h (fun x h1 => (∃ n kvs, x = .val (.ref n) ∧ h1[n]? = some (.dN kvs)) ∧ b env h1 (fun ys h2 => ∃ n kvs k p, x = .val (.ref n) ∧ ys = [.val (okP k), .val p] ∧ h2[n]? = some (.dN kvs) ∧ kvs.length < sizeLine ∧ match valN kvs k with
  | some q => Q (.val q) h2
  | none => Q (.val p) (h2.set n (.dN (kvs ++ [(k, p)])))) E) E
@[simp ↓] theorem dSetdN_eq (a : DE) (b : DA) (env : Env) (h : Hs) (Q : VQ) (E : XQ) : dSetdN a b env h Q E = (a env h (fun x h1 => (∃ n kvs, x = .val (.ref n) ∧ h1[n]? = some (.dN kvs)) ∧ b env h1 (fun ys h2 => ∃ n kvs k p, x = .val (.ref n) ∧ ys = [.val (okP k), .val p] ∧ h2[n]? = some (.dN kvs) ∧ kvs.length < sizeLine ∧ match valN kvs k with
  | some q => Q (.val q) h2
  | none => Q (.val p) (h2.set n (.dN (kvs ++ [(k, p)])))) E) E) := id rfl
section
variable {K : PySem.W.Frag} {W : WX} {C : Ctx} {m : List Addr} {σ : St} {env : Env} {H : Hp} {h : Hs}
theorem keyV_of {Ex : Ad} {v : V} {k : OKey} (r : Rep K Ex m H v (okP k)) : KeyV K H v k := by
  cases k with
  | none =>
    cases r
    exact True.intro
  | some is =>
    cases r with
    | tup h r =>
      have := RepL.ints r
      subst this
      exact h.sq
theorem keysV_of {Ex : Ad} : ∀ {ks : List V} {ls : List OKey}, RepL K Ex m H ks (ls.map okP) → Paired (KeyV K H) ks ls
  | _, [], .nil => .nil
  | _, k :: ls, .cons h r => .cons (keyV_of h) (keysV_of r)
theorem val_rep {Ex : Ad} : ∀ {ls : List OKey} {vs : List V} {kvs : List (OKey × PV)}, ls = kvs.map (·.1) → RepL K Ex m H vs (kvs.map (·.2)) → ∀ k, (∃ v p, valV (ls.zip vs) k = some v ∧ valN kvs k = some p ∧ Rep K Ex m H v p) ∨ (valV (ls.zip vs) k = none ∧ valN kvs k = none)
  | [], _, [], _, _, k => .inr ⟨rfl, rfl⟩
  | [], _, _ :: _, e, _, _ => by simp at e
  | _ :: _, _, [], e, _, _ => by simp at e
  | a :: ls, vs, (b, p) :: kvs, e, r, k => by
    simp only [List.map_cons, List.cons.injEq] at e r
    obtain ⟨rfl, e⟩ := e
    cases r with
    | @cons v _ vs _ r1 r2 =>
      by_cases q : a = k
      · exact .inl ⟨v, p, by rw [List.zip_cons_cons, valV_pos (p := (a, v)) q], by simp [valN, List.find?_cons, q], r1⟩
      · have := val_rep e r2 k
        rw [List.zip_cons_cons, valV_neg (p := (a, v)) q]
        simpa [valN, List.find?_cons, q] using this
theorem zip_fst {α β : Type} : ∀ {xs : List α} {ys : List β}, xs.length = ys.length → (xs.zip ys).map (·.1) = xs
  | [], _, _ => rfl
  | _ :: _, [], e => by simp at e
  | x :: xs, y :: ys, e => by
    rw [List.zip_cons_cons, List.map_cons, zip_fst (by simpa using e)]
theorem zip_snd {α β : Type} : ∀ {xs : List α} {ys : List β}, xs.length = ys.length → (xs.zip ys).map (·.2) = ys
  | [], [], _ => rfl
  | [], _ :: _, e => by simp at e
  | _ :: _, [], e => by simp at e
  | x :: xs, y :: ys, e => by
    rw [List.zip_cons_cons, List.map_cons, zip_snd (by simpa using e)]
/-- such a cell as the rules of the dict want it -/
theorem dictV_of {Ex : Ad} {a : Addr} {kvs : List (OKey × PV)} (r : CellR K Ex m H a (.dN kvs)) : ∃ (es : List OEnt) (ls : List OKey) (vs : List V), DictV K H a es (ls.zip vs) ∧ ls = kvs.map (·.1) ∧ RepL K Ex m H vs (kvs.map (·.2)) ∧ es.length = kvs.length := by
  obtain ⟨es, ks, vs, h, e1, v1, v2, r1, r2⟩ := r
  have l0 := congrArg List.length e1
  have l1 := r2.length
  simp only [List.length_map] at l0 l1
  have lz : (es.map (·.1)).length = vs.length := by simp only [List.length_map]; omega
  refine ⟨es, es.map (·.1), vs, ⟨h, (zip_fst lz).symm, ⟨ks, ?_, v1⟩, by rw [zip_snd lz]; exact v2⟩, e1, r2, l0⟩
  rw [e1]
  refine keysV_of (Ex := Ex) (m := m) ?_
  rw [List.map_map]
  exact r1
theorem se_newN : SE K W tNewN dNewN := ⟨fun C m σ H env h Q E Q' eK R hf p px => by
  intro a na
  obtain ⟨S0, R0⟩ := R.allocC (a := a) (c := .dN []) (o := .ext (NDict a [])) na fun Ex => ⟨[], [], [], upd_same, rfl, .nil, .nil, .nil, .nil⟩
  refine p _ _ _ (.val (.ref h.length)) _ S0 R0 (.ref ?_) hf
  rw [← R.hm.len, List.getElem?_append_right (Nat.le_refl _)]
  simp⟩
theorem paired2 {α β : Type} {F : α → β → Prop} {vs : List α} {x y : β} (r : Paired F vs [x, y]) : ∃ u v, vs = [u, v] ∧ F u x ∧ F v y := by
  cases r with
  | cons h t => cases t with
    | cons h2 t2 => cases t2; exact ⟨_, _, rfl, h, h2⟩
theorem se_getN {ta : TE} {tb : TA} {fa : DE} {fb : DA} (ha : SE K W ta fa) (hb : SA K W tb fb) : SE K W (tBMG tyN (rGetN K) ta tb) (dGetN fa fb) := ⟨fun C m σ H env h Q E Q' eK R hf p px => by
  refine ha.run C m σ H env h _ E _ eK R hf (fun m1 x H1 sx h1 S1 R1 r1 q1 => ?_) px
  obtain ⟨⟨n, kvs0, rfl, e0⟩, q1⟩ := q1
  obtain ⟨a, rfl, ea, c0⟩ := R1.cellAt r1 e0
  refine ⟨⟨a, _, rfl, (dictV_of c0).choose_spec.choose_spec.choose_spec.1.1⟩, ?_⟩
  refine hb.run C m1 σ H1 env h1 _ E _ eK R1 q1 (fun m2 ws H2 svs h2 S2 R2 r2 q2 => ?_) (px.go S1)
  obtain ⟨n', kvs, k, z, e1, rfl, e2, q2⟩ := q2
  cases e1
  obtain ⟨vk, vz, rfl, rk, rz⟩ := paired2 r2
  have R2' : Rel C m2 σ H2 env h2 := R2.drops
  have rx := RepS.step (N' := fun _ => True) r1 S2 fun _ _ => trivial
  obtain ⟨a', ea', em, c2⟩ := R2'.cellAt (show Rep C.K (ExOf C σ env m2) m2 H2 (.ref a) (.ref n) from rx) e2
  cases ea'
  obtain ⟨es, ls, vs, dv, el, rl, le⟩ := dictV_of c2
  have kv : KeyV C.K H2 vk k := keyV_of (show Rep C.K (ExOf C σ env m2) m2 H2 vk (okP k) from rk)
  subst eK
  refine ⟨a, es, _, vk, vz, k, rfl, rfl, dv, kv, ?_⟩
  rcases val_rep el rl k with ⟨v, p', f1, f2, f3⟩ | ⟨f1, f2⟩
  · rw [f2] at q2
    rw [f1]
    exact p m2 v H2 (.val p') h2 (S1.trans S2) R2' f3 q2
  · rw [f2] at q2
    rw [f1]
    exact p m2 vz H2 z h2 (S1.trans S2) R2 (rz.less rfl (fun _ q => q) fun b q => stnew S1 q) q2⟩
theorem se_setdN {ta : TE} {tb : TA} {fa : DE} {fb : DA} (ha : SE K W ta fa) (hb : SA K W tb fb) : SE K W (tBMG tyN (rSetdN K) ta tb) (dSetdN fa fb) := ⟨fun C m σ H env h Q E Q' eK R hf p px => by
  refine ha.run C m σ H env h _ E _ eK R hf (fun m1 x H1 sx h1 S1 R1 r1 q1 => ?_) px
  obtain ⟨⟨n, kvs0, rfl, e0⟩, q1⟩ := q1
  obtain ⟨a, rfl, ea, c0⟩ := R1.cellAt r1 e0
  refine ⟨⟨a, _, rfl, (dictV_of c0).choose_spec.choose_spec.choose_spec.1.1⟩, ?_⟩
  refine hb.run C m1 σ H1 env h1 _ E _ eK R1 q1 (fun m2 ws H2 svs h2 S2 R2 r2 q2 => ?_) (px.go S1)
  obtain ⟨n', kvs, k, pd, e1, rfl, e2, lz, q2⟩ := q2
  cases e1
  obtain ⟨vk, vz, rfl, rk, rz⟩ := paired2 r2
  have R2' : Rel C m2 σ H2 env h2 := R2.drops
  have rx := RepS.step (N' := fun _ => True) r1 S2 fun _ _ => trivial
  obtain ⟨a', ea', em, c2⟩ := R2'.cellAt (show Rep C.K (ExOf C σ env m2) m2 H2 (.ref a) (.ref n) from rx) e2
  cases ea'
  have c2' := c2
  obtain ⟨es, ks, vs, hh, x1, x2, x3, x4, x5⟩ := c2'
  have le := congrArg List.length x1
  simp only [List.length_map] at le
  have lv := x5.length
  simp only [List.length_map] at lv
  have lzz : (es.map (·.1)).length = vs.length := by simp only [List.length_map]; omega
  have kr : Rep C.K (ExOf C σ env m2) m2 H2 vk (okP k) := rk
  have zr : Rep C.K (ExOf C σ env m2) m2 H2 vz pd := rz
  subst eK
  have dv : DictV C.K H2 a es ((es.map (·.1)).zip vs) := ⟨hh, (zip_fst lzz).symm, ⟨ks, by
    rw [x1]
    refine keysV_of (Ex := ExOf C σ env m2) (m := m2) ?_
    rw [List.map_map]
    exact x4, x2⟩, by rw [zip_snd lzz]; exact x3⟩
  refine ⟨a, es, _, vk, vz, k, rfl, rfl, dv, keyV_of kr, by omega, fun v ev => ?_, fun ev u w ru rw' => ?_⟩
  · rcases val_rep x1 x5 k with ⟨v', p', f1, f2, f3⟩ | ⟨f1, f2⟩
    · rw [f2] at q2
      rw [f1] at ev
      cases ev
      exact p m2 _ H2 (.val p') h2 (S1.trans S2) R2' f3 q2
    · rw [f1] at ev
      cases ev
  · rcases val_rep x1 x5 k with ⟨v', p', f1, f2, f3⟩ | ⟨f1, f2⟩
    · rw [f1] at ev
      cases ev
    · rw [f2] at q2
      have am : a ∈ m2 := List.mem_of_getElem? em
      have kp : Kp (ExOf C σ env m2) H2 (ExOf C σ env m2) (upd H2 a (.ext (NDict a (es ++ [(k, u, w)])))) := fun b o e q => ⟨by rw [upd_ne fun z => q (by rw [z]; exact .inr (.inr am))]; exact e, q⟩
      have cr : CellR C.K (ExOf C σ env m2) m2 (upd H2 a (.ext (NDict a (es ++ [(k, u, w)])))) a (.dN (kvs ++ [(k, pd)])) := by
        refine ⟨es ++ [(k, u, w)], ks ++ [vk], vs ++ [vz], upd_same, by rw [List.map_append, List.map_append, x1]; rfl, ?_, ?_, ?_, ?_⟩
        · rw [List.map_append]
          exact x2.append (.cons ru .nil)
        · rw [List.map_append]
          exact x3.append (.cons rw' .nil)
        · rw [List.map_append]
          exact (x4.mono kp ⟨[], by simp⟩).append (.cons (kr.mono kp ⟨[], by simp⟩) .nil)
        · rw [List.map_append]
          exact (x5.mono kp ⟨[], by simp⟩).append (.cons (zr.mono kp ⟨[], by simp⟩) .nil)
      obtain ⟨S3, R3⟩ := R2'.mutCell em (List.getElem?_eq_some_iff.mp e2).1 cr
      have zr3 : Rep C.K (ExOf C σ env m2) m2 (upd H2 a (.ext (NDict a (es ++ [(k, u, w)])))) vz pd := zr.mono kp ⟨[], by simp⟩
      exact p m2 vz _ (.val pd) _ ((S1.trans S2).trans S3) R3 zr3 q2⟩
end
section
variable {X : Cx} {W : WX} {o e : Expr} {es : List Expr} {fo : DE} {fs : DA} {apos cpos pos : Pos}
theorem pd_newN : PEd X W (.Dict [] [] pos) dNewN := .of pe_newN se_newN
theorem pd_getN (hu : X.A.units + 65 < cLine) (ho : PEd X W o fo) (ha : PAd X W (e :: es) fs) (hbase : attributeBase o "get" X.env (eval o X.env) = eval o X.env := by rfl)
    (hfew : ((backTo cpos (starEach (e :: es) X.env)).all (fun x => !x.1) && (backToKw cpos (keywordEach [] X.env)).all (fun x => x.1.isSome) && decide ((e :: es).length + ([] : List Keyword).length + (if ([] : List Keyword).isEmpty then 0 else 1) < 30)) = true := by rfl)
    (hline : (apos.endLine == cpos.line) = true := by rfl) (hs : starEach (e :: es) X.env = (false, eval e X.env) :: starEach es X.env := by rfl) (hplain : (backTo cpos (starEach es X.env)).any (·.1) = false := by rfl) :
    PEd X W (.Call (.Attribute o "get" apos) (e :: es) [] cpos) (dGetN fo fs) := .of (pe_bmG tyN_is PySem.F.plainAttrs_dict PySem.F.slot_dict_get PySem.F.type_dict_get (mt_getN hu) ho ha hbase hfew hline hs hplain) (se_getN seE saA)
theorem pd_setdN (hu : X.A.units + 65 < cLine) (ho : PEd X W o fo) (ha : PAd X W (e :: es) fs) (hbase : attributeBase o "setdefault" X.env (eval o X.env) = eval o X.env := by rfl)
    (hfew : ((backTo cpos (starEach (e :: es) X.env)).all (fun x => !x.1) && (backToKw cpos (keywordEach [] X.env)).all (fun x => x.1.isSome) && decide ((e :: es).length + ([] : List Keyword).length + (if ([] : List Keyword).isEmpty then 0 else 1) < 30)) = true := by rfl)
    (hline : (apos.endLine == cpos.line) = true := by rfl) (hs : starEach (e :: es) X.env = (false, eval e X.env) :: starEach es X.env := by rfl) (hplain : (backTo cpos (starEach es X.env)).any (·.1) = false := by rfl) :
    PEd X W (.Call (.Attribute o "setdefault" apos) (e :: es) [] cpos) (dSetdN fo fs) := .of (pe_bmG tyN_is PySem.F.plainAttrs_dict PySem.F.slot_dict_setdefault PySem.F.type_dict_setdefault (mt_setdN hu) ho ha hbase hfew hline hs hplain) (se_setdN seE saA)
end
end PM

namespace PM
open PySem PySem.Spec L2
open PyProof.Rows hiding St

/-! ### xs[::k], k a number above 0 -/
def stepL {α : Type} (k : Nat) (xs : List α) : List α := (sliceRange 0 (xs.length : Int) (k : Int)).filterMap (xs[·]?)
theorem stepL_mem {α : Type} {k : Nat} {xs : List α} {x : α} (m : x ∈ stepL k xs) : x ∈ xs := by
  obtain ⟨i, _, e⟩ := List.mem_filterMap.mp m
  exact List.mem_of_getElem? e
theorem stepL_map {α β : Type} (f : α → β) (k : Nat) (xs : List α) : stepL k (xs.map f) = (stepL k xs).map f := by
  unfold stepL
  rw [List.length_map, List.map_filterMap]
  congr 1
  funext i
  rw [List.getElem?_map]
theorem stepL_len {α : Type} {k : Nat} (hk : 0 < k) (xs : List α) : (stepL k xs).length ≤ xs.length := by
  unfold stepL
  refine Nat.le_trans (List.length_filterMap_le _ _) ?_
  exact sliceRange_length_le 0 xs.length k xs.length (fun _ => ⟨Int.le_refl _, Int.le_refl _⟩) fun z => absurd (show (k : Int) > 0 by omega) z
theorem vals_pick {vs : List V} {us : List Value} (r : Vals vs us) : ∀ is : List Nat, Vals (is.filterMap (vs[·]?)) (is.filterMap (us[·]?))
  | [] => .nil
  | i :: is => by
    rw [List.filterMap_cons, List.filterMap_cons]
    have ih := vals_pick r is
    cases e : vs[i]? with
    | none =>
      rw [Vals.none_of r e]
      exact ih
    | some v =>
      obtain ⟨u, eu, ru⟩ := r.get e
      rw [eu]
      exact .cons ru ih
theorem repL_pick {K : PySem.W.Frag} {Ex : Ad} {m : List Addr} {H : Hp} {vs : List V} {ps : List PV} (r : RepL K Ex m H vs ps) : ∀ is : List Nat, RepL K Ex m H (is.filterMap (vs[·]?)) (is.filterMap (ps[·]?))
  | [] => .nil
  | i :: is => by
    rw [List.filterMap_cons, List.filterMap_cons]
    have ih := repL_pick r is
    cases e : vs[i]? with
    | none =>
      have : ps[i]? = none := by
        rw [List.getElem?_eq_none_iff] at e ⊢
        rw [← r.length]
        exact e
      rw [this]
      exact ih
    | some v =>
      obtain ⟨p, ep, rp⟩ := r.get' e
      rw [ep]
      exact .cons rp ih
def rStep (K : PySem.W.Frag) (k : Nat) : V → Hp → VK → Prop := fun x H Q => ∃ a vs, x = .ref a ∧ SqL K H a vs ∧ ∀ p, H p = none → Q (.ref p) (upd H p (.lst (stepL k vs)))
def gStep (k : Nat) : G1 := fun h x q => ∃ xs, listC h x = some xs ∧ q (.own (stepL k xs))
@[simp ↓] theorem gStep_eq (k : Nat) (h : Hs) (x : SV) (q : SV → Prop) : gStep k h x q = (∃ xs, listC h x = some xs ∧ q (.own (stepL k xs))) := id rfl
theorem us_step {K : PySem.W.Frag} {k : Nat} : UnS K (rStep K k) (gStep k) := fun C m σ H env h x sx q Q' eK R rx ⟨xs, e, hq⟩ p => by
  subst eK
  obtain ⟨a, vs, rfl, h1, q1⟩ := R.list rx e
  refine ⟨a, vs, rfl, h1, fun l n => p.newL R ?_ hq n⟩
  unfold stepL
  rw [q1.length]
  exact repL_pick q1 _
section
variable {X : Cx} {W : WX} {e : Expr} {te : TE} {fe : DE} {k : Nat} {j : Nat} {p2 p3 pos : Pos}
theorem pick_step (its : List Value) (hk : 0 < k) : slicePick its.toArray none none (some (k : Int)) = (stepL k its).toArray := by
  unfold slicePick sliceBounds stepL
  have h0 : (k : Int) > 0 := by omega
  simp only [Option.getD_some, h0, if_true, List.size_toArray]
  congr 2
  funext i
  simp
theorem pe_step (hk : 0 < k) (he : PE X e te) : PE X (.Subscript e (.Slice none none (some (.Constant (.int (k : Int)) j p3)) p2) pos) (tUn (rStep X.K k) te) := by
  refine ⟨fun pins s σ H Q I h => ?_⟩
  refine Subscript_ (thn (he.run pins s σ H _ I h) fun v s1 ⟨x, H1, I1, r1, q1⟩ => ?_)
  refine wpAny_Slice ?_
  rw [evalPart_none]
  refine wpAny_pure ?_
  refine wpAny_pure ?_
  rw [evalPart_some]
  refine thn ((pe_int (X := X) (i := (k : Int)) (j := j) (pos := p3)).run pins s1 σ H1 (fun y H2 => y = .int k ∧ H2 = H1) I1 ⟨rfl, rfl⟩) fun vk s3 ⟨y, H3, I3, rk, e1, e2⟩ => ?_
  subst e1 e2
  obtain ⟨tk, rfl⟩ := rk
  obtain ⟨a, vs, rfl, hx, q⟩ := q1
  cases r1
  have I4 : Inv X pins σ H3 { s3 with heap := s3.heap.push { cls := .type "slice", data := .fields #[.none, .none, .int k tk] } } := I3.kept (t' := s3.toks) fun b ob q => Heap.get?_push_of_some _ q
  obtain ⟨its, r, ht, hz⟩ := I4.list hx
  have hlen := r.length
  show wpAny (model X.prog X.w) X.A (subscriptTail e (.Slice none none _ p2) (.ref a) (.ref s3.heap.objs.size)) (EP X pins σ Q) X.xe { s3 with heap := s3.heap.push { cls := .type "slice", data := .fields #[.none, .none, .int k tk] } }
  refine tail_any (ops := [.ref a, .ref s3.heap.objs.size]) ht.isList.typeIs slot_list_getitem.lookup ?_ (by with_unfolding_all rfl)
  refine wpAny_getItem_list_slice (lo := none) (hi := none) (st := some (k : Int)) ht.isList (Heap.IsSliceOf.new ..) .none .none (.int _ _) (by intro z; have := Option.some.inj z; omega) ?_ (by rw [List.size_toArray] <;> omega)
  rw [pick_step its hk]
  refine ⟨.ref _, _, I4.laid (t' := s3.toks) (o := .lst (stepL k vs)) (fun b ob q => Heap.get?_push_of_some _ q) (Nat.le_refl _) ?_, rfl, q _ (I4.hok.fresh (Nat.le_refl _))⟩
  refine ⟨?_, _, 0, ?_, Heap.get?_push_size _ rfl⟩
  · exact Nat.le_trans (stepL_len hk vs) hz
  · unfold stepL
    rw [hlen]
    exact vals_pick r _
/-- xs[::k] -/
theorem pd_step (k : Nat) (hk : 0 < k) (he : PEd X W e fe) : PEd X W (.Subscript e (.Slice none none (some (.Constant (.int (k : Int)) j p3)) p2) pos) (dUn (gStep k) fe) := .of (pe_step hk he) (se_un us_step seE)
end
end PM

namespace PM
open PySem PySem.Spec L2
open PyProof.Rows hiding St

/-! ### {}, d[k] = v -/
def dNewK : DE := fun _ h Q _ => Q (.val (.ref h.length)) (h ++ [.dK []])
@[simp ↓] theorem dNewK_eq (u0 : Env) (h : Hs) (Q : VQ) (u1 : XQ) : dNewK u0 h Q u1 = Q (.val (.ref h.length)) (h ++ [.dK []]) := id rfl
def putP (kvs : List (L2.Key × PV)) (k : L2.Key) (v : PV) : List (L2.Key × PV) :=
  if (kvs.any fun kv => decide (kv.1 = k)) = true then kvs.map (fun kv => if kv.1 = k then (kv.1, v) else kv) else kvs ++ [(k, v)]
def sSetD (o i e : DE) : DS := fun D env h => e env h (fun v h1 => match v.toVal with
  | some p => o env h1 (fun x h2 => i env h2 (fun y h3 => ∃ n kvs k, x = .val (.ref n) ∧ asKey y = some k ∧ h3[n]? = some (.dK kvs) ∧ kvs.length < sizeLine ∧ D.nx env (h3.set n (.dK (putP kvs k p)))) fun c h => D.ex c env h) fun c h => D.ex c env h
  | none => False) fun c h => D.ex c env h
@[simp ↓] theorem sSetD_eq (o i e : DE) (D : DEnds) (env : Env) (h : Hs) : sSetD o i e D env h = (e env h (fun v h1 => match v.toVal with
  | some p => o env h1 (fun x h2 => i env h2 (fun y h3 => ∃ n kvs k, x = .val (.ref n) ∧ asKey y = some k ∧ h3[n]? = some (.dK kvs) ∧ kvs.length < sizeLine ∧ D.nx env (h3.set n (.dK (putP kvs k p)))) fun c h => D.ex c env h) fun c h => D.ex c env h
  | none => False) fun c h => D.ex c env h) := id rfl
section
variable {K : PySem.W.Frag} {W : WX} {C : Ctx} {m : List Addr} {σ : St} {env : Env} {H : Hp} {h : Hs}
theorem se_newK : SE K W tDNewK dNewK := ⟨fun C m σ H env h Q E Q' eK R hf p px => by
  intro a na
  obtain ⟨S0, R0⟩ := R.allocC (a := a) (c := .dK []) (o := .dK []) na fun Ex => ⟨[], upd_same, rfl, .nil⟩
  refine p _ _ _ (.val (.ref h.length)) _ S0 R0 (.ref ?_) hf
  rw [← R.hm.len, List.getElem?_append_right (Nat.le_refl _)]
  simp⟩
theorem any_keys {k : L2.Key} : ∀ {vs : List (L2.Key × V)} {kvs : List (L2.Key × PV)}, vs.map (·.1) = kvs.map (·.1) → (vs.any fun kv => decide (kv.1 = k)) = (kvs.any fun kv => decide (kv.1 = k))
  | [], [], _ => rfl
  | [], _ :: _, e => by simp at e
  | _ :: _, [], e => by simp at e
  | a :: vs, b :: kvs, e => by
    simp only [List.map_cons, List.cons.injEq] at e
    rw [List.any_cons, List.any_cons, any_keys e.2, e.1]
theorem put_rep {Ex : Ad} {k : L2.Key} {v : V} {p : PV} (rv : Rep K Ex m H v p) {vs : List (L2.Key × V)} {kvs : List (L2.Key × PV)} (ek : vs.map (·.1) = kvs.map (·.1)) (rl : RepL K Ex m H (vs.map (·.2)) (kvs.map (·.2))) :
    (putK vs k v).map (·.1) = (putP kvs k p).map (·.1) ∧ RepL K Ex m H ((putK vs k v).map (·.2)) ((putP kvs k p).map (·.2)) := by
  unfold putK putP
  rw [any_keys ek]
  by_cases q : (kvs.any fun kv => decide (kv.1 = k)) = true
  · rw [if_pos q, if_pos q]
    have aux : ∀ {vs : List (L2.Key × V)} {kvs : List (L2.Key × PV)}, vs.map (·.1) = kvs.map (·.1) → RepL K Ex m H (vs.map (·.2)) (kvs.map (·.2)) →
        (vs.map fun kv => if kv.1 = k then (kv.1, v) else kv).map (·.1) = (kvs.map fun kv => if kv.1 = k then (kv.1, p) else kv).map (·.1) ∧ RepL K Ex m H ((vs.map fun kv => if kv.1 = k then (kv.1, v) else kv).map (·.2)) ((kvs.map fun kv => if kv.1 = k then (kv.1, p) else kv).map (·.2)) := by
      intro vs
      induction vs with
      | nil =>
        intro kvs e _
        cases kvs with
        | nil => exact ⟨rfl, .nil⟩
        | cons => simp at e
      | cons a vs ih =>
        intro kvs e r
        cases kvs with
        | nil => simp at e
        | cons b kvs =>
          simp only [List.map_cons, List.cons.injEq] at e r
          cases r with
          | cons r1 r2 =>
            obtain ⟨i1, i2⟩ := ih e.2 r2
            simp only [List.map_cons]
            by_cases z : a.1 = k
            · rw [if_pos z, if_pos (e.1 ▸ z)]
              exact ⟨by rw [i1, e.1], .cons rv i2⟩
            · rw [if_neg z, if_neg (fun w => z (e.1.trans w))]
              exact ⟨by rw [i1, e.1], .cons r1 i2⟩
    exact aux ek rl
  · rw [if_neg q, if_neg q]
    refine ⟨by simp [ek], ?_⟩
    rw [List.map_append, List.map_append]
    exact rl.append (.cons rv .nil)
theorem ss_setD {to ti te : TE} {fo fi fe : DE} (ho : SE K W to fo) (hi : SE K W ti fi) (he : SE K W te fe) : SS K W (sDPut to ti te) (sSetD fo fi fe) := ⟨fun C m σ H env h Df D eK R hf p => by
  refine he.run C m σ H env h _ _ _ eK R hf (fun m1 y H1 sy h1 S1 R1 r1 q1 => ?_) p.px
  split at q1
  · rename_i pv ep
    have ry := R.toVal r1 ep
    refine ho.run C m1 σ H1 env h1 _ _ _ eK R1.drop q1 (fun m2 x H2 sx h2 S2 R2 r2 q2 => ?_) p.px
    refine hi.run (C.own x sx) m2 σ H2 env h2 _ _ _ ((C.own_K x sx).trans eK) R2 q2 (fun m3 j H3 sj h3 S3 R3 r3 q3 => ?_) (p.px.own)
    obtain ⟨n, kvs, k, rfl, ek, e3, lz, q3⟩ := q3
    have rk := asKey_v r3 ek
    subst rk
    have rx := r2.step S3 (N' := fun _ => True) fun _ _ => trivial
    obtain ⟨a, rfl, ea, vs, hv, ekk, rl⟩ := R3.drop.drop.cellAt (show Rep C.K (ExOf C σ env m3) m3 H3 x (.ref n) from rx) e3
    have ry3 : Rep C.K (ExOf C σ env m3) m3 H3 y pv := Rep.mono (R1.drop.kp (S2.trans S3)) (S2.trans S3).ex' ry
    have am : a ∈ m3 := List.mem_of_getElem? ea
    have kp : ∀ o, Kp (ExOf C σ env m3) H3 (ExOf C σ env m3) (upd H3 a o) := fun o b u e q => ⟨by rw [upd_ne fun z => q (by rw [z]; exact .inr (.inr am))]; exact e, q⟩
    obtain ⟨pk, pr⟩ := put_rep (k := k) ry3 ekk rl
    have lv := congrArg List.length ekk
    simp only [List.length_map] at lv
    obtain ⟨_, R4⟩ := R3.drop.drop.mutCell (o := .dK (putK vs k y)) ea (List.getElem?_eq_some_iff.mp e3).1 (c' := .dK (putP kvs k pv)) ⟨_, upd_same, pk, pr.mono (kp _) ⟨[], by simp⟩⟩
    exact ⟨a, _, rfl, DPut.k hv (by omega), p.nx m3 σ _ env _ R4 q3⟩
  · exact q1.elim⟩
end
section
variable {X : Cx} {W : WX} {o i e : Expr} {fo fi fe : DE} {pos tpos : Pos}
theorem pd_newK : PEd X W (.Dict [] [] pos) dNewK := .of pe_dnewK se_newK
theorem psd_setD (hu : X.A.units + 65 < cLine) (ho : PEd X W o fo) (hi : PEd X W i fi) (he : PEd X W e fe) (hs : swapsWith e (some (.Subscript o i tpos)) pos.line X.env = pure false := by rfl) : PSd X W (.Assign [.Subscript o i tpos] e pos) (sSetD fo fi fe) := .of (ps_dput (by omega) ho hi he hs) (ss_setD seE seE seE)
end
end PM

namespace PM
open PySem PySem.Spec L2
open PyProof.Rows hiding St

/-! ### for k in d, d a name: the dict is locked meanwhile -/
def dItK (i : Nat) : DI := fun env h Q _ => ∃ n o us kvs, env[i]? = some (some (.val (.ref n))) ∧ h[n]? = some (.lkK o us kvs) ∧ Q (kvs.map fun x => kP x.1) (fun h => h[n]? = some (.lkK o us kvs)) h
def lkEnds (n : Nat) (o : Obj) (us : List (L2.Key × V)) (kvs : List (L2.Key × PV)) (D : DEnds) : DEnds := { nx := fun env h => h[n]? = some (.lkK o us kvs) ∧ D.nx env (h.set n (.dK kvs)), rt := fun _ _ => False }
@[simp] theorem lkEnds_nx (n : Nat) (o : Obj) (us : List (L2.Key × V)) (kvs : List (L2.Key × PV)) (D : DEnds) (env : Env) (h : Hs) : (lkEnds n o us kvs D).nx env h = (h[n]? = some (.lkK o us kvs) ∧ D.nx env (h.set n (.dK kvs))) := rfl
def sForK (i : Nat) (bd : DB) (b : DS) : DS := fun D env h => ∃ n kvs, env[i]? = some (some (.val (.ref n))) ∧ h[n]? = some (.dK kvs) ∧ ∀ (o : Obj) (us : List (L2.Key × V)),
  forL (fun h => h[n]? = some (.lkK o us kvs)) bd b (lkEnds n o us kvs D) (kvs.map fun x => kP x.1) env (h.set n (.lkK o us kvs))
@[simp ↓] theorem sForK_eq (i : Nat) (bd : DB) (b : DS) (D : DEnds) (env : Env) (h : Hs) : sForK i bd b D env h = (∃ n kvs, env[i]? = some (some (.val (.ref n))) ∧ h[n]? = some (.dK kvs) ∧ ∀ (o : Obj) (us : List (L2.Key × V)),
  forL (fun h => h[n]? = some (.lkK o us kvs)) bd b (lkEnds n o us kvs D) (kvs.map fun x => kP x.1) env (h.set n (.lkK o us kvs))) := id rfl
section
variable {K : PySem.W.Frag} {W : WX}
theorem rep_keyP {Ex : Ad} {m : List Addr} {H : Hp} (k : L2.Key) : Rep K Ex m H (kV k) (kP k) := by
  cases k with
  | inl i => exact .int i
  | inr x => exact .str x
theorem si_itK (i : Nat) : SI K W (iKeys (tVar i)) (dItK i) := ⟨fun C m σ H env h Q E Q' eK R hf p _ => by
  obtain ⟨n, o, us, kvs, ei, en, q⟩ := hf
  obtain ⟨v, s0, sl⟩ := R.slot i _ ei
  have rv : Rep C.K (ExOf C σ env m) m H v (.ref n) := sl.1
  obtain ⟨a, rfl, ea, hH, ek, rl⟩ := R.cellAt rv en
  refine ⟨_, s0, a, o, rfl, .inl ⟨us, hH, ?_⟩⟩
  refine p { C with pins := (V.ref a, SV.val (.ref n)) :: C.pins } m _ H _ _ h ⟨rfl, rfl, rfl, fun _ q => q, fun _ q => q, fun p hp => List.mem_cons_of_mem _ hp⟩ (.refl m H) (R.pinned sl rfl) ?_ q
  intro C2 m2 σ2 H2 env2 h2 eK2 lp R2 hc j
  obtain ⟨a', e1, e2, hH2, _⟩ := R2.cellAt (R2.pin _ (lp _ List.mem_cons_self)).1.1 hc
  cases e1
  have lk := congrArg List.length ek
  simp only [List.length_map] at lk
  refine ⟨fun pv f => ?_, fun l => ⟨hH2, by rw [List.length_map] at l; omega⟩⟩
  have lj : j < us.length := by
    have := (List.getElem?_eq_some_iff.mp f).1
    rw [List.length_map] at this
    omega
  refine ⟨⟨hH2, lj⟩, fun x H3 ⟨e3, k, u, e4, e5⟩ => ?_⟩
  subst e3 e5
  refine ⟨Same.refl _, ?_⟩
  have f1 : (us.map (·.1))[j]? = some k := by rw [List.getElem?_map, e4]; rfl
  rw [ek, List.getElem?_map, Option.map_eq_some_iff] at f1
  obtain ⟨y, hy, rfl⟩ := f1
  rw [List.getElem?_map, hy] at f
  cases f
  exact rep_keyP _⟩
theorem ss_forK {g : TG} {tb : TS} {vs : List Nat} {bd : DB} {f : DS} (i : Nat) (hg : SG K vs g bd) (hb : SS K W tb f) : SS K W (tLock (tFor (iKeys (tVar i)) g tb)) (sForK i bd f) := ⟨fun C m σ H env h Df D eK R hf p => by
  obtain ⟨n, kvs, ei, en, hall⟩ := hf
  obtain ⟨v, s0, sl⟩ := R.slot i _ ei
  have rv : Rep C.K (ExOf C σ env m) m H v (.ref n) := sl.1
  obtain ⟨a, rfl, ea, us, hH, ek, rl⟩ := R.cellAt rv en
  refine ⟨a, .dK us, hH, True.intro, fun od => ?_⟩
  have am : a ∈ m := List.mem_of_getElem? ea
  have kp : ∀ {C : Ctx} {σ : St} {env : Env} {m : List Addr} {H : Hp} (o : HO), a ∈ m → Kp (ExOf C σ env m) H (ExOf C σ env m) (upd H a o) := fun o am b u e q => ⟨by rw [upd_ne fun z => q (by rw [z]; exact .inr (.inr am))]; exact e, q⟩
  obtain ⟨S1, R1⟩ := R.mutCell (o := .frz od (.dK us)) ea (List.getElem?_eq_some_iff.mp en).1 (c' := .lkK od us kvs) ⟨upd_same, ek, rl.mono (kp _ am) ⟨[], by simp⟩⟩
  have sl1 : SlotR C σ env m (upd H a (.frz od (.dK us))) (.ref a) (.val (.ref n)) := ⟨Rep.mono (R.kp S1) S1.ex' rv, trivial⟩
  have R2 := R1.pinned sl1 rfl
  have le : CtxLe C { C with pins := (V.ref a, SV.val (.ref n)) :: C.pins } := ⟨rfl, rfl, rfl, fun _ q => q, fun _ q => q, fun p hp => List.mem_cons_of_mem _ hp⟩
  have ln : n < h.length := (List.getElem?_eq_some_iff.mp en).1
  have hf : sFor (dItK i) bd f (lkEnds n od us kvs Df) env (h.set n (.lkK od us kvs)) := by
    rw [sFor_eq]
    exact ⟨n, od, us, kvs, ei, by rw [List.getElem?_set_self ln], hall od us⟩
  refine (ss_for (si_itK i) hg hb).run { C with pins := (V.ref a, SV.val (.ref n)) :: C.pins } m σ _ env _ _ _ eK R2 hf ⟨fun m' σ' H' env' h' R' q => ?_, fun _ _ _ _ _ _ q => q.elim, fun _ _ _ _ _ _ q => q.elim, fun _ _ _ _ _ _ _ _ _ _ q => q.elim, fun _ _ _ _ _ _ _ q => q.elim⟩
  obtain ⟨q1, q2⟩ := q
  obtain ⟨a', e1, e2, hH2, ek2, rl2⟩ := R'.cellAt (R'.pin _ List.mem_cons_self).1.1 q1
  cases e1
  refine ⟨hH2, ?_⟩
  have am2 : a ∈ m' := List.mem_of_getElem? e2
  obtain ⟨_, R3⟩ := R'.mutCell (o := .dK us) e2 (List.getElem?_eq_some_iff.mp q1).1 (c' := .dK kvs) ⟨us, upd_same, ek2, rl2.mono (kp _ am2) ⟨[], by simp⟩⟩
  exact p.nx m' σ' _ env' _ (R3.back le) q2⟩
/-- d[k] of a locked dict -/
def dDgetL (a b : DE) : DE := fun env h Q E => a env h (fun x h1 => b env h1 (fun y h2 => ∃ n o us kvs k p, x = .val (.ref n) ∧ h2[n]? = some (.lkK o us kvs) ∧ asKey y = some k ∧ valP kvs k = some p ∧ Q (.val p) h2) E) E
@[simp ↓] theorem dDgetL_eq (a b : DE) (env : Env) (h : Hs) (Q : VQ) (E : XQ) : dDgetL a b env h Q E = (a env h (fun x h1 => b env h1 (fun y h2 => ∃ n o us kvs k p, x = .val (.ref n) ∧ h2[n]? = some (.lkK o us kvs) ∧ asKey y = some k ∧ valP kvs k = some p ∧ Q (.val p) h2) E) E) := id rfl
theorem se_dgetL {ta tb : TE} {fa fb : DE} (ha : SE K W ta fa) (hb : SE K W tb fb) : SE K W (tDGet ta tb) (dDgetL fa fb) := ⟨fun C m σ H env h Q E Q' eK R hf p px => by
  refine ha.run C m σ H env h _ E _ eK R hf (fun m1 x H1 sx h1 S1 R1 r1 q1 => ?_) px
  refine hb.run (C.own x sx) m1 σ H1 env h1 _ E _ ((C.own_K x sx).trans eK) R1 q1 (fun m2 y H2 sy h2 S2 R2 r2 q2 => ?_) (px.go S1).own
  obtain ⟨n, o, us, kvs, k, pv, rfl, e1, e2, e3, q2⟩ := q2
  have ry := asKey_v r2 e2
  subst ry
  have rx := r1.step S2 (N' := fun _ => True) fun _ _ => trivial
  obtain ⟨a, rfl, ea, hv, ek, rl⟩ := R2.drop.drop.cellAt (show Rep C.K (ExOf C σ env m2) m2 H2 x (.ref n) from rx) e1
  rcases find_rep ek rl k with ⟨v, p', f1, f2, f3⟩ | ⟨_, f2⟩
  · rw [e3] at f2
    cases f2
    refine ⟨a, v, rfl, f1 ▸ .inl ⟨us, k, .inr ⟨o, hv⟩, rfl, rfl⟩, ?_⟩
    exact p m2 v H2 (.val pv) h2 (S1.trans S2) R2.drop.drop f3 q2
  · rw [e3] at f2
    cases f2⟩
end
section
variable {X : Cx} {W : WX} {a b : Expr} {fa fb : DE} {pos : Pos} {f : DS} {s1 : List Stmt}
theorem pd_dgetL (hu : X.A.units + 65 < cLine) (ho : PEd X W a fa) (he : PEd X W b fb) (hs : NoSl b := by intro _ _; rfl) : PEd X W (.Subscript a b pos) (dDgetL fa fb) := .of (pe_dget (by omega) ho he hs) (se_dgetL seE seE)
theorem psd_forK (i : Nat) {x : Str} {p : Pos} {tg : Expr} {vs : List Nat} {bd : DB} (hp : PassesOwn (model X.prog X.w) X.A X.env X.xe) (hc : X.calm = true) (hg : PGd X vs tg bd) (hb : PSsd X W s1 f) (hN : X.N[i]? = some x := by rfl) (hv : Vis X.env.scope x := by first | exact Or.inl rfl | exact Or.inr (Or.inl rfl) | exact Or.inr (Or.inr rfl)) (hd : (x == ("__debug__" : Str)) = false := by decide)
    (hcd : (x == ("__classdict__" : Str)) = false := by decide) (hs : ∀ y, foldedSetIterable (.Name x p) X.env y = pure y := by intro _; rfl) : PSd X W (.For tg (.Name x p) s1 [] pos) (sForK i bd f) := by
  obtain ⟨g, h1, h2⟩ := hg.ok
  exact .of (ps_lock (ps_for hp hc (pi_keys (pe_var hN hv hd hcd)) h1 hb hs)) (ss_forK i h2 ssS)
end
end PM

namespace PM
open PySem PySem.Spec L2
open PyProof.Rows hiding St

/-! ### == and != of two dicts of data -/
def dkEq (ks ls : List (L2.Key × PV)) : Bool := ks.length == ls.length && ks.all fun p => match valP ls p.1 with
  | some q => pyEq p.2 q
  | none => false
/-- the values of a dict are data -/
def DkV (K : PySem.W.Frag) (H : Hp) (vs : List (L2.Key × V)) (kvs : List (L2.Key × PV)) : Prop := vs.map (·.1) = kvs.map (·.1) ∧ Paired (fun (v : V) (p : PV) => Dp K H v p.py ∧ SeqAt.shaped p.py = true) (vs.map (·.2)) (kvs.map (·.2))
def rEqK (K : PySem.W.Frag) (ne : Bool) : R2 := fun x y H Q => ∃ a b vs us ks ls, x = .ref a ∧ y = .ref b ∧ H a = some (.dK vs) ∧ H b = some (.dK us) ∧ DkV K H vs ks ∧ DkV K H us ls ∧ Q (.bl (if ne then !dkEq ks ls else dkEq ks ls)) H
section
variable {X : Cx} {pins : List (Addr × Obj)} {σ : St} {H : Hp} {s : Shared}
theorem dkv_val {us : List (L2.Key × V)} {ls : List (L2.Key × PV)} (h : DkV X.K H us ls) (k : L2.Key) : (∃ u q, valV us k = some u ∧ valP ls k = some q ∧ Dp X.K H u q.py ∧ SeqAt.shaped q.py = true) ∨ (valV us k = none ∧ valP ls k = none) := by
  obtain ⟨e, p⟩ := h
  have aux : ∀ {us : List (L2.Key × V)} {ls : List (L2.Key × PV)}, us.map (·.1) = ls.map (·.1) → Paired (fun (v : V) (p : PV) => Dp X.K H v p.py ∧ SeqAt.shaped p.py = true) (us.map (·.2)) (ls.map (·.2)) → (∃ u q, valV us k = some u ∧ valP ls k = some q ∧ Dp X.K H u q.py ∧ SeqAt.shaped q.py = true) ∨ (valV us k = none ∧ valP ls k = none) := by
    intro us
    induction us with
    | nil =>
      intro ls e _
      cases ls with
      | nil => exact .inr ⟨rfl, rfl⟩
      | cons => simp at e
    | cons a us ih =>
      intro ls e r
      cases ls with
      | nil => simp at e
      | cons b ls =>
        simp only [List.map_cons, List.cons.injEq] at e r
        cases r with
        | cons r1 r2 =>
          by_cases q : a.1 = k
          · exact .inl ⟨a.2, b.2, by rw [valV_pos q], by simp [valP, List.find?_cons, ← e.1, q], r1.1, r1.2⟩
          · have := ih e.2 r2
            rw [valV_neg q]
            have q' : ¬ b.1 = k := fun z => q (e.1.trans z)
            simpa [valP, List.find?_cons, q'] using this
  exact aux e p
theorem dk_hits (I : Inv X pins σ H s) {A : Around} (hu : A.in1.units + 64 < cLine) {us : List (L2.Key × V)} {ls : List (L2.Key × PV)} {ub : List (L2.Key × Value)} (hb : DkV X.K H us ls) (rb : KV us ub) : ∀ {vs : List (L2.Key × V)} {ks : List (L2.Key × PV)} {va : List (L2.Key × Value)}, KV vs va → vs.map (·.1) = ks.map (·.1) → Paired (fun (v : V) (p : PV) => Dp X.K H v p.py ∧ SeqAt.shaped p.py = true) (vs.map (·.2)) (ks.map (·.2)) →
    PySem.W.KeqHits A.in1 s ub va (ks.all fun p => match valP ls p.1 with
      | some q => pyEq p.2 q
      | none => false) := by
  intro vs
  induction vs with
  | nil =>
    intro ks va ra e _
    cases ra
    cases ks with
    | nil => exact .nil
    | cons => simp at e
  | cons a vs ih =>
    intro ks va ra e p
    cases ks with
    | nil => simp at e
    | cons b ks =>
      simp only [List.map_cons, List.cons.injEq] at e p
      cases ra with
      | @cons _ c _ vc h1 h2 =>
        cases p with
        | cons p1 p2 =>
          obtain ⟨c1, c2⟩ := c
          have ek : a.1 = c1 := h1.1
          have rv : RelV a.2 c2 := h1.2
          have ih := ih h2 e.2 p2
          rw [List.all_cons]
          have rr := rb.val b.1
          rcases dkv_val hb b.1 with ⟨u, q, f1, f2, f3, f4⟩ | ⟨f1, f2⟩
          · rw [f1] at rr
            obtain ⟨y, hy, ry⟩ := rr.some_of
            rw [f2]
            obtain ⟨as, r1⟩ := Dp.reads I _ a.2 c2 p1.1 rv
            obtain ⟨bs, r2⟩ := Dp.reads I _ u y f3 ry
            exact .hit (by rw [← ek, e.1]; exact hy) (PySem.W.keq_at r1 r2 p1.2 f4 hu) ih
          · rw [f1] at rr
            have hn : valueAt ub b.1 = none := by
              cases z : valueAt ub b.1 with
              | none => rfl
              | some y =>
                rw [z] at rr
                exact (show False from rr).elim
            rw [f2, Bool.false_and]
            exact .miss (by rw [← ek, e.1]; exact hn)
theorem op_eqK (hu : X.A.units + 66 < cLine) : OpR X (compareOp .Eq) (rEqK X.K false) := by
  intro pins s σ H x y v u Q I rx ry h
  obtain ⟨a, b, vs, us, ks, ls, rfl, rfl, ha, hb, dv, du, q⟩ := h
  cases (show v = Value.ref a from rx)
  cases (show u = Value.ref b from ry)
  obtain ⟨_, ya, va, ra, da⟩ := dk_of I.hok ha
  obtain ⟨_, yb, vb, rb, db⟩ := dk_of I.hok hb
  have e1 : va.length = ks.length := by
    have := congrArg List.length dv.1
    simp only [List.length_map] at this
    rw [← ra.length, this]
  have e2 : vb.length = ls.length := by
    have := congrArg List.length du.1
    simp only [List.length_map] at this
    rw [← rb.length, this]
  refine PySem.W.keq_eq (knd := mixKind X.prog X.w) ya yb da db (by omega) (fun _ => dk_hits I (by simp only [Around.in1_units]; omega) du rb ra dv.1 dv.2) ⟨.bl (dkEq ks ls), H, I, ?_, q⟩
  show Value.bool _ = Value.bool _
  unfold dkEq
  rw [e1, e2]
theorem op_neK (hu : X.A.units + 66 < cLine) : OpR X (compareOp .NotEq) (rEqK X.K true) := by
  intro pins s σ H x y v u Q I rx ry h
  obtain ⟨a, b, vs, us, ks, ls, rfl, rfl, ha, hb, dv, du, q⟩ := h
  cases (show v = Value.ref a from rx)
  cases (show u = Value.ref b from ry)
  obtain ⟨_, ya, va, ra, da⟩ := dk_of I.hok ha
  obtain ⟨_, yb, vb, rb, db⟩ := dk_of I.hok hb
  have e1 : va.length = ks.length := by
    have := congrArg List.length dv.1
    simp only [List.length_map] at this
    rw [← ra.length, this]
  have e2 : vb.length = ls.length := by
    have := congrArg List.length du.1
    simp only [List.length_map] at this
    rw [← rb.length, this]
  refine PySem.W.keq_ne (knd := mixKind X.prog X.w) ya yb da db (by omega) (fun _ => dk_hits I (by simp only [Around.in1_units]; omega) du rb ra dv.1 dv.2) ⟨.bl (!dkEq ks ls), H, I, ?_, q⟩
  show Value.bool _ = Value.bool _
  unfold dkEq
  rw [e1, e2]
end
def gEqK (ne : Bool) : G2 := fun h x y q => ∃ m n ks ls, x = .val (.ref m) ∧ y = .val (.ref n) ∧ h[m]? = some (.dK ks) ∧ h[n]? = some (.dK ls) ∧ (∀ p ∈ ks, p.2.okD = true) ∧ (∀ p ∈ ls, p.2.okD = true) ∧ q (.val (.bl (if ne then !dkEq ks ls else dkEq ks ls)))
@[simp ↓] theorem gEqK_eq (ne : Bool) (h : Hs) (x y : SV) (q : SV → Prop) : gEqK ne h x y q = (∃ m n ks ls, x = .val (.ref m) ∧ y = .val (.ref n) ∧ h[m]? = some (.dK ks) ∧ h[n]? = some (.dK ls) ∧ (∀ p ∈ ks, p.2.okD = true) ∧ (∀ p ∈ ls, p.2.okD = true) ∧ q (.val (.bl (if ne then !dkEq ks ls else dkEq ks ls)))) := id rfl
section
variable {K : PySem.W.Frag}
theorem os_eqK {ne : Bool} : OpS K (rEqK K ne) (gEqK ne) := fun C m σ H env h x y sx sy q Q' eK R rx ry hg p => by
  subst eK
  obtain ⟨i, j, ks, ls, rfl, rfl, e1, e2, o1, o2, hq⟩ := hg
  obtain ⟨a, rfl, _, vs, ha, ka, ra⟩ := R.cellAt (show Rep C.K (ExOf C σ env m) m H x (.ref i) from rx) e1
  obtain ⟨b, rfl, _, us, hb, kb, rb⟩ := R.cellAt (show Rep C.K (ExOf C σ env m) m H y (.ref j) from ry) e2
  have all : ∀ {vs : List (L2.Key × V)} {ks : List (L2.Key × PV)}, vs.map (·.1) = ks.map (·.1) → RepL C.K (ExOf C σ env m) m H (vs.map (·.2)) (ks.map (·.2)) → (∀ p ∈ ks, p.2.okD = true) → DkV C.K H vs ks := fun {vs ks} e r o => by
    refine ⟨e, ?_⟩
    have aux : ∀ {vs : List V} {ps : List PV}, RepL C.K (ExOf C σ env m) m H vs ps → (∀ p ∈ ps, p.okD = true) → Paired (fun (v : V) (p : PV) => Dp C.K H v p.py ∧ SeqAt.shaped p.py = true) vs ps := by
      intro vs
      induction vs with
      | nil => intro ps r _; cases r; exact .nil
      | cons v vs ih =>
        intro ps r o
        cases r with
        | @cons _ p _ ps r1 r2 =>
          have op := o p List.mem_cons_self
          unfold PV.okD at op
          rw [Bool.and_eq_true] at op
          exact .cons ⟨R.dp (sv := .val p) r1 (by
            cases p <;> first | rfl | exact absurd op.1 Bool.false_ne_true) op.1, op.2⟩ (ih r2 fun x mx => o x (List.mem_cons_of_mem _ mx))
    refine aux r fun p mp => ?_
    obtain ⟨x, mx, rfl⟩ := List.mem_map.mp mp
    exact o x mx
  exact ⟨a, b, vs, us, ks, ls, rfl, rfl, ha, hb, all ka ra o1, all kb rb o2, p.bl R hq⟩
end
theorem u66 {k : Nat} {A : Around} (r : Room k A) : A.units + 66 < cLine := by
  have := r.un
  omega
section
variable {X : Cx}
theorem cd_eqK (hu : X.A.units + 66 < cLine) : CmpD X .Eq (gEqK false) := ⟨_, op_eqK hu, os_eqK⟩
theorem cd_neK (hu : X.A.units + 66 < cLine) : CmpD X .NotEq (gEqK true) := ⟨_, op_neK hu, os_eqK⟩
end
end PM

namespace PM
open PySem PySem.Spec L2
open PyProof.Rows hiding St
variable {K : PySem.W.Frag}
def tabsC (ts : List (Addr × Str)) : Hs := ts.map fun p => .tab p.1 p.2
/-- the law's beginning: the script and empty tables -/
theorem law_startTs {H : Hp} {a : Addr} {ts : List (Addr × Str)} {ns : List Int} {d : DF} {E : XK} (nd : (ts.map (·.1)).Nodup) (hT : ∀ p ∈ ts, H p.1 = some (.tbl #[])) (hS : SqL K H a (ns.map V.int)) (hd : d [.scr ns] (tabsC ts) (fun sv _ => sv = .val (.bl true)) fun _ _ => False) : spD K 1 d [.ref a] H (fun v _ => v = .bl true) E := by
  have no : ∀ {b : Addr}, ¬ OwnAt [some (V.ref a)] [some (SV.scr ns)] b := fun {b} ⟨i, xs, e, _⟩ => by
    cases i with
    | zero => cases e
    | succ i => simp at e
  refine ⟨rfl, fun _ => False, ts.map (·.1), tabsC ts, [.scr ns], _, ⟨rfl, fun i sv e => ?_, fun p hp => (nomatch hp), fun i j xs ys a e1 _ s1 _ => absurd ⟨i, xs, e1, s1⟩ no, ⟨by simp [tabsC], nd, fun n a c e f => ?_⟩, fun b o e _ => e, fun b q => q, ⟨[], (List.append_nil _).symm, by simp⟩, fun b q => q.elim False.elim False.elim, fun b q => q.elim False.elim False.elim⟩, hd, fun m' v H' sv h' _ _ r q => ?_⟩
  · cases i with
    | zero =>
      cases e
      refine ⟨.ref a, rfl, ⟨a, rfl, ?_⟩, fun b _ => .inr ⟨no, fun q => q⟩⟩
      rcases hS with hS | hS
      · refine .inl ⟨hS, fun z => ?_⟩
        obtain ⟨p, mp, ep⟩ := List.mem_map.mp z
        have := hT p mp
        rw [ep] at this
        rcases hS with hS | ⟨o, hS⟩ <;> rw [this] at hS <;> cases hS
      · exact .inr fun H' => .inr hS
    | succ i => simp at e
  · rw [List.getElem?_map, Option.map_eq_some_iff] at e
    unfold tabsC at f
    rw [List.getElem?_map, Option.map_eq_some_iff] at f
    obtain ⟨p, e1, rfl⟩ := e
    obtain ⟨p', e2, rfl⟩ := f
    rw [e1] at e2
    cases e2
    exact ⟨rfl, #[], hT p (List.mem_of_getElem? e1), trivial, fun pos cv w => nomatch w⟩
  · subst q
    cases r
    rfl
theorem lawAt2 {l : PySem.W.OpenLaw} {w : World} {k n : Nat} {x q1 q2 : Str} {mg : Str → Option Value} {fa c1 P1 c2 P2 : Addr} {h : Heap} {d : DF}
    (z : ∃ fd : FuncData, (∀ (s : Shared) (v : Value), BindsTo s fd ⟨[v], []⟩ [(x, v)]) ∧ ∀ base : Heap, K.In base → base.Ns mainGlobals mg → (∀ p ∈ ([(c1, P1), (c2, P2)] : List (Addr × Addr)), LamX.TabB base mg p.1 p.2) → FnOk l.prog w K mg base CX0 k fa fd [x] (spD K 1 d))
    (t1 : PySem.W.CodeHd h c1 P1 ∧ h.get? P1 = some (PySem.W.tabObj #[])) (t2 : PySem.W.CodeHd h c2 P2 ∧ h.get? P2 = some (PySem.W.tabObj #[])) (nT1 : K.lookup P1 = none) (nT2 : K.lookup P2 = none) (ne : P1 ≠ P2)
    (hd : ∀ ns : List Int, ns.length ≤ n → d [.scr ns] [.tab P1 q1, .tab P2 q2] (fun sv _ => sv = .val (.bl true)) fun _ _ => False) : LamX.LawAtS l w K CX0 k n x mg fa h := by
  obtain ⟨fd, z1, z2⟩ := z
  have two : ∀ {R : Addr × Addr → Prop}, R (c1, P1) → R (c2, P2) → ∀ p ∈ ([(c1, P1), (c2, P2)] : List (Addr × Addr)), R p := fun a b p hp => by
    rcases List.mem_cons.mp hp with rfl | hp
    · exact a
    · rw [List.mem_singleton.mp hp]
      exact b
  refine ⟨fd, [(c1, P1), (c2, P2)], spD K 1 d, two t1.2 t2.2, two nT1 nT2, two t1.1 t2.1, z1, fun H a ns hl _ hT hS => law_startTs (ts := [(P1, q1), (P2, q2)]) (by simpa using ne) (fun p hp => ?_) hS (hd ns hl), z2⟩
  rcases List.mem_cons.mp hp with rfl | hp
  · exact hT (c1, P1) (by simp)
  · rw [List.mem_singleton.mp hp]
    exact hT (c2, P2) (by simp)
end PM

namespace PM
open PySem PySem.Spec L2
open PyProof.Rows hiding St

/-! ### instances: o.f, o.f = e, o.m(..), C(..) -/
def lookF (f : Str) (fs : List (Str × PV)) : Option PV := List.lookup f fs
def putFP (f : Str) (p : PV) : List (Str × PV) → List (Str × PV)
  | [] => [(f, p)]
  | kv :: fs => if kv.1 = f then (kv.1, p) :: fs else (kv.1, kv.2) :: putFP f p fs
def dFld (C : Addr) (a : DE) (f : Str) : DE := fun env h Q E => a env h (fun x h1 => ∃ n fs p, x = .val (.ref n) ∧ h1[n]? = some (.ins C fs) ∧ lookF f fs = some p ∧ Q (.val p) h1) E
@[simp ↓] theorem dFld_eq (C : Addr) (a : DE) (f : Str) (env : Env) (h : Hs) (Q : VQ) (E : XQ) : dFld C a f env h Q E = (a env h (fun x h1 => ∃ n fs p, x = .val (.ref n) ∧ h1[n]? = some (.ins C fs) ∧ lookF f fs = some p ∧ Q (.val p) h1) E) := id rfl
def sFldS (C : Addr) (o e : DE) (f : Str) : DS := fun D env h => e env h (fun v h1 => match v.toVal with
  | some p => o env h1 (fun x h2 => ∃ n fs, x = .val (.ref n) ∧ h2[n]? = some (.ins C fs) ∧ fs.length < 1000 ∧ D.nx env (h2.set n (.ins C (putFP f p fs)))) fun c h => D.ex c env h
  | none => False) fun c h => D.ex c env h
@[simp ↓] theorem sFldS_eq (C : Addr) (o e : DE) (f : Str) (D : DEnds) (env : Env) (h : Hs) : sFldS C o e f D env h = (e env h (fun v h1 => match v.toVal with
  | some p => o env h1 (fun x h2 => ∃ n fs, x = .val (.ref n) ∧ h2[n]? = some (.ins C fs) ∧ fs.length < 1000 ∧ D.nx env (h2.set n (.ins C (putFP f p fs)))) fun c h => D.ex c env h
  | none => False) fun c h => D.ex c env h) := id rfl
section
variable {K : PySem.W.Frag} {W : WX} {C : Ctx} {m : List Addr} {σ : St} {env : Env} {H : Hp} {h : Hs}
/-- a new cell, where it lies is known -/
theorem Rel.allocE {a : Addr} {c : Cell} {o : HO} (R : Rel C m σ H env h) (n : H a = none) (r : CellR C.K (ExOf C σ env (m ++ [a])) (m ++ [a]) (upd H a o) a c) :
    StE m H (m ++ [a]) (upd H a o) ∧ Rel C (m ++ [a]) σ (upd H a o) env (h ++ [c]) := by
  have nm : a ∉ m := fun z => R.mDom z n
  have n0 : C.H0 a = none := by
    cases e : C.H0 a with
    | none => rfl
    | some o => exact absurd n (R.dom a (by rw [e]; simp))
  refine ⟨⟨fun b u e _ => by rw [upd_ne (ne_of_none e n)]; exact e, fun b q => by
    by_cases z : b = a
    · rw [z, upd_same]
      simp
    · rw [upd_ne z]
      exact q, [a], rfl, fun b hb => by rw [List.mem_singleton.mp hb]; exact n⟩, ?_⟩
  have R' := R.fresh (o := o) n []
  have R0 := R'.drop
  have no : ¬ OwnAt σ env a := R'.gown a (.inr (.inr rfl))
  have ex : ∀ b, ExOf C σ env (m ++ [a]) b → ExOf (C.own (.ref a) (.own [])) σ env m b := fun b z => by
    rcases z with z | z | z
    · exact .inl (C.own_GT _ _ z)
    · exact .inr (.inl z)
    · rcases List.mem_append.mp z with z | z
      · exact .inr (.inr z)
      · rw [List.mem_singleton.mp z]
        exact .inl (.inr (.inr rfl))
  have slots : ∀ w sw, SlotR (C.own (.ref a) (.own [])) σ env m (upd H a o) w sw → (sw.isOwn = true → w ≠ .ref a) → SlotR C σ env (m ++ [a]) (upd H a o) w sw := fun w sw ⟨r1, b1⟩ no' => by
    refine ⟨?_, b1.le rfl (fun b o => .inl o) fun b q => .inl q⟩
    cases sw with
    | val p => exact Rep.mono (Kp.le ex) ⟨_, rfl⟩ r1
    | own zs =>
      obtain ⟨c, ws, rfl, hc, hn, cm, q⟩ := r1
      refine ⟨c, ws, rfl, hc, hn, fun z => ?_, RepL.mono (Kp.le fun b z => z.imp (ex b) id) ⟨_, rfl⟩ q⟩
      rcases List.mem_append.mp z with z | z
      · exact cm z
      · exact no' rfl (by rw [List.mem_singleton.mp z])
    | brw zs =>
      obtain ⟨c, ws, rfl, hc, q⟩ := r1
      refine ⟨c, ws, rfl, ⟨hc.1, fun z => ?_⟩, RepL.mono (Kp.le ex) ⟨_, rfl⟩ q⟩
      rcases List.mem_append.mp z with z | z
      · exact hc.2 z
      · exact (b1 c rfl).2 (.inr (by rw [List.mem_singleton.mp z]))
    | exc _ _ => first | (cases e; done) | (cases nb; done) | exact r | exact r1 | exact ⟨r, trivial⟩ | exact ⟨r1, trivial⟩ | exact ⟨rv, trivial⟩ | trivial
    | scr ns =>
      obtain ⟨c, rfl, hc⟩ := r1
      refine ⟨c, rfl, ?_⟩
      rcases b1 c rfl with z | z
      · exact .inr z
      · rcases hc with hc | hc
        · refine .inl ⟨hc.1, fun e => ?_⟩
          rcases List.mem_append.mp e with e | e
          · exact hc.2 e
          · exact z.2 (.inr (by rw [List.mem_singleton.mp e]))
        · exact .inr hc
  refine ⟨R.len, fun j sw e => ?_, fun p hp => ⟨slots _ _ (R'.pin p hp).1 (fun q => by rw [(R'.pin p hp).2] at q; cases q), (R'.pin p hp).2⟩, R.uniq, ⟨by rw [List.length_append, List.length_append, R.hm.len]; rfl, ?_, fun k b c' e f => ?_⟩, R0.keep, R0.dom, ?_, R0.gdom, R0.gown⟩
  · obtain ⟨w, s, r1⟩ := R'.slot j sw e
    refine ⟨w, s, slots w sw r1 fun q z => ?_⟩
    cases sw with
    | own zs => exact no ⟨j, zs, e, by rw [← z]; exact s⟩
    | _ => cases q
  · rw [List.nodup_append]
    exact ⟨R.hm.nd, by simp, fun x hx y hy => by rw [List.mem_singleton.mp hy]; exact fun z => nm (z ▸ hx)⟩
  · by_cases hk : k < m.length
    · rw [List.getElem?_append_left hk] at e
      rw [List.getElem?_append_left (by rw [← R.hm.len]; exact hk)] at f
      exact (R'.hm.at_ k b c' e f).mono (Kp.le ex) ⟨_, rfl⟩ rfl
    · rw [List.getElem?_append_right (by omega)] at e
      rw [List.getElem?_append_right (by rw [← R.hm.len]; omega)] at f
      have e1 := List.mem_singleton.mp (List.mem_of_getElem? e)
      have e2 := List.mem_singleton.mp (List.mem_of_getElem? f)
      subst e1 e2
      exact r
  · obtain ⟨ms, rfl, hn⟩ := R0.pre
    refine ⟨ms ++ [a], by simp, fun b hb => ?_⟩
    rcases List.mem_append.mp hb with z | z
    · exact hn b z
    · rw [List.mem_singleton.mp z]
      exact n0


theorem look_rep {Ex : Ad} {f : Str} {p : PV} : ∀ {vs : List (Str × V)} {fs : List (Str × PV)}, vs.map (·.1) = fs.map (·.1) → RepL K Ex m H (vs.map (·.2)) (fs.map (·.2)) → lookF f fs = some p → ∃ v, List.lookup f vs = some v ∧ Rep K Ex m H v p
  | [], [], _, _, e => by cases e
  | [], _ :: _, e, _, _ => by simp at e
  | _ :: _, [], e, _, _ => by simp at e
  | a :: vs, b :: fs, e, r, l => by
    simp only [List.map_cons, List.cons.injEq] at e r
    cases r with
    | cons r1 r2 =>
      unfold lookF at l
      rw [List.lookup_cons] at l
      rw [List.lookup_cons, e.1]
      split at l
      · cases l
        exact ⟨_, rfl, r1⟩
      · exact look_rep e.2 r2 l
theorem putF_rep {Ex : Ad} {f : Str} {v : V} {p : PV} (rv : Rep K Ex m H v p) : ∀ {vs : List (Str × V)} {fs : List (Str × PV)}, vs.map (·.1) = fs.map (·.1) → RepL K Ex m H (vs.map (·.2)) (fs.map (·.2)) → (putF f v vs).map (·.1) = (putFP f p fs).map (·.1) ∧ RepL K Ex m H ((putF f v vs).map (·.2)) ((putFP f p fs).map (·.2))
  | [], [], _, _ => ⟨rfl, .cons rv .nil⟩
  | [], _ :: _, e, _ => by simp at e
  | _ :: _, [], e, _ => by simp at e
  | a :: vs, b :: fs, e, r => by
    simp only [List.map_cons, List.cons.injEq] at e r
    cases r with
    | cons r1 r2 =>
      obtain ⟨i1, i2⟩ := putF_rep (f := f) rv e.2 r2
      unfold putF putFP
      rw [e.1]
      by_cases z : b.1 = f
      · rw [if_pos z, if_pos z]
        exact ⟨by simp [e.2], .cons rv r2⟩
      · rw [if_neg z, if_neg z]
        exact ⟨by simp [i1], .cons r1 i2⟩
theorem se_fld {D : Addr} {ta : TE} {fa : DE} {f : Str} (cl : Cls K D) (na : NoAttr K D f) (ha : SE K W ta fa) : SE K W (tFld K ta f) (dFld D fa f) := ⟨fun C m σ H env h Q E Q' eK R hf p px => by
  refine ha.run C m σ H env h _ E _ eK R hf (fun m1 x H1 sx h1 S1 R1 r1 q1 => ?_) px
  obtain ⟨n, fs, pv, rfl, e1, e2, q2⟩ := q1
  have rx := r1
  obtain ⟨a, rfl, ea, dx, vs, hv, hx, nx, ek, rl⟩ := R1.drop.cellAt (show Rep C.K (ExOf C σ env m1) m1 H1 x (.ref n) from rx) e1
  obtain ⟨v, l1, rv⟩ := look_rep ek rl e2
  exact ⟨a, D, dx, vs, v, rfl, hv, eK ▸ cl, eK ▸ na, l1, p m1 v H1 (.val pv) h1 S1 R1.drop rv q2⟩⟩
theorem ss_fld {D : Addr} {to te : TE} {fo fe : DE} {f : Str} (cl : Cls K D) (na : NoAttr K D f) (ho : SE K W to fo) (he : SE K W te fe) : SS K W (sFld K to te f) (sFldS D fo fe f) := ⟨fun C m σ H env h Df Ds eK R hf p => by
  refine he.run C m σ H env h _ _ _ eK R hf (fun m1 y H1 sy h1 S1 R1 r1 q1 => ?_) p.px
  split at q1
  · rename_i pv ep
    have ry := R.toVal r1 ep
    refine ho.run C m1 σ H1 env h1 _ _ _ eK R1.drop q1 (fun m2 x H2 sx h2 S2 R2 r2 q2 => ?_) p.px
    obtain ⟨n, fs, rfl, e3, lz, q3⟩ := q2
    obtain ⟨a, rfl, ea, dx, vs, hv, hx, nx, ekk, rl⟩ := R2.drop.cellAt (show Rep C.K (ExOf C σ env m2) m2 H2 x (.ref n) from r2) e3
    have ry3 : Rep C.K (ExOf C σ env m2) m2 H2 y pv := Rep.mono (R1.drop.kp S2) S2.ex' ry
    have am : a ∈ m2 := List.mem_of_getElem? ea
    have kp : ∀ o, Kp (ExOf C σ env m2) H2 (ExOf C σ env m2) (upd H2 a o) := fun o b u e q => ⟨by rw [upd_ne fun z => q (by rw [z]; exact .inr (.inr am))]; exact e, q⟩
    obtain ⟨pk, pr⟩ := putF_rep (f := f) ry3 ekk rl
    have lv := congrArg List.length ekk
    simp only [List.length_map] at lv
    have nd : dx ≠ a := fun z => nx (by rw [z]; exact .inr (.inr am))
    obtain ⟨_, R4⟩ := R2.drop.mutCell (o := .ins D dx (putF f y vs)) ea (List.getElem?_eq_some_iff.mp e3).1 (c' := .ins D (putFP f pv fs)) ⟨dx, _, upd_same, by rw [upd_ne nd]; exact hx, nx, pk, pr.mono (kp _) ⟨[], by simp⟩⟩
    exact ⟨a, D, dx, vs, rfl, hv, eK ▸ cl, eK ▸ na, by omega, p.nx m2 σ _ env _ R4 q3⟩
  · exact q1.elim⟩

/-- o.m(..): n counts o -/
def dMeth (C : Addr) (mn : Str) (n : Nat) (d : DF) (a : DE) (fa : DA) : DE := fun env h Q E => a env h (fun x h1 => ∃ nn fs, x = .val (.ref nn) ∧ h1[nn]? = some (.ins C fs) ∧ lookF mn fs = none ∧ fa env h1 (fun svs h2 => svs.length + 1 = n ∧ apA svs fun vs => d (.val (.ref nn) :: vs) h2 Q fun _ _ => False) E) E
@[simp ↓] theorem dMeth_eq (C : Addr) (mn : Str) (n : Nat) (d : DF) (a : DE) (fa : DA) (env : Env) (h : Hs) (Q : VQ) (E : XQ) : dMeth C mn n d a fa env h Q E = (a env h (fun x h1 => ∃ nn fs, x = .val (.ref nn) ∧ h1[nn]? = some (.ins C fs) ∧ lookF mn fs = none ∧ fa env h1 (fun svs h2 => svs.length + 1 = n ∧ apA svs fun vs => d (.val (.ref nn) :: vs) h2 Q fun _ _ => False) E) E) := id rfl
/-- C(..): n counts the new instance -/
def dMake (C : Addr) (n : Nat) (d : DF) (fa : DA) : DE := fun env h Q E => fa env h (fun svs h1 => svs.length + 1 = n ∧ apA svs fun vs => d (.val (.ref h1.length) :: vs) (h1 ++ [.ins C []]) (fun v h2 => v = .val .non ∧ Q (.val (.ref h1.length)) h2) fun _ _ => False) E
@[simp ↓] theorem dMake_eq (C : Addr) (n : Nat) (d : DF) (fa : DA) (env : Env) (h : Hs) (Q : VQ) (E : XQ) : dMake C n d fa env h Q E = (fa env h (fun svs h1 => svs.length + 1 = n ∧ apA svs fun vs => d (.val (.ref h1.length) :: vs) (h1 ++ [.ins C []]) (fun v h2 => v = .val .non ∧ Q (.val (.ref h1.length)) h2) fun _ _ => False) E) := id rfl
theorem look_none {f : Str} : ∀ {vs : List (Str × V)} {fs : List (Str × PV)}, vs.map (·.1) = fs.map (·.1) → lookF f fs = none → List.lookup f vs = none
  | [], [], _, _ => rfl
  | [], _ :: _, e, _ => by simp at e
  | _ :: _, [], e, _ => by simp at e
  | a :: vs, b :: fs, e, l => by
    simp only [List.map_cons, List.cons.injEq] at e
    unfold lookF at l
    rw [List.lookup_cons] at l
    rw [List.lookup_cons, e.1]
    split at l
    · cases l
    · exact look_none e.2 l
/-- a call of a def from any state: its arguments stand, its end is handed on -/
theorem call_d {N : Ad} {m0 m1 : List Addr} {H0 H1 : Hp} {h1 : Hs} {n : Nat} {d : DF} {vs : List V} {svs : List SV} {Q : VQ} {E0 : XK} {Q' : VK} (R1 : Rel C m1 σ H1 env h1) (S1 : StE m0 H0 m1 H1) (r1 : Paired (RepS C (ExOf C σ env m1) m1 N H1) vs svs) (hn : svs.length = n) (q1 : d (svs.map SV.toArg) h1 Q fun _ _ => False) (p : PostE C m0 σ H0 env Q Q') : spD C.K n d vs H1 Q' E0 := by
  have len : vs.length = svs.length := Paired.length r1
  have Re := R1.enter r1
  refine ⟨len.trans hn, _, m1, h1, _, Q, Re, q1, fun m' v H' sv h' S2 hm r2 q2 => ?_⟩
  have ex : ∀ b, ExOf C σ env m' b → ExOf (ctxAt C.K (fun a => C.GT a ∨ OwnAt σ env a) m1 H1) [] [] m' b := fun b q => by
    rcases q with q | q | q
    · exact .inl (.inl (.inl q))
    · exact .inl (.inl (.inr q))
    · exact .inr (.inr q)
  have exo : ∀ b, ExOf (C.own v sv) σ env m' b → ExOf ((ctxAt C.K (fun a => C.GT a ∨ OwnAt σ env a) m1 H1).own v sv) [] [] m' b := fun b q => by
    rcases q with q | q | q
    · cases sv with
      | own xs =>
        rcases q with q | q | q
        · exact .inl (.inl (.inl (.inl q)))
        · exact .inl (.inl (.inl (.inr q)))
        · exact .inl (.inr (.inr q))
      | _ => exact .inl (.inl (.inl q))
    · exact .inl (by
        cases sv with
        | _ => exact .inl (.inr q))
    · exact .inr (.inr q)
  have r3 : RepS C (ExOf C σ env m') m' (fun a => H1 a = none) H' v sv := r2.less rfl ex fun _ q => q
  refine p m' v H' sv h' (S1.trans S2) (R1.stepOwn S2 ⟨hm.len, hm.nd, fun n a c e f => ?_⟩ fun a o e => ?_) (r3.less rfl (fun _ q => q) fun a q => stnew S1 q) q2
  · exact (hm.at_ n a c e f).mono (Kp.le exo) ⟨[], by simp⟩ rfl
  · cases sv with
    | own xs =>
      obtain ⟨b, ws, rfl, hb, nb, _⟩ := r3
      cases e
      exact ⟨nb, by rw [hb]; simp⟩
    | _ => cases o
theorem se_meth {D : Addr} {ta : TE} {fa : DE} {t : TA} {fs : DA} {mn : Str} {n : Nat} {d : DF} {E0 : XK} (ha : SE K W ta fa) (hs : SA K W t fs) : SE K W (tMeth D mn (spD K n d) [] E0 ta t) (dMeth D mn n d fa fs) := ⟨fun C m σ H env h Q E Q' eK R hf p px => by
  refine ha.run C m σ H env h _ E _ eK R hf (fun m1 x H1 sx h1 S1 R1 r1 q1 => ?_) px
  obtain ⟨nn, fl, rfl, e1, e2, q1⟩ := q1
  obtain ⟨a, rfl, ea, dx, vs0, hv, hx, nx, ek, rl⟩ := R1.drop.cellAt (show Rep C.K (ExOf C σ env m1) m1 H1 x (.ref nn) from r1) e1
  refine ⟨a, dx, vs0, rfl, hv, look_none ek e2, ?_⟩
  refine hs.run C m1 σ H1 env h1 _ E _ eK R1.drop q1 (fun m2 vs H2 svs h2 S2 R2 r2 ⟨hn, q2⟩ => ?_) (px.go S1)
  rw [List.append_nil]
  subst eK
  have rx : RepS C (ExOf C σ env m2) m2 (fun a => H1 a = none) H2 (.ref a) (.val (.ref nn)) := r1.step S2 (N' := fun a => H a = none) fun _ q => q
  exact call_d (svs := .val (.ref nn) :: svs) R2.drops (S1.trans S2) (.cons rx r2) hn q2 p⟩
theorem se_make {D : Addr} {t : TA} {fs : DA} {n : Nat} {d : DF} {E0 : XK} (hs : SA K W t fs) : SE K W (tMake D (spD K n d) [] E0 t) (dMake D n d fs) := ⟨fun C m σ H env h Q E Q' eK R hf p px => by
  refine hs.run C m σ H env h _ E _ eK R hf (fun m1 vs H1 svs h1 S1 R1 r1 ⟨hn, q1⟩ => ?_) px
  intro x dx nx ndx ne
  rw [List.append_nil]
  subst eK
  have S2 : StE m1 H1 m1 (upd H1 dx (.own x)) := .new ndx
  have R2 : Rel C m1 σ (upd H1 dx (.own x)) env h1 := R1.drops.grow (Same.upd ndx)
  have nx2 : upd H1 dx (.own x) x = none := by rw [upd_ne ne.symm]; exact nx
  have ndE : ¬ ExOf C σ env (m1 ++ [x]) dx := fun q => by
    rcases q with q | q | q
    · exact R1.drops.exNew ndx (.inl q)
    · exact R1.drops.exNew ndx (.inr (.inl q))
    · rcases List.mem_append.mp q with q | q
      · exact R1.drops.exNew ndx (.inr (.inr q))
      · exact ne (List.mem_singleton.mp q)
  obtain ⟨S3, R3⟩ := R2.allocE (c := .ins D []) (o := .ins D dx []) nx2 ⟨dx, [], upd_same, by rw [upd_ne ne, upd_same], ndE, rfl, .nil⟩
  have hlen : m1.length = h1.length := R2.hm.len
  have pos : ∀ m', (∃ ms, m' = (m1 ++ [x]) ++ ms) → m'[h1.length]? = some x := by
    rintro m' ⟨ms, rfl⟩
    rw [← hlen, List.append_assoc, List.getElem?_append_right (Nat.le_refl _)]
    simp
  have rx : RepS C (ExOf C σ env (m1 ++ [x])) (m1 ++ [x]) (fun a => H a = none) (upd (upd H1 dx (.own x)) x (.ins D dx [])) (.ref x) (.val (.ref h1.length)) := .ref (pos _ ⟨[], by simp⟩)
  have S23 := S2.trans S3
  have r2 : Paired (RepS C (ExOf C σ env (m1 ++ [x])) (m1 ++ [x]) (fun a => H a = none) (upd (upd H1 dx (.own x)) x (.ins D dx []))) vs svs := by
    have aux : ∀ {vs : List V} {svs : List SV}, Paired (RepS C (ExOf C σ env m1) m1 (fun a => H a = none) H1) vs svs → Paired (RepS C (ExOf C σ env (m1 ++ [x])) (m1 ++ [x]) (fun a => H a = none) (upd (upd H1 dx (.own x)) x (.ins D dx []))) vs svs := by
      intro vs svs r
      induction r with
      | nil => exact .nil
      | cons a _ ih => exact .cons (a.step S23 fun _ q => q) ih
    exact aux r1
  refine call_d (svs := .val (.ref h1.length) :: svs) (m0 := m1 ++ [x]) (H0 := upd (upd H1 dx (.own x)) x (.ins D dx [])) R3 (.refl _ _) (.cons rx r2) hn q1 ?_
  rintro m' v H' sv h' S4 R4 r4 ⟨rfl, q4⟩
  cases r4
  exact ⟨rfl, p m' (.ref x) H' (.val (.ref h1.length)) h' ((S1.trans S23).trans S4) R4 (.ref (pos _ S4.ex')) q4⟩⟩
/-- a method of a class, and how the class makes its instances -/
structure MethAt (P : Program) (w : World) (K : PySem.W.Frag) (mg : Str → Option Value) (base : Heap) (k : Nat) (C : Addr) (mn : Str) (n : Nat) (d : DF) : Prop where
  at_ : ∃ (f : Addr) (fd : FuncData) (ps : List Str), Meth K C mn f ∧ Binds K fd ps [] ∧ FnOk P w K mg base CX0 k f fd ps (spD K n d)
structure MakeAt (P : Program) (w : World) (K : PySem.W.Frag) (mg : Str → Option Value) (base : Heap) (k : Nat) (x : Str) (C : Addr) (n : Nat) (d : DF) : Prop where
  at_ : ∃ (f : Addr) (fd : FuncData) (ps : List Str), mg x = some (.ref C) ∧ Mk K C f ∧ Binds K fd ps [] ∧ FnOk P w K mg base CX0 k f fd ps (spD K n d)
end
section
variable {X : Cx} {W : WX} {e o : Expr} {es : List Expr} {fo fe : DE} {fs : DA} {pos apos p : Pos} {x f mn : Str} {C : Addr} {d : DF} {n k k' : Nat}
theorem pd_fld (cl : Cls X.K C) (na : NoAttr X.K C f) (ho : PEd X W o fo) (hb : attributeBase o f X.env (eval o X.env) = eval o X.env := by rfl) : PEd X W (.Attribute o f pos) (dFld C fo f) := .of (pe_fld ho hb) (se_fld cl na seE)
theorem psd_fld (cl : Cls X.K C) (na : NoAttr X.K C f) (ho : PEd X W o fo) (he : PEd X W e fe) (hs : swapsWith e (some (.Attribute o f apos)) pos.line X.env = pure false := by rfl) : PSd X W (.Assign [.Attribute o f apos] e pos) (sFldS C fo fe f) := .of (ps_fld ho he hs) (ss_fld cl na seE seE)
theorem pd_meth (cl : Cls X.K C) (F : MethAt X.prog X.w X.K X.mg X.base k C mn n d) (hr : Room k' X.A) (hk : k ≤ k') (ho : PEd X W o fo) (ha : PAd X W (e :: es) fs) {pl : Sem Bool} (he : starEach (e :: es) X.env = (false, eval e X.env) :: starEach es X.env := by rfl) (hpl : (backTo pos (starEach es X.env)).any (·.1) = false := by rfl)
    (hc : eval (.Call (.Attribute o mn apos) (e :: es) [] pos) X.env = (do
      let ov ← eval o X.env
      standAt apos.atName
      let (f, first) ← holding [ov] (getMethod ov mn pl)
      callWith pos f first (backTo pos (starEach (e :: es) X.env)) (backToKw pos (keywordEach [] X.env))) := by rfl) : PEd X W (.Call (.Attribute o mn apos) (e :: es) [] pos) (dMeth C mn n d fo fs) := by
  obtain ⟨f, fd, ps, hm, hb, G⟩ := F.at_
  exact .of (pe_meth ho cl hm G (hr.mono hk) hb .nil pass0 ha he hpl hc) (se_meth seE saA)
theorem pd_meth0 (cl : Cls X.K C) (F : MethAt X.prog X.w X.K X.mg X.base k C mn n d) (hr : Room k' X.A) (hk : k ≤ k') (ho : PEd X W o fo) {pl : Sem Bool}
    (hc : eval (.Call (.Attribute o mn apos) [] [] pos) X.env = (do
      let ov ← eval o X.env
      standAt apos.atName
      let (f, first) ← holding [ov] (getMethod ov mn pl)
      callWith pos f first (backTo pos (starEach [] X.env)) (backToKw pos (keywordEach [] X.env))) := by rfl) : PEd X W (.Call (.Attribute o mn apos) [] [] pos) (dMeth C mn n d fo dNil) := by
  obtain ⟨f, fd, ps, hm, hb, G⟩ := F.at_
  exact .of (pe_meth0 ho cl hm G (hr.mono hk) hb .nil pass0 hc) (se_meth seE sa_nil)
theorem pd_make (F : MakeAt X.prog X.w X.K X.mg X.base k x C n d) (hr : Room k' X.A) (hk : k + 1 ≤ k') (ha : PAd X W (e :: es) fs) (hg : Gl X x := by rfl) (hdb : (x == ("__debug__" : Str)) = false := by decide) (he : starEach (e :: es) X.env = (false, eval e X.env) :: starEach es X.env := by rfl) (hpl : (backTo pos (starEach es X.env)).any (·.1) = false := by rfl) : PEd X W (.Call (.Name x p) (e :: es) [] pos) (dMake C n d fs) := by
  obtain ⟨f, fd, ps, hm, mk, hb, G⟩ := F.at_
  exact .of (pe_make mk G (hr.mono hk) hg hm hb .nil pass0 ha hdb he hpl) (se_make saA)
theorem pd_make0 (F : MakeAt X.prog X.w X.K X.mg X.base k x C n d) (hr : Room k' X.A) (hk : k + 1 ≤ k') (hg : Gl X x := by rfl) (hdb : (x == ("__debug__" : Str)) = false := by decide) : PEd X W (.Call (.Name x p) [] [] pos) (dMake C n d dNil) := by
  obtain ⟨f, fd, ps, hm, mk, hb, G⟩ := F.at_
  exact .of (pe_make0 mk G (hr.mono hk) hg hm hb .nil pass0 hdb) (se_make sa_nil)
end
section
variable {P : Program} {w : World} {K : PySem.W.Frag} {mg : Str → Option Value} {base : Heap}
theorem fnOk_q {x qual : Str} {st : Stmt} {f : Addr} {fd : FuncData} {N ps : List Str} {k : Nat} {body : DS} (F : Fun K x qual st f fd) (S : FnScope N ps (defScope st))
    (hb : ∀ (f : Addr) (cdv : Value) (A : Around) (outer : List PySem.Env) (s : Shared) (H : Hp) (E : XK), Room k (A.deeper (envOfC qual (defScope st) s.heap.objs.size f cdv)) → PSsd (cxOf CX0 P w K mg base N qual (defScope st) f cdv A outer s H E).nox W0 (defBody st) body) :
    FnOk P w K mg base CX0 (k + 1) f fd ps (spD K ps.length (dDef ps.length (N.length - ps.length) body)) := ok_def F S fun cdv A outer s H E hr => ⟨_, hb f cdv A outer s H E hr, ssS⟩
end
end PM

namespace PM
open PySem PySem.Spec L2
open PyProof.Rows hiding St

/-! ### defs that may raise; raise; try .. except X as n -/
def spX (K : PySem.W.Frag) (n : Nat) (d : DF) : Sp := fun vs H Q E => vs.length = n ∧ ∃ (G : Ad) (m : List Addr) (h : Hs) (svs : List SV) (Qd : VQ) (Ed : XQ), Rel (ctxAt K G m H) m (vs.map some) H (svs.map some) h ∧ d svs h Qd Ed ∧
  (∀ m' v H' sv h', StE m H m' H' → HeapR K (ExOf ((ctxAt K G m H).own v sv) [] [] m') m' H' h' → RepS (ctxAt K G m H) (ExOf (ctxAt K G m H) [] [] m') m' (fun a => H a = none) H' v sv → Qd sv h' → Q v H') ∧
  ∀ c m' H' h', StE m H m' H' → HeapR K (ExOf (ctxAt K G m H) [] [] m') m' H' h' → Ed c h' → E (.ref c) none H'
abbrev WR (E : XK) : WX := fun cls d _ H => E cls d H
section
variable {P : Program} {w : World} {K : PySem.W.Frag} {mg : Str → Option Value} {base : Heap}
theorem okX_def {x qual : Str} {st : Stmt} {f : Addr} {fd : FuncData} {N ps : List Str} {k : Nat} {body : DS} (F : Fun K x qual st f fd) (S : FnScope N ps (defScope st))
    (hb : ∀ (cdv : Value) (A : Around) (outer : List PySem.Env) (s : Shared) (H : Hp) (E : XK), Room k (A.deeper (envOfC qual (defScope st) s.heap.objs.size f cdv)) → ∃ t, PSs (cxOf (CX P w) P w K mg base N qual (defScope st) f cdv A outer s H E) (defBody st) t ∧ SS K (WR E) t body) :
    FnOk P w K mg base (CX P w) (k + 1) f fd ps (spX K ps.length (dDef ps.length (N.length - ps.length) body)) := by
  refine F.okX S (fun vs H Q E h => h.1) (fun cdv A outer s H vs Q E hr h => ?_)
  obtain ⟨t, hp, hs⟩ := hb cdv A outer s H E hr
  obtain ⟨hl, G, m, h, svs, Qd, Ed, R, ⟨sl, hd⟩, post, postx⟩ := h
  refine ⟨t, hp, ?_⟩
  have R2 := R.ext (N.length - ps.length)
  have ex : ∀ (C : Ctx) m' σ env b, ExOf C [] [] m' b → ExOf C σ env m' b := fun C m' σ env b q => by
    rcases q with q | q | q
    · exact .inl q
    · exact absurd q own_nil
    · exact .inr (.inr q)
  have fin : ∀ m' σ H' env h' v sv, Rel ((ctxAt K G m H).own v sv) m' σ H' env h' → RepS (ctxAt K G m H) (ExOf (ctxAt K G m H) σ env m') m' (fun a => H a = none) H' v sv → Qd sv h' → Q v H' := fun m' σ H' env h' v sv R r q => by
    have R0 := R.drop
    refine post m' v H' sv h' ⟨R0.keep, R0.dom, R0.pre⟩ ⟨R.hm.len, R.hm.nd, fun n a c e f => ?_⟩ (r.less rfl (ex _ m' σ env) fun _ q => q) q
    have z := R.hm.at_ n a c e f
    rw [Ctx.own_K] at z
    exact z.mono (Kp.le (ex _ m' σ env)) ⟨[], by simp⟩ rfl
  have e0 : L2.start N vs = vs.map some ++ List.replicate (N.length - ps.length) none := by
    unfold L2.start
    rw [hl]
  rw [e0]
  refine hs.run (ctxAt K G m H) m _ H _ h _ _ rfl R2 hd ⟨fun m' σ H' env h' R q => fin m' σ H' env h' .non (.val .non) R .non q, fun _ _ _ _ _ _ q => q, fun _ _ _ _ _ _ q => q, fun m' σ H' env h' v sv R r _ q => fin m' σ H' env h' v sv R r q, fun c m' σ H' env h' R q => ?_⟩
  refine postx c m' H' h' ⟨R.keep, R.dom, R.pre⟩ ⟨R.hm.len, R.hm.nd, fun n a c e f => ?_⟩ q
  exact (R.hm.at_ n a c e f).mono (Kp.le (ex _ m' σ env)) ⟨[], by simp⟩ rfl
end
def dCallX (n : Nat) (d : DF) (a : DA) : DE := fun env h Q E => a env h (fun svs h1 => svs.length = n ∧ apA svs fun vs => d vs h1 Q E) E
@[simp ↓] theorem dCallX_eq (n : Nat) (d : DF) (a : DA) (env : Env) (h : Hs) (Q : VQ) (E : XQ) : dCallX n d a env h Q E = (a env h (fun svs h1 => svs.length = n ∧ apA svs fun vs => d vs h1 Q E) E) := id rfl
def dMethX (C : Addr) (mn : Str) (n : Nat) (d : DF) (a : DE) (fa : DA) : DE := fun env h Q E => a env h (fun x h1 => ∃ nn fs, x = .val (.ref nn) ∧ h1[nn]? = some (.ins C fs) ∧ lookF mn fs = none ∧ fa env h1 (fun svs h2 => svs.length + 1 = n ∧ apA svs fun vs => d (.val (.ref nn) :: vs) h2 Q E) E) E
@[simp ↓] theorem dMethX_eq (C : Addr) (mn : Str) (n : Nat) (d : DF) (a : DE) (fa : DA) (env : Env) (h : Hs) (Q : VQ) (E : XQ) : dMethX C mn n d a fa env h Q E = (a env h (fun x h1 => ∃ nn fs, x = .val (.ref nn) ∧ h1[nn]? = some (.ins C fs) ∧ lookF mn fs = none ∧ fa env h1 (fun svs h2 => svs.length + 1 = n ∧ apA svs fun vs => d (.val (.ref nn) :: vs) h2 Q E) E) E) := id rfl
def sRaise (c : Addr) : DS := fun D env h => D.ex c env h
@[simp ↓] theorem sRaise_eq (c : Addr) (D : DEnds) (env : Env) (h : Hs) : sRaise c D env h = D.ex c env h := id rfl
def tMethX (C : Addr) (m : Str) (sp : Sp) (E : St → XK) (ta : TE) (t : TA) : TE := fun σ H Q => ta σ H fun x H1 => ∃ a dx fs, x = .ref a ∧ H1 a = some (.ins C dx fs) ∧ fs.lookup m = none ∧ t σ H1 fun vs H2 => sp (x :: vs) H2 Q (E σ)
section
variable {X : Cx} {CXX : CXT} {k : Nat} {f C : Addr} {fd : FuncData} {ps : List Str} {sp : Sp} {E : St → XK} {m : Str} {pos apos : Pos} {e o : Expr} {es : List Expr} {ta : TE} {t : TA}
theorem pe_methXE {pl : Sem Bool} (he : PE X o ta) (c : Cls X.K C) (hm : Meth X.K C m f) (F : FnOk X.prog X.w X.K X.mg X.base CXX k f fd ps sp) (hr : Room k X.A) (hb : Binds X.K fd ps []) (hx : ∀ σ, PassesAt CXX X σ (E σ)) (ha : PA X (e :: es) t)
    (hst : starEach (e :: es) X.env = (false, eval e X.env) :: starEach es X.env := by rfl) (hpl : (backTo pos (starEach es X.env)).any (·.1) = false := by rfl)
    (ht : eval (.Call (.Attribute o m apos) (e :: es) [] pos) X.env = (do
      let ov ← eval o X.env
      standAt apos.atName
      let (f, first) ← holding [ov] (getMethod ov m pl)
      callWith pos f first (backTo pos (starEach (e :: es) X.env)) (backToKw pos (keywordEach [] X.env))) := by rfl) :
    PE X (.Call (.Attribute o m apos) (e :: es) [] pos) (tMethX C m sp E ta t) := by
  refine ⟨fun pins s σ H Q I h => ?_⟩
  refine PySem.W.methodCall_KW (pl := pl) (thn (he.run pins s σ H _ I h) fun u s1 ⟨x, H1, I1, rx, a, dx, fs, ex, ea, l, q⟩ => ?_) ht
  subst ex
  obtain rfl : u = Value.ref a := rx
  refine getmeth_ok I1 ea c hm l ?_
  refine PySem.W.callWith_K (first := [.ref a]) (h₀ := X.base) I.ok.mod.kin hm.kp (thn (ha.run pos pins s1 σ H1 _ I1 q) fun us s2 ⟨vs, H2, I2, r, q2⟩ => ⟨I2.kIn, ?_⟩) hst hpl
  exact run_fnS (us := .ref a :: us) (vs := .ref a :: vs) F hr hb (hx σ) I2 (.cons rfl r) q2
theorem pe_methXE0 {pl : Sem Bool} (he : PE X o ta) (c : Cls X.K C) (hm : Meth X.K C m f) (F : FnOk X.prog X.w X.K X.mg X.base CXX k f fd ps sp) (hr : Room k X.A) (hb : Binds X.K fd ps []) (hx : ∀ σ, PassesAt CXX X σ (E σ))
    (ht : eval (.Call (.Attribute o m apos) [] [] pos) X.env = (do
      let ov ← eval o X.env
      standAt apos.atName
      let (f, first) ← holding [ov] (getMethod ov m pl)
      callWith pos f first (backTo pos (starEach [] X.env)) (backToKw pos (keywordEach [] X.env))) := by rfl) :
    PE X (.Call (.Attribute o m apos) [] [] pos) (tMethX C m sp E ta tNil) := by
  refine ⟨fun pins s σ H Q I h => ?_⟩
  refine PySem.W.methodCall_KW (pl := pl) (thn (he.run pins s σ H _ I h) fun u s1 ⟨x, H1, I1, rx, a, dx, fs, ex, ea, l, q⟩ => ?_) ht
  subst ex
  obtain rfl : u = Value.ref a := rx
  refine getmeth_ok I1 ea c hm l ?_
  exact PySem.W.callWith_K0 (first := [.ref a]) I1.kIn hm.kp (run_fnS (us := [.ref a]) (vs := [.ref a]) F hr hb (hx σ) I1 (.cons rfl .nil) q)
end
section
variable {K : PySem.W.Frag} {W : WX} {C : Ctx} {m : List Addr} {σ : St} {env : Env} {H : Hp} {h : Hs}
theorem call_dx {N : Ad} {m0 m1 : List Addr} {H0 H1 : Hp} {h1 : Hs} {n : Nat} {d : DF} {vs : List V} {svs : List SV} {Q : VQ} {E : XQ} {Q' : VK} (R1 : Rel C m1 σ H1 env h1) (S1 : StE m0 H0 m1 H1) (r1 : Paired (RepS C (ExOf C σ env m1) m1 N H1) vs svs) (hn : svs.length = n) (q1 : d (svs.map SV.toArg) h1 Q E) (p : PostE C m0 σ H0 env Q Q') (px : PostX W C m0 σ H0 env E) : spX C.K n d vs H1 Q' (WE W σ) := by
  have len : vs.length = svs.length := Paired.length r1
  have Re := R1.enter r1
  have ex : ∀ m' b, ExOf C σ env m' b → ExOf (ctxAt C.K (fun a => C.GT a ∨ OwnAt σ env a) m1 H1) [] [] m' b := fun m' b q => by
    rcases q with q | q | q
    · exact .inl (.inl (.inl q))
    · exact .inl (.inl (.inr q))
    · exact .inr (.inr q)
  refine ⟨len.trans hn, _, m1, h1, _, Q, E, Re, q1, fun m' v H' sv h' S2 hm r2 q2 => ?_, fun c m' H' h' S2 hm q2 => ?_⟩
  · have exo : ∀ b, ExOf (C.own v sv) σ env m' b → ExOf ((ctxAt C.K (fun a => C.GT a ∨ OwnAt σ env a) m1 H1).own v sv) [] [] m' b := fun b q => by
      rcases q with q | q | q
      · cases sv with
        | own xs =>
          rcases q with q | q | q
          · exact .inl (.inl (.inl (.inl q)))
          · exact .inl (.inl (.inl (.inr q)))
          · exact .inl (.inr (.inr q))
        | _ => exact .inl (.inl (.inl q))
      · exact .inl (by
          cases sv with
          | _ => exact .inl (.inr q))
      · exact .inr (.inr q)
    have r3 : RepS C (ExOf C σ env m') m' (fun a => H1 a = none) H' v sv := r2.less rfl (ex m') fun _ q => q
    refine p m' v H' sv h' (S1.trans S2) (R1.stepOwn S2 ⟨hm.len, hm.nd, fun n a c e f => ?_⟩ fun a o e => ?_) (r3.less rfl (fun _ q => q) fun a q => stnew S1 q) q2
    · exact (hm.at_ n a c e f).mono (Kp.le exo) ⟨[], by simp⟩ rfl
    · cases sv with
      | own xs =>
        obtain ⟨b, ws, rfl, hb, nb, _⟩ := r3
        cases e
        exact ⟨nb, by rw [hb]; simp⟩
      | _ => cases o
  · exact px c m' H' h' (S1.trans S2) (R1.step S2 ⟨hm.len, hm.nd, fun n a c e f => (hm.at_ n a c e f).mono (Kp.le (ex m')) ⟨[], by simp⟩ rfl⟩) q2
theorem se_callX {ta : TA} {fa : DA} {n : Nat} {d : DF} (ha : SA K W ta fa) : SE K W (tCallS (spX K n d) (WE W) ta) (dCallX n d fa) := ⟨fun C m σ H env h Q E Q' eK R hf p px => by
  refine ha.run C m σ H env h _ E _ eK R hf (fun m1 vs H1 svs h1 S1 R1 r1 ⟨hn, q1⟩ => ?_) px
  subst eK
  exact call_dx R1.drops S1 r1 hn q1 p px⟩
theorem se_methX {D : Addr} {ta : TE} {fa : DE} {t : TA} {fs : DA} {mn : Str} {n : Nat} {d : DF} (ha : SE K W ta fa) (hs : SA K W t fs) : SE K W (tMethX D mn (spX K n d) (WE W) ta t) (dMethX D mn n d fa fs) := ⟨fun C m σ H env h Q E Q' eK R hf p px => by
  refine ha.run C m σ H env h _ E _ eK R hf (fun m1 x H1 sx h1 S1 R1 r1 q1 => ?_) px
  obtain ⟨nn, fl, rfl, e1, e2, q1⟩ := q1
  obtain ⟨a, rfl, ea, dx, vs0, hv, hx, nx, ek, rl⟩ := R1.drop.cellAt (show Rep C.K (ExOf C σ env m1) m1 H1 x (.ref nn) from r1) e1
  refine ⟨a, dx, vs0, rfl, hv, look_none ek e2, ?_⟩
  refine hs.run C m1 σ H1 env h1 _ E _ eK R1.drop q1 (fun m2 vs H2 svs h2 S2 R2 r2 ⟨hn, q2⟩ => ?_) (px.go S1)
  subst eK
  have rx : RepS C (ExOf C σ env m2) m2 (fun a => H1 a = none) H2 (.ref a) (.val (.ref nn)) := r1.step S2 (N' := fun a => H a = none) fun _ q => q
  exact call_dx (svs := .val (.ref nn) :: svs) R2.drops (S1.trans S2) (.cons rx r2) hn q2 p px⟩
theorem ss_raise {c : Addr} : SS K W (fun _ σ H => W (.ref c) none σ H) (sRaise c) := ⟨fun C m σ H env h Df D eK R hf p => p.ex c m σ H env h R hf⟩
end
/-- an own class of errors without __init__ over ValueError -/
structure ErrAt (K : PySem.W.Frag) (mg : Str → Option Value) (x : Str) (C : Addr) : Prop where
  g : mg x = some (.ref C)
  q : PySem.W.excIn K C [.type "ValueError", .type "Exception", .type "BaseException", .type "object"] "ValueError.__new__" = true
  k : PySem.W.keepIn K (.ref C) = true
  b : PySem.W.subIn K (.ref C) (.type "BaseException") = some true
  t : PySem.W.typeIn K (.ref C) = some (.type "type")
structure FnAtX (P : Program) (w : World) (K : PySem.W.Frag) (mg : Str → Option Value) (base : Heap) (k : Nat) (x : Str) (n : Nat) (d : DF) : Prop where
  at_ : ∃ (f : Addr) (fd : FuncData) (ps : List Str), mg x = some (.ref f) ∧ PySem.W.keepIn K (.ref f) = true ∧ Binds K fd ps [] ∧ FnOk P w K mg base (CX P w) k f fd ps (spX K n d)
structure MethAtX (P : Program) (w : World) (K : PySem.W.Frag) (mg : Str → Option Value) (base : Heap) (k : Nat) (C : Addr) (mn : Str) (n : Nat) (d : DF) : Prop where
  at_ : ∃ (f : Addr) (fd : FuncData) (ps : List Str), Meth K C mn f ∧ Binds K fd ps [] ∧ FnOk P w K mg base (CX P w) k f fd ps (spX K n d)
section
variable {X : Cx} {W : WX} {e o : Expr} {es : List Expr} {fo fe : DE} {fs : DA} {pos apos p p2 rpos : Pos} {x f mn : Str} {C : Addr} {d : DF} {n k k' : Nat}
theorem psd_raise {msg : Str} {j : Nat} (F : ErrAt X.K X.mg x C) (tk : Takes X W) (hc : X.calm = true := by rfl) (hg : Gl X x := by rfl) (hdb : (x == ("__debug__" : Str)) = false := by decide) : PSd X W (.Raise (some (.Call (.Name x p) [.Constant (.str msg) j p2] [] pos)) none rpos) (sRaise C) :=
  .of (ps_raise hc tk (pmk_own PySem.F.excBase_ValueError F.q F.g F.k (raises_own F.b F.t) hg hdb)) ss_raise
theorem pd_callX (F : FnAtX X.prog X.w X.K X.mg X.base k x n d) (hr : Room k' X.A) (hk : k ≤ k') (tk : Takes X W) (ha : PAd X W (e :: es) fs)
    (hg : Gl X x := by rfl) (hdb : (x == ("__debug__" : Str)) = false := by decide) (he : starEach (e :: es) X.env = (false, eval e X.env) :: starEach es X.env := by rfl) (hpl : (backTo pos (starEach es X.env)).any (·.1) = false := by rfl) : PEd X W (.Call (.Name x p) (e :: es) [] pos) (dCallX n d fs) := by
  obtain ⟨f, fd, ps, hm, kp, hb, G⟩ := F.at_
  exact .of (pe_callS G (hr.mono hk) hg hm kp hb (fun σ => passAt tk σ) ha hdb he hpl) (se_callX saA)
theorem pd_methX (cl : Cls X.K C) (F : MethAtX X.prog X.w X.K X.mg X.base k C mn n d) (hr : Room k' X.A) (hk : k ≤ k') (tk : Takes X W) (ho : PEd X W o fo) (ha : PAd X W (e :: es) fs) {pl : Sem Bool} (he : starEach (e :: es) X.env = (false, eval e X.env) :: starEach es X.env := by rfl) (hpl : (backTo pos (starEach es X.env)).any (·.1) = false := by rfl)
    (hc : eval (.Call (.Attribute o mn apos) (e :: es) [] pos) X.env = (do
      let ov ← eval o X.env
      standAt apos.atName
      let (f, first) ← holding [ov] (getMethod ov mn pl)
      callWith pos f first (backTo pos (starEach (e :: es) X.env)) (backToKw pos (keywordEach [] X.env))) := by rfl) : PEd X W (.Call (.Attribute o mn apos) (e :: es) [] pos) (dMethX C mn n d fo fs) := by
  obtain ⟨f, fd, ps, hm, hb, G⟩ := F.at_
  exact .of (pe_methXE ho cl hm G (hr.mono hk) hb (fun σ => passAt tk σ) ha he hpl hc) (se_methX seE saA)
theorem pd_methX0 (cl : Cls X.K C) (F : MethAtX X.prog X.w X.K X.mg X.base k C mn n d) (hr : Room k' X.A) (hk : k ≤ k') (tk : Takes X W) (ho : PEd X W o fo) {pl : Sem Bool}
    (hc : eval (.Call (.Attribute o mn apos) [] [] pos) X.env = (do
      let ov ← eval o X.env
      standAt apos.atName
      let (f, first) ← holding [ov] (getMethod ov mn pl)
      callWith pos f first (backTo pos (starEach [] X.env)) (backToKw pos (keywordEach [] X.env))) := by rfl) : PEd X W (.Call (.Attribute o mn apos) [] [] pos) (dMethX C mn n d fo dNil) := by
  obtain ⟨f, fd, ps, hm, hb, G⟩ := F.at_
  exact .of (pe_methXE0 ho cl hm G (hr.mono hk) hb (fun σ => passAt tk σ) hc) (se_methX seE sa_nil)
end
end PM

namespace PM
open PySem PySem.Spec L2
open PyProof.Rows hiding St

/-! ### try .. except X as n: suite (the suite raises nothing); isinstance(n, Y) there -/
section
variable {C : Ctx} {m : List Addr} {σ : St} {env : Env} {H : Hp} {h : Hs}
theorem own_exc {i : Nat} {x : Option V} {c a b : Addr} (o : OwnAt (σ.set i x) (env.set i (some (.exc c a))) b) : OwnAt σ env b := by
  obtain ⟨j, xs, e, s⟩ := o
  rcases get_set e with ⟨rfl, l, e1⟩ | ⟨n, e1⟩
  · cases e1
  · rcases get_set s with ⟨q, _⟩ | ⟨_, e2⟩
    · exact absurd q n
    · exact ⟨j, xs, e1, e2⟩
theorem Rel.setExc {i : Nat} {c a : Addr} (R : Rel C m σ H env h) : Rel C m (σ.set i (some (.ref a))) H (env.set i (some (.exc c a))) h := by
  have ex : ∀ b, ExOf C (σ.set i (some (.ref a))) (env.set i (some (.exc c a))) m b → ExOf C σ env m b := fun b q => by
    rcases q with q | q | q
    · exact .inl q
    · exact .inr (.inl (own_exc q))
    · exact .inr (.inr q)
  have slots : ∀ w sw, SlotR C σ env m H w sw → SlotR C (σ.set i (some (.ref a))) (env.set i (some (.exc c a))) m H w sw := fun w sw ⟨r1, b1⟩ => ⟨r1.less rfl ex fun _ q => q, b1.le rfl (fun b o => .inl (own_exc o)) fun _ q => q⟩
  refine ⟨by rw [List.length_set, List.length_set]; exact R.len, fun j sw e => ?_, fun p hp => ⟨slots _ _ (R.pin p hp).1, (R.pin p hp).2⟩, fun j k xs ys a e1 e2 s1 s2 => ?_, ⟨R.hm.len, R.hm.nd, fun n a c e f => (R.hm.at_ n a c e f).mono (Kp.le ex) ⟨[], by simp⟩ rfl⟩, R.keep, R.dom, R.pre, R.gdom, fun a g o => R.gown a g (own_exc o)⟩
  · rcases get_set e with ⟨rfl, l, e1⟩ | ⟨n, e1⟩
    · cases e1
      exact ⟨.ref a, List.getElem?_set_self (by rw [R.len]; exact l), rfl, trivial⟩
    · obtain ⟨w, s, r1⟩ := R.slot j sw e1
      exact ⟨w, by rw [List.getElem?_set_ne (Ne.symm n)]; exact s, slots w sw r1⟩
  · rcases get_set e1 with ⟨rfl, l, f1⟩ | ⟨n1, f1⟩
    · cases f1
    · rcases get_set e2 with ⟨rfl, l, f2⟩ | ⟨n2, f2⟩
      · cases f2
      · rcases get_set s1 with ⟨q, _⟩ | ⟨_, g1⟩
        · exact absurd q n1
        · rcases get_set s2 with ⟨q, _⟩ | ⟨_, g2⟩
          · exact absurd q n2
          · exact R.uniq j k xs ys a f1 f2 g1 g2
end
/-- M: what is known of a raised class, whether it is one of the handler's; i: the slot of the name; the suite knows the exception's place and class -/
def sTryAs (i : Nat) (M : Addr → Option Bool) (body : DS) (suite : Addr → Addr → DS) : DS := fun D env h => body { D with ex := fun c env' h' => ∃ b, M c = some b ∧
  (b = true → ∀ a, suite a c { nx := fun e1 h1 => D.nx (e1.set i none) h1, rt := D.rt, bk := fun e1 h1 => D.bk (e1.set i none) h1, ct := fun e1 h1 => D.ct (e1.set i none) h1 } (env'.set i (some (.exc c a))) h') ∧ (b = false → D.ex c env' h') } env h
@[simp ↓] theorem sTryAs_eq (i : Nat) (M : Addr → Option Bool) (body : DS) (suite : Addr → Addr → DS) (D : DEnds) (env : Env) (h : Hs) : sTryAs i M body suite D env h = (body { D with ex := fun c env' h' => ∃ b, M c = some b ∧
  (b = true → ∀ a, suite a c { nx := fun e1 h1 => D.nx (e1.set i none) h1, rt := D.rt, bk := fun e1 h1 => D.bk (e1.set i none) h1, ct := fun e1 h1 => D.ct (e1.set i none) h1 } (env'.set i (some (.exc c a))) h') ∧ (b = false → D.ex c env' h') } env h) := id rfl
/-- isinstance(n, Y) in the suite: B tells of each class that may be caught -/
def dIsE (i : Nat) (a c : Addr) (B : Addr → Option Bool) : DE := fun env h Q _ => env[i]? = some (some (.exc c a)) ∧ ∃ b, B c = some b ∧ Q (.val (.bl b)) h
@[simp ↓] theorem dIsE_eq (i : Nat) (a c : Addr) (B : Addr → Option Bool) (env : Env) (h : Hs) (Q : VQ) (u1 : XQ) : dIsE i a c B env h Q u1 = (env[i]? = some (some (.exc c a)) ∧ ∃ b, B c = some b ∧ Q (.val (.bl b)) h) := id rfl
section
/-- a suite's reading, for the classes that are known -/
def tSuite (K : PySem.W.Frag) (IsC : Addr → Prop) (suite : Addr → Addr → DS) (a : Addr) (cls : Value) (d : Option Addr) : TS := fun D σ H => ∃ c, cls = .ref c ∧ d = none ∧ IsC c ∧ tS K W0 (suite a c) D σ H
theorem ss_tryAs {K : PySem.W.Frag} {Wout : WX} {cV : Value} {i : Nat} {M : Addr → Option Bool} {body : DS} {suite : Addr → Addr → DS} {IsC : Addr → Prop} (hM : ∀ c b, M c = some b → IsC c ∧ PySem.W.exmOne K (.ref c) cV = some b) :
    SS K Wout (fun D σ H => (fun W => tS K W body) (wAs K cV i (tSuite K IsC suite) Wout D) D σ H) (sTryAs i M body suite) := ⟨fun C m σ H env h Df D eK R hf p => by
  refine ⟨C, m, env, h, _, eK, R, hf, p.nx, p.bk, p.ct, p.rt, fun c m1 σ1 H1 env1 h1 R1 hx => ?_⟩
  obtain ⟨b, e, ht, hn⟩ := hx
  obtain ⟨ic, em⟩ := hM c b e
  refine ⟨b, em, fun bt a na => ⟨c, rfl, rfl, ic, C, m1, env1.set i (some (.exc c a)), h1, _, eK, R1.setExc, ht bt a, ?_⟩, fun bf => p.ex c m1 σ1 H1 env1 h1 R1 (hn bf)⟩
  exact ⟨fun m σ H env h R q => p.nx m _ H _ h R.clear q, fun m σ H env h R q => p.bk m _ H _ h R.clear q, fun m σ H env h R q => p.ct m _ H _ h R.clear q, p.rt, fun _ _ _ _ _ _ _ q => q.elim⟩⟩
variable {X : Cx}
theorem psd_tryAs {Wout : WX} {x n : Str} {cV : Value} {i : Nat} {M : Addr → Option Bool} {body suite : List Stmt} {b0 : Stmt} {np pos pos' : Pos} {fb : DS} {fs : Addr → Addr → DS} {IsC : Addr → Prop} (hn : Names X x cV) (tk : Takes X Wout)
    (hM : ∀ c b, M c = some b → IsC c ∧ PySem.W.exmOne X.K (.ref c) cV = some b)
    (hb : ∀ (W : WX) (pn : List (Addr × Obj)) (xe : Value → Shared → Prop), Takes (X.tr pn xe) W → PassesOwn (model X.prog X.w) X.A X.env xe → PSsd (X.tr pn xe) W body fb)
    (hu : ∀ (a c : Addr) (oe : Obj) (pn : List (Addr × Obj)), IsC c → Zc (.ref c) none oe → (∃ vs, oe.data = .fields vs) → PSsd (X.suite a ((a, oe) :: pn)) W0 (b0 :: suite) (fs a c))
    (hi : X.N[i]? = some n := by rfl) (hN : X.N.Nodup := by decide) (hl : X.env.kindOf n = some .local := by rfl) (hs : X.stack = X.env :: X.outer := by rfl) (hf : X.env.frame = some X.env.locals := by rfl) :
    PSd X Wout (.Try body [.ExceptHandler (some (.Name x np)) (some n) (b0 :: suite) pos'] [] [] pos) (sTryAs i M fb fs) := by
  refine .of (ps_try_as (ts := tSuite X.K IsC fs) (tb := fun W => tS X.K W fb) hs hf hN hi hl hn tk hb fun a oe cls d pn hz hv => ?_) (ss_tryAs hM)
  refine ⟨fun pins s σ H D I h => ?_⟩
  obtain ⟨c, rfl, rfl, ic, q⟩ := h
  exact (hu a c oe pn ic hz hv).run pins s σ H D I q
theorem se_isE {K : PySem.W.Frag} {W : WX} {i : Nat} {a c T : Addr} {B : Addr → Option Bool} (hB : ∀ b, B c = some b → PySem.W.kitOne K (.ref c) (.ref T) = some b) : SE K W (tCB (rIsE K c a) (tCons (tVar i) (tCons (tC (.ref T)) tNil))) (dIsE i a c B) := ⟨fun C m σ H env h Q E Q' eK R hf p px => by
  obtain ⟨e, b, eb, q⟩ := hf
  obtain ⟨v, s, r, _⟩ := R.slot i _ e
  have r : v = .ref a := r
  subst r
  refine ⟨_, s, ?_⟩
  refine ⟨.ref T, .ref T, b, rfl, fun u ru => ru, hB b eb, ?_⟩
  exact p m (.bl b) H (.val (.bl b)) h (.refl m H) R (.bl b) q⟩
theorem pd_isE {W : WX} {i : Nat} {a c T : Addr} {oe : Obj} {pn : List (Addr × Obj)} {B : Addr → Option Bool} {n y : Str} {p p1 p2 pos : Pos} (F : ExcC X.K c) (hz : Zc (.ref c) none oe) (hv : ∃ vs, oe.data = .fields vs) (hB : ∀ b, B c = some b → PySem.W.kitOne X.K (.ref c) (.ref T) = some b) (hT : X.mg y = some (.ref T)) (hm : X.mg "isinstance" = none)
    (ho : PE (X.suite a ((a, oe) :: pn)) (.Name n p1) (tVar i)) (hg : Gl X "isinstance" := by rfl) (hgy : Gl X y := by rfl) (hdy : (y == ("__debug__" : Str)) = false := by decide) (he : starEach [.Name n p1, .Name y p2] X.env = (false, eval (.Name n p1) X.env) :: starEach [.Name y p2] X.env := by rfl) (hpl : (backTo pos (starEach [.Name y p2] X.env)).any (·.1) = false := by rfl) :
    PEd (X.suite a ((a, oe) :: pn)) W (.Call (.Name "isinstance" p) [.Name n p1, .Name y p2] [] pos) (dIsE i a c B) :=
  .of (pe_callB (X := X.suite a ((a, oe) :: pn)) (call_isE F hz hv) hg hm boot_isi (pa_cons ho (pa_cons (pe_glob (X := X.suite a ((a, oe) :: pn)) (v := .ref T) hgy hT rfl hdy) pa_nil)) (by decide) (by decide) he hpl) (se_isE hB)
end
/-! ### methods and makers, as they stand in a class -/
structure MethDef (K : PySem.W.Frag) (C : Addr) (mn qual : Str) (st : Stmt) (ps : List Str) : Prop where
  at_ : ∃ (f : Addr) (fd : FuncData), Fun K mn qual st f fd ∧ Meth K C mn f ∧ Binds K fd ps []
structure MakeDef (K : PySem.W.Frag) (mg : Str → Option Value) (x : Str) (C : Addr) (qual : Str) (st : Stmt) (ps : List Str) : Prop where
  at_ : ∃ (f : Addr) (fd : FuncData), Fun K "__init__" qual st f fd ∧ mg x = some (.ref C) ∧ Mk K C f ∧ Binds K fd ps []
section
variable {P : Program} {w : World} {K : PySem.W.Frag} {mg : Str → Option Value} {base : Heap}
theorem MethAt.mk' {C : Addr} {mn qual : Str} {st : Stmt} {N ps : List Str} {k : Nat} {body : DS} (D : MethDef K C mn qual st ps) (S : FnScope N ps (defScope st))
    (hb : ∀ (f : Addr) (cdv : Value) (A : Around) (outer : List PySem.Env) (s : Shared) (H : Hp) (E : XK), Room k (A.deeper (envOfC qual (defScope st) s.heap.objs.size f cdv)) → PSsd (cxOf CX0 P w K mg base N qual (defScope st) f cdv A outer s H E).nox W0 (defBody st) body) :
    MethAt P w K mg base (k + 1) C mn ps.length (dDef ps.length (N.length - ps.length) body) := by
  obtain ⟨f, fd, F, hm, hb'⟩ := D.at_
  exact ⟨f, fd, ps, hm, hb', fnOk_q F S hb⟩
theorem MakeAt.mk' {x : Str} {C : Addr} {qual : Str} {st : Stmt} {N ps : List Str} {k : Nat} {body : DS} (D : MakeDef K mg x C qual st ps) (S : FnScope N ps (defScope st))
    (hb : ∀ (f : Addr) (cdv : Value) (A : Around) (outer : List PySem.Env) (s : Shared) (H : Hp) (E : XK), Room k (A.deeper (envOfC qual (defScope st) s.heap.objs.size f cdv)) → PSsd (cxOf CX0 P w K mg base N qual (defScope st) f cdv A outer s H E).nox W0 (defBody st) body) :
    MakeAt P w K mg base (k + 1) x C ps.length (dDef ps.length (N.length - ps.length) body) := by
  obtain ⟨f, fd, F, hg, hm, hb'⟩ := D.at_
  exact ⟨f, fd, ps, hg, hm, hb', fnOk_q F S hb⟩
/-- the same, where errors leave -/
theorem MethAtX.mk' {C : Addr} {mn qual : Str} {st : Stmt} {N ps : List Str} {k : Nat} {body : DS} (D : MethDef K C mn qual st ps) (S : FnScope N ps (defScope st))
    (hb : ∀ (f : Addr) (cdv : Value) (A : Around) (outer : List PySem.Env) (s : Shared) (H : Hp) (E : XK), Room k (A.deeper (envOfC qual (defScope st) s.heap.objs.size f cdv)) → PSsd (cxOf (CX P w) P w K mg base N qual (defScope st) f cdv A outer s H E) (WR E) (defBody st) body) :
    MethAtX P w K mg base (k + 1) C mn ps.length (dDef ps.length (N.length - ps.length) body) := by
  obtain ⟨f, fd, F, hm, hb'⟩ := D.at_
  exact ⟨f, fd, ps, hm, hb', okX_def F S fun cdv A outer s H E hr => ⟨_, hb f cdv A outer s H E hr, ssS⟩⟩
theorem FnAtX.mk' {x : Str} {st : Stmt} {N ps : List Str} {k : Nat} {body : DS} (D : DefAt K mg x st ps) (S : FnScope N ps (defScope st))
    (hb : ∀ (f : Addr) (cdv : Value) (A : Around) (outer : List PySem.Env) (s : Shared) (H : Hp) (E : XK), Room k (A.deeper (envOfC x (defScope st) s.heap.objs.size f cdv)) → PSsd (cxOf (CX P w) P w K mg base N x (defScope st) f cdv A outer s H E) (WR E) (defBody st) body) :
    FnAtX P w K mg base (k + 1) x ps.length (dDef ps.length (N.length - ps.length) body) := by
  obtain ⟨f, fd, F, hm, hb'⟩ := D.at_
  exact ⟨f, fd, ps, hm, F.kp, hb', okX_def F S fun cdv A outer s H E hr => ⟨_, hb f cdv A outer s H E hr, ssS⟩⟩
theorem takesR {P : Program} {w : World} {N : List Str} {qual : Str} {sc : Scope} {f : Addr} {cdv : Value} {A : Around} {outer : List PySem.Env} {s : Shared} {H : Hp} {E : XK} : Takes (cxOf (CX P w) P w K mg base N qual sc f cdv A outer s H E) (WR E) := takes_of rfl rfl rfl rfl
/-- what is known of classes, by a list -/
def tbl (l : List (Addr × Bool)) : Addr → Option Bool := fun c => List.lookup c l
theorem tbl_mem {l : List (Addr × Bool)} {c : Addr} {b : Bool} (h : tbl l c = some b) : (c, b) ∈ l := by
  unfold tbl at h
  induction l with
  | nil => cases h
  | cons x l ih =>
    rw [List.lookup_cons] at h
    split at h
    · rename_i q
      have e : c = x.1 := by simpa using q
      cases h
      rw [e]
      exact List.mem_cons_self
    · exact List.mem_cons_of_mem _ (ih h)
theorem tbl_all {l : List (Addr × Bool)} {R : Addr → Bool → Prop} (h : ∀ p ∈ l, R p.1 p.2) {c : Addr} {b : Bool} (e : tbl l c = some b) : R c b := h _ (tbl_mem e)
theorem ta_nil {R : Addr → Bool → Prop} : ∀ p ∈ ([] : List (Addr × Bool)), R p.1 p.2 := fun _ h => nomatch h
theorem ta_cons {R : Addr → Bool → Prop} {l : List (Addr × Bool)} {c : Addr} {b : Bool} (h : R c b) (t : ∀ p ∈ l, R p.1 p.2) : ∀ p ∈ (c, b) :: l, R p.1 p.2 := fun p m => by
  rcases List.mem_cons.mp m with rfl | m
  · exact h
  · exact t p m
/-- a class that the table knows -/
abbrev InT (l : List (Addr × Bool)) (c : Addr) : Prop := ∃ b, tbl l c = some b
theorem InT.all {l : List (Addr × Bool)} {R : Addr → Bool → Prop} {c : Addr} (i : InT l c) (h : ∀ p ∈ l, R p.1 p.2) : ∃ b, R c b := by
  obtain ⟨b, e⟩ := i
  exact ⟨b, tbl_all h e⟩
theorem InT.exc {K : PySem.W.Frag} {l : List (Addr × Bool)} {c : Addr} (i : InT l c) (h : ∀ p ∈ l, ExcC K p.1) : ExcC K c := by
  obtain ⟨b, e⟩ := i
  exact tbl_all (R := fun c _ => ExcC K c) h e
end
end PM

namespace PM
open PySem PySem.Spec L2
open PyProof.Rows hiding St

/-! ### k in d, del d[k], d.get(k, x), d.pop(k), d.pop(k, x): dicts of ints and texts -/
def dropP (kvs : List (L2.Key × PV)) (k : L2.Key) : List (L2.Key × PV) := kvs.filter fun kv => decide (kv.1 ≠ k)
section
variable {K : PySem.W.Frag} {W : WX} {C : Ctx} {m : List Addr} {σ : St} {env : Env} {H : Hp} {h : Hs}
theorem drop_rep {Ex : Ad} {k : L2.Key} : ∀ {vs : List (L2.Key × V)} {kvs : List (L2.Key × PV)}, vs.map (·.1) = kvs.map (·.1) → RepL K Ex m H (vs.map (·.2)) (kvs.map (·.2)) → (dropK vs k).map (·.1) = (dropP kvs k).map (·.1) ∧ RepL K Ex m H ((dropK vs k).map (·.2)) ((dropP kvs k).map (·.2))
  | [], [], _, _ => ⟨rfl, .nil⟩
  | [], _ :: _, e, _ => by simp at e
  | _ :: _, [], e, _ => by simp at e
  | a :: vs, b :: kvs, e, r => by
    simp only [List.map_cons, List.cons.injEq] at e r
    cases r with
    | cons r1 r2 =>
      obtain ⟨i1, i2⟩ := drop_rep (k := k) e.2 r2
      unfold dropK dropP at i1 i2 ⊢
      by_cases z : b.1 = k
      · rw [List.filter_cons_of_neg (by simpa [e.1] using z), List.filter_cons_of_neg (by simpa using z)]
        exact ⟨i1, i2⟩
      · rw [List.filter_cons_of_pos (by simpa [e.1] using z), List.filter_cons_of_pos (by simpa using z)]
        exact ⟨by simp only [List.map_cons, e.1, i1], .cons r1 i2⟩
def rInK (neg : Bool) : R2 := fun x y H Q => ∃ a o, y = .ref a ∧ DGet H a x o ∧ Q (.bl (if neg then !o.isSome else o.isSome)) H
def gInK (neg : Bool) : G2 := fun h x y q => ∃ n kvs k, y = .val (.ref n) ∧ asKey x = some k ∧ h[n]? = some (.dK kvs) ∧ q (.val (.bl (if neg then !(valP kvs k).isSome else (valP kvs k).isSome)))
@[simp ↓] theorem gInK_eq (neg : Bool) (h : Hs) (x y : SV) (q : SV → Prop) : gInK neg h x y q = (∃ n kvs k, y = .val (.ref n) ∧ asKey x = some k ∧ h[n]? = some (.dK kvs) ∧ q (.val (.bl (if neg then !(valP kvs k).isSome else (valP kvs k).isSome)))) := id rfl
theorem os_inK {neg : Bool} : OpS K (rInK neg) (gInK neg) := fun C m σ H env h x y sx sy q Q' eK R rx ry hg p => by
  subst eK
  obtain ⟨n, kvs, k, rfl, ek, e1, hq⟩ := hg
  have rk := asKey_v rx ek
  subst rk
  obtain ⟨a, rfl, _, vs, hv, ka, ra⟩ := R.cellAt (show Rep C.K (ExOf C σ env m) m H y (.ref n) from ry) e1
  refine ⟨a, valV vs k, rfl, DGet.k hv, ?_⟩
  have : (valV vs k).isSome = (valP kvs k).isSome := by
    rcases find_rep ka ra k with ⟨v, p', f1, f2, _⟩ | ⟨f1, f2⟩ <;> rw [f1, f2] <;> rfl
  rw [this]
  exact p.bl R hq
def sDelK (o i : DE) : DS := fun D env h => o env h (fun x h1 => i env h1 (fun y h2 => ∃ n kvs k, x = .val (.ref n) ∧ asKey y = some k ∧ h2[n]? = some (.dK kvs) ∧ (valP kvs k).isSome = true ∧ D.nx env (h2.set n (.dK (dropP kvs k)))) fun c h => D.ex c env h) fun c h => D.ex c env h
@[simp ↓] theorem sDelK_eq (o i : DE) (D : DEnds) (env : Env) (h : Hs) : sDelK o i D env h = (o env h (fun x h1 => i env h1 (fun y h2 => ∃ n kvs k, x = .val (.ref n) ∧ asKey y = some k ∧ h2[n]? = some (.dK kvs) ∧ (valP kvs k).isSome = true ∧ D.nx env (h2.set n (.dK (dropP kvs k)))) fun c h => D.ex c env h) fun c h => D.ex c env h) := id rfl
/-- the cell of a dict loses a key -/
theorem Rel.dropCell {n : Nat} {a : Addr} {vs : List (L2.Key × V)} {kvs : List (L2.Key × PV)} {k : L2.Key} (R : Rel C m σ H env h) (ea : m[n]? = some a) (e : h[n]? = some (.dK kvs)) (hv : H a = some (.dK vs)) (ek : vs.map (·.1) = kvs.map (·.1)) (rl : RepL C.K (ExOf C σ env m) m H (vs.map (·.2)) (kvs.map (·.2))) :
    StE m H m (upd H a (.dK (dropK vs k))) ∧ Rel C m σ (upd H a (.dK (dropK vs k))) env (h.set n (.dK (dropP kvs k))) := by
  have am : a ∈ m := List.mem_of_getElem? ea
  have kp : ∀ o, Kp (ExOf C σ env m) H (ExOf C σ env m) (upd H a o) := fun o b u e q => ⟨by rw [upd_ne fun z => q (by rw [z]; exact .inr (.inr am))]; exact e, q⟩
  obtain ⟨pk, pr⟩ := drop_rep (k := k) ek rl
  exact R.mutCell (o := .dK (dropK vs k)) ea (List.getElem?_eq_some_iff.mp e).1 (c' := .dK (dropP kvs k)) ⟨_, upd_same, pk, pr.mono (kp _) ⟨[], by simp⟩⟩
theorem ss_delK {to ti : TE} {fo fi : DE} (ho : SE K W to fo) (hi : SE K W ti fi) : SS K W (sDDel to ti) (sDelK fo fi) := ⟨fun C m σ H env h Df D eK R hf p => by
  refine ho.run C m σ H env h _ _ _ eK R hf (fun m1 x H1 sx h1 S1 R1 r1 q1 => ?_) p.px
  refine hi.run (C.own x sx) m1 σ H1 env h1 _ _ _ ((C.own_K x sx).trans eK) R1 q1 (fun m2 y H2 sy h2 S2 R2 r2 q2 => ?_) p.px.own
  obtain ⟨n, kvs, k, rfl, ek, e3, hs, q3⟩ := q2
  have rk := asKey_v r2 ek
  subst rk
  have rx := r1.step S2 (N' := fun _ => True) fun _ _ => trivial
  obtain ⟨a, rfl, ea, vs, hv, ekk, rl⟩ := R2.drop.drop.cellAt (show Rep C.K (ExOf C σ env m2) m2 H2 x (.ref n) from rx) e3
  obtain ⟨_, R4⟩ := R2.drop.drop.dropCell (k := k) ea e3 hv ekk rl
  refine ⟨a, vs, k, rfl, hv, rfl, ?_, p.nx m2 σ _ env _ R4 q3⟩
  rcases find_rep ekk rl k with ⟨v, p', f1, f2, _⟩ | ⟨f1, f2⟩
  · rw [f1]; rfl
  · rw [f2] at hs; cases hs⟩
/-- d.get(k, x) -/
def dGetK2 (o i x : DE) : DE := fun env h Q E => o env h (fun u h1 => ∃ n kvs0, u = .val (.ref n) ∧ h1[n]? = some (.dK kvs0) ∧ i env h1 (fun y h2 => x env h2 (fun z h3 => ∃ kvs k, asKey y = some k ∧ h3[n]? = some (.dK kvs) ∧ (∀ p, valP kvs k = some p → Q (.val p) h3) ∧ (valP kvs k = none → Q z h3)) E) E) E
@[simp ↓] theorem dGetK2_eq (o i x : DE) (env : Env) (h : Hs) (Q : VQ) (E : XQ) : dGetK2 o i x env h Q E = (o env h (fun u h1 => ∃ n kvs0, u = .val (.ref n) ∧ h1[n]? = some (.dK kvs0) ∧ i env h1 (fun y h2 => x env h2 (fun z h3 => ∃ kvs k, asKey y = some k ∧ h3[n]? = some (.dK kvs) ∧ (∀ p, valP kvs k = some p → Q (.val p) h3) ∧ (valP kvs k = none → Q z h3)) E) E) E) := id rfl
theorem se_getK2 {to ti tx : TE} {fo fi fx : DE} (ho : SE K W to fo) (hi : SE K W ti fi) (hx : SE K W tx fx) : SE K W (tDGet2 to ti tx) (dGetK2 fo fi fx) := ⟨fun C m σ H env h Q E Q' eK R hf p px => by
  refine ho.run C m σ H env h _ E _ eK R hf (fun m1 u H1 su h1 S1 R1 r1 q1 => ?_) px
  obtain ⟨n, kvs0, rfl, e0, q1⟩ := q1
  obtain ⟨a, rfl, ea, vs0, hv0, _, _⟩ := R1.drop.cellAt (show Rep C.K (ExOf C σ env m1) m1 H1 u (.ref n) from r1) e0
  refine ⟨a, rfl, .inl ⟨_, .inl hv0⟩, ?_⟩
  refine hi.run C m1 σ H1 env h1 _ E _ eK R1.drop q1 (fun m2 y H2 sy h2 S2 R2 r2 q2 => ?_) (px.go S1)
  refine hx.run C m2 σ H2 env h2 _ E _ eK R2.drop q2 (fun m3 z H3 sz h3 S3 R3 r3 q3 => ?_) ((px.go S1).go S2)
  obtain ⟨kvs, k, ek, e3, qs, qn⟩ := q3
  have rk := asKey_v r2 ek
  subst rk
  have S23 := S2.trans S3
  have ru : RepS C (ExOf C σ env m3) m3 (fun _ => True) H3 (.ref a) (.val (.ref n)) := r1.step S23 fun _ _ => trivial
  obtain ⟨a', ea', _, vs, hv, ekk, rl⟩ := R3.drop.cellAt (show Rep C.K (ExOf C σ env m3) m3 H3 (.ref a) (.ref n) from ru) e3
  cases ea'
  have S := (S1.trans S2).trans S3
  refine ⟨valV vs k, DGet.k hv, ?_⟩
  rcases find_rep ekk rl k with ⟨v, p', f1, f2, rv⟩ | ⟨f1, f2⟩
  · rw [f1]
    exact p m3 v H3 (.val p') h3 S R3.drop rv (qs p' f2)
  · rw [f1]
    exact p m3 z H3 sz h3 S R3 (r3.less rfl (fun _ q => q) fun b q => stnew (S1.trans S2) q) (qn f2)⟩
/-- d.pop(k): it is there -/
def dPopK1 (o i : DE) : DE := fun env h Q E => o env h (fun u h1 => ∃ n kvs0, u = .val (.ref n) ∧ h1[n]? = some (.dK kvs0) ∧ i env h1 (fun y h2 => ∃ kvs k p, asKey y = some k ∧ h2[n]? = some (.dK kvs) ∧ valP kvs k = some p ∧ Q (.val p) (h2.set n (.dK (dropP kvs k)))) E) E
@[simp ↓] theorem dPopK1_eq (o i : DE) (env : Env) (h : Hs) (Q : VQ) (E : XQ) : dPopK1 o i env h Q E = (o env h (fun u h1 => ∃ n kvs0, u = .val (.ref n) ∧ h1[n]? = some (.dK kvs0) ∧ i env h1 (fun y h2 => ∃ kvs k p, asKey y = some k ∧ h2[n]? = some (.dK kvs) ∧ valP kvs k = some p ∧ Q (.val p) (h2.set n (.dK (dropP kvs k)))) E) E) := id rfl
theorem se_popK1 {to ti : TE} {fo fi : DE} (ho : SE K W to fo) (hi : SE K W ti fi) : SE K W (tDPop1 to ti) (dPopK1 fo fi) := ⟨fun C m σ H env h Q E Q' eK R hf p px => by
  refine ho.run C m σ H env h _ E _ eK R hf (fun m1 u H1 su h1 S1 R1 r1 q1 => ?_) px
  obtain ⟨n, kvs0, rfl, e0, q1⟩ := q1
  obtain ⟨a, rfl, ea, vs0, hv0, _, _⟩ := R1.drop.cellAt (show Rep C.K (ExOf C σ env m1) m1 H1 u (.ref n) from r1) e0
  refine ⟨a, rfl, .inl ⟨_, .inl hv0⟩, ?_⟩
  refine hi.run C m1 σ H1 env h1 _ E _ eK R1.drop q1 (fun m2 y H2 sy h2 S2 R2 r2 q2 => ?_) (px.go S1)
  obtain ⟨kvs, k, pv, ek, e3, ep, q3⟩ := q2
  have rk := asKey_v r2 ek
  subst rk
  have ru : RepS C (ExOf C σ env m2) m2 (fun _ => True) H2 (.ref a) (.val (.ref n)) := r1.step S2 fun _ _ => trivial
  obtain ⟨a', ea', ea2, vs, hv, ekk, rl⟩ := R2.drop.cellAt (show Rep C.K (ExOf C σ env m2) m2 H2 (.ref a) (.ref n) from ru) e3
  cases ea'
  rcases find_rep ekk rl k with ⟨v, p', f1, f2, rv⟩ | ⟨f1, f2⟩
  · rw [ep] at f2
    cases f2
    obtain ⟨S4, R4⟩ := R2.drop.dropCell (k := k) ea2 e3 hv ekk rl
    refine ⟨vs, k, v, hv, rfl, f1, p m2 v _ (.val pv) _ ((S1.trans S2).trans S4) R4 ?_ q3⟩
    exact Rep.mono (R2.drop.kp S4) S4.ex' rv
  · rw [ep] at f2
    cases f2⟩
end
section
variable {X : Cx} {W : WX} {o i x : Expr} {fo fi fx : DE} {pos tpos apos cpos : Pos}
theorem op_inK (hu : X.A.units + 65 < cLine) : OpR X (compareOp .In) (rInK false) := by
  intro pins s σ H x y v u Q I rx ry h
  obtain ⟨a, ov, rfl, g, q⟩ := h
  cases (show u = Value.ref a from ry)
  exact d_in (by omega) I g rx fun s3 I3 => ⟨.bl ov.isSome, H, I3, rfl, q⟩
theorem op_notInK (hu : X.A.units + 65 < cLine) : OpR X (compareOp .NotIn) (rInK true) := by
  intro pins s σ H x y v u Q I rx ry h
  obtain ⟨a, ov, rfl, g, q⟩ := h
  cases (show u = Value.ref a from ry)
  exact d_notIn (by omega) I g rx fun s3 I3 => ⟨.bl (!ov.isSome), H, I3, rfl, q⟩
theorem cd_inK (hu : X.A.units + 65 < cLine) : CmpD X .In (gInK false) := ⟨_, op_inK hu, os_inK⟩
theorem cd_notInK (hu : X.A.units + 65 < cLine) : CmpD X .NotIn (gInK true) := ⟨_, op_notInK hu, os_inK⟩
theorem psd_delK (ho : PEd X W o fo) (hi : PEd X W i fi) : PSd X W (.Delete [.Subscript o i tpos] pos) (sDelK fo fi) := .of (ps_ddel ho hi) (ss_delK seE seE)
theorem pd_getK2 (hu : X.A.units + 65 < cLine) (ho : PEd X W o fo) (hi : PEd X W i fi) (hx : PEd X W x fx) (m : M2 X o "get" apos i x cpos := by exact ⟨rfl, rfl, rfl, rfl⟩) : PEd X W (.Call (.Attribute o "get" apos) [i, x] [] cpos) (dGetK2 fo fi fx) := .of (pe_dget2 (by omega) ho hi hx m) (se_getK2 seE seE seE)
theorem pd_popK1 (ho : PEd X W o fo) (hi : PEd X W i fi) (m : M1 X o "pop" apos i cpos := by exact ⟨rfl, rfl, rfl, rfl⟩) : PEd X W (.Call (.Attribute o "pop" apos) [i] [] cpos) (dPopK1 fo fi) := .of (pe_dpop1 ho hi m) (se_popK1 seE seE)
end
end PM

namespace PM
open PySem PySem.Spec L2
open PyProof.Rows hiding St

/-! ### o.f += e, o.f -= e: ints -/
def sFldAug (C : Addr) (f : Str) (g : Int → Int → Int) (o e : DE) : DS := fun D env h => o env h (fun x h1 => ∃ n fs i, x = .val (.ref n) ∧ h1[n]? = some (.ins C fs) ∧ lookF f fs = some (.int i) ∧ e env h1 (fun y h2 => ∃ j fs', y = .val (.int j) ∧ h2[n]? = some (.ins C fs') ∧ fs'.length < 1000 ∧ D.nx env (h2.set n (.ins C (putFP f (.int (g i j)) fs')))) fun c h => D.ex c env h) fun c h => D.ex c env h
@[simp ↓] theorem sFldAug_eq (C : Addr) (f : Str) (g : Int → Int → Int) (o e : DE) (D : DEnds) (env : Env) (h : Hs) : sFldAug C f g o e D env h = (o env h (fun x h1 => ∃ n fs i, x = .val (.ref n) ∧ h1[n]? = some (.ins C fs) ∧ lookF f fs = some (.int i) ∧ e env h1 (fun y h2 => ∃ j fs', y = .val (.int j) ∧ h2[n]? = some (.ins C fs') ∧ fs'.length < 1000 ∧ D.nx env (h2.set n (.ins C (putFP f (.int (g i j)) fs')))) fun c h => D.ex c env h) fun c h => D.ex c env h) := id rfl
section
variable {K : PySem.W.Frag} {W : WX}
theorem ss_fldaug {D : Addr} {to te : TE} {fo fe : DE} {f : Str} {g : Int → Int → Int} {rd : V → V → Hp → VK → Prop} (hr : ∀ i j H Q, Q (.int (g i j)) H → rd (.int i) (.int j) H Q) (cl : Cls K D) (na : NoAttr K D f) (ho : SE K W to fo) (he : SE K W te fe) : SS K W (L2.sFldAug K to te rd f) (sFldAug D f g fo fe) := ⟨fun C m σ H env h Df Ds eK R hf p => by
  refine ho.run C m σ H env h _ _ _ eK R hf (fun m1 x H1 sx h1 S1 R1 r1 q1 => ?_) p.px
  obtain ⟨n, fs, i, rfl, e1, e2, q1⟩ := q1
  obtain ⟨a, rfl, ea, dx, vs, hv, hx, nx, ek, rl⟩ := R1.drop.cellAt (show Rep C.K (ExOf C σ env m1) m1 H1 x (.ref n) from r1) e1
  obtain ⟨v, l1, rv⟩ := look_rep ek rl e2
  cases rv
  refine ⟨a, D, dx, vs, _, rfl, hv, eK ▸ cl, eK ▸ na, l1, ?_⟩
  refine he.run C m1 σ H1 env h1 _ _ _ eK R1.drop q1 (fun m2 y H2 sy h2 S2 R2 r2 q2 => ?_) p.px
  obtain ⟨j, fs', rfl, e3, lz, q3⟩ := q2
  have ry : Rep C.K (ExOf C σ env m2) m2 H2 y (.int j) := r2
  cases ry
  have ru : RepS C (ExOf C σ env m2) m2 (fun _ => True) H2 (.ref a) (.val (.ref n)) := r1.step S2 fun _ _ => trivial
  obtain ⟨a', ea', ea2, dx', vs', hv', hx', nx', ek', rl'⟩ := R2.drop.cellAt (show Rep C.K (ExOf C σ env m2) m2 H2 (.ref a) (.ref n) from ru) e3
  cases ea'
  have am : a ∈ m2 := List.mem_of_getElem? ea2
  have kp : ∀ o, Kp (ExOf C σ env m2) H2 (ExOf C σ env m2) (upd H2 a o) := fun o b u e q => ⟨by rw [upd_ne fun z => q (by rw [z]; exact .inr (.inr am))]; exact e, q⟩
  obtain ⟨pk, pr⟩ := putF_rep (f := f) (v := .int (g i j)) (p := .int (g i j)) (.int _) ek' rl'
  have lv := congrArg List.length ek'
  simp only [List.length_map] at lv
  have nd : dx' ≠ a := fun z => nx' (by rw [z]; exact .inr (.inr am))
  obtain ⟨_, R4⟩ := R2.drop.mutCell (o := .ins D dx' (putF f (.int (g i j)) vs')) ea2 (List.getElem?_eq_some_iff.mp e3).1 (c' := .ins D (putFP f (.int (g i j)) fs')) ⟨dx', _, upd_same, by rw [upd_ne nd]; exact hx', nx', pk, pr.mono (kp _) ⟨[], by simp⟩⟩
  exact hr i j H2 _ ⟨dx', vs', hv', by omega, p.nx m2 σ _ env _ R4 q3⟩⟩
end
section
variable {X : Cx} {W : WX} {o e : Expr} {fo fe : DE} {pos tpos : Pos} {f : Str} {C : Addr}
theorem psd_fldAdd (cl : Cls X.K C) (na : NoAttr X.K C f) (ho : PEd X W o fo) (he : PEd X W e fe) : PSd X W (.AugAssign (.Attribute o f tpos) .Add e pos) (sFldAug C f (· + ·) fo fe) := .of (ps_fldaug ho he in_add) (ss_fldaug (fun i j H Q q => ⟨i, j, rfl, rfl, q⟩) cl na seE seE)
theorem psd_fldSub (cl : Cls X.K C) (na : NoAttr X.K C f) (ho : PEd X W o fo) (he : PEd X W e fe) : PSd X W (.AugAssign (.Attribute o f tpos) .Sub e pos) (sFldAug C f (· - ·) fo fe) := .of (ps_fldaug ho he in_sub) (ss_fldaug (fun i j H Q q => ⟨i, j, rfl, rfl, q⟩) cl na seE seE)
end
end PM

namespace PM
open PySem PySem.Spec L2
open PyProof.Rows hiding St
variable {K : PySem.W.Frag}
/-- the law's beginning without tables, for a denotation that takes addresses -/
theorem lawAt0 {l : PySem.W.OpenLaw} {w : World} {k n : Nat} {x : Str} {mg : Str → Option Value} {fa : Addr} {h : Heap} {d : DF}
    (z : ∃ fd : FuncData, (∀ (s : Shared) (v : Value), BindsTo s fd ⟨[v], []⟩ [(x, v)]) ∧ ∀ base : Heap, K.In base → base.Ns mainGlobals mg → FnOk l.prog w K mg base CX0 k fa fd [x] (spD K 1 d))
    (hd : ∀ ns : List Int, ns.length ≤ n → d [.scr ns] [] (fun sv _ => sv = .val (.bl true)) fun _ _ => False) : LamX.LawAtS l w K CX0 k n x mg fa h := by
  obtain ⟨fd, z1, z2⟩ := z
  exact ⟨fd, [], spD K 1 d, (fun p hp => nomatch hp), (fun p hp => nomatch hp), (fun p hp => nomatch hp), z1, fun H a ns hl _ hT hS => law_start hS (hd ns hl), fun base hK hG _ => z2 base hK hG⟩
end PM

namespace PM
open PySem PySem.Spec L2
open Sem (wp)
open PyProof.Rows hiding St
/-! ### k in d, d[k] = v: dicts with keys None and tuples of numbers -/
section
variable {prog : Program} {w : World} {A : Around} {E : Value → Shared → Prop} {s : Shared}
theorem has_n {d : Addr} {key : Value} {es : List OEnt} {k : OKey} {Q : Bool → Shared → Prop} (hu : A.in1.units + 8 < cLine) (hkey : NestedIs s.heap k.nk key) (hm : NDict d es s.heap) (hk : ∀ x ∈ es, NestedIs s.heap x.1.nk x.2.1)
    (h : ∀ tk, Q (oAt es k).isSome { s with toks := tk }) : wpAny (model prog w) A (contains (.ref d) key) Q E s := by
  have ty := typeIs_N hm
  unfold contains
  try with_reducible refine wpAny_holding ?_
  refine wpAny_bind (wpAny_specialOf ty PySem.F.slot_dict_contains.lookup ?_)
  show wpAny _ _ (if (some (Value.builtin "dict.__contains__") == some Value.none) = true then _ else _) _ E s
  rw [if_neg (by rw [beq_builtin_none]; exact Bool.false_ne_true)]
  refine wpAny_bind (wpAny_callSpecialUnlessNone?_slot (name := Str.ofString "__contains__") ty PySem.F.slot_dict_contains
    (wpAny_call_entry PySem.F.slot_dict_contains ty PySem.F.entry_dict_contains ?_ (args_dict_contains _ _)))
  show wpAny _ _ (dictGet d key >>= _) _ _ s
  refine wpAny_bind (get_n hu hkey hm hk fun tk => ?_)
  have h := h tk
  cases hf : oAt es k with
  | some p =>
    rw [hf] at h
    show wpAny _ _ (ret (.bool true)) _ _ _
    exact wpAny_pure ⟨_, rfl, wpAny_truthy_bool h⟩
  | none =>
    rw [hf] at h
    show wpAny _ _ (Builtin.Dict.pendingKey? d key >>= _) _ _ _
    exact wpAny_bind (wpAny_pendingKey_other hm.1 (wpAny_pure ⟨_, rfl, wpAny_truthy_bool h⟩))
/-- the entries behind d[k] = v -/
def setO (es : List OEnt) (k : OKey) (key v : Value) : List OEnt := if (oAt es k).isSome = true then es.map (fun x => if x.1 = k then (x.1, x.2.1, v) else x) else es ++ [(k, key, v)]
theorem setO_new {es : List OEnt} {k : OKey} {key v : Value} (h : oAt es k = none) : setO es k key v = es ++ [(k, key, v)] := by
  unfold setO
  rw [h]
  rfl
theorem setO_old {es : List OEnt} {k : OKey} {key v u : Value} (h : oAt es k = some u) : setO es k key v = es.map (fun x => if x.1 = k then (x.1, x.2.1, v) else x) := by
  unfold setO
  rw [h]
  rfl
theorem set_keys (es : List OEnt) (k : OKey) (v : Value) : (es.map (fun x => if x.1 = k then (x.1, x.2.1, v) else x)).map (·.1) = es.map (·.1) := by
  rw [List.map_map]
  refine List.map_congr_left fun x _ => ?_
  simp only [Function.comp_apply]
  split <;> rfl
theorem set_same {k : OKey} {v : Value} : ∀ {es : List OEnt}, k ∉ es.map (·.1) → es.map (fun x => if x.1 = k then (x.1, x.2.1, v) else x) = es
  | [], _ => rfl
  | x :: es, h => by
    rw [List.map_cons, List.mem_cons, not_or] at h
    rw [List.map_cons, set_same h.2, if_neg fun z => h.1 z.symm]
theorem set_modify (w' : World) {k : OKey} {v : Value} : ∀ {es : List OEnt} {j : Nat} {p : Value × Value}, (es.map (·.1)).Nodup → es[j]? = some (k, p) → (es.map fun x => nEnt w' (oN x)).modify j (fun e : DictEntry => { e with val := v }) = (es.map (fun x => if x.1 = k then (x.1, x.2.1, v) else x)).map fun x => nEnt w' (oN x)
  | [], j, p, _, e => by simp at e
  | x :: es, 0, p, nd, e => by
    simp only [List.getElem?_cons_zero, Option.some.injEq] at e
    subst e
    rw [List.map_cons, List.nodup_cons] at nd
    rw [List.map_cons, List.map_cons, set_same nd.1, if_pos rfl, List.map_cons]
    rfl
  | x :: es, j + 1, p, nd, e => by
    rw [List.map_cons, List.nodup_cons] at nd
    simp only [List.getElem?_cons_succ] at e
    have ne : ¬ x.1 = k := fun z => nd.1 (List.mem_map.mpr ⟨(k, p), List.mem_of_getElem? e, z.symm⟩)
    rw [List.map_cons, List.modify_succ_cons, set_modify w' nd.2 e, List.map_cons, if_neg ne, List.map_cons]
theorem set_n {d : Addr} {key v : Value} {es : List OEnt} {k : OKey} {Q : Unit → Shared → Prop} (hu : A.units + 8 < cLine) (hkey : NestedIs s.heap k.nk key) (hm : NDict d es s.heap) (hk : ∀ x ∈ es, NestedIs s.heap x.1.nk x.2.1) (lz : es.length < sizeLine)
    (h : ∀ h' tk, NDict d (setO es k key v) h' → Heap.SameBut d s.heap h' → Q () { s with heap := h', toks := tk }) : wpAny (model prog w) A (dictSet d key v) Q E s := by
  obtain ⟨hs, hz, o, er, ep, ho, hc, hd, he, nd⟩ := hm
  have hns : (∃ a, key = .ref a) ∨ key = .none := by
    cases k with
    | none => cases hkey; exact .inr rfl
    | some is => cases hkey; exact .inl ⟨_, rfl⟩
  have esz : er.size = es.length := by
    rw [← Array.length_toList, he w, List.length_map]
  unfold dictSet
  try with_reducible refine wpAny_holding ?_
  refine wpAny_bind (pyHash_key _ _ A s _ hkey (by have := k.depth; omega) ?_)
  unfold dictSetHashed
  try with_reducible refine wpAny_holding ?_
  refine wpAny_bind (find_n (s := { s with toks := s.toks + k.nk.draws }) hu hkey k.depth hns ho hd (NDict.seek he hk nd) (fun hno => ?_) fun j p hj => ?_)
  · have hnot : k ∉ es.map (·.1) := fun z => by
      obtain ⟨x, mx, ex⟩ := List.mem_map.mp z
      obtain ⟨j, hj⟩ := List.mem_iff_getElem?.mp mx
      refine hno j x.2 ?_
      rw [List.getElem?_map, hj, ← ex]
      rfl
    have hq := fun h' tk => setO_new (key := key) (v := v) (oAt_none hno) ▸ h h' tk
    refine wpAny_bind (wpAny_rule (wpAny_updateDictKeys (hz := by omega) (s := { s with toks := s.toks + k.nk.draws }) ho hd (hq _ _ ⟨hs, by simp; omega, _, _, ep + 1, Heap.get?_update_self _ ho (Obj.isFreed_of_dict (Obj.data_mapDictKeys hd _)),
      hc.mapDictKeys _, Obj.data_mapDictKeys hd _, fun w' => ?_, ?_⟩ (Heap.SameBut.update ..))))
    · rw [List.map_append, ← he w', Array.toList_push]
      simp only [nEnt, oN, List.map_cons, List.map_nil]
      rw [OKey.hash w w' k]
    · rw [List.map_append, List.nodup_append]
      refine ⟨nd, by simp, fun x hx y hy z => ?_⟩
      simp only [List.map_cons, List.map_nil, List.mem_singleton] at hy
      exact hnot (by rw [← hy, ← z]; exact hx)
  · have hj' : ∃ p', es[j]? = some (k, p') := by
      rw [List.getElem?_map, Option.map_eq_some_iff] at hj
      obtain ⟨y, hy, ey⟩ := hj
      refine ⟨y.2, ?_⟩
      rw [hy, ← OKey.nk_inj (congrArg (·.1) ey)]
    obtain ⟨p', hj'⟩ := hj'
    have hq := fun h' tk => setO_old (key := key) (v := v) (oAt_some nd (u := p.1) (v := p.2) hj) ▸ h h' tk
    refine wpAny_bind (wpAny_rule (wpAny_bind (wpAny_updateDict (s := { s with toks := s.toks + k.nk.draws }) ho hd (wpAny_point (hq _ _ ⟨hs, by simp; omega, _, _, ep, Heap.get?_update_self _ ho (Obj.isFreed_of_dict (Obj.data_mapDict hd _)),
      hc.mapDict _, Obj.data_mapDict hd _, fun w' => ?_, ?_⟩ (Heap.SameBut.update ..))))))
    · have := set_modify w' (v := v) nd hj'
      rw [← he w'] at this
      obtain ⟨l⟩ := er
      simpa using this
    · rw [set_keys]; exact nd
theorem setItem_n {d : Addr} {key v : Value} {es : List OEnt} {k : OKey} {Q : Unit → Shared → Prop} (hu : A.in1.units + 8 < cLine) (hkey : NestedIs s.heap k.nk key) (hm : NDict d es s.heap) (hk : ∀ x ∈ es, NestedIs s.heap x.1.nk x.2.1) (lz : es.length < sizeLine)
    (h : ∀ h' tk, NDict d (setO es k key v) h' → Heap.SameBut d s.heap h' → Q () { s with heap := h', toks := tk }) : wpAny (model prog w) A (setItem (.ref d) key v) Q E s := by
  have ty := typeIs_N hm
  unfold setItem
  try with_reducible refine wpAny_holding ?_
  refine wpAny_bind (wpAny_sequenceKey ty (by decide) ?_)
  refine wpAny_bind (wpAny_callSpecial?_slot (name := Str.ofString "__setitem__") ty PySem.F.slot_dict_setitem
    (wpAny_call_entry PySem.F.slot_dict_setitem ty PySem.F.entry_dict_setitem ?_ (args_dict_setitem _ _ _)))
  show wpAny _ _ (Builtin.Dict.notOrdered "__setitem__" ⟨[.ref d, key, v], []⟩ >>= _) _ _ s
  refine wpAny_bind (wpAny_notOrdered_dict ty ?_)
  show wpAny _ _ (dictSet d key v >>= _) _ _ s
  exact wpAny_bind (set_n hu hkey hm hk lz fun h' tk hm' hs' => wpAny_pure ⟨.none, rfl, wpAny_pure (h h' tk hm' hs')⟩)
end
end PM

namespace PM
open PySem PySem.Spec L2
open PyProof.Rows hiding St

/-! ### k in d, d[k] = v for dicts with keys None and tuples of numbers -/
def rInN (K : PySem.W.Frag) (neg : Bool) : R2 := fun x y H Q => ∃ a es kvs k, y = .ref a ∧ DictV K H a es kvs ∧ KeyV K H x k ∧ Q (.bl (if neg then !(valV kvs k).isSome else (valV kvs k).isSome)) H
def gInN (neg : Bool) : G2 := fun h x y q => ∃ n kvs k, y = .val (.ref n) ∧ x = .val (okP k) ∧ h[n]? = some (.dN kvs) ∧ q (.val (.bl (if neg then !(valN kvs k).isSome else (valN kvs k).isSome)))
@[simp ↓] theorem gInN_eq (neg : Bool) (h : Hs) (x y : SV) (q : SV → Prop) : gInN neg h x y q = (∃ n kvs k, y = .val (.ref n) ∧ x = .val (okP k) ∧ h[n]? = some (.dN kvs) ∧ q (.val (.bl (if neg then !(valN kvs k).isSome else (valN kvs k).isSome)))) := id rfl
def putN (kvs : List (OKey × PV)) (k : OKey) (v : PV) : List (OKey × PV) := if (valN kvs k).isSome = true then kvs.map (fun kv => if kv.1 = k then (kv.1, v) else kv) else kvs ++ [(k, v)]
def sSetN (o i e : DE) : DS := fun D env h => e env h (fun v h1 => match v.toVal with
  | some p => o env h1 (fun x h2 => i env h2 (fun y h3 => ∃ n kvs k, x = .val (.ref n) ∧ y = .val (okP k) ∧ h3[n]? = some (.dN kvs) ∧ kvs.length < sizeLine ∧ D.nx env (h3.set n (.dN (putN kvs k p)))) fun c h => D.ex c env h) fun c h => D.ex c env h
  | none => False) fun c h => D.ex c env h
@[simp ↓] theorem sSetN_eq (o i e : DE) (D : DEnds) (env : Env) (h : Hs) : sSetN o i e D env h = (e env h (fun v h1 => match v.toVal with
  | some p => o env h1 (fun x h2 => i env h2 (fun y h3 => ∃ n kvs k, x = .val (.ref n) ∧ y = .val (okP k) ∧ h3[n]? = some (.dN kvs) ∧ kvs.length < sizeLine ∧ D.nx env (h3.set n (.dN (putN kvs k p)))) fun c h => D.ex c env h) fun c h => D.ex c env h
  | none => False) fun c h => D.ex c env h) := id rfl
def sPutN (K : PySem.W.Frag) (td ty tv : TE) : TS := fun D σ H => tv σ H fun v H1 => td σ H1 fun x H2 => ty σ H2 fun y H3 => ∃ a es kvs k, x = .ref a ∧ DictV K H3 a es kvs ∧ KeyV K H3 y k ∧ es.length < sizeLine ∧
  ∀ u w, RelV y u → RelV v w → D.nx σ (upd H3 a (.ext (NDict a (setO es k u w))))
section
variable {K : PySem.W.Frag} {W : WX} {C : Ctx} {m : List Addr} {σ : St} {env : Env} {H : Hp} {h : Hs}
theorem os_inN {neg : Bool} : OpS K (rInN K neg) (gInN neg) := fun C m σ H env h x y sx sy q Q' eK R rx ry hg p => by
  subst eK
  obtain ⟨n, kvs, k, rfl, rfl, e1, hq⟩ := hg
  obtain ⟨a, rfl, _, c2⟩ := R.cellAt (show Rep C.K (ExOf C σ env m) m H y (.ref n) from ry) e1
  obtain ⟨es, ls, vs, dv, el, rl, le⟩ := dictV_of c2
  have kv : KeyV C.K H x k := keyV_of (show Rep C.K (ExOf C σ env m) m H x (okP k) from rx)
  refine ⟨a, es, _, k, rfl, dv, kv, ?_⟩
  have : (valV (ls.zip vs) k).isSome = (valN kvs k).isSome := by
    rcases val_rep el rl k with ⟨v, p', f1, f2, _⟩ | ⟨f1, f2⟩ <;> rw [f1, f2] <;> rfl
  rw [this]
  exact p.bl R hq
/-- the cell behind d[k] = v -/
theorem setN_rep {Ex : Ad} {H' : Hp} {a : Addr} {es : List OEnt} {ks vs : List V} {kvs : List (OKey × PV)} {k : OKey} {vk v : V} {u w : Value} {p : PV} (kr : Rep K Ex m H' vk (okP k)) (vr : Rep K Ex m H' v p) (ru : RelV vk u) (rw' : RelV v w)
    (hh : H' a = some (.ext (NDict a (setO es k u w)))) (x1 : es.map (·.1) = kvs.map (·.1)) (x2 : Vals ks (es.map (·.2.1))) (x3 : Vals vs (es.map (·.2.2))) (x4 : RepL K Ex m H' ks (kvs.map fun x => okP x.1)) (x5 : RepL K Ex m H' vs (kvs.map (·.2))) (hs : (oAt es k).isSome = (valN kvs k).isSome) : CellR K Ex m H' a (.dN (putN kvs k p)) := by
  unfold putN
  unfold setO at hh
  by_cases q : (valN kvs k).isSome = true
  · rw [if_pos q]
    rw [if_pos (hs.trans q)] at hh
    have aux : ∀ {es : List OEnt} {vs : List V} {kvs : List (OKey × PV)}, es.map (·.1) = kvs.map (·.1) → Vals vs (es.map (·.2.2)) → RepL K Ex m H' vs (kvs.map (·.2)) → ∃ vs', Vals vs' ((es.map (fun x => if x.1 = k then (x.1, x.2.1, w) else x)).map (·.2.2)) ∧ RepL K Ex m H' vs' ((kvs.map (fun kv => if kv.1 = k then (kv.1, p) else kv)).map (·.2)) := by
      intro es
      induction es with
      | nil =>
        intro vs kvs e1 e2 e3
        cases kvs with
        | nil => exact ⟨[], .nil, .nil⟩
        | cons => simp at e1
      | cons x es ih =>
        intro vs kvs e1 e2 e3
        cases kvs with
        | nil => simp at e1
        | cons y kvs =>
          simp only [List.map_cons, List.cons.injEq] at e1 e2 e3
          cases e2 with
          | cons r1 r2 =>
            cases e3 with
            | cons s1 s2 =>
              obtain ⟨vs', i1, i2⟩ := ih e1.2 r2 s2
              simp only [List.map_cons]
              by_cases z : x.1 = k
              · rw [if_pos z, if_pos (e1.1 ▸ z)]
                exact ⟨v :: vs', .cons rw' i1, .cons vr i2⟩
              · rw [if_neg z, if_neg (fun y => z (e1.1.trans y))]
                exact ⟨_ :: vs', .cons r1 i1, .cons s1 i2⟩
    obtain ⟨vs', i1, i2⟩ := aux x1 x3 x5
    have k1 : ∀ es : List OEnt, (es.map (fun x => if x.1 = k then (x.1, x.2.1, w) else x)).map (·.2.1) = es.map (·.2.1) := fun es => by
      rw [List.map_map]
      refine List.map_congr_left fun x _ => ?_
      simp only [Function.comp_apply]
      split <;> rfl
    have k2 : ∀ kvs : List (OKey × PV), (kvs.map (fun kv => if kv.1 = k then (kv.1, p) else kv)).map (·.1) = kvs.map (·.1) := fun kvs => by
      rw [List.map_map]
      refine List.map_congr_left fun x _ => ?_
      simp only [Function.comp_apply]
      split <;> rfl
    have k3 : (kvs.map (fun kv => if kv.1 = k then (kv.1, p) else kv)).map (fun x => okP x.1) = kvs.map fun x => okP x.1 := by
      rw [List.map_map]
      refine List.map_congr_left fun x _ => ?_
      simp only [Function.comp_apply]
      split <;> rfl
    exact ⟨_, ks, vs', hh, by rw [set_keys, k2, x1], by rw [k1]; exact x2, i1, by rw [k3]; exact x4, i2⟩
  · rw [if_neg q]
    rw [if_neg (fun z => q (hs.symm.trans z))] at hh
    refine ⟨es ++ [(k, u, w)], ks ++ [vk], vs ++ [v], hh, by rw [List.map_append, List.map_append, x1]; rfl, ?_, ?_, ?_, ?_⟩
    · rw [List.map_append]; exact x2.append (.cons ru .nil)
    · rw [List.map_append]; exact x3.append (.cons rw' .nil)
    · rw [List.map_append]; exact x4.append (.cons kr .nil)
    · rw [List.map_append]; exact x5.append (.cons vr .nil)
theorem oAt_val : ∀ {es : List OEnt} {kvs : List (OKey × PV)}, es.map (·.1) = kvs.map (·.1) → ∀ k, (oAt es k).isSome = (valN kvs k).isSome
  | [], [], _, _ => rfl
  | [], _ :: _, e, _ => by simp at e
  | _ :: _, [], e, _ => by simp at e
  | x :: es, y :: kvs, e, k => by
    simp only [List.map_cons, List.cons.injEq] at e
    have ih := oAt_val e.2 k
    unfold oAt valN at ih ⊢
    rw [List.find?_cons, List.find?_cons, e.1]
    by_cases z : y.1 = k
    · rw [decide_eq_true z]; rfl
    · rw [decide_eq_false z]
      exact ih
theorem ss_setN {to ti te : TE} {fo fi fe : DE} (ho : SE K W to fo) (hi : SE K W ti fi) (he : SE K W te fe) : SS K W (sPutN K to ti te) (sSetN fo fi fe) := ⟨fun C m σ H env h Df D eK R hf p => by
  refine he.run C m σ H env h _ _ _ eK R hf (fun m1 y H1 sy h1 S1 R1 r1 q1 => ?_) p.px
  split at q1
  · rename_i pv ep
    have ry := R.toVal r1 ep
    refine ho.run C m1 σ H1 env h1 _ _ _ eK R1.drop q1 (fun m2 x H2 sx h2 S2 R2 r2 q2 => ?_) p.px
    refine hi.run (C.own x sx) m2 σ H2 env h2 _ _ _ ((C.own_K x sx).trans eK) R2 q2 (fun m3 j H3 sj h3 S3 R3 r3 q3 => ?_) (p.px.own)
    obtain ⟨n, kvs, k, rfl, rfl, e3, lz, q3⟩ := q3
    have rx : RepS C (ExOf C σ env m3) m3 (fun _ => True) H3 x (.val (.ref n)) := r2.step S3 (N' := fun _ => True) fun _ _ => trivial
    obtain ⟨a, rfl, ea, c2⟩ := R3.drop.drop.cellAt (show Rep C.K (ExOf C σ env m3) m3 H3 x (.ref n) from rx) e3
    have ry3 : Rep C.K (ExOf C σ env m3) m3 H3 y pv := Rep.mono (R1.drop.kp (S2.trans S3)) (S2.trans S3).ex' ry
    have kr : Rep C.K (ExOf C σ env m3) m3 H3 j (okP k) := r3
    obtain ⟨es, ks, vs, hh, x1, x2, x3, x4, x5⟩ := c2
    have le := congrArg List.length x1
    simp only [List.length_map] at le
    have lv := x5.length
    simp only [List.length_map] at lv
    have lzz : (es.map (·.1)).length = vs.length := by simp only [List.length_map]; omega
    subst eK
    have dv : DictV C.K H3 a es ((es.map (·.1)).zip vs) := ⟨hh, (zip_fst lzz).symm, ⟨ks, by
      rw [x1]
      refine keysV_of (Ex := ExOf C σ env m3) (m := m3) ?_
      rw [List.map_map]
      exact x4, x2⟩, by rw [zip_snd lzz]; exact x3⟩
    refine ⟨a, es, _, k, rfl, dv, keyV_of kr, by omega, fun u w ru rw' => ?_⟩
    have am : a ∈ m3 := List.mem_of_getElem? ea
    have kp : ∀ o, Kp (ExOf C σ env m3) H3 (ExOf C σ env m3) (upd H3 a o) := fun o b u e q => ⟨by rw [upd_ne fun z => q (by rw [z]; exact .inr (.inr am))]; exact e, q⟩
    have cr : CellR C.K (ExOf C σ env m3) m3 (upd H3 a (.ext (NDict a (setO es k u w)))) a (.dN (putN kvs k pv)) := setN_rep (kr.mono (kp _) ⟨[], by simp⟩) (ry3.mono (kp _) ⟨[], by simp⟩) ru rw' upd_same x1 x2 x3 (x4.mono (kp _) ⟨[], by simp⟩) (x5.mono (kp _) ⟨[], by simp⟩) (oAt_val x1 k)
    obtain ⟨_, R4⟩ := R3.drop.drop.mutCell ea (List.getElem?_eq_some_iff.mp e3).1 cr
    exact p.nx m3 σ _ env _ R4 q3
  · exact q1.elim⟩
end
section
variable {X : Cx} {W : WX} {o i e : Expr} {fo fi fe : DE} {to ti te : TE} {pos tpos : Pos}
theorem op_inN (hu : X.A.units + 65 < cLine) : OpR X (compareOp .In) (rInN X.K false) := by
  intro pins s σ H x y v u Q I rx ry h
  obtain ⟨a, es, kvs, k, rfl, ⟨ha, ek, ⟨ks, p1, p2⟩, rv⟩, hk, q⟩ := h
  cases (show u = Value.ref a from ry)
  have hm : NDict a es s.heap := (show ObjOk X.prog X.w H s.heap a (.ext (NDict a es)) from I.hok a _ ha).1
  show wpAny _ _ (do return Value.bool (← contains (.ref a) v)) _ _ s
  refine wpAny_bind (has_n (by simp only [Around.in1_units]; omega) (hk.is rx I) hm (keys_is I p1 p2) fun tk => wpAny_pure ⟨.bl (valV kvs k).isSome, H, I.tok tk, ?_, q⟩)
  rw [← (oAt_rel ek rv k).isSome_eq]
  exact rfl
theorem op_notInN (hu : X.A.units + 65 < cLine) : OpR X (compareOp .NotIn) (rInN X.K true) := by
  intro pins s σ H x y v u Q I rx ry h
  obtain ⟨a, es, kvs, k, rfl, ⟨ha, ek, ⟨ks, p1, p2⟩, rv⟩, hk, q⟩ := h
  cases (show u = Value.ref a from ry)
  have hm : NDict a es s.heap := (show ObjOk X.prog X.w H s.heap a (.ext (NDict a es)) from I.hok a _ ha).1
  show wpAny _ _ (do return Value.bool (!(← contains (.ref a) v))) _ _ s
  refine wpAny_bind (has_n (by simp only [Around.in1_units]; omega) (hk.is rx I) hm (keys_is I p1 p2) fun tk => wpAny_pure ⟨.bl (!(valV kvs k).isSome), H, I.tok tk, ?_, q⟩)
  rw [← (oAt_rel ek rv k).isSome_eq]
  exact rfl
theorem cd_inN (hu : X.A.units + 65 < cLine) : CmpD X .In (gInN false) := ⟨_, op_inN hu, os_inN⟩
theorem cd_notInN (hu : X.A.units + 65 < cLine) : CmpD X .NotIn (gInN true) := ⟨_, op_notInN hu, os_inN⟩
theorem ps_putN (hu : X.A.units + 65 < cLine) (ho : PE X o to) (hi : PE X i ti) (hv : PE X e te) (hs : swapsWith e (some (.Subscript o i tpos)) pos.line X.env = pure false) : PS X (.Assign [.Subscript o i tpos] e pos) (sPutN X.K to ti te) := by
  refine ⟨fun pins s σ H D I h => ?_⟩
  refine wpAny_Assign_Subscript (thn (hv.run pins s σ H _ I h) fun r s1 ⟨v, H1, I1, rv, q1⟩ => thn (ho.run pins s1 σ H1 _ I1 q1) fun u s2 ⟨x, H2, I2, rx, q2⟩ => thn (hi.run pins s2 σ H2 _ I2 q2) fun iv s3 ⟨y, H3, I3, ry, a, es, kvs, k, ex, ⟨ha, ek, ⟨ks, p1, p2⟩, rv3⟩, hk, lz, q3⟩ => ?_) hs
  subst ex
  obtain rfl : u = Value.ref a := rx
  have hm : NDict a es s3.heap := (show ObjOk X.prog X.w H3 s3.heap a (.ext (NDict a es)) from I3.hok a _ ha).1
  refine setItem_n (by simp only [Around.in1_units]; omega) (hk.is ry I3) hm (keys_is I3 p1 p2) lz fun h' tk hm' hs' => ?_
  obtain ⟨_, _, ob, _, _, ho', _⟩ := id hm'
  exact ⟨σ, _, d_write I3 (by rw [ha]; exact True.intro) hs' ⟨ob, ho'⟩ hm'.ok, q3 iv r ry rv⟩
theorem psd_setN (hu : X.A.units + 65 < cLine) (ho : PEd X W o fo) (hi : PEd X W i fi) (he : PEd X W e fe) (hs : swapsWith e (some (.Subscript o i tpos)) pos.line X.env = pure false := by rfl) : PSd X W (.Assign [.Subscript o i tpos] e pos) (sSetN fo fi fe) := .of (ps_putN hu ho hi he hs) (ss_setN seE seE seE)
end
end PM

namespace PM
open PySem PySem.Spec L2
open Sem (wp)
open PyProof.Rows hiding St
/-! ### del d[k]: dicts with keys None and tuples of numbers; the key is there -/
def delO (es : List OEnt) (k : OKey) : List OEnt := es.filter fun x => decide (x.1 ≠ k)
theorem delO_same {k : OKey} {es : List OEnt} (h : k ∉ es.map (·.1)) : delO es k = es := by
  unfold delO
  rw [List.filter_eq_self]
  intro x m
  have : x.1 ≠ k := fun z => h (List.mem_map.mpr ⟨x, m, z⟩)
  simpa using this
theorem delO_erase {k : OKey} : ∀ {es : List OEnt} {j : Nat} {p : Value × Value}, (es.map (·.1)).Nodup → es[j]? = some (k, p) → es.eraseIdx j = delO es k
  | [], j, p, _, e => by simp at e
  | x :: es, 0, p, nd, e => by
    simp only [List.getElem?_cons_zero, Option.some.injEq] at e
    subst e
    rw [List.map_cons, List.nodup_cons] at nd
    rw [List.eraseIdx_cons_zero]
    show es = List.filter _ ((k, p) :: es)
    rw [List.filter_cons_of_neg (by simp)]
    exact (delO_same nd.1).symm
  | x :: es, j + 1, p, nd, e => by
    rw [List.map_cons, List.nodup_cons] at nd
    simp only [List.getElem?_cons_succ] at e
    have ne : x.1 ≠ k := fun z => nd.1 (List.mem_map.mpr ⟨(k, p), List.mem_of_getElem? e, z.symm⟩)
    rw [List.eraseIdx_cons_succ, delO_erase nd.2 e]
    unfold delO
    rw [List.filter_cons_of_pos (by simpa using ne)]
section
variable {prog : Program} {w : World} {A : Around} {E : Value → Shared → Prop} {s : Shared}
theorem out_n {d : Addr} {key : Value} {es : List OEnt} {k : OKey} {Q : Option DictEntry → Shared → Prop} (hu : A.units + 8 < cLine) (hkey : NestedIs s.heap k.nk key) (hm : NDict d es s.heap) (hk : ∀ x ∈ es, NestedIs s.heap x.1.nk x.2.1) (hi : (oAt es k).isSome = true)
    (h : ∀ e h' tk, NDict d (delO es k) h' → Heap.SameBut d s.heap h' → Q (some e) { s with heap := h', toks := tk }) : wpAny (model prog w) A (Builtin.Dict.takeOut d key) Q E s := by
  obtain ⟨hs, hz, o, er, ep, ho, hc, hd, he, nd⟩ := hm
  have hns : (∃ a, key = .ref a) ∨ key = .none := by
    cases k with
    | none => cases hkey; exact .inr rfl
    | some is => cases hkey; exact .inl ⟨_, rfl⟩
  have esz : er.size = es.length := by
    rw [← Array.length_toList, he w, List.length_map]
  unfold Builtin.Dict.takeOut
  try with_reducible refine wpAny_holding ?_
  refine wpAny_bind (pyHash_key _ _ A s _ hkey (by have := k.depth; omega) ?_)
  refine wpAny_bind (find_n (s := { s with toks := s.toks + k.nk.draws }) hu hkey k.depth hns ho hd (NDict.seek he hk nd) (fun hno => ?_) fun j p hj => ?_)
  · rw [oAt_none hno] at hi
    cases hi
  · have hj' : ∃ p', es[j]? = some (k, p') := by
      rw [List.getElem?_map, Option.map_eq_some_iff] at hj
      obtain ⟨y, hy, ey⟩ := hj
      refine ⟨y.2, ?_⟩
      rw [hy, ← OKey.nk_inj (congrArg (·.1) ey)]
    obtain ⟨p', hj'⟩ := hj'
    have e1 : er[j]? = some (nEnt w (oN (k, p'))) := by
      rw [← Array.getElem?_toList, he w, List.getElem?_map, hj']
      rfl
    refine wpAny_bind (wpAny_dictEntries (s := { s with toks := s.toks + k.nk.draws }) ho hd ?_)
    rw [e1]
    have dl := List.length_filter_le (fun x : OEnt => decide (x.1 ≠ k)) es
    refine wpAny_bind (wpAny_updateDictKeys (hz := by omega) (s := { s with toks := s.toks + k.nk.draws }) ho hd (wpAny_pure (h _ _ _ ⟨hs, by unfold delO; omega, _, _, ep + 1, Heap.get?_update_self _ ho (Obj.isFreed_of_dict (Obj.data_mapDictKeys hd _)),
      hc.mapDictKeys _, Obj.data_mapDictKeys hd _, fun w' => ?_, List.Nodup.sublist (List.filter_sublist.map _) nd⟩ (Heap.SameBut.update ..))))
    rw [← delO_erase nd hj', map_eraseIdx, ← he w']
    obtain ⟨l⟩ := er
    simp
theorem meets_delN (d : Addr) (key : Value) :
    MeetsIn prog w (Builtin.«dict.__delitem__» ⟨[.ref d, key], []⟩) (fun A R s => A.in1.units + 8 < cLine ∧ ∃ k es, NestedIs s.heap (OKey.nk k) key ∧ NDict d es s.heap ∧ (∀ x ∈ es, NestedIs s.heap x.1.nk x.2.1) ∧ (oAt es k).isSome = true ∧
      ∀ h' tk, NDict d (delO es k) h' → Heap.SameBut d s.heap h' → R (.ok (.ret .none)) { s with heap := h', toks := tk }) :=
  .of_wp fun A R s ⟨hu, k, es, hkey, hm, hk, hi, h1⟩ => by
    unfold Builtin.«dict.__delitem__»
    refine wpAny_bind ?_
    unfold Builtin.Dict.dictSlotArgs
    refine wpAny_bind (wpAny_notOrdered_dict (typeIs_N hm) ?_)
    show wpAny _ _ (pure (Value.ref d, key)) _ _ s
    refine wpAny_pure ?_
    show wpAny _ _ (Builtin.Dict.takeOut d key >>= _) _ _ s
    refine wpAny_bind (out_n hu hkey hm hk hi fun e h' tk hm' hs' => ?_)
    exact wpAny_bind (wpAny_letGo (wpAny_pure ⟨.none, rfl, h1 h' tk hm' hs'⟩))
theorem delItem_n {d : Addr} {key : Value} {es : List OEnt} {k : OKey} {Q : Unit → Shared → Prop} (hu : A.units + 65 < cLine) (hkey : NestedIs s.heap k.nk key) (hm : NDict d es s.heap) (hk : ∀ x ∈ es, NestedIs s.heap x.1.nk x.2.1) (hi : (oAt es k).isSome = true)
    (h : ∀ h' tk, NDict d (delO es k) h' → Heap.SameBut d s.heap h' → Q () { s with heap := h', toks := tk }) : wpAny (model prog w) A (delItem (.ref d) key) Q E s :=
  wpAny_delItem_slot (typeIs_N hm) (by decide) PySem.F.slot_dict_delitem (call_meetsIn PySem.F.slot_dict_delitem (typeIs_N hm) PySem.F.entry_dict_delitem (PySem.F.args_dict_delitem_2 _ _) (meets_delN d key) ⟨by simp only [Around.in1_units]; omega, k, es, hkey, hm, hk, hi, h⟩)
end
def dropN (kvs : List (OKey × PV)) (k : OKey) : List (OKey × PV) := kvs.filter fun x => decide (x.1 ≠ k)
def sDelN (o i : DE) : DS := fun D env h => o env h (fun x h1 => i env h1 (fun y h2 => ∃ n kvs k, x = .val (.ref n) ∧ y = .val (okP k) ∧ h2[n]? = some (.dN kvs) ∧ (valN kvs k).isSome = true ∧ D.nx env (h2.set n (.dN (dropN kvs k)))) fun c h => D.ex c env h) fun c h => D.ex c env h
@[simp ↓] theorem sDelN_eq (o i : DE) (D : DEnds) (env : Env) (h : Hs) : sDelN o i D env h = (o env h (fun x h1 => i env h1 (fun y h2 => ∃ n kvs k, x = .val (.ref n) ∧ y = .val (okP k) ∧ h2[n]? = some (.dN kvs) ∧ (valN kvs k).isSome = true ∧ D.nx env (h2.set n (.dN (dropN kvs k)))) fun c h => D.ex c env h) fun c h => D.ex c env h) := id rfl
def sDDelN (K : PySem.W.Frag) (td ty : TE) : TS := fun D σ H => td σ H fun x H1 => ty σ H1 fun y H2 => ∃ a es kvs k, x = .ref a ∧ DictV K H2 a es kvs ∧ KeyV K H2 y k ∧ (oAt es k).isSome = true ∧ D.nx σ (upd H2 a (.ext (NDict a (delO es k))))
section
variable {K : PySem.W.Frag} {W : WX} {C : Ctx} {m : List Addr} {σ : St} {env : Env} {H : Hp} {h : Hs}
theorem delN_rep {Ex : Ad} {H' : Hp} {k : OKey} : ∀ {es : List OEnt} {ks vs : List V} {kvs : List (OKey × PV)}, es.map (·.1) = kvs.map (·.1) → Vals ks (es.map (·.2.1)) → Vals vs (es.map (·.2.2)) → RepL K Ex m H' ks (kvs.map fun x => okP x.1) → RepL K Ex m H' vs (kvs.map (·.2)) →
    ∃ ks' vs', (delO es k).map (·.1) = (dropN kvs k).map (·.1) ∧ Vals ks' ((delO es k).map (·.2.1)) ∧ Vals vs' ((delO es k).map (·.2.2)) ∧ RepL K Ex m H' ks' ((dropN kvs k).map fun x => okP x.1) ∧ RepL K Ex m H' vs' ((dropN kvs k).map (·.2))
  | [], _, _, [], _, _, _, _, _ => ⟨[], [], rfl, .nil, .nil, .nil, .nil⟩
  | [], _, _, _ :: _, e, _, _, _, _ => by simp at e
  | _ :: _, _, _, [], e, _, _, _, _ => by simp at e
  | x :: es, _, _, y :: kvs, e, v1, v2, r1, r2 => by
    simp only [List.map_cons, List.cons.injEq] at e v1 v2 r1 r2
    cases v1 with
    | cons a1 a2 =>
      cases v2 with
      | cons b1 b2 =>
        cases r1 with
        | cons c1 c2 =>
          cases r2 with
          | cons d1 d2 =>
            obtain ⟨ks', vs', i1, i2, i3, i4, i5⟩ := delN_rep (k := k) e.2 a2 b2 c2 d2
            simp only [delO, dropN] at i1 i2 i3 i4 i5 ⊢
            by_cases z : y.1 = k
            · rw [List.filter_cons_of_neg (by simpa [e.1] using z), List.filter_cons_of_neg (by simpa using z)]
              exact ⟨ks', vs', i1, i2, i3, i4, i5⟩
            · rw [List.filter_cons_of_pos (by simpa [e.1] using z), List.filter_cons_of_pos (by simpa using z)]
              exact ⟨_ :: ks', _ :: vs', by simp only [List.map_cons, e.1, i1], .cons a1 i2, .cons b1 i3, .cons c1 i4, .cons d1 i5⟩
theorem ss_delN {to ti : TE} {fo fi : DE} (ho : SE K W to fo) (hi : SE K W ti fi) : SS K W (sDDelN K to ti) (sDelN fo fi) := ⟨fun C m σ H env h Df D eK R hf p => by
  refine ho.run C m σ H env h _ _ _ eK R hf (fun m1 x H1 sx h1 S1 R1 r1 q1 => ?_) p.px
  refine hi.run (C.own x sx) m1 σ H1 env h1 _ _ _ ((C.own_K x sx).trans eK) R1 q1 (fun m2 j H2 sj h2 S2 R2 r2 q2 => ?_) p.px.own
  obtain ⟨n, kvs, k, rfl, rfl, e3, hs, q3⟩ := q2
  have rx : RepS C (ExOf C σ env m2) m2 (fun _ => True) H2 x (.val (.ref n)) := r1.step S2 (N' := fun _ => True) fun _ _ => trivial
  obtain ⟨a, rfl, ea, c2⟩ := R2.drop.drop.cellAt (show Rep C.K (ExOf C σ env m2) m2 H2 x (.ref n) from rx) e3
  have kr : Rep C.K (ExOf C σ env m2) m2 H2 j (okP k) := r2
  obtain ⟨es, ks, vs, hh, x1, x2, x3, x4, x5⟩ := c2
  have le := congrArg List.length x1
  simp only [List.length_map] at le
  have lv := x5.length
  simp only [List.length_map] at lv
  have lzz : (es.map (·.1)).length = vs.length := by simp only [List.length_map]; omega
  subst eK
  have dv : DictV C.K H2 a es ((es.map (·.1)).zip vs) := ⟨hh, (zip_fst lzz).symm, ⟨ks, by
    rw [x1]
    refine keysV_of (Ex := ExOf C σ env m2) (m := m2) ?_
    rw [List.map_map]
    exact x4, x2⟩, by rw [zip_snd lzz]; exact x3⟩
  refine ⟨a, es, _, k, rfl, dv, keyV_of kr, (oAt_val x1 k).trans hs, ?_⟩
  have am : a ∈ m2 := List.mem_of_getElem? ea
  have kp : ∀ o, Kp (ExOf C σ env m2) H2 (ExOf C σ env m2) (upd H2 a o) := fun o b u e q => ⟨by rw [upd_ne fun z => q (by rw [z]; exact .inr (.inr am))]; exact e, q⟩
  obtain ⟨ks', vs', y1, y2, y3, y4, y5⟩ := delN_rep (m := m2) (Ex := ExOf C σ env m2) (H' := upd H2 a (.ext (NDict a (delO es k)))) (k := k) x1 x2 x3 (x4.mono (kp _) ⟨[], by simp⟩) (x5.mono (kp _) ⟨[], by simp⟩)
  obtain ⟨_, R4⟩ := R2.drop.drop.mutCell (o := .ext (NDict a (delO es k))) ea (List.getElem?_eq_some_iff.mp e3).1 (c' := .dN (dropN kvs k)) ⟨_, ks', vs', upd_same, y1, y2, y3, y4, y5⟩
  exact p.nx m2 σ _ env _ R4 q3⟩
end
section
variable {X : Cx} {W : WX} {o i : Expr} {fo fi : DE} {to ti : TE} {pos tpos : Pos}
theorem ps_delN (hu : X.A.units + 65 < cLine) (ho : PE X o to) (hi : PE X i ti) : PS X (.Delete [.Subscript o i tpos] pos) (sDDelN X.K to ti) := by
  refine ⟨fun pins s σ H D I h => ?_⟩
  refine wpAny_Delete (wpAny_deleteEach_cons (wpAny_delete_Subscript (thn (ho.run pins s σ H _ I h) fun u s1 ⟨x, H1, I1, rx, q1⟩ => thn (hi.run pins s1 σ H1 _ I1 q1) fun iv s2 ⟨y, H2, I2, ry, a, es, kvs, k, ex, ⟨ha, ek, ⟨ks, p1, p2⟩, rv⟩, hk, hs, q2⟩ => ?_)))
  subst ex
  obtain rfl : u = Value.ref a := rx
  have hm : NDict a es s2.heap := (show ObjOk X.prog X.w H2 s2.heap a (.ext (NDict a es)) from I2.hok a _ ha).1
  refine delItem_n hu (hk.is ry I2) hm (keys_is I2 p1 p2) hs fun h' tk hm' hs' => ?_
  obtain ⟨_, _, ob, _, _, ho', _⟩ := id hm'
  exact wpAny_deleteEach_nil ⟨σ, _, d_write I2 (by rw [ha]; exact True.intro) hs' ⟨ob, ho'⟩ hm'.ok, q2⟩
theorem psd_delN (hu : X.A.units + 65 < cLine) (ho : PEd X W o fo) (hi : PEd X W i fi) : PSd X W (.Delete [.Subscript o i tpos] pos) (sDelN fo fi) := .of (ps_delN hu ho hi) (ss_delN seE seE)
end
end PM

namespace PM
open PySem PySem.Spec L2
open PyProof.Rows hiding St
/-! ### sorted(d) of a dict whose keys are ints, fewer than 64 -/
def rSortDI : List V → Hp → VK → Prop := fun xs H Q => ∃ (a : Addr) (kvs : List (L2.Key × V)) (ks : List Int), xs = [.ref a] ∧ Rd H a (.dK kvs) ∧ kvs.map (·.1) = ks.map Sum.inl ∧ ks.length < 64 ∧
    ∀ (ys : List Int) (p : Addr), ys.Perm ks → ys.Pairwise (· ≤ ·) → H p = none → Q (.ref p) (upd H p (.lst (ys.map V.int)))
def srtI (ks : List Int) : List Int := ks.mergeSort fun a b => decide (a ≤ b)
def gSortDI : G1 := fun h x q => ∃ n kvs ks, x = .val (.ref n) ∧ h[n]? = some (.dK kvs) ∧ kvs.map (·.1) = ks.map Sum.inl ∧ ks.length < 64 ∧ q (.own ((srtI ks).map .int))
@[simp ↓] theorem gSortDI_eq (h : Hs) (x : SV) (q : SV → Prop) : gSortDI h x q = (∃ n kvs ks, x = .val (.ref n) ∧ h[n]? = some (.dK kvs) ∧ kvs.map (·.1) = ks.map Sum.inl ∧ ks.length < 64 ∧ q (.own ((srtI ks).map .int))) := id rfl
theorem srtI_uniq {ys ks : List Int} (p : ys.Perm ks) (s : ys.Pairwise (· ≤ ·)) : ys = srtI ks := by
  refine List.Perm.eq_of_pairwise (le := (· ≤ ·)) (fun a b _ _ h1 h2 => by omega) s ?_ (p.trans (List.mergeSort_perm _ _).symm)
  have := List.pairwise_mergeSort (le := fun a b : Int => decide (a ≤ b)) (fun a b c h1 h2 => by simp at *; omega) (fun a b => by simp; omega) ks
  exact this.imp fun h => by simpa using h
theorem us_sortDI {K : PySem.W.Frag} : UnS K (fun x H Q => rSortDI [x] H Q) gSortDI := fun C m σ H env h x sx q Q' eK R rx ⟨n, kvs, ks, e0, e, ek, lk, hq⟩ p => by
  subst eK
  subst e0
  obtain ⟨a, rfl, _, vs, hv, ka, ra⟩ := R.cellAt (show Rep C.K (ExOf C σ env m) m H x (.ref n) from rx) e
  refine ⟨a, vs, ks, rfl, .inl hv, ka.trans ek, lk, fun ys b py sy hb => ?_⟩
  have := srtI_uniq py sy
  subst this
  exact p.newL R (vs := (srtI ks).map V.int) (xs := (srtI ks).map PV.int) RepL.of_ints hq hb
theorem pd_sortDI {X : Cx} {W : WX} {es : List Expr} {fs : DA} {e : Expr} {pos p : Pos} (hm : X.mg "sorted" = none) (h : PAd X W (e :: es) fs) (hc : X.calm = true := by rfl) (hg : Gl X "sorted" := by rfl)
    (he : starEach (e :: es) X.env = (false, eval e X.env) :: starEach es X.env := by rfl) (hpl : (backTo pos (starEach es X.env)).any (·.1) = false := by rfl) :
    PEd X W (.Call (.Name "sorted" p) (e :: es) [] pos) (dB (g1 gSortDI) fs) := .of (pe_callB (call_sortedDI hc) hg hm (by decide +kernel) h (he := he) (hpl := hpl)) (se_cb (cs_1 us_sortDI) saA)
end PM

namespace PM
open PySem PySem.Spec L2 PySem.W
open PyProof.Rows hiding St
/-! ### sorted(d) of a dict with keys None and tuples of numbers -/
def rSortN (K : PySem.W.Frag) : List V → Hp → VK → Prop := fun vs H Q => ∃ (a : Addr) (es : List OEnt) (xs : List V) (ps : List PV), vs = [.ref a] ∧ H a = some (.ext (NDict a es)) ∧ Vals xs (es.map (·.2.1)) ∧ DpAll K H xs (ps.map PV.py) ∧ xs.length = ps.length ∧ (∀ p ∈ ps, ∀ p' ∈ ps, cut2 p.py p'.py = true) ∧ Sortable (ps.map PV.py) ∧ (∀ p ∈ ps, p.py.depth ≤ 64) ∧
  ∀ (zs : List (V × PV)) (b : Addr), zs = (xs.zip ps).mergeSort (fun x y => dataLe false PV.py x.2 y.2) → H b = none → Q (.ref b) (upd H b (.lst (zs.map (·.1))))
section
variable {X : Cx}
theorem cr_sortN (hu : X.A.units + 90 < cLine) (hcalm : X.calm = true) : CallR X (.builtin "sorted") (rSortN X.K) := by
  intro pins s σ H vs us Q I r h
  obtain ⟨a, es, xs, ps, rfl, ha, hx, hd, hlen, hcut, hsrt, hdep, q⟩ := h
  rw [Vals.ref1 r]
  have hm : NDict a es s.heap := (show ObjOk X.prog X.w H s.heap a (.ext (NDict a es)) from I.hok a _ ha).1
  obtain ⟨lo, hz, o, er, ep, ho, hc, hdat, he, nd⟩ := hm
  have esz : er.size = es.length := by
    rw [← Array.length_toList, he X.w, List.length_map]
  refine Calls.call_function_entry PyProof.Rows.kind_sorted PyProof.Rows.plain_sorted PyProof.Rows.entry_sorted (PyProof.Rows.args_sorted1 _) ?_
  unfold Builtin.«sorted»
  refine wpAny_bind (m := checkCount "sorted" 1 1 _) (wpAny_pure ?_)
  refine wpAny_bind (PySem.W.kdu_collect (A := X.A.in1) (KdlSrc.rawDict (es := er) (ep := ep) lo) (I.ok.hd hcalm) ⟨o, ho, hc, hdat⟩ (by omega) fun h' tk acc hk hacc => ?_)
  have hits : acc.toList = es.map (·.2.1) := by
    refine List.ext_getElem? fun j => ?_
    rw [Array.getElem?_toList]
    cases ej : acc[j]? with
    | none =>
      have : acc.size ≤ j := Array.getElem?_eq_none_iff.mp ej
      rw [hacc.1, esz] at this
      rw [List.getElem?_eq_none (by rw [List.length_map]; exact this)]
    | some v =>
      obtain ⟨hi, ev⟩ := hacc.2 j v ej
      have e1 : er[j]? = some er[j] := Array.getElem?_eq_getElem hi
      rw [← Array.getElem?_toList, he X.w, List.getElem?_map] at e1
      rw [List.getElem?_map]
      cases e2 : es[j]? with
      | none => rw [e2] at e1; cases e1
      | some x =>
        rw [e2] at e1
        have e3 : nEnt X.w (oN x) = er[j] := Option.some.inj e1
        rw [ev, ← e3]
        rfl
  have I1 : Inv X pins σ H { s with heap := h', toks := tk } := I.kept hk
  have hl : acc.toList.length ≤ sizeLine := by rw [hits, List.length_map]; exact hz
  refine wpAny_bind (wpAny_newList ?_ hl)
  rw [← hits] at hx
  generalize acc.toList = its at hx hl hits
  clear hits hacc acc
  obtain ⟨as, rd⟩ := Dp.readsAll I1 (ps.map PV.py) xs its hd hx
  have hoL : (h'.push (seqObj "list" its.toArray 0)).get? h'.objs.size = some (seqObj "list" its.toArray 0) := Heap.get?_push_size _ rfl
  have hh : ∀ b o, h'.get? b = some o → (sortingHeap (h'.push (seqObj "list" its.toArray 0)) h'.objs.size its).get? b = some o := fun b o e => sortingHeap_old (Nat.ne_of_lt (Heap.lt_size e)) (Heap.get?_push_of_some _ e)
  have e1 := each_zip hx rd
  have zl : (xs.zip ps).length = ps.length := by rw [List.length_zip, hlen, Nat.min_self]
  have pm : (xs.zip ps).map (fun x => x.2.py) = ps.map PV.py := by
    rw [show (fun x : V × PV => x.2.py) = PV.py ∘ Prod.snd from rfl, ← List.map_map, List.map_snd_zip (by omega)]
  generalize hS : sortingHeap (h'.push (seqObj "list" its.toArray 0)) h'.objs.size its = hs at hh
  have e2 : EachIs (fun v d => ∃ as, Reads hs v d as) its (ps.map PV.py) := by
    rw [← pm]
    exact each_map (R := fun v d => ∃ as, Reads hs v d as) (fun x : V × PV => x.2.py) (e1.mono fun u x ⟨_, as, z⟩ => ⟨as, PyProof.Rows.Reads.keeps hh z⟩)
  have S : SortsAt X.prog X.w X.A.in1.in1 { s with heap := hs, toks := tk } (cutKind hs (ps.map PV.py)) its :=
    sorts_cut (s := { s with heap := hs, toks := tk }) e2 (fun d m d' m' => by
      obtain ⟨p, mp, rfl⟩ := List.mem_map.mp m
      obtain ⟨p', mp', rfl⟩ := List.mem_map.mp m'
      exact hcut p mp p' mp') hsrt fun d m => by
      obtain ⟨p, mp, rfl⟩ := List.mem_map.mp m
      have := hdep p mp
      have : X.A.in1.in1.units = X.A.units + 2 := rfl
      omega
  have ev : EachIs (fun u (x : V × PV) => RelV x.1 u ∧ ∃ as, Reads h' u x.2.py as) (sortVals (cutKind hs (ps.map PV.py)) false its its) ((xs.zip ps).mergeSort (dataLe false fun x => x.2.py)) := by
    refine sortVals_each (κ := cutKind hs (ps.map PV.py)) (fun x : V × PV => keyToks x.2.py) e1 ((each_mem e1).mono fun u x ⟨⟨_, as, z⟩, m⟩ => cutKind_some ?_ (PyProof.Rows.Reads.keeps hh z))
    rw [← pm]
    exact List.mem_map.mpr ⟨x, m, rfl⟩
  have hv := vals_each (f := fun x : V × PV => x.1) (fun _ _ z => z.1) ev
  show wpAny _ _ _ _ _ { s with heap := h'.push (seqObj "list" its.toArray 0), toks := tk }
  refine wpAny_bind (wpAny_holding (wpAny_call_entry PyProof.Rows.slot_list_sort ⟨_, hoL, rfl⟩ PyProof.Rows.entry_list_sort
    (list_sort_vals (s := { s with heap := h'.push (seqObj "list" its.toArray 0), toks := tk }) (κ := cutKind hs (ps.map PV.py)) hoL (by rw [hS]; exact S) hl ⟨_, rfl, ?_⟩) (PyProof.Rows.args_list_sort _)))
  obtain ⟨e', he'⟩ := PyProof.Rows.sortedHeap_at (vs := its) (out := (sortVals (cutKind hs (ps.map PV.py)) false its its).toArray) hoL
  refine wpAny_pure ⟨_, rfl, .ref h'.objs.size, upd H h'.objs.size (.lst (((xs.zip ps).mergeSort fun x y => dataLe false PV.py x.2 y.2).map (·.1))), I1.laid (t' := tk) (fun b u e => ?_) (Nat.le_refl _) ⟨?_, _, e', hv, he'⟩, rfl, q _ _ rfl (I1.hok.fresh (Nat.le_refl _))⟩
  · have hb : b < h'.objs.size := Heap.lt_size e
    rw [PyProof.Rows.sortedHeap_old (Nat.ne_of_lt hb) (by rw [size_push']; exact Nat.lt_succ_of_lt hb)]
    exact Heap.get?_push_of_some _ e
  · rw [List.length_map, List.length_mergeSort, zl, ← hlen, hx.length]
    exact hl
end
def gSortN : G1 := fun h x q => ∃ n kvs, x = .val (.ref n) ∧ h[n]? = some (.dN kvs) ∧ SrtOk (kvs.map fun y => okP y.1) ∧ q (.own (srtP (kvs.map fun y => okP y.1)))
@[simp ↓] theorem gSortN_eq (h : Hs) (x : SV) (q : SV → Prop) : gSortN h x q = (∃ n kvs, x = .val (.ref n) ∧ h[n]? = some (.dN kvs) ∧ SrtOk (kvs.map fun y => okP y.1) ∧ q (.own (srtP (kvs.map fun y => okP y.1)))) := id rfl
theorem us_sortN {K : PySem.W.Frag} : UnS K (fun x H Q => rSortN K [x] H Q) gSortN := fun C m σ H env h x sx q Q' eK R rx ⟨n, kvs, e0, e, ⟨o1, o2, o3⟩, hq⟩ p => by
  subst eK
  subst e0
  obtain ⟨a, rfl, _, es, ks, vs, hv, x1, x2, x3, x4, x5⟩ := R.cellAt (show Rep C.K (ExOf C σ env m) m H x (.ref n) from rx) e
  refine ⟨a, es, ks, kvs.map fun y => okP y.1, rfl, hv, x2, x4.dpA o1, x4.length, o2, o3, fun p m => (okD_okN.mp (o1 p m)).2.2, fun zs b ez hb => ?_⟩
  have hz : ∀ z ∈ zs, Rep C.K (ExOf C σ env m) m H z.1 z.2 := fun z hm => by
    rw [ez] at hm
    exact repL_zip x4 z ((List.mergeSort_perm _ _).mem_iff.mp hm)
  have es' : zs.map (·.2) = srtP (kvs.map fun y => okP y.1) := by
    rw [ez, List.map_mergeSort (r := fun x y : V × PV => dataLe false PV.py x.2 y.2) (s := leP) (f := fun z : V × PV => z.2) (fun _ _ _ _ => rfl)]
    rw [show (fun z : V × PV => z.2) = Prod.snd from rfl, List.map_snd_zip (by rw [x4.length]; exact Nat.le_refl _)]
    rfl
  have := repL_of hz
  rw [es'] at this
  exact p.newL R this hq hb
theorem pd_sortN {X : Cx} {W : WX} {es : List Expr} {fs : DA} {e : Expr} {pos p : Pos} (hu : X.A.units + 90 < cLine) (hm : X.mg "sorted" = none) (h : PAd X W (e :: es) fs) (hc : X.calm = true := by rfl) (hg : Gl X "sorted" := by rfl)
    (he : starEach (e :: es) X.env = (false, eval e X.env) :: starEach es X.env := by rfl) (hpl : (backTo pos (starEach es X.env)).any (·.1) = false := by rfl) :
    PEd X W (.Call (.Name "sorted" p) (e :: es) [] pos) (dB (g1 gSortN) fs) := .of (pe_callB (cr_sortN hu hc) hg hm (by decide +kernel) h (he := he) (hpl := hpl)) (se_cb (cs_1 us_sortN) saA)
end PM

namespace PM
open PySem PySem.Spec L2
open PyProof.Rows hiding St

/-! ### defs that call themselves: a depth of which nothing is known -/
def dF0 : DF := fun _ _ _ _ => False
@[simp ↓] theorem dF0_eq (svs : List SV) (h : Hs) (Q : VQ) (E : XQ) : dF0 svs h Q E = False := id rfl
section
variable {P : Program} {w : World} {K : PySem.W.Frag} {mg : Str → Option Value} {base : Heap}
theorem fnOk0 {CX : CXT} {k n : Nat} {f : Addr} {fd : FuncData} {ps : List Str} : FnOk P w K mg base CX k f fd ps (spD K n dF0) :=
  ⟨fun vs H Q E h => by obtain ⟨_, _, _, _, _, _, _, q, _⟩ := h; exact q.elim, fun A outer s H args us vs Q E _ _ _ _ h => by obtain ⟨_, _, _, _, _, _, _, q, _⟩ := h; exact q.elim⟩
theorem fnOkX0 {CX : CXT} {k n : Nat} {f : Addr} {fd : FuncData} {ps : List Str} : FnOk P w K mg base CX k f fd ps (spX K n dF0) :=
  ⟨fun vs H Q E h => by obtain ⟨_, _, _, _, _, _, _, _, q, _⟩ := h; exact q.elim, fun A outer s H args us vs Q E _ _ _ _ h => by obtain ⟨_, _, _, _, _, _, _, _, q, _⟩ := h; exact q.elim⟩
theorem FnAt.zero {x : Str} {st : Stmt} {ps : List Str} {k n : Nat} (D : DefAt K mg x st ps) : FnAt P w K mg base k x n dF0 := by
  obtain ⟨f, fd, F, hm, hb'⟩ := D.at_
  exact ⟨f, fd, ps, hm, F.kp, hb', fnOk0⟩
theorem FnAtX.zero {x : Str} {st : Stmt} {ps : List Str} {k n : Nat} (D : DefAt K mg x st ps) : FnAtX P w K mg base k x n dF0 := by
  obtain ⟨f, fd, F, hm, hb'⟩ := D.at_
  exact ⟨f, fd, ps, hm, F.kp, hb', fnOkX0⟩
theorem MethAt.zero {C : Addr} {mn qual : Str} {st : Stmt} {ps : List Str} {k n : Nat} (D : MethDef K C mn qual st ps) : MethAt P w K mg base k C mn n dF0 := by
  obtain ⟨f, fd, F, hm, hb'⟩ := D.at_
  exact ⟨f, fd, ps, hm, hb', fnOk0⟩
theorem MethAtX.zero {C : Addr} {mn qual : Str} {st : Stmt} {ps : List Str} {k n : Nat} (D : MethDef K C mn qual st ps) : MethAtX P w K mg base k C mn n dF0 := by
  obtain ⟨f, fd, F, hm, hb'⟩ := D.at_
  exact ⟨f, fd, ps, hm, hb', fnOkX0⟩
end
/-! ### text.index(text) -/
def dIndexS (a b : DE) : DE := fun env h Q E => a env h (fun x h1 => ∃ s, x = .val (.str s) ∧ b env h1 (fun y h2 => ∃ z i rest, y = .val (.str z) ∧ Builtin.Str.occurrences s z 0 s.length 1 = i :: rest ∧ Q (.val (.int (i : Nat))) h2) E) E
@[simp ↓] theorem dIndexS_eq (a b : DE) (env : Env) (h : Hs) (Q : VQ) (E : XQ) : dIndexS a b env h Q E = (a env h (fun x h1 => ∃ s, x = .val (.str s) ∧ b env h1 (fun y h2 => ∃ z i rest, y = .val (.str z) ∧ Builtin.Str.occurrences s z 0 s.length 1 = i :: rest ∧ Q (.val (.int (i : Nat))) h2) E) E) := id rfl
section
variable {K : PySem.W.Frag} {W : WX} {ta tb : TE} {fa fb : DE}
def rIndexS : V → List V → Hp → VK → Prop := fun x xs H Q => ∃ a b i rest, x = .str a ∧ xs = [.str b] ∧ Builtin.Str.occurrences a b 0 a.length 1 = i :: rest ∧ Q (.int (i : Nat)) H
theorem se_indexS (ha : SE K W ta fa) (hb : SE K W tb fb) : SE K W (tBM K "str" rIndexS ta (fun σ H Q => tb σ H fun y H1 => Q [y] H1)) (dIndexS fa fb) := ⟨fun C m σ H env h Q E Q' eK R hf p px => by
  refine ha.run C m σ H env h _ E _ eK R hf (fun m1 x H1 sx h1 S1 R1 r1 q1 => ?_) px
  obtain ⟨s, rfl, q1⟩ := q1
  cases r1
  refine ⟨rfl, ?_⟩
  refine hb.run C m1 σ H1 env h1 _ E _ eK R1.drop q1 (fun m2 y H2 sy h2 S2 R2 r2 q2 => ?_) (px.go S1)
  obtain ⟨z, i, rest, rfl, ho, q2⟩ := q2
  cases r2
  exact ⟨s, z, i, rest, rfl, rfl, ho, p m2 _ H2 (.val (.int _)) h2 (S1.trans S2) R2.drop (.int _) q2⟩⟩
end
section
variable {X : Cx} {W : WX} {o e : Expr} {fo fe : DE} {pos p apos : Pos}
theorem pd_indexS (ho : PEd X W o fo) (he : PEd X W e fe) (hbase : attributeBase o "index" X.env (eval o X.env) = eval o X.env := by rfl)
    (hfew : ((backTo pos (starEach [e] X.env)).all (fun x => !x.1) && (backToKw pos (keywordEach [] X.env)).all (fun x => x.1.isSome)
      && decide ([e].length + ([] : List Keyword).length + (if ([] : List Keyword).isEmpty then 0 else 1) < 30)) = true := by rfl)
    (hline : (apos.endLine == pos.line) = true := by rfl) (hs : starEach [e] X.env = [(false, eval e X.env)] := by rfl) :
    PEd X W (.Call (.Attribute o "index" apos) [e] [] pos) (dIndexS fo fe) := .of (pe_bm PySem.F.plainAttrs_str PySem.F.slot_str_index PySem.F.type_str_index mt_sindex ho (pa_cons he pa_nil hs) hbase hfew hline hs rfl) (se_indexS seE seE)
end
/-! ### int(text) -/
def gIntS : G1 := fun _ x q => match x with
  | .val (.str z) => ∃ n, PySem.intText? z = some n ∧ z.length ≤ 640 ∧ q (.val (.int n))
  | _ => False
@[simp ↓] theorem gIntS_eq (u0 : Hs) (x : SV) (q : SV → Prop) : gIntS u0 x q = (match x with
  | .val (.str z) => ∃ n, PySem.intText? z = some n ∧ z.length ≤ 640 ∧ q (.val (.int n))
  | _ => False) := id rfl
theorem us_intS {K : PySem.W.Frag} : UnS K (fun x H Q => ∃ a n, [x] = [V.str a] ∧ PySem.intText? a = some n ∧ a.length ≤ 640 ∧ Q (.int n) H) gIntS := fun C m σ H env h x sx q Q' eK R rx hg p => by
  subst eK
  unfold gIntS at hg
  split at hg
  · cases rx
    obtain ⟨n, h1, h2, hq⟩ := hg
    exact ⟨_, n, rfl, h1, h2, p.int R hq⟩
  · exact hg.elim
section
variable {X : Cx} {W : WX} {e : Expr} {es : List Expr} {fs : DA} {pos p : Pos}
theorem pd_intS (hm : X.mg "int" = none) (ha : PAd X W (e :: es) fs) (hg : Gl X "int" := by rfl) (he : starEach (e :: es) X.env = (false, eval e X.env) :: starEach es X.env := by rfl) (hpl : (backTo pos (starEach es X.env)).any (·.1) = false := by rfl) :
    PEd X W (.Call (.Name "int" p) (e :: es) [] pos) (dB (g1 gIntS) fs) := .of (pe_callTy call_int_str hg hm (by decide +kernel) ha (he := he) (hpl := hpl)) (se_cb (cs_1 us_intS) saA)
end
end PM

namespace PM
open PySem PySem.Spec L2
open PyProof.Rows hiding St

/-! ### [f(x) for x in xs], where f may raise: the error leaves the comprehension's block, then the def -/
theorem sky_fly {B B' : Heap} {l : List PySem.Env} {a L : Addr} {Z Z' : Obj → Prop} {h : Heap} (x : Sky B l a Z L h) (f : HandSPX.FlyingZ B' l a Z' h) : HandSPX.FlyingZ B l a Z h := by
  obtain ⟨_, _, _, oe', vs', T', oT', ts', he', _, hd', h1', _, _, hT', hdT', h3'⟩ := f
  rcases x with ⟨_, _, _, oe, vs, he, _, hd, h1⟩ | y | ⟨_, _, _, oe, vs, T, oT, ts, he, _, hd, h1, _, _, hT, hdT, h3⟩
  · rw [he] at he'
    cases he'
    rw [hd] at hd'
    cases hd'
    rw [h1] at h1'
    cases h1'
  · exact y
  · rw [he] at he'
    cases he'
    rw [hd] at hd'
    cases hd'
    rw [h1] at h1'
    cases h1'
    rw [hT] at hT'
    cases hT'
    rw [hdT] at hdT'
    cases hdT'
    rw [h3] at h3'
    cases h3'
/-- an error in the air of a block -/
def XeB (Y : Cx) (E0 : XK) : Value → Shared → Prop := fun u s' => XE Y (WR E0) u s' ∧ ∃ (a : Addr) (B : Heap) (Z : Obj → Prop), u = .ref a ∧ HandSPX.FlyingZ B Y.stack a Z s'.heap
/-- the context of a block whose errors E0 wants -/
abbrev blkX (X : Cx) (E0 : XK) (s : Shared) (H : Hp) (scope : Scope) (cenv : PySem.Env) (fp : List Addr) : Cx := (X.blk s H scope cenv fp).tr [] (XeB (X.blk s H scope cenv fp) E0)
section
variable {X : Cx} {E0 : XK} {pins : List (Addr × Obj)} {σ : St} {H : Hp} {s : Shared} {s0 : Shared} {H0 : Hp} {scope : Scope} {cenv : PySem.Env} {fp : List Addr}
theorem toB (I : Inv (X.blk s0 H0 scope cenv fp) pins σ H s) : Inv (blkX X E0 s0 H0 scope cenv fp) pins σ H s :=
  ⟨I.ok.toTry _ _, I.os, I.bare, I.base, I.loc, I.cell, I.free, I.freeC, I.pin, I.hok, I.len⟩
theorem ofB (I : Inv (blkX X E0 s0 H0 scope cenv fp) pins σ H s) : Inv (X.blk s0 H0 scope cenv fp) pins σ H s :=
  ⟨I.ok.ofTry, I.os, I.bare, I.base, I.loc, I.cell, I.free, I.freeC, I.pin, I.hok, I.len⟩
theorem passB (σ : St) : PassesAt (L2.CX X.prog X.w) (blkX X E0 s0 H0 scope cenv fp) σ (WE (WR E0) σ) := fun pins H s e s' I c => by
  refine ⟨XE.of_call (ofB I) (fun _ _ _ h => h) c, ?_⟩
  obtain ⟨a, B, H', cls, d, rfl, fl, _⟩ := c
  exact ⟨a, B, _, rfl, fl⟩
end
theorem note_eq {x : Value} {e1 e2 : PySem.Env} (h : e1.frame = e2.frame) : noteFrame x e1 = noteFrame x e2 := by
  unfold noteFrame PySem.frameOf
  rw [h]
theorem funF {h h2 B G : Heap} {C : Addr} (k : ∀ b, b ≠ C → h2.get? b = h.get? b) (g : ∀ b, B.get? b = none → G.get? b = none) : ∀ {l : List PySem.Env}, C ∉ frs l → h.FunFrames B l → h2.FunFrames G l
  | [], _, _ => trivial
  | e :: l, n, f => by
    obtain ⟨f1, ⟨L, o, f2, f3, f4, f5⟩, f6⟩ := f
    have m : frs (e :: l) = L :: frs l := by
      unfold frs
      rw [List.filterMap_cons, f2]
    rw [m] at n
    exact ⟨f1, ⟨L, o, f2, g L f3, by rw [k L fun z => n (by rw [z]; exact List.mem_cons_self)]; exact f4, f5⟩, funF k g (fun z => n (List.mem_cons_of_mem _ z)) f6⟩
/-- the error leaves the block: noted in the def's frame, the block's names let go -/
theorem leaveB {X : Cx} {E0 : XK} {pins : List (Addr × Obj)} {σ : St} {H : Hp} {sI s' : Shared} {a : Addr} {B : Heap} {cls : Value} {d : Option Addr} {C : Addr} {cenv cenv2 : PySem.Env} {m : Str → Option Value} {E1 : Value → Shared → Prop}
    (hs0 : X.stack = X.env :: X.outer) (hf0 : X.env.frame = some X.env.locals) (tk : Takes X (WR E0)) (hce : cenv.frame = X.env.frame) (hce2 : cenv2.frame = X.env.frame)
    (I : Inv X pins σ H sI) (nb : ∀ b o, sI.heap.get? b = some o → b ∉ frs X.stack → B.get? b = some o) (up : sI.heap.UpToSlots s'.heap) (fl : HandSPX.FlyingZ B X.stack a (Zc cls d) s'.heap) (na : H a = none) (os : s'.os = sI.os) (ag : AllBare s'.gens) (w : E0 cls d H)
    (hC : FpOk X pins H C) (ns : sI.heap.Ns C m) :
    wpAny (model X.prog X.w) X.A (noteFrame (.ref a) cenv) (fun _ s'' => ∃ m, s''.heap.Ns C m ∧ ∀ h', Heap.SameBut C s''.heap h' → wpAny (model X.prog X.w) X.A (PySem.passOn "comprehension.variables-let-go" (.ref a) cenv2 : Sem Value) (fun _ _ => False) X.xe { s'' with heap := h' }) E1 s' := by
  rw [note_eq hce]
  rw [hs0] at fl
  refine HandSPX.looks_onZ Zc.steady (by rw [I.ok.frames, hs0]) hf0 fl fun h1 hh up1 => ?_
  have up2 := up.trans up1
  have n1 := up2.ns ns
  refine ⟨m, n1, fun h2 sb => ?_⟩
  obtain ⟨oC, es, ep, gC, dC, _⟩ := n1
  have nf : ∀ b o vs, h1.get? b = some o → o.data = .fields vs → b ≠ C := fun b o vs e f z => by
    rw [z, gC] at e
    cases e
    rw [dC] at f
    cases f
  have nfr : C ∉ frs (X.env :: X.outer) := fun z => by
    have e : frs (X.env :: X.outer) = X.env.locals :: X.fs := by
      unfold Cx.fs frs
      rw [List.filterMap_cons, hf0]
    rw [e] at z
    rcases List.mem_cons.mp z with z | z
    · exact hC.2.1 z
    · exact hC.2.2.1 z
  obtain ⟨h1s, h1n, h1f, oe, vs, T, oT, ts, ge, hz, hd, hv, hnT, hTe, gT, hdT, hts⟩ := hh
  obtain ⟨G, g1, g2⟩ := restrict B fun b => decide (b ≠ C)
  obtain ⟨J, j1, j2⟩ := restrict sI.heap fun b => decide (b ≠ C)
  have gB : ∀ b o, G.get? b = some o → b ≠ C ∧ B.get? b = some o := fun b o e => by
    by_cases z : b = C
    · rw [g2 b (by simp [z])] at e
      cases e
    · exact ⟨z, by rw [← g1 b (by simp [z])]; exact e⟩
  have jB : ∀ b o, J.get? b = some o → b ≠ C ∧ sI.heap.get? b = some o := fun b o e => by
    by_cases z : b = C
    · rw [j2 b (by simp [z])] at e
      cases e
    · exact ⟨z, by rw [← j1 b (by simp [z])]; exact e⟩
  have gN : ∀ b, B.get? b = none → G.get? b = none := fun b e => by
    cases q : G.get? b with
    | none => rfl
    | some o =>
      rw [(gB b o q).2] at e
      cases e
  have st2 : G.StaysIn h2 := fun b o e => by
    obtain ⟨z, e⟩ := gB b o e
    rw [sb.2 b z]
    exact h1s b o e
  have f2 : h2.FunFrames G (X.env :: X.outer) := funF sb.2 gN nfr h1f
  have nC : a ≠ C := nf a oe vs ge hd
  have nT : T ≠ C := nf T oT ts gT hdT
  have ge2 : h2.get? a = some oe := by rw [sb.2 a nC]; exact ge
  have tr2 : HandSPX.TracedZ h2 G a (Zc cls d) (PySem.rawInt X.env.locals) := ⟨oe, vs, T, oT, ts, ge2, hz, hd, hv, gN T hnT, hTe, by rw [sb.2 T nT]; exact gT, hdT, hts⟩
  unfold PySem.passOn
  refine wpAny_bind (wpAny_field ge2 hd hv ?_)
  rw [if_neg (by simp)]
  refine wpAny_bind (HandSPX.setFlight_anyZ st2 f2 tr2 fun h3 k1 k2 k3 k4 => ?_)
  refine wpAny_throw (tk _ _ ⟨a, G, { sI with heap := J }, pins, σ, H, cls, d, rfl, ?_, ?_, ?_, ?_, na, os, ag, w⟩)
  · exact I.turned (t' := sI.toks) (fun b o z e => by rw [j1 b (by simp [z])]; exact e) hC.1 hC.2.1 hC.2.2.2.1 hC.2.2.2.2.1 hC.2.2.2.2.2
  · intro b o e hb
    obtain ⟨z, e⟩ := jB b o e
    rw [g1 b (by simp [z])]
    exact nb b o e hb
  · intro b o e hn
    obtain ⟨z, e⟩ := jB b o e
    obtain ⟨sl, e1⟩ := up2 b o e hn
    have e2 : h2.get? b = some { o with slots := sl } := by rw [sb.2 b z]; exact e1
    obtain ⟨sl2, e3⟩ := k4 b _ e2 hn
    exact ⟨sl2, e3⟩
  · rw [hce2, hf0] at k3
    rw [hs0]
    exact .inr (.inr ⟨k1, gN a h1n, k2, k3⟩)
/-- a comprehension as a value, by its block; the block's error passes on from the block's own names -/
theorem compF {M : Model} {A : Around} {E : Value → Shared → Prop} {s : Shared} {env : PySem.Env} {e : Expr} {scope : Scope} {pos : Pos} {newAcc first : Sem Value} {g : Comprehension} {gs : List Comprehension} {cl : List (Str × Addr)} {Q : Value → Shared → Prop} {R : Value → PySem.Env → Result → Shared → Prop}
    (hcl : clausesOf e = g :: gs) (hs : ∀ x, foldedSetIterable g.iter env x = pure x) (hclos : closureFor scope env = pure cl) (hkind : scope.kind = .function) (hnames : ∀ x ∈ scope.names, x.2 = .local → scope.names.lookup x.1 = some .local)
    (hok : ∀ acc cenv f s', R acc cenv (.ok f) s' → ∃ m, s'.heap.Ns cenv.locals m ∧ ∀ h', Heap.SameBut cenv.locals s'.heap h' → Q acc { s' with heap := h' })
    (her : ∀ acc cenv x s', R acc cenv (.error x) s' → ∃ m, s'.heap.Ns cenv.locals m ∧ ∀ h', Heap.SameBut cenv.locals s'.heap h' → wpAny M A (PySem.passOn "comprehension.variables-let-go" x cenv : Sem Value) (fun _ _ => False) E { s' with heap := h' })
    (h : wpAny M A first (fun x s₁ => wpAny M A (pyIter x) (fun it s₂ => wpAny M A newAcc (fun acc s₃ => wpAny M A (newFunctionEnv scope env.globals cl [] env.qual none .none (some env)) (fun cenv s₄ =>
      codeAny M A (.compStart e 0 it acc { cenv with scope := relabel scope env }) (R acc { cenv with scope := relabel scope env }) s₄) E s₃) E s₂) E s₁) E s) :
    wpAny M A (comprehension e scope env pos newAcc false first none) Q E s := by
  unfold comprehension
  rw [hclos, hcl]
  have up : ∀ e s', E e s' → E e s' := fun _ _ z => z
  refine wpAny_bind (wpAny_mono h (fun x s1 q1 => ?_) up)
  refine wpAny_bind (wpAny_standAt ?_)
  refine wpAny_bind (wpAny_of_eq (hs x) ?_)
  refine wpAny_bind (wpAny_holding (wpAny_mono q1 (fun it s2 q2 => ?_) up))
  refine wpAny_standIf ?_
  refine wpAny_bind (wpAny_mono q2 (fun acc s3 q3 => ?_) up)
  refine wpAny_bind (wpAny_pure ?_)
  refine wpAny_bind (wpAny_mono q3 (fun cenv s4 q4 => ?_) up)
  dsimp only
  generalize hV : (scope.names.filter fun x => (x.2 == NameKind.local || x.2 == NameKind.cell) && x.1 != (".0" : Str)) = V
  have loc : ∀ x ∈ V.reverse, x.2 = .local → PySem.Env.kindOf { cenv with scope := relabel scope env } x.1 = some .local := fun x hx hl => by
    refine lookup_relabel_local (hnames x ?_ hl)
    rw [← hV] at hx
    exact (List.mem_filter.mp (List.mem_reverse.mp hx)).1
  refine wpAny_holding (wpAny_bind (wpAny_attempt (wpAny_holding (wpAny_run (codeAny_mono q4 fun r s5 q5 => ?_)))))
  cases r with
  | ok f =>
    obtain ⟨m, hn, q6⟩ := hok _ _ _ _ q5
    refine wpAny_bind (wpAny_holding (wpAny_comp_letGo (cenv := { cenv with scope := relabel scope env }) hkind _ s5 m loc hn fun h' m' _ sb => ?_))
    exact wpAny_pure (q6 h' sb)
  | error x =>
    obtain ⟨m, hn, q6⟩ := her _ _ _ _ q5
    refine wpAny_bind (wpAny_holding (wpAny_comp_letGo (cenv := { cenv with scope := relabel scope env }) hkind _ s5 m loc hn fun h' m' _ sb => ?_))
    exact wpAny_mono (q6 h' sb) (fun _ _ z => z.elim) up
/-- what stands behind a comprehension's block -/
def RcX (X : Cx) (pins : List (Addr × Obj)) (σ : St) (Q : VK) (acc : Value) (cenv : PySem.Env) (r : Result) (s' : Shared) : Prop := match r with
  | .ok _ => ∃ m H' D, acc = .ref D ∧ Inv X pins σ H' s' ∧ Q (.ref D) H' ∧ s'.heap.Ns cenv.locals m ∧ FpOk X pins H' cenv.locals
  | .error x => ∃ m, s'.heap.Ns cenv.locals m ∧ ∀ h', Heap.SameBut cenv.locals s'.heap h' → wpAny (model X.prog X.w) X.A (PySem.passOn "comprehension.variables-let-go" x cenv : Sem Value) (fun _ _ => False) X.xe { s' with heap := h' }
section
variable {X : Cx} {E0 : XK}
/-- a value of a comprehension whose items may raise -/
theorem pe_lcX {elt tg iter : Expr} {ifs : List Expr} {scope : Scope} {own : List (Str × Nat)} {pos : Pos} {wi : TI} {g : TG} {tt : TT} {te : TE} (hs0 : X.stack = X.env :: X.outer) (hf0 : X.env.frame = some X.env.locals) (tk : Takes X (WR E0)) (hc : X.calm = true) (hN : X.N.Nodup) (hi : PI X tg iter wi) (ok : BlkOk X.N X.env.scope scope own)
    (hg : ∀ (s : Shared) (H : Hp) (C : Addr) (cl : List (Str × Addr)) (fp : List Addr), PG (blkX X E0 s H scope (compEnvC scope cl C X.env) fp) tg g)
    (ht : ∀ (s : Shared) (H : Hp) (C : Addr) (cl : List (Str × Addr)) (fp : List Addr), PTs (blkX X E0 s H scope (compEnvC scope cl C X.env) fp) ifs tt)
    (he : ∀ (s : Shared) (H : Hp) (C : Addr) (cl : List (Str × Addr)) (fp : List Addr), PE (blkX X E0 s H scope (compEnvC scope cl C X.env) fp) elt te)
    (hs : ∀ x, foldedSetIterable iter X.env x = pure x := by intro _; rfl) : PE X (.ListComp elt [⟨tg, iter, ifs, 0⟩] scope pos) (tLc wi g tt te (own.map (·.2))) := ⟨fun pins s σ H Q I h => by
  rw [eval_ListComp]
  have cells : ∀ y ∈ scope.names, y.2 = .free → ∃ c, X.env.cells.lookup y.1 = some c := fun y hy e => I.ok.has _ ((ok.free y hy e).imp id id)
  refine compF (R := RcX X pins σ Q)
    rfl hs (closure_ok cells) ok.kind (fun y hy e => by rw [ok.uniq y hy, e]) ?_ (fun _ _ _ _ z => z) (thn (hi.run pins s σ H _ I h) fun xv s1 hx => thn hx fun itv s2 h2 => ?_)
  · rintro acc cenv f s' ⟨m, H', D, rfl, I', q, hn, f0, f1, _, f3, f4, f5⟩
    exact ⟨m, hn, fun h' sb => ⟨.ref D, H', I'.turned (t' := s'.toks) (fun b o hb e => (sb.2 b hb).trans e) f0 f1 f3 f4 f5, rfl, q⟩⟩
  · obtain ⟨it, fp, tn, J, H2, rfl, I2, T, st2, f2, q⟩ := h2
    refine wpAny_newObj_type (newEnv_comp ?_) (by show 0 ≤ sizeLine; decide)
    -- the new list, at D
    obtain ⟨D, hD⟩ : ∃ D, D = s2.heap.objs.size := ⟨_, rfl⟩
    have freshD : H2 D = none := I2.hok.fresh (by rw [hD]; exact Nat.le_refl _)
    obtain ⟨W, ⟨m0, w0⟩, turn⟩ := q D freshD
    obtain ⟨s3, hs3⟩ : ∃ s3 : Shared, s3 = { s2 with heap := s2.heap.push { cls := .type "list", data := .seq ([] : List Value).toArray } } := ⟨_, rfl⟩
    have e3 : s3.heap = s2.heap.push { cls := .type "list", data := .seq ([] : List Value).toArray } := by rw [hs3]
    have I3 : Inv X pins σ (upd H2 D (.lst [])) s3 := by
      subst hs3
      refine I2.laid (t' := s2.toks) (fun b o e => Heap.get?_push_of_some _ e) (by rw [hD]; exact Nat.le_refl _) ⟨Nat.zero_le _, [], 0, .nil, ?_⟩
      subst hD
      exact Heap.get?_push_size _ rfl
    have keep3 : ∀ b o, s2.heap.get? b = some o → s3.heap.get? b = some o := fun b o e => by rw [e3]; exact Heap.get?_push_of_some _ e
    have below : ∀ b ∈ fp, b < s2.heap.objs.size := fun b hb => by
      obtain ⟨o, e, _⟩ := T.obj _ _ st2 b hb
      exact Heap.lt_size e
    have f3 : ∀ b ∈ fp, FpOk X pins (upd H2 D (.lst [])) b ∧ b < s3.heap.objs.size := fun b hb => by
      have l := below b hb
      have nD : b ≠ D := by rw [hD]; exact Nat.ne_of_lt l
      refine ⟨⟨by rw [upd_ne nD]; exact (f2 b hb).1, (f2 b hb).2⟩, ?_⟩
      rw [e3, Heap.size_push]
      exact Nat.lt_succ_of_lt l
    have st3 : tn 0 s3.heap := T.keep _ _ _ st2 fun b _ o e => keep3 b o e
    rw [← hs3, ← hD]
    -- the block's frame
    obtain ⟨ce, hce⟩ : ∃ ce, ce = compEnvC scope (cellsFrom (s3.heap.objs.size + 1) scope.names (cloFrom X.env.cells scope.names [])) s3.heap.objs.size X.env := ⟨_, rfl⟩
    have pg := hg s3 (upd H2 D (.lst [])) s3.heap.objs.size (cellsFrom (s3.heap.objs.size + 1) scope.names (cloFrom X.env.cells scope.names [])) fp
    have pt := ht s3 (upd H2 D (.lst [])) s3.heap.objs.size (cellsFrom (s3.heap.objs.size + 1) scope.names (cloFrom X.env.cells scope.names [])) fp
    have pe := he s3 (upd H2 D (.lst [])) s3.heap.objs.size (cellsFrom (s3.heap.objs.size + 1) scope.names (cloFrom X.env.cells scope.names [])) fp
    have I4 := block_start I3 ok hN f3
    have eL : ce.locals = s3.heap.objs.size := by rw [hce]; rfl
    have eF : ce.frame = X.env.frame := by rw [hce]; rfl
    rw [← hce] at pg pt pe I4
    obtain ⟨s4, hs4⟩ : ∃ s4 : Shared, s4 = { s3 with heap := pushCells (s3.heap.push { cls := .type "dict", data := .dict #[] }) scope.names } := ⟨_, rfl⟩
    rw [← hs4] at I4
    show codeAny _ _ (.compStart (.ListComp elt [⟨tg, iter, ifs, 0⟩] scope pos) 0 (.ref it) (.ref D) (compEnvC scope (cellsFrom (s3.heap.objs.size + 1) scope.names (cloFrom X.env.cells scope.names [])) s3.heap.objs.size X.env)) _ { s3 with heap := pushCells (s3.heap.push { cls := .type "dict", data := .dict #[] }) scope.names }
    rw [← hs4]
    show codeAny _ _ _ (RcX X pins σ Q (.ref D) (compEnvC scope (cellsFrom (s3.heap.objs.size + 1) scope.names (cloFrom X.env.cells scope.names [])) s3.heap.objs.size X.env)) s4
    rw [← hce]
    obtain ⟨H3, hH3⟩ : ∃ H3, H3 = upd H2 D (.lst []) := ⟨_, rfl⟩
    rw [← hH3] at I3 I4 pg pt pe w0 f3
    have st4 : tn 0 s4.heap := T.keep _ _ _ st3 fun b _ o e => by rw [hs4]; exact pushCells_keeps _ _ _ _ (Heap.get?_push_of_some _ e)
    have fpB : ∀ {σ' : St} {H' : Hp} {s' : Shared}, Inv (X.blk s3 H3 scope ce fp) [] σ' H' s' → (∀ b ∈ fp, H' b = none) → ∀ b ∈ fp, FpOk (X.blk s3 H3 scope ce fp) [] H' b := fun {σ' H' s'} I' hn b hb =>
      ⟨hn b hb, (I'.ok.exf b hb).1, I'.ok.exfs b hb, .inl hb, fun x c e => (I'.ok.exf b hb).2 x c e, fun p hp => by cases hp⟩
    -- from the block's state back to the def's
    have back : ∀ {pins' : List (Addr × Obj)} {σ' : St} {H' : Hp} {s' : Shared}, Inv (X.blk s3 H3 scope ce fp) pins' σ' H' s' → Inv X pins σ H' s' ∧ FpOk X pins H' ce.locals ∧ ∃ m, s'.heap.Ns ce.locals m := fun {pins' σ' H' s'} I' => by
      refine ⟨I3.call' (ch := fp) I'.os I'.base I'.hok I'.bare fun b hb => ⟨(f3 b hb).1.2.2.2.1, (f3 b hb).1.2.1, (f3 b hb).1.2.2.2.2.1, (f3 b hb).1.2.2.2.2.2⟩, I3.fpOk (by rw [eL]; exact Nat.le_refl _) I'.free, ?_⟩
      obtain ⟨m, hn, _⟩ := I'.loc
      exact ⟨m, hn⟩
    have err : ∀ u s', XeB (X.blk s3 H3 scope ce fp) E0 u s' → notedBy (model X.prog X.w) X.A ce (fun e s' => RcX X pins σ Q (.ref D) ce (.error e) s') u s' := fun u s' x => by
      obtain ⟨⟨a, B, sI, pins', σ', H', cls, d, rfl, I', nb, up, sky, na, os, ag, w⟩, a', B', Z', ea, fl'⟩ := x
      cases ea
      obtain ⟨Ix, fx, m, ns⟩ := back I'
      exact leaveB hs0 hf0 tk eF eF Ix nb up (sky_fly sky fl') na os ag w fx ns
    have go : ∀ {α : Type} {t : Sem α} {Q1 Q2 : α → Shared → Prop} {s : Shared}, wpAny (model X.prog X.w) X.A t Q1 (XeB (X.blk s3 H3 scope ce fp) E0) s → (∀ a s, Q1 a s → Q2 a s) → wpAny (model X.prog X.w) X.A t Q2 (notedBy (model X.prog X.w) X.A ce fun e s' => RcX X pins σ Q (.ref D) ce (.error e) s') s := fun h k => wpAny_mono h k err
    have loop : codeAny (model X.prog X.w) X.A (.compLoop (.ListComp elt [⟨tg, iter, ifs, 0⟩] scope pos) 0 (.ref it) (.ref D) ce) (RcX X pins σ Q (.ref D) ce) s4 := by
      refine compLoop_any (fun n s' => ∃ i H', Inv (X.blk s3 H3 scope ce fp) [] (wipe σ (own.map (·.2))) H' s' ∧ tn i s'.heap ∧ (∀ b ∈ fp, H' b = none) ∧ W i n H') ?_ m0 ⟨0, H3, I4, st4, fun b hb => (f3 b hb).1.1, w0⟩
      rintro n s5 ⟨i, H5, I5, st5, n5, w5⟩
      rcases turn i n H5 w5 with ⟨stop, qq⟩ | ⟨goes, Nx, hNx, step⟩
      · refine thnF (T.done (X.blk s3 H3 scope ce fp) rfl rfl rfl hc i [] s5 _ H5 (fun _ _ => False) I5 (fpB I5 n5) st5 stop) fun r s6 ⟨hr, I6⟩ => ?_
        subst hr
        obtain ⟨Ix, fx, m, ns⟩ := back I6
        exact ⟨m, H5, D, rfl, Ix, qq, ns, fx⟩
      · refine thnF (T.item (X.blk s3 H3 scope ce fp) rfl rfl rfl hc i [] s5 _ H5 (fun _ _ => False) I5 (fpB I5 n5) st5 goes) fun r s6 ⟨u, hr, h6⟩ => ?_
        subst hr
        refine thnF h6 fun _ s7 ⟨x, H7, I7, r7, y7, st7, n7⟩ => ?_
        have I7' := I7.pinned (fpB I7 n7) (T.obj _ _ st7)
        refine go (pg.run _ s7 _ H7 x u _ (toB I7') r7 (step x H7 y7)) fun _ s8 ⟨σ8, H8, I8, hw8, q8⟩ => ?_
        refine go (pt.run _ s8 σ8 H8 _ I8 q8) fun b s9 ⟨H9, I9, q9⟩ => ?_
        have fin : ∀ {s' : Shared} {H' : Hp}, Inv (X.blk s3 H3 scope ce fp) ([] ++ pinsAt fp s7.heap) σ8 H' s' → Nx H' → ∃ m, m < n ∧ ∃ i H', Inv (X.blk s3 H3 scope ce fp) [] (wipe σ (own.map (·.2))) H' s' ∧ tn i s'.heap ∧ (∀ b ∈ fp, H' b = none) ∧ W i m H' := fun {s' H'} I' nx => by
          obtain ⟨m', hm, w'⟩ := hNx H' nx
          have held : ∀ b ∈ fp, ∀ o, s7.heap.get? b = some o → s'.heap.get? b = some o ∧ H' b = none := fun b hb o e => by
            have z := I'.pin (b, o) (List.mem_append_right _ (List.mem_append_right _ (mem_pinsAt hb e)))
            exact ⟨z.1, z.2.1⟩
          refine ⟨m', hm, i + 1, H', (I'.unpinned (pins := [])).weak (by rw [← hw8, wipe_length]) (fun j v e => ?_), T.keep _ _ _ st7 fun b hb o e => (held b hb o e).1, fun b hb => ?_, w'⟩
          · rw [← hw8] at e
            exact (wipe_some e).1
          · obtain ⟨o, e, _⟩ := T.obj _ _ st7 b hb
            exact (held b hb o e).2
        cases b with
        | false => exact fin (ofB I9) (by simpa using q9)
        | true =>
          have q9' := by simpa using q9
          show wpAny _ _ _ _ _ _
          refine go (pe.run _ s9 σ8 H9 _ I9 q9') fun z s10 ⟨yv, H10, I10, r10, acc, hD10, hz10, nx⟩ => ?_
          exact app_ok (X := X.blk s3 H3 scope ce fp) (ofB I10) hD10 hz10 r10 fun s11 I11 => fin I11 nx
    exact codeAny_compStart_list loop (T.self X.A 0 _ _ _ st4 loop)⟩
end
end PM

namespace PM
open PySem PySem.Spec L2
open PyProof.Rows hiding St

/-! ### a comprehension whose items may raise, by values -/
def compLX (chk : Hs → Prop) (bd : DB) (tt : DT) (te : DE) (env : Env) : List PV → List PV → Hs → (List PV → Hs → Prop) → XQ → Prop
  | [], acc, h, Q, _ => chk h ∧ Q acc h
  | x :: xs, acc, h, Q, E => chk h ∧ bd x env fun env1 => tt env1 h (fun b h1 => if b = true then te env1 h1 (fun y h2 => match y.toVal with
      | some p => acc.length < sizeLine ∧ compLX chk bd tt te env xs (acc ++ [p]) h2 Q E
      | none => False) E else compLX chk bd tt te env xs acc h1 Q E) (fun _ _ => False)
@[simp ↓] theorem compLX_nil (chk : Hs → Prop) (bd : DB) (tt : DT) (te : DE) (env : Env) (acc : List PV) (h : Hs) (Q : List PV → Hs → Prop) (E : XQ) : compLX chk bd tt te env [] acc h Q E = (chk h ∧ Q acc h) := id rfl
@[simp ↓] theorem compLX_cons (chk : Hs → Prop) (bd : DB) (tt : DT) (te : DE) (env : Env) (x : PV) (xs : List PV) (acc : List PV) (h : Hs) (Q : List PV → Hs → Prop) (E : XQ) : compLX chk bd tt te env (x :: xs) acc h Q E = (chk h ∧ bd x env fun env1 => tt env1 h (fun b h1 => if b = true then te env1 h1 (fun y h2 => match y.toVal with
      | some p => acc.length < sizeLine ∧ compLX chk bd tt te env xs (acc ++ [p]) h2 Q E
      | none => False) E else compLX chk bd tt te env xs acc h1 Q E) (fun _ _ => False)) := id rfl
def dLcX (src : DI) (vs : List Nat) (bd : DB) (tt : DT) (te : DE) : DE := fun env h Q E => notOwn env vs = true ∧ src env h (fun xs chk h1 => compLX chk bd tt te (wipeE env vs) xs [] h1 (fun acc h2 => Q (.own acc) h2) E) E
@[simp ↓] theorem dLcX_eq (src : DI) (vs : List Nat) (bd : DB) (tt : DT) (te : DE) (env : Env) (h : Hs) (Q : VQ) (E : XQ) : dLcX src vs bd tt te env h Q E = (notOwn env vs = true ∧ src env h (fun xs chk h1 => compLX chk bd tt te (wipeE env vs) xs [] h1 (fun acc h2 => Q (.own acc) h2) E) E) := id rfl
section
variable {K : PySem.W.Frag}
theorem se_lcX {E0 : XK} {wi : TI} {g : TG} {tt : TT} {te : TE} {vs : List Nat} {src : DI} {bd : DB} {ft : DT} {fe : DE} (hs : SI K (WR E0) wi src) (hg : SG K vs g bd) (ht : ST K (fun _ _ _ _ => False) tt ft) (he : SE K (WR E0) te fe) :
    SE K (WR E0) (tLc wi g tt te vs) (dLcX src vs bd ft fe) := ⟨fun C m σ H env h Q E Q' eK R hf p px => by
  obtain ⟨hno, hf⟩ := hf
  refine hs.run C m σ H env h _ E _ eK R hf (fun C1 m1 J H1 xs chk h1 le S1 R1 ok q1 => ?_) px
  have eK1 : C1.K = K := le.K.trans eK
  intro D hD
  have h0D : C1.H0 D = none := by
    cases e : C1.H0 D with
    | none => rfl
    | some o => exact absurd hD (R1.dom D (by rw [e]; simp))
  have n0 : (C1.own (.ref D) (.own [])).K = K := (C1.own_K _ _).trans eK1
  have lep : ∀ p ∈ C1.pins, p ∈ (C1.own (.ref D) (.own [])).pins := fun p hp => by rw [C1.own_pins]; exact hp
  -- the state of the loop
  let Inv (i : Nat) (H2 : Hp) : Prop := i ≤ xs.length ∧ ∃ (m2 : List Addr) (h2 : Hs) (acc : List PV) (av : List V), StE m1 H1 m2 H2 ∧ Rel (C1.own (.ref D) (.own [])) m2 σ H2 env h2 ∧ H2 D = some (.lst av) ∧ D ∉ m2 ∧
    RepL C1.K (fun b => ExOf C1 σ env m2 b ∨ b = D) m2 H2 av acc ∧ compLX chk bd ft fe (wipeE env vs) (xs.drop i) acc h2 (fun acc h2 => Q (.own acc) h2) E
  refine ⟨fun i n H2 => n = xs.length - i ∧ Inv i H2, ?_, ?_⟩
  · exact ⟨_, rfl, Nat.zero_le _, m1, h1, [], [], .new hD, R1.fresh hD [], upd_same, fun z => R1.mDom z hD, .nil, q1⟩
  · rintro i n H2 ⟨rfl, hi, m2, h2, acc, av, S2, R2, hDa, nD, ra, q2⟩
    by_cases hlt : i < xs.length
    · right
      have ex : xs[i]? = some xs[i] := List.getElem?_eq_getElem hlt
      rw [List.drop_eq_getElem_cons hlt] at q2
      unfold compLX at q2
      obtain ⟨hc, q2⟩ := q2
      obtain ⟨go, yld⟩ := (ok _ m2 σ H2 env h2 (C1.own_K _ _) lep R2 hc i).1 _ ex
      refine ⟨go, Inv (i + 1), fun H' hN => ⟨_, by omega, rfl, hN⟩, fun x H3 hy => ?_⟩
      obtain ⟨sm, rx⟩ := yld x H3 hy
      have R3 : Rel (C1.own (.ref D) (.own [])) m2 σ H3 env h2 := R2.grow sm
      have Rw := R3.wipe vs
      have exw : ∀ b, ExOf (C1.own (.ref D) (.own [])) (wipe σ vs) (wipeE env vs) m2 b → ExOf (C1.own (.ref D) (.own [])) σ env m2 b := fun b q => by
        rcases q with q | q | q
        · exact .inl q
        · exact .inr (.inl (own_wipe q))
        · exact .inr (.inr q)
      refine hg.run _ m2 _ H3 _ h2 x _ _ _ n0 Rw (Rep.mono (Kp.le exw) ⟨[], by simp⟩ rx) q2 fun σ' env' R4 l4 k4 q4 => ?_
      refine ⟨(wipe_of (by rw [l4]) fun j hj => (k4 j hj).1).trans (wipe_wipe σ vs), ?_⟩
      -- the outer lists of one's own are there within the turn, too
      have own' : ∀ b, OwnAt σ env b → OwnAt σ' env' b := fun b ⟨j, ys, e, s⟩ => by
        have nj : j ∉ vs := fun z => by
          have w := List.all_eq_true.mp hno j z
          rw [e] at w
          cases w
        refine ⟨j, ys, ?_, ?_⟩
        · rw [(k4 j nj).2, wipeE_get nj]
          exact e
        · rw [(k4 j nj).1, wipe_get]
          simp only [nj, false_and, if_false]
          exact s
      have exo : ∀ {m5 : List Addr} (b : Addr), ExOf (C1.own (.ref D) (.own [])) σ env m5 b → ExOf (C1.own (.ref D) (.own [])) σ' env' m5 b := fun {m5} b w => by
        rcases w with w | w | w
        · exact .inl w
        · exact .inr (.inl (own' b w))
        · exact .inr (.inr w)
      have outer : ∀ {m5 : List Addr} {H5 : Hp} {h5 : Hs}, StE m2 H3 m5 H5 → Rel (C1.own (.ref D) (.own [])) m5 σ' H5 env' h5 → Rel (C1.own (.ref D) (.own [])) m5 σ H5 env h5 := fun {m5 H5 h5} S R5 =>
        R3.step S ⟨R5.hm.len, R5.hm.nd, fun n a c e f => (R5.hm.at_ n a c e f).mono (Kp.le exo) ⟨[], by simp⟩ rfl⟩
      have base : StE m1 H1 m2 H3 := S2.trans (.same sm)
      have hD3 : H3 D = some (.lst av) := sm _ _ hDa
      have ra3 : RepL C1.K (fun b => ExOf C1 σ env m2 b ∨ b = D) m2 H3 av acc := RepL.mono (fun b u e n => ⟨sm _ _ e, n⟩) ⟨[], by simp⟩ ra
      have raS : ∀ {m5 : List Addr} {H5 : Hp}, StE m2 H3 m5 H5 → RepL C1.K (fun b => ExOf C1 σ env m5 b ∨ b = D) m5 H5 av acc := fun {m5 H5} S => RepL.mono (S.kp (fun b q => .inl (.inr (.inr q))) fun b q => by
        rcases q with q | q
        · exact q.step.imp .inl id
        · exact .inl (.inr q)) S.ex' ra3
      have errx : ∀ {m5 : List Addr} {H5 : Hp}, StE m2 H3 m5 H5 → PostX (WR E0) (C1.own (.ref D) (.own [])) m5 σ' H5 env' E := fun {m5 H5} S5 c m' H' h' S R q => px c m' H' h' (S1.trans (base.trans (S5.trans S))) ((outer (S5.trans S) R).drop.back le) q
      have nopx : ∀ {m5 : List Addr} {H5 : Hp}, PostX (fun _ _ _ _ => False) (C1.own (.ref D) (.own [])) m5 σ' H5 env' (fun _ _ => False) := fun c m' H' h' _ _ z => z
      refine ht.run _ m2 σ' H3 env' h2 _ _ _ n0 R4 q4 (fun m5 b H5 h5 S5 R5 q5 => ?_) nopx
      cases b with
      | false =>
        refine iteF ⟨hlt, m5, h5, acc, av, base.trans S5, outer S5 R5, S5.keep _ _ hD3 nD, S5.notin (by rw [hD3]; simp) nD, raS S5, ?_⟩
        simpa using q5
      | true =>
        refine iteT (he.run _ m5 σ' H5 env' h5 _ _ _ n0 R5 (by simpa using q5) (fun m6 y H6 sy h6 S6 R6 r6 q6 => ?_) (errx S5))
        split at q6
        · rename_i pv ep
          obtain ⟨lz, q6⟩ := q6
          have S := S5.trans S6
          have hD6 : H6 D = some (.lst av) := S.keep _ _ hD3 nD
          have nD6 : D ∉ m6 := S.notin (by rw [hD3]; simp) nD
          have ry := R5.toVal r6 ep
          rw [C1.own_K] at ry
          have ro := outer S R6.drop
          have ra6 := raS S
          have lz' : av.length < sizeLine := by
            rw [ra6.length]
            exact lz
          refine ⟨av, hD6, lz', hlt, m6, h6, acc ++ [pv], av ++ [y], ?_, ro.mutTemp h0D nD6, upd_same, nD6, ?_, q6⟩
          · have B := base.trans S
            exact ⟨fun b o e n => by rw [upd_ne (ne_of_none e hD)]; exact B.keep b o e n, fun b q => by
              by_cases z : b = D
              · rw [z, upd_same]
                simp
              · rw [upd_ne z]
                exact B.dom b q, B.ext⟩
          · have ru : RepL C1.K (fun b => ExOf C1 σ env m6 b ∨ b = D) m6 H6 (av ++ [y]) (acc ++ [pv]) := ra6.append (.cons (Rep.mono (Kp.le fun b q => ?_) ⟨[], by simp⟩ ry) .nil)
            · exact RepL.mono (fun b u e n => ⟨by rw [upd_ne (fun z => n (.inr z))]; exact e, n⟩) ⟨[], by simp⟩ ru
            · rcases q with q | q
              · exact exo b (q.le fun _ => C1.own_GT _ _)
              · rw [q]
                exact .inl (.inr (.inr rfl))
        · exact q6.elim
    · left
      have ei : i = xs.length := by omega
      rw [List.drop_eq_nil_of_le (by omega)] at q2
      obtain ⟨hc, q2⟩ := q2
      refine ⟨(ok _ m2 σ H2 env h2 (C1.own_K _ _) lep R2 hc i).2 (by omega), ?_⟩
      have S := S1.trans S2
      have lo := le.own (.ref D) (.own acc) (.own []) rfl
      refine p m2 (.ref D) H2 (.own acc) h2 S (R2.back lo) ⟨D, av, rfl, hDa, stnew S1 hD, nD, ?_⟩ q2
      rw [← le.K]
      exact RepL.mono (Kp.le fun b q => q.imp (fun q => q.le le.gt) id) ⟨[], by simp⟩ ra⟩
end
section
variable {X : Cx} {E0 : XK} {tg : Expr} {fe : DE} {pos : Pos}
abbrev BlkAllX (X : Cx) (E0 : XK) (scope : Scope) (P : Cx → Prop) : Prop := ∀ (s : Shared) (H : Hp) (C : Addr) (cl : List (Str × Addr)) (fp : List Addr), P (blkX X E0 s H scope (compEnvC scope cl C X.env) fp)
theorem PGd.allX {scope : Scope} {tg : Expr} {vs : List Nat} {bd : DB} (h : BlkAllX X E0 scope fun Y => PGd Y vs tg bd) : ∃ g, (BlkAllX X E0 scope fun Y => PG Y tg g) ∧ SG X.K vs g bd := by
  refine ⟨fun x σ H Q => ∀ (s : Shared) (H0 : Hp) (C : Addr) (cl : List (Str × Addr)) (fp : List Addr), Classical.choose (h s H0 C cl fp).ok x σ H Q, fun s H0 C cl fp => ?_, ⟨fun C m σ H env h' x p q Q eK R r hf k s H0 C' cl fp => ?_⟩⟩
  · have z := (Classical.choose_spec (h s H0 C cl fp).ok).1
    exact ⟨fun pins s' σ H x u Q I r q => z.run pins s' σ H x u Q I r (q s H0 C cl fp)⟩
  · exact (Classical.choose_spec (h s H0 C' cl fp).ok).2.run C m σ H env h' x p q Q eK R r hf k
theorem pd_lcX {elt iter : Expr} {ifs : List Expr} {scope : Scope} {own : List (Str × Nat)} {vs : List Nat} {fi : DI} {bd : DB} {ft : DT} (hs0 : X.stack = X.env :: X.outer) (hf0 : X.env.frame = some X.env.locals) (tk : Takes X (WR E0)) (hc : X.calm = true) (hN : X.N.Nodup) (ok : BlkOk X.N X.env.scope scope own) (ev : own.map (·.2) = vs) (hi : PId X (WR E0) tg iter fi)
    (hg : BlkAllX X E0 scope fun Y => PGd Y vs tg bd) (ht : BlkAllX X E0 scope fun Y => PTsd Y W0 ifs ft) (he : BlkAllX X E0 scope fun Y => PEd Y (WR E0) elt fe) (hs : ∀ x, foldedSetIterable iter X.env x = pure x := by intro _; rfl) :
    PEd X (WR E0) (.ListComp elt [⟨tg, iter, ifs, 0⟩] scope pos) (dLcX fi vs bd ft fe) := by
  subst ev
  obtain ⟨g, h1, h2⟩ := PGd.allX hg
  exact .of (pe_lcX (tt := tT X.K W0 ft) (te := tE X.K (WR E0) fe) hs0 hf0 tk hc hN hi ok h1 ht he hs) (se_lcX siI h2 stT seE)
theorem pd_callXP {W : WX} {e : Expr} {es : List Expr} {fs : DA} {p : Pos} {x : Str} {d : DF} {n k k' : Nat} (F : FnAtX X.prog X.w X.K X.mg X.base k x n d) (hr : Room k' X.A) (hk : k ≤ k') (pa : ∀ σ, PassesAt (CX X.prog X.w) X σ (WE W σ)) (ha : PAd X W (e :: es) fs)
    (hg : Gl X x := by rfl) (hdb : (x == ("__debug__" : Str)) = false := by decide) (he : starEach (e :: es) X.env = (false, eval e X.env) :: starEach es X.env := by rfl) (hpl : (backTo pos (starEach es X.env)).any (·.1) = false := by rfl) : PEd X W (.Call (.Name x p) (e :: es) [] pos) (dCallX n d fs) := by
  obtain ⟨f, fd, ps, hm, kp, hb, G⟩ := F.at_
  exact .of (pe_callS G (hr.mono hk) hg hm kp hb pa ha hdb he hpl) (se_callX saA)
end
/-! ### isinstance(n, ValueError) in an except suite -/
theorem se_isET {K : PySem.W.Frag} {W : WX} {i : Nat} {a c : Addr} {T : String} {B : Addr → Option Bool} (hB : ∀ b, B c = some b → PySem.W.kitOne K (.ref c) (.type T) = some b) : SE K W (tCB (rIsE K c a) (tCons (tVar i) (tCons (tC (.ty T)) tNil))) (dIsE i a c B) := ⟨fun C m σ H env h Q E Q' eK R hf p px => by
  obtain ⟨e, b, eb, q⟩ := hf
  obtain ⟨v, s, r, _⟩ := R.slot i _ e
  have r : v = .ref a := r
  subst r
  refine ⟨_, s, ?_⟩
  refine ⟨.ty T, .type T, b, rfl, fun u ru => ru, hB b eb, ?_⟩
  exact p m (.bl b) H (.val (.bl b)) h (.refl m H) R (.bl b) q⟩
theorem bt_ValueError : bootBuiltins "ValueError" = some (.type "ValueError") := by decide +kernel
theorem pd_isET {X : Cx} {W : WX} {i : Nat} {a c : Addr} {T : String} {oe : Obj} {pn : List (Addr × Obj)} {B : Addr → Option Bool} {n y : Str} {p p1 p2 pos : Pos} (F : ExcC X.K c) (hz : Zc (.ref c) none oe) (hv : ∃ vs, oe.data = .fields vs) (hB : ∀ b, B c = some b → PySem.W.kitOne X.K (.ref c) (.type T) = some b) (hT : X.mg y = none) (hb : bootBuiltins y = some (.type T)) (hm : X.mg "isinstance" = none)
    (ho : PE (X.suite a ((a, oe) :: pn)) (.Name n p1) (tVar i)) (hg : Gl X "isinstance" := by rfl) (hgy : Gl X y := by rfl) (hny : y ≠ "__name__" := by decide) (hdy : (y == ("__debug__" : Str)) = false := by decide) (he : starEach [.Name n p1, .Name y p2] X.env = (false, eval (.Name n p1) X.env) :: starEach [.Name y p2] X.env := by rfl) (hpl : (backTo pos (starEach [.Name y p2] X.env)).any (·.1) = false := by rfl) :
    PEd (X.suite a ((a, oe) :: pn)) W (.Call (.Name "isinstance" p) [.Name n p1, .Name y p2] [] pos) (dIsE i a c B) :=
  .of (pe_callB (X := X.suite a ((a, oe) :: pn)) (call_isE F hz hv) hg hm boot_isi (pa_cons ho (pa_cons (pe_bltn (X := X.suite a ((a, oe) :: pn)) (v := .ty T) hgy hT hb rfl hny hdy) pa_nil)) (by decide) (by decide) he hpl) (se_isET hB)
end PM


namespace PM
open PySem PySem.Spec L2 PySem.W
open PyProof.Rows hiding St
/-! ### words for comprehensions, by what a turn gives -/
section
variable {chk : Hs → Prop} {bd : DB} {tt : DT} {te : DE} {env : Env} {h : Hs} {Q : List PV → Hs → Prop}
theorem compL_p {α : Type} (sv : α → SV) (f g : α → PV) (hc : chk h) (hsv : ∀ a, (sv a).toVal = some (g a)) : ∀ (l : List α) (acc : List PV), (∀ a ∈ l, ∀ K : VQ, bd (f a) env (fun e1 => te e1 h K fun _ _ => False) = K (sv a) h) → acc.length + l.length ≤ sizeLine →
    compL chk bd dYes te env (l.map f) acc h Q = Q (acc ++ l.map g) h
  | [], acc, _, _ => by simp [hc]
  | a :: l, acc, he, hl => by
    have ih := compL_p sv f g hc hsv l (acc ++ [g a]) (fun b m => he b (List.mem_cons_of_mem _ m)) (by simp at hl ⊢; omega)
    have l1 : acc.length < sizeLine := by simp at hl; omega
    rw [List.map_cons, compL]
    simp only [dYes, if_true]
    rw [he a List.mem_cons_self]
    simp only [hsv, hc, l1, true_and, ih]
    simp
theorem compL_pf {α : Type} (sv : α → SV) (f g : α → PV) (p : α → Bool) (hc : chk h) (hsv : ∀ a, (sv a).toVal = some (g a)) : ∀ (l : List α) (acc : List PV), (∀ a ∈ l, ∀ (K : VQ) (N : Hs → Prop), bd (f a) env (fun e1 => tt e1 h (fun b h1 => if b = true then te e1 h1 K (fun _ _ => False) else N h1) fun _ _ => False) = if p a = true then K (sv a) h else N h) → acc.length + l.length ≤ sizeLine →
    compL chk bd tt te env (l.map f) acc h Q = Q (acc ++ (l.filter p).map g) h
  | [], acc, _, _ => by simp [hc]
  | a :: l, acc, he, hl => by
    have l1 : acc.length < sizeLine := by simp at hl; omega
    have ih := fun acc hl => compL_pf sv f g p hc hsv l acc (fun b m => he b (List.mem_cons_of_mem _ m)) hl
    rw [List.map_cons, compL, he a List.mem_cons_self]
    by_cases pa : p a = true
    · rw [if_pos pa]
      simp only [hsv, hc, l1, true_and]
      rw [ih _ (by simp at hl ⊢; omega)]
      simp [List.filter_cons, pa]
    · rw [if_neg pa, ih _ (by simp at hl ⊢; omega)]
      simp [List.filter_cons, pa, hc]
/-- .. over a list as it stands -/
theorem compL_v (sv : PV → SV) (g : PV → PV) (hc : chk h) (hsv : ∀ a, (sv a).toVal = some (g a)) (l : List PV) (he : ∀ a ∈ l, ∀ K : VQ, bd a env (fun e1 => te e1 h K fun _ _ => False) = K (sv a) h) (hl : l.length ≤ sizeLine) :
    compL chk bd dYes te env l [] h Q = Q (l.map g) h := by
  have := compL_p (Q := Q) sv (fun x => x) g hc hsv l [] he (by simpa using hl)
  simpa using this
theorem setL_pf {QK : List Key → Hs → Prop} {α : Type} (f : α → PV) (p : α → Bool) (k : α → Key) (hc : chk h) : ∀ (l : List α) (acc : List Key), (∀ a ∈ l, ∀ (K : VQ) (N : Hs → Prop), bd (f a) env (fun e1 => tt e1 h (fun b h1 => if b = true then te e1 h1 K (fun _ _ => False) else N h1) fun _ _ => False) = if p a = true then K (.val (pvK (k a))) h else N h) → acc.length + l.length < 4096 →
    setL chk bd tt te env (l.map f) acc h QK = QK (acc ++ (l.filter p).map k) h
  | [], acc, _, _ => by simp [hc, setL]
  | a :: l, acc, he, hl => by
    have l1 : acc.length + 1 < 4096 := by simp at hl; omega
    have ih := fun acc hl => setL_pf (QK := QK) f p k hc l acc (fun b m => he b (List.mem_cons_of_mem _ m)) hl
    have inj : ∀ j, (SV.val (pvK (k a)) = SV.val (pvK j)) ↔ j = k a := fun j => by
      constructor
      · intro e
        cases q : k a <;> rw [q] at e <;> cases j <;> simp [pvK] at e <;> simp [e]
      · rintro rfl
        rfl
    rw [List.map_cons, setL, he a List.mem_cons_self]
    by_cases pa : p a = true
    · rw [if_pos pa]
      have ee : ∀ T : Key → Prop, (∃ j, SV.val (pvK (k a)) = SV.val (pvK j) ∧ T j) = T (k a) := fun T => by
        apply propext
        constructor
        · rintro ⟨j, e, t⟩
          obtain rfl := (inj j).mp e
          exact t
        · exact fun t => ⟨_, rfl, t⟩
      rw [ee, ih _ (by simp at hl ⊢; omega)]
      simp [List.filter_cons, pa, hc, l1]
    · rw [if_neg pa, ih _ (by simp at hl ⊢; omega)]
      simp [List.filter_cons, pa, hc]
end
/-- what is walked first: the turns are kept shut -/
theorem for_in {src : DI} {bd : DB} {b : DS} {D : DEnds} {env : Env} {h : Hs} (p : ∀ F : List PV → (Hs → Prop) → Hs → Prop, (∀ xs chk h1, forL chk bd b D xs env h1 → F xs chk h1) → src env h F fun c h1 => D.ex c env h1) : sFor src bd b D env h := p _ fun _ _ _ q => q
/-- a for that stops at the first item that is not p -/
theorem forL_all {chk : Hs → Prop} {b : DS} {D : DEnds} {h : Hs} {α : Type} (f : α → PV) (p : α → Bool) (i : Nat) (R T : Prop) (env : Env) (hc : chk h) : ∀ (l : List α) (env' : Env), (∀ x, env'.set i x = env.set i x) → (∀ a ∈ l, ∀ N : Env → Hs → Prop, b { D with nx := N, ct := N, bk := D.nx } (env.set i (some (.val (f a)))) h = if p a = true then N (env.set i (some (.val (f a)))) h else R) → D.nx env' h = T → (∀ w, D.nx (env.set i w) h = T) →
    forL chk (bName i) b D (l.map f) env' h = if l.all p = true then T else R
  | [], env', _, _, he, _ => by simp [hc, he]
  | a :: l, env', es, hb, he, hT => by
    have ih := forL_all f p i R T env hc l (env.set i (some (.val (f a)))) (fun x => by rw [List.set_set]) (fun c m => hb c (List.mem_cons_of_mem _ m)) (hT _) hT
    rw [List.map_cons, forL_cons]
    simp only [bName_eq, es, hb a List.mem_cons_self, ih, hc, true_and, List.all_cons]
    by_cases q : p a = true <;> simp [q]
/-! ### texts by their codes -/
theorem str_e0 : (Str.ofString "").cps = #[] := by decide +kernel
theorem str_l0 : (Str.ofString "").length = 0 := by decide +kernel
theorem join_e (ys : List Str) : (Txt.join ("" : String) ys).cps.toList = (ys.map fun y => y.cps.toList).flatten := by
  have aux : ∀ (ps : List Str) (acc : Array Nat), (ps.foldl (fun acc (p : Str) => acc ++ (Str.ofString "").cps ++ p.cps) acc).toList = acc.toList ++ (ps.map fun y => y.cps.toList).flatten := fun ps => by
    induction ps with
    | nil => intro acc; simp
    | cons p ps ih => intro acc; rw [List.foldl_cons, ih, str_e0]; simp
  cases ys with
  | nil => rfl
  | cons y ys => exact aux ys y.cps
theorem cutS_to (z : Str) (k : Nat) : (cutS z none (some (k : Int))).cps.toList = z.cps.toList.take k := by
  have zl : z.cps.toList.length = z.length := by
    show z.cps.toList.length = z.cps.size
    simp
  unfold cutS
  rw [HT.sIx_nat, HT.sIx_none, List.drop_zero]
  simp only
  rcases Nat.le_total k z.length with l | l
  · rw [Nat.min_eq_left l, Nat.sub_zero]
  · rw [Nat.min_eq_right l, Nat.sub_zero, ← zl, List.take_length, List.take_of_length_le (by omega)]
theorem cutS_from (z : Str) (k : Nat) : (cutS z (some (k : Int)) none).cps.toList = z.cps.toList.drop k := by
  have zl : z.cps.toList.length = z.length := by
    show z.cps.toList.length = z.cps.size
    simp
  unfold cutS
  rw [HT.sIx_nat, HT.sIx_none]
  simp only
  rw [List.take_of_length_le (by rw [List.length_drop, zl]; omega)]
  rcases Nat.le_total k z.length with l | l
  · rw [Nat.min_eq_left l]
  · rw [Nat.min_eq_right l, ← zl, List.drop_length, List.drop_eq_nil_of_le (by omega)]
/-! ### sorted lists of ints, by values -/
theorem leP_int (i j : Int) : leP (.int i) (.int j) = decide (i ≤ j) := by
  show (!dataLt (PV.int j).py (PV.int i).py) = _
  simp only [PV.py, dataLt_int]
  by_cases h : i ≤ j <;> simp [h] <;> omega
end PM

/-! Lines of data, and their reader, by code points alone. -/
namespace PM
open PySem PySem.Spec L2
open PyProof.Rows hiding St

abbrev cs (z : Str) : List Nat := z.cps.toList
def T (l : List Nat) : Str := ⟨l.toArray⟩
@[simp] theorem cs_T (l : List Nat) : (T l).cps.toList = l := by simp [T]
@[simp] theorem T_cs (z : Str) : T z.cps.toList = z := by simp [T]
@[simp] theorem T_len (l : List Nat) : (T l).length = l.length := by simp [T, Str.length]
theorem T_inj {a b : List Nat} : T a = T b ↔ a = b := ⟨fun e => by simpa using congrArg cs e, fun e => by rw [e]⟩
theorem T_app (a b : List Nat) : T a ++ T b = T (a ++ b) := by
  show (⟨(T a).cps ++ (T b).cps⟩ : Str) = _
  simp [T]
theorem T_one (c : Nat) : (⟨#[c]⟩ : Str) = T [c] := rfl
theorem signs_T (l : List Nat) : signs (T l) = l.map fun c => .str (T [c]) := by
  unfold signs
  rw [cs_T]
  rfl
open TL (numL)
theorem T_num (n : Nat) : Str.ofString (toString ((n : Nat) : Int)) = T (numL n) := by
  have := TL.tl_num n
  show _ = _
  rw [← T_cs (Str.ofString _)]
  exact congrArg T this
def intL (i : Int) : List Nat := if 0 ≤ i then numL i.toNat else 45 :: numL i.natAbs
theorem T_int (i : Int) : Str.ofString (toString i) = T (intL i) := by
  unfold intL
  by_cases q : 0 ≤ i
  · rw [if_pos q]
    have := T_num i.toNat
    rw [Int.toNat_of_nonneg q] at this
    exact this
  · rw [if_neg q]
    obtain ⟨n, rfl⟩ : ∃ n, i = Int.negSucc n := by
      cases i with
      | ofNat n => exact absurd (Int.natCast_nonneg n) q
      | negSucc n => exact ⟨n, rfl⟩
    have e := TL.tl_num (n + 1)
    rw [← T_cs (Str.ofString _)]
    congr 1
    rw [PyProof.Rows.signs_ofString]
    show ("-" ++ Nat.repr (n + 1)).toList.map Char.toNat = _
    rw [String.toList_append, List.map_append, Nat.toList_repr]
    rfl
/-! ### the line -/
mutual
def ln : PV → List Nat
  | .non => [126]
  | .int i => 35 :: (intL i ++ [59])
  | .str z => 39 :: (numL z.length ++ 58 :: z.cps.toList)
  | .tup xs => 40 :: (lnL xs ++ [41])
  | _ => []
def lnL : List PV → List Nat
  | [] => []
  | p :: ps => ln p ++ lnL ps
end
theorem lnL_app : ∀ a b : List PV, lnL (a ++ b) = lnL a ++ lnL b
  | [], b => by simp [lnL]
  | p :: a, b => by
    rw [List.cons_append, lnL, lnL, lnL_app a b, List.append_assoc]
theorem lnL_flat (xs : List PV) : lnL xs = (xs.map ln).flatten := by
  induction xs with
  | nil => simp [lnL]
  | cons p xs ih => simp [lnL, ih]
/-! ### the reader -/
/-- up to a sign, and behind it -/
def tuF (stop : Nat) : List Nat → List Nat → Option (List Nat × List Nat)
  | _, [] => none
  | acc, c :: s => if c = stop then some (acc, s) else if acc.length + 1 > 20 then none else tuF stop (acc ++ [c]) s
def isDig (c : Nat) : Bool := decide (48 ≤ c ∧ c ≤ 57)
def decV (a : List Nat) : Nat := a.foldl (fun v c => 10 * v + (c - 48)) 0
def numF (stop : Nat) (s : List Nat) : Option (Nat × List Nat) := match tuF stop [] s with
  | none => none
  | some (a, r) => if a ≠ [] ∧ a.all isDig = true ∧ numL (decV a) = a then some (decV a, r) else none
def intF (s : List Nat) : Option (Int × List Nat) :=
  if s.take 1 = [45] then match numF 59 (s.drop 1) with
    | none => none
    | some (v, r) => if v > 10 ^ 18 ∨ v = 0 then none else some (-(v : Int), r)
  else match numF 59 s with
    | none => none
    | some (v, r) => if v > 10 ^ 18 then none else some ((v : Int), r)
def txtF (s : List Nat) : Option (PV × List Nat) := match numF 58 s with
  | none => none
  | some (v, r) => if r.length < v then none else some (.str (T (r.take v)), r.drop v)
def itF (rd : List Nat → Option (PV × List Nat)) : Nat → List PV → List Nat → Option (PV × List Nat)
  | 0, _, _ => none
  | f + 1, acc, s => if s.take 1 = [41] then some (.tup acc, s.drop 1) else match rd s with
    | none => none
    | some (p, s2) => itF rd f (acc ++ [p]) s2
/-- n: how many may stand one in another, and one more -/
def rdF : Nat → List Nat → Option (PV × List Nat)
  | 0, _ => none
  | _ + 1, [] => none
  | n + 1, c :: s => if c = 126 then some (.non, s) else if c = 35 then (intF s).map (fun x => (.int x.1, x.2)) else if c = 39 then txtF s else if c ≠ 40 ∨ n = 0 then none else itF (rdF n) (s.length + 1) [] s
/-! ### suffixes -/
theorem tuF_suf {stop : Nat} : ∀ {s acc a r : List Nat}, tuF stop acc s = some (a, r) → ∃ t, s = t ++ stop :: r ∧ a = acc ++ t ∧ stop ∉ t ∧ a.length ≤ acc.length + t.length
  | [], _, _, _, e => by cases e
  | c :: s, acc, a, r, e => by
    unfold tuF at e
    by_cases q : c = stop
    · rw [if_pos q] at e
      cases e
      exact ⟨[], by simp [q], by simp, by simp, by simp⟩
    · rw [if_neg q] at e
      by_cases l : acc.length + 1 > 20
      · rw [if_pos l] at e
        cases e
      · rw [if_neg l] at e
        obtain ⟨t, h1, h2, h3, h4⟩ := tuF_suf e
        refine ⟨c :: t, by rw [h1]; rfl, by rw [h2]; simp, fun m => ?_, by rw [List.length_append] at h4; simp at h4 ⊢; omega⟩
        rcases List.mem_cons.mp m with m | m
        · exact q m.symm
        · exact h3 m
theorem numF_suf {stop v : Nat} {s r : List Nat} (e : numF stop s = some (v, r)) : r <:+ s ∧ r.length < s.length := by
  unfold numF at e
  split at e
  · cases e
  · rename_i a r' h
    split at e
    · cases e
      obtain ⟨t, h1, _⟩ := tuF_suf h
      subst h1
      exact ⟨⟨t ++ [stop], by simp⟩, by simp; omega⟩
    · cases e
theorem intF_suf {v : Int} {s r : List Nat} (e : intF s = some (v, r)) : r <:+ s ∧ r.length < s.length := by
  unfold intF at e
  split at e
  · split at e
    · cases e
    · rename_i w r' h
      split at e
      · cases e
      · cases e
        obtain ⟨h1, h2⟩ := numF_suf h
        rw [List.length_drop] at h2
        exact ⟨h1.trans (List.drop_suffix 1 s), by omega⟩
  · split at e
    · cases e
    · rename_i w r' h
      split at e
      · cases e
      · cases e
        exact numF_suf h
theorem txtF_suf {p : PV} {s r : List Nat} (e : txtF s = some (p, r)) : r <:+ s ∧ r.length < s.length := by
  unfold txtF at e
  split at e
  · cases e
  · rename_i w r' h
    obtain ⟨h1, h2⟩ := numF_suf h
    split at e
    · cases e
    · cases e
      exact ⟨(List.drop_suffix _ _).trans h1, by rw [List.length_drop]; omega⟩
theorem itF_suf {rd : List Nat → Option (PV × List Nat)} (hr : ∀ s p r, rd s = some (p, r) → r <:+ s ∧ r.length < s.length) : ∀ {f : Nat} {acc : List PV} {s : List Nat} {p : PV} {r : List Nat}, itF rd f acc s = some (p, r) → r <:+ s ∧ r.length < s.length
  | 0, _, _, _, _, e => by cases e
  | f + 1, acc, s, p, r, e => by
    unfold itF at e
    split at e
    · rename_i q
      cases e
      refine ⟨List.drop_suffix 1 s, ?_⟩
      cases s with
      | nil => cases q
      | cons c s => simp
    · split at e
      · cases e
      · rename_i p2 s2 h
        obtain ⟨h1, h2⟩ := hr _ _ _ h
        obtain ⟨h3, h4⟩ := itF_suf hr e
        exact ⟨h3.trans h1, by omega⟩
theorem rdF_suf : ∀ {n : Nat} {s : List Nat} {p : PV} {r : List Nat}, rdF n s = some (p, r) → r <:+ s ∧ r.length < s.length
  | 0, _, _, _, e => by cases e
  | n + 1, [], _, _, e => by cases e
  | n + 1, c :: s, p, r, e => by
    have up : ∀ {r : List Nat}, r <:+ s ∧ r.length < s.length → r <:+ (c :: s) ∧ r.length < (c :: s).length := fun h => ⟨h.1.trans (List.suffix_cons c s), by have := h.2; simp; omega⟩
    unfold rdF at e
    split at e
    · cases e
      exact ⟨List.suffix_cons c s, by simp⟩
    · split at e
      · rw [Option.map_eq_some_iff] at e
        obtain ⟨⟨v, r'⟩, h, e⟩ := e
        cases e
        exact up (intF_suf h)
      · split at e
        · exact up (txtF_suf e)
        · split at e
          · cases e
          · exact up (itF_suf (fun _ _ _ => rdF_suf) e)
/-! ### what is read back -/
theorem tuF_app {stop : Nat} {r : List Nat} : ∀ {t acc : List Nat}, stop ∉ t → acc.length + t.length ≤ 20 → tuF stop acc (t ++ stop :: r) = some (acc ++ t, r)
  | [], acc, _, _ => by simp [tuF]
  | c :: t, acc, h, l => by
    rw [List.cons_append, tuF, if_neg fun e => h (by simp [e]), if_neg (by simp at l; omega), tuF_app (fun m => h (List.mem_cons_of_mem _ m)) (by simp at l ⊢; omega)]
    simp
theorem decV_aux : ∀ (l : List Nat) (a : Nat), l.foldl (fun v c => 10 * v + (c - 48)) a = l.foldl (fun acc c => acc * 10 + (c - 48)) a
  | [], _ => rfl
  | c :: l, a => by rw [List.foldl_cons, List.foldl_cons, decV_aux l, Nat.mul_comm]
theorem decV_num (n : Nat) : decV (numL n) = n := by
  have h := TL.numL_val n
  unfold NumText.digitsVal at h
  unfold decV
  rw [decV_aux]
  exact h
theorem numL_dig (n : Nat) : (numL n).all isDig = true := by
  rw [List.all_eq_true]
  intro c m
  have := TL.numL_digits n c m
  unfold isDig
  exact decide_eq_true this
theorem numF_app {stop n : Nat} {r : List Nat} (hs : stop < 48 ∨ 57 < stop) (hl : n < 10 ^ 20) : numF stop (numL n ++ stop :: r) = some (n, r) := by
  unfold numF
  rw [tuF_app (TL.numL_free hs) (by have := TL.numL_len (by decide) hl; simp; omega)]
  simp only [List.nil_append]
  rw [if_pos ⟨TL.numL_ne n, numL_dig n, by rw [decV_num]⟩, decV_num]
theorem numL_head {n : Nat} : ∃ c t, numL n = c :: t ∧ 48 ≤ c ∧ c ≤ 57 := by
  cases e : numL n with
  | nil => exact absurd e (TL.numL_ne n)
  | cons c t =>
    have := TL.numL_digits n c (by rw [e]; simp)
    exact ⟨c, t, rfl, this⟩
theorem intF_app {i : Int} {r : List Nat} (h : i.natAbs ≤ 10 ^ 18) : intF (intL i ++ 59 :: r) = some (i, r) := by
  unfold intF intL
  by_cases q : 0 ≤ i
  · rw [if_pos q]
    obtain ⟨c, t, e, h1, h2⟩ := numL_head (n := i.toNat)
    have n45 : ¬ (numL i.toNat ++ 59 :: r).take 1 = [45] := by
      rw [e]
      simp
      omega
    rw [if_neg n45, numF_app (by omega) (by omega)]
    have : ¬ i.toNat > 10 ^ 18 := by omega
    simp only [if_neg this]
    rw [Int.toNat_of_nonneg q]
  · rw [if_neg q]
    have e1 : (45 :: numL i.natAbs ++ 59 :: r).take 1 = [45] := by simp
    have e2 : (45 :: numL i.natAbs ++ 59 :: r).drop 1 = numL i.natAbs ++ 59 :: r := by simp
    rw [if_pos e1, e2, numF_app (by omega) (by omega)]
    have : ¬ (i.natAbs > 10 ^ 18 ∨ i.natAbs = 0) := by omega
    simp only [if_neg this]
    congr 2
    omega
theorem txtF_app {l r : List Nat} (h : l.length < 10 ^ 20) : txtF (numL l.length ++ 58 :: (l ++ r)) = some (.str (T l), r) := by
  unfold txtF
  rw [numF_app (by omega) h]
  have : ¬ (l ++ r).length < l.length := by simp
  simp only [if_neg this]
  simp
/-- data of at most n tuples one in another -/
def Gd : Nat → PV → Prop
  | _, .non => True
  | _, .int i => i.natAbs ≤ 10 ^ 18
  | _, .str z => z.length < 10 ^ 20
  | 0, .tup _ => False
  | n + 1, .tup xs => ∀ x ∈ xs, Gd n x
  | _, _ => False
theorem Gd.succ : ∀ {n : Nat} {p : PV}, Gd n p → Gd (n + 1) p
  | n, .non, h => by unfold Gd; trivial
  | n, .int i, h => by unfold Gd at h ⊢; exact h
  | n, .str z, h => by unfold Gd at h ⊢; exact h
  | 0, .tup xs, h => by unfold Gd at h; exact h.elim
  | n + 1, .tup xs, h => by
    unfold Gd at h ⊢
    exact fun x m => (h x m).succ
  | n, .bl _, h => by unfold Gd at h; exact h.elim
  | n, .lst _, h => by unfold Gd at h; exact h.elim
  | n, .ref _, h => by unfold Gd at h; exact h.elim
theorem Gd.mono {n m : Nat} {p : PV} (h : Gd n p) (l : n ≤ m) : Gd m p := by
  induction l with
  | refl => exact h
  | step _ ih => exact ih.succ
theorem ln_head {n : Nat} : ∀ {p : PV}, Gd n p → ∃ c t, ln p = c :: t ∧ c ≠ 41
  | .non, h => ⟨126, [], by simp [ln], by decide⟩
  | .int i, h => ⟨35, _, by rw [ln], by decide⟩
  | .str z, h => ⟨39, _, by rw [ln], by decide⟩
  | .tup xs, h => ⟨40, _, by rw [ln], by decide⟩
  | .bl _, h => by cases n <;> (unfold Gd at h; exact h.elim)
  | .lst _, h => by cases n <;> (unfold Gd at h; exact h.elim)
  | .ref _, h => by cases n <;> (unfold Gd at h; exact h.elim)
theorem itF_app {rd : List Nat → Option (PV × List Nat)} {n : Nat} {r : List Nat} : ∀ (xs : List PV) (acc : List PV) (f : Nat), (∀ x ∈ xs, Gd n x) → (∀ x ∈ xs, ∀ r, rd (ln x ++ r) = some (x, r)) → (lnL xs).length < f → itF rd f acc (lnL xs ++ 41 :: r) = some (.tup (acc ++ xs), r)
  | [], acc, f, _, _, hf => by
    obtain ⟨f, rfl⟩ : ∃ g, f = g + 1 := ⟨f - 1, by omega⟩
    rw [lnL, itF]
    simp
  | x :: xs, acc, f, hg, hr, hf => by
    obtain ⟨f, rfl⟩ : ∃ g, f = g + 1 := ⟨f - 1, by omega⟩
    obtain ⟨c, t, e, n41⟩ := ln_head (hg x List.mem_cons_self)
    rw [lnL] at hf ⊢
    rw [itF, if_neg (by rw [e]; simpa using n41), List.append_assoc, hr x List.mem_cons_self]
    have l : 0 < (ln x).length := by rw [e]; simp
    rw [List.length_append] at hf
    show itF rd f (acc ++ [x]) _ = _
    rw [itF_app xs (acc ++ [x]) f (fun y m => hg y (List.mem_cons_of_mem _ m)) (fun y m => hr y (List.mem_cons_of_mem _ m)) (by omega)]
    simp
theorem rdF_app : ∀ {n : Nat} {p : PV} {r : List Nat}, Gd n p → rdF (n + 1) (ln p ++ r) = some (p, r)
  | n, .non, r, h => by simp [ln, rdF]
  | n, .int i, r, h => by
    unfold Gd at h
    rw [ln, List.cons_append, rdF, if_neg (by decide), if_pos rfl, List.append_assoc]
    show (intF (intL i ++ 59 :: r)).map _ = _
    rw [intF_app h]
    rfl
  | n, .str z, r, h => by
    unfold Gd at h
    rw [ln, List.cons_append, rdF, if_neg (by decide), if_neg (by decide), if_pos rfl, List.append_assoc]
    have e : z.length = z.cps.toList.length := by simp [Str.length]
    rw [e] at h ⊢
    show txtF (numL z.cps.toList.length ++ 58 :: (z.cps.toList ++ r)) = _
    rw [txtF_app h, T_cs]
  | 0, .tup xs, r, h => by unfold Gd at h; exact h.elim
  | n + 1, .tup xs, r, h => by
    unfold Gd at h
    rw [ln, List.cons_append, rdF, if_neg (by decide), if_neg (by decide), if_neg (by decide), if_neg (by omega), List.append_assoc]
    show itF _ _ [] (lnL xs ++ 41 :: r) = _
    rw [itF_app xs [] _ h (fun x m r => rdF_app (h x m)) (by simp; omega)]
    rfl
  | n, .bl _, _, h => by cases n <;> (unfold Gd at h; exact h.elim)
  | n, .lst _, _, h => by cases n <;> (unfold Gd at h; exact h.elim)
  | n, .ref _, _, h => by cases n <;> (unfold Gd at h; exact h.elim)
theorem szM {n : Nat} (h : n ≤ 16777216) : n ≤ sizeLine := h
theorem szLtM {n : Nat} (h : n < 16777216) : n < sizeLine := h
theorem join_T (l : List Nat) : Txt.join ("" : String) (l.map fun c => (⟨#[c]⟩ : Str)) = T l := by
  rw [← T_cs (Txt.join _ _)]
  congr 1
  rw [join_e, List.map_map]
  induction l with
  | nil => rfl
  | cons c l ih => rw [List.map_cons, List.flatten_cons, ih]; rfl
theorem fit_T (l : List Nat) (h : l.length ≤ 16777216) : JoinFits ("" : String) (l.map fun c => (⟨#[c]⟩ : Str)) := by
  unfold JoinFits
  rw [str_l0, List.map_map]
  have sum : ∀ l : List Nat, (l.map (Str.length ∘ fun c => (⟨#[c]⟩ : Str))).sum = l.length := fun l => by
    induction l with
    | nil => rfl
    | cons c l ih => rw [List.map_cons, List.sum_cons, ih, List.length_cons, Nat.add_comm]; rfl
  rw [sum]
  omega
theorem cutS_T (l : List Nat) (i j : Nat) : cutS (T l) (some (i : Int)) (some (j : Int)) = T ((l.drop i).take (j - i)) := by
  unfold cutS
  rw [cs_T, T_len, HT.sIx_nat, HT.sIx_nat, T]
  congr 2
  rcases Nat.le_total i l.length with q | q
  · rw [Nat.min_eq_left q]
    rcases Nat.le_total j l.length with k | k
    · rw [Nat.min_eq_left k]
    · rw [Nat.min_eq_right k, List.take_of_length_le (by rw [List.length_drop]; omega), List.take_of_length_le (by rw [List.length_drop]; omega)]
  · rw [Nat.min_eq_right q, List.drop_length, List.drop_eq_nil_of_le q]
    simp
@[simp] theorem T_nil : T [] = (Str.ofString "") := by decide +kernel
theorem ok_T {l : List Nat} (h : ∀ c ∈ l, c < 128) : PyData.strOk (T l) = true := by
  unfold PyData.strOk
  rw [← Array.all_toList, cs_T, List.all_eq_true]
  intro c m
  have := h c m
  exact decide_eq_true (by omega)
@[simp] theorem ok_e : PyData.strOk (Str.ofString "") = true := by decide +kernel
theorem R_num (n : Nat) : Str.ofString (Int.repr ((n : Nat) : Int)) = T (numL n) := T_num n
theorem R_int (i : Int) : Str.ofString (Int.repr i) = T (intL i) := T_int i
theorem log_lt {n k : Nat} (h : n < 10 ^ k) (hk : k ≤ 100) : n.log2 < 1920 := by
  by_cases z : n = 0
  · rw [z]; decide
  · rw [Nat.log2_lt z]
    refine Nat.lt_of_lt_of_le h (Nat.le_trans (Nat.pow_le_pow_right (by decide) hk) ?_)
    exact Nat.le_trans (m := 2 ^ 400) (by decide) (Nat.pow_le_pow_right (by decide) (by decide))
theorem T_apps (a : List Nat) (z : Str) : T a ++ z = T (a ++ z.cps.toList) := by
  conv => lhs; rw [← T_cs z]
  exact T_app _ _
def okc (c : Nat) : Prop := 32 ≤ c ∧ c ≤ 126 ∧ c ≠ 37
instance (c : Nat) : Decidable (okc c) := by unfold okc; infer_instance
theorem okc_num {n c : Nat} (m : c ∈ numL n) : okc c := by
  have := TL.numL_digits n c m
  exact ⟨by omega, by omega, by omega⟩
theorem okc_int {i : Int} {c : Nat} (m : c ∈ intL i) : okc c := by
  unfold intL at m
  split at m
  · exact okc_num m
  · rcases List.mem_cons.mp m with rfl | m
    · decide
    · exact okc_num m
theorem pyEq_tups (xs ys : List PV) : pyEq (.tup xs) (.tup ys) = true ↔ xs.length = ys.length ∧ ∀ (i : Nat) (x y : PV), xs[i]? = some x → ys[i]? = some y → pyEq x y = true := by
  induction xs generalizing ys with
  | nil => cases ys <;> simp
  | cons x xs ih =>
    cases ys with
    | nil => simp
    | cons y ys =>
      rw [pyEq_tupc, Bool.and_eq_true, ih]
      constructor
      · rintro ⟨h, l, h2⟩
        refine ⟨by simp [l], fun i a b ha hb => ?_⟩
        cases i with
        | zero => cases ha; cases hb; exact h
        | succ i => exact h2 i a b ha hb
      · rintro ⟨l, h⟩
        exact ⟨h 0 x y rfl rfl, by simpa using l, fun i a b ha hb => h (i + 1) a b ha hb⟩
theorem pyEq_gd : ∀ {n : Nat} {p q : PV}, Gd n p → Gd n q → (pyEq p q = true ↔ p = q)
  | n, .non, q, _, hq => by
    cases q with
    | non => simp
    | int i => simp [pyEq, PV.py, PyData.eqv]
    | str i => simp [pyEq, PV.py, PyData.eqv]
    | tup i => simp [pyEq, PV.py, PyData.eqv]
    | bl _ => cases n <;> (unfold Gd at hq; exact hq.elim)
    | lst _ => cases n <;> (unfold Gd at hq; exact hq.elim)
    | ref _ => cases n <;> (unfold Gd at hq; exact hq.elim)
  | n, .int j, q, _, hq => by
    cases q with
    | non => simp [pyEq, PV.py, PyData.eqv]
    | int i => simp
    | str i => simp [pyEq, PV.py, PyData.eqv]
    | tup i => simp [pyEq, PV.py, PyData.eqv]
    | bl _ => cases n <;> (unfold Gd at hq; exact hq.elim)
    | lst _ => cases n <;> (unfold Gd at hq; exact hq.elim)
    | ref _ => cases n <;> (unfold Gd at hq; exact hq.elim)
  | n, .str j, q, _, hq => by
    cases q with
    | non => simp [pyEq, PV.py, PyData.eqv]
    | int i => simp [pyEq, PV.py, PyData.eqv]
    | str i => simp
    | tup i => simp [pyEq, PV.py, PyData.eqv]
    | bl _ => cases n <;> (unfold Gd at hq; exact hq.elim)
    | lst _ => cases n <;> (unfold Gd at hq; exact hq.elim)
    | ref _ => cases n <;> (unfold Gd at hq; exact hq.elim)
  | 0, .tup xs, q, hp, hq => by unfold Gd at hp; exact hp.elim
  | n + 1, .tup xs, q, hp, hq => by
    cases q with
    | non => simp [pyEq, PV.py, PyData.eqv]
    | int i => simp [pyEq, PV.py, PyData.eqv]
    | str i => simp [pyEq, PV.py, PyData.eqv]
    | tup ys =>
      unfold Gd at hp hq
      rw [pyEq_tups]
      constructor
      · rintro ⟨l, h⟩
        congr 1
        refine List.ext_getElem? fun i => ?_
        by_cases il : i < xs.length
        · have e1 := List.getElem?_eq_getElem il
          have e2 := List.getElem?_eq_getElem (show i < ys.length by omega)
          rw [e1, e2, (pyEq_gd (hp _ (List.getElem_mem il)) (hq _ (List.getElem_mem _))).mp (h i _ _ e1 e2)]
        · rw [List.getElem?_eq_none (by omega), List.getElem?_eq_none (by omega)]
      · intro e
        cases e
        refine ⟨rfl, fun i x y ex ey => ?_⟩
        rw [ex] at ey
        cases ey
        exact (pyEq_gd (hp x (List.mem_of_getElem? ex)) (hp x (List.mem_of_getElem? ex))).mpr rfl
    | bl _ => unfold Gd at hq; exact hq.elim
    | lst _ => unfold Gd at hq; exact hq.elim
    | ref _ => unfold Gd at hq; exact hq.elim
  | n, .bl _, _, hp, _ => by cases n <;> (unfold Gd at hp; exact hp.elim)
  | n, .lst _, _, hp, _ => by cases n <;> (unfold Gd at hp; exact hp.elim)
  | n, .ref _, _, hp, _ => by cases n <;> (unfold Gd at hp; exact hp.elim)
/-- no line begins another one -/
theorem ln_pre {n : Nat} {p q : PV} {t : List Nat} (hp : Gd n p) (hq : Gd n q) (e : ln p = ln q ++ t) : p = q := by
  have h1 := rdF_app (r := []) hp
  have h2 := rdF_app (r := t) hq
  rw [List.append_nil, e, h2] at h1
  cases h1
  rfl
theorem ln_inj {n : Nat} {p q : PV} (hp : Gd n p) (hq : Gd n q) (e : ln p = ln q) : p = q := ln_pre (t := []) hp hq (by rw [e, List.append_nil])
end PM

namespace PM
open PySem PySem.Spec L2
open PyProof.Rows hiding St
open TL (numL)
/-! ### what is read is a line -/
theorem numF_inv {stop v : Nat} {s r : List Nat} (e : numF stop s = some (v, r)) : s = numL v ++ stop :: r ∧ v < 10 ^ 20 := by
  unfold numF at e
  split at e
  · cases e
  · rename_i a r' h
    split at e
    · rename_i q
      cases e
      obtain ⟨t, h1, h2, h3, h4⟩ := tuF_suf h
      rw [List.nil_append] at h2
      subst h2
      refine ⟨by rw [q.2.2]; exact h1, ?_⟩
      have l20 : a.length ≤ 20 := by
        have aux : ∀ {s acc a r : List Nat}, tuF stop acc s = some (a, r) → acc.length ≤ 20 → a.length ≤ 20 := by
          intro s
          induction s with
          | nil => intro acc a r e _; cases e
          | cons c s ih =>
            intro acc a r e l
            unfold tuF at e
            split at e
            · cases e; exact l
            · split at e
              · cases e
              · exact ih e (by simp; omega)
        exact aux h (by simp)
      have lt : ∀ (l : List Nat) (b : Nat), l.all isDig = true → l.foldl (fun v c => 10 * v + (c - 48)) b < (b + 1) * 10 ^ l.length := by
        intro l
        induction l with
        | nil => intro b _; simp
        | cons c l ih =>
          intro b hd
          rw [List.all_cons, Bool.and_eq_true] at hd
          have h1 := hd.1
          unfold isDig at h1
          have := of_decide_eq_true h1
          rw [List.foldl_cons, List.length_cons]
          refine Nat.lt_of_lt_of_le (ih _ hd.2) ?_
          rw [Nat.pow_succ, Nat.mul_comm (10 ^ l.length) 10, ← Nat.mul_assoc]
          exact Nat.mul_le_mul_right _ (by omega)
      have := lt a 0 q.2.1
      rw [Nat.zero_add, Nat.one_mul] at this
      exact Nat.lt_of_lt_of_le this (Nat.pow_le_pow_right (by decide) l20)
    · cases e
theorem intF_inv {v : Int} {s r : List Nat} (e : intF s = some (v, r)) : s = intL v ++ 59 :: r ∧ v.natAbs ≤ 10 ^ 18 := by
  unfold intF at e
  split at e
  · rename_i q
    split at e
    · cases e
    · rename_i w r' h
      split at e
      · cases e
      · rename_i q2
        cases e
        obtain ⟨h1, _⟩ := numF_inv h
        obtain ⟨t, rfl⟩ : ∃ t, s = 45 :: t := by
          cases s with
          | nil => cases q
          | cons c t => simp at q; exact ⟨t, by rw [q]⟩
        simp at h1
        unfold intL
        rw [if_neg (by omega), h1]
        refine ⟨by simp, by omega⟩
  · split at e
    · cases e
    · rename_i w r' h
      split at e
      · cases e
      · rename_i q2
        cases e
        obtain ⟨h1, _⟩ := numF_inv h
        unfold intL
        rw [if_pos (by omega)]
        exact ⟨by simpa using h1, by omega⟩
theorem txtF_inv {p : PV} {s r : List Nat} (e : txtF s = some (p, r)) : ∃ l : List Nat, p = .str (T l) ∧ s = numL l.length ++ 58 :: (l ++ r) ∧ l.length < 10 ^ 20 := by
  unfold txtF at e
  split at e
  · cases e
  · rename_i w r' h
    obtain ⟨h1, h2⟩ := numF_inv h
    split at e
    · cases e
    · rename_i q
      cases e
      have : (r'.take w).length = w := by rw [List.length_take]; omega
      exact ⟨r'.take w, rfl, by rw [this, List.take_append_drop]; exact h1, by rw [this]; exact h2⟩
theorem itF_inv {rd : List Nat → Option (PV × List Nat)} {n : Nat} (hr : ∀ s p r, rd s = some (p, r) → Gd n p ∧ s = ln p ++ r) : ∀ {f : Nat} {acc : List PV} {s : List Nat} {p : PV} {r : List Nat}, itF rd f acc s = some (p, r) → ∃ xs, p = .tup (acc ++ xs) ∧ (∀ x ∈ xs, Gd n x) ∧ s = lnL xs ++ 41 :: r
  | 0, _, _, _, _, e => by cases e
  | f + 1, acc, s, p, r, e => by
    unfold itF at e
    split at e
    · rename_i q
      cases e
      refine ⟨[], by simp, by simp, ?_⟩
      cases s with
      | nil => cases q
      | cons c t => simp at q; simp [lnL, q]
    · split at e
      · cases e
      · rename_i p2 s2 h
        obtain ⟨g, rfl⟩ := hr _ _ _ h
        obtain ⟨xs, e1, e2, e3⟩ := itF_inv hr e
        refine ⟨p2 :: xs, by rw [e1]; simp, fun x m => ?_, by rw [e3, lnL, List.append_assoc]⟩
        rcases List.mem_cons.mp m with rfl | m
        · exact g
        · exact e2 x m
theorem rdF_inv : ∀ {n : Nat} {s : List Nat} {p : PV} {r : List Nat}, rdF (n + 1) s = some (p, r) → Gd n p ∧ s = ln p ++ r
  | n, [], _, _, e => by cases e
  | n, c :: s, p, r, e => by
    unfold rdF at e
    split at e
    · rename_i q
      cases e
      exact ⟨by cases n <;> (unfold Gd; trivial), by rw [q, ln]; rfl⟩
    · split at e
      · rename_i q
        rw [Option.map_eq_some_iff] at e
        obtain ⟨⟨v, r'⟩, h, e⟩ := e
        cases e
        obtain ⟨h1, h2⟩ := intF_inv h
        exact ⟨by cases n <;> (unfold Gd; exact h2), by rw [q, h1, ln]; simp⟩
      · split at e
        · rename_i q
          obtain ⟨l, rfl, h1, h2⟩ := txtF_inv e
          exact ⟨by cases n <;> (unfold Gd; rw [T_len]; exact h2), by rw [q, h1, ln, T_len, cs_T]; simp⟩
        · split at e
          · cases e
          · rename_i q
            have q1 : c = 40 := Classical.byContradiction fun z => q (.inl z)
            obtain ⟨k, rfl⟩ : ∃ k, n = k + 1 := ⟨n - 1, by omega⟩
            obtain ⟨xs, rfl, h1, h2⟩ := itF_inv (n := k) (fun _ _ _ => rdF_inv) e
            exact ⟨by unfold Gd; simpa using h1, by rw [q1, h2, ln]; simp⟩
end PM

namespace PM
open PySem PySem.Spec L2
open PyProof.Rows hiding St
def c_MOST_DEPTH : PV := (.int 30)
def c_MOST_INTEGER : PV := (.int 1000000000000000000)
def c_DIGITS : PV := (.str "0123456789")
def c_LOW_SIGNS : PV := (.str " !\"#$")
def c_HIGH_SIGNS : PV := (.str "&'()*+,-./0123456789:;<=>?@ABCDEFGHIJKLMNOPQRSTUVWXYZ[\\]^_`abcdefghijklmnopqrstuvwxyz{|}~")
def c_FIRST_LOW : PV := (.int 32)
def c_FIRST_HIGH : PV := (.int 38)
/-! Reader.__init__(self, line): 0 self, 1 line -/
def d_Reader___init___b (C_Reader : Addr) : DS :=
  sSeq (sFldS C_Reader (dVar 0) (dVar 1) "line")
  (sFldS C_Reader (dVar 0) (dC (.int 0)) "at")
def d_Reader___init__ (C_Reader : Addr) : DF := dDef 2 0 (d_Reader___init___b C_Reader)
/-! Reader.look(self): 0 self -/
def d_Reader_look_b (C_Reader : Addr) : DS :=
  sRet (dSl (dFld C_Reader (dVar 0) "line") (dPart (dFld C_Reader (dVar 0) "at")) (dPart (dOp gAdd (dFld C_Reader (dVar 0) "at") (dC (.int 1)))))
def d_Reader_look (C_Reader : Addr) : DF := dDef 1 0 (d_Reader_look_b C_Reader)
/-! sign_of(octet): 0 octet -/
def d_sign_of_b (C_Malformed : Addr) : DS :=
  sSeq (sIf (dTst (dChain gLe gLt (dC c_FIRST_LOW) (dVar 0) (dOp gAdd (dC c_FIRST_LOW) (dB (g1 gLen) (dCons (dC c_LOW_SIGNS) dNil))))) (sRet (dOp gIx (dC c_LOW_SIGNS) (dOp gSub (dVar 0) (dC c_FIRST_LOW)))) sNil)
  (sSeq (sIf (dTst (dChain gLe gLt (dC c_FIRST_HIGH) (dVar 0) (dOp gAdd (dC c_FIRST_HIGH) (dB (g1 gLen) (dCons (dC c_HIGH_SIGNS) dNil))))) (sRet (dOp gIx (dC c_HIGH_SIGNS) (dOp gSub (dVar 0) (dC c_FIRST_HIGH)))) sNil)
  (sRaise C_Malformed))
def d_sign_of (C_Malformed : Addr) : DF := dDef 1 0 (d_sign_of_b C_Malformed)
/-! _law_number(_law_script, _law_k): 0 _law_script, 1 _law_k, 2 _law_cell, 3 _law_first, 4 _law_second -/
def d_law_number_b : DS :=
  sSeq (sAsg 2 (dC (.int 0)))
  (sSeq (sIf (dTst (dOp gGt (dB (g1 gLen) (dCons (dVar 0) dNil)) (dC (.int 0)))) (sAsg 2 (dOp gIx (dVar 0) (dOp gMod (dB (g1 gInt1) (dCons (dVar 1) dNil)) (dB (g1 gLen) (dCons (dVar 0) dNil))))) sNil)
  (sSeq (sIf (dTst (dOp gLt (dVar 2) (dC (.int 0)))) (sAsg 2 (dOp gSub (dC (.int 1)) (dOp gMulX (dC (.int 2)) (dVar 2)))) sNil)
  (sSeq (sIf (dAnd (dTst (dOp gGe (dVar 2) (dOp gPow (dC (.int 10)) (dC (.int 9))))) (dTst (dOp gLt (dVar 1) (dB (g1 gLen) (dCons (dVar 0) dNil))))) (sRetV 2) sNil)
  (sSeq (sAsg 3 (dOp gMod (dB (g1 gInt1) (dCons (dOp gAdd (dOp gMulX (dOp gAdd (dVar 2) (dC (.int 7))) (dC (.int 48271))) (dOp gMulX (dOp gAdd (dVar 1) (dC (.int 3))) (dC (.int 69621)))) dNil)) (dC (.int 2147483647))))
  (sSeq (sAsg 4 (dOp gMod (dB (g1 gInt1) (dCons (dOp gAdd (dOp gAdd (dOp gMulX (dOp gAdd (dVar 3) (dC (.int 11))) (dC (.int 16807))) (dOp gMulX (dOp gAdd (dVar 2) (dC (.int 1))) (dC (.int 40692)))) (dVar 1)) dNil)) (dC (.int 2147483399))))
  (sRet (dOp gMod (dB (g1 gInt1) (dCons (dOp gAdd (dOp gAdd (dOp gMulX (dVar 3) (dC (.int 2147483399))) (dOp gMulX (dVar 4) (dC (.int 31)))) (dVar 2)) dNil)) (dC (.int 4611686014132420609)))))))))
def d_law_number : DF := dDef 2 3 d_law_number_b
/-! _law_take(_law_box, _law_size): 0 _law_box, 1 _law_size, 2 _law_digit -/
def d_law_take_b : DS :=
  sSeq (sAsg 2 (dOp gMod (dB (g1 gInt1) (dCons (dOp gIx (dVar 0) (dC (.int 0))) dNil)) (dVar 1)))
  (sSeq (sSetE (dVar 0) (dC (.int 0)) (dOp gFdiv (dOp gIx (dVar 0) (dC (.int 0))) (dVar 1)))
  (sRetV 2))
def d_law_take : DF := dDef 2 1 d_law_take_b
/-! _law_number_end(_law_line, _law_at, _law_stop): 0 _law_line, 1 _law_at, 2 _law_stop, 3 _law_end_here, 4 _law_digits -/
def d_law_number_end_b : DS :=
  sSeq (sAsg 3 (dVar 1))
  (sSeq (sWhile (dAnd (dTst (dOp gLt (dVar 3) (dB (g1 gLen) (dCons (dVar 0) dNil)))) (dAnd (dTst (dOp gIn (dOp gIx (dVar 0) (dVar 3)) (dC (.str "0123456789")))) (dTst (dOp gLt (dOp gSub (dVar 3) (dVar 1)) (dC (.int 20)))))) (sAsg 3 (dOp gAdd (dVar 3) (dC (.int 1)))))
  (sSeq (sAsg 4 (dSl (dVar 0) (dPart (dVar 1)) (dPart (dVar 3))))
  (sSeq (sIf (dOr (dTst (dOp gEq (dVar 4) (dC (.str "")))) (dOr (dTst (dOp gNe (dSl (dVar 0) (dPart (dVar 3)) (dPart (dOp gAdd (dVar 3) (dC (.int 1))))) (dVar 2))) (dAnd (dTst (dOp gGt (dB (g1 gLen) (dCons (dVar 4) dNil)) (dC (.int 1)))) (dTst (dOp gEq (dOp gIx (dVar 4) (dC (.int 0))) (dC (.str "0"))))))) (sRet (dUn gNeg (dC (.int 1)))) sNil)
  (sRetV 3))))
def d_law_number_end : DF := dDef 3 2 d_law_number_end_b
/-! Reader.take(self): 0 self, 1 sign -/
def d_Reader_take_b (C_Malformed C_Reader : Addr) : DS :=
  sSeq (sAsg 1 (dMeth C_Reader "look" 1 (d_Reader_look C_Reader) (dVar 0) dNil))
  (sSeq (sIf (dTst (dOp gEq (dVar 1) (dC (.str "")))) (sRaise C_Malformed) sNil)
  (sSeq (sFldAug C_Reader "at" (· + ·) (dVar 0) (dC (.int 1)))
  (sRetV 1)))
def d_Reader_take (C_Malformed C_Reader : Addr) : DF := dDef 1 1 (d_Reader_take_b C_Malformed C_Reader)
/-! _law_bent(_law_octets, _law_box): 0 _law_octets, 1 _law_box, 2 _law_kind, 3 _law_at, 4 _law_strange, 5 _law_deep, 6 _law_digits, 7 _law_sign, 8 _law_k -/
def d_law_bent_b : DS :=
  sSeq (sAsg 2 (dCall 2 d_law_take (dCons (dVar 1) (dCons (dC (.int 8)) dNil))))
  (sSeq (sAsg 3 (dCall 2 d_law_take (dCons (dVar 1) (dCons (dB (g1 gLen) (dCons (dVar 0) dNil)) dNil))))
  (sSeq (sAsg 4 (dOp gIx (dLst (dCons (dC (.int 0)) (dCons (dC (.int 10)) (dCons (dC (.int 31)) (dCons (dC (.int 37)) (dCons (dC (.int 40)) (dCons (dC (.int 41)) (dCons (dC (.int 45)) (dCons (dC (.int 48)) (dCons (dC (.int 49)) (dCons (dC (.int 58)) (dCons (dC (.int 59)) (dCons (dC (.int 126)) (dCons (dC (.int 127)) (dCons (dC (.int 200)) (dCons (dC (.int 35)) (dCons (dC (.int 39)) dNil))))))))))))))))) (dCall 2 d_law_take (dCons (dVar 1) (dCons (dC (.int 16)) dNil)))))
  (sSeq (sIf (dTst (dOp gEq (dVar 2) (dC (.int 0)))) (sFrz 4 (sRet (dOp gAdd (dOp gAdd (dSl (dVar 0) dNoPart (dPart (dVar 3))) (dLst (dCons (dVar 4) dNil))) (dSl (dVar 0) (dPart (dOp gAdd (dVar 3) (dC (.int 1)))) dNoPart)))) sNil)
  (sSeq (sIf (dTst (dOp gEq (dVar 2) (dC (.int 1)))) (sRet (dOp gAdd (dSl (dVar 0) dNoPart (dPart (dVar 3))) (dSl (dVar 0) (dPart (dOp gAdd (dVar 3) (dC (.int 1)))) dNoPart))) sNil)
  (sSeq (sIf (dTst (dOp gEq (dVar 2) (dC (.int 2)))) (sFrz 4 (sRet (dOp gAdd (dOp gAdd (dSl (dVar 0) dNoPart (dPart (dVar 3))) (dLst (dCons (dVar 4) dNil))) (dSl (dVar 0) (dPart (dVar 3)) dNoPart)))) sNil)
  (sSeq (sIf (dTst (dOp gEq (dVar 2) (dC (.int 3)))) (sRet (dSl (dVar 0) dNoPart (dPart (dVar 3)))) sNil)
  (sSeq (sIf (dTst (dOp gEq (dVar 2) (dC (.int 4)))) (sRet (dOp gAdd (dVar 0) (dVar 0))) sNil)
  (sSeq (sIf (dTst (dOp gEq (dVar 2) (dC (.int 5)))) (sSeq (sAsg 5 (dOp gAdd (dC (.int 29)) (dCall 2 d_law_take (dCons (dVar 1) (dCons (dC (.int 6)) dNil)))))
  (sRet (dOp gAdd (dOp gAdd (dOp gMulX (dLst (dCons (dC (.int 40)) dNil)) (dVar 5)) (dVar 0)) (dOp gMulX (dLst (dCons (dC (.int 41)) dNil)) (dOp gSub (dVar 5) (dCall 2 d_law_take (dCons (dVar 1) (dCons (dC (.int 2)) dNil)))))))) sNil)
  (sSeq (sIf (dTst (dOp gEq (dVar 2) (dC (.int 6)))) (sSeq (sAsg 6 (dOp gIx (dLst (dCons (dC (.str "1000000000000000000")) (dCons (dC (.str "1000000000000000001")) (dCons (dC (.str "999999999999999999")) (dCons (dC (.str "00")) (dCons (dC (.str "0")) dNil)))))) (dCall 2 d_law_take (dCons (dVar 1) (dCons (dC (.int 5)) dNil)))))
  (sFrz 6 (sRet (dOp gAdd (dOp gAdd (dOp gAdd (dLst (dCons (dC (.int 35)) dNil)) (dOp gMulX (dLst (dCons (dC (.int 45)) dNil)) (dCall 2 d_law_take (dCons (dVar 1) (dCons (dC (.int 2)) dNil))))) (dLc (dIt (dKV 6)) [7] (bName 7) dYes (dOp gAdd (dC (.int 48)) (dB (g1 gIntS) (dCons (dVar 7) dNil))))) (dLst (dCons (dC (.int 59)) dNil)))))) sNil)
  (sRet (dLc (dRng1 (dCall 2 d_law_take (dCons (dVar 1) (dCons (dC (.int 9)) dNil)))) [8] (bName 8) dYes (dOp gIx (dLst (dCons (dC (.int 40)) (dCons (dC (.int 41)) (dCons (dC (.int 126)) (dCons (dC (.int 35)) (dCons (dC (.int 39)) (dCons (dC (.int 48)) (dCons (dC (.int 49)) (dCons (dC (.int 58)) (dCons (dC (.int 59)) (dCons (dC (.int 45)) dNil))))))))))) (dCall 2 d_law_take (dCons (dVar 1) (dCons (dC (.int 10)) dNil)))))))))))))))
def d_law_bent : DF := dDef 2 7 d_law_bent_b
/-! Reader.take_until(self, stop): 0 self, 1 stop, 2 found, 3 sign -/
def d_Reader_take_until_b (C_Malformed C_Reader : Addr) : DS :=
  sSeq (sAsg 2 (dC (.str "")))
  (sSeq (sAsg 3 (dMethX C_Reader "take" 1 (d_Reader_take C_Malformed C_Reader) (dVar 0) dNil))
  (sSeq (sWhile (dTst (dOp gNe (dVar 3) (dVar 1))) (sSeq (sAsg 2 (dOp gAdd (dVar 2) (dVar 3)))
  (sSeq (sIf (dTst (dOp gGt (dB (g1 gLen) (dCons (dVar 2) dNil)) (dC (.int 20)))) (sRaise C_Malformed) sNil)
  (sAsg 3 (dMethX C_Reader "take" 1 (d_Reader_take C_Malformed C_Reader) (dVar 0) dNil)))))
  (sRetV 2)))
def d_Reader_take_until (C_Malformed C_Reader : Addr) : DF := dDef 2 2 (d_Reader_take_until_b C_Malformed C_Reader)
/-! Reader.number(self, stop): 0 self, 1 stop, 2 digits, 3 value, 4 sign -/
def d_Reader_number_b (C_Malformed C_Reader : Addr) : DS :=
  sSeq (sAsg 2 (dMethX C_Reader "take_until" 2 (d_Reader_take_until C_Malformed C_Reader) (dVar 0) (dCons (dVar 1) dNil)))
  (sSeq (sFrz 2 (sIf (dOr (dTst (dOp gEq (dVar 2) (dC (.str "")))) (dTru (dB (g1 gAny) (dCons (dLc (dIt (dKV 2)) [4] (bName 4) dYes (dOp gNotIn (dVar 4) (dC c_DIGITS))) dNil)))) (sRaise C_Malformed) sNil))
  (sSeq (sAsg 3 (dC (.int 0)))
  (sSeq (sFrz 2 (sFor (dIt (dKV 2)) (bName 4) (sAsg 3 (dOp gAdd (dOp gMulX (dC (.int 10)) (dVar 3)) (dIndexS (dC c_DIGITS) (dVar 4))))))
  (sSeq (sIf (dTst (dOp gNe (dB (g1 gStrI) (dCons (dVar 3) dNil)) (dVar 2))) (sRaise C_Malformed) sNil)
  (sRetV 3)))))
def d_Reader_number (C_Malformed C_Reader : Addr) : DF := dDef 2 3 (d_Reader_number_b C_Malformed C_Reader)
/-! Reader.integer(self): 0 self, 1 below, 2 value -/
def d_Reader_integer_b (C_Malformed C_Reader : Addr) : DS :=
  sSeq (sAsg 1 (dOp gEq (dMeth C_Reader "look" 1 (d_Reader_look C_Reader) (dVar 0) dNil) (dC (.str "-"))))
  (sSeq (sIf (dTru (dVar 1)) (sExpr (dMethX C_Reader "take" 1 (d_Reader_take C_Malformed C_Reader) (dVar 0) dNil)) sNil)
  (sSeq (sAsg 2 (dMethX C_Reader "number" 2 (d_Reader_number C_Malformed C_Reader) (dVar 0) (dCons (dC (.str ";")) dNil)))
  (sSeq (sIf (dOr (dTst (dOp gGt (dVar 2) (dC c_MOST_INTEGER))) (dAnd (dTru (dVar 1)) (dTst (dOp gEq (dVar 2) (dC (.int 0)))))) (sRaise C_Malformed) sNil)
  (sSeq (sIf (dTru (dVar 1)) (sRet (dUn gNeg (dVar 2))) sNil)
  (sRetV 2)))))
def d_Reader_integer (C_Malformed C_Reader : Addr) : DF := dDef 1 2 (d_Reader_integer_b C_Malformed C_Reader)
/-! Reader.text(self): 0 self, 1 count, 2 found -/
def d_Reader_text_b (C_Malformed C_Reader : Addr) : DS :=
  sSeq (sAsg 1 (dMethX C_Reader "number" 2 (d_Reader_number C_Malformed C_Reader) (dVar 0) (dCons (dC (.str ":")) dNil)))
  (sSeq (sAsg 2 (dSl (dFld C_Reader (dVar 0) "line") (dPart (dFld C_Reader (dVar 0) "at")) (dPart (dOp gAdd (dFld C_Reader (dVar 0) "at") (dVar 1)))))
  (sSeq (sIf (dTst (dOp gLt (dB (g1 gLen) (dCons (dVar 2) dNil)) (dVar 1))) (sRaise C_Malformed) sNil)
  (sSeq (sFldAug C_Reader "at" (· + ·) (dVar 0) (dVar 1))
  (sRetV 2))))
def d_Reader_text (C_Malformed C_Reader : Addr) : DF := dDef 1 2 (d_Reader_text_b C_Malformed C_Reader)
/-! line_of(data): 0 data, 1 one -/
def d_line_of_b (dR : DF) : DS :=
  sSeq (sIf (dTst (dOp (gIsN false) (dVar 0) (dC .non))) (sRet (dC (.str "~"))) sNil)
  (sSeq (sIf (dTru (dIsi .int (dVar 0))) (sRet (dOp gAdd (dOp gAdd (dC (.str "#")) (dB (g1 gStrI) (dCons (dVar 0) dNil))) (dC (.str ";")))) sNil)
  (sSeq (sIf (dTru (dIsi .str (dVar 0))) (sRet (dOp gAdd (dOp gAdd (dOp gAdd (dC (.str "'")) (dB (g1 gStrI) (dCons (dB (g1 gLen) (dCons (dVar 0) dNil)) dNil))) (dC (.str ":"))) (dVar 0))) sNil)
  (sRet (dOp gAdd (dOp gAdd (dC (.str "(")) (dJoin (dC (.str "")) (dLc (dIt (dKV 0)) [1] (bName 1) dYes (dCall 1 dR (dCons (dVar 1) dNil))))) (dC (.str ")"))))))
def d_line_of : Nat → DF
  | 0 => dF0
  | n + 1 => dDef 1 1 (d_line_of_b (d_line_of n))
theorem line_of_rec_s (n : Nat) : d_line_of (n + 1) = dDef 1 1 (d_line_of_b (d_line_of n)) := rfl
/-! pack(data): 0 data, 1 sign -/
def d_pack_b : DS :=
  sRet (dLc (dIt (dKE (dCall 1 (d_line_of 40) (dCons (dVar 0) dNil)))) [1] (bName 1) dYes (dB (g1 gOrd) (dCons (dVar 1) dNil)))
def d_pack : DF := dDef 1 1 d_pack_b
/-! _law_data(_law_box, _law_depth): 0 _law_box, 1 _law_depth, 2 _law_kind, 3 _law_k -/
def d_law_data_b (dR : DF) : DS :=
  sSeq (sAsg 2 (dCall 2 d_law_take (dCons (dVar 0) (dCons (dC (.int 6)) dNil))))
  (sSeq (sIf (dTst (dOp gEq (dVar 2) (dC (.int 0)))) (sRet (dC .non)) sNil)
  (sSeq (sIf (dTst (dOp gLt (dVar 2) (dC (.int 3)))) (sRet (dOp gIx (dLst (dCons (dC (.int 0)) (dCons (dC (.int 7)) (dCons (dUn gNeg (dC (.int 3))) (dCons (dOp gPow (dC (.int 10)) (dC (.int 18))) (dCons (dC (.int 120)) (dCons (dUn gNeg (dC (.int 99))) dNil))))))) (dCall 2 d_law_take (dCons (dVar 0) (dCons (dC (.int 6)) dNil))))) sNil)
  (sSeq (sIf (dOr (dTst (dOp gLt (dVar 2) (dC (.int 5)))) (dTst (dOp gGt (dVar 1) (dC (.int 3))))) (sRet (dOp gIx (dLst (dCons (dC (.str "")) (dCons (dC (.str "a")) (dCons (dC (.str "x:1")) (dCons (dC (.str "(~)")) (dCons (dC (.str "#5;")) dNil)))))) (dCall 2 d_law_take (dCons (dVar 0) (dCons (dC (.int 5)) dNil))))) sNil)
  (sRet (dB (g1 gTuple) (dCons (dLc (dRng1 (dCall 2 d_law_take (dCons (dVar 0) (dCons (dC (.int 4)) dNil)))) [3] (bName 3) dYes (dCall 2 dR (dCons (dVar 0) (dCons (dOp gAdd (dVar 1) (dC (.int 1))) dNil)))) dNil))))))
def d_law_data : Nat → DF
  | 0 => dF0
  | n + 1 => dDef 2 2 (d_law_data_b (d_law_data n))
theorem law_data_rec_s (n : Nat) : d_law_data (n + 1) = dDef 2 2 (d_law_data_b (d_law_data n)) := rfl
/-! _law_end(_law_line, _law_at, _law_depth): 0 _law_line, 1 _law_at, 2 _law_depth, 3 _law_sign, 4 _law_below, 5 _law_end_here, 6 _law_stop, 7 _law_one -/
def d_law_end_b (dR : DF) : DS :=
  sSeq (sAsg 3 (dSl (dVar 0) (dPart (dVar 1)) (dPart (dOp gAdd (dVar 1) (dC (.int 1))))))
  (sSeq (sIf (dTst (dOp gEq (dVar 3) (dC (.str "~")))) (sRet (dOp gAdd (dVar 1) (dC (.int 1)))) sNil)
  (sSeq (sIf (dTst (dOp gEq (dVar 3) (dC (.str "#")))) (sSeq (sAsg 4 (dOp gEq (dSl (dVar 0) (dPart (dOp gAdd (dVar 1) (dC (.int 1)))) (dPart (dOp gAdd (dVar 1) (dC (.int 2))))) (dC (.str "-"))))
  (sSeq (sAsg 5 (dCall 3 d_law_number_end (dCons (dVar 0) (dCons (dOp gAdd (dOp gAdd (dVar 1) (dC (.int 1))) (dB (g1 gInt1) (dCons (dVar 4) dNil))) (dCons (dC (.str ";")) dNil)))))
  (sSeq (sIf (dOr (dTst (dOp gLt (dVar 5) (dC (.int 0)))) (dOr (dAnd (dTru (dVar 4)) (dTst (dOp gEq (dSl (dVar 0) (dPart (dOp gAdd (dVar 1) (dC (.int 2)))) (dPart (dVar 5))) (dC (.str "0"))))) (dTst (dOp gGt (dB (g1 gIntS) (dCons (dSl (dVar 0) (dPart (dOp gAdd (dOp gAdd (dVar 1) (dC (.int 1))) (dB (g1 gInt1) (dCons (dVar 4) dNil)))) (dPart (dVar 5))) dNil)) (dOp gPow (dC (.int 10)) (dC (.int 18))))))) (sRet (dUn gNeg (dC (.int 1)))) sNil)
  (sRet (dOp gAdd (dVar 5) (dC (.int 1))))))) sNil)
  (sSeq (sIf (dTst (dOp gEq (dVar 3) (dC (.str "'")))) (sSeq (sAsg 5 (dCall 3 d_law_number_end (dCons (dVar 0) (dCons (dOp gAdd (dVar 1) (dC (.int 1))) (dCons (dC (.str ":")) dNil)))))
  (sSeq (sIf (dOr (dTst (dOp gLt (dVar 5) (dC (.int 0)))) (dTst (dOp gGt (dOp gAdd (dOp gAdd (dVar 5) (dC (.int 1))) (dB (g1 gIntS) (dCons (dSl (dVar 0) (dPart (dOp gAdd (dVar 1) (dC (.int 1)))) (dPart (dVar 5))) dNil))) (dB (g1 gLen) (dCons (dVar 0) dNil))))) (sRet (dUn gNeg (dC (.int 1)))) sNil)
  (sSeq (sAsg 6 (dOp gAdd (dOp gAdd (dVar 5) (dC (.int 1))) (dB (g1 gIntS) (dCons (dSl (dVar 0) (dPart (dOp gAdd (dVar 1) (dC (.int 1)))) (dPart (dVar 5))) dNil))))
  (sSeq (sFor (dIt (dKE (dSl (dVar 0) (dPart (dOp gAdd (dVar 5) (dC (.int 1)))) (dPart (dVar 6))))) (bName 7) (sIf (dTst (dOp gEq (dB (g1 gOrd) (dCons (dVar 7) dNil)) (dC (.int 37)))) (sRet (dUn gNeg (dC (.int 1)))) sNil))
  (sRetV 6))))) sNil)
  (sSeq (sIf (dOr (dTst (dOp gNe (dVar 3) (dC (.str "(")))) (dTst (dOp gGt (dVar 2) (dC (.int 29))))) (sRet (dUn gNeg (dC (.int 1)))) sNil)
  (sSeq (sAsg 1 (dOp gAdd (dVar 1) (dC (.int 1))))
  (sSeq (sWhile (dTst (dOp gNe (dSl (dVar 0) (dPart (dVar 1)) (dPart (dOp gAdd (dVar 1) (dC (.int 1))))) (dC (.str ")")))) (sSeq (sAsg 1 (dCall 3 dR (dCons (dVar 0) (dCons (dVar 1) (dCons (dOp gAdd (dVar 2) (dC (.int 1))) dNil)))))
  (sIf (dTst (dOp gLt (dVar 1) (dC (.int 0)))) (sRet (dUn gNeg (dC (.int 1)))) sNil)))
  (sRet (dOp gAdd (dVar 1) (dC (.int 1))))))))))
def d_law_end : Nat → DF
  | 0 => dF0
  | n + 1 => dDef 3 5 (d_law_end_b (d_law_end n))
theorem law_end_rec_s (n : Nat) : d_law_end (n + 1) = dDef 3 5 (d_law_end_b (d_law_end n)) := rfl
/-! _law_good(_law_octets): 0 _law_octets, 1 _law_octet, 2 _law_signs, 3 _law_line -/
def d_law_good_b : DS :=
  sSeq (sFor (dIt (dKV 0)) (bName 1) (sIf (dOr (dTst (dOp gLt (dVar 1) (dC (.int 32)))) (dTst (dOp gGt (dVar 1) (dC (.int 126))))) (sRet (dC (.bl false))) sNil))
  (sSeq (sAsg 2 (dJoin (dC (.str "")) (dLst (dCons (dOp gAdd (dOp gAdd (dC (.str " !\"#$")) (dC (.str "p"))) (dC (.str "&'()*+,-./0123456789:;<=>?@ABCDEFGHIJKLMNOPQRSTUVWXYZ[\\]^_`abcdefghijklmnopqrstuvwxyz{|}~"))) dNil))))
  (sSeq (sAsg 3 (dC (.str "")))
  (sSeq (sFor (dIt (dKV 0)) (bName 1) (sSeq (sIf (dTst (dOp gEq (dVar 1) (dC (.int 37)))) (sRet (dC (.bl false))) sNil)
  (sAsg 3 (dOp gAdd (dVar 3) (dOp gIx (dVar 2) (dOp gSub (dVar 1) (dC (.int 32))))))))
  (sRet (dOp gEq (dCall 3 (d_law_end 40) (dCons (dVar 3) (dCons (dC (.int 0)) (dCons (dC (.int 0)) dNil)))) (dB (g1 gLen) (dCons (dVar 3) dNil)))))))
def d_law_good : DF := dDef 1 3 d_law_good_b
/-! Reader.data(self, depth): 0 self, 1 depth, 2 sign, 3 found -/
def d_Reader_data_b (C_Malformed C_Reader : Addr) (dR : DF) : DS :=
  sSeq (sAsg 2 (dMethX C_Reader "take" 1 (d_Reader_take C_Malformed C_Reader) (dVar 0) dNil))
  (sSeq (sIf (dTst (dOp gEq (dVar 2) (dC (.str "~")))) (sRet (dC .non)) sNil)
  (sSeq (sIf (dTst (dOp gEq (dVar 2) (dC (.str "#")))) (sRet (dMethX C_Reader "integer" 1 (d_Reader_integer C_Malformed C_Reader) (dVar 0) dNil)) sNil)
  (sSeq (sIf (dTst (dOp gEq (dVar 2) (dC (.str "'")))) (sRet (dMethX C_Reader "text" 1 (d_Reader_text C_Malformed C_Reader) (dVar 0) dNil)) sNil)
  (sSeq (sIf (dOr (dTst (dOp gNe (dVar 2) (dC (.str "(")))) (dTst (dOp gGe (dVar 1) (dC c_MOST_DEPTH)))) (sRaise C_Malformed) sNil)
  (sSeq (sAsg 3 (dLst dNil))
  (sSeq (sWhile (dTst (dOp gNe (dMeth C_Reader "look" 1 (d_Reader_look C_Reader) (dVar 0) dNil) (dC (.str ")")))) (sAppV 3 (dMethX C_Reader "data" 2 dR (dVar 0) (dCons (dOp gAdd (dVar 1) (dC (.int 1))) dNil))))
  (sSeq (sExpr (dMethX C_Reader "take" 1 (d_Reader_take C_Malformed C_Reader) (dVar 0) dNil))
  (sRet (dB (g1 gTuple) (dCons (dVar 3) dNil))))))))))
def d_Reader_data (C_Malformed C_Reader : Addr) : Nat → DF
  | 0 => dF0
  | n + 1 => dDef 2 2 (d_Reader_data_b C_Malformed C_Reader (d_Reader_data C_Malformed C_Reader n))
theorem Reader_data_rec_s (C_Malformed C_Reader : Addr) (n : Nat) : d_Reader_data C_Malformed C_Reader (n + 1) = dDef 2 2 (d_Reader_data_b C_Malformed C_Reader (d_Reader_data C_Malformed C_Reader n)) := rfl
/-! unpack(octets): 0 octets, 1 reader, 2 data, 3 octet -/
def d_unpack_b (C_Malformed C_Reader : Addr) : DS :=
  sSeq (sAsg 1 (dMake C_Reader 2 (d_Reader___init__ C_Reader) (dCons (dJoin (dC (.str "")) (dLcX (dIt (dKV 0)) [3] (bName 3) dYes (dCallX 1 (d_sign_of C_Malformed) (dCons (dVar 3) dNil)))) dNil)))
  (sSeq (sAsg 2 (dMethX C_Reader "data" 2 (d_Reader_data C_Malformed C_Reader 40) (dVar 1) (dCons (dC (.int 0)) dNil)))
  (sSeq (sIf (dTst (dOp gNe (dMeth C_Reader "look" 1 (d_Reader_look C_Reader) (dVar 1) dNil) (dC (.str "")))) (sRaise C_Malformed) sNil)
  (sRetV 2)))
def d_unpack (C_Malformed C_Reader : Addr) : DF := dDef 1 3 (d_unpack_b C_Malformed C_Reader)
/-! law(_law_script): 0 _law_script, 1 _law_k, 2 _law_box, 3 _law_octets, 4 _law_given, 5 _law_good_here, 6 _law_data_here, 7 e -/
def d_law_b (C_MeetError C_Malformed C_OutOfRange C_Reader : Addr) : DS :=
  sSeq (sFor (dRng1 (dC (.int 4))) (bName 1) (sSeq (sAsg 2 (dAlloc (dLst (dCons (dCall 2 d_law_number (dCons (dVar 0) (dCons (dVar 1) dNil))) dNil))))
  (sSeq (sAsg 3 (dCall 2 d_law_bent (dCons (dCall 1 d_pack (dCons (dCall 2 (d_law_data 40) (dCons (dVar 2) (dCons (dC (.int 0)) dNil))) dNil)) (dCons (dAlloc (dLst (dCons (dCall 2 d_law_number (dCons (dVar 0) (dCons (dOp gAdd (dC (.int 10)) (dVar 1)) dNil))) dNil))) dNil))))
  (sSeq (sAsg 4 (dB (g1 gList) (dCons (dVar 3) dNil)))
  (sSeq (sAsg 5 (dCall 1 d_law_good (dCons (dVar 3) dNil)))
  (sSeq (sTryAs 7 (tbl [(C_Malformed, true)]) (sSeq (sAsg 6 (dCallX 1 (d_unpack C_Malformed C_Reader) (dCons (dVar 4) dNil)))
  (sIf (dOr (dNot (dTru (dVar 5))) (dTst (dOp gNe (dCall 1 d_pack (dCons (dVar 6) dNil)) (dVar 3)))) (sRet (dC (.bl false))) sNil)) (fun a c => sIf (dOr (dTru (dVar 5)) (dOr (dNot (dTru (dIsE 7 a c (tbl [(C_Malformed, true)])))) (dOr (dNot (dTru (dIsE 7 a c (tbl [(C_Malformed, true)])))) (dTru (dIsE 7 a c (tbl [(C_Malformed, false)])))))) (sRet (dC (.bl false))) sNil))
  (sIf (dTst (dOp gNe (dVar 4) (dVar 3))) (sRet (dC (.bl false))) sNil)))))))
  (sRet (dC (.bl true)))
def d_law (C_MeetError C_Malformed C_OutOfRange C_Reader : Addr) : DF := dDef 1 7 (d_law_b C_MeetError C_Malformed C_OutOfRange C_Reader)
end PM

namespace PM
open PySem PySem.Spec L2
open PyProof.Rows hiding St
theorem take_eq {n : Nat} {h : Hs} {k : Int} {Q : VQ} {E : XQ} (hb : B n h) (h0 : 0 < k) (h1 : k < 2 ^ 200) : d_law_take [.val (.ref n), .val (.int k)] h Q E = Q (.val (.int (tk n k h))) (pt n k h) := by
  have hg := hb.get
  have hl := hb.lt
  simp [d_law_take, d_law_take_b, seqC_ref, hg, atI, ixN, cdivW h0 h1, h0]
  rfl
theorem take_ok {n : Nat} {h : Hs} {k : Int} {Q : VQ} {E : XQ} (hb : B n h) (h0 : 0 < k) (h1 : k < 2 ^ 200) (hQ : ∀ d h', 0 ≤ d → d < k → B n h' → h'.length = h.length → Q (.val (.int d)) h') : d_law_take [.val (.ref n), .val (.int k)] h Q E := by
  rw [take_eq hb h0 h1]
  exact hQ _ _ (tk_ge h0) (tk_lt h0) hb.pt (by simp [pt])
theorem number_ok {h : Hs} {Q : VQ} {E : XQ} {ns : List Int} {k : Int} (hQ : ∀ i, Q (.val (.int i)) h) : d_law_number [.scr ns, .val (.int k)] h Q E := by
  cases ns with
  | nil => simp [d_law_number, d_law_number_b, hQ, cmulR]
  | cons n0 ns =>
    obtain ⟨c, hc⟩ := atI_some (xs := n0 :: ns) (i := k % ((ns.length : Int) + 1)) (Int.emod_nonneg k (by omega)) (by simpa using Int.emod_lt_of_pos k (b := (ns.length : Int) + 1) (by omega))
    have hc' : atI (PV.int n0 :: List.map PV.int ns) (k % (↑ns.length + 1)) = some (.int c) := by
      rw [← List.map_cons, atI_map, hc]
      rfl
    simp [d_law_number, d_law_number_b, hQ, hc', cmulR, cmulL]
/-! ### drawn data -/
/-- data of at most n tuples one in another, of at most 4 items, of texts of at most 11 signs -/
def Gk : Nat → PV → Prop
  | _, .non => True
  | _, .int i => i.natAbs ≤ 10 ^ 18
  | _, .str z => z.length ≤ 11 ∧ ∀ c ∈ z.cps.toList, okc c
  | 0, .tup _ => False
  | n + 1, .tup xs => xs.length ≤ 4 ∧ ∀ x ∈ xs, Gk n x
  | _, _ => False
theorem Gk.gd : ∀ {n : Nat} {p : PV}, Gk n p → Gd n p
  | n, .non, h => by unfold Gd; trivial
  | n, .int i, h => by unfold Gk at h; unfold Gd; exact h
  | n, .str z, h => by unfold Gk at h; unfold Gd; have := h.1; omega
  | 0, .tup xs, h => by unfold Gk at h; exact h.elim
  | n + 1, .tup xs, h => by
    unfold Gk at h
    unfold Gd
    exact fun x m => (h.2 x m).gd
  | n, .bl _, h => by cases n <;> (unfold Gk at h; exact h.elim)
  | n, .lst _, h => by cases n <;> (unfold Gk at h; exact h.elim)
  | n, .ref _, h => by cases n <;> (unfold Gk at h; exact h.elim)
theorem intL_len {i : Int} (h : i.natAbs ≤ 10 ^ 18) : (intL i).length ≤ 20 := by
  unfold intL
  split
  · have := TL.numL_len (n := i.toNat) (k := 19) (by decide) (by omega)
    omega
  · have := TL.numL_len (n := i.natAbs) (k := 19) (by decide) (by omega)
    simp
    omega
theorem lnL_len {w : Nat} : ∀ (xs : List PV), (∀ x ∈ xs, (ln x).length ≤ w) → (lnL xs).length ≤ xs.length * w
  | [], _ => by simp [lnL]
  | x :: xs, h => by
    have h1 := h x List.mem_cons_self
    have h2 := lnL_len xs fun y m => h y (List.mem_cons_of_mem _ m)
    rw [lnL, List.length_append, List.length_cons, Nat.succ_mul]
    omega
theorem Gk.len : ∀ {n : Nat} {p : PV}, Gk n p → (ln p).length ≤ 24 * 5 ^ n
  | n, .non, h => by
    have : 0 < 5 ^ n := Nat.pow_pos (by decide)
    simp [ln]; omega
  | n, .int i, h => by
    have : 0 < 5 ^ n := Nat.pow_pos (by decide)
    unfold Gk at h
    have := intL_len h
    simp [ln]; omega
  | n, .str z, h => by
    have : 0 < 5 ^ n := Nat.pow_pos (by decide)
    unfold Gk at h
    have h1 := h.1
    have l := TL.numL_len (n := z.length) (k := 2) (by decide) (by omega)
    have e : z.cps.size = z.length := rfl
    simp [ln, e]; omega
  | 0, .tup xs, h => by unfold Gk at h; exact h.elim
  | n + 1, .tup xs, h => by
    have p5 : 0 < 5 ^ n := Nat.pow_pos (by decide)
    unfold Gk at h
    have := lnL_len xs fun x m => (h.2 x m).len
    have : xs.length * (24 * 5 ^ n) ≤ 4 * (24 * 5 ^ n) := Nat.mul_le_mul_right _ h.1
    rw [ln]
    simp
    rw [Nat.pow_succ]
    omega
  | n, .bl _, h => by cases n <;> (unfold Gk at h; exact h.elim)
  | n, .lst _, h => by cases n <;> (unfold Gk at h; exact h.elim)
  | n, .ref _, h => by cases n <;> (unfold Gk at h; exact h.elim)
theorem Gk.okc : ∀ {n : Nat} {p : PV}, Gk n p → ∀ c ∈ ln p, PM.okc c
  | n, .non, h, c, m => by
    rw [ln, List.mem_singleton] at m
    subst m
    decide
  | n, .int i, h, c, m => by
    rw [ln] at m
    rcases List.mem_cons.mp m with rfl | m
    · decide
    · rcases List.mem_append.mp m with m | m
      · exact okc_int m
      · rw [List.mem_singleton.mp m]; decide
  | n, .str z, h, c, m => by
    have hz : ∀ c ∈ z.cps.toList, PM.okc c := by cases n <;> (unfold Gk at h; exact h.2)
    rw [ln] at m
    rcases List.mem_cons.mp m with rfl | m
    · decide
    · rcases List.mem_append.mp m with m | m
      · exact okc_num m
      · rcases List.mem_cons.mp m with rfl | m
        · decide
        · exact hz c m
  | 0, .tup xs, h, _, _ => by unfold Gk at h; exact h.elim
  | n + 1, .tup xs, h, c, m => by
    unfold Gk at h
    rw [ln] at m
    rcases List.mem_cons.mp m with rfl | m
    · decide
    · rcases List.mem_append.mp m with m | m
      · rw [lnL_flat] at m
        obtain ⟨l, hl, mc⟩ := List.mem_flatten.mp m
        obtain ⟨x, mx, rfl⟩ := List.mem_map.mp hl
        exact (h.2 x mx).okc c mc
      · rw [List.mem_singleton.mp m]; decide
  | n, .bl _, h, _, _ => by cases n <;> (unfold Gk at h; exact h.elim)
  | n, .lst _, h, _, _ => by cases n <;> (unfold Gk at h; exact h.elim)
  | n, .ref _, h, _, _ => by cases n <;> (unfold Gk at h; exact h.elim)
theorem Gk.okN : ∀ {n : Nat} {p : PV}, Gk n p → PM.okN n p
  | n, .non, h => by simp
  | n, .int i, h => by simp
  | n, .str z, h => by
    have hz : ∀ c ∈ z.cps.toList, PM.okc c := by cases n <;> (unfold Gk at h; exact h.2)
    rw [okN_str, ← T_cs z]
    exact ok_T fun c m => by have := (hz c m).2.1; omega
  | 0, .tup xs, h => by unfold Gk at h; exact h.elim
  | n + 1, .tup xs, h => by
    unfold Gk at h
    rw [okN_tup]
    exact fun x m => (h.2 x m).okN
  | n, .bl _, h => by cases n <;> (unfold Gk at h; exact h.elim)
  | n, .lst _, h => by cases n <;> (unfold Gk at h; exact h.elim)
  | n, .ref _, h => by cases n <;> (unfold Gk at h; exact h.elim)
end PM

namespace PM
open PySem PySem.Spec L2
open PyProof.Rows hiding St
/-! ### the reader's methods -/
/-- the reader ahead of the rest s of the line L -/
def rdC (C : Addr) (L s : List Nat) : Cell := .ins C [("line", .str (T L)), ("at", .int ((L.length - s.length : Nat) : Int))]
@[simp] theorem look_line (a b : PV) : lookF "line" [("line", a), ("at", b)] = some a := rfl
@[simp] theorem look_at (a b : PV) : lookF "at" [("line", a), ("at", b)] = some b := by
  have e1 : ((Str.ofString "at") == (Str.ofString "line")) = false := by decide +kernel
  unfold lookF
  rw [List.lookup_cons, e1]
  simp
@[simp] theorem put_at (a b c : PV) : putFP "at" c [(("line" : Str), a), ("at", b)] = [(("line" : Str), a), (("at" : Str), c)] := by
  have e1 : ¬ (Str.ofString "line" = Str.ofString "at") := by decide +kernel
  simp [putFP, e1]
theorem look_m (a b : PV) {f : Str} (h : f ≠ "line" ∧ f ≠ "at") : lookF f [("line", a), ("at", b)] = none := by
  have e : ∀ x y : Str, x ≠ y → (x == y) = false := fun x y q => by simpa using q
  unfold lookF
  rw [List.lookup_cons, e _ _ h.1, List.lookup_cons, e _ _ h.2]
  rfl
@[simp] theorem look_look (a b : PV) : lookF "look" [("line", a), ("at", b)] = none := look_m a b ⟨by decide +kernel, by decide +kernel⟩
@[simp] theorem look_take (a b : PV) : lookF "take" [("line", a), ("at", b)] = none := look_m a b ⟨by decide +kernel, by decide +kernel⟩
@[simp] theorem look_tu (a b : PV) : lookF "take_until" [("line", a), ("at", b)] = none := look_m a b ⟨by decide +kernel, by decide +kernel⟩
@[simp] theorem look_num (a b : PV) : lookF "number" [("line", a), ("at", b)] = none := look_m a b ⟨by decide +kernel, by decide +kernel⟩
@[simp] theorem look_int (a b : PV) : lookF "integer" [("line", a), ("at", b)] = none := look_m a b ⟨by decide +kernel, by decide +kernel⟩
@[simp] theorem look_txt (a b : PV) : lookF "text" [("line", a), ("at", b)] = none := look_m a b ⟨by decide +kernel, by decide +kernel⟩
@[simp] theorem look_data (a b : PV) : lookF "data" [("line", a), ("at", b)] = none := look_m a b ⟨by decide +kernel, by decide +kernel⟩
/-- what stands at a place of the line -/
structure At (C : Addr) (L : List Nat) (n : Nat) (s : List Nat) (h : Hs) : Prop where
  n : h[n]? = some (rdC C L s)
  s : s <:+ L
  l : L.length ≤ 1000000
  a : ∀ c ∈ L, c < 128
theorem At.drop {C : Addr} {L : List Nat} {n : Nat} {s : List Nat} {h : Hs} (A : At C L n s h) : L.drop (L.length - s.length) = s := by
  obtain ⟨t, rfl⟩ := A.s
  simp
theorem At.set {C : Addr} {L : List Nat} {n : Nat} {s r : List Nat} {h : Hs} (A : At C L n s h) (hr : r <:+ s) : At C L n r (h.set n (rdC C L r)) :=
  ⟨List.getElem?_set_self (List.getElem?_eq_some_iff.mp A.n).1, hr.trans A.s, A.l, A.a⟩
theorem At.same {C : Addr} {L : List Nat} {n : Nat} {s : List Nat} {h : Hs} (A : At C L n s h) : h.set n (rdC C L s) = h := by
  have := A.n
  rw [List.getElem?_eq_some_iff] at this
  obtain ⟨l, e⟩ := this
  rw [← e]
  exact List.set_getElem_self l
section
variable {CM C : Addr} {L : List Nat} {n : Nat} {s : List Nat} {h : Hs} {Q : VQ} {E : XQ}
theorem look_eq (A : At C L n s h) : d_Reader_look C [.val (.ref n)] h Q E = Q (.val (.str (T (s.take 1)))) h := by
  have hn := A.n
  unfold rdC at hn
  have lz : (T L).length ≤ sizeLine := by rw [T_len]; exact szM (by have := A.l; omega)
  have e : ((L.length - s.length : Nat) : Int) + 1 = ((L.length - s.length + 1 : Nat) : Int) := by omega
  simp [d_Reader_look, d_Reader_look_b, hn, OptI]
  rw [e, cutS_T, A.drop]
  simp
  intro
  exact szM (by have := A.l; omega)
theorem pos_next {c : Nat} {r L : List Nat} (h : (c :: r) <:+ L) : ((L.length - (c :: r).length : Nat) : Int) + 1 = ((L.length - r.length : Nat) : Int) := by
  have := h.length_le
  simp at this ⊢
  omega
/-- an error leaves the reader anywhere -/
def Any (n : Nat) (h : Hs) (E : Hs → Prop) : Prop := ∀ c, E (h.set n c)
theorem Any.same {n : Nat} {h : Hs} {F : Hs → Prop} (A : Any n h F) (hn : n < h.length) : F h := by
  have := A h[n]
  rwa [List.set_getElem_self] at this
theorem Any.next {n : Nat} {h : Hs} {F : Hs → Prop} {c : Cell} (A : Any n h F) : Any n (h.set n c) F := fun d => by
  rw [List.set_set]
  exact A d
theorem At.lt {C : Addr} {L : List Nat} {n : Nat} {s : List Nat} {h : Hs} (A : At C L n s h) : n < h.length := (List.getElem?_eq_some_iff.mp A.n).1
theorem takeR_ok (A : At C L n s h) (hQ : ∀ c r, s = c :: r → Q (.val (.str (T [c]))) (h.set n (rdC C L r))) (hE : s = [] → Any n h (E CM)) : d_Reader_take CM C [.val (.ref n)] h Q E := by
  have hn := A.n
  unfold rdC at hn
  unfold d_Reader_take d_Reader_take_b dDef
  refine ⟨rfl, ?_⟩
  refine seq_in fun N hN => ?_
  simp [hn]
  rw [look_eq A]
  refine ⟨rfl, hN _ _ ?_⟩
  clear hN
  cases s with
  | nil =>
    simp
    exact (hE rfl).same A.lt
  | cons c r =>
    have e0 : ¬ T [c] = Str.ofString "" := fun e => by
      rw [← T_nil, T_inj] at e
      cases e
    have o1 : PyData.strOk (T [c]) = true := ok_T fun d m => by
      rw [List.mem_singleton.mp m]
      exact A.a c (A.s.subset (by simp))
    simp [e0, hn, o1]
    have e := pos_next A.s
    simp at e
    rw [e]
    exact hQ c r rfl
end
end PM

namespace PM
open PySem PySem.Spec L2
open PyProof.Rows hiding St
/-- draws of data -/
theorem data_ok {E : XQ} : ∀ (m k : Nat) {n : Nat} {h : Hs} {Q : VQ} {d : Int}, d = 4 - (k : Int) → k < m → B n h → (∀ p h', Gk k p → B n h' → Q (.val p) h') → d_law_data m [.val (.ref n), .val (.int d)] h Q E
  | 0, _, _, _, _, _, _, hk, _, _ => absurd hk (by omega)
  | m + 1, k, n, h, Q, d, hd, hk, hb, hQ => by
    have s6 : 6 ≤ sizeLine := szL (by decide)
    have s5 : 5 ≤ sizeLine := szL (by decide)
    rw [law_data_rec_s]
    unfold d_law_data_b dDef
    refine ⟨rfl, ?_⟩
    refine seq_in fun N hN => ?_
    simp [↓take_eq hb]
    have t0 := tk_ge (n := n) (h := h) (k := 6) (by decide)
    have t1 := tk_lt (n := n) (h := h) (k := 6) (by decide)
    have hb1 := hb.pt (k := 6)
    refine hN _ _ ?_
    clear hN
    generalize pt n 6 h = h1 at *
    generalize tk n 6 h = t at *
    refine seq_in fun N hN => ?_
    simp
    by_cases q0 : t = 0
    · rw [if_pos q0]
      exact hQ _ _ (by cases k <;> (unfold Gk; trivial)) hb1
    rw [if_neg q0]
    refine hN _ _ ?_
    clear hN
    refine seq_in fun N hN => ?_
    simp
    by_cases q1 : t < 3
    · rw [if_pos q1]
      clear hN
      simp [↓take_eq hb1, s6]
      have b0 := tk_ge (n := n) (h := h1) (k := 6) (by decide)
      have b1 := tk_lt (n := n) (h := h1) (k := 6) (by decide)
      have hb2 := hb1.pt (k := 6)
      generalize pt n 6 h1 = h2 at *
      generalize tk n 6 h1 = b at *
      obtain ⟨v, hv, hv1⟩ : ∃ v : Int, atI [PV.int 0, .int 7, .int (-3), .int 1000000000000000000, .int 120, .int (-99)] b = some (.int v) ∧ v.natAbs ≤ 10 ^ 18 := by
        rcases (by omega : b = 0 ∨ b = 1 ∨ b = 2 ∨ b = 3 ∨ b = 4 ∨ b = 5) with rfl | rfl | rfl | rfl | rfl | rfl
        all_goals exact ⟨_, rfl, by decide⟩
      exact ⟨_, hv, hQ _ _ (by cases k <;> (unfold Gk; exact hv1)) hb2⟩
    rw [if_neg q1]
    refine hN _ _ ?_
    clear hN
    refine seq_in fun N hN => ?_
    refine if_in fun S1 S2 hS1 hS2 => ?_
    have txt : S1 [some (.val (.ref n)), some (.val (.int d)), some (.val (.int t)), none] h1 := by
      refine hS1 _ _ ?_
      simp [↓take_eq hb1, s5]
      have b0 := tk_ge (n := n) (h := h1) (k := 5) (by decide)
      have b1 := tk_lt (n := n) (h := h1) (k := 5) (by decide)
      have hb2 := hb1.pt (k := 5)
      generalize pt n 5 h1 = h2 at *
      generalize tk n 5 h1 = b at *
      obtain ⟨v, hv, hv1⟩ : ∃ v : Str, atI [PV.str (Str.ofString ""), .str (Str.ofString "a"), .str (Str.ofString "x:1"), .str (Str.ofString "(~)"), .str (Str.ofString "#5;")] b = some (.str v) ∧ (v.length ≤ 11 ∧ ∀ c ∈ v.cps.toList, okc c) := by
        rcases (by omega : b = 0 ∨ b = 1 ∨ b = 2 ∨ b = 3 ∨ b = 4) with rfl | rfl | rfl | rfl | rfl
        all_goals exact ⟨_, rfl, by decide +kernel, by decide +kernel⟩
      exact ⟨_, hv, hQ _ _ (by cases k <;> (unfold Gk; exact hv1)) hb2⟩
    have rest : ¬ d > 3 → S2 [some (.val (.ref n)), some (.val (.int d)), some (.val (.int t)), none] h1 := fun q => by
      refine hS2 _ _ ?_
      simp
      refine hN _ _ ?_
      clear hN hS1 hS2 txt
      obtain ⟨k, rfl⟩ : ∃ j, k = j + 1 := ⟨k - 1, by omega⟩
      simp [↓take_eq hb1]
      have c0 := tk_ge (n := n) (h := h1) (k := 4) (by decide)
      have c1 := tk_lt (n := n) (h := h1) (k := 4) (by decide)
      have hb2 := hb1.pt (k := 4)
      generalize pt n 4 h1 = h2 at *
      generalize tk n 4 h1 = c at *
      refine ⟨by omega, by omega, ?_⟩
      refine compL_inv (fun j acc h => acc.length = j ∧ (∀ p ∈ acc, Gk k p) ∧ B n h) _ 0 _ _ ⟨rfl, by simp, hb2⟩ ?_ ?_
      · rintro i x e acc h3 ⟨al, ag, hb⟩ M hM
        obtain ⟨hi, rfl⟩ := rangeP_get e
        simp
        refine data_ok m k (by omega) (by omega) hb fun p h' g b => ?_
        simp
        refine ⟨szLt (by omega), hM _ _ ⟨by simp; omega, fun y my => ?_, b⟩⟩
        rcases List.mem_append.mp my with my | my
        · exact ag y my
        · rw [List.mem_singleton.mp my]
          exact g
      · rintro acc h3 ⟨al, ag, hb⟩
        rw [rangeP_len] at al
        refine ⟨trivial, ?_⟩
        exact hQ _ _ (by unfold Gk; exact ⟨by omega, ag⟩) hb
    simp
    by_cases q5 : t < 5
    · simp [q5, txt]
    · by_cases q6 : 3 < d
      · simp [q5, q6, txt]
      · simp [q5, q6]
        exact rest q6
end PM

namespace PM
open PySem PySem.Spec L2
open PyProof.Rows hiding St
section
variable {CM C : Addr} {L : List Nat} {n : Nat} {s : List Nat} {h : Hs} {Q : VQ} {E : XQ}
theorem At.step {r : List Nat} (A : At C L n s h) (hr : r <:+ s) : At C L n r (h.set n (rdC C L r)) := A.set hr
theorem Any.of {n : Nat} {h : Hs} {F : Hs → Prop} {c : Cell} (A : Any n (h.set n c) F) : Any n h F := fun d => by
  have := A d
  rwa [List.set_set] at this
theorem len_T (l : List Nat) : (T l).length = l.length := T_len l
theorem take_until_ok {stop : Nat} (A : At C L n s h) (h128 : stop < 128) (hQ : ∀ a r, tuF stop [] s = some (a, r) → (∀ c ∈ a, c < 128) → a.length ≤ 20 → Q (.val (.str (T a))) (h.set n (rdC C L r))) (hE : tuF stop [] s = none → Any n h (E CM)) : d_Reader_take_until CM C [.val (.ref n), .val (.str (T [stop]))] h Q E := by
  have hn := A.n
  unfold rdC at hn
  have oS : PyData.strOk (T [stop]) = true := ok_T fun d m => by
    rw [List.mem_singleton.mp m]
    exact h128
  unfold d_Reader_take_until d_Reader_take_until_b dDef
  refine ⟨rfl, ?_⟩
  refine seq_in fun N hN => ?_
  simp
  rw [← T_nil]
  refine hN _ _ ?_
  clear hN
  refine seq_in fun N hN => ?_
  simp [hn]
  refine takeR_ok A (fun c r e => ?_) fun e => hE (by rw [e]; rfl)
  subst e
  refine ⟨rfl, hN _ _ ?_⟩
  clear hN
  simp
  generalize hR : tuF stop [] (c :: r) = R at hQ hE
  refine ⟨fun m env h' => ∃ (acc : List Nat) (d : Nat) (t : List Nat), env = [some (.val (.ref n)), some (.val (.str (T [stop]))), some (.val (.str (T acc))), some (.val (.str (T [d])))] ∧ h' = h.set n (rdC C L t) ∧ (d :: t) <:+ (c :: r) ∧ tuF stop acc (d :: t) = R ∧ (∀ x ∈ acc, x < 128) ∧ acc.length ≤ 20 ∧ m = t.length, ⟨_, [], c, r, by rw [T_nil], rfl, List.suffix_refl _, hR, by simp, by simp, rfl⟩, ?_⟩
  rintro m env h' ⟨acc, d, t, rfl, rfl, suf, eR, ac, al, rfl⟩
  have d128 : d < 128 := A.a d (A.s.subset (suf.subset (by simp)))
  have oD : PyData.strOk (T [d]) = true := ok_T fun x m => by
    rw [List.mem_singleton.mp m]
    exact d128
  have At' : At C L n t (h.set n (rdC C L t)) := A.set ((List.suffix_cons d t).trans suf)
  have hn' := At'.n
  unfold rdC at hn'
  rw [tuF] at eR
  simp [oS, oD]
  by_cases q : d = stop
  · rw [if_pos q] at eR
    subst q
    rw [if_pos rfl]
    exact hQ acc t eR.symm ac al
  rw [if_neg q] at eR
  have q' : ¬ T [d] = T [stop] := fun e => by
    rw [T_inj] at e
    cases e
    exact q rfl
  rw [if_neg q']
  refine ⟨szM (by omega), ?_⟩
  rw [T_app]
  simp only [len_T, List.length_append, List.length_singleton]
  refine ⟨szM (by omega), ?_⟩
  by_cases q2 : acc.length + 1 > 20
  · rw [if_pos q2] at eR
    have : (20 : Int) < ((acc.length + 1 : Nat) : Int) := by omega
    rw [if_pos (by simpa using this)]
    exact (Any.same (Any.next (hE eR.symm)) (by simpa using A.lt))
  rw [if_neg q2] at eR
  have : ¬ (20 : Int) < ((acc.length + 1 : Nat) : Int) := by omega
  rw [if_neg (by simpa using this)]
  refine ⟨_, hn', look_take _ _, ?_⟩
  refine takeR_ok At' (fun c2 t2 e => ?_) fun e => ?_
  · subst e
    simp
    exact ⟨_, by show t2.length < (c2 :: t2).length; simp, acc ++ [d], c2, ⟨rfl, rfl⟩, t2, rfl, (List.suffix_cons d _).trans suf, eR, fun x m => by
      rcases List.mem_append.mp m with m | m
      · exact ac x m
      · rw [List.mem_singleton.mp m]
        exact d128, by simp; omega, rfl⟩
  · subst e
    exact Any.next (hE eR.symm)
end
end PM

namespace PM
open PySem PySem.Spec L2
open PyProof.Rows hiding St
theorem dig_len : (Str.ofString "0123456789").cps.toList = [48, 49, 50, 51, 52, 53, 54, 55, 56, 57] := by decide +kernel
theorem in_dig (c : Nat) : (Builtin.Str.occurrences (Str.ofString "0123456789") (T [c]) 0 (Str.ofString "0123456789").length 1).isEmpty = !isDig c := by
  have h := StrLaws.found_one (Str.ofString "0123456789") c
  rw [dig_len] at h
  have e : decide (c ∈ [48, 49, 50, 51, 52, 53, 54, 55, 56, 57]) = isDig c := by
    unfold isDig
    rw [decide_eq_decide]
    simp
    omega
  rw [e] at h
  rw [← h, Bool.not_not]
  rfl
theorem mem_dig (c : Nat) : decide (c ∈ (Str.ofString "0123456789").cps) = isDig c := by
  unfold isDig
  rw [decide_eq_decide, ← Array.mem_toList_iff, dig_len]
  simp
  omega
theorem ex_T {c : Nat} {P : Nat → Prop} : (∃ d, T [c] = ({ cps := #[d] } : Str) ∧ P d) ↔ P c := ⟨fun ⟨d, e, p⟩ => by
  rw [T_one, T_inj] at e
  cases e
  exact p, fun p => ⟨c, rfl, p⟩⟩
theorem dig_at : ∀ k : Fin 10, Builtin.Str.occurrences (Str.ofString "0123456789") (T [48 + k.val]) 0 (Str.ofString "0123456789").length 1 = [k.val] := by decide +kernel
theorem dig_ix {c : Nat} (h : isDig c = true) : Builtin.Str.occurrences (Str.ofString "0123456789") (T [c]) 0 (Str.ofString "0123456789").length 1 = (c - 48) :: [] := by
  unfold isDig at h
  have := of_decide_eq_true h
  have e := dig_at ⟨c - 48, by omega⟩
  rw [show 48 + (c - 48) = c by omega] at e
  exact e
theorem decV_lt : ∀ (l : List Nat) (a : Nat), l.all isDig = true → l.foldl (fun v c => 10 * v + (c - 48)) a < (a + 1) * 10 ^ l.length
  | [], a, _ => by simp
  | c :: l, a, h => by
    rw [List.all_cons, Bool.and_eq_true] at h
    have h1 := h.1
    unfold isDig at h1
    have := of_decide_eq_true h1
    rw [List.foldl_cons, List.length_cons]
    refine Nat.lt_of_lt_of_le (decV_lt l _ h.2) ?_
    rw [Nat.pow_succ, Nat.mul_comm (10 ^ l.length) 10, ← Nat.mul_assoc]
    exact Nat.mul_le_mul_right _ (by omega)
section
variable {CM C : Addr} {L : List Nat} {n : Nat} {s : List Nat} {h : Hs} {Q : VQ} {E : XQ}
theorem number_okR {stop : Nat} (A : At C L n s h) (h128 : stop < 128) (hQ : ∀ v r, numF stop s = some (v, r) → Q (.val (.int (v : Nat))) (h.set n (rdC C L r))) (hE : numF stop s = none → Any n h (E CM)) : d_Reader_number CM C [.val (.ref n), .val (.str (T [stop]))] h Q E := by
  have hn := A.n
  unfold rdC at hn
  unfold d_Reader_number d_Reader_number_b dDef
  refine ⟨rfl, ?_⟩
  refine seq_in fun N hN => ?_
  simp [hn]
  refine take_until_ok A h128 (fun a r e ac al => ?_) fun e => hE (by unfold numF; rw [e])
  refine ⟨rfl, hN _ _ ?_⟩
  clear hN
  unfold numF at hQ hE
  rw [e] at hQ hE
  simp only at hQ hE
  have fail : ¬ (a ≠ [] ∧ a.all isDig = true ∧ TL.numL (decV a) = a) → E CM (h.set n (rdC C L r)) := fun q => (hE (by rw [if_neg q])) _
  have fin : (a ≠ [] ∧ a.all isDig = true ∧ TL.numL (decV a) = a) → Q (.val (.int (decV a : Nat))) (h.set n (rdC C L r)) := fun q => hQ _ _ (by rw [if_pos q])
  clear hQ hE
  have oA : PyData.strOk (T a) = true := ok_T ac
  refine seq_in fun N hN => ?_
  simp [oA]
  by_cases q0 : a = []
  · have e0 : T a = Str.ofString "" := by rw [q0, T_nil]
    rw [if_pos e0]
    exact fail fun z => z.1 q0
  have e0 : ¬ T a = Str.ofString "" := fun z => by
    rw [← T_nil, T_inj] at z
    exact q0 z
  rw [if_neg e0]
  have sg : signs (T a) = a.map fun c => .str (T [c]) := signs_T a
  rw [sg]
  rw [compL_eq (fun c => [some (.val (.ref n)), some (.val (.str (T [stop]))), some (.val (.str (T a))), none, some (.val (.str (T [c])))]) (fun c => .val (.bl (!isDig c))) (fun c => .str (T [c])) (fun c => .bl (!isDig c)) trivial (fun _ => rfl) a [] (fun _ _ _ => by simp) (fun c _ Q E => by simp [c_DIGITS, ex_T, mem_dig]) (szM (by simp; omega))]
  have bl : blsOf (a.map fun c => PV.bl (!isDig c)) = some (a.map fun c => !isDig c) := by
    clear e ac al fail fin oA q0 e0 sg
    induction a with
    | nil => rfl
    | cons c a ih => simp [blsOf, ih]
  rw [List.nil_append, bl]
  simp only
  by_cases q1 : ¬ a.all isDig = true
  · have : true ∈ a.map fun c => !isDig c := by
      rw [List.all_eq_true] at q1
      refine Classical.byContradiction fun z => q1 fun c m => ?_
      cases e : isDig c with
      | true => rfl
      | false => exact absurd (List.mem_map.mpr ⟨c, m, by rw [e]; rfl⟩) z
    rw [if_pos this]
    exact fail fun z => q1 z.2.1
  replace q1 : a.all isDig = true := Classical.byContradiction q1
  have : ¬ true ∈ a.map fun c => !isDig c := fun z => by
    obtain ⟨c, m, e⟩ := List.mem_map.mp z
    rw [List.all_eq_true.mp q1 c m] at e
    cases e
  rw [if_neg this]
  refine hN _ _ ?_
  clear hN
  refine seq_in fun N hN => ?_
  simp
  refine hN _ _ ?_
  clear hN
  refine seq_in fun N hN => ?_
  have loop : ∀ (D : DEnds) (l : List Nat) (v : Nat) (w : Option SV), l.all isDig = true → D.nx = N → (∀ w, N [some (.val (.ref n)), some (.val (.str (T [stop]))), some (.val (.str (T a))), some (.val (.int ((l.foldl (fun v c => 10 * v + (c - 48)) v : Nat) : Int))), w] (h.set n (rdC C L r))) → forL (fun _ => True) (bName 4) (sAsg 3 (dOp gAdd (dOp gMulX (dC (.int 10)) (dVar 3)) (dIndexS (dC c_DIGITS) (dVar 4)))) D (l.map fun c => .str (T [c])) [some (.val (.ref n)), some (.val (.str (T [stop]))), some (.val (.str (T a))), some (.val (.int (v : Nat))), w] (h.set n (rdC C L r)) := by
    intro D l
    induction l with
    | nil =>
      intro v w _ hD hz
      rw [List.map_nil, forL_nil, hD]
      exact ⟨trivial, hz w⟩
    | cons c l ih =>
      intro v w q hD hz
      rw [List.all_cons, Bool.and_eq_true] at q
      have q1 := q.1
      unfold isDig at q1
      have := of_decide_eq_true q1
      rw [List.map_cons, forL_cons]
      refine ⟨trivial, ?_⟩
      have this := ih (10 * v + (c - 48)) (some (.val (.str (T [c])))) q.2 hD hz
      simp [c_DIGITS, cmulL]
      refine ⟨_, ⟨_, dig_ix q.1⟩, ?_⟩
      have ec : (10 * (v : Int) + ((c - 48 : Nat) : Int)) = ((10 * v + (c - 48) : Nat) : Int) := by omega
      rw [ec]
      exact this
  simp
  rw [sg]
  refine loop _ a 0 none q1 rfl fun w => hN _ _ ?_
  clear hN loop
  show _ 
  have ev : a.foldl (fun v c => 10 * v + (c - 48)) 0 = decV a := rfl
  rw [ev]
  have lt := decV_lt a 0 q1
  rw [ev] at lt
  have lt2 : decV a < 10 ^ 20 := Nat.lt_of_lt_of_le lt (by rw [Nat.zero_add, Nat.one_mul]; exact Nat.pow_le_pow_right (by decide) al)
  have l2 : (decV a).log2 < 1920 := log_lt lt2 (by decide)
  refine seq_in fun N hN => ?_
  have oN : PyData.strOk (T (TL.numL (decV a))) = true := ok_T fun c m => by
    have := TL.numL_digits _ c m
    omega
  simp [oA, R_num, l2]
  refine ⟨oN, ?_⟩
  by_cases q2 : TL.numL (decV a) = a
  · have : T (TL.numL (decV a)) = T a := by rw [q2]
    rw [if_pos this]
    refine hN _ _ ?_
    simp
    exact fin ⟨q0, q1, q2⟩
  · have : ¬ T (TL.numL (decV a)) = T a := fun e => q2 (T_inj.mp e)
    rw [if_neg this]
    exact fail fun z => q2 z.2.2
theorem integer_okR (A : At C L n s h) (hQ : ∀ v r, intF s = some (v, r) → Q (.val (.int v)) (h.set n (rdC C L r))) (hE : intF s = none → Any n h (E CM)) : d_Reader_integer CM C [.val (.ref n)] h Q E := by
  have hn := A.n
  unfold rdC at hn
  have eS : Str.ofString ";" = T [59] := by decide +kernel
  have eD : Str.ofString "-" = T [45] := by decide +kernel
  have o1 : PyData.strOk (T (s.take 1)) = true := ok_T fun c m => A.a c (A.s.subset (List.mem_of_mem_take m))
  have o2 : PyData.strOk (T [45]) = true := by decide +kernel
  unfold d_Reader_integer d_Reader_integer_b dDef
  refine ⟨rfl, ?_⟩
  refine seq_in fun N hN => ?_
  simp [hn]
  rw [look_eq A]
  simp [eD, o1, o2, T_inj]
  refine hN _ _ ?_
  clear hN
  refine seq_in fun N hN => ?_
  by_cases q : s.take 1 = [45]
  · obtain ⟨r, rfl⟩ : ∃ r, s = 45 :: r := by
      cases s with
      | nil => cases q
      | cons c r => simp at q; exact ⟨r, by rw [q]⟩
    unfold intF at hQ hE
    rw [if_pos q] at hQ hE
    simp only [List.drop_one, List.tail_cons] at hQ hE
    simp [hn]
    refine takeR_ok A (fun c r' e => ?_) fun e => by cases e
    cases e
    refine hN _ _ ?_
    clear hN
    have A1 : At C L n r (h.set n (rdC C L r)) := A.set (List.suffix_cons 45 r)
    have hn1 := A1.n
    unfold rdC at hn1
    refine seq_in fun N hN => ?_
    simp [hn1, eS]
    refine ⟨_, hn1, look_num _ _, ?_⟩
    refine number_okR A1 (by decide) (fun v r2 e => ?_) fun e => ?_
    · rw [List.set_set]
      rw [e] at hQ hE
      simp only at hQ hE
      refine ⟨rfl, hN _ _ ?_⟩
      clear hN
      refine seq_in fun N hN => ?_
      simp [c_MOST_INTEGER]
      have fail : (v > 10 ^ 18 ∨ v = 0) → E CM (h.set n (rdC C L r2)) := fun z => by
        rw [if_pos z] at hE
        exact hE rfl _
      by_cases q1 : (1000000000000000000 : Int) < (v : Int)
      · rw [if_pos q1]
        exact fail (.inl (by omega))
      rw [if_neg q1]
      by_cases q2 : v = 0
      · rw [if_pos q2]
        exact fail (.inr q2)
      rw [if_neg q2]
      refine hN _ _ ?_
      clear hN fail
      simp
      exact hQ _ _ (by rw [if_neg (by omega)])
    · rw [e] at hE
      exact Any.next (hE rfl)
  · unfold intF at hQ hE
    rw [if_neg q] at hQ hE
    simp [q]
    refine hN _ _ ?_
    clear hN
    refine seq_in fun N hN => ?_
    simp [hn, eS]
    refine number_okR A (by decide) (fun v r2 e => ?_) fun e => ?_
    · rw [e] at hQ hE
      simp only at hQ hE
      refine ⟨rfl, hN _ _ ?_⟩
      clear hN
      refine seq_in fun N hN => ?_
      simp [c_MOST_INTEGER]
      by_cases q1 : v > 10 ^ 18
      · have : (1000000000000000000 : Int) < (v : Int) := by omega
        rw [if_pos this]
        rw [if_pos q1] at hE
        exact hE rfl _
      · have : ¬ (1000000000000000000 : Int) < (v : Int) := by omega
        rw [if_neg this]
        refine hN _ _ ?_
        clear hN
        simp
        exact hQ _ _ (by rw [if_neg q1])
    · rw [e] at hE
      exact hE rfl
theorem text_okR (A : At C L n s h) (hQ : ∀ p r, txtF s = some (p, r) → Q (.val p) (h.set n (rdC C L r))) (hE : txtF s = none → Any n h (E CM)) : d_Reader_text CM C [.val (.ref n)] h Q E := by
  have hn := A.n
  unfold rdC at hn
  have eS : Str.ofString ":" = T [58] := by decide +kernel
  unfold txtF at hQ hE
  unfold d_Reader_text d_Reader_text_b dDef
  refine ⟨rfl, ?_⟩
  refine seq_in fun N hN => ?_
  simp [hn, eS]
  refine number_okR A (by decide) (fun v r e => ?_) fun e => ?_
  · rw [e] at hQ hE
    simp only at hQ hE
    refine ⟨rfl, hN _ _ ?_⟩
    clear hN
    have sr : r <:+ s := (numF_suf e).1
    have A1 : At C L n r (h.set n (rdC C L r)) := A.set sr
    have hn1 := A1.n
    have ll := A.l
    unfold rdC at hn1
    have ec : ((L.length - r.length : Nat) : Int) + (v : Int) = ((L.length - r.length + v : Nat) : Int) := by omega
    refine seq_in fun N hN => ?_
    simp [rdC, hn1, OptI]
    refine ⟨szM (by omega), ?_⟩
    rw [ec, cutS_T, A1.drop, show L.length - r.length + v - (L.length - r.length) = v by omega]
    refine hN _ _ ?_
    clear hN
    refine seq_in fun N hN => ?_
    simp
    refine ⟨szM (by have := A1.s.length_le; omega), ?_⟩
    by_cases q : r.length < v
    · rw [if_pos q] at hE
      rw [if_pos (by rw [Nat.min_eq_right (by omega)]; omega)]
      exact hE rfl _
    rw [if_neg q] at hQ
    rw [if_neg (by rw [Nat.min_eq_left (by omega)]; omega)]
    refine hN _ _ ?_
    clear hN
    simp [hn1]
    have := A1.s.length_le
    have := hQ _ _ rfl
    unfold rdC at this
    rw [List.length_drop] at this
    rw [ec, show L.length - r.length + v = L.length - (r.length - v) by omega]
    exact this
  · rw [e] at hE
    exact hE rfl
end
end PM

namespace PM
open PySem PySem.Spec L2
open PyProof.Rows hiding St
theorem data_okR {CM C : Addr} {L : List Nat} {n : Nat} {E : XQ} : ∀ (m k : Nat) {s : List Nat} {h : Hs} {Q : VQ} {d : Int}, At C L n s h → d = 30 - (k : Int) → k ≤ 30 → k < m → (∀ p r, rdF (k + 1) s = some (p, r) → Q (.val p) (h.set n (rdC C L r))) → (rdF (k + 1) s = none → Any n h (E CM)) →
    d_Reader_data CM C m [.val (.ref n), .val (.int d)] h Q E
  | 0, _, _, _, _, _, _, _, _, hk, _, _ => absurd hk (by omega)
  | m + 1, k, s, h, Q, d, A, hd, k30, hk, hQ, hE => by
    have hn := A.n
    unfold rdC at hn
    have e126 : Str.ofString "~" = T [126] := by decide +kernel
    have e35 : Str.ofString "#" = T [35] := by decide +kernel
    have e39 : Str.ofString "'" = T [39] := by decide +kernel
    have e40 : Str.ofString "(" = T [40] := by decide +kernel
    have e41 : Str.ofString ")" = T [41] := by decide +kernel
    have o126 : PyData.strOk (T [126]) = true := by decide +kernel
    have o35 : PyData.strOk (T [35]) = true := by decide +kernel
    have o39 : PyData.strOk (T [39]) = true := by decide +kernel
    have o40 : PyData.strOk (T [40]) = true := by decide +kernel
    have o41 : PyData.strOk (T [41]) = true := by decide +kernel
    rw [Reader_data_rec_s]
    unfold d_Reader_data_b dDef
    refine ⟨rfl, ?_⟩
    refine seq_in fun N hN => ?_
    simp [hn]
    refine takeR_ok A (fun c r e => ?_) fun e => hE (by rw [e]; rfl)
    subst e
    refine ⟨rfl, hN _ _ ?_⟩
    clear hN
    have oC : PyData.strOk (T [c]) = true := ok_T fun x mx => by
      rw [List.mem_singleton.mp mx]
      exact A.a c (A.s.subset (by simp))
    have A1 : At C L n r (h.set n (rdC C L r)) := A.set (List.suffix_cons c r)
    have hn1 := A1.n
    unfold rdC at hn1
    unfold rdF at hQ hE
    refine seq_in fun N hN => ?_
    simp [e126, o126, oC, T_inj]
    by_cases q1 : c = 126
    · rw [if_pos q1] at hQ ⊢
      exact hQ _ _ rfl
    rw [if_neg q1] at hQ hE ⊢
    refine hN _ _ ?_
    clear hN
    refine seq_in fun N hN => ?_
    simp [e35, o35, oC, T_inj]
    by_cases q2 : c = 35
    · rw [if_pos q2] at hQ hE ⊢
      refine ⟨_, hn1, look_int _ _, ?_⟩
      refine integer_okR A1 (fun v r2 e => ?_) fun e => ?_
      · rw [List.set_set]
        exact hQ _ _ (by rw [e]; rfl)
      · exact Any.next (hE (by rw [e]; rfl))
    rw [if_neg q2] at hQ hE ⊢
    refine hN _ _ ?_
    clear hN
    refine seq_in fun N hN => ?_
    simp [e39, o39, oC, T_inj]
    by_cases q3 : c = 39
    · rw [if_pos q3] at hQ hE ⊢
      refine ⟨_, hn1, look_txt _ _, ?_⟩
      refine text_okR A1 (fun p r2 e => ?_) fun e => ?_
      · rw [List.set_set]
        exact hQ _ _ e
      · exact Any.next (hE e)
    rw [if_neg q3] at hQ hE ⊢
    refine hN _ _ ?_
    clear hN
    refine seq_in fun N hN => ?_
    simp [e40, o40, oC, T_inj, c_MOST_DEPTH]
    by_cases q4 : c ≠ 40 ∨ k = 0
    · rw [if_pos q4] at hE
      have F : E CM (h.set n (rdC C L r)) := hE rfl _
      by_cases q5 : c = 40
      · subst q5
        have : k = 0 := q4.elim (fun z => absurd rfl z) id
        subst this
        simp [F]
        exact fun z => absurd z (by omega)
      · simp [q5, F]
    rw [if_neg q4] at hQ hE
    have q5 : c = 40 := Classical.byContradiction fun z => q4 (.inl z)
    have q6 : k ≠ 0 := fun z => q4 (.inr z)
    have q7 : ¬ (30 : Int) ≤ d := by omega
    subst q5
    simp [q7]
    refine hN _ _ ?_
    clear hN
    refine seq_in fun N hN => ?_
    simp
    refine hN _ _ ?_
    clear hN
    obtain ⟨k, rfl⟩ : ∃ j, k = j + 1 := ⟨k - 1, by omega⟩
    have Lr : r.length ≤ 1000000 := Nat.le_trans A1.s.length_le A.l
    have hE' : itF (rdF (k + 1)) (r.length + 1) [] r = none → Any n h (E CM) := hE
    have hQ' : ∀ p r2, itF (rdF (k + 1)) (r.length + 1) [] r = some (p, r2) → Q (.val p) (h.set n (rdC C L r2)) := hQ
    clear hE hQ
    generalize hR : itF (rdF (k + 1)) (r.length + 1) [] r = R at hE' hQ'
    refine seq_in fun N hN => ?_
    refine ⟨fun m env h' => ∃ (acc : List PV) (t : List Nat) (f : Nat), env = [some (.val (.ref n)), some (.val (.int d)), some (.val (.str (T [40]))), some (.own acc)] ∧ h' = h.set n (rdC C L t) ∧ t <:+ r ∧ itF (rdF (k + 1)) f acc t = R ∧ acc.length + t.length ≤ r.length ∧ t.length < f ∧ m = t.length, ⟨_, [], r, _, rfl, rfl, List.suffix_refl _, hR, by simp, Nat.lt_succ_self _, rfl⟩, ?_⟩
    rintro m' env h' ⟨acc, t, f, rfl, rfl, suf, eR, al, tf, rfl⟩
    obtain ⟨f, rfl⟩ : ∃ g, f = g + 1 := ⟨f - 1, by omega⟩
    have A2 : At C L n t (h.set n (rdC C L t)) := A.set (suf.trans (List.suffix_cons _ _))
    have hn2 := A2.n
    unfold rdC at hn2
    have oT : PyData.strOk (T (t.take 1)) = true := ok_T fun c m => A2.a c (A2.s.subset (List.mem_of_mem_take m))
    rw [itF] at eR
    simp
    refine ⟨_, hn2, look_look _ _, ?_⟩
    rw [look_eq A2]
    simp [e41, o41, oT, T_inj]
    by_cases q8 : t.take 1 = [41]
    · rw [if_pos q8] at eR ⊢
      refine hN _ _ ?_
      clear hN
      obtain ⟨u, rfl⟩ : ∃ u, t = 41 :: u := by
        cases t with
        | nil => cases q8
        | cons c u => simp at q8; exact ⟨u, by rw [q8]⟩
      refine seq_in fun N hN => ?_
      simp
      refine ⟨_, hn2, look_take _ _, ?_⟩
      refine takeR_ok A2 (fun c u2 e => ?_) fun e => by cases e
      cases e
      refine hN _ _ ?_
      clear hN
      simp
      exact hQ' _ _ eR.symm
    · rw [if_neg q8] at eR ⊢
      clear hN
      refine ⟨_, hn2, look_data _ _, ?_⟩
      refine data_okR m k A2 (by omega) (by omega) (by omega) (fun p r2 e => ?_) fun e => ?_
      · rw [e] at eR
        simp only at eR
        have sl := rdF_suf e
        refine ⟨szLtM (by omega), ?_⟩
        exact ⟨_, sl.2, r2, by rw [List.set_set], sl.1.trans suf, f, eR, by omega, by omega, rfl⟩
      · rw [e] at eR
        exact Any.next (hE' eR.symm)
end PM

namespace PM
open PySem PySem.Spec L2
open PyProof.Rows hiding St
theorem low_at : ∀ k : Fin 5, (Str.ofString " !\"#$").cps.toList[k.val]? = some (32 + k.val) := by decide +kernel
theorem high_at : ∀ k : Fin 89, (Str.ofString "&'()*+,-./0123456789:;<=>?@ABCDEFGHIJKLMNOPQRSTUVWXYZ[\\]^_`abcdefghijklmnopqrstuvwxyz{|}~").cps.toList[k.val]? = some (38 + k.val) := by decide +kernel
theorem low_len : (Str.ofString " !\"#$").length = 5 := by decide +kernel
theorem high_len : (Str.ofString "&'()*+,-./0123456789:;<=>?@ABCDEFGHIJKLMNOPQRSTUVWXYZ[\\]^_`abcdefghijklmnopqrstuvwxyz{|}~").length = 89 := by decide +kernel
section
variable {CM C : Addr} {h : Hs} {Q : VQ} {E : XQ}
theorem sign_eq {c : Nat} (hc : okc c) : d_sign_of CM [.val (.int (c : Nat))] h Q E = Q (.val (.str (T [c]))) h := by
  obtain ⟨h1, h2, h3⟩ := hc
  have s1 : 5 ≤ sizeLine := szL (by decide)
  have s2 : 89 ≤ sizeLine := szL (by decide)
  by_cases q : c < 37
  · have e : ((c : Int) - 32) = ((c - 32 : Nat) : Int) := by omega
    have l := low_at ⟨c - 32, by omega⟩
    rw [show 32 + (c - 32) = c by omega] at l
    have g1 : (32 : Int) ≤ (c : Int) := by omega
    have g2 : (c : Int) < 37 := by omega
    simp [d_sign_of, d_sign_of_b, c_FIRST_LOW, c_LOW_SIGNS, low_len, s1, g1, g2]
    rw [e]
    rw [atI_nat', l]
    exact ⟨fun ⟨d, e, q⟩ => by cases e; exact q, fun q => ⟨c, rfl, q⟩⟩
  · have e : ((c : Int) - 38) = ((c - 38 : Nat) : Int) := by omega
    have l := high_at ⟨c - 38, by omega⟩
    rw [show 38 + (c - 38) = c by omega] at l
    have g1 : (32 : Int) ≤ (c : Int) := by omega
    have g2 : ¬ (c : Int) < 37 := by omega
    have g3 : (38 : Int) ≤ (c : Int) := by omega
    have g4 : (c : Int) < 127 := by omega
    simp [d_sign_of, d_sign_of_b, c_FIRST_LOW, c_LOW_SIGNS, low_len, s1, g1, g2, c_FIRST_HIGH, c_HIGH_SIGNS, high_len, s2, g3, g4]
    rw [e]
    rw [atI_nat', l]
    exact ⟨fun ⟨d, e, q⟩ => by cases e; exact q, fun q => ⟨c, rfl, q⟩⟩
theorem init_eq {L : List Nat} : d_Reader___init__ C [.val (.ref h.length), .val (.str (T L))] (h ++ [.ins C []]) Q E = Q (.val .non) (h ++ [.ins C [("line", .str (T L)), ("at", .int 0)]]) := by
  have e1 : ¬ (Str.ofString "line" = Str.ofString "at") := by decide +kernel
  simp [d_Reader___init__, d_Reader___init___b, putFP, e1]
/-- octets as a list of ints -/
abbrev osP (l : List Nat) : List PV := l.map fun (c : Nat) => PV.int (c : Int)
theorem sign_bad {c : Nat} (hc : ¬ okc c) : d_sign_of CM [.val (.int (c : Nat))] h Q E = E CM h := by
  have s1 : 5 ≤ sizeLine := szL (by decide)
  have s2 : 89 ≤ sizeLine := szL (by decide)
  have n1 : ¬ ((32 : Int) ≤ (c : Int) ∧ (c : Int) < 37) := fun z => hc ⟨by omega, by omega, by omega⟩
  have n2 : ¬ ((38 : Int) ≤ (c : Int) ∧ (c : Int) < 127) := fun z => hc ⟨by omega, by omega, by omega⟩
  by_cases g1 : (32 : Int) ≤ (c : Int)
  · have g2 : ¬ (c : Int) < 37 := fun z => n1 ⟨g1, z⟩
    by_cases g3 : (38 : Int) ≤ (c : Int)
    · have g4 : ¬ (c : Int) < 127 := fun z => n2 ⟨g3, z⟩
      simp [d_sign_of, d_sign_of_b, c_FIRST_LOW, c_LOW_SIGNS, low_len, s1, g1, g2, c_FIRST_HIGH, c_HIGH_SIGNS, high_len, s2, g3, g4]
    · simp [d_sign_of, d_sign_of_b, c_FIRST_LOW, c_LOW_SIGNS, low_len, s1, g1, g2, c_FIRST_HIGH, c_HIGH_SIGNS, high_len, s2, g3]
  · have g3 : ¬ (38 : Int) ≤ (c : Int) := by omega
    simp [d_sign_of, d_sign_of_b, c_FIRST_LOW, c_LOW_SIGNS, low_len, s1, g1, c_FIRST_HIGH, c_HIGH_SIGNS, high_len, s2, g3]
/-- what unpack reads -/
def upF (os : List Nat) : Option PV := if os.all (fun c => decide (okc c)) = true then match rdF 31 os with
    | some (p, []) => some p
    | _ => none
  else none
theorem compX {env : Env} (l : List Nat) : ∀ (acc : List PV) {Q : List PV → Hs → Prop}, acc.length + l.length ≤ 16777216 → 3 < env.length → ((∀ c ∈ l, okc c) → Q (acc ++ l.map fun c => PV.str (T [c])) h) → ((¬ ∀ c ∈ l, okc c) → E CM h) → compLX (fun _ => True) (bName 3) dYes (dCallX 1 (d_sign_of CM) (dCons (dVar 3) dNil)) env (osP l) acc h Q E := by
  induction l with
  | nil =>
    intro acc Q hl he hQ _
    rw [osP, List.map_nil, compLX_nil]
    refine ⟨trivial, ?_⟩
    simpa using hQ
  | cons c l ih =>
    intro acc Q hl he hQ hE
    rw [osP, List.map_cons, compLX_cons]
    refine ⟨trivial, ?_⟩
    simp [he]
    by_cases q : okc c
    · rw [sign_eq q]
      simp
      refine ⟨szLtM (by simp at hl; omega), ih _ (by simp at hl ⊢; omega) he (fun z => ?_) fun z => hE fun y => z fun d m => y d (List.mem_cons_of_mem _ m)⟩
      have := hQ fun d m => by
        rcases List.mem_cons.mp m with rfl | m
        · exact q
        · exact z d m
      simpa using this
    · rw [sign_bad q]
      exact hE fun y => q (y c List.mem_cons_self)
theorem unpack_any {os : List Nat} (hl : os.length ≤ 1000000) (hQ' : ∀ p x, upF os = some p → Q (.val p) (h ++ [x])) (hE' : upF os = none → E CM h ∧ ∀ x, E CM (h ++ [x])) : d_unpack CM C [.brw (osP os)] h Q E := by
  unfold d_unpack d_unpack_b dDef
  refine ⟨rfl, ?_⟩
  refine seq_in fun N hN => ?_
  simp
  refine compX os [] (by simp; omega) (by simp) (fun ho => ?_) fun z => (hE' (by
    unfold upF
    rw [if_neg fun y => z fun c m => of_decide_eq_true (List.all_eq_true.mp y c m)])).1
  have a128 : ∀ c ∈ os, c < 128 := fun c m => by
    have := (ho c m).2.1
    omega
  have eu : upF os = match rdF 31 os with
      | some (p, []) => some p
      | _ => none := by
    unfold upF
    rw [if_pos (List.all_eq_true.mpr fun c m => decide_eq_true (ho c m))]
  have hQ : ∀ p x, rdF 31 os = some (p, []) → Q (.val p) (h ++ [x]) := fun p x e => hQ' p x (by rw [eu, e])
  have hE : (∀ p, rdF 31 os ≠ some (p, [])) → ∀ x, E CM (h ++ [x]) := fun z => (hE' (by
    rw [eu]
    split
    · rename_i p e
      exact absurd e (z p)
    · rfl)).2
  have e1 : (os.map fun c => PV.str (T [c])) = (os.map fun c => (⟨#[c]⟩ : Str)).map .str := by rw [List.map_map]; rfl
  simp [e1]
  have en := join_T os
  have ef := fit_T os (by omega)
  refine ⟨os.map fun c => ⟨#[c]⟩, strsOf_mapf os _, ef, ?_⟩
  rw [en]
  rw [init_eq]
  refine ⟨rfl, hN _ _ ?_⟩
  clear hN
  have hc : (h ++ [Cell.ins C [("line", .str (T os)), ("at", .int 0)]])[h.length]? = some (rdC C os os) := by
    unfold rdC
    simp
  generalize hH : h ++ [Cell.ins C [("line", PV.str (T os)), ("at", .int 0)]] = H at hc
  have hset : ∀ x, H.set h.length x = h ++ [x] := fun x => by
    rw [← hH]
    simp
  have A : At C os h.length os H := ⟨hc, List.suffix_refl _, hl, a128⟩
  unfold rdC at hc
  refine seq_in fun N hN => ?_
  simp
  refine ⟨_, hc, look_data _ _, ?_⟩
  refine data_okR 40 30 A (by omega) (by omega) (by omega) (fun p r e => ?_) fun e => ?_
  · have hset2 : ∀ x, (H.set h.length (rdC C os r)).set h.length x = h ++ [x] := fun x => by rw [List.set_set, hset]
    have A1 : At C os h.length r (H.set h.length (rdC C os r)) := A.set (rdF_suf e).1
    have hc1 := A1.n
    unfold rdC at hc1
    have oT : PyData.strOk (T (r.take 1)) = true := ok_T fun c m => A1.a c (A1.s.subset (List.mem_of_mem_take m))
    have hE2 : r ≠ [] → E CM (H.set h.length (rdC C os r)) := fun q => by
      rw [hset]
      exact hE (fun p2 z => by
        rw [e] at z
        cases z
        exact q rfl) _
    have hQ2 : r = [] → Q (.val p) (H.set h.length (rdC C os r)) := fun q => by
      rw [hset]
      exact hQ p _ (by rw [e, q])
    simp
    refine hN _ _ ?_
    clear hN
    refine seq_in fun N hN => ?_
    simp
    refine ⟨_, hc1, look_look _ _, ?_⟩
    rw [look_eq A1]
    simp
    refine ⟨oT, ?_⟩
    by_cases q : r = []
    · subst q
      rw [if_pos (by simp)]
      refine hN _ _ ?_
      simp
      exact hQ2 rfl
    · have : ¬ T (r.take 1) = Str.ofString "" := fun z => by
        rw [← T_nil, T_inj] at z
        cases r with
        | nil => exact q rfl
        | cons c r => cases z
      rw [if_neg this]
      exact hE2 q
  · rw [show (fun x => E CM x) = E CM from rfl]
    exact fun x => by
      rw [hset]
      exact hE (fun p z => by rw [e] at z; cases z) x
end
end PM

namespace PM
open PySem PySem.Spec L2
open PyProof.Rows hiding St
theorem join_ln (xs : List PV) : Txt.join ("" : String) (xs.map fun x => T (ln x)) = T (lnL xs) := by
  rw [← T_cs (Txt.join _ _)]
  congr 1
  rw [join_e, lnL_flat, List.map_map]
  congr 1
theorem fit_ln (xs : List PV) (h : (lnL xs).length ≤ 16777216) : JoinFits ("" : String) (xs.map fun x => T (ln x)) := by
  unfold JoinFits
  rw [str_l0, List.map_map]
  have sum : ∀ l : List PV, (l.map (Str.length ∘ fun x => T (ln x))).sum = (lnL l).length := fun l => by
    induction l with
    | nil => simp [lnL]
    | cons c l ih => rw [List.map_cons, List.sum_cons, ih, lnL, List.length_append]; simp
  rw [sum]
  omega
theorem mem_len {xs : List PV} {x : PV} (m : x ∈ xs) : (ln x).length ≤ (lnL xs).length := by
  induction xs with
  | nil => cases m
  | cons y xs ih =>
    rw [lnL, List.length_append]
    rcases List.mem_cons.mp m with rfl | m
    · omega
    · have := ih m
      omega
theorem len_lnL (n : Nat) (xs : List PV) (h : ∀ x ∈ xs, Gd n x) : xs.length ≤ (lnL xs).length := by
  induction xs with
  | nil => simp
  | cons y xs ih =>
    have := ih fun x m => h x (List.mem_cons_of_mem _ m)
    obtain ⟨c, t, e, _⟩ := ln_head (h y List.mem_cons_self)
    rw [lnL, List.length_append, e]
    simp
    omega
theorem line_of_eq {h : Hs} {E : XQ} : ∀ (m k : Nat) {p : PV} {Q : VQ}, Gd k p → k < m → (ln p).length ≤ 1000000 → d_line_of m [.val p] h Q E = Q (.val (.str (T (ln p)))) h
  | 0, _, _, _, _, hk, _ => absurd hk (by omega)
  | m + 1, k, p, Q, g, hk, hl => by
    have e126 : Str.ofString "~" = T [126] := by decide +kernel
    have e35 : Str.ofString "#" = T [35] := by decide +kernel
    have e39 : Str.ofString "'" = T [39] := by decide +kernel
    have e40 : Str.ofString "(" = T [40] := by decide +kernel
    have e41 : Str.ofString ")" = T [41] := by decide +kernel
    have e58 : Str.ofString ":" = T [58] := by decide +kernel
    have e59 : Str.ofString ";" = T [59] := by decide +kernel
    rw [line_of_rec_s]
    cases p with
    | non => simp [d_line_of_b, e126, ln]
    | int i =>
      have gi : i.natAbs ≤ 10 ^ 18 := by
        cases k <;> (unfold Gd at g; exact g)
      have l1 : i.natAbs.log2 < 1920 := log_lt (k := 19) (by omega) (by decide)
      have l2 := intL_len gi
      have s1 : 1 + (intL i).length ≤ sizeLine := szM (by omega)
      have s2 : 1 + (intL i).length + 1 ≤ sizeLine := szM (by omega)
      simp [d_line_of_b, e35, e59, l1, R_int, T_app, s1, s2, ln]
      exact fun _ => szM (by omega)
    | str z =>
      have gz : z.length < 10 ^ 20 := by
        cases k <;> (unfold Gd at g; exact g)
      have lz : z.length ≤ 1000000 := by
        have : z.cps.size = z.length := rfl
        simp [ln, this] at hl
        omega
      have l1 : z.length.log2 < 1920 := log_lt (k := 20) gz (by decide)
      have l2 := TL.numL_len (n := z.length) (k := 7) (by decide) (by omega)
      have s0 : z.length ≤ sizeLine := szM (by omega)
      have s1 : 1 + (TL.numL z.length).length ≤ sizeLine := szM (by omega)
      have s2 : (TL.numL z.length).length + 1 + 1 ≤ sizeLine := szM (by omega)
      have s3 : (TL.numL z.length).length + 1 + 1 + z.length ≤ sizeLine := szM (by omega)
      simp [d_line_of_b, e39, e58, R_num, T_app, ln, l1, s0, s1, s2, s3]
      rw [T_apps]
      simp
    | tup xs =>
      obtain ⟨k, rfl⟩ : ∃ j, k = j + 1 := by
        cases k with
        | zero => unfold Gd at g; exact g.elim
        | succ k => exact ⟨k, rfl⟩
      unfold Gd at g
      have ll : (lnL xs).length + 2 = (ln (.tup xs)).length := by simp [ln]
      have lx := len_lnL k xs g
      have s1 : xs.length ≤ sizeLine := szM (by omega)
      have s2 : 1 + (lnL xs).length ≤ sizeLine := szM (by omega)
      have s3 : (lnL xs).length + 1 + 1 ≤ sizeLine := szM (by omega)
      simp [d_line_of_b, e40, e41]
      rw [compL_v (fun x => .val (.str (T (ln x)))) (fun x => .str (T (ln x))) trivial (fun _ => rfl) xs ?he s1]
      case he =>
        intro x mx K
        simp
        rw [line_of_eq m k (g x mx) (by omega) (Nat.le_trans (mem_len mx) (by omega))]
      have e1 := strsOf_mapf xs fun x => T (ln x)
      have ej := join_ln xs
      have ef := fit_ln xs (by omega)
      rw [e1]
      have es : Str.ofString "" = ("" : String) := rfl
      constructor
      · rintro ⟨x, e, _, _, _, q⟩
        cases e
        rw [ej, T_app, T_app] at q
        rw [ln]
        exact q
      · intro q
        refine ⟨_, rfl, ef, by rw [ej, T_len]; exact s2, by rw [ej, T_app, T_len]; simp; exact s3, ?_⟩
        rw [ej, T_app, T_app]
        rw [ln] at q
        exact q
    | bl _ => cases k <;> (unfold Gd at g; exact g.elim)
    | lst _ => cases k <;> (unfold Gd at g; exact g.elim)
    | ref _ => cases k <;> (unfold Gd at g; exact g.elim)
end PM

namespace PM
open PySem PySem.Spec L2
open PyProof.Rows hiding St
section
variable {CM C : Addr} {h : Hs} {Q : VQ} {E : XQ}
theorem codes_eq {te : DE} {env : Env} {Q : List PV → Hs → Prop} (l : List Nat) (i : Nat) (ht : te = dB (g1 gOrd) (dCons (dVar i) dNil)) (hi : i < env.length) (hl : l.length ≤ 16777216) : compL (fun _ => True) (bName i) dYes te env (signs (T l)) [] h Q = Q (osP l) h := by
  subst ht
  rw [signs_T]
  rw [compL_p (fun c => .val (.int (c : Nat))) (fun c => PV.str (T [c])) (fun c => .int (c : Nat)) trivial (fun _ => rfl) l [] (fun c m K => by simp [hi, ← T_one]; intro _; rfl) (szM (by simpa using hl))]
  simp
theorem pack_eq {k : Nat} {p : PV} (g : Gd k p) (hk : k < 40) (hl : (ln p).length ≤ 1000000) : d_pack [.val p] h Q E = Q (.own (osP (ln p))) h := by
  simp [d_pack, d_pack_b]
  rw [line_of_eq 40 k g hk hl]
  simp
  rw [codes_eq (ln p) 1 rfl (by simp) (by omega)]
end
theorem pyEq_os (a b : List Nat) : pyEq (.lst (osP a)) (.lst (osP b)) = decide (a = b) := by
  induction a generalizing b with
  | nil => cases b <;> simp
  | cons x a ih =>
    cases b with
    | nil => simp
    | cons y b =>
      have := ih b
      simp only [osP, List.map_cons, pyEq_lstc, pyEq_int, this, List.cons.injEq]
      by_cases e : x = y
      · simp [e]
      · have : ¬ (x : Int) = (y : Int) := by omega
        simp [e, this]
theorem ok_os (a : List Nat) : (PV.lst (osP a)).okD = true := by
  rw [okD_lst]
  intro x m
  obtain ⟨c, _, rfl⟩ := List.mem_map.mp m
  simp
theorem okN_os (n : Nat) (a : List Nat) : okN (n + 1) (PV.lst (osP a)) := by
  rw [okN_lst]
  intro x m
  obtain ⟨c, _, rfl⟩ := List.mem_map.mp m
  simp
theorem osm (n : Nat) (a : List Nat) : ∀ x ∈ osP a, okN n x := fun x m => by
  obtain ⟨c, _, rfl⟩ := List.mem_map.mp m
  simp
theorem okD_os' (a : List Nat) : (∀ x ∈ osP a, okN 63 x) ↔ True := ⟨fun _ => trivial, fun _ => osm 63 a⟩
theorem Gd.pv {n : Nat} {p : PV} (g : Gd n p) (H : Hs) : (SV.val p).pv H = some p := by
  cases p with
  | ref _ => cases n <;> (unfold Gd at g; exact g.elim)
  | _ => rfl
end PM

namespace PM
open PySem PySem.Spec L2
open PyProof.Rows hiding St
def Oc (os : List Nat) : Prop := ∀ c ∈ os, c < 256
theorem Oc.app {a b : List Nat} (ha : Oc a) (hb : Oc b) : Oc (a ++ b) := fun c m => (List.mem_append.mp m).elim (ha c) (hb c)
theorem Oc.take {a : List Nat} (h : Oc a) (k : Nat) : Oc (a.take k) := fun c m => h c (List.mem_of_mem_take m)
theorem Oc.drop {a : List Nat} (h : Oc a) (k : Nat) : Oc (a.drop k) := fun c m => h c (List.mem_of_mem_drop m)
theorem Oc.one {c : Nat} (h : c < 256) : Oc [c] := fun d m => by rw [List.mem_singleton.mp m]; exact h
theorem Oc.rep {k c : Nat} (h : c < 256) : Oc (List.replicate k c) := fun d m => by rw [(List.mem_replicate.mp m).2]; exact h
theorem cut_to (os : List Nat) (k : Nat) : cutP (osP os) none (some (k : Int)) = osP (os.take k) := by rw [cutP_to, osP, osP, List.map_take]
theorem cut_from (os : List Nat) (k : Nat) : cutP (osP os) (some (k : Int)) none = osP (os.drop k) := by rw [cutP_from, osP, osP, List.map_drop]
theorem cut_from1 (os : List Nat) (k : Nat) : cutP (osP os) (some ((k : Int) + 1)) none = osP (os.drop (k + 1)) := by
  rw [show ((k : Int) + 1) = ((k + 1 : Nat) : Int) by omega, cut_from]
theorem osP_app (a b : List Nat) : osP a ++ osP b = osP (a ++ b) := by rw [osP, osP, osP, List.map_append]
theorem osP_len (a : List Nat) : (osP a).length = a.length := by rw [osP, List.length_map]
theorem rep_os (k c : Nat) : repN k [PV.int (c : Int)] = osP (List.replicate k c) := by
  unfold repN
  induction k with
  | zero => rfl
  | succ k ih => rw [List.replicate_succ, List.flatten_cons, ih, List.replicate_succ]; rfl
theorem int_one {c : Nat} (h : isDig c = true) : PySem.intText? (T [c]) = some ((c - 48 : Nat) : Int) := by
  unfold isDig at h
  have q := of_decide_eq_true h
  have e := SX.int_S (a := [c]) (by simp [q.1, q.2]) (by simp) (by simp)
  have v : NumText.digitsVal [c] = c - 48 := by simp [NumText.digitsVal]
  rw [v] at e
  exact e
section
variable {h : Hs} {Q : VQ} {E : XQ}
theorem bent_ok {n : Nat} {os : List Nat} (hb : B n h) (ho : Oc os) (h0 : os ≠ []) (hl : os.length ≤ 100000) (hQ : ∀ l h', Oc l → l.length ≤ 300000 → Q (.own (osP l)) h') : d_law_bent [.brw (osP os), .val (.ref n)] h Q E := by
  have lp : 0 < os.length := List.length_pos_iff.mpr h0
  have s16 : 16 ≤ sizeLine := szL (by decide)
  have s1 : 1 ≤ sizeLine := szL (by decide)
  unfold d_law_bent d_law_bent_b dDef
  refine ⟨rfl, ?_⟩
  refine seq_in fun N hN => ?_
  simp [↓take_eq hb]
  have t0 := tk_ge (n := n) (h := h) (k := 8) (by decide)
  have t1 := tk_lt (n := n) (h := h) (k := 8) (by decide)
  have hb1 := hb.pt (k := 8)
  refine hN _ _ ?_
  clear hN
  generalize pt n 8 h = h1 at *
  generalize tk n 8 h = t at *
  refine seq_in fun N hN => ?_
  have p200 : (os.length : Int) < 2 ^ 200 := by
    have : (300000 : Int) < 2 ^ 200 := by decide
    omega
  have pl : (0 : Int) < os.length := by omega
  have a0 := tk_ge (n := n) (h := h1) (k := os.length) pl
  have a1 := tk_lt (n := n) (h := h1) (k := os.length) pl
  have hb2 := hb1.pt (k := os.length)
  simp [osP_len]
  rw [take_eq hb1 pl p200]
  refine ⟨rfl, hN _ _ ?_⟩
  clear hN
  generalize pt n os.length h1 = h2 at *
  generalize tk n os.length h1 = at' at *
  obtain ⟨a, rfl⟩ : ∃ k : Nat, at' = (k : Int) := ⟨at'.toNat, by omega⟩
  refine seq_in fun N hN => ?_
  have b0 := tk_ge (n := n) (h := h2) (k := 16) (by decide)
  have b1 := tk_lt (n := n) (h := h2) (k := 16) (by decide)
  have hb3 := hb2.pt (k := 16)
  simp [↓take_eq hb2, s16]
  generalize pt n 16 h2 = h3 at *
  generalize tk n 16 h2 = b at *
  obtain ⟨c, hc, c256⟩ : ∃ c : Nat, atI [PV.int 0, .int 10, .int 31, .int 37, .int 40, .int 41, .int 45, .int 48, .int 49, .int 58, .int 59, .int 126, .int 127, .int 200, .int 35, .int 39] b = some (.int (c : Nat)) ∧ c < 256 := by
    obtain ⟨k, rfl⟩ : ∃ k : Nat, b = (k : Int) := ⟨b.toNat, by omega⟩
    have k16 : k < 16 := by omega
    have : ∀ k : Fin 16, ∃ c : Nat, ([0, 10, 31, 37, 40, 41, 45, 48, 49, 58, 59, 126, 127, 200, 35, 39] : List Nat)[k.val]? = some c ∧ c < 256 := by decide
    obtain ⟨c, e, l⟩ := this ⟨k, k16⟩
    refine ⟨c, ?_, l⟩
    rw [atI_nat']
    have : [PV.int 0, .int 10, .int 31, .int 37, .int 40, .int 41, .int 45, .int 48, .int 49, .int 58, .int 59, .int 126, .int 127, .int 200, .int 35, .int 39] = osP [0, 10, 31, 37, 40, 41, 45, 48, 49, 58, 59, 126, 127, 200, 35, 39] := rfl
    rw [this, osP, List.getElem?_map, e]
    rfl
  refine ⟨_, hc, hN _ _ ?_⟩
  clear hN hc b0 b1 hb hb1 hb2
  have oc := Oc.one c256
  have ec : [PV.int (c : Int)] = osP [c] := rfl
  refine seq_in fun N hN => ?_
  simp
  by_cases q0 : t = 0
  · rw [if_pos q0]
    simp [OptI, cut_to, cut_from1, osP_len, s1]
    exact ⟨szM (by omega), szM (by omega), by simpa using hQ (os.take a ++ [c] ++ os.drop (a + 1)) h3 (((ho.take a).app oc).app (ho.drop _)) (by simp; omega)⟩
  rw [if_neg q0]
  refine hN _ _ ?_
  clear hN
  refine seq_in fun N hN => ?_
  simp
  by_cases q1 : t = 1
  · rw [if_pos q1]
    simp [OptI, cut_to, cut_from1, osP_len, s1]
    exact ⟨szM (by omega), by simpa using hQ (os.take a ++ os.drop (a + 1)) h3 ((ho.take a).app (ho.drop _)) (by simp; omega)⟩
  rw [if_neg q1]
  refine hN _ _ ?_
  clear hN
  refine seq_in fun N hN => ?_
  simp
  by_cases q2 : t = 2
  · rw [if_pos q2]
    simp [OptI, cut_to, cut_from, osP_len, s1]
    exact ⟨szM (by omega), szM (by omega), by simpa using hQ (os.take a ++ [c] ++ os.drop a) h3 (((ho.take a).app oc).app (ho.drop _)) (by simp; omega)⟩
  rw [if_neg q2]
  refine hN _ _ ?_
  clear hN
  refine seq_in fun N hN => ?_
  simp
  by_cases q3 : t = 3
  · rw [if_pos q3]
    simp [OptI, cut_to]
    simpa using hQ (os.take a) h3 (ho.take a) (by simp; omega)
  rw [if_neg q3]
  refine hN _ _ ?_
  clear hN
  refine seq_in fun N hN => ?_
  simp
  by_cases q4 : t = 4
  · rw [if_pos q4]
    exact ⟨szM (by omega), by simpa using hQ (os ++ os) h3 (ho.app ho) (by simp; omega)⟩
  rw [if_neg q4]
  refine hN _ _ ?_
  clear hN
  refine seq_in fun N hN => ?_
  refine if_in fun S1 S2 hS1 hS2 => ?_
  simp
  by_cases q5 : t = 5
  · rw [if_pos q5]
    refine hS1 _ _ ?_
    clear hS1 hS2 hN
    refine seq_in fun N hN => ?_
    have b0 := tk_ge (n := n) (h := h3) (k := 6) (by decide)
    have b1 := tk_lt (n := n) (h := h3) (k := 6) (by decide)
    have hb4 := hb3.pt (k := 6)
    simp [↓take_eq hb3]
    generalize pt n 6 h3 = h4 at *
    generalize tk n 6 h3 = b at *
    obtain ⟨d, hd, d40⟩ : ∃ d : Nat, 29 + b = (d : Int) ∧ 29 ≤ d ∧ d ≤ 40 := ⟨(29 + b).toNat, by omega, by omega, by omega⟩
    rw [hd]
    refine hN _ _ ?_
    clear hN
    have e0 := tk_ge (n := n) (h := h4) (k := 2) (by decide)
    have e1 := tk_lt (n := n) (h := h4) (k := 2) (by decide)
    have hb5 := hb4.pt (k := 2)
    simp [s1]
    simp [↓take_eq hb4]
    generalize pt n 2 h4 = h5 at *
    generalize tk n 2 h4 = e at *
    obtain ⟨e, rfl⟩ : ∃ k : Nat, e = (k : Int) := ⟨e.toNat, by omega⟩
    rw [show ((d : Int) - (e : Int)).toNat = d - e by omega]
    have r40 : repN d [PV.int 40] = osP (List.replicate d 40) := rep_os d 40
    have r41 : repN (d - e) [PV.int 41] = osP (List.replicate (d - e) 41) := rep_os (d - e) 41
    rw [r40, r41]
    have zl : sizeLine = 16777216 := rfl
    simp only [osP_len, List.length_replicate]
    refine ⟨by omega, by omega, by omega, by omega, by omega, by omega, by omega, ?_⟩
    rw [osP_app, osP_app]
    exact hQ _ _ ((Oc.rep (by decide)).app (ho.app (Oc.rep (by decide)))) (by simp; omega)
  rw [if_neg q5]
  refine hS2 _ _ ?_
  refine hN _ _ ?_
  clear hN hS1 hS2
  refine seq_in fun N hN => ?_
  refine if_in fun S1 S2 hS1 hS2 => ?_
  simp
  by_cases q6 : t = 6
  · rw [if_pos q6]
    refine hS1 _ _ ?_
    clear hS1 hS2 hN
    have s5 : 5 ≤ sizeLine := szL (by decide)
    refine seq_in fun N hN => ?_
    have b0 := tk_ge (n := n) (h := h3) (k := 5) (by decide)
    have b1 := tk_lt (n := n) (h := h3) (k := 5) (by decide)
    have hb4 := hb3.pt (k := 5)
    simp [↓take_eq hb3, s5]
    generalize pt n 5 h3 = h4 at *
    generalize tk n 5 h3 = b at *
    obtain ⟨l, hv, ld, ll⟩ : ∃ l : List Nat, atI [PV.str (Str.ofString "1000000000000000000"), .str (Str.ofString "1000000000000000001"), .str (Str.ofString "999999999999999999"), .str (Str.ofString "00"), .str (Str.ofString "0")] b = some (.str (T l)) ∧ l.all isDig = true ∧ l.length ≤ 20 := by
      rcases (by omega : b = 0 ∨ b = 1 ∨ b = 2 ∨ b = 3 ∨ b = 4) with rfl | rfl | rfl | rfl | rfl
      · exact ⟨(Str.ofString "1000000000000000000").cps.toList, by rw [T_cs]; rfl, by decide +kernel, by decide +kernel⟩
      · exact ⟨(Str.ofString "1000000000000000001").cps.toList, by rw [T_cs]; rfl, by decide +kernel, by decide +kernel⟩
      · exact ⟨(Str.ofString "999999999999999999").cps.toList, by rw [T_cs]; rfl, by decide +kernel, by decide +kernel⟩
      · exact ⟨(Str.ofString "00").cps.toList, by rw [T_cs]; rfl, by decide +kernel, by decide +kernel⟩
      · exact ⟨(Str.ofString "0").cps.toList, by rw [T_cs]; rfl, by decide +kernel, by decide +kernel⟩
    refine ⟨_, hv, hN _ _ ?_⟩
    clear hN hv
    have e0 := tk_ge (n := n) (h := h4) (k := 2) (by decide)
    have e1 := tk_lt (n := n) (h := h4) (k := 2) (by decide)
    have hb5 := hb4.pt (k := 2)
    simp [s1]
    simp [↓take_eq hb4]
    generalize pt n 2 h4 = h5 at *
    generalize tk n 2 h4 = e at *
    obtain ⟨e, rfl⟩ : ∃ k : Nat, e = (k : Int) := ⟨e.toNat, by omega⟩
    have r45 : repN e [PV.int 45] = osP (List.replicate e 45) := rep_os e 45
    simp [r45]
    rw [signs_T]
    have zl : sizeLine = 16777216 := rfl
    refine ⟨by omega, by omega, by omega, ?_⟩
    rw [compL_p (fun c => .val (.int (c : Nat))) (fun c => PV.str (T [c])) (fun c => .int (c : Nat)) trivial (fun _ => rfl) l [] (fun c m K => by
      have hc := List.all_eq_true.mp ld c m
      have hc2 := hc
      unfold isDig at hc2
      have := of_decide_eq_true hc2
      simp [int_one hc]
      rw [show (48 : Int) + ((c - 48 : Nat) : Int) = (c : Int) by omega]) (by simp; omega)]
    have oL : Oc l := fun c m => by
      have hc := List.all_eq_true.mp ld c m
      unfold isDig at hc
      have := of_decide_eq_true hc
      omega
    simp
    refine ⟨by omega, by omega, ?_⟩
    simpa using hQ ([35] ++ List.replicate e 45 ++ l ++ [59]) h5 ((((Oc.one (by decide)).app (Oc.rep (by decide))).app oL).app (Oc.one (by decide))) (by simp; omega)
  rw [if_neg q6]
  refine hS2 _ _ ?_
  refine hN _ _ ?_
  clear hN hS1 hS2
  have s10 : 10 ≤ sizeLine := szL (by decide)
  have b0 := tk_ge (n := n) (h := h3) (k := 9) (by decide)
  have b1 := tk_lt (n := n) (h := h3) (k := 9) (by decide)
  have hb4 := hb3.pt (k := 9)
  simp [↓take_eq hb3]
  generalize pt n 9 h3 = h4 at *
  generalize tk n 9 h3 = b at *
  refine ⟨by omega, by omega, ?_⟩
  refine compL_inv (fun j acc h => ∃ l : List Nat, acc = osP l ∧ l.length = j ∧ Oc l ∧ B n h) _ 0 _ _ ⟨[], rfl, rfl, (fun c m => by cases m), hb4⟩ ?_ ?_
  · rintro i x e acc h5 ⟨l, rfl, ll, ol, hb⟩ M hM
    obtain ⟨hi, rfl⟩ := rangeP_get e
    have e0 := tk_ge (n := n) (h := h5) (k := 10) (by decide)
    have e1 := tk_lt (n := n) (h := h5) (k := 10) (by decide)
    have hb6 := hb.pt (k := 10)
    simp [↓take_eq hb, s10]
    generalize pt n 10 h5 = h6 at *
    generalize tk n 10 h5 = e at *
    obtain ⟨c, hc, c256⟩ : ∃ c : Nat, atI [PV.int 40, .int 41, .int 126, .int 35, .int 39, .int 48, .int 49, .int 58, .int 59, .int 45] e = some (.int (c : Nat)) ∧ c < 256 := by
      rcases (by omega : e = 0 ∨ e = 1 ∨ e = 2 ∨ e = 3 ∨ e = 4 ∨ e = 5 ∨ e = 6 ∨ e = 7 ∨ e = 8 ∨ e = 9) with rfl | rfl | rfl | rfl | rfl | rfl | rfl | rfl | rfl | rfl
      · exact ⟨40, rfl, by decide⟩
      · exact ⟨41, rfl, by decide⟩
      · exact ⟨126, rfl, by decide⟩
      · exact ⟨35, rfl, by decide⟩
      · exact ⟨39, rfl, by decide⟩
      · exact ⟨48, rfl, by decide⟩
      · exact ⟨49, rfl, by decide⟩
      · exact ⟨58, rfl, by decide⟩
      · exact ⟨59, rfl, by decide⟩
      · exact ⟨45, rfl, by decide⟩
    exact ⟨_, hc, szLt (by omega), hM _ _ ⟨l ++ [c], by simp, by simp; omega, ol.app (Oc.one c256), hb6⟩⟩
  · rintro acc h5 ⟨l, rfl, ll, ol, hb⟩
    rw [rangeP_len] at ll
    exact ⟨trivial, hQ _ _ ol (by omega)⟩
end
end PM

namespace PM
open PySem PySem.Spec L2
open PyProof.Rows hiding St
open TL (numL)
/-! ### the law's reader: numbers -/
theorem numL0 : numL 0 = [48] := TL.numL_lt (by decide)
theorem numL_nz (n : Nat) : 0 < n → ∃ c t, numL n = c :: t ∧ c ≠ 48 := by
  induction n using Nat.strongRecOn with
  | _ n ih =>
    intro h
    by_cases q : n < 10
    · rw [TL.numL_lt q]
      exact ⟨_, _, rfl, by omega⟩
    · obtain ⟨c, t, e, ne⟩ := ih (n / 10) (by omega) (by omega)
      rw [TL.numL_step (by omega), e]
      exact ⟨c, _, rfl, ne⟩
theorem decV_snoc (b : List Nat) (c : Nat) : decV (b ++ [c]) = 10 * decV b + (c - 48) := by
  unfold decV
  rw [List.foldl_append]
  rfl
theorem canon : ∀ (n : Nat) (a : List Nat), a.length = n → a.all isDig = true → a ≠ [] → a.take 1 ≠ [48] → numL (decV a) = a ∧ 0 < decV a := by
  intro n
  induction n with
  | zero =>
    intro a hn _ h0
    exact absurd (List.length_eq_zero_iff.mp hn) h0
  | succ n ih =>
    intro a hn hd h0 h1
    obtain ⟨b, c, rfl⟩ : ∃ b c, a = b ++ [c] := ⟨a.dropLast, a.getLast h0, (List.dropLast_concat_getLast h0).symm⟩
    rw [List.all_append, Bool.and_eq_true] at hd
    have hc := hd.2
    simp [isDig] at hc
    rw [decV_snoc]
    by_cases q : b = []
    · subst q
      have e : decV [] = 0 := rfl
      rw [e, Nat.mul_zero, Nat.zero_add, TL.numL_lt (by omega)]
      have : c ≠ 48 := fun z => h1 (by rw [z]; rfl)
      refine ⟨?_, by omega⟩
      rw [show 48 + (c - 48) = c by omega]
      rfl
    · have t1 : (b ++ [c]).take 1 = b.take 1 := by
        cases b with
        | nil => exact absurd rfl q
        | cons x b => rfl
      rw [t1] at h1
      obtain ⟨e, p⟩ := ih b (by simpa using hn) hd.1 q h1
      refine ⟨?_, by omega⟩
      rw [TL.numL_step (by omega), show (10 * decV b + (c - 48)) / 10 = decV b by omega, e, show 48 + (10 * decV b + (c - 48)) % 10 = c by omega]
theorem canon_iff {a : List Nat} (hd : a.all isDig = true) (h0 : a ≠ []) : numL (decV a) = a ↔ ¬ (1 < a.length ∧ a.take 1 = [48]) := by
  by_cases q : a.take 1 = [48]
  · constructor
    · rintro e ⟨l, _⟩
      by_cases z : decV a = 0
      · rw [z, numL0] at e
        rw [← e] at l
        simp at l
      · obtain ⟨c, t, e2, ne⟩ := numL_nz (decV a) (by omega)
        rw [e] at e2
        rw [e2] at q
        simp at q
        exact ne q
    · intro h
      have l1 : a.length = 1 := by
        have := List.length_pos_iff.mpr h0
        have : ¬ 1 < a.length := fun z => h ⟨z, q⟩
        omega
      obtain ⟨c, rfl⟩ := List.length_eq_one_iff.mp l1
      simp at q
      subst q
      decide +kernel
  · exact ⟨fun _ z => q z.2, fun _ => (canon _ a rfl hd h0 q).1⟩
/-- by the digits' run -/
theorem numF_run {stop j : Nat} {s : List Nat} (hs : isDig stop = false) (hj : j ≤ 20) (jl : j ≤ s.length) (hd : (s.take j).all isDig = true) (mx : j = 20 ∨ ∀ c, s[j]? = some c → isDig c = false) :
    numF stop s = if j ≠ 0 ∧ (s.drop j).take 1 = [stop] ∧ ¬ (1 < j ∧ s.take 1 = [48]) then some (decV (s.take j), s.drop (j + 1)) else none := by
  have ltk : (s.take j).length = j := by rw [List.length_take]; omega
  have nst : stop ∉ s.take j := fun m => by
    rw [List.all_eq_true.mp hd stop m] at hs
    cases hs
  have tk1 : j ≠ 0 → (s.take j).take 1 = s.take 1 := fun z => by rw [List.take_take, Nat.min_eq_left (by omega)]
  by_cases q : (s.drop j).take 1 = [stop]
  · have es : s = s.take j ++ stop :: s.drop (j + 1) := by
      conv => lhs; rw [← List.take_append_drop j s]
      congr 1
      have := List.take_append_drop 1 (s.drop j)
      rw [q, List.drop_drop] at this
      exact this.symm
    unfold numF
    conv => lhs; rw [es]
    rw [tuF_app nst (by rw [ltk]; simpa using hj)]
    simp only [List.nil_append]
    by_cases z : j = 0
    · rw [if_neg fun y => y.1 (by rw [z]; rfl), if_neg fun y => y.1 z]
    · have ne : s.take j ≠ [] := fun y => z (by rw [← ltk, y]; rfl)
      have ci := canon_iff hd ne
      rw [ltk, tk1 z] at ci
      by_cases k : 1 < j ∧ s.take 1 = [48]
      · rw [if_neg fun y => (ci.mp y.2.2) k, if_neg fun y => y.2.2 k]
      · rw [if_pos ⟨ne, hd, ci.mpr k⟩, if_pos ⟨z, q, k⟩]
  · rw [if_neg fun y => q y.2.1]
    unfold numF
    split
    · rfl
    · rename_i a r h
      rw [if_neg]
      rintro ⟨a0, ad, _⟩
      obtain ⟨t, h1, h2, h3, _⟩ := tuF_suf h
      rw [List.nil_append] at h2
      subst h2
      have al : a.length ≤ 20 := by
        have aux : ∀ {s acc a r : List Nat}, tuF stop acc s = some (a, r) → acc.length ≤ 20 → a.length ≤ 20 := by
          intro s
          induction s with
          | nil => intro acc a r e _; cases e
          | cons c s ih =>
            intro acc a r e l
            unfold tuF at e
            split at e
            · cases e; exact l
            · split at e
              · cases e
              · exact ih e (by simp; omega)
        exact aux h (by simp)
      have ga : s[a.length]? = some stop := by rw [h1, List.getElem?_append_right (Nat.le_refl _), Nat.sub_self]; rfl
      have : a.length = j := by
        rcases Nat.lt_trichotomy a.length j with l | l | l
        · have : stop ∈ s.take j := List.mem_of_getElem? (by rw [List.getElem?_take, if_pos l]; exact ga)
          exact absurd this nst
        · exact l
        · rcases mx with m | m
          · omega
          · have : s[j]? = a[j]? := by rw [h1, List.getElem?_append_left l]
            obtain ⟨c, e⟩ : ∃ c, a[j]? = some c := ⟨_, List.getElem?_eq_getElem l⟩
            have := m c (by rw [this, e])
            rw [List.all_eq_true.mp ad c (List.mem_of_getElem? e)] at this
            cases this
      refine q ?_
      rw [h1, ← this, List.drop_left]
      rfl
end PM

namespace PM
open PySem PySem.Spec L2
open PyProof.Rows hiding St
open TL (numL)
theorem in_dig1 (c : Nat) : decide (c ∈ (Str.ofString "0123456789").cps) = isDig c := mem_dig c
section
variable {h : Hs} {Q : VQ} {E : XQ}
theorem nend_ok {L : List Nat} {at' stop : Nat} (hl : L.length ≤ 1000000) (h128 : ∀ c ∈ L, c < 128) (s128 : stop < 128) (ha : at' ≤ L.length) (hs : isDig stop = false) (hQ1 : ∀ v r, numF stop (L.drop at') = some (v, r) → Q (.val (.int ((L.length - r.length - 1 : Nat) : Int))) h) (hQ2 : numF stop (L.drop at') = none → Q (.val (.int (-1))) h) :
    d_law_number_end [.val (.str (T L)), .val (.int (at' : Nat)), .val (.str (T [stop]))] h Q E := by
  have lL : (T L).length ≤ sizeLine := by rw [T_len]; exact szM (by omega)
  have lL2 : L.length ≤ sizeLine := szM (by omega)
  have oL : ∀ l : List Nat, (∀ c ∈ l, c ∈ L) → PyData.strOk (T l) = true := fun l z => ok_T fun c m => h128 c (z c m)
  have oS : PyData.strOk (T [stop]) = true := ok_T fun d m => by rw [List.mem_singleton.mp m]; exact s128
  unfold d_law_number_end d_law_number_end_b dDef
  refine ⟨rfl, ?_⟩
  refine seq_in fun N hN => ?_
  simp
  refine hN _ _ ?_
  clear hN
  refine seq_in fun N hN => ?_
  refine ⟨fun m env h' => ∃ j : Nat, env = [some (.val (.str (T L))), some (.val (.int (at' : Nat))), some (.val (.str (T [stop]))), some (.val (.int ((at' + j : Nat) : Int))), none] ∧ h' = h ∧ j ≤ 20 ∧ at' + j ≤ L.length ∧ ((L.drop at').take j).all isDig = true ∧ m = L.length - (at' + j), ⟨_, 0, by simp, rfl, by omega, by omega, by simp, rfl⟩, ?_⟩
  rintro m env h' ⟨j, rfl, rfl, j20, jl, jd, rfl⟩
  have fin : (j = 20 ∨ ∀ c, (L.drop at')[j]? = some c → isDig c = false) → N [some (.val (.str (T L))), some (.val (.int (at' : Nat))), some (.val (.str (T [stop]))), some (.val (.int ((at' : Int) + (j : Int)))), none] h' := fun mx => by
    refine hN _ _ ?_
    clear hN
    have run := numF_run hs j20 (by rw [List.length_drop]; omega) jd mx
    refine seq_in fun N hN => ?_
    simp [OptI, lL2]
    rw [show ((at' : Int) + (j : Int)) = ((at' + j : Nat) : Int) by omega, cutS_T, show at' + j - at' = j by omega]
    refine hN _ _ ?_
    clear hN
    have ltk : ((L.drop at').take j).length = j := by rw [List.length_take, List.length_drop]; omega
    have mL : ∀ c ∈ (L.drop at').take j, c ∈ L := fun c m => List.mem_of_mem_drop (List.mem_of_mem_take m)
    have e30 : Str.ofString "0" = T [48] := by decide +kernel
    have o30 : PyData.strOk (T [48]) = true := by decide +kernel
    have edr : (L.drop at').drop j = L.drop (at' + j) := List.drop_drop
    have o1 := oL _ mL
    have o2 : PyData.strOk (T ((L.drop (at' + j)).take 1)) = true := oL _ fun c m => List.mem_of_mem_drop (List.mem_of_mem_take m)
    have sj : j ≤ sizeLine := szM (by omega)
    rw [edr] at run
    refine seq_in fun N hN => ?_
    refine if_in fun S1 S2 hS1 hS2 => ?_
    have bad : numF stop (L.drop at') = none → S1 [some (.val (.str (T L))), some (.val (.int (at' : Nat))), some (.val (.str (T [stop]))), some (.val (.int ((at' + j : Nat) : Int))), some (.val (.str (T ((L.drop at').take j))))] h' := fun z => by
      refine hS1 _ _ ?_
      simp
      exact hQ2 z
    have good : ∀ v r, numF stop (L.drop at') = some (v, r) → r = L.drop (at' + j + 1) → at' + j + 1 ≤ L.length → S2 [some (.val (.str (T L))), some (.val (.int (at' : Nat))), some (.val (.str (T [stop]))), some (.val (.int ((at' + j : Nat) : Int))), some (.val (.str (T ((L.drop at').take j))))] h' := fun v r z er lr => by
      refine hS2 _ _ ?_
      refine hN _ _ ?_
      have := hQ1 v r z
      rw [er, List.length_drop, show L.length - (L.length - (at' + j + 1)) - 1 = at' + j by omega] at this
      simpa using this
    simp [OptI, o1, ltk, lL2]
    rw [show ((at' : Int) + (j : Int) + 1) = ((at' + j + 1 : Nat) : Int) by omega, show ((at' : Int) + (j : Int)) = ((at' + j : Nat) : Int) by omega, cutS_T, show at' + j + 1 - (at' + j) = 1 by omega]
    simp [o2, oS, e30, o30, sj]
    have cc : ((at' + j : Nat) : Int) = (at' : Int) + (j : Int) := by omega
    rw [cc] at bad good
    have e0 : (T ((L.drop at').take j) = Str.ofString "") ↔ j = 0 := by
      rw [← T_nil, T_inj]
      exact ⟨fun z => by rw [← ltk, z]; rfl, fun z => by rw [z]; rfl⟩
    by_cases q0 : j = 0
    · rw [if_pos (e0.mpr q0)]
      exact bad (by rw [run, if_neg fun z => z.1 q0])
    rw [if_neg fun z => q0 (e0.mp z)]
    by_cases q1 : (L.drop (at' + j)).take 1 = [stop]
    · rw [if_pos (by rw [q1])]
      have lr : at' + j + 1 ≤ L.length := by
        have := congrArg List.length q1
        simp at this
        omega
      obtain ⟨c, t, ec⟩ : ∃ c t, (L.drop at').take j = c :: t := by
        cases e : (L.drop at').take j with
        | nil => rw [e] at ltk; exact absurd ltk.symm q0
        | cons c t => exact ⟨c, t, rfl⟩
      have hc1 : (L.drop at').take 1 = [c] := by
        have := congrArg (List.take 1) ec
        rw [List.take_take, Nat.min_eq_left (by omega)] at this
        simpa using this
      have edd : (L.drop at').drop (j + 1) = L.drop (at' + j + 1) := by rw [List.drop_drop]; rfl
      by_cases q2 : 1 < j
      · rw [if_pos (by omega)]
        refine ⟨c, by rw [ec]; simp [atI, ixN], oL [c] (fun d m => by rw [List.mem_singleton.mp m]; exact mL c (by rw [ec]; simp)), ?_⟩
        by_cases q3 : c = 48
        · rw [if_pos (by rw [q3]; rfl)]
          exact bad (by rw [run, if_neg fun z => z.2.2 ⟨q2, by rw [hc1, q3]⟩])
        · rw [if_neg fun z => q3 (by rw [T_one, T_inj] at z; cases z; rfl)]
          exact good _ _ (by rw [run, if_pos ⟨q0, q1, fun z => q3 (by rw [hc1] at z; have := z.2; cases this; rfl)⟩]) edd lr
      · rw [if_neg (by omega)]
        exact good _ _ (by rw [run, if_pos ⟨q0, q1, fun z => q2 z.1⟩]) edd lr
    · rw [if_neg fun z => q1 (T_inj.mp z)]
      exact bad (by rw [run, if_neg fun z => q1 z.2.1])
  simp [lL2, ex_T, mem_dig]
  have gj : ∀ c, (L.drop at')[j]? = some c ↔ atI L ((at' : Int) + (j : Int)) = some c := fun c => by
    rw [show ((at' : Int) + (j : Int)) = ((at' + j : Nat) : Int) by omega, atI_nat', List.getElem?_drop]
  by_cases q1 : at' + j < L.length
  · rw [if_pos (by omega)]
    have e1 : L[at' + j]? = some L[at' + j] := List.getElem?_eq_getElem q1
    refine ⟨L[at' + j], by rw [show ((at' : Int) + (j : Int)) = ((at' + j : Nat) : Int) by omega, atI_nat']; exact e1, ?_⟩
    have e2 : (L.drop at')[j]? = some L[at' + j] := by rw [List.getElem?_drop]; exact e1
    by_cases q2 : isDig L[at' + j] = true
    · rw [if_pos q2]
      by_cases q3 : j < 20
      · rw [if_pos (by omega)]
        refine ⟨_, ?_, j + 1, by omega, by omega, by omega, fun x m => ?_, rfl⟩
        · omega
        · rw [List.take_succ, e2] at m
          rcases List.mem_append.mp m with m | m
          · exact List.all_eq_true.mp jd x m
          · simp at m
            rw [m]
            exact q2
      · rw [if_neg (by omega)]
        exact fin (.inl (by omega))
    · rw [if_neg q2]
      exact fin (.inr fun c e => by
        rw [e2] at e
        cases e
        simpa using q2)
  · rw [if_neg (by omega)]
    exact fin (.inr fun c e => by
      rw [List.getElem?_drop, List.getElem?_eq_none (by omega)] at e
      cases e)
end
end PM

namespace PM
open PySem PySem.Spec L2
open PyProof.Rows hiding St
open TL (numL)
theorem int_numL {n : Nat} (h : n < 10 ^ 20) : PySem.intText? (T (numL n)) = some (n : Int) := by
  have l := TL.numL_len (n := n) (k := 20) (by decide) h
  have := TL.int_num (n := n) (by omega)
  rw [T_num] at this
  exact this
/-- where the digits end -/
theorem end_eq {L : List Nat} {a v stop : Nat} {r : List Nat} (ha : a ≤ L.length) (e : L.drop a = numL v ++ stop :: r) : L.length - r.length - 1 = a + (numL v).length ∧ L.length = a + (numL v).length + 1 + r.length ∧ (L.drop a).take (numL v).length = numL v := by
  have := congrArg List.length e
  simp at this
  refine ⟨by omega, by omega, ?_⟩
  rw [e, List.take_left]
theorem suf_drop {r L : List Nat} (h : r <:+ L) : L.drop (L.length - r.length) = r := by
  obtain ⟨t, rfl⟩ := h
  simp
theorem sg_loop {h : Hs} {e0 e1 e2 e3 e4 e5 e6 : Option SV} (b : DS) (hb : b = (sIf (dTst (dOp gEq (dB (g1 gOrd) (dCons (dVar 7) dNil)) (dC (.int 37)))) (sRet (dUn gNeg (dC (.int 1)))) sNil)) (D : DEnds) : ∀ (l : List Nat) (w : Option SV), (∀ c ∈ l, okc c) → (∀ w, D.nx [e0, e1, e2, e3, e4, e5, e6, w] h) → forL (fun _ => True) (bName 7) b D (l.map fun c => .str (T [c])) [e0, e1, e2, e3, e4, e5, e6, w] h := by
  intro l
  induction l with
  | nil =>
    intro w _ hz
    rw [List.map_nil, forL_nil]
    exact ⟨trivial, hz w⟩
  | cons c l ih =>
    intro w ho hz
    rw [List.map_cons, forL_cons]
    refine ⟨trivial, ?_⟩
    have nx := ih (some (.val (.str (T [c])))) (fun x m => ho x (List.mem_cons_of_mem _ m)) hz
    generalize forL (fun _ => True) (bName 7) b D (l.map fun c => .str (T [c])) = F at nx ⊢
    subst hb
    have oc := (ho c List.mem_cons_self).2.2
    have e : T [c] = (⟨#[c]⟩ : Str) := rfl
    have l1 : ({ cps := #[c] } : Str).length = 1 := rfl
    simp [e, l1]
    rw [if_neg (by omega)]
    exact nx
theorem lend_ok {E : XQ} {h : Hs} {L : List Nat} (hl : L.length ≤ 1000000) (hc : ∀ c ∈ L, okc c) : ∀ (m k : Nat) {a : Nat} {Q : VQ} {d : Int}, a ≤ L.length → d = 30 - (k : Int) → k ≤ 30 → k < m → (∀ p r, rdF (k + 1) (L.drop a) = some (p, r) → Q (.val (.int ((L.length - r.length : Nat) : Int))) h) → (rdF (k + 1) (L.drop a) = none → Q (.val (.int (-1))) h) →
    d_law_end m [.val (.str (T L)), .val (.int (a : Nat)), .val (.int d)] h Q E
  | 0, _, _, _, _, _, _, _, hk, _, _ => absurd hk (by omega)
  | m + 1, k, a, Q, d, ha, hd, k30, hk, hQ1, hQ2 => by
    have lL2 : L.length ≤ sizeLine := szM (by omega)
    have h128 : ∀ c ∈ L, c < 128 := fun c m => by have := (hc c m).2.1; omega
    have oL : ∀ l : List Nat, (∀ c ∈ l, c ∈ L) → PyData.strOk (T l) = true := fun l z => ok_T fun c m => h128 c (z c m)
    have e126 : Str.ofString "~" = T [126] := by decide +kernel
    have e35 : Str.ofString "#" = T [35] := by decide +kernel
    have e39 : Str.ofString "'" = T [39] := by decide +kernel
    have e40 : Str.ofString "(" = T [40] := by decide +kernel
    have e41 : Str.ofString ")" = T [41] := by decide +kernel
    have e45 : Str.ofString "-" = T [45] := by decide +kernel
    have e48 : Str.ofString "0" = T [48] := by decide +kernel
    have e58 : Str.ofString ":" = T [58] := by decide +kernel
    have e59 : Str.ofString ";" = T [59] := by decide +kernel
    have ok1 : ∀ c, c < 128 → PyData.strOk (T [c]) = true := fun c z => ok_T fun d m => by rw [List.mem_singleton.mp m]; exact z
    have o126 := ok1 126 (by decide)
    have o35 := ok1 35 (by decide)
    have o39 := ok1 39 (by decide)
    have o40 := ok1 40 (by decide)
    have o41 := ok1 41 (by decide)
    have o45 := ok1 45 (by decide)
    have o48 := ok1 48 (by decide)
    have dtk : ∀ (i n : Nat), PyData.strOk (T ((L.drop i).take n)) = true := fun i n => oL _ fun c m => List.mem_of_mem_drop (List.mem_of_mem_take m)
    have cut1 : ∀ i : Nat, cutS (T L) (some (i : Int)) (some ((i : Int) + 1)) = T ((L.drop i).take 1) := fun i => by
      rw [show ((i : Int) + 1) = ((i + 1 : Nat) : Int) by omega, cutS_T, show i + 1 - i = 1 by omega]
    rw [law_end_rec_s]
    unfold d_law_end_b dDef
    refine ⟨rfl, ?_⟩
    refine seq_in fun N hN => ?_
    simp [OptI, lL2, cut1]
    refine hN _ _ ?_
    clear hN
    have o1 := dtk a 1
    obtain ⟨s, hs⟩ : ∃ s, s = L.drop a := ⟨_, rfl⟩
    rw [← hs] at hQ1 hQ2 o1 ⊢
    have ls : s.length = L.length - a := by rw [hs, List.length_drop]
    cases s with
    | nil =>
      have t0 : ∀ c : Nat, ¬ T [] = T [c] := fun c z => by rw [T_inj] at z; cases z
      have z0 := hQ2 rfl
      have oN : PyData.strOk (T []) = true := by rw [T_nil]; exact ok_e
      refine seq_in fun N hN => ?_
      simp [e126, o126, -T_nil, oN, t0]
      refine hN _ _ ?_
      clear hN
      refine seq_in fun N hN => ?_
      simp [e35, o35, -T_nil, oN, t0]
      refine hN _ _ ?_
      clear hN
      refine seq_in fun N hN => ?_
      simp [e39, o39, -T_nil, oN, t0]
      refine hN _ _ ?_
      clear hN
      refine seq_in fun N hN => ?_
      simp [e40, o40, -T_nil, oN, t0]
      exact z0
    | cons c t =>
      have et : t = L.drop (a + 1) := by
        have := congrArg List.tail hs
        simpa using this
      have tk : (c :: t).take 1 = [c] := rfl
      rw [tk] at o1 ⊢
      unfold rdF at hQ1 hQ2
      refine seq_in fun N hN => ?_
      simp [e126, o126, o1, T_inj]
      by_cases q1 : c = 126
      · rw [if_pos q1] at hQ1 ⊢
        have := hQ1 _ _ rfl
        simp at ls
        rw [show L.length - t.length = a + 1 by omega] at this
        simpa using this
      rw [if_neg q1] at hQ1 hQ2 ⊢
      refine hN _ _ ?_
      clear hN
      refine seq_in fun N hN => ?_
      refine if_in fun S1 S2 hS1 hS2 => ?_
      simp [e35, o35, o1, T_inj]
      by_cases q2 : c = 35
      · rw [if_pos q2] at hQ1 hQ2 ⊢
        refine hS1 _ _ ?_
        clear hN hS1 hS2
        have hQ1' : ∀ v r, intF t = some (v, r) → Q (.val (.int ((L.length - r.length : Nat) : Int))) h := fun v r e => hQ1 (.int v) r (by rw [e]; rfl)
        have hQ2' : intF t = none → Q (.val (.int (-1))) h := fun e => hQ2 (by rw [e]; rfl)
        clear hQ1 hQ2
        refine seq_in fun N hN => ?_
        have p1 : ((a : Int) + 1) = ((a + 1 : Nat) : Int) := by omega
        have p2 : ((a : Int) + 2) = ((a + 2 : Nat) : Int) := by omega
        simp [OptI, lL2]
        rw [p1, p2, cutS_T, show a + 2 - (a + 1) = 1 by omega, ← et]
        have ot : PyData.strOk (T (t.take 1)) = true := by rw [et]; exact dtk _ _
        simp [e45, ot, o45, T_inj]
        refine hN _ _ ?_
        clear hN
        -- the digits' place
        obtain ⟨b, hb⟩ : ∃ b : Nat, b = if t.take 1 = [45] then 1 else 0 := ⟨_, rfl⟩
        have hbi : (if t.take 1 = [45] then (1 : Int) else 0) = (b : Int) := by rw [hb]; split <;> rfl
        have lt : t.length = L.length - (a + 1) := by rw [et, List.length_drop]
        have la : a + 1 + b ≤ L.length := by
          simp at ls
          rw [hb]
          split
          · rename_i z
            have := congrArg List.length z
            simp at this
            omega
          · omega
        have edb : L.drop (a + 1 + b) = t.drop b := by rw [et, List.drop_drop]
        have ei : intF t = match numF 59 (t.drop b) with
            | none => none
            | some (v, r) => if v > 10 ^ 18 ∨ (b = 1 ∧ v = 0) then none else some (if b = 1 then -(v : Int) else v, r) := by
          unfold intF
          by_cases z : t.take 1 = [45]
          · rw [if_pos z] at hb ⊢
            subst hb
            cases numF 59 (t.drop 1) with
            | none => rfl
            | some x => simp
          · rw [if_neg z] at hb ⊢
            subst hb
            rw [List.drop_zero]
            cases numF 59 t with
            | none => rfl
            | some x => simp
        refine seq_in fun N hN => ?_
        simp
        rw [hbi, e59, show ((a : Int) + 1 + (b : Int)) = ((a + 1 + b : Nat) : Int) by omega]
        have bt : (decide (t.take 1 = [45])) = decide (b = 1) := by
          rw [hb]
          split <;> rename_i z <;> simp [z]
        refine nend_ok hl h128 (by decide) la (by decide) (fun v r e => ?_) fun e => ?_
        · rw [edb] at e
          rw [e] at ei
          simp only at ei
          obtain ⟨inv, v20⟩ := numF_inv e
          rw [← edb] at inv
          obtain ⟨i1, i2, i3⟩ := end_eq la inv
          refine ⟨rfl, hN _ _ ?_⟩
          clear hN
          rw [i1]
          have oV : PyData.strOk (T (numL v)) = true := ok_T fun x m => by have := (okc_num m).2.1; omega
          have e48' : (T (numL v) = T [48]) ↔ v = 0 := by
            rw [T_inj]
            constructor
            · intro z
              rw [← numL0] at z
              exact TL.numL_inj z
            · intro z
              rw [z, numL0]
          have cutv : cutS (T L) (some ((a + 1 + b : Nat) : Int)) (some ((a + 1 + b + (numL v).length : Nat) : Int)) = T (numL v) := by
            rw [cutS_T, show a + 1 + b + (numL v).length - (a + 1 + b) = (numL v).length by omega, i3]
          have l20 := TL.numL_len (n := v) (k := 20) (by decide) v20
          have res : ∀ w, intF t = some (w, r) → Q (.val (.int ((a + 1 + b + (numL v).length + 1 : Nat) : Int))) h := fun w z => by
            have := hQ1' w r z
            rwa [show L.length - r.length = a + 1 + b + (numL v).length + 1 by omega] at this
          refine seq_in fun N hN => ?_
          refine if_in fun S1 S2 hS1 hS2 => ?_
          simp [OptI, lL2, e48, o48]
          have cj : ((a : Int) + 1 + (b : Int) + ((numL v).length : Int)) = ((a + 1 + b + (numL v).length : Nat) : Int) := by omega
          have ck : ((a : Int) + 1 + (b : Int)) = ((a + 1 + b : Nat) : Int) := by omega
          have bad : intF t = none → S1 [some (.val (.str (T L))), some (.val (.int (a : Nat))), some (.val (.int d)), some (.val (.str (T [c]))), some (.val (.bl (decide (t.take 1 = [45])))), some (.val (.int ((a + 1 + b + (numL v).length : Nat) : Int))), none, none] h := fun z => by
            refine hS1 _ _ ?_
            simp
            exact hQ2' z
          have good : (∃ w, intF t = some (w, r)) → S2 [some (.val (.str (T L))), some (.val (.int (a : Nat))), some (.val (.int d)), some (.val (.str (T [c]))), some (.val (.bl (decide (t.take 1 = [45])))), some (.val (.int ((a + 1 + b + (numL v).length : Nat) : Int))), none, none] h := fun ⟨w, z⟩ => by
            refine hS2 _ _ ?_
            refine hN _ _ ?_
            simpa using res w z
          clear hS1 hS2 hN
          rw [cj, if_neg (by omega), hbi, ck, cutv]
          have two : ∃ n : Int, PySem.intText? (T (numL v)) = some n ∧ (T (numL v)).length ≤ 640 ∧ (n = v) := ⟨_, int_numL v20, by rw [T_len]; omega, rfl⟩
          obtain ⟨nv, n1, n2, n3⟩ := two
          have tst : ∀ A B : Prop, (v > 10 ^ 18 → A) → (¬ v > 10 ^ 18 → B) → ∃ n, PySem.intText? (T (numL v)) = some n ∧ (T (numL v)).length ≤ 640 ∧ if 1000000000000000000 < n then A else B := fun A B hA hB => by
            refine ⟨nv, n1, n2, ?_⟩
            by_cases z : v > 10 ^ 18
            · rw [if_pos (by omega)]
              exact hA z
            · rw [if_neg (by omega)]
              exact hB z
          by_cases z : t.take 1 = [45]
          · rw [if_pos z] at hb
            subst hb
            rw [if_pos z, show ((a : Int) + 2) = ((a + 1 + 1 : Nat) : Int) by omega, cutv]
            refine ⟨oV, ?_⟩
            by_cases v0 : v = 0
            · rw [if_pos (e48'.mpr v0)]
              exact bad (by rw [ei, if_pos (.inr ⟨rfl, v0⟩)])
            · rw [if_neg fun y => v0 (e48'.mp y)]
              exact tst _ _ (fun y => bad (by rw [ei, if_pos (.inl y)])) fun y => good ⟨_, by rw [ei, if_neg (fun x => x.elim y fun x => v0 x.2)]⟩
          · rw [if_neg z] at hb
            subst hb
            rw [if_neg z]
            exact tst _ _ (fun y => bad (by rw [ei, if_pos (.inl y)])) fun y => good ⟨_, by rw [ei, if_neg (fun x => x.elim y fun x => by cases x.1)]⟩
        · rw [edb] at e
          rw [e] at ei
          refine ⟨rfl, hN _ _ ?_⟩
          clear hN
          refine seq_in fun N hN => ?_
          simp
          exact hQ2' ei
      rw [if_neg q2] at hQ1 hQ2 ⊢
      refine hS2 _ _ ?_
      refine hN _ _ ?_
      clear hN
      clear hS1 hS2
      refine seq_in fun N hN => ?_
      refine if_in fun S1 S2 hS1 hS2 => ?_
      simp [e39, o39, o1, T_inj]
      by_cases q3 : c = 39
      · rw [if_pos q3] at hQ1 hQ2 ⊢
        refine hS1 _ _ ?_
        clear hN hS1 hS2
        refine seq_in fun N hN => ?_
        have la : a + 1 ≤ L.length := by simp at ls; omega
        have p1 : ((a : Int) + 1) = ((a + 1 : Nat) : Int) := by omega
        unfold txtF at hQ1 hQ2
        simp
        rw [e58, p1]
        refine nend_ok hl h128 (by decide) la (by decide) (fun v r e => ?_) fun e => ?_
        · rw [← et] at e
          rw [e] at hQ1 hQ2
          simp only at hQ1 hQ2
          obtain ⟨inv, v20⟩ := numF_inv e
          rw [et] at inv
          obtain ⟨i1, i2, i3⟩ := end_eq la inv
          refine ⟨rfl, hN _ _ ?_⟩
          clear hN
          rw [i1]
          have cutv : cutS (T L) (some ((a + 1 : Nat) : Int)) (some ((a + 1 + (numL v).length : Nat) : Int)) = T (numL v) := by
            rw [cutS_T, show a + 1 + (numL v).length - (a + 1) = (numL v).length by omega, i3]
          have l20 := TL.numL_len (n := v) (k := 20) (by decide) v20
          have lT : (T (numL v)).length ≤ 640 := by rw [T_len]; omega
          have cj : ((a : Int) + 1 + ((numL v).length : Int)) = ((a + 1 + (numL v).length : Nat) : Int) := by omega
          have ei := int_numL v20
          refine seq_in fun N hN => ?_
          refine if_in fun S1 S2 hS1 hS2 => ?_
          simp [OptI, lL2]
          rw [cj, if_neg (by omega), p1, cutv]
          refine ⟨_, ei, lT, ?_⟩
          by_cases z : r.length < v
          · rw [if_pos z] at hQ2
            rw [if_pos (by omega)]
            refine hS1 _ _ ?_
            simp
            exact hQ2 rfl
          · rw [if_neg z] at hQ1
            rw [if_neg (by omega)]
            refine hS2 _ _ ?_
            refine hN _ _ ?_
            clear hS1 hS2 hN hQ2
            refine seq_in fun N hN => ?_
            simp [OptI, lL2]
            rw [cj, p1, cutv]
            refine ⟨_, ei, lT, hN _ _ ?_⟩
            clear hN
            have ce : ((a + 1 + (numL v).length : Nat) : Int) + 1 = ((a + 1 + (numL v).length + 1 : Nat) : Int) := by omega
            have cs : ((a + 1 + (numL v).length + 1 : Nat) : Int) + (v : Int) = ((a + 1 + (numL v).length + 1 + v : Nat) : Int) := by omega
            rw [ce, cs]
            refine seq_in fun N hN => ?_
            simp [OptI, lL2]
            have ce2 : ((a : Int) + 1 + ((numL v).length : Int) + 1) = ((a + 1 + (numL v).length + 1 : Nat) : Int) := by omega
            have cs2 : ((a : Int) + 1 + ((numL v).length : Int) + 1 + (v : Int)) = ((a + 1 + (numL v).length + 1 + v : Nat) : Int) := by omega
            rw [cs2, ce2, cutS_T, signs_T]
            have mem : ∀ x ∈ (L.drop (a + 1 + (numL v).length + 1)).take (a + 1 + (numL v).length + 1 + v - (a + 1 + (numL v).length + 1)), okc x := fun x mx => hc x (List.mem_of_mem_drop (List.mem_of_mem_take mx))
            refine sg_loop _ rfl _ _ _ mem fun w => hN _ _ ?_
            clear hN
            simp
            have := hQ1 _ _ rfl
            rw [List.length_drop] at this
            rw [cs2, show a + 1 + (numL v).length + 1 + v = L.length - (r.length - v) by omega]
            exact this
        · rw [← et] at e
          rw [e] at hQ2
          refine ⟨rfl, hN _ _ ?_⟩
          clear hN
          refine seq_in fun N hN => ?_
          simp
          exact hQ2 rfl
      rw [if_neg q3] at hQ1 hQ2 ⊢
      refine hS2 _ _ ?_
      refine hN _ _ ?_
      clear hN hS1 hS2
      refine seq_in fun N hN => ?_
      simp [e40, o40, o1, T_inj]
      by_cases q4 : c ≠ 40 ∨ k = 0
      · rw [if_pos q4] at hQ2
        have z0 := hQ2 rfl
        by_cases q5 : c = 40
        · have : k = 0 := q4.elim (fun z => absurd q5 z) id
          rw [if_pos q5, if_pos (by omega)]
          exact z0
        · rw [if_neg q5]
          exact z0
      rw [if_neg q4] at hQ1 hQ2
      have q5 : c = 40 := Classical.byContradiction fun z => q4 (.inl z)
      have q6 : k ≠ 0 := fun z => q4 (.inr z)
      rw [if_pos q5, if_neg (by omega)]
      refine hN _ _ ?_
      clear hN
      obtain ⟨k, rfl⟩ : ∃ j, k = j + 1 := ⟨k - 1, by omega⟩
      have hQ1' : ∀ p r, itF (rdF (k + 1)) (t.length + 1) [] t = some (p, r) → Q (.val (.int ((L.length - r.length : Nat) : Int))) h := hQ1
      have hQ2' : itF (rdF (k + 1)) (t.length + 1) [] t = none → Q (.val (.int (-1))) h := hQ2
      clear hQ1 hQ2
      generalize hR : itF (rdF (k + 1)) (t.length + 1) [] t = R at hQ1' hQ2'
      refine seq_in fun N hN => ?_
      simp
      refine hN _ _ ?_
      clear hN
      have la : a + 1 ≤ L.length := by simp at ls; omega
      refine seq_in fun N hN => ?_
      refine ⟨fun n env h' => ∃ (i : Nat) (acc : List PV) (f : Nat), env = [some (.val (.str (T L))), some (.val (.int (i : Nat))), some (.val (.int d)), some (.val (.str (T [c]))), none, none, none, none] ∧ h' = h ∧ i ≤ L.length ∧ itF (rdF (k + 1)) f acc (L.drop i) = R ∧ (L.drop i).length < f ∧ n = L.length - i, ⟨_, a + 1, [], _, by simp, rfl, la, by rw [← et]; exact hR, by rw [← et]; exact Nat.lt_succ_self _, rfl⟩, ?_⟩
      rintro n env h' ⟨i, acc, f, rfl, rfl, li, eR, lf, rfl⟩
      obtain ⟨f, rfl⟩ : ∃ g, f = g + 1 := ⟨f - 1, by omega⟩
      rw [itF] at eR
      simp [OptI, lL2, cut1, e41, o41, dtk, T_inj]
      by_cases q8 : (L.drop i).take 1 = [41]
      · rw [if_pos q8] at eR ⊢
        refine hN _ _ ?_
        clear hN
        simp
        have := hQ1' _ _ eR.symm
        have l1 := congrArg List.length q8
        simp at l1
        simp at this
        rw [show L.length - (L.length - (i + 1)) = i + 1 by omega] at this
        simpa using this
      · rw [if_neg q8] at eR ⊢
        clear hN
        refine lend_ok hl hc m k li (by omega) (by omega) (by omega) (fun p r e => ?_) fun e => ?_
        · rw [e] at eR
          simp only at eR
          obtain ⟨s1, s2⟩ := rdF_suf e
          rw [List.length_drop] at s2
          have sd := suf_drop (s1.trans (List.drop_suffix i L))
          refine ⟨rfl, ?_⟩
          show if ((L.length - r.length : Nat) : Int) < 0 then _ else _
          rw [if_neg (by omega)]
          refine ⟨_, ?_, L.length - r.length, rfl, rfl, by omega, acc ++ [p], f, by rw [sd]; exact eR, by rw [List.length_drop] at lf; omega, rfl⟩
          omega
        · rw [e] at eR
          simp
          exact hQ2' eR.symm
end PM

namespace PM
open PySem PySem.Spec L2
open PyProof.Rows hiding St
def rng (c : Nat) : Prop := 32 ≤ c ∧ c ≤ 126
theorem g1_loop {h : Hs} {e0 e2 e3 : Option SV} (b : DS) (hb : b = (sIf (dOr (dTst (dOp gLt (dVar 1) (dC (.int 32)))) (dTst (dOp gGt (dVar 1) (dC (.int 126))))) (sRet (dC (.bl false))) sNil)) (D : DEnds) (c : Hs → Prop) (hc : c h) : ∀ (l : List Nat) (w : Option SV), ((∀ c ∈ l, rng c) → ∀ w, D.nx [e0, w, e2, e3] h) → ((¬ ∀ c ∈ l, rng c) → D.rt (.val (.bl false)) h) → forL c (bName 1) b D (osP l) [e0, w, e2, e3] h := by
  intro l
  induction l with
  | nil =>
    intro w hz _
    rw [osP, List.map_nil, forL_nil]
    exact ⟨hc, hz (by simp) w⟩
  | cons x l ih =>
    intro w hz hf
    rw [osP, List.map_cons, forL_cons]
    refine ⟨hc, ?_⟩
    have nx : rng x → forL c (bName 1) b D (osP l) [e0, some (.val (.int x)), e2, e3] h := fun r => ih (some (.val (.int x))) (fun z => hz fun y m => by
      rcases List.mem_cons.mp m with rfl | m
      · exact r
      · exact z y m) fun z => hf fun y => z fun d m => y d (List.mem_cons_of_mem _ m)
    rw [osP] at nx
    generalize forL c (bName 1) b D (l.map fun (c : Nat) => PV.int (c : Int)) = F at nx ⊢
    subst hb
    by_cases r : rng x
    · have n1 : ¬ (x : Int) < 32 := by have := r.1; omega
      have n2 : ¬ (126 : Int) < (x : Int) := by have := r.2; omega
      simp [n1, n2]
      exact nx r
    · have z := hf fun y => r (y x List.mem_cons_self)
      by_cases n1 : (x : Int) < 32
      · simp [n1]
        exact z
      · have n2 : (126 : Int) < (x : Int) := by
          have : ¬ (32 ≤ x ∧ x ≤ 126) := r
          omega
        simp [n1, n2]
        exact z
abbrev sgs : Str := Txt.join (Str.ofString "") [Str.ofString " !\"#$" ++ Str.ofString "p" ++ Str.ofString "&'()*+,-./0123456789:;<=>?@ABCDEFGHIJKLMNOPQRSTUVWXYZ[\\]^_`abcdefghijklmnopqrstuvwxyz{|}~"]
theorem sgs_at : ∀ k : Fin 95, k.val ≠ 5 → sgs.cps.toList[k.val]? = some (32 + k.val) := by decide +kernel
theorem sgs_len : sgs.length = 95 := by decide +kernel
theorem g2_loop {h : Hs} {e0 : Option SV} (b : DS) (hb : b = (sSeq (sIf (dTst (dOp gEq (dVar 1) (dC (.int 37)))) (sRet (dC (.bl false))) sNil)
  (sAsg 3 (dOp gAdd (dVar 3) (dOp gIx (dVar 2) (dOp gSub (dVar 1) (dC (.int 32)))))))) (D : DEnds) (c : Hs → Prop) (hc : c h) : ∀ (l acc : List Nat) (w : Option SV), (∀ c ∈ l, rng c) → acc.length + l.length ≤ 1000000 → ((∀ c ∈ l, okc c) → ∀ w, D.nx [e0, w, some (.val (.str sgs)), some (.val (.str (T (acc ++ l))))] h) → ((¬ ∀ c ∈ l, okc c) → D.rt (.val (.bl false)) h) → forL c (bName 1) b D (osP l) [e0, w, some (.val (.str sgs)), some (.val (.str (T acc)))] h := by
  intro l
  induction l with
  | nil =>
    intro acc w _ _ hz _
    rw [osP, List.map_nil, forL_nil]
    refine ⟨hc, ?_⟩
    have := hz (by simp) w
    rwa [List.append_nil] at this
  | cons x l ih =>
    intro acc w hr hl hz hf
    rw [osP, List.map_cons, forL_cons]
    refine ⟨hc, ?_⟩
    simp at hl
    have rx := hr x List.mem_cons_self
    have nx : okc x → forL c (bName 1) b D (osP l) [e0, some (.val (.int x)), some (.val (.str sgs)), some (.val (.str (T (acc ++ [x]))))] h := fun r => ih (acc ++ [x]) (some (.val (.int x))) (fun y m => hr y (List.mem_cons_of_mem _ m)) (by simp; omega) (fun z w => by
      have := hz (fun y m => by
        rcases List.mem_cons.mp m with rfl | m
        · exact r
        · exact z y m) w
      rw [List.append_assoc]
      exact this) fun z => hf fun y => z fun d m => y d (List.mem_cons_of_mem _ m)
    rw [osP] at nx
    generalize forL c (bName 1) b D (l.map fun (c : Nat) => PV.int (c : Int)) = F at nx ⊢
    subst hb
    have s1 : sgs.length ≤ sizeLine := by rw [sgs_len]; exact szL (by decide)
    by_cases r : x = 37
    · have z := hf fun y => (y x List.mem_cons_self).2.2 r
      subst r
      simp
      exact z
    · have ox : okc x := ⟨rx.1, rx.2, r⟩
      have n1 : ¬ (x : Int) = 37 := by omega
      have at' := sgs_at ⟨x - 32, by have := rx.2; omega⟩ (by show x - 32 ≠ 5; have := rx.1; omega)
      rw [show 32 + (x - 32) = x by have := rx.1; omega] at at'
      have e : ((x : Int) - 32) = ((x - 32 : Nat) : Int) := by have := rx.1; omega
      have l1 : ({ cps := #[x] } : Str).length = 1 := rfl
      refine seq_in fun N hN => ?_
      simp [n1]
      refine hN _ _ ?_
      clear hN
      simp [s1]
      rw [e]
      refine ⟨x, by rw [atI_nat']; exact at', ?_⟩
      rw [l1]
      refine ⟨szM (by omega), ?_⟩
      have := nx ox
      rwa [T_one, T_app]
theorem good_ok {h : Hs} {Q : VQ} {E : XQ} {os : List Nat} (hl : os.length ≤ 1000000) (hQ : Q (.val (.bl (upF os).isSome)) h) : d_law_good [.brw (osP os)] h Q E := by
  have bad : (¬ ∀ c ∈ os, okc c) → Q (.val (.bl false)) h := fun z => by
    have : upF os = none := by
      unfold upF
      rw [if_neg fun y => z fun c m => of_decide_eq_true (List.all_eq_true.mp y c m)]
    rw [this] at hQ
    exact hQ
  unfold d_law_good d_law_good_b dDef
  refine ⟨rfl, ?_⟩
  refine seq_in fun N hN => ?_
  simp
  refine g1_loop _ rfl _ _ trivial os none (fun hr w => hN _ _ ?_) (fun z => bad fun y => z fun c m => ⟨(y c m).1, (y c m).2.1⟩)
  clear hN
  refine seq_in fun N hN => ?_
  simp
  have a1 : (Str.ofString " !\"#$").length + (Str.ofString "p").length ≤ sizeLine := szL (by decide +kernel)
  have a2 : (Str.ofString " !\"#$" ++ Str.ofString "p").length + (Str.ofString "&'()*+,-./0123456789:;<=>?@ABCDEFGHIJKLMNOPQRSTUVWXYZ[\\]^_`abcdefghijklmnopqrstuvwxyz{|}~").length ≤ sizeLine := szL (by decide +kernel)
  have a3 : JoinFits (Str.ofString "") [Str.ofString " !\"#$" ++ Str.ofString "p" ++ Str.ofString "&'()*+,-./0123456789:;<=>?@ABCDEFGHIJKLMNOPQRSTUVWXYZ[\\]^_`abcdefghijklmnopqrstuvwxyz{|}~"] := by
    unfold JoinFits
    decide +kernel
  refine ⟨a1, a2, szL (by decide), a3, hN _ _ ?_⟩
  clear hN
  show sSeq _ _ _ [some (SV.brw (osP os)), w, some (.val (.str sgs)), none] h
  refine seq_in fun N hN => ?_
  simp
  rw [← T_nil]
  refine hN _ _ ?_
  clear hN
  refine seq_in fun N hN => ?_
  simp
  rw [← T_nil]
  refine g2_loop _ rfl _ _ trivial os [] w hr (by simp; omega) (fun ho w => hN _ _ ?_) bad
  clear hN
  rw [List.nil_append]
  have eu : upF os = match rdF 31 os with
      | some (p, []) => some p
      | _ => none := by
    unfold upF
    exact if_pos (List.all_eq_true.mpr fun c m => decide_eq_true (ho c m))
  have lz : os.length ≤ sizeLine := szM (by omega)
  simp
  refine lend_ok hl ho 40 30 (a := 0) (by omega) (by decide) (by omega) (by omega) (fun p r e => ?_) fun e => ?_
  · rw [List.drop_zero] at e
    simp [lz]
    have ex : (upF os).isSome = decide (((os.length - r.length : Nat) : Int) = (os.length : Int)) := by
      rw [eu, e]
      obtain ⟨s1, s2⟩ := rdF_suf e
      cases r with
      | nil => simp
      | cons x r =>
        simp
        have := s1.length_le
        simp at this
        omega
    rw [ex] at hQ
    exact hQ
  · rw [List.drop_zero] at e
    simp [lz]
    have ex : (upF os).isSome = false := by rw [eu, e]; rfl
    rw [ex] at hQ
    have : ¬ (-1 : Int) = (os.length : Int) := by omega
    exact hQ
end PM

namespace PM
open PySem PySem.Spec L2
open PyProof.Rows hiding St
theorem upF_inv {os : List Nat} {p : PV} (e : upF os = some p) : Gd 30 p ∧ ln p = os := by
  unfold upF at e
  split at e
  · split at e
    · rename_i q h
      cases e
      obtain ⟨g, l⟩ := rdF_inv h
      exact ⟨g, by rw [l, List.append_nil]⟩
    · cases e
  · cases e
theorem law_den (CE CM CO C : Addr) (ns : List Int) (hl : ns.length ≤ 63) : d_law CE CM CO C [.scr ns] [] (fun sv _ => sv = .val (.bl true)) fun _ _ => False := by
  have s1 : 1 ≤ sizeLine := szL (by decide)
  unfold d_law d_law_b dDef
  refine ⟨rfl, ?_⟩
  refine seq_in fun N hN => ?_
  simp
  refine forL_inv (fun j env h => ∃ (w1 w2 w3 w4 w5 w6 : Option SV), env = [some (.scr ns), w1, w2, w3, w4, w5, w6, none]) _ 0 _ _ ⟨_, _, _, _, _, _, rfl⟩ ?_ ?_
  · rintro i x e env h ⟨w1, w2, w3, w4, w5, w6, rfl⟩ M hM
    obtain ⟨hi, rfl⟩ := rangeP_get e
    refine ⟨trivial, ?_⟩
    refine seq_in fun N hN => ?_
    simp
    refine number_ok fun v => ?_
    simp
    refine ⟨s1, hN _ _ ?_⟩
    clear hN
    have B0 := B_new (h := h) (b := v)
    generalize h ++ [Cell.lst [PV.int v]] = h1 at B0
    refine seq_in fun N hN => ?_
    simp
    refine data_ok (d := 0) 40 4 (by omega) (by omega) B0 fun p h2 gp B2 => ?_
    have lp : (ln p).length ≤ 20000 := Nat.le_trans gp.len (by decide)
    have gd := gp.gd
    simp
    rw [pack_eq gd (by omega) (by omega)]
    simp
    refine number_ok fun w => ?_
    simp
    refine ⟨s1, ?_⟩
    have oc : Oc (ln p) := fun c m => by have := (gp.okc c m).2.1; omega
    have ne : ln p ≠ [] := by
      obtain ⟨c, t, e, _⟩ := ln_head gd
      rw [e]
      exact fun z => by cases z
    refine bent_ok B_new oc ne (by omega) fun os h3 oo lo => ?_
    simp
    refine hN _ _ ?_
    clear hN
    refine seq_in fun N hN => ?_
    simp
    refine hN _ _ ?_
    clear hN
    refine seq_in fun N hN => ?_
    simp
    refine good_ok (by omega) ?_
    simp
    refine hN _ _ ?_
    clear hN
    refine seq_in fun N hN => ?_
    have fin : ∀ w6 h', N [some (.scr ns), some (.val (.int i)), some (.val (.ref h.length)), some (.own (osP os)), some (.own (osP os)), some (.val (.bl (upF os).isSome)), w6, none] h' := fun w6 h' => by
      refine hN _ _ ?_
      simp [okD_os', pyEq_os]
      exact hM _ _ ⟨_, _, _, _, _, _, rfl⟩
    clear hN
    rw [sTryAs_eq]
    refine seq_in fun N2 hN2 => ?_
    simp
    refine unpack_any (by omega) (fun q x e => ?_) fun e => ?_
    · obtain ⟨gq, lq⟩ := upF_inv e
      refine ⟨rfl, hN2 _ _ ?_⟩
      clear hN2
      rw [e] at fin ⊢
      simp
      rw [pack_eq gq (by omega) (by rw [lq]; omega), lq]
      simp [okD_os', pyEq_os]
      exact fin _ _
    · clear hN2
      rw [e] at fin ⊢
      have t1 : tbl [(CM, true)] CM = some true := by simp [tbl]
      have t2 : tbl [(CM, false)] CM = some false := by simp [tbl]
      simp [t1, t2]
      exact ⟨fin _ _, fun x => fin _ _⟩
  · rintro env h ⟨w1, w2, w3, w4, w5, w6, rfl⟩
    refine ⟨trivial, hN _ _ ?_⟩
    simp
end PM

namespace PM
open PySem PySem.Spec L2
open PyProof.Rows hiding St
structure Txt (K : PySem.W.Frag) (mg : Str → Option Value) : Prop where
  n_ValueError : mg "ValueError" = none
  n_any : mg "any" = none
  n_int : mg "int" = none
  n_isinstance : mg "isinstance" = none
  n_len : mg "len" = none
  n_list : mg "list" = none
  n_ord : mg "ord" = none
  n_range : mg "range" = none
  n_str : mg "str" = none
  n_tuple : mg "tuple" = none
  c_MOST_DEPTH : GC K mg "MOST_DEPTH" c_MOST_DEPTH
  c_MOST_INTEGER : GC K mg "MOST_INTEGER" c_MOST_INTEGER
  c_DIGITS : GC K mg "DIGITS" c_DIGITS
  c_LOW_SIGNS : GC K mg "LOW_SIGNS" c_LOW_SIGNS
  c_HIGH_SIGNS : GC K mg "HIGH_SIGNS" c_HIGH_SIGNS
  c_FIRST_LOW : GC K mg "FIRST_LOW" c_FIRST_LOW
  c_FIRST_HIGH : GC K mg "FIRST_HIGH" c_FIRST_HIGH
def topS (i : Nat) : Stmt := PySem.Challenge.pw_partmeet_k09_malformed_packs.main.body.getD i (.Pass ⟨0, 0, 0, 0⟩)
def methS (i j : Nat) : Stmt := match topS i with
  | .ClassDef _ _ _ body _ _ _ _ _ _ _ => body.getD j (.Pass ⟨0, 0, 0, 0⟩)
  | _ => .Pass ⟨0, 0, 0, 0⟩
structure ErrX (K : PySem.W.Frag) (mg : Str → Option Value) (C_MeetError C_Malformed C_OutOfRange : Addr) : Prop where
  g_MeetError : mg "MeetError" = some (.ref C_MeetError)
  g_Malformed : mg "Malformed" = some (.ref C_Malformed)
  g_OutOfRange : mg "OutOfRange" = some (.ref C_OutOfRange)
  e_Malformed : ErrAt K mg "Malformed" C_Malformed
  c_Malformed : ExcC K C_Malformed
  x_Malformed_MeetError : PySem.W.exmOne K (.ref C_Malformed) (.ref C_MeetError) = some true
  k_Malformed_Malformed : PySem.W.kitOne K (.ref C_Malformed) (.ref C_Malformed) = some true
  k_Malformed_OutOfRange : PySem.W.kitOne K (.ref C_Malformed) (.ref C_OutOfRange) = some false
  k_Malformed_ValueError : PySem.W.kitOne K (.ref C_Malformed) (.type "ValueError") = some true
structure ClF_Reader (K : PySem.W.Frag) (C : Addr) : Prop where
  cl : Cls K C
  na_at : NoAttr K C "at"
  na_line : NoAttr K C "line"
abbrev s_Reader___init__ : Stmt := methS 14 0
abbrev N_Reader___init__ : List Str := ["self", "line"]
theorem sc_Reader___init__ : FnScope N_Reader___init__ ["self", "line"] (defScope s_Reader___init__) := ⟨rfl, rfl, rfl, by decide +kernel, rfl, by decide +kernel, by decide +kernel⟩
abbrev s_Reader_look : Stmt := methS 14 1
abbrev N_Reader_look : List Str := ["self"]
theorem sc_Reader_look : FnScope N_Reader_look ["self"] (defScope s_Reader_look) := ⟨rfl, rfl, rfl, by decide +kernel, rfl, by decide +kernel, by decide +kernel⟩
abbrev s_sign_of : Stmt := topS 15
abbrev N_sign_of : List Str := ["octet"]
theorem sc_sign_of : FnScope N_sign_of ["octet"] (defScope s_sign_of) := ⟨rfl, rfl, rfl, by decide +kernel, rfl, by decide +kernel, by decide +kernel⟩
abbrev s_law_number : Stmt := topS 18
abbrev N_law_number : List Str := ["_law_script", "_law_k", "_law_cell", "_law_first", "_law_second"]
theorem sc_law_number : FnScope N_law_number ["_law_script", "_law_k"] (defScope s_law_number) := ⟨rfl, rfl, rfl, by decide +kernel, rfl, by decide +kernel, by decide +kernel⟩
abbrev s_law_take : Stmt := topS 19
abbrev N_law_take : List Str := ["_law_box", "_law_size", "_law_digit"]
theorem sc_law_take : FnScope N_law_take ["_law_box", "_law_size"] (defScope s_law_take) := ⟨rfl, rfl, rfl, by decide +kernel, rfl, by decide +kernel, by decide +kernel⟩
abbrev s_law_number_end : Stmt := topS 21
abbrev N_law_number_end : List Str := ["_law_line", "_law_at", "_law_stop", "_law_end_here", "_law_digits"]
theorem sc_law_number_end : FnScope N_law_number_end ["_law_line", "_law_at", "_law_stop"] (defScope s_law_number_end) := ⟨rfl, rfl, rfl, by decide +kernel, rfl, by decide +kernel, by decide +kernel⟩
abbrev s_Reader_take : Stmt := methS 14 2
abbrev N_Reader_take : List Str := ["self", "sign"]
theorem sc_Reader_take : FnScope N_Reader_take ["self"] (defScope s_Reader_take) := ⟨rfl, rfl, rfl, by decide +kernel, rfl, by decide +kernel, by decide +kernel⟩
abbrev s_law_bent : Stmt := topS 24
abbrev N_law_bent : List Str := ["_law_octets", "_law_box", "_law_kind", "_law_at", "_law_strange", "_law_deep", "_law_digits", "_law_sign", "_law_k"]
theorem sc_law_bent : FnScope N_law_bent ["_law_octets", "_law_box"] (defScope s_law_bent) := ⟨rfl, rfl, rfl, by decide +kernel, rfl, by decide +kernel, by decide +kernel⟩
abbrev s_Reader_take_until : Stmt := methS 14 3
abbrev N_Reader_take_until : List Str := ["self", "stop", "found", "sign"]
theorem sc_Reader_take_until : FnScope N_Reader_take_until ["self", "stop"] (defScope s_Reader_take_until) := ⟨rfl, rfl, rfl, by decide +kernel, rfl, by decide +kernel, by decide +kernel⟩
abbrev s_Reader_number : Stmt := methS 14 4
abbrev N_Reader_number : List Str := ["self", "stop", "digits", "value", "sign"]
theorem sc_Reader_number : FnScope N_Reader_number ["self", "stop"] (defScope s_Reader_number) := ⟨rfl, rfl, rfl, by decide +kernel, rfl, by decide +kernel, by decide +kernel⟩
abbrev s_Reader_integer : Stmt := methS 14 5
abbrev N_Reader_integer : List Str := ["self", "below", "value"]
theorem sc_Reader_integer : FnScope N_Reader_integer ["self"] (defScope s_Reader_integer) := ⟨rfl, rfl, rfl, by decide +kernel, rfl, by decide +kernel, by decide +kernel⟩
abbrev s_Reader_text : Stmt := methS 14 6
abbrev N_Reader_text : List Str := ["self", "count", "found"]
theorem sc_Reader_text : FnScope N_Reader_text ["self"] (defScope s_Reader_text) := ⟨rfl, rfl, rfl, by decide +kernel, rfl, by decide +kernel, by decide +kernel⟩
abbrev s_line_of : Stmt := topS 12
abbrev N_line_of : List Str := ["data", "one"]
theorem sc_line_of : FnScope N_line_of ["data"] (defScope s_line_of) := ⟨rfl, rfl, rfl, by decide +kernel, rfl, by decide +kernel, by decide +kernel⟩
abbrev s_pack : Stmt := topS 13
abbrev N_pack : List Str := ["data", "sign"]
theorem sc_pack : FnScope N_pack ["data"] (defScope s_pack) := ⟨rfl, rfl, rfl, by decide +kernel, rfl, by decide +kernel, by decide +kernel⟩
abbrev s_law_data : Stmt := topS 20
abbrev N_law_data : List Str := ["_law_box", "_law_depth", "_law_kind", "_law_k"]
theorem sc_law_data : FnScope N_law_data ["_law_box", "_law_depth"] (defScope s_law_data) := ⟨rfl, rfl, rfl, by decide +kernel, rfl, by decide +kernel, by decide +kernel⟩
abbrev s_law_end : Stmt := topS 22
abbrev N_law_end : List Str := ["_law_line", "_law_at", "_law_depth", "_law_sign", "_law_below", "_law_end_here", "_law_stop", "_law_one"]
theorem sc_law_end : FnScope N_law_end ["_law_line", "_law_at", "_law_depth"] (defScope s_law_end) := ⟨rfl, rfl, rfl, by decide +kernel, rfl, by decide +kernel, by decide +kernel⟩
abbrev s_law_good : Stmt := topS 23
abbrev N_law_good : List Str := ["_law_octets", "_law_octet", "_law_signs", "_law_line"]
theorem sc_law_good : FnScope N_law_good ["_law_octets"] (defScope s_law_good) := ⟨rfl, rfl, rfl, by decide +kernel, rfl, by decide +kernel, by decide +kernel⟩
abbrev s_Reader_data : Stmt := methS 14 7
abbrev N_Reader_data : List Str := ["self", "depth", "sign", "found"]
theorem sc_Reader_data : FnScope N_Reader_data ["self", "depth"] (defScope s_Reader_data) := ⟨rfl, rfl, rfl, by decide +kernel, rfl, by decide +kernel, by decide +kernel⟩
abbrev s_unpack : Stmt := topS 16
abbrev N_unpack : List Str := ["octets", "reader", "data", "octet"]
theorem sc_unpack : FnScope N_unpack ["octets"] (defScope s_unpack) := ⟨rfl, rfl, rfl, by decide +kernel, rfl, by decide +kernel, by decide +kernel⟩
abbrev s_law : Stmt := topS 25
abbrev N_law : List Str := ["_law_script", "_law_k", "_law_box", "_law_octets", "_law_given", "_law_good_here", "_law_data_here", "e"]
theorem sc_law : FnScope N_law ["_law_script"] (defScope s_law) := ⟨rfl, rfl, rfl, by decide +kernel, rfl, by decide +kernel, by decide +kernel⟩
section
variable {P : Program} {w : World} {K : PySem.W.Frag} {mg : Str → Option Value} {base : Heap}
theorem fa_Reader___init__ {C_Reader : Addr} (T : Txt K mg) (D : MakeDef K mg "Reader" C_Reader "Reader.__init__" s_Reader___init__ ["self", "line"]) (Q_Reader : ClF_Reader K C_Reader) : MakeAt P w K mg base 1 "Reader" C_Reader 2 (d_Reader___init__ C_Reader) :=
  MakeAt.mk' (N := N_Reader___init__) D sc_Reader___init__ fun f cdv A outer s H E hr =>
  psd_cons (psd_fld Q_Reader.cl Q_Reader.na_line (pd_var 0) (pd_var 1))
  (psd_one (psd_fld Q_Reader.cl Q_Reader.na_at (pd_var 0) pd_int))
theorem fa_Reader_look {C_Reader : Addr} (T : Txt K mg) (D : MethDef K C_Reader "look" "Reader.look" s_Reader_look ["self"]) (Q_Reader : ClF_Reader K C_Reader) : MethAt P w K mg base 1 C_Reader "look" 1 (d_Reader_look C_Reader) :=
  MethAt.mk' (N := N_Reader_look) D sc_Reader_look fun f cdv A outer s H E hr =>
  psd_one (psd_ret (pd_sl (pd_fld Q_Reader.cl Q_Reader.na_line (pd_var 0)) (pod_some (pd_fld Q_Reader.cl Q_Reader.na_at (pd_var 0))) (pod_some (pd_add (pd_fld Q_Reader.cl Q_Reader.na_at (pd_var 0)) pd_int))))
theorem fa_sign_of {C_Malformed C_MeetError C_OutOfRange : Addr} (T : Txt K mg) (D : DefAt K mg "sign_of" s_sign_of ["octet"]) (EX : ErrX K mg C_MeetError C_Malformed C_OutOfRange) : FnAtX P w K mg base 1 "sign_of" 1 (d_sign_of C_Malformed) :=
  FnAtX.mk' (N := N_sign_of) D sc_sign_of fun f cdv A outer s H E hr =>
  psd_cons (psd_if (ptd_chain cd_le cd_lt (pd_glob T.c_FIRST_LOW) (pd_var 0) (pd_add (pd_glob T.c_FIRST_LOW) (pd_len T.n_len (pad_cons (pd_glob T.c_LOW_SIGNS) pad_nil)))) (psd_one (psd_ret (pd_ix (pd_glob T.c_LOW_SIGNS) (pd_sub (pd_var 0) (pd_glob T.c_FIRST_LOW))))) psd_nil)
  (psd_cons (psd_if (ptd_chain cd_le cd_lt (pd_glob T.c_FIRST_HIGH) (pd_var 0) (pd_add (pd_glob T.c_FIRST_HIGH) (pd_len T.n_len (pad_cons (pd_glob T.c_HIGH_SIGNS) pad_nil)))) (psd_one (psd_ret (pd_ix (pd_glob T.c_HIGH_SIGNS) (pd_sub (pd_var 0) (pd_glob T.c_FIRST_HIGH))))) psd_nil)
  (psd_one (psd_raise EX.e_Malformed takesR)))
theorem fa_law_number (T : Txt K mg) (D : DefAt K mg "_law_number" s_law_number ["_law_script", "_law_k"]) : FnAt P w K mg base 1 "_law_number" 2 d_law_number :=
  FnAt.mk' (N := N_law_number) D sc_law_number fun f cdv A outer s H E hr =>
  psd_cons (psd_set 2 pd_int sc_law_number.nd)
  (psd_cons (psd_if (ptd_cmp cd_gt (pd_len T.n_len (pad_cons (pd_var 0) pad_nil)) pd_int) (psd_one (psd_set 2 (pd_ix (pd_var 0) (pd_mod (pd_int1 T.n_int (pad_cons (pd_var 1) pad_nil)) (pd_len T.n_len (pad_cons (pd_var 0) pad_nil)))) sc_law_number.nd)) psd_nil)
  (psd_cons (psd_if (ptd_cmp cd_lt (pd_var 2) pd_int) (psd_one (psd_set 2 (pd_sub pd_int (pd_mulX pd_int (pd_var 2))) sc_law_number.nd)) psd_nil)
  (psd_cons (psd_if (PWd.pt (pwd_and (ptd_cmp cd_ge (pd_var 2) (pd_pow pd_int pd_int)) (pwd_and1 (ptd_cmp cd_lt (pd_var 1) (pd_len T.n_len (pad_cons (pd_var 0) pad_nil)))))) (psd_one (psd_retV 2)) psd_nil)
  (psd_cons (psd_set 3 (pd_mod (pd_int1 T.n_int (pad_cons (pd_add (pd_mulX (pd_add (pd_var 2) pd_int) pd_int) (pd_mulX (pd_add (pd_var 1) pd_int) pd_int)) pad_nil)) pd_int) sc_law_number.nd)
  (psd_cons (psd_set 4 (pd_mod (pd_int1 T.n_int (pad_cons (pd_add (pd_add (pd_mulX (pd_add (pd_var 3) pd_int) pd_int) (pd_mulX (pd_add (pd_var 2) pd_int) pd_int)) (pd_var 1)) pad_nil)) pd_int) sc_law_number.nd)
  (psd_one (psd_ret (pd_mod (pd_int1 T.n_int (pad_cons (pd_add (pd_add (pd_mulX (pd_var 3) pd_int) (pd_mulX (pd_var 4) pd_int)) (pd_var 2)) pad_nil)) pd_int))))))))
theorem fa_law_take (T : Txt K mg) (D : DefAt K mg "_law_take" s_law_take ["_law_box", "_law_size"]) : FnAt P w K mg base 1 "_law_take" 2 d_law_take :=
  FnAt.mk' (N := N_law_take) D sc_law_take fun f cdv A outer s H E hr =>
  psd_cons (psd_set 2 (pd_mod (pd_int1 T.n_int (pad_cons (pd_ix (pd_var 0) pd_int) pad_nil)) (pd_var 1)) sc_law_take.nd)
  (psd_cons (psd_setE (pd_var 0) pd_int (pd_fdiv (pd_ix (pd_var 0) pd_int) (pd_var 1)))
  (psd_one (psd_retV 2)))
theorem fa_law_number_end (T : Txt K mg) (D : DefAt K mg "_law_number_end" s_law_number_end ["_law_line", "_law_at", "_law_stop"]) : FnAt P w K mg base 1 "_law_number_end" 3 d_law_number_end :=
  FnAt.mk' (N := N_law_number_end) D sc_law_number_end fun f cdv A outer s H E hr =>
  psd_cons (psd_set 3 (pd_var 1) sc_law_number_end.nd)
  (psd_cons (psd_while PassesOwn.never (PWd.pt (pwd_and (ptd_cmp cd_lt (pd_var 3) (pd_len T.n_len (pad_cons (pd_var 0) pad_nil))) (pwd_and (ptd_cmp (cd_in (u65 hr)) (pd_ix (pd_var 0) (pd_var 3)) pd_str) (pwd_and1 (ptd_cmp cd_lt (pd_sub (pd_var 3) (pd_var 1)) pd_int))))) (psd_one (psd_set 3 (pd_add (pd_var 3) pd_int) sc_law_number_end.nd)))
  (psd_cons (psd_set 4 (pd_sl (pd_var 0) (pod_some (pd_var 1)) (pod_some (pd_var 3))) sc_law_number_end.nd)
  (psd_cons (psd_if (PWd.pt (pwd_or (ptd_cmp (cd_eq (u65 hr)) (pd_var 4) pd_str) (pwd_or (ptd_cmp (cd_ne (u65 hr)) (pd_sl (pd_var 0) (pod_some (pd_var 3)) (pod_some (pd_add (pd_var 3) pd_int))) (pd_var 2)) (pwd_or1 (PWd.pt (pwd_and (ptd_cmp cd_gt (pd_len T.n_len (pad_cons (pd_var 4) pad_nil)) pd_int) (pwd_and1 (ptd_cmp (cd_eq (u65 hr)) (pd_ix (pd_var 4) pd_int) pd_str)))))))) (psd_one (psd_ret (pd_neg pd_int))) psd_nil)
  (psd_one (psd_retV 3)))))
theorem fa_Reader_take {C_Malformed C_Reader C_MeetError C_OutOfRange : Addr} (T : Txt K mg) (D : MethDef K C_Reader "take" "Reader.take" s_Reader_take ["self"]) (Q_Reader : ClF_Reader K C_Reader) (EX : ErrX K mg C_MeetError C_Malformed C_OutOfRange) (F_Reader_look : MethAt P w K mg base 1 C_Reader "look" 1 (d_Reader_look C_Reader)) : MethAtX P w K mg base 2 C_Reader "take" 1 (d_Reader_take C_Malformed C_Reader) :=
  MethAtX.mk' (N := N_Reader_take) D sc_Reader_take fun f cdv A outer s H E hr =>
  psd_cons (psd_set 1 (pd_meth0 Q_Reader.cl F_Reader_look hr (by decide) (pd_var 0)) sc_Reader_take.nd)
  (psd_cons (psd_if (ptd_cmp (cd_eq (u65 hr)) (pd_var 1) pd_str) (psd_one (psd_raise EX.e_Malformed takesR)) psd_nil)
  (psd_cons (psd_fldAdd Q_Reader.cl Q_Reader.na_at (pd_var 0) pd_int)
  (psd_one (psd_retV 1))))
theorem fa_law_bent (T : Txt K mg) (D : DefAt K mg "_law_bent" s_law_bent ["_law_octets", "_law_box"]) (F_law_take : FnAt P w K mg base 1 "_law_take" 2 d_law_take) : FnAt P w K mg base 2 "_law_bent" 2 d_law_bent :=
  FnAt.mk' (N := N_law_bent) D sc_law_bent fun f cdv A outer s H E hr =>
  psd_cons (psd_set 2 (pd_callF F_law_take hr (by decide) (pad_cons (pd_var 1) (pad_cons pd_int pad_nil))) sc_law_bent.nd)
  (psd_cons (psd_set 3 (pd_callF F_law_take hr (by decide) (pad_cons (pd_var 1) (pad_cons (pd_len T.n_len (pad_cons (pd_var 0) pad_nil)) pad_nil))) sc_law_bent.nd)
  (psd_cons (psd_set 4 (pd_ix (pd_lst (pad_cons pd_int (pad_cons pd_int (pad_cons pd_int (pad_cons pd_int (pad_cons pd_int (pad_cons pd_int (pad_cons pd_int (pad_cons pd_int (pad_cons pd_int (pad_cons pd_int (pad_cons pd_int (pad_cons pd_int (pad_cons pd_int (pad_cons pd_int (pad_cons pd_int (pad_cons pd_int pad_nil))))))))))))))))) (pd_callF F_law_take hr (by decide) (pad_cons (pd_var 1) (pad_cons pd_int pad_nil)))) sc_law_bent.nd)
  (psd_cons (psd_if (ptd_cmp (cd_eq (u65 hr)) (pd_var 2) pd_int) (psd_one (psd_frz 4 (psd_ret (pd_add (pd_add (pd_sl (pd_var 0) pod_none (pod_some (pd_var 3))) (pd_lst (pad_cons (pd_var 4) pad_nil))) (pd_sl (pd_var 0) (pod_some (pd_add (pd_var 3) pd_int)) pod_none))))) psd_nil)
  (psd_cons (psd_if (ptd_cmp (cd_eq (u65 hr)) (pd_var 2) pd_int) (psd_one (psd_ret (pd_add (pd_sl (pd_var 0) pod_none (pod_some (pd_var 3))) (pd_sl (pd_var 0) (pod_some (pd_add (pd_var 3) pd_int)) pod_none)))) psd_nil)
  (psd_cons (psd_if (ptd_cmp (cd_eq (u65 hr)) (pd_var 2) pd_int) (psd_one (psd_frz 4 (psd_ret (pd_add (pd_add (pd_sl (pd_var 0) pod_none (pod_some (pd_var 3))) (pd_lst (pad_cons (pd_var 4) pad_nil))) (pd_sl (pd_var 0) (pod_some (pd_var 3)) pod_none))))) psd_nil)
  (psd_cons (psd_if (ptd_cmp (cd_eq (u65 hr)) (pd_var 2) pd_int) (psd_one (psd_ret (pd_sl (pd_var 0) pod_none (pod_some (pd_var 3))))) psd_nil)
  (psd_cons (psd_if (ptd_cmp (cd_eq (u65 hr)) (pd_var 2) pd_int) (psd_one (psd_ret (pd_add (pd_var 0) (pd_var 0)))) psd_nil)
  (psd_cons (psd_if (ptd_cmp (cd_eq (u65 hr)) (pd_var 2) pd_int) (psd_cons (psd_set 5 (pd_add pd_int (pd_callF F_law_take hr (by decide) (pad_cons (pd_var 1) (pad_cons pd_int pad_nil)))) sc_law_bent.nd)
  (psd_one (psd_ret (pd_add (pd_add (pd_mulX (pd_lst (pad_cons pd_int pad_nil)) (pd_var 5)) (pd_var 0)) (pd_mulX (pd_lst (pad_cons pd_int pad_nil)) (pd_sub (pd_var 5) (pd_callF F_law_take hr (by decide) (pad_cons (pd_var 1) (pad_cons pd_int pad_nil))))))))) psd_nil)
  (psd_cons (psd_if (ptd_cmp (cd_eq (u65 hr)) (pd_var 2) pd_int) (psd_cons (psd_set 6 (pd_ix (pd_lst (pad_cons pd_str (pad_cons pd_str (pad_cons pd_str (pad_cons pd_str (pad_cons pd_str pad_nil)))))) (pd_callF F_law_take hr (by decide) (pad_cons (pd_var 1) (pad_cons pd_int pad_nil)))) sc_law_bent.nd)
  (psd_one (psd_frz 6 (psd_ret (pd_add (pd_add (pd_add (pd_lst (pad_cons pd_int pad_nil)) (pd_mulX (pd_lst (pad_cons pd_int pad_nil)) (pd_callF F_law_take hr (by decide) (pad_cons (pd_var 1) (pad_cons pd_int pad_nil))))) (pd_lc rfl sc_law_bent.nd (blkOk_by (own := [("_law_sign", 7)]) (N := N_law_bent) (sc := defScope s_law_bent) (by decide +kernel)) rfl (pid_it (pk_var 6)) (fun _ _ _ _ _ => pgd_name 7 sc_law_bent.nd) (fun _ _ _ _ _ => ptsd_nil) (fun _ _ _ _ _ => pd_add pd_int (pd_intS T.n_int (pad_cons (pd_var 7) pad_nil))))) (pd_lst (pad_cons pd_int pad_nil))))))) psd_nil)
  (psd_one (psd_ret (pd_lc rfl sc_law_bent.nd (blkOk_by (own := [("_law_k", 8)]) (N := N_law_bent) (sc := defScope s_law_bent) (by decide +kernel)) rfl (pid_rng1 T.n_range (pd_callF F_law_take hr (by decide) (pad_cons (pd_var 1) (pad_cons pd_int pad_nil)))) (fun _ _ _ _ _ => pgd_name 8 sc_law_bent.nd) (fun _ _ _ _ _ => ptsd_nil) (fun _ _ _ _ _ => pd_ix (pd_lst (pad_cons pd_int (pad_cons pd_int (pad_cons pd_int (pad_cons pd_int (pad_cons pd_int (pad_cons pd_int (pad_cons pd_int (pad_cons pd_int (pad_cons pd_int (pad_cons pd_int pad_nil))))))))))) (pd_callF F_law_take hr (by decide) (pad_cons (pd_var 1) (pad_cons pd_int pad_nil))))))))))))))))
theorem fa_Reader_take_until {C_Malformed C_Reader C_MeetError C_OutOfRange : Addr} (T : Txt K mg) (D : MethDef K C_Reader "take_until" "Reader.take_until" s_Reader_take_until ["self", "stop"]) (Q_Reader : ClF_Reader K C_Reader) (EX : ErrX K mg C_MeetError C_Malformed C_OutOfRange) (F_Reader_take : MethAtX P w K mg base 2 C_Reader "take" 1 (d_Reader_take C_Malformed C_Reader)) : MethAtX P w K mg base 3 C_Reader "take_until" 2 (d_Reader_take_until C_Malformed C_Reader) :=
  MethAtX.mk' (N := N_Reader_take_until) D sc_Reader_take_until fun f cdv A outer s H E hr =>
  psd_cons (psd_set 2 pd_str sc_Reader_take_until.nd)
  (psd_cons (psd_set 3 (pd_methX0 Q_Reader.cl F_Reader_take hr (by decide) takesR (pd_var 0)) sc_Reader_take_until.nd)
  (psd_cons (psd_while (passes_of rfl) (ptd_cmp (cd_ne (u65 hr)) (pd_var 3) (pd_var 1)) (psd_cons (psd_set 2 (pd_add (pd_var 2) (pd_var 3)) sc_Reader_take_until.nd)
  (psd_cons (psd_if (ptd_cmp cd_gt (pd_len T.n_len (pad_cons (pd_var 2) pad_nil)) pd_int) (psd_one (psd_raise EX.e_Malformed takesR)) psd_nil)
  (psd_one (psd_set 3 (pd_methX0 Q_Reader.cl F_Reader_take hr (by decide) takesR (pd_var 0)) sc_Reader_take_until.nd)))))
  (psd_one (psd_retV 2))))
theorem fa_Reader_number {C_Malformed C_Reader C_MeetError C_OutOfRange : Addr} (T : Txt K mg) (D : MethDef K C_Reader "number" "Reader.number" s_Reader_number ["self", "stop"]) (Q_Reader : ClF_Reader K C_Reader) (EX : ErrX K mg C_MeetError C_Malformed C_OutOfRange) (F_Reader_take_until : MethAtX P w K mg base 3 C_Reader "take_until" 2 (d_Reader_take_until C_Malformed C_Reader)) : MethAtX P w K mg base 4 C_Reader "number" 2 (d_Reader_number C_Malformed C_Reader) :=
  MethAtX.mk' (N := N_Reader_number) D sc_Reader_number fun f cdv A outer s H E hr =>
  psd_cons (psd_set 2 (pd_methX Q_Reader.cl F_Reader_take_until hr (by decide) takesR (pd_var 0) (pad_cons (pd_var 1) pad_nil)) sc_Reader_number.nd)
  (psd_cons (psd_frz 2 (psd_if (PWd.pt (pwd_or (ptd_cmp (cd_eq (u65 hr)) (pd_var 2) pd_str) (pwd_or1 (ptd_tru (pd_any rfl T.n_any (pad_cons (pd_lc rfl sc_Reader_number.nd (blkOk_by (own := [("sign", 4)]) (N := N_Reader_number) (sc := defScope s_Reader_number) (by decide +kernel)) rfl (pid_it (pk_var 2)) (fun _ _ _ _ _ => pgd_name 4 sc_Reader_number.nd) (fun _ _ _ _ _ => ptsd_nil) (fun _ _ _ _ _ => pd_cmp (cd_notIn (u65 hr)) (pd_var 4) (pd_glob T.c_DIGITS))) pad_nil)))))) (psd_one (psd_raise EX.e_Malformed takesR)) psd_nil))
  (psd_cons (psd_set 3 pd_int sc_Reader_number.nd)
  (psd_cons (psd_frz 2 (psd_for (passes_of rfl) rfl (pid_it (pk_var 2)) (pgd_name 4 sc_Reader_number.nd) (psd_one (psd_set 3 (pd_add (pd_mulX pd_int (pd_var 3)) (pd_indexS (pd_glob T.c_DIGITS) (pd_var 4))) sc_Reader_number.nd))))
  (psd_cons (psd_if (ptd_cmp (cd_ne (u65 hr)) (pd_strI T.n_str (pad_cons (pd_var 3) pad_nil)) (pd_var 2)) (psd_one (psd_raise EX.e_Malformed takesR)) psd_nil)
  (psd_one (psd_retV 3))))))
theorem fa_Reader_integer {C_Malformed C_Reader C_MeetError C_OutOfRange : Addr} (T : Txt K mg) (D : MethDef K C_Reader "integer" "Reader.integer" s_Reader_integer ["self"]) (Q_Reader : ClF_Reader K C_Reader) (EX : ErrX K mg C_MeetError C_Malformed C_OutOfRange) (F_Reader_look : MethAt P w K mg base 1 C_Reader "look" 1 (d_Reader_look C_Reader)) (F_Reader_take : MethAtX P w K mg base 2 C_Reader "take" 1 (d_Reader_take C_Malformed C_Reader)) (F_Reader_number : MethAtX P w K mg base 4 C_Reader "number" 2 (d_Reader_number C_Malformed C_Reader)) : MethAtX P w K mg base 5 C_Reader "integer" 1 (d_Reader_integer C_Malformed C_Reader) :=
  MethAtX.mk' (N := N_Reader_integer) D sc_Reader_integer fun f cdv A outer s H E hr =>
  psd_cons (psd_set 1 (pd_cmp (cd_eq (u65 hr)) (pd_meth0 Q_Reader.cl F_Reader_look hr (by decide) (pd_var 0)) pd_str) sc_Reader_integer.nd)
  (psd_cons (psd_if (ptd_tru (pd_var 1)) (psd_one (psd_expr (pd_methX0 Q_Reader.cl F_Reader_take hr (by decide) takesR (pd_var 0)))) psd_nil)
  (psd_cons (psd_set 2 (pd_methX Q_Reader.cl F_Reader_number hr (by decide) takesR (pd_var 0) (pad_cons pd_str pad_nil)) sc_Reader_integer.nd)
  (psd_cons (psd_if (PWd.pt (pwd_or (ptd_cmp cd_gt (pd_var 2) (pd_glob T.c_MOST_INTEGER)) (pwd_or1 (PWd.pt (pwd_and (ptd_tru (pd_var 1)) (pwd_and1 (ptd_cmp (cd_eq (u65 hr)) (pd_var 2) pd_int))))))) (psd_one (psd_raise EX.e_Malformed takesR)) psd_nil)
  (psd_cons (psd_if (ptd_tru (pd_var 1)) (psd_one (psd_ret (pd_neg (pd_var 2)))) psd_nil)
  (psd_one (psd_retV 2))))))
theorem fa_Reader_text {C_Malformed C_Reader C_MeetError C_OutOfRange : Addr} (T : Txt K mg) (D : MethDef K C_Reader "text" "Reader.text" s_Reader_text ["self"]) (Q_Reader : ClF_Reader K C_Reader) (EX : ErrX K mg C_MeetError C_Malformed C_OutOfRange) (F_Reader_number : MethAtX P w K mg base 4 C_Reader "number" 2 (d_Reader_number C_Malformed C_Reader)) : MethAtX P w K mg base 5 C_Reader "text" 1 (d_Reader_text C_Malformed C_Reader) :=
  MethAtX.mk' (N := N_Reader_text) D sc_Reader_text fun f cdv A outer s H E hr =>
  psd_cons (psd_set 1 (pd_methX Q_Reader.cl F_Reader_number hr (by decide) takesR (pd_var 0) (pad_cons pd_str pad_nil)) sc_Reader_text.nd)
  (psd_cons (psd_set 2 (pd_sl (pd_fld Q_Reader.cl Q_Reader.na_line (pd_var 0)) (pod_some (pd_fld Q_Reader.cl Q_Reader.na_at (pd_var 0))) (pod_some (pd_add (pd_fld Q_Reader.cl Q_Reader.na_at (pd_var 0)) (pd_var 1)))) sc_Reader_text.nd)
  (psd_cons (psd_if (ptd_cmp cd_lt (pd_len T.n_len (pad_cons (pd_var 2) pad_nil)) (pd_var 1)) (psd_one (psd_raise EX.e_Malformed takesR)) psd_nil)
  (psd_cons (psd_fldAdd Q_Reader.cl Q_Reader.na_at (pd_var 0) (pd_var 1))
  (psd_one (psd_retV 2)))))
theorem fr_line_of (T : Txt K mg) (D : DefAt K mg "line_of" s_line_of ["data"]) {dR : DF} {lv : Nat} (hl : 0 ≤ lv) (F_line_of : FnAt P w K mg base lv "line_of" 1 dR) : FnAt P w K mg base (lv + 1) "line_of" 1 (dDef 1 1 (d_line_of_b dR)) :=
  FnAt.mk' (N := N_line_of) D sc_line_of fun f cdv A outer s H E hr =>
  psd_cons (psd_if (ptd_cmp cd_is (pd_var 0) pd_non) (psd_one (psd_ret pd_str)) psd_nil)
  (psd_cons (psd_if (ptd_tru (pd_isi (t := .int) T.n_isinstance bt_int T.n_int (pd_var 0))) (psd_one (psd_ret (pd_add (pd_add pd_str (pd_strI T.n_str (pad_cons (pd_var 0) pad_nil))) pd_str))) psd_nil)
  (psd_cons (psd_if (ptd_tru (pd_isi (t := .str) T.n_isinstance bt_str T.n_str (pd_var 0))) (psd_one (psd_ret (pd_add (pd_add (pd_add pd_str (pd_strI T.n_str (pad_cons (pd_len T.n_len (pad_cons (pd_var 0) pad_nil)) pad_nil))) pd_str) (pd_var 0)))) psd_nil)
  (psd_one (psd_ret (pd_add (pd_add pd_str (pd_join pd_str (pd_lc rfl sc_line_of.nd (blkOk_by (own := [("one", 1)]) (N := N_line_of) (sc := defScope s_line_of) (by decide +kernel)) rfl (pid_it (pk_var 0)) (fun _ _ _ _ _ => pgd_name 1 sc_line_of.nd) (fun _ _ _ _ _ => ptsd_nil) (fun _ _ _ _ _ => pd_callF F_line_of hr (Nat.le_refl _) (pad_cons (pd_var 1) pad_nil))))) pd_str)))))
theorem fa_line_of (T : Txt K mg) (D : DefAt K mg "line_of" s_line_of ["data"]) : ∀ n, FnAt P w K mg base (0 + n) "line_of" 1 (d_line_of n)
  | 0 => FnAt.zero D
  | n + 1 => fr_line_of T D (Nat.le_add_right _ _) (fa_line_of T D n)
theorem fa_pack (T : Txt K mg) (D : DefAt K mg "pack" s_pack ["data"]) (F_line_of : FnAt P w K mg base 40 "line_of" 1 (d_line_of 40)) : FnAt P w K mg base 41 "pack" 1 d_pack :=
  FnAt.mk' (N := N_pack) D sc_pack fun f cdv A outer s H E hr =>
  psd_one (psd_ret (pd_lc rfl sc_pack.nd (blkOk_by (own := [("sign", 1)]) (N := N_pack) (sc := defScope s_pack) (by decide +kernel)) rfl (pid_it (pk_e (pd_callF F_line_of hr (by decide) (pad_cons (pd_var 0) pad_nil)))) (fun _ _ _ _ _ => pgd_name 1 sc_pack.nd) (fun _ _ _ _ _ => ptsd_nil) (fun _ _ _ _ _ => pd_ord T.n_ord (pad_cons (pd_var 1) pad_nil))))
theorem fr_law_data (T : Txt K mg) (D : DefAt K mg "_law_data" s_law_data ["_law_box", "_law_depth"]) (F_law_take : FnAt P w K mg base 1 "_law_take" 2 d_law_take) {dR : DF} {lv : Nat} (hl : 1 ≤ lv) (F_law_data : FnAt P w K mg base lv "_law_data" 2 dR) : FnAt P w K mg base (lv + 1) "_law_data" 2 (dDef 2 2 (d_law_data_b dR)) :=
  FnAt.mk' (N := N_law_data) D sc_law_data fun f cdv A outer s H E hr =>
  psd_cons (psd_set 2 (pd_callF F_law_take hr (Nat.le_trans (by decide) hl) (pad_cons (pd_var 0) (pad_cons pd_int pad_nil))) sc_law_data.nd)
  (psd_cons (psd_if (ptd_cmp (cd_eq (u65 hr)) (pd_var 2) pd_int) (psd_one (psd_ret pd_non)) psd_nil)
  (psd_cons (psd_if (ptd_cmp cd_lt (pd_var 2) pd_int) (psd_one (psd_ret (pd_ix (pd_lst (pad_cons pd_int (pad_cons pd_int (pad_cons (pd_neg pd_int) (pad_cons (pd_pow pd_int pd_int) (pad_cons pd_int (pad_cons (pd_neg pd_int) pad_nil))))))) (pd_callF F_law_take hr (Nat.le_trans (by decide) hl) (pad_cons (pd_var 0) (pad_cons pd_int pad_nil)))))) psd_nil)
  (psd_cons (psd_if (PWd.pt (pwd_or (ptd_cmp cd_lt (pd_var 2) pd_int) (pwd_or1 (ptd_cmp cd_gt (pd_var 1) pd_int)))) (psd_one (psd_ret (pd_ix (pd_lst (pad_cons pd_str (pad_cons pd_str (pad_cons pd_str (pad_cons pd_str (pad_cons pd_str pad_nil)))))) (pd_callF F_law_take hr (Nat.le_trans (by decide) hl) (pad_cons (pd_var 0) (pad_cons pd_int pad_nil)))))) psd_nil)
  (psd_one (psd_ret (pd_tuple T.n_tuple (pad_cons (pd_lc rfl sc_law_data.nd (blkOk_by (own := [("_law_k", 3)]) (N := N_law_data) (sc := defScope s_law_data) (by decide +kernel)) rfl (pid_rng1 T.n_range (pd_callF F_law_take hr (Nat.le_trans (by decide) hl) (pad_cons (pd_var 0) (pad_cons pd_int pad_nil)))) (fun _ _ _ _ _ => pgd_name 3 sc_law_data.nd) (fun _ _ _ _ _ => ptsd_nil) (fun _ _ _ _ _ => pd_callF F_law_data hr (Nat.le_refl _) (pad_cons (pd_var 0) (pad_cons (pd_add (pd_var 1) pd_int) pad_nil)))) pad_nil)))))))
theorem fa_law_data (T : Txt K mg) (D : DefAt K mg "_law_data" s_law_data ["_law_box", "_law_depth"]) (F_law_take : FnAt P w K mg base 1 "_law_take" 2 d_law_take) : ∀ n, FnAt P w K mg base (1 + n) "_law_data" 2 (d_law_data n)
  | 0 => FnAt.zero D
  | n + 1 => fr_law_data T D F_law_take (Nat.le_add_right _ _) (fa_law_data T D F_law_take n)
theorem fr_law_end (T : Txt K mg) (D : DefAt K mg "_law_end" s_law_end ["_law_line", "_law_at", "_law_depth"]) (F_law_number_end : FnAt P w K mg base 1 "_law_number_end" 3 d_law_number_end) {dR : DF} {lv : Nat} (hl : 1 ≤ lv) (F_law_end : FnAt P w K mg base lv "_law_end" 3 dR) : FnAt P w K mg base (lv + 1) "_law_end" 3 (dDef 3 5 (d_law_end_b dR)) :=
  FnAt.mk' (N := N_law_end) D sc_law_end fun f cdv A outer s H E hr =>
  psd_cons (psd_set 3 (pd_sl (pd_var 0) (pod_some (pd_var 1)) (pod_some (pd_add (pd_var 1) pd_int))) sc_law_end.nd)
  (psd_cons (psd_if (ptd_cmp (cd_eq (u65 hr)) (pd_var 3) pd_str) (psd_one (psd_ret (pd_add (pd_var 1) pd_int))) psd_nil)
  (psd_cons (psd_if (ptd_cmp (cd_eq (u65 hr)) (pd_var 3) pd_str) (psd_cons (psd_set 4 (pd_cmp (cd_eq (u65 hr)) (pd_sl (pd_var 0) (pod_some (pd_add (pd_var 1) pd_int)) (pod_some (pd_add (pd_var 1) pd_int))) pd_str) sc_law_end.nd)
  (psd_cons (psd_set 5 (pd_callF F_law_number_end hr (Nat.le_trans (by decide) hl) (pad_cons (pd_var 0) (pad_cons (pd_add (pd_add (pd_var 1) pd_int) (pd_int1 T.n_int (pad_cons (pd_var 4) pad_nil))) (pad_cons pd_str pad_nil)))) sc_law_end.nd)
  (psd_cons (psd_if (PWd.pt (pwd_or (ptd_cmp cd_lt (pd_var 5) pd_int) (pwd_or (PWd.pt (pwd_and (ptd_tru (pd_var 4)) (pwd_and1 (ptd_cmp (cd_eq (u65 hr)) (pd_sl (pd_var 0) (pod_some (pd_add (pd_var 1) pd_int)) (pod_some (pd_var 5))) pd_str)))) (pwd_or1 (ptd_cmp cd_gt (pd_intS T.n_int (pad_cons (pd_sl (pd_var 0) (pod_some (pd_add (pd_add (pd_var 1) pd_int) (pd_int1 T.n_int (pad_cons (pd_var 4) pad_nil)))) (pod_some (pd_var 5))) pad_nil)) (pd_pow pd_int pd_int)))))) (psd_one (psd_ret (pd_neg pd_int))) psd_nil)
  (psd_one (psd_ret (pd_add (pd_var 5) pd_int)))))) psd_nil)
  (psd_cons (psd_if (ptd_cmp (cd_eq (u65 hr)) (pd_var 3) pd_str) (psd_cons (psd_set 5 (pd_callF F_law_number_end hr (Nat.le_trans (by decide) hl) (pad_cons (pd_var 0) (pad_cons (pd_add (pd_var 1) pd_int) (pad_cons pd_str pad_nil)))) sc_law_end.nd)
  (psd_cons (psd_if (PWd.pt (pwd_or (ptd_cmp cd_lt (pd_var 5) pd_int) (pwd_or1 (ptd_cmp cd_gt (pd_add (pd_add (pd_var 5) pd_int) (pd_intS T.n_int (pad_cons (pd_sl (pd_var 0) (pod_some (pd_add (pd_var 1) pd_int)) (pod_some (pd_var 5))) pad_nil))) (pd_len T.n_len (pad_cons (pd_var 0) pad_nil)))))) (psd_one (psd_ret (pd_neg pd_int))) psd_nil)
  (psd_cons (psd_set 6 (pd_add (pd_add (pd_var 5) pd_int) (pd_intS T.n_int (pad_cons (pd_sl (pd_var 0) (pod_some (pd_add (pd_var 1) pd_int)) (pod_some (pd_var 5))) pad_nil))) sc_law_end.nd)
  (psd_cons (psd_for PassesOwn.never rfl (pid_it (pk_e (pd_sl (pd_var 0) (pod_some (pd_add (pd_var 5) pd_int)) (pod_some (pd_var 6))))) (pgd_name 7 sc_law_end.nd) (psd_one (psd_if (ptd_cmp (cd_eq (u65 hr)) (pd_ord T.n_ord (pad_cons (pd_var 7) pad_nil)) pd_int) (psd_one (psd_ret (pd_neg pd_int))) psd_nil)))
  (psd_one (psd_retV 6)))))) psd_nil)
  (psd_cons (psd_if (PWd.pt (pwd_or (ptd_cmp (cd_ne (u65 hr)) (pd_var 3) pd_str) (pwd_or1 (ptd_cmp cd_gt (pd_var 2) pd_int)))) (psd_one (psd_ret (pd_neg pd_int))) psd_nil)
  (psd_cons (psd_set 1 (pd_add (pd_var 1) pd_int) sc_law_end.nd)
  (psd_cons (psd_while PassesOwn.never (ptd_cmp (cd_ne (u65 hr)) (pd_sl (pd_var 0) (pod_some (pd_var 1)) (pod_some (pd_add (pd_var 1) pd_int))) pd_str) (psd_cons (psd_set 1 (pd_callF F_law_end hr (Nat.le_refl _) (pad_cons (pd_var 0) (pad_cons (pd_var 1) (pad_cons (pd_add (pd_var 2) pd_int) pad_nil)))) sc_law_end.nd)
  (psd_one (psd_if (ptd_cmp cd_lt (pd_var 1) pd_int) (psd_one (psd_ret (pd_neg pd_int))) psd_nil))))
  (psd_one (psd_ret (pd_add (pd_var 1) pd_int)))))))))
theorem fa_law_end (T : Txt K mg) (D : DefAt K mg "_law_end" s_law_end ["_law_line", "_law_at", "_law_depth"]) (F_law_number_end : FnAt P w K mg base 1 "_law_number_end" 3 d_law_number_end) : ∀ n, FnAt P w K mg base (1 + n) "_law_end" 3 (d_law_end n)
  | 0 => FnAt.zero D
  | n + 1 => fr_law_end T D F_law_number_end (Nat.le_add_right _ _) (fa_law_end T D F_law_number_end n)
theorem fa_law_good (T : Txt K mg) (D : DefAt K mg "_law_good" s_law_good ["_law_octets"]) (F_law_end : FnAt P w K mg base 41 "_law_end" 3 (d_law_end 40)) : FnAt P w K mg base 42 "_law_good" 1 d_law_good :=
  FnAt.mk' (N := N_law_good) D sc_law_good fun f cdv A outer s H E hr =>
  psd_cons (psd_for PassesOwn.never rfl (pid_it (pk_var 0)) (pgd_name 1 sc_law_good.nd) (psd_one (psd_if (PWd.pt (pwd_or (ptd_cmp cd_lt (pd_var 1) pd_int) (pwd_or1 (ptd_cmp cd_gt (pd_var 1) pd_int)))) (psd_one (psd_ret pd_bl)) psd_nil)))
  (psd_cons (psd_set 2 (pd_join pd_str (pd_lst (pad_cons (pd_add (pd_add pd_str pd_str) pd_str) pad_nil))) sc_law_good.nd)
  (psd_cons (psd_set 3 pd_str sc_law_good.nd)
  (psd_cons (psd_for PassesOwn.never rfl (pid_it (pk_var 0)) (pgd_name 1 sc_law_good.nd) (psd_cons (psd_if (ptd_cmp (cd_eq (u65 hr)) (pd_var 1) pd_int) (psd_one (psd_ret pd_bl)) psd_nil)
  (psd_one (psd_set 3 (pd_add (pd_var 3) (pd_ix (pd_var 2) (pd_sub (pd_var 1) pd_int))) sc_law_good.nd))))
  (psd_one (psd_ret (pd_cmp (cd_eq (u65 hr)) (pd_callF F_law_end hr (by decide) (pad_cons (pd_var 3) (pad_cons pd_int (pad_cons pd_int pad_nil)))) (pd_len T.n_len (pad_cons (pd_var 3) pad_nil))))))))
theorem fr_Reader_data {C_Malformed C_Reader C_MeetError C_OutOfRange : Addr} (T : Txt K mg) (D : MethDef K C_Reader "data" "Reader.data" s_Reader_data ["self", "depth"]) (Q_Reader : ClF_Reader K C_Reader) (EX : ErrX K mg C_MeetError C_Malformed C_OutOfRange) (F_Reader_look : MethAt P w K mg base 1 C_Reader "look" 1 (d_Reader_look C_Reader)) (F_Reader_take : MethAtX P w K mg base 2 C_Reader "take" 1 (d_Reader_take C_Malformed C_Reader)) (F_Reader_integer : MethAtX P w K mg base 5 C_Reader "integer" 1 (d_Reader_integer C_Malformed C_Reader)) (F_Reader_text : MethAtX P w K mg base 5 C_Reader "text" 1 (d_Reader_text C_Malformed C_Reader)) {dR : DF} {lv : Nat} (hl : 5 ≤ lv) (F_Reader_data : MethAtX P w K mg base lv C_Reader "data" 2 dR) : MethAtX P w K mg base (lv + 1) C_Reader "data" 2 (dDef 2 2 (d_Reader_data_b C_Malformed C_Reader dR)) :=
  MethAtX.mk' (N := N_Reader_data) D sc_Reader_data fun f cdv A outer s H E hr =>
  psd_cons (psd_set 2 (pd_methX0 Q_Reader.cl F_Reader_take hr (Nat.le_trans (by decide) hl) takesR (pd_var 0)) sc_Reader_data.nd)
  (psd_cons (psd_if (ptd_cmp (cd_eq (u65 hr)) (pd_var 2) pd_str) (psd_one (psd_ret pd_non)) psd_nil)
  (psd_cons (psd_if (ptd_cmp (cd_eq (u65 hr)) (pd_var 2) pd_str) (psd_one (psd_ret (pd_methX0 Q_Reader.cl F_Reader_integer hr (Nat.le_trans (by decide) hl) takesR (pd_var 0)))) psd_nil)
  (psd_cons (psd_if (ptd_cmp (cd_eq (u65 hr)) (pd_var 2) pd_str) (psd_one (psd_ret (pd_methX0 Q_Reader.cl F_Reader_text hr (Nat.le_trans (by decide) hl) takesR (pd_var 0)))) psd_nil)
  (psd_cons (psd_if (PWd.pt (pwd_or (ptd_cmp (cd_ne (u65 hr)) (pd_var 2) pd_str) (pwd_or1 (ptd_cmp cd_ge (pd_var 1) (pd_glob T.c_MOST_DEPTH))))) (psd_one (psd_raise EX.e_Malformed takesR)) psd_nil)
  (psd_cons (psd_set 3 (pd_lst pad_nil) sc_Reader_data.nd)
  (psd_cons (psd_while (passes_of rfl) (ptd_cmp (cd_ne (u65 hr)) (pd_meth0 Q_Reader.cl F_Reader_look hr (Nat.le_trans (by decide) hl) (pd_var 0)) pd_str) (psd_one (psd_appV 3 (pd_methX Q_Reader.cl F_Reader_data hr (Nat.le_refl _) takesR (pd_var 0) (pad_cons (pd_add (pd_var 1) pd_int) pad_nil)))))
  (psd_cons (psd_expr (pd_methX0 Q_Reader.cl F_Reader_take hr (Nat.le_trans (by decide) hl) takesR (pd_var 0)))
  (psd_one (psd_ret (pd_tuple T.n_tuple (pad_cons (pd_var 3) pad_nil)))))))))))
theorem fa_Reader_data {C_Malformed C_Reader C_MeetError C_OutOfRange : Addr} (T : Txt K mg) (D : MethDef K C_Reader "data" "Reader.data" s_Reader_data ["self", "depth"]) (Q_Reader : ClF_Reader K C_Reader) (EX : ErrX K mg C_MeetError C_Malformed C_OutOfRange) (F_Reader_look : MethAt P w K mg base 1 C_Reader "look" 1 (d_Reader_look C_Reader)) (F_Reader_take : MethAtX P w K mg base 2 C_Reader "take" 1 (d_Reader_take C_Malformed C_Reader)) (F_Reader_integer : MethAtX P w K mg base 5 C_Reader "integer" 1 (d_Reader_integer C_Malformed C_Reader)) (F_Reader_text : MethAtX P w K mg base 5 C_Reader "text" 1 (d_Reader_text C_Malformed C_Reader)) : ∀ n, MethAtX P w K mg base (5 + n) C_Reader "data" 2 (d_Reader_data C_Malformed C_Reader n)
  | 0 => MethAtX.zero D
  | n + 1 => fr_Reader_data T D Q_Reader EX F_Reader_look F_Reader_take F_Reader_integer F_Reader_text (Nat.le_add_right _ _) (fa_Reader_data T D Q_Reader EX F_Reader_look F_Reader_take F_Reader_integer F_Reader_text n)
theorem fa_unpack {C_Malformed C_Reader C_MeetError C_OutOfRange : Addr} (T : Txt K mg) (D : DefAt K mg "unpack" s_unpack ["octets"]) (Q_Reader : ClF_Reader K C_Reader) (EX : ErrX K mg C_MeetError C_Malformed C_OutOfRange) (F_Reader___init__ : MakeAt P w K mg base 1 "Reader" C_Reader 2 (d_Reader___init__ C_Reader)) (F_Reader_look : MethAt P w K mg base 1 C_Reader "look" 1 (d_Reader_look C_Reader)) (F_Reader_data : MethAtX P w K mg base 45 C_Reader "data" 2 (d_Reader_data C_Malformed C_Reader 40)) (F_sign_of : FnAtX P w K mg base 1 "sign_of" 1 (d_sign_of C_Malformed)) : FnAtX P w K mg base 46 "unpack" 1 (d_unpack C_Malformed C_Reader) :=
  FnAtX.mk' (N := N_unpack) D sc_unpack fun f cdv A outer s H E hr =>
  psd_cons (psd_set 1 (pd_make F_Reader___init__ hr (by decide) (pad_cons (pd_join pd_str (pd_lcX rfl rfl takesR rfl sc_unpack.nd (blkOk_by (own := [("octet", 3)]) (N := N_unpack) (sc := defScope s_unpack) (by decide +kernel)) rfl (pid_it (pk_var 0)) (fun _ _ _ _ _ => pgd_name 3 sc_unpack.nd) (fun _ _ _ _ _ => ptsd_nil) (fun _ _ _ _ _ => pd_callXP F_sign_of hr (by decide) passB (pad_cons (pd_var 3) pad_nil)))) pad_nil)) sc_unpack.nd)
  (psd_cons (psd_set 2 (pd_methX Q_Reader.cl F_Reader_data hr (by decide) takesR (pd_var 1) (pad_cons pd_int pad_nil)) sc_unpack.nd)
  (psd_cons (psd_if (ptd_cmp (cd_ne (u65 hr)) (pd_meth0 Q_Reader.cl F_Reader_look hr (by decide) (pd_var 1)) pd_str) (psd_one (psd_raise EX.e_Malformed takesR)) psd_nil)
  (psd_one (psd_retV 2))))
theorem fo_law {C_MeetError C_Malformed C_OutOfRange C_Reader : Addr} {f : Addr} {fd : FuncData} (T : Txt K mg) (F : Fun K "law" "law" s_law f fd) (EX : ErrX K mg C_MeetError C_Malformed C_OutOfRange) (F_pack : FnAt P w K mg base 41 "pack" 1 d_pack) (F_unpack : FnAtX P w K mg base 46 "unpack" 1 (d_unpack C_Malformed C_Reader)) (F_law_number : FnAt P w K mg base 1 "_law_number" 2 d_law_number) (F_law_data : FnAt P w K mg base 41 "_law_data" 2 (d_law_data 40)) (F_law_good : FnAt P w K mg base 42 "_law_good" 1 d_law_good) (F_law_bent : FnAt P w K mg base 2 "_law_bent" 2 d_law_bent) : FnOk P w K mg base CX0 47 f fd ["_law_script"] (spD K 1 (d_law C_MeetError C_Malformed C_OutOfRange C_Reader)) :=
  fnOk_mk (N := N_law) F sc_law fun f cdv A outer s H E hr =>
  psd_cons (psd_for PassesOwn.never rfl (pid_rng1 T.n_range pd_int) (pgd_name 1 sc_law.nd) (psd_cons (psd_set 2 (pd_alloc (pd_lst (pad_cons (pd_callF F_law_number hr (by decide) (pad_cons (pd_var 0) (pad_cons (pd_var 1) pad_nil))) pad_nil))) sc_law.nd)
  (psd_cons (psd_set 3 (pd_callF F_law_bent hr (by decide) (pad_cons (pd_callF F_pack hr (by decide) (pad_cons (pd_callF F_law_data hr (by decide) (pad_cons (pd_var 2) (pad_cons pd_int pad_nil))) pad_nil)) (pad_cons (pd_alloc (pd_lst (pad_cons (pd_callF F_law_number hr (by decide) (pad_cons (pd_var 0) (pad_cons (pd_add pd_int (pd_var 1)) pad_nil))) pad_nil))) pad_nil))) sc_law.nd)
  (psd_cons (psd_set 4 (pd_list T.n_list (pad_cons (pd_var 3) pad_nil)) sc_law.nd)
  (psd_cons (psd_set 5 (pd_callF F_law_good hr (by decide) (pad_cons (pd_var 3) pad_nil)) sc_law.nd)
  (psd_cons (psd_tryAs (IsC := InT [(C_Malformed, true)]) ⟨rfl, by decide, .inl EX.g_MeetError⟩ takes0 (fun c b e => ⟨⟨b, e⟩, tbl_all (R := fun c b => PySem.W.exmOne K (.ref c) (.ref C_MeetError) = some b) (ta_cons (R := fun c b => PySem.W.exmOne K (.ref c) (.ref C_MeetError) = some b) EX.x_Malformed_MeetError (ta_nil (R := fun c b => PySem.W.exmOne K (.ref c) (.ref C_MeetError) = some b))) e⟩) (fun W pn xe tk po => psd_cons (psd_set 6 (pd_callX F_unpack hr (by decide) tk (pad_cons (pd_var 4) pad_nil)) sc_law.nd)
  (psd_one (psd_if (PWd.pt (pwd_or (ptd_not (ptd_tru (pd_var 5))) (pwd_or1 (ptd_cmp (cd_ne (u65 hr)) (pd_callF F_pack hr (by decide) (pad_cons (pd_var 6) pad_nil)) (pd_var 3))))) (psd_one (psd_ret pd_bl)) psd_nil))) (fun a c oe pn ic hz hv => have icx : ExcC K c := ic.exc (ta_cons (R := fun c _ => ExcC K c) EX.c_Malformed (ta_nil (R := fun c _ => ExcC K c))); psd_one (psd_if (PWd.pt (pwd_or (ptd_tru (pd_var 5)) (pwd_or (ptd_not (ptd_tru (pd_isE icx hz hv (fun b e => tbl_all (R := fun c b => PySem.W.kitOne K (.ref c) (.ref C_Malformed) = some b) (ta_cons (R := fun c b => PySem.W.kitOne K (.ref c) (.ref C_Malformed) = some b) EX.k_Malformed_Malformed (ta_nil (R := fun c b => PySem.W.kitOne K (.ref c) (.ref C_Malformed) = some b))) e) EX.g_Malformed T.n_isinstance (pv 7)))) (pwd_or (ptd_not (ptd_tru (pd_isET icx hz hv (fun b e => tbl_all (R := fun c b => PySem.W.kitOne K (.ref c) (.type "ValueError") = some b) (ta_cons (R := fun c b => PySem.W.kitOne K (.ref c) (.type "ValueError") = some b) EX.k_Malformed_ValueError (ta_nil (R := fun c b => PySem.W.kitOne K (.ref c) (.type "ValueError") = some b))) e) T.n_ValueError bt_ValueError T.n_isinstance (pv 7)))) (pwd_or1 (ptd_tru (pd_isE icx hz hv (fun b e => tbl_all (R := fun c b => PySem.W.kitOne K (.ref c) (.ref C_OutOfRange) = some b) (ta_cons (R := fun c b => PySem.W.kitOne K (.ref c) (.ref C_OutOfRange) = some b) EX.k_Malformed_OutOfRange (ta_nil (R := fun c b => PySem.W.kitOne K (.ref c) (.ref C_OutOfRange) = some b))) e) EX.g_OutOfRange T.n_isinstance (pv 7)))))))) (psd_one (psd_ret pd_bl)) psd_nil)) (hN := sc_law.nd))
  (psd_one (psd_if (ptd_cmp (cd_ne (u65 hr)) (pd_var 4) (pd_var 3)) (psd_one (psd_ret pd_bl)) psd_nil))))))))
  (psd_one (psd_ret pd_bl))
end
section
theorem all_mk {l : PySem.W.OpenLaw} {w : World} {K : PySem.W.Frag} {h : Heap} {mg : Str → Option Value} {fa : Addr} (X : K.In h) (G : h.Ns mainGlobals mg) (hfa : mg "law" = some (.ref fa))
    {C_MeetError : Addr} {C_Malformed : Addr} {C_OutOfRange : Addr} {C_Reader : Addr} {f0 : Addr} {od0 an0 : Option Addr} {sl0 : Array (Option Value)} {oc0 kV0 dc0 pm0 cd0 ct0 : Value} {f1 : Addr} {od1 an1 : Option Addr} {sl1 : Array (Option Value)} {oc1 kV1 dc1 pm1 cd1 ct1 : Value} {f2 : Addr} {od2 an2 : Option Addr} {sl2 : Array (Option Value)} {oc2 kV2 dc2 pm2 cd2 ct2 : Value} {f3 : Addr} {od3 an3 : Option Addr} {sl3 : Array (Option Value)} {oc3 kV3 dc3 pm3 cd3 ct3 : Value} {f4 : Addr} {od4 an4 : Option Addr} {sl4 : Array (Option Value)} {oc4 kV4 dc4 pm4 cd4 ct4 : Value} {f5 : Addr} {od5 an5 : Option Addr} {sl5 : Array (Option Value)} {oc5 kV5 dc5 pm5 cd5 ct5 : Value} {f6 : Addr} {od6 an6 : Option Addr} {sl6 : Array (Option Value)} {oc6 kV6 dc6 pm6 cd6 ct6 : Value} {f7 : Addr} {od7 an7 : Option Addr} {sl7 : Array (Option Value)} {oc7 kV7 dc7 pm7 cd7 ct7 : Value} {f8 : Addr} {od8 an8 : Option Addr} {sl8 : Array (Option Value)} {oc8 kV8 dc8 pm8 cd8 ct8 : Value} {f9 : Addr} {od9 an9 : Option Addr} {sl9 : Array (Option Value)} {oc9 kV9 dc9 pm9 cd9 ct9 : Value} {f10 : Addr} {od10 an10 : Option Addr} {sl10 : Array (Option Value)} {oc10 kV10 dc10 pm10 cd10 ct10 : Value} {f11 : Addr} {od11 an11 : Option Addr} {sl11 : Array (Option Value)} {oc11 kV11 dc11 pm11 cd11 ct11 : Value} {f12 : Addr} {od12 an12 : Option Addr} {sl12 : Array (Option Value)} {oc12 kV12 dc12 pm12 cd12 ct12 : Value} {f13 : Addr} {od13 an13 : Option Addr} {sl13 : Array (Option Value)} {oc13 kV13 dc13 pm13 cd13 ct13 : Value} {f14 : Addr} {od14 an14 : Option Addr} {sl14 : Array (Option Value)} {oc14 kV14 dc14 pm14 cd14 ct14 : Value} {f15 : Addr} {od15 an15 : Option Addr} {sl15 : Array (Option Value)} {oc15 kV15 dc15 pm15 cd15 ct15 : Value} {f16 : Addr} {od16 an16 : Option Addr} {sl16 : Array (Option Value)} {oc16 kV16 dc16 pm16 cd16 ct16 : Value} {f17 : Addr} {od17 an17 : Option Addr} {sl17 : Array (Option Value)} {oc17 kV17 dc17 pm17 cd17 ct17 : Value} {f18 : Addr} {od18 an18 : Option Addr} {sl18 : Array (Option Value)} {oc18 kV18 dc18 pm18 cd18 ct18 : Value} {f19 : Addr} {od19 an19 : Option Addr} {sl19 : Array (Option Value)} {oc19 kV19 dc19 pm19 cd19 ct19 : Value} {t_MOST_DEPTH : Tok} {t_MOST_INTEGER : Tok} {t_DIGITS : Tok} {t_LOW_SIGNS : Tok} {t_HIGH_SIGNS : Tok} {t_FIRST_LOW : Tok} {t_FIRST_HIGH : Tok}
    (gC_MeetError : PySem.W.nsIn K mainGlobals "MeetError" = some (some (.ref C_MeetError)))
    (gC_Malformed : PySem.W.nsIn K mainGlobals "Malformed" = some (some (.ref C_Malformed)))
    (gC_OutOfRange : PySem.W.nsIn K mainGlobals "OutOfRange" = some (some (.ref C_OutOfRange)))
    (gC_Reader : PySem.W.nsIn K mainGlobals "Reader" = some (some (.ref C_Reader)))
    (p1_Reader : PySem.W.plainGet K C_Reader Str.empty = true)
    (p2_Reader : PySem.W.hasDictIn K C_Reader = true)
    (p3_Reader : PySem.W.plainOver K C_Reader = true)
    (p4_Reader : PySem.W.findIn K (.ref C_Reader) "__setattr__" = some (some (.builtin "object.__setattr__")))
    (na_Reader_at : PySem.W.findIn K (.ref C_Reader) "at" = some none)
    (na_Reader_line : PySem.W.findIn K (.ref C_Reader) "line" = some none)
    (mk1_Reader : PySem.W.makesIn K C_Reader = true)
    (mk2_Reader : PySem.W.keepIn K (.ref C_Reader) = true)
    (e1_Malformed : PySem.W.excIn K C_Malformed [.type "ValueError", .type "Exception", .type "BaseException", .type "object"] "ValueError.__new__" = true)
    (e2_Malformed : PySem.W.keepIn K (.ref C_Malformed) = true)
    (e3_Malformed : PySem.W.subIn K (.ref C_Malformed) (.type "BaseException") = some true)
    (e4_Malformed : PySem.W.typeIn K (.ref C_Malformed) = some (.type "type"))
    (y1_Malformed : PySem.W.findIn K (.ref C_Malformed) "__getattribute__" = some (some (.builtin "BaseException.__getattribute__")))
    (y2_Malformed : PySem.W.findIn K (.ref C_Malformed) "__getattr__" = some none)
    (y4_Malformed : PySem.W.hasDictIn K C_Malformed = true)
    (y5_Malformed : PySem.W.findIn K (.ref C_Malformed) "__class__" = some (some (.builtin "object.__class__")))
    (y6_Malformed : PySem.W.specialIn K (.builtin "object.__class__") "__get__" = some (some (.builtin "getset_descriptor.__get__")))
    (y7_Malformed : PySem.W.takesIn K (.builtin "object.__class__") = some true)
    (y8_Malformed : PySem.W.mroIn K C_Malformed (.type "object") = some true)
    (x_Malformed_MeetError : PySem.W.exmOne K (.ref C_Malformed) (.ref C_MeetError) = some true)
    (k_Malformed_Malformed : PySem.W.kitOne K (.ref C_Malformed) (.ref C_Malformed) = some true)
    (k_Malformed_OutOfRange : PySem.W.kitOne K (.ref C_Malformed) (.ref C_OutOfRange) = some false)
    (k_Malformed_ValueError : PySem.W.kitOne K (.ref C_Malformed) (.type "ValueError") = some true)
    (a0 : PySem.W.findIn K (.ref C_Reader) "__init__" = some (some (.ref f0)))
    (l0 : K.lookup f0 = some ⟨oc0, od0, .func (PySem.W.fnOf "__init__" "Reader.__init__" (defArgs s_Reader___init__) (defBody s_Reader___init__) (defScope s_Reader___init__) .none kV0 dc0 pm0 an0 cd0 ct0), sl0⟩)
    (c0 : PySem.W.codeIn K cd0 "Reader.__init__" = true)
    (k0 : PySem.W.keepIn K (.ref f0) = true)
    (n0 : PySem.W.isFn K (.ref f0) = true)
    (a1 : PySem.W.findIn K (.ref C_Reader) "look" = some (some (.ref f1)))
    (l1 : K.lookup f1 = some ⟨oc1, od1, .func (PySem.W.fnOf "look" "Reader.look" (defArgs s_Reader_look) (defBody s_Reader_look) (defScope s_Reader_look) .none kV1 dc1 pm1 an1 cd1 ct1), sl1⟩)
    (c1 : PySem.W.codeIn K cd1 "Reader.look" = true)
    (k1 : PySem.W.keepIn K (.ref f1) = true)
    (n1 : PySem.W.isFn K (.ref f1) = true)
    (a2 : PySem.W.nsIn K mainGlobals "sign_of" = some (some (.ref f2)))
    (l2 : K.lookup f2 = some ⟨oc2, od2, .func (PySem.W.fnOf "sign_of" "sign_of" (defArgs s_sign_of) (defBody s_sign_of) (defScope s_sign_of) .none kV2 dc2 pm2 an2 cd2 ct2), sl2⟩)
    (c2 : PySem.W.codeIn K cd2 "sign_of" = true)
    (k2 : PySem.W.keepIn K (.ref f2) = true)
    (a3 : PySem.W.nsIn K mainGlobals "_law_number" = some (some (.ref f3)))
    (l3 : K.lookup f3 = some ⟨oc3, od3, .func (PySem.W.fnOf "_law_number" "_law_number" (defArgs s_law_number) (defBody s_law_number) (defScope s_law_number) .none kV3 dc3 pm3 an3 cd3 ct3), sl3⟩)
    (c3 : PySem.W.codeIn K cd3 "_law_number" = true)
    (k3 : PySem.W.keepIn K (.ref f3) = true)
    (a4 : PySem.W.nsIn K mainGlobals "_law_take" = some (some (.ref f4)))
    (l4 : K.lookup f4 = some ⟨oc4, od4, .func (PySem.W.fnOf "_law_take" "_law_take" (defArgs s_law_take) (defBody s_law_take) (defScope s_law_take) .none kV4 dc4 pm4 an4 cd4 ct4), sl4⟩)
    (c4 : PySem.W.codeIn K cd4 "_law_take" = true)
    (k4 : PySem.W.keepIn K (.ref f4) = true)
    (a5 : PySem.W.nsIn K mainGlobals "_law_number_end" = some (some (.ref f5)))
    (l5 : K.lookup f5 = some ⟨oc5, od5, .func (PySem.W.fnOf "_law_number_end" "_law_number_end" (defArgs s_law_number_end) (defBody s_law_number_end) (defScope s_law_number_end) .none kV5 dc5 pm5 an5 cd5 ct5), sl5⟩)
    (c5 : PySem.W.codeIn K cd5 "_law_number_end" = true)
    (k5 : PySem.W.keepIn K (.ref f5) = true)
    (a6 : PySem.W.findIn K (.ref C_Reader) "take" = some (some (.ref f6)))
    (l6 : K.lookup f6 = some ⟨oc6, od6, .func (PySem.W.fnOf "take" "Reader.take" (defArgs s_Reader_take) (defBody s_Reader_take) (defScope s_Reader_take) .none kV6 dc6 pm6 an6 cd6 ct6), sl6⟩)
    (c6 : PySem.W.codeIn K cd6 "Reader.take" = true)
    (k6 : PySem.W.keepIn K (.ref f6) = true)
    (n6 : PySem.W.isFn K (.ref f6) = true)
    (a7 : PySem.W.nsIn K mainGlobals "_law_bent" = some (some (.ref f7)))
    (l7 : K.lookup f7 = some ⟨oc7, od7, .func (PySem.W.fnOf "_law_bent" "_law_bent" (defArgs s_law_bent) (defBody s_law_bent) (defScope s_law_bent) .none kV7 dc7 pm7 an7 cd7 ct7), sl7⟩)
    (c7 : PySem.W.codeIn K cd7 "_law_bent" = true)
    (k7 : PySem.W.keepIn K (.ref f7) = true)
    (a8 : PySem.W.findIn K (.ref C_Reader) "take_until" = some (some (.ref f8)))
    (l8 : K.lookup f8 = some ⟨oc8, od8, .func (PySem.W.fnOf "take_until" "Reader.take_until" (defArgs s_Reader_take_until) (defBody s_Reader_take_until) (defScope s_Reader_take_until) .none kV8 dc8 pm8 an8 cd8 ct8), sl8⟩)
    (c8 : PySem.W.codeIn K cd8 "Reader.take_until" = true)
    (k8 : PySem.W.keepIn K (.ref f8) = true)
    (n8 : PySem.W.isFn K (.ref f8) = true)
    (a9 : PySem.W.findIn K (.ref C_Reader) "number" = some (some (.ref f9)))
    (l9 : K.lookup f9 = some ⟨oc9, od9, .func (PySem.W.fnOf "number" "Reader.number" (defArgs s_Reader_number) (defBody s_Reader_number) (defScope s_Reader_number) .none kV9 dc9 pm9 an9 cd9 ct9), sl9⟩)
    (c9 : PySem.W.codeIn K cd9 "Reader.number" = true)
    (k9 : PySem.W.keepIn K (.ref f9) = true)
    (n9 : PySem.W.isFn K (.ref f9) = true)
    (a10 : PySem.W.findIn K (.ref C_Reader) "integer" = some (some (.ref f10)))
    (l10 : K.lookup f10 = some ⟨oc10, od10, .func (PySem.W.fnOf "integer" "Reader.integer" (defArgs s_Reader_integer) (defBody s_Reader_integer) (defScope s_Reader_integer) .none kV10 dc10 pm10 an10 cd10 ct10), sl10⟩)
    (c10 : PySem.W.codeIn K cd10 "Reader.integer" = true)
    (k10 : PySem.W.keepIn K (.ref f10) = true)
    (n10 : PySem.W.isFn K (.ref f10) = true)
    (a11 : PySem.W.findIn K (.ref C_Reader) "text" = some (some (.ref f11)))
    (l11 : K.lookup f11 = some ⟨oc11, od11, .func (PySem.W.fnOf "text" "Reader.text" (defArgs s_Reader_text) (defBody s_Reader_text) (defScope s_Reader_text) .none kV11 dc11 pm11 an11 cd11 ct11), sl11⟩)
    (c11 : PySem.W.codeIn K cd11 "Reader.text" = true)
    (k11 : PySem.W.keepIn K (.ref f11) = true)
    (n11 : PySem.W.isFn K (.ref f11) = true)
    (a12 : PySem.W.nsIn K mainGlobals "line_of" = some (some (.ref f12)))
    (l12 : K.lookup f12 = some ⟨oc12, od12, .func (PySem.W.fnOf "line_of" "line_of" (defArgs s_line_of) (defBody s_line_of) (defScope s_line_of) .none kV12 dc12 pm12 an12 cd12 ct12), sl12⟩)
    (c12 : PySem.W.codeIn K cd12 "line_of" = true)
    (k12 : PySem.W.keepIn K (.ref f12) = true)
    (a13 : PySem.W.nsIn K mainGlobals "pack" = some (some (.ref f13)))
    (l13 : K.lookup f13 = some ⟨oc13, od13, .func (PySem.W.fnOf "pack" "pack" (defArgs s_pack) (defBody s_pack) (defScope s_pack) .none kV13 dc13 pm13 an13 cd13 ct13), sl13⟩)
    (c13 : PySem.W.codeIn K cd13 "pack" = true)
    (k13 : PySem.W.keepIn K (.ref f13) = true)
    (a14 : PySem.W.nsIn K mainGlobals "_law_data" = some (some (.ref f14)))
    (l14 : K.lookup f14 = some ⟨oc14, od14, .func (PySem.W.fnOf "_law_data" "_law_data" (defArgs s_law_data) (defBody s_law_data) (defScope s_law_data) .none kV14 dc14 pm14 an14 cd14 ct14), sl14⟩)
    (c14 : PySem.W.codeIn K cd14 "_law_data" = true)
    (k14 : PySem.W.keepIn K (.ref f14) = true)
    (a15 : PySem.W.nsIn K mainGlobals "_law_end" = some (some (.ref f15)))
    (l15 : K.lookup f15 = some ⟨oc15, od15, .func (PySem.W.fnOf "_law_end" "_law_end" (defArgs s_law_end) (defBody s_law_end) (defScope s_law_end) .none kV15 dc15 pm15 an15 cd15 ct15), sl15⟩)
    (c15 : PySem.W.codeIn K cd15 "_law_end" = true)
    (k15 : PySem.W.keepIn K (.ref f15) = true)
    (a16 : PySem.W.nsIn K mainGlobals "_law_good" = some (some (.ref f16)))
    (l16 : K.lookup f16 = some ⟨oc16, od16, .func (PySem.W.fnOf "_law_good" "_law_good" (defArgs s_law_good) (defBody s_law_good) (defScope s_law_good) .none kV16 dc16 pm16 an16 cd16 ct16), sl16⟩)
    (c16 : PySem.W.codeIn K cd16 "_law_good" = true)
    (k16 : PySem.W.keepIn K (.ref f16) = true)
    (a17 : PySem.W.findIn K (.ref C_Reader) "data" = some (some (.ref f17)))
    (l17 : K.lookup f17 = some ⟨oc17, od17, .func (PySem.W.fnOf "data" "Reader.data" (defArgs s_Reader_data) (defBody s_Reader_data) (defScope s_Reader_data) .none kV17 dc17 pm17 an17 cd17 ct17), sl17⟩)
    (c17 : PySem.W.codeIn K cd17 "Reader.data" = true)
    (k17 : PySem.W.keepIn K (.ref f17) = true)
    (n17 : PySem.W.isFn K (.ref f17) = true)
    (a18 : PySem.W.nsIn K mainGlobals "unpack" = some (some (.ref f18)))
    (l18 : K.lookup f18 = some ⟨oc18, od18, .func (PySem.W.fnOf "unpack" "unpack" (defArgs s_unpack) (defBody s_unpack) (defScope s_unpack) .none kV18 dc18 pm18 an18 cd18 ct18), sl18⟩)
    (c18 : PySem.W.codeIn K cd18 "unpack" = true)
    (k18 : PySem.W.keepIn K (.ref f18) = true)
    (a19 : PySem.W.nsIn K mainGlobals "law" = some (some (.ref f19)))
    (l19 : K.lookup f19 = some ⟨oc19, od19, .func (PySem.W.fnOf "law" "law" (defArgs s_law) (defBody s_law) (defScope s_law) .none kV19 dc19 pm19 an19 cd19 ct19), sl19⟩)
    (c19 : PySem.W.codeIn K cd19 "law" = true)
    (k19 : PySem.W.keepIn K (.ref f19) = true)
    (z_ValueError : PySem.W.nsIn K mainGlobals "ValueError" = some none)
    (z_any : PySem.W.nsIn K mainGlobals "any" = some none)
    (z_int : PySem.W.nsIn K mainGlobals "int" = some none)
    (z_isinstance : PySem.W.nsIn K mainGlobals "isinstance" = some none)
    (z_len : PySem.W.nsIn K mainGlobals "len" = some none)
    (z_list : PySem.W.nsIn K mainGlobals "list" = some none)
    (z_ord : PySem.W.nsIn K mainGlobals "ord" = some none)
    (z_range : PySem.W.nsIn K mainGlobals "range" = some none)
    (z_str : PySem.W.nsIn K mainGlobals "str" = some none)
    (z_tuple : PySem.W.nsIn K mainGlobals "tuple" = some none)
    (g_MOST_DEPTH : PySem.W.nsIn K mainGlobals "MOST_DEPTH" = some (some (.int 30 t_MOST_DEPTH)))
    (g_MOST_INTEGER : PySem.W.nsIn K mainGlobals "MOST_INTEGER" = some (some (.int 1000000000000000000 t_MOST_INTEGER)))
    (g_DIGITS : PySem.W.nsIn K mainGlobals "DIGITS" = some (some (.str "0123456789" t_DIGITS)))
    (g_LOW_SIGNS : PySem.W.nsIn K mainGlobals "LOW_SIGNS" = some (some (.str " !\"#$" t_LOW_SIGNS)))
    (g_HIGH_SIGNS : PySem.W.nsIn K mainGlobals "HIGH_SIGNS" = some (some (.str "&'()*+,-./0123456789:;<=>?@ABCDEFGHIJKLMNOPQRSTUVWXYZ[\\]^_`abcdefghijklmnopqrstuvwxyz{|}~" t_HIGH_SIGNS)))
    (g_FIRST_LOW : PySem.W.nsIn K mainGlobals "FIRST_LOW" = some (some (.int 32 t_FIRST_LOW)))
    (g_FIRST_HIGH : PySem.W.nsIn K mainGlobals "FIRST_HIGH" = some (some (.int 38 t_FIRST_HIGH))) :
    ∃ fd : FuncData, (∀ (s : Shared) (v : Value), BindsTo s fd ⟨[v], []⟩ [("_law_script", v)]) ∧ ∀ base : Heap, K.In base → base.Ns mainGlobals mg → FnOk l.prog w K mg base CX0 47 fa fd ["_law_script"] (spD K 1 (d_law C_MeetError C_Malformed C_OutOfRange C_Reader)) := by
  have e := hfa.symm.trans (PySem.W.mg_of X G a19)
  cases e
  have T : Txt K mg := ⟨PySem.W.mg_none_of X G z_ValueError, PySem.W.mg_none_of X G z_any, PySem.W.mg_none_of X G z_int, PySem.W.mg_none_of X G z_isinstance, PySem.W.mg_none_of X G z_len, PySem.W.mg_none_of X G z_list, PySem.W.mg_none_of X G z_ord, PySem.W.mg_none_of X G z_range, PySem.W.mg_none_of X G z_str, PySem.W.mg_none_of X G z_tuple, ⟨.int _, _, PySem.W.mg_of X G g_MOST_DEPTH, relInt, fun _ _ _ => .int _⟩, ⟨.int _, _, PySem.W.mg_of X G g_MOST_INTEGER, relInt, fun _ _ _ => .int _⟩, ⟨.str _, _, PySem.W.mg_of X G g_DIGITS, relStr, fun _ _ _ => .str _⟩, ⟨.str _, _, PySem.W.mg_of X G g_LOW_SIGNS, relStr, fun _ _ _ => .str _⟩, ⟨.str _, _, PySem.W.mg_of X G g_HIGH_SIGNS, relStr, fun _ _ _ => .str _⟩, ⟨.int _, _, PySem.W.mg_of X G g_FIRST_LOW, relInt, fun _ _ _ => .int _⟩, ⟨.int _, _, PySem.W.mg_of X G g_FIRST_HIGH, relInt, fun _ _ _ => .int _⟩⟩
  have Q_Reader : ClF_Reader K C_Reader := ⟨⟨p1_Reader, p2_Reader, p3_Reader, p4_Reader⟩, na_Reader_at, na_Reader_line⟩
  have EX : ErrX K mg C_MeetError C_Malformed C_OutOfRange := ⟨PySem.W.mg_of X G gC_MeetError, PySem.W.mg_of X G gC_Malformed, PySem.W.mg_of X G gC_OutOfRange, ⟨PySem.W.mg_of X G gC_Malformed, e1_Malformed, e2_Malformed, e3_Malformed, e4_Malformed⟩, ⟨y1_Malformed, y2_Malformed, e3_Malformed, y4_Malformed, y5_Malformed, y6_Malformed, y7_Malformed, y8_Malformed⟩, x_Malformed_MeetError, k_Malformed_Malformed, k_Malformed_OutOfRange, k_Malformed_ValueError⟩
  have D_Reader___init__ : MakeDef K mg "Reader" C_Reader "Reader.__init__" s_Reader___init__ ["self", "line"] := ⟨f0, _, fun_mk (st := s_Reader___init__) l0 c0 k0, PySem.W.mg_of X G gC_Reader, ⟨mk1_Reader, a0, n0, mk2_Reader⟩, (fun_mk (st := s_Reader___init__) l0 c0 k0).binds (ps := ["self", "line"]) fun _ _ _ _ _ _ us hl => match us, hl with | [_, _], _ => rfl⟩
  have D_Reader_look : MethDef K C_Reader "look" "Reader.look" s_Reader_look ["self"] := ⟨f1, _, fun_mk (st := s_Reader_look) l1 c1 k1, ⟨a1, n1, k1⟩, (fun_mk (st := s_Reader_look) l1 c1 k1).binds (ps := ["self"]) fun _ _ _ _ _ _ us hl => match us, hl with | [_], _ => rfl⟩
  have D_sign_of : DefAt K mg "sign_of" s_sign_of ["octet"] := ⟨f2, _, fun_mk (st := s_sign_of) l2 c2 k2, PySem.W.mg_of X G a2, (fun_mk (st := s_sign_of) l2 c2 k2).binds (ps := ["octet"]) fun _ _ _ _ _ _ us hl => match us, hl with | [_], _ => rfl⟩
  have D_law_number : DefAt K mg "_law_number" s_law_number ["_law_script", "_law_k"] := ⟨f3, _, fun_mk (st := s_law_number) l3 c3 k3, PySem.W.mg_of X G a3, (fun_mk (st := s_law_number) l3 c3 k3).binds (ps := ["_law_script", "_law_k"]) fun _ _ _ _ _ _ us hl => match us, hl with | [_, _], _ => rfl⟩
  have D_law_take : DefAt K mg "_law_take" s_law_take ["_law_box", "_law_size"] := ⟨f4, _, fun_mk (st := s_law_take) l4 c4 k4, PySem.W.mg_of X G a4, (fun_mk (st := s_law_take) l4 c4 k4).binds (ps := ["_law_box", "_law_size"]) fun _ _ _ _ _ _ us hl => match us, hl with | [_, _], _ => rfl⟩
  have D_law_number_end : DefAt K mg "_law_number_end" s_law_number_end ["_law_line", "_law_at", "_law_stop"] := ⟨f5, _, fun_mk (st := s_law_number_end) l5 c5 k5, PySem.W.mg_of X G a5, (fun_mk (st := s_law_number_end) l5 c5 k5).binds (ps := ["_law_line", "_law_at", "_law_stop"]) fun _ _ _ _ _ _ us hl => match us, hl with | [_, _, _], _ => rfl⟩
  have D_Reader_take : MethDef K C_Reader "take" "Reader.take" s_Reader_take ["self"] := ⟨f6, _, fun_mk (st := s_Reader_take) l6 c6 k6, ⟨a6, n6, k6⟩, (fun_mk (st := s_Reader_take) l6 c6 k6).binds (ps := ["self"]) fun _ _ _ _ _ _ us hl => match us, hl with | [_], _ => rfl⟩
  have D_law_bent : DefAt K mg "_law_bent" s_law_bent ["_law_octets", "_law_box"] := ⟨f7, _, fun_mk (st := s_law_bent) l7 c7 k7, PySem.W.mg_of X G a7, (fun_mk (st := s_law_bent) l7 c7 k7).binds (ps := ["_law_octets", "_law_box"]) fun _ _ _ _ _ _ us hl => match us, hl with | [_, _], _ => rfl⟩
  have D_Reader_take_until : MethDef K C_Reader "take_until" "Reader.take_until" s_Reader_take_until ["self", "stop"] := ⟨f8, _, fun_mk (st := s_Reader_take_until) l8 c8 k8, ⟨a8, n8, k8⟩, (fun_mk (st := s_Reader_take_until) l8 c8 k8).binds (ps := ["self", "stop"]) fun _ _ _ _ _ _ us hl => match us, hl with | [_, _], _ => rfl⟩
  have D_Reader_number : MethDef K C_Reader "number" "Reader.number" s_Reader_number ["self", "stop"] := ⟨f9, _, fun_mk (st := s_Reader_number) l9 c9 k9, ⟨a9, n9, k9⟩, (fun_mk (st := s_Reader_number) l9 c9 k9).binds (ps := ["self", "stop"]) fun _ _ _ _ _ _ us hl => match us, hl with | [_, _], _ => rfl⟩
  have D_Reader_integer : MethDef K C_Reader "integer" "Reader.integer" s_Reader_integer ["self"] := ⟨f10, _, fun_mk (st := s_Reader_integer) l10 c10 k10, ⟨a10, n10, k10⟩, (fun_mk (st := s_Reader_integer) l10 c10 k10).binds (ps := ["self"]) fun _ _ _ _ _ _ us hl => match us, hl with | [_], _ => rfl⟩
  have D_Reader_text : MethDef K C_Reader "text" "Reader.text" s_Reader_text ["self"] := ⟨f11, _, fun_mk (st := s_Reader_text) l11 c11 k11, ⟨a11, n11, k11⟩, (fun_mk (st := s_Reader_text) l11 c11 k11).binds (ps := ["self"]) fun _ _ _ _ _ _ us hl => match us, hl with | [_], _ => rfl⟩
  have D_line_of : DefAt K mg "line_of" s_line_of ["data"] := ⟨f12, _, fun_mk (st := s_line_of) l12 c12 k12, PySem.W.mg_of X G a12, (fun_mk (st := s_line_of) l12 c12 k12).binds (ps := ["data"]) fun _ _ _ _ _ _ us hl => match us, hl with | [_], _ => rfl⟩
  have D_pack : DefAt K mg "pack" s_pack ["data"] := ⟨f13, _, fun_mk (st := s_pack) l13 c13 k13, PySem.W.mg_of X G a13, (fun_mk (st := s_pack) l13 c13 k13).binds (ps := ["data"]) fun _ _ _ _ _ _ us hl => match us, hl with | [_], _ => rfl⟩
  have D_law_data : DefAt K mg "_law_data" s_law_data ["_law_box", "_law_depth"] := ⟨f14, _, fun_mk (st := s_law_data) l14 c14 k14, PySem.W.mg_of X G a14, (fun_mk (st := s_law_data) l14 c14 k14).binds (ps := ["_law_box", "_law_depth"]) fun _ _ _ _ _ _ us hl => match us, hl with | [_, _], _ => rfl⟩
  have D_law_end : DefAt K mg "_law_end" s_law_end ["_law_line", "_law_at", "_law_depth"] := ⟨f15, _, fun_mk (st := s_law_end) l15 c15 k15, PySem.W.mg_of X G a15, (fun_mk (st := s_law_end) l15 c15 k15).binds (ps := ["_law_line", "_law_at", "_law_depth"]) fun _ _ _ _ _ _ us hl => match us, hl with | [_, _, _], _ => rfl⟩
  have D_law_good : DefAt K mg "_law_good" s_law_good ["_law_octets"] := ⟨f16, _, fun_mk (st := s_law_good) l16 c16 k16, PySem.W.mg_of X G a16, (fun_mk (st := s_law_good) l16 c16 k16).binds (ps := ["_law_octets"]) fun _ _ _ _ _ _ us hl => match us, hl with | [_], _ => rfl⟩
  have D_Reader_data : MethDef K C_Reader "data" "Reader.data" s_Reader_data ["self", "depth"] := ⟨f17, _, fun_mk (st := s_Reader_data) l17 c17 k17, ⟨a17, n17, k17⟩, (fun_mk (st := s_Reader_data) l17 c17 k17).binds (ps := ["self", "depth"]) fun _ _ _ _ _ _ us hl => match us, hl with | [_, _], _ => rfl⟩
  have D_unpack : DefAt K mg "unpack" s_unpack ["octets"] := ⟨f18, _, fun_mk (st := s_unpack) l18 c18 k18, PySem.W.mg_of X G a18, (fun_mk (st := s_unpack) l18 c18 k18).binds (ps := ["octets"]) fun _ _ _ _ _ _ us hl => match us, hl with | [_], _ => rfl⟩
  refine ⟨PySem.W.fnOf "law" "law" (defArgs s_law) (defBody s_law) (defScope s_law) .none kV19 dc19 pm19 an19 cd19 ct19, fun s v => .of_eq rfl, fun base _ _ => ?_⟩
  have F_Reader___init__ : MakeAt l.prog w K mg base 1 "Reader" C_Reader 2 (d_Reader___init__ C_Reader) := fa_Reader___init__ T D_Reader___init__ Q_Reader
  have F_Reader_look : MethAt l.prog w K mg base 1 C_Reader "look" 1 (d_Reader_look C_Reader) := fa_Reader_look T D_Reader_look Q_Reader
  have F_sign_of : FnAtX l.prog w K mg base 1 "sign_of" 1 (d_sign_of C_Malformed) := fa_sign_of T D_sign_of EX
  have F_law_number : FnAt l.prog w K mg base 1 "_law_number" 2 d_law_number := fa_law_number T D_law_number
  have F_law_take : FnAt l.prog w K mg base 1 "_law_take" 2 d_law_take := fa_law_take T D_law_take
  have F_law_number_end : FnAt l.prog w K mg base 1 "_law_number_end" 3 d_law_number_end := fa_law_number_end T D_law_number_end
  have F_Reader_take : MethAtX l.prog w K mg base 2 C_Reader "take" 1 (d_Reader_take C_Malformed C_Reader) := fa_Reader_take T D_Reader_take Q_Reader EX F_Reader_look
  have F_law_bent : FnAt l.prog w K mg base 2 "_law_bent" 2 d_law_bent := fa_law_bent T D_law_bent F_law_take
  have F_Reader_take_until : MethAtX l.prog w K mg base 3 C_Reader "take_until" 2 (d_Reader_take_until C_Malformed C_Reader) := fa_Reader_take_until T D_Reader_take_until Q_Reader EX F_Reader_take
  have F_Reader_number : MethAtX l.prog w K mg base 4 C_Reader "number" 2 (d_Reader_number C_Malformed C_Reader) := fa_Reader_number T D_Reader_number Q_Reader EX F_Reader_take_until
  have F_Reader_integer : MethAtX l.prog w K mg base 5 C_Reader "integer" 1 (d_Reader_integer C_Malformed C_Reader) := fa_Reader_integer T D_Reader_integer Q_Reader EX F_Reader_look F_Reader_take F_Reader_number
  have F_Reader_text : MethAtX l.prog w K mg base 5 C_Reader "text" 1 (d_Reader_text C_Malformed C_Reader) := fa_Reader_text T D_Reader_text Q_Reader EX F_Reader_number
  have F_line_of : FnAt l.prog w K mg base 40 "line_of" 1 (d_line_of 40) := fa_line_of T D_line_of 40
  have F_pack : FnAt l.prog w K mg base 41 "pack" 1 d_pack := fa_pack T D_pack F_line_of
  have F_law_data : FnAt l.prog w K mg base 41 "_law_data" 2 (d_law_data 40) := fa_law_data T D_law_data F_law_take 40
  have F_law_end : FnAt l.prog w K mg base 41 "_law_end" 3 (d_law_end 40) := fa_law_end T D_law_end F_law_number_end 40
  have F_law_good : FnAt l.prog w K mg base 42 "_law_good" 1 d_law_good := fa_law_good T D_law_good F_law_end
  have F_Reader_data : MethAtX l.prog w K mg base 45 C_Reader "data" 2 (d_Reader_data C_Malformed C_Reader 40) := fa_Reader_data T D_Reader_data Q_Reader EX F_Reader_look F_Reader_take F_Reader_integer F_Reader_text 40
  have F_unpack : FnAtX l.prog w K mg base 46 "unpack" 1 (d_unpack C_Malformed C_Reader) := fa_unpack T D_unpack Q_Reader EX F_Reader___init__ F_Reader_look F_Reader_data F_sign_of
  exact fo_law T (fun_mk (st := s_law) l19 c19 k19) EX F_pack F_unpack F_law_number F_law_data F_law_good F_law_bent
end
end PM

open PySem PySem.W PyProof.Rows
set_option maxRecDepth 100000 in
set_option maxHeartbeats 0 in
theorem PySem.Challenge.cw_partmeet_k09_malformed_packs_holds : PySem.Challenge.rw_partmeet_k09_malformed_packs.Holds := by
  w_on; o_law; k_head; (case hw => w_witness2)
  k_fill
  refine PM.walkT (l := PySem.Challenge.rw_partmeet_k09_malformed_packs) (n := 63) (k := 47) (x := "_law_script") rfl (by decide) rfl ⟨rfl, by decide, by decide⟩ (fun w h Y => PySem.W.kIn_of Y) ?F
  case F =>
    intro w mg fa h KX G hmg hT
    refine' PM.lawAt0 (PM.all_mk KX G hmg ?gC_MeetError ?gC_Malformed ?gC_OutOfRange ?gC_Reader ?p1_Reader ?p2_Reader ?p3_Reader ?p4_Reader ?na_Reader_at ?na_Reader_line ?mk1_Reader ?mk2_Reader ?e1_Malformed ?e2_Malformed ?e3_Malformed ?e4_Malformed ?y1_Malformed ?y2_Malformed ?y4_Malformed ?y5_Malformed ?y6_Malformed ?y7_Malformed ?y8_Malformed ?x_Malformed_MeetError ?k_Malformed_Malformed ?k_Malformed_OutOfRange ?k_Malformed_ValueError ?a0 ?l0 ?c0 ?k0 ?n0 ?a1 ?l1 ?c1 ?k1 ?n1 ?a2 ?l2 ?c2 ?k2 ?a3 ?l3 ?c3 ?k3 ?a4 ?l4 ?c4 ?k4 ?a5 ?l5 ?c5 ?k5 ?a6 ?l6 ?c6 ?k6 ?n6 ?a7 ?l7 ?c7 ?k7 ?a8 ?l8 ?c8 ?k8 ?n8 ?a9 ?l9 ?c9 ?k9 ?n9 ?a10 ?l10 ?c10 ?k10 ?n10 ?a11 ?l11 ?c11 ?k11 ?n11 ?a12 ?l12 ?c12 ?k12 ?a13 ?l13 ?c13 ?k13 ?a14 ?l14 ?c14 ?k14 ?a15 ?l15 ?c15 ?k15 ?a16 ?l16 ?c16 ?k16 ?a17 ?l17 ?c17 ?k17 ?n17 ?a18 ?l18 ?c18 ?k18 ?a19 ?l19 ?c19 ?k19 ?z_ValueError ?z_any ?z_int ?z_isinstance ?z_len ?z_list ?z_ord ?z_range ?z_str ?z_tuple ?g_MOST_DEPTH ?g_MOST_INTEGER ?g_DIGITS ?g_LOW_SIGNS ?g_HIGH_SIGNS ?g_FIRST_LOW ?g_FIRST_HIGH) fun ns hl => PM.law_den _ _ _ _ ns hl
    (case gC_MeetError => k_is); (case gC_Malformed => k_is); (case gC_OutOfRange => k_is); (case gC_Reader => k_is)
    (case p1_Reader => k_is); (case p2_Reader => k_is); (case p3_Reader => k_is); (case p4_Reader => k_is)
    (case na_Reader_at => k_is); (case na_Reader_line => k_is); (case mk1_Reader => k_is); (case mk2_Reader => k_is)
    (case e1_Malformed => k_exc); (case e2_Malformed => k_is); (case e3_Malformed => k_is); (case e4_Malformed => k_is)
    (case y1_Malformed => k_is); (case y2_Malformed => k_is); (case y4_Malformed => k_is); (case y5_Malformed => k_is)
    (case y6_Malformed => k_is); (case y7_Malformed => k_is); (case y8_Malformed => k_is); (case x_Malformed_MeetError => kernel_rfl)
    (case k_Malformed_Malformed => kernel_rfl); (case k_Malformed_OutOfRange => kernel_rfl); (case k_Malformed_ValueError => kernel_rfl); (case a0 => k_is)
    (case l0 => k_is); (case c0 => k_is); (case k0 => k_is); (case n0 => k_is)
    (case a1 => k_is); (case l1 => k_is); (case c1 => k_is); (case k1 => k_is)
    (case n1 => k_is); (case a2 => k_is); (case l2 => k_is); (case c2 => k_is)
    (case k2 => k_is); (case a3 => k_is); (case l3 => k_is); (case c3 => k_is)
    (case k3 => k_is); (case a4 => k_is); (case l4 => k_is); (case c4 => k_is)
    (case k4 => k_is); (case a5 => k_is); (case l5 => k_is); (case c5 => k_is)
    (case k5 => k_is); (case a6 => k_is); (case l6 => k_is); (case c6 => k_is)
    (case k6 => k_is); (case n6 => k_is); (case a7 => k_is); (case l7 => k_is)
    (case c7 => k_is); (case k7 => k_is); (case a8 => k_is); (case l8 => k_is)
    (case c8 => k_is); (case k8 => k_is); (case n8 => k_is); (case a9 => k_is)
    (case l9 => k_is); (case c9 => k_is); (case k9 => k_is); (case n9 => k_is)
    (case a10 => k_is); (case l10 => k_is); (case c10 => k_is); (case k10 => k_is)
    (case n10 => k_is); (case a11 => k_is); (case l11 => k_is); (case c11 => k_is)
    (case k11 => k_is); (case n11 => k_is); (case a12 => k_is); (case l12 => k_is)
    (case c12 => k_is); (case k12 => k_is); (case a13 => k_is); (case l13 => k_is)
    (case c13 => k_is); (case k13 => k_is); (case a14 => k_is); (case l14 => k_is)
    (case c14 => k_is); (case k14 => k_is); (case a15 => k_is); (case l15 => k_is)
    (case c15 => k_is); (case k15 => k_is); (case a16 => k_is); (case l16 => k_is)
    (case c16 => k_is); (case k16 => k_is); (case a17 => k_is); (case l17 => k_is)
    (case c17 => k_is); (case k17 => k_is); (case n17 => k_is); (case a18 => k_is)
    (case l18 => k_is); (case c18 => k_is); (case k18 => k_is); (case a19 => k_is)
    (case l19 => k_is); (case c19 => k_is); (case k19 => k_is); (case z_ValueError => k_is)
    (case z_any => k_is); (case z_int => k_is); (case z_isinstance => k_is); (case z_len => k_is)
    (case z_list => k_is); (case z_ord => k_is); (case z_range => k_is); (case z_str => k_is)
    (case z_tuple => k_is); (case g_MOST_DEPTH => k_is); (case g_MOST_INTEGER => k_is); (case g_DIGITS => k_is)
    (case g_LOW_SIGNS => k_is); (case g_HIGH_SIGNS => k_is); (case g_FIRST_LOW => k_is); (case g_FIRST_HIGH => k_is)
