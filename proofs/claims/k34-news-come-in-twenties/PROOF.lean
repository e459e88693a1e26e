import PyProof.Rows.All
import HandS.Dict
import KE.KeyNested
import HandS.List
import HandS.ForMost
import HandS.ForExc
import HandS.TupAny
import HandS.Deep
import HandS.IsInst
import HandS.Zip
import HandS.Conv
import HandS.More
import HandS.Flow
import HandS.Style
import HandS.Strs
import HandS.SetKeys
import HandS.TupSets
import HandS.SortKw
import HandS.SortInts
import HandS.Wide
import HandS.TupLe
import HandS.TupMul
import HandS.WordsExc
import HandS.Lambda
import PyProof.StrOps2
import KE.SortData
import HandS.Set
import HandS.SetBool
import KE.SortKeyHeap
import HandS.EndTab
import HandS.Iter
import HandS.DictEq
import HandS.New
import HandS.Call
import HandS.Exc
import HandS.ExcOwn
import HandS.ExcIs
import PySem.Challenge.RW_partmeet_k34_news_come_in_twenties
import Wide.All
import OpenK.AllK
import Wide.FinOn
set_option Elab.async false
set_option linter.all false
set_option maxRecDepth 100000
set_option autoImplicit false
namespace PM
open PySem PySem.Spec L2
open Sem (wp)
open PyProof.Rows hiding St

/-! ### dicts whose keys are nested data, None among them -/
abbrev NEnt := NestedKey × Value × Value
def nEnt (w : World) (x : NEnt) : DictEntry := ⟨x.1.hash w, x.2.1, x.2.2⟩
def nKeyAt (xs : List NEnt) (k : NestedKey) (i : Nat) : Bool := match xs[i]? with
  | some x => decide (x.1 = k)
  | none => false
section
variable {prog : Program} {w : World} {A : Around} {E : Value → Shared → Prop} {s : Shared}
/-- what a search among places gives -/
structure NSeek (w : World) (s : Shared) (xs : List NEnt) (es : Array DictEntry) : Prop where
  ent : ∀ i : Nat, es[i]? = (xs[i]?).map (nEnt w)
  sz : es.size = xs.length
  key : ∀ x ∈ xs, NestedIs s.heap x.1 x.2.1 ∧ x.1.depth ≤ 8
  nd : (xs.map (·.1)).Nodup
/-- where a search stands, l the places that are left -/
def nHit (xs : List NEnt) (k : NestedKey) (Q : Option Nat → Shared → Prop) (s : Shared) (l : List Nat) : Option Nat → Prop
  | some j => nKeyAt xs k j = true ∧ j ∉ l ∧ Q (some j) s
  | none => Q (l.find? (nKeyAt xs k)) s
end
end PM

namespace PM
open PySem PySem.Spec L2
open Sem (wp)
open PyProof.Rows hiding St

/-! ### a key: None, or a tuple of numbers -/
abbrev OKey := Option (List Int)
def OKey.nk : OKey → NestedKey
  | none => .none
  | some is => .tup (is.map .num)
/-- an entry: the key, its value, what it holds -/
abbrev OEnt := OKey × Value × Value
def oN (x : OEnt) : NEnt := (x.1.nk, x.2)
/-- the dict at a has just these entries -/
def NDict (a : Addr) (es : List OEnt) : Heap → Prop := fun h => (a == sysModules) = false ∧ es.length ≤ sizeLine ∧ ∃ o er ep, h.get? a = some o ∧ o.ExactDict ∧ o.data = .dict er ep ∧ (∀ w, er.toList = es.map fun x => nEnt w (oN x)) ∧ (es.map (·.1)).Nodup
def oAt (es : List OEnt) (k : OKey) : Option Value := (es.find? fun x => decide (x.1 = k)).map (·.2.2)
section
variable {prog : Program} {w : World} {A : Around} {E : Value → Shared → Prop} {s : Shared}
end
section
variable {prog : Program} {w : World} (d : Addr)
end
end PM

namespace PM
open PySem PySem.Spec L2
open Sem (wp)
open PyProof.Rows hiding St
section
variable {X : Cx} {pins : List (Addr × Obj)} {σ : St} {H : Hp} {s : Shared}
/-- a value that is a key -/
def KeyV (K : PySem.W.Frag) (H : Hp) : V → OKey → Prop
  | .non, none => True
  | .ref a, some is => SqT K H a (is.map V.int)
  | _, _ => False
/-- what is asked of such a dict -/
def DictV (K : PySem.W.Frag) (H : Hp) (a : Addr) (es : List OEnt) (kvs : List (OKey × V)) : Prop :=
  H a = some (.ext (NDict a es)) ∧ es.map (·.1) = kvs.map (·.1) ∧ (∃ ks, Paired (KeyV K H) ks (es.map (·.1)) ∧ Vals ks (es.map (·.2.1))) ∧ Vals (kvs.map (·.2)) (es.map (·.2.2))
def rGetN (K : PySem.W.Frag) : V → List V → Hp → VK → Prop := fun x xs H Q => ∃ (a : Addr) (es : List OEnt) (kvs : List (OKey × V)) (kx d : V) (k : OKey), x = .ref a ∧ xs = [kx, d] ∧ DictV K H a es kvs ∧ KeyV K H kx k ∧ Q ((valV kvs k).getD d) H
def rSetdN (K : PySem.W.Frag) : V → List V → Hp → VK → Prop := fun x xs H Q => ∃ (a : Addr) (es : List OEnt) (kvs : List (OKey × V)) (kx d : V) (k : OKey), x = .ref a ∧ xs = [kx, d] ∧ DictV K H a es kvs ∧ KeyV K H kx k ∧ es.length < sizeLine ∧
  (∀ v, valV kvs k = some v → Q v H) ∧ (valV kvs k = none → ∀ u w, RelV kx u → RelV d w → Q d (upd H a (.ext (NDict a (es ++ [(k, u, w)])))))
/-- {} -/
def tNewN : TE := fun _ H Q => ∀ p, H p = none → Q (.ref p) (upd H p (.ext (NDict p [])))
end
end PM

/-! Values without a heap, symbolic cells, and how they lie in the layer's abstract heap. -/
namespace PM
open PySem PySem.Spec L2
open PyProof.Rows hiding St

/-- pure values; a list here never changes any more; ref: a cell of the symbolic heap -/
inductive PV where
  | non | bl (b : Bool) | int (i : Int) | str (x : Str) | tup (xs : List PV) | lst (xs : List PV) | ref (n : Nat)

/-- a cell: what may change -/
inductive Cell where
  | lst (xs : List PV)
  | dK (kvs : List (Key × PV))
  | dT (kvs : List (List Key × PV))
  | ins (C : Addr) (fs : List (Str × PV))
  /-- the table of code objects at P, whose code objects bear the name q -/
  | tab (P : Addr) (q : Str)
  /-- a dict whose keys are None and tuples of numbers -/
  | dN (kvs : List (OKey × PV))
  /-- a dict of ints and texts that is locked while it is walked; its object, its values where they lie -/
  | lkK (o : Obj) (us : List (Key × V)) (kvs : List (Key × PV))

def okP : OKey → PV
  | none => .non
  | some is => .tup (is.map .int)
/-- what a name or an expression may hold: a value; a list of its own; a list that is only read; the script -/
inductive SV where
  | val (p : PV) | own (xs : List PV) | brw (xs : List PV) | scr (ns : List Int)
  /-- a caught exception at a, of the class D -/
  | exc (D a : Addr)
@[simp] def SV.isB : SV → Bool
  | .brw _ => true
  | .scr _ => true
  | .exc _ _ => true
  | _ => false
@[simp] def SV.isOwn : SV → Bool
  | .own _ => true
  | _ => false

abbrev Hs := List Cell
abbrev Env := List (Option SV)
abbrev VQ := SV → Hs → Prop
abbrev XQ := Addr → Hs → Prop
abbrev DE := Env → Hs → VQ → XQ → Prop
abbrev DA := Env → Hs → (List SV → Hs → Prop) → XQ → Prop
abbrev DT := Env → Hs → (Bool → Hs → Prop) → XQ → Prop
structure DEnds where
  nx : Env → Hs → Prop
  rt : VQ
  bk : Env → Hs → Prop := fun _ _ => False
  ct : Env → Hs → Prop := fun _ _ => False
  ex : Addr → Env → Hs → Prop := fun _ _ _ => False
abbrev DS := DEnds → Env → Hs → Prop
abbrev DF := List SV → Hs → VQ → XQ → Prop

/-! ### how values lie -/
abbrev Ad := Addr → Prop
def KTup (K : PySem.W.Frag) (a : Addr) (xs : List V) : Prop :=
  ∃ (o : Obj) (its : Array Value) (n : Nat), K.lookup a = some o ∧ o.cls = .type "tuple" ∧ o.data = .seq its n ∧ its.size ≤ sizeLine ∧ Vals xs its.toList
def TupAt (K : PySem.W.Frag) (Ex : Ad) (H : Hp) (a : Addr) (xs : List V) : Prop := (Rd H a (.tup xs) ∧ ¬ Ex a) ∨ KTup K a xs
def LstAt (Ex : Ad) (H : Hp) (a : Addr) (xs : List V) : Prop := Rd H a (.lst xs) ∧ ¬ Ex a
theorem TupAt.sq {K : PySem.W.Frag} {Ex : Ad} {H : Hp} {a : Addr} {xs : List V} (h : TupAt K Ex H a xs) : SqT K H a xs := h.imp And.left id
theorem LstAt.sq {K : PySem.W.Frag} {Ex : Ad} {H : Hp} {a : Addr} {xs : List V} (h : LstAt Ex H a xs) : SqL K H a xs := .inl h.1

mutual
inductive Rep (K : PySem.W.Frag) (Ex : Ad) (m : List Addr) (H : Hp) : V → PV → Prop
  | non : Rep K Ex m H .non .non
  | bl (b : Bool) : Rep K Ex m H (.bl b) (.bl b)
  | int (i : Int) : Rep K Ex m H (.int i) (.int i)
  | str (x : Str) : Rep K Ex m H (.str x) (.str x)
  | tup {a : Addr} {vs : List V} {xs : List PV} (h : TupAt K Ex H a vs) (r : RepL K Ex m H vs xs) : Rep K Ex m H (.ref a) (.tup xs)
  | lst {a : Addr} {vs : List V} {xs : List PV} (h : LstAt Ex H a vs) (r : RepL K Ex m H vs xs) : Rep K Ex m H (.ref a) (.lst xs)
  | ref {n : Nat} {a : Addr} (h : m[n]? = some a) : Rep K Ex m H (.ref a) (.ref n)
inductive RepL (K : PySem.W.Frag) (Ex : Ad) (m : List Addr) (H : Hp) : List V → List PV → Prop
  | nil : RepL K Ex m H [] []
  | cons {v : V} {p : PV} {vs : List V} {ps : List PV} (h : Rep K Ex m H v p) (r : RepL K Ex m H vs ps) : RepL K Ex m H (v :: vs) (p :: ps)
end

/-- what is known outside Ex stays known outside Ex' -/
def Kp (Ex : Ad) (H : Hp) (Ex' : Ad) (H' : Hp) : Prop := ∀ a o, H a = some o → ¬ Ex a → H' a = some o ∧ ¬ Ex' a
theorem Kp.rd {Ex Ex' : Ad} {H H' : Hp} {a : Addr} {u : HO} (k : Kp Ex H Ex' H') (h : Rd H a u) (n : ¬ Ex a) : Rd H' a u ∧ ¬ Ex' a := by
  rcases h with h | ⟨o, h⟩
  · exact ⟨.inl (k _ _ h n).1, (k _ _ h n).2⟩
  · exact ⟨.inr ⟨o, (k _ _ h n).1⟩, (k _ _ h n).2⟩
section
variable {K : PySem.W.Frag} {Ex Ex' : Ad} {m m' : List Addr} {H H' : Hp}
theorem TupAt.mono {a : Addr} {xs : List V} (h : TupAt K Ex H a xs) (k : Kp Ex H Ex' H') : TupAt K Ex' H' a xs := by
  rcases h with ⟨h, n⟩ | h
  · exact .inl (k.rd h n)
  · exact .inr h
theorem LstAt.mono {a : Addr} {xs : List V} (h : LstAt Ex H a xs) (k : Kp Ex H Ex' H') : LstAt Ex' H' a xs := k.rd h.1 h.2
mutual
theorem Rep.mono {v : V} {p : PV} (k : Kp Ex H Ex' H') (e : ∃ ms, m' = m ++ ms) : Rep K Ex m H v p → Rep K Ex' m' H' v p
  | .non => .non
  | .bl b => .bl b
  | .int i => .int i
  | .str x => .str x
  | .tup h r => .tup (h.mono k) (RepL.mono k e r)
  | .lst h r => .lst (h.mono k) (RepL.mono k e r)
  | .ref h => .ref (by
      obtain ⟨ms, rfl⟩ := e
      exact List.getElem?_append_left (List.getElem?_eq_some_iff.mp h).1 ▸ h)
theorem RepL.mono {vs : List V} {ps : List PV} (k : Kp Ex H Ex' H') (e : ∃ ms, m' = m ++ ms) : RepL K Ex m H vs ps → RepL K Ex' m' H' vs ps
  | .nil => .nil
  | .cons h r => .cons (Rep.mono k e h) (RepL.mono k e r)
end
theorem RepL.length {vs : List V} {ps : List PV} : RepL K Ex m H vs ps → vs.length = ps.length
  | .nil => rfl
  | .cons _ r => by simp [r.length]
theorem RepL.append : ∀ {vs ws : List V} {ps qs : List PV}, RepL K Ex m H vs ps → RepL K Ex m H ws qs → RepL K Ex m H (vs ++ ws) (ps ++ qs)
  | _, _, _, _, .nil, s => s
  | _, _, _, _, .cons h r, s => .cons h (r.append s)
theorem RepL.get : ∀ {vs : List V} {ps : List PV} {i : Nat} {p : PV}, RepL K Ex m H vs ps → ps[i]? = some p → ∃ v, vs[i]? = some v ∧ Rep K Ex m H v p
  | _, _, _, _, .nil, e => by simp at e
  | _, _, 0, _, .cons h _, e => by
    obtain rfl := Option.some.inj e
    exact ⟨_, rfl, h⟩
  | _, _, i + 1, _, .cons _ r, e => r.get (i := i) e
theorem RepL.get' : ∀ {vs : List V} {ps : List PV} {i : Nat} {v : V}, RepL K Ex m H vs ps → vs[i]? = some v → ∃ p, ps[i]? = some p ∧ Rep K Ex m H v p
  | _, _, _, _, .nil, e => by simp at e
  | _, _, 0, _, .cons h _, e => by
    obtain rfl := Option.some.inj e
    exact ⟨_, rfl, h⟩
  | _, _, i + 1, _, .cons _ r, e => r.get' (i := i) e
theorem RepL.set : ∀ {vs : List V} {ps : List PV} {v : V} {p : PV} (i : Nat), RepL K Ex m H vs ps → Rep K Ex m H v p → RepL K Ex m H (vs.set i v) (ps.set i p)
  | _, _, _, _, _, .nil, _ => .nil
  | _, _, _, _, 0, .cons _ r, q => .cons q r
  | _, _, _, _, i + 1, .cons h r, q => .cons h (r.set i q)
theorem RepL.take : ∀ {vs : List V} {ps : List PV} (n : Nat), RepL K Ex m H vs ps → RepL K Ex m H (vs.take n) (ps.take n)
  | _, _, 0, _ => .nil
  | _, _, _ + 1, .nil => .nil
  | _, _, n + 1, .cons h r => .cons h (r.take n)
theorem RepL.drop : ∀ {vs : List V} {ps : List PV} (n : Nat), RepL K Ex m H vs ps → RepL K Ex m H (vs.drop n) (ps.drop n)
  | _, _, 0, r => r
  | _, _, _ + 1, .nil => .nil
  | _, _, n + 1, .cons _ r => r.drop n
theorem RepL.ints : ∀ {vs : List V} {ns : List Int}, RepL K Ex m H vs (ns.map PV.int) → vs = ns.map V.int
  | _, [], .nil => rfl
  | _, n :: ns, .cons h r => by
    cases h
    rw [RepL.ints r]
    rfl
theorem RepL.of_ints : ∀ {ns : List Int}, RepL K Ex m H (ns.map V.int) (ns.map PV.int)
  | [] => .nil
  | n :: ns => .cons (.int n) RepL.of_ints
end

/-! ### names -/
def OwnAt (σ : St) (env : Env) (a : Addr) : Prop := ∃ (i : Nat) (xs : List PV), env[i]? = some (some (SV.own xs)) ∧ σ[i]? = some (some (V.ref a))
/-- the frame of a call: G what stands outside and must not be met, H0, m0 the heap and cells at its beginning, pins: values that are kept beside the names -/
structure Ctx where
  K : PySem.W.Frag
  G : Ad
  T : Ad := fun _ => False
  H0 : Hp
  m0 : List Addr
  pins : List (V × SV) := []
def Ctx.GT (C : Ctx) (a : Addr) : Prop := C.G a ∨ C.T a
def ExOf (C : Ctx) (σ : St) (env : Env) (m : List Addr) : Ad := fun a => C.GT a ∨ OwnAt σ env a ∨ a ∈ m
/-- how a slot's or an expression's value lies; N: what is said of the place of a list of its own -/
def RepS (C : Ctx) (Ex : Ad) (m : List Addr) (N : Ad) (H : Hp) (v : V) : SV → Prop
  | .val p => Rep C.K Ex m H v p
  | .own xs => ∃ a vs, v = .ref a ∧ H a = some (.lst vs) ∧ N a ∧ a ∉ m ∧ RepL C.K (fun b => Ex b ∨ b = a) m H vs xs
  | .brw xs => ∃ a vs, v = .ref a ∧ LstAt (· ∈ m) H a vs ∧ RepL C.K Ex m H vs xs
  | .scr ns => ∃ a, v = .ref a ∧ ((Rd H a (.lst (ns.map V.int)) ∧ a ∉ m) ∨ ∀ H', SqL C.K H' a (ns.map V.int))
  | .exc _ a => v = .ref a

def CellR (K : PySem.W.Frag) (Ex : Ad) (m : List Addr) (H : Hp) (a : Addr) : Cell → Prop
  | .lst xs => ∃ vs, H a = some (.lst vs) ∧ RepL K Ex m H vs xs
  | .dK kvs => ∃ vs, H a = some (.dK vs) ∧ vs.map (·.1) = kvs.map (·.1) ∧ RepL K Ex m H (vs.map (·.2)) (kvs.map (·.2))
  | .dT kvs => ∃ vs, H a = some (.dT vs) ∧ vs.map (·.1) = kvs.map (·.1) ∧ RepL K Ex m H (vs.map (·.2)) (kvs.map (·.2))
  | .ins D fs => ∃ dx vs, H a = some (.ins D dx vs) ∧ H dx = some (.own a) ∧ ¬ Ex dx ∧ vs.map (·.1) = fs.map (·.1) ∧ RepL K Ex m H (vs.map (·.2)) (fs.map (·.2))
  | .tab P q => a = P ∧ ∃ ps : Array Value, H a = some (.tbl ps) ∧ TriplesOk ps.toList ∧ ∀ (pos : Pos) (cv : Value), codeAmong pos ps.toList = some cv → ∃ c, cv = .ref c ∧ H c = some (LamX.CodeO c q) ∧ ¬ Ex c
  | .dN kvs => ∃ (es : List OEnt) (ks : List V) (vs : List V), H a = some (.ext (NDict a es)) ∧ es.map (·.1) = kvs.map (·.1) ∧ Vals ks (es.map (·.2.1)) ∧ Vals vs (es.map (·.2.2)) ∧ RepL K Ex m H ks (kvs.map fun x => okP x.1) ∧ RepL K Ex m H vs (kvs.map (·.2))
  | .lkK o us kvs => H a = some (.frz o (.dK us)) ∧ us.map (·.1) = kvs.map (·.1) ∧ RepL K Ex m H (us.map (·.2)) (kvs.map (·.2))
structure HeapR (K : PySem.W.Frag) (Ex : Ad) (m : List Addr) (H : Hp) (h : Hs) : Prop where
  len : m.length = h.length
  nd : m.Nodup
  at_ : ∀ (n : Nat) (a : Addr) (c : Cell), m[n]? = some a → h[n]? = some c → CellR K Ex m H a c

/-- a list that is read stands apart from the lists of one's own -/
def NB (C : Ctx) (σ : St) (env : Env) (v : V) : SV → Prop
  | .brw _ => ∀ b, v = .ref b → ¬ OwnAt σ env b ∧ ¬ C.T b
  | .scr ns => ∀ b, v = .ref b → (∀ H', SqL C.K H' b (ns.map V.int)) ∨ (¬ OwnAt σ env b ∧ ¬ C.T b)
  | _ => True
def SlotR (C : Ctx) (σ : St) (env : Env) (m : List Addr) (H : Hp) (v : V) (sv : SV) : Prop :=
  RepS C (ExOf C σ env m) m (fun a => C.H0 a = none) H v sv ∧ NB C σ env v sv
structure Rel (C : Ctx) (m : List Addr) (σ : St) (H : Hp) (env : Env) (h : Hs) : Prop where
  len : σ.length = env.length
  slot : ∀ (i : Nat) (sv : SV), env[i]? = some (some sv) → ∃ v, σ[i]? = some (some v) ∧ SlotR C σ env m H v sv
  pin : ∀ p ∈ C.pins, SlotR C σ env m H p.1 p.2 ∧ p.2.isOwn = false
  uniq : ∀ (i j : Nat) (xs ys : List PV) (a : Addr), env[i]? = some (some (SV.own xs)) → env[j]? = some (some (SV.own ys)) → σ[i]? = some (some (V.ref a)) → σ[j]? = some (some (V.ref a)) → i = j
  hm : HeapR C.K (ExOf C σ env m) m H h
  keep : ∀ b o, C.H0 b = some o → b ∉ C.m0 → H b = some o
  dom : ∀ b, C.H0 b ≠ none → H b ≠ none
  pre : ∃ ms, m = C.m0 ++ ms ∧ ∀ b ∈ ms, C.H0 b = none
  gdom : ∀ a, C.GT a → H a ≠ none
  gown : ∀ a, C.GT a → ¬ OwnAt σ env a

/-- a step of an expression: the cells may change, new things may stand -/
structure StE (m : List Addr) (H : Hp) (m' : List Addr) (H' : Hp) : Prop where
  keep : ∀ b o, H b = some o → b ∉ m → H' b = some o
  dom : ∀ b, H b ≠ none → H' b ≠ none
  ext : ∃ ms, m' = m ++ ms ∧ ∀ b ∈ ms, H b = none
theorem StE.refl (m : List Addr) (H : Hp) : StE m H m H := ⟨fun _ _ h _ => h, fun _ h => h, [], by simp, by simp⟩
theorem StE.trans {m m1 m2 : List Addr} {H H1 H2 : Hp} (a : StE m H m1 H1) (b : StE m1 H1 m2 H2) : StE m H m2 H2 := by
  obtain ⟨ms, rfl, n1⟩ := a.ext
  obtain ⟨ns, rfl, n2⟩ := b.ext
  refine ⟨fun c o h n => b.keep c o (a.keep c o h n) fun q => ?_, fun c h => b.dom c (a.dom c h), ms ++ ns, by simp, fun c hc => ?_⟩
  · rcases List.mem_append.mp q with q | q
    · exact n q
    · rw [n1 c q] at h
      cases h
  · rcases List.mem_append.mp hc with q | q
    · exact n1 c q
    · cases e : H c with
      | none => rfl
      | some o => exact absurd (n2 c q) (a.dom c (by rw [e]; simp))
theorem StE.notin {m m' : List Addr} {H H' : Hp} (a : StE m H m' H') {b : Addr} (h : H b ≠ none) (n : b ∉ m) : b ∉ m' := by
  obtain ⟨ms, rfl, n1⟩ := a.ext
  intro q
  rcases List.mem_append.mp q with q | q
  · exact n q
  · exact h (n1 b q)
theorem StE.ex' {m m' : List Addr} {H H' : Hp} (a : StE m H m' H') : ∃ ms, m' = m ++ ms := by
  obtain ⟨ms, e, _⟩ := a.ext
  exact ⟨ms, e⟩
/-- the cells' facts alone -/
theorem StE.kp {m m' : List Addr} {H H' : Hp} (a : StE m H m' H') {Ex Ex' : Ad} (h1 : ∀ b, b ∈ m → Ex b) (h2 : ∀ b, Ex' b → Ex b ∨ b ∈ m') : Kp Ex H Ex' H' := fun b o e n => by
  have nm : b ∉ m := fun q => n (h1 b q)
  exact ⟨a.keep b o e nm, fun q => (h2 b q).elim n (a.notin (by rw [e]; simp) nm)⟩
theorem StE.same {m : List Addr} {H H' : Hp} (s : Same H H') : StE m H m H' where
  keep := fun b o e _ => s b o e
  dom := fun b h q => by
    cases e : H b with
    | none => exact h e
    | some o =>
      rw [s b o e] at q
      cases q
  ext := ⟨[], by simp, by simp⟩
theorem Same.upd {H : Hp} {p : Addr} {o : HO} (n : H p = none) : Same H (upd H p o) := fun b u e => by
  rw [upd_ne (ne_of_none e n)]
  exact e
theorem StE.new {m : List Addr} {H : Hp} {p : Addr} {o : HO} (n : H p = none) : StE m H m (upd H p o) := StE.same (Same.upd n)

section
variable {C : Ctx} {m m' : List Addr} {σ : St} {H H' : Hp} {env : Env} {h h' : Hs}
theorem Rel.ownDom (R : Rel C m σ H env h) {a : Addr} (o : OwnAt σ env a) : ∃ vs, H a = some (.lst vs) ∧ C.H0 a = none ∧ a ∉ m := by
  obtain ⟨i, xs, e, s⟩ := o
  obtain ⟨v, s', ⟨a', vs, rfl, ha, h0, nm, _⟩, _⟩ := R.slot i _ e
  rw [s] at s'
  cases s'
  exact ⟨vs, ha, h0, nm⟩
theorem Rel.mDom (R : Rel C m σ H env h) {a : Addr} (o : a ∈ m) : H a ≠ none := by
  obtain ⟨n, hn, e⟩ := List.getElem_of_mem o
  have e1 : m[n]? = some a := by rw [List.getElem?_eq_getElem hn, e]
  obtain ⟨c, hc⟩ : ∃ c, h[n]? = some c := ⟨h[n]'(by rw [← R.hm.len]; exact hn), List.getElem?_eq_getElem _⟩
  have q := R.hm.at_ n a c e1 hc
  cases c with
  | lst xs => obtain ⟨vs, q, _⟩ := q; rw [q]; simp
  | dK xs => obtain ⟨vs, q, _⟩ := q; rw [q]; simp
  | dT xs => obtain ⟨vs, q, _⟩ := q; rw [q]; simp
  | ins D fs => obtain ⟨dx, vs, q, _⟩ := q; rw [q]; simp
  | tab P n => obtain ⟨_, ps, q, _⟩ := q; rw [q]; simp
  | dN kvs => obtain ⟨es, ks, vs, q, _⟩ := q; rw [q]; simp
  | lkK o us kvs => obtain ⟨q, _⟩ := q; rw [q]; simp
theorem Rel.exDom (R : Rel C m σ H env h) {a : Addr} (o : ExOf C σ env m a) : H a ≠ none := by
  rcases o with g | o | o
  · exact R.gdom a g
  · obtain ⟨vs, e, _⟩ := R.ownDom o
    rw [e]; simp
  · exact R.mDom o
/-- a new place is not met by anything -/
theorem Rel.exNew (R : Rel C m σ H env h) {p : Addr} (n : H p = none) : ¬ ExOf C σ env m p := fun q => R.exDom q n
theorem ExOf.step {b : Addr} (q : ExOf C σ env m' b) : ExOf C σ env m b ∨ b ∈ m' := by
  rcases q with q | q | q
  · exact .inl (.inl q)
  · exact .inl (.inr (.inl q))
  · exact .inr q
theorem Rel.kp (R : Rel C m σ H env h) (S : StE m H m' H') : Kp (ExOf C σ env m) H (ExOf C σ env m') H' :=
  S.kp (fun _ q => .inr (.inr q)) fun _ q => q.step
/-- an expression's value behind a further step -/
theorem RepS.step {N N' : Ad} {v : V} {sv : SV} (r : RepS C (ExOf C σ env m) m N H v sv) (S : StE m H m' H') (hN : ∀ a, N a → N' a) : RepS C (ExOf C σ env m') m' N' H' v sv := by
  have k : Kp (ExOf C σ env m) H (ExOf C σ env m') H' := S.kp (fun _ q => .inr (.inr q)) fun _ q => q.step
  cases sv with
  | val p => exact Rep.mono k S.ex' r
  | own xs =>
    obtain ⟨a, vs, rfl, ha, n, nm, q⟩ := r
    refine ⟨a, vs, rfl, S.keep _ _ ha nm, hN a n, S.notin (by rw [ha]; simp) nm, RepL.mono ?_ S.ex' q⟩
    refine S.kp (fun _ q => .inl (.inr (.inr q))) fun b q => ?_
    rcases q with q | q
    · exact q.step.imp .inl id
    · exact .inl (.inr q)
  | brw xs =>
    obtain ⟨a, vs, rfl, ha, q⟩ := r
    exact ⟨a, vs, rfl, ha.mono (S.kp (fun _ q => q) fun b q => .inr q), RepL.mono k S.ex' q⟩
  | exc _ _ => first | (cases e; done) | (cases nb; done) | exact r | exact r1 | exact ⟨r, trivial⟩ | exact ⟨r1, trivial⟩ | exact ⟨rv, trivial⟩ | trivial
  | scr ns =>
    obtain ⟨a, rfl, ha⟩ := r
    refine ⟨a, rfl, ha.imp (fun ha => ?_) id⟩
    obtain ⟨h1, h2⟩ := LstAt.mono (Ex := (· ∈ m)) (Ex' := (· ∈ m')) ha (S.kp (fun _ q => q) fun b q => .inr q)
    exact ⟨h1, h2⟩
/-- the names behind a step, if the cells are told anew -/
theorem Rel.step (R : Rel C m σ H env h) (S : StE m H m' H') (hm : HeapR C.K (ExOf C σ env m') m' H' h') : Rel C m' σ H' env h' where
  len := R.len
  slot := fun i sv e => by
    obtain ⟨v, s, r, b⟩ := R.slot i sv e
    exact ⟨v, s, r.step S fun _ q => q, b⟩
  pin := fun p hp => ⟨⟨(R.pin p hp).1.1.step S fun _ q => q, (R.pin p hp).1.2⟩, (R.pin p hp).2⟩
  uniq := R.uniq
  hm := hm
  keep := fun b o e n => by
    obtain ⟨ms, rfl, hn⟩ := R.pre
    refine S.keep b o (R.keep b o e n) fun q => ?_
    rcases List.mem_append.mp q with q | q
    · exact n q
    · rw [hn b q] at e
      cases e
  dom := fun b q => S.dom b (R.dom b q)
  pre := by
    obtain ⟨ms, rfl, hn⟩ := R.pre
    obtain ⟨ns, rfl, hn2⟩ := S.ext
    refine ⟨ms ++ ns, by simp, fun b hb => ?_⟩
    rcases List.mem_append.mp hb with q | q
    · exact hn b q
    · cases e : C.H0 b with
      | none => rfl
      | some o => exact absurd (hn2 b q) (R.dom b (by rw [e]; simp))
  gdom := fun a q => S.dom a (R.gdom a q)
  gown := R.gown
theorem CellR.mono {K : PySem.W.Frag} {Ex Ex' : Ad} {a : Addr} {c : Cell} (r : CellR K Ex m H a c) (k : Kp Ex H Ex' H') (e : ∃ ms, m' = m ++ ms) (s : H' a = H a) : CellR K Ex' m' H' a c := by
  cases c with
  | lst xs =>
    obtain ⟨vs, h, q⟩ := r
    exact ⟨vs, s.trans h, q.mono k e⟩
  | dK xs =>
    obtain ⟨vs, h, z, q⟩ := r
    exact ⟨vs, s.trans h, z, q.mono k e⟩
  | dT xs =>
    obtain ⟨vs, h, z, q⟩ := r
    exact ⟨vs, s.trans h, z, q.mono k e⟩
  | ins D fs =>
    obtain ⟨dx, vs, h, hd, nd, z, q⟩ := r
    exact ⟨dx, vs, s.trans h, (k dx _ hd nd).1, (k dx _ hd nd).2, z, q.mono k e⟩
  | tab P q =>
    obtain ⟨e0, ps, h, ht, hc⟩ := r
    refine ⟨e0, ps, s.trans h, ht, fun pos cv z => ?_⟩
    obtain ⟨c, e1, e2, e3⟩ := hc pos cv z
    exact ⟨c, e1, (k c _ e2 e3).1, (k c _ e2 e3).2⟩
  | dN kvs =>
    obtain ⟨es, ks, vs, h, e1, e2, e3, r1, r2⟩ := r
    exact ⟨es, ks, vs, s.trans h, e1, e2, e3, r1.mono k e, r2.mono k e⟩
  | lkK o us kvs =>
    obtain ⟨h, z, q⟩ := r
    exact ⟨s.trans h, z, q.mono k e⟩
/-- new things alone -/
theorem Rel.grow (R : Rel C m σ H env h) (s : Same H H') : Rel C m σ H' env h := by
  have S : StE m H m H' := StE.same s
  refine R.step S ⟨R.hm.len, R.hm.nd, fun n a c e f => (R.hm.at_ n a c e f).mono (R.kp S) ⟨[], by simp⟩ ?_⟩
  cases q : H a with
  | none => exact absurd q (R.mDom (List.mem_of_getElem? e))
  | some o => exact s a o q
end
end PM

namespace PM
open PySem PySem.Spec L2
open PyProof.Rows hiding St

/-! ### contexts with temporary lists outside -/
def Ctx.own (C : Ctx) (v : V) : SV → Ctx
  | .own _ => { C with T := fun b => C.T b ∨ V.ref b = v }
  | _ => C
theorem Ctx.own_K (C : Ctx) (v : V) (sv : SV) : (C.own v sv).K = C.K := by cases sv <;> rfl
theorem Ctx.own_H0 (C : Ctx) (v : V) (sv : SV) : (C.own v sv).H0 = C.H0 := by cases sv <;> rfl
theorem Ctx.own_m0 (C : Ctx) (v : V) (sv : SV) : (C.own v sv).m0 = C.m0 := by cases sv <;> rfl
theorem Ctx.own_pins (C : Ctx) (v : V) (sv : SV) : (C.own v sv).pins = C.pins := by cases sv <;> rfl
theorem Ctx.own_T (C : Ctx) (v : V) (sv : SV) {b : Addr} (h : C.T b) : (C.own v sv).T b := by
  cases sv <;> first | exact h | exact .inl h
theorem Ctx.own_GT (C : Ctx) (v : V) (sv : SV) {b : Addr} (h : C.GT b) : (C.own v sv).GT b := h.imp (fun q => by cases sv <;> exact q) (C.own_T v sv)
section
variable {C C' : Ctx} {m m' : List Addr} {σ : St} {H H' : Hp} {env : Env} {h h' : Hs}
theorem ExOf.le (g : ∀ b, C.GT b → C'.GT b) {b : Addr} (q : ExOf C σ env m b) : ExOf C' σ env m b := by
  rcases q with q | q | q
  · exact .inl (g b q)
  · exact .inr (.inl q)
  · exact .inr (.inr q)
theorem Kp.le {Ex Ex' : Ad} (g : ∀ b, Ex' b → Ex b) : Kp Ex H Ex' H := fun a o e n => ⟨e, fun q => n (g a q)⟩
theorem RepS.less {Ex Ex' N N' : Ad} {v : V} {sv : SV} (r : RepS C Ex m N H v sv) (e : C'.K = C.K) (g : ∀ b, Ex' b → Ex b) (n : ∀ b, N b → N' b) : RepS C' Ex' m N' H v sv := by
  cases sv with
  | val p =>
    show Rep C'.K Ex' m H v p
    rw [e]
    exact Rep.mono (Kp.le g) ⟨[], by simp⟩ r
  | own xs =>
    obtain ⟨a, vs, rfl, ha, na, nm, q⟩ := r
    refine ⟨a, vs, rfl, ha, n a na, nm, e ▸ RepL.mono (Kp.le fun b q => ?_) ⟨[], by simp⟩ q⟩
    exact q.imp (g b) id
  | brw xs =>
    obtain ⟨a, vs, rfl, ha, q⟩ := r
    exact ⟨a, vs, rfl, ha, e ▸ RepL.mono (Kp.le g) ⟨[], by simp⟩ q⟩
  | exc _ _ => first | (cases e; done) | (cases nb; done) | exact r | exact r1 | exact ⟨r, trivial⟩ | exact ⟨r1, trivial⟩ | exact ⟨rv, trivial⟩ | trivial
  | scr ns =>
    obtain ⟨a, rfl, ha⟩ := r
    exact ⟨a, rfl, ha.imp id fun q H' => by rw [e]; exact q H'⟩
theorem NB.less {v : V} {sv : SV} (n : NB C' σ env v sv) (eK : C'.K = C.K) (t : ∀ b, C.T b → C'.T b) : NB C σ env v sv := by
  cases sv with
  | val p => trivial
  | own xs => trivial
  | brw xs => exact fun b e => ⟨(n b e).1, fun q => (n b e).2 (t b q)⟩
  | exc _ _ => first | (cases e; done) | (cases nb; done) | exact r | exact r1 | exact ⟨r, trivial⟩ | exact ⟨r1, trivial⟩ | exact ⟨rv, trivial⟩ | trivial
  | scr ns =>
    intro b e
    rcases n b e with q | q
    · exact .inl fun H' => by rw [← eK]; exact q H'
    · exact .inr ⟨q.1, fun z => q.2 (t b z)⟩
theorem Rel.less (R : Rel C' m σ H env h) (eK : C'.K = C.K) (e0 : C'.H0 = C.H0) (em : C'.m0 = C.m0) (g : ∀ b, C.GT b → C'.GT b) (t : ∀ b, C.T b → C'.T b) (ep : ∀ p ∈ C.pins, p ∈ C'.pins) : Rel C m σ H env h where
  len := R.len
  slot := fun i sv e => by
    obtain ⟨v, s, r, b⟩ := R.slot i sv e
    exact ⟨v, s, r.less eK.symm (fun b q => q.le g) fun b q => e0 ▸ q, b.less eK t⟩
  pin := fun p hp => ⟨⟨(R.pin p (ep p hp)).1.1.less eK.symm (fun b q => q.le g) fun b q => e0 ▸ q, (R.pin p (ep p hp)).1.2.less eK t⟩, (R.pin p (ep p hp)).2⟩
  uniq := R.uniq
  hm := ⟨R.hm.len, R.hm.nd, fun n a c e f => by
    have q := R.hm.at_ n a c e f
    rw [eK] at q
    exact q.mono (Kp.le fun b q => q.le g) ⟨[], by simp⟩ rfl⟩
  keep := by rw [← e0, ← em]; exact R.keep
  dom := by rw [← e0]; exact R.dom
  pre := by rw [← e0, ← em]; exact R.pre
  gdom := fun a q => R.gdom a (g a q)
  gown := fun a q => R.gown a (g a q)
theorem Rel.drop {v : V} {sv : SV} (R : Rel (C.own v sv) m σ H env h) : Rel C m σ H env h :=
  R.less (C.own_K v sv) (C.own_H0 v sv) (C.own_m0 v sv) (fun _ => C.own_GT v sv) (fun _ => C.own_T v sv) fun _ hp => (C.own_pins v sv).symm ▸ hp
/-- a new thing that nothing meets -/
theorem Rel.fresh (R : Rel C m σ H env h) {p : Addr} {o : HO} (n : H p = none) (xs : List PV) : Rel (C.own (.ref p) (.own xs)) m σ (upd H p o) env h := by
  have k : Kp (ExOf C σ env m) H (ExOf (C.own (.ref p) (.own xs)) σ env m) (upd H p o) := fun b u e q => by
    have nb : b ≠ p := ne_of_none e n
    refine ⟨by rw [upd_ne nb]; exact e, fun z => ?_⟩
    rcases z with z | z | z
    · rcases z with z | z | z
      · exact q (.inl (.inl z))
      · exact q (.inl (.inr z))
      · exact nb (V.ref.inj z)
    · exact q (.inr (.inl z))
    · exact q (.inr (.inr z))
  have up : ∀ b, H b ≠ none → upd H p o b = H b := fun b q => upd_ne fun e => q (by rw [e]; exact n)
  have slots : ∀ v sv, SlotR C σ env m H v sv → SlotR (C.own (.ref p) (.own xs)) σ env m (upd H p o) v sv := fun v sv ⟨r, bb⟩ => by
    refine ⟨?_, ?_⟩
    rotate_left
    · cases sv with
      | val p => trivial
      | own xs => trivial
      | brw ys =>
        obtain ⟨a, vs, rfl, ha, q⟩ := r
        intro b e
        cases e
        refine ⟨(bb a rfl).1, fun z => z.elim (bb a rfl).2 fun z => ?_⟩
        cases z
        rcases ha.1 with z | ⟨_, z⟩
        · rw [n] at z
          cases z
        · rw [n] at z
          cases z
      | exc _ _ => first | (cases e; done) | (cases nb; done) | exact r | exact r1 | exact ⟨r, trivial⟩ | exact ⟨r1, trivial⟩ | exact ⟨rv, trivial⟩ | trivial
      | scr ns =>
        obtain ⟨a, rfl, ha⟩ := r
        intro b e
        cases e
        rcases bb a rfl with q | q
        · exact .inl q
        · rcases ha with ha | ha
          · refine .inr ⟨q.1, fun z => z.elim q.2 fun z => ?_⟩
            cases z
            rcases ha.1 with z | ⟨_, z⟩
            · rw [n] at z
              cases z
            · rw [n] at z
              cases z
          · exact .inl ha
    cases sv with
    | val p => exact Rep.mono k ⟨[], by simp⟩ r
    | own ys =>
      obtain ⟨a, vs, rfl, ha, na, nm, q⟩ := r
      have nap : a ≠ p := ne_of_none ha n
      refine ⟨a, vs, rfl, by rw [upd_ne nap]; exact ha, na, nm, RepL.mono (fun b u eb nb => ?_) ⟨[], by simp⟩ q⟩
      obtain ⟨k1, k2⟩ := k b u eb fun z => nb (.inl z)
      exact ⟨k1, fun z => z.elim k2 fun z => nb (.inr z)⟩
    | brw ys =>
      obtain ⟨a, vs, rfl, ha, q⟩ := r
      refine ⟨a, vs, rfl, ha.mono fun b u eb nb => ⟨?_, nb⟩, RepL.mono k ⟨[], by simp⟩ q⟩
      rw [upd_ne (ne_of_none eb n)]
      exact eb
    | exc _ _ => first | (cases e; done) | (cases nb; done) | exact r | exact r1 | exact ⟨r, trivial⟩ | exact ⟨r1, trivial⟩ | exact ⟨rv, trivial⟩ | trivial
    | scr ns =>
      obtain ⟨a, rfl, ha⟩ := r
      refine ⟨a, rfl, ha.imp (fun q => ?_) id⟩
      have q2 : LstAt (· ∈ m) (upd H p o) a (ns.map V.int) := LstAt.mono q fun b u eb nb => ⟨by rw [upd_ne (ne_of_none eb n)]; exact eb, nb⟩
      exact q2
  refine ⟨R.len, fun i sv e => ?_, fun q hq => ⟨slots _ _ (R.pin q hq).1, (R.pin q hq).2⟩, R.uniq, ⟨R.hm.len, R.hm.nd, fun i a c e f => (R.hm.at_ i a c e f).mono k ⟨[], by simp⟩ (up a (R.mDom (List.mem_of_getElem? e)))⟩, fun b u e q => ?_, fun b q => ?_, R.pre, fun b q => ?_, fun b q z => ?_⟩
  · obtain ⟨v, s, r⟩ := R.slot i sv e
    exact ⟨v, s, slots v sv r⟩
  · have z := R.keep b u e q
    rw [upd_ne (ne_of_none z n)]
    exact z
  · rw [up b (R.dom b q)]
    exact R.dom b q
  · rcases q with q | q | q
    · rw [up b (R.gdom b (.inl q))]
      exact R.gdom b (.inl q)
    · rw [up b (R.gdom b (.inr q))]
      exact R.gdom b (.inr q)
    · cases q
      rw [upd_same]
      simp
  · rcases q with q | q | q
    · exact R.gown b (.inl q) z
    · exact R.gown b (.inr q) z
    · cases q
      obtain ⟨vs, e, _⟩ := R.ownDom z
      rw [n] at e
      cases e
end

/-! ### soundness of readings -/
section
variable (K : PySem.W.Frag) (W : WX)
def PostE (C : Ctx) (m : List Addr) (σ : St) (H : Hp) (env : Env) (Q : VQ) (Q' : VK) : Prop :=
  ∀ m' v H' sv h', StE m H m' H' → Rel (C.own v sv) m' σ H' env h' → RepS C (ExOf C σ env m') m' (fun a => H a = none) H' v sv → Q sv h' → Q' v H'
def PostX (C : Ctx) (m : List Addr) (σ : St) (H : Hp) (env : Env) (E : XQ) : Prop :=
  ∀ c m' H' h', StE m H m' H' → Rel C m' σ H' env h' → E c h' → W (.ref c) none σ H'
structure SE (t : TE) (f : DE) : Prop where
  run : ∀ (C : Ctx) (m : List Addr) (σ : St) (H : Hp) (env : Env) (h : Hs) (Q : VQ) (E : XQ) (Q' : VK), C.K = K → Rel C m σ H env h → f env h Q E → PostE C m σ H env Q Q' → PostX W C m σ H env E → t σ H Q'
structure ST (t : TT) (f : DT) : Prop where
  run : ∀ (C : Ctx) (m : List Addr) (σ : St) (H : Hp) (env : Env) (h : Hs) (Q : Bool → Hs → Prop) (E : XQ) (Q' : Bool → Hp → Prop), C.K = K → Rel C m σ H env h → f env h Q E →
    (∀ m' b H' h', StE m H m' H' → Rel C m' σ H' env h' → Q b h' → Q' b H') → PostX W C m σ H env E → t σ H Q'
def Ctx.owns (C : Ctx) : List V → List SV → Ctx
  | v :: vs, sv :: svs => (C.own v sv).owns vs svs
  | _, _ => C
structure SA (t : TA) (f : DA) : Prop where
  run : ∀ (C : Ctx) (m : List Addr) (σ : St) (H : Hp) (env : Env) (h : Hs) (Q : List SV → Hs → Prop) (E : XQ) (Q' : List V → Hp → Prop), C.K = K → Rel C m σ H env h → f env h Q E →
    (∀ m' vs H' svs h', StE m H m' H' → Rel (C.owns vs svs) m' σ H' env h' → Paired (RepS C (ExOf C σ env m') m' (fun a => H a = none) H') vs svs → Q svs h' → Q' vs H') → PostX W C m σ H env E → t σ H Q'
end
section
variable {K : PySem.W.Frag} {W : WX} {C : Ctx} {m m1 : List Addr} {σ : St} {H H1 : Hp} {env : Env} {h : Hs}
theorem PostX.go {E : XQ} (p : PostX W C m σ H env E) (S : StE m H m1 H1) : PostX W C m1 σ H1 env E :=
  fun c m' H' h' S' R e => p c m' H' h' (S.trans S') R e
theorem PostX.own {E : XQ} {v : V} {sv : SV} (p : PostX W C m σ H env E) : PostX W (C.own v sv) m σ H env E :=
  fun c m' H' h' S' R e => p c m' H' h' S' R.drop e
theorem Rel.drops : ∀ {C : Ctx} {vs : List V} {svs : List SV}, Rel (C.owns vs svs) m σ H env h → Rel C m σ H env h
  | _, [], _, R => R
  | _, _ :: _, [], R => R
  | _, v :: vs, sv :: svs, R => Rel.drop (Rel.drops (vs := vs) (svs := svs) R)
theorem stnew (S : StE m H m1 H1) {a : Addr} (n : H1 a = none) : H a = none := by
  cases e : H a with
  | none => rfl
  | some o => exact absurd n (S.dom a (by rw [e]; simp))
end

/-! ### names and constants -/
def dVar (i : Nat) : DE := fun env h Q _ => match env[i]? with
  | some (some (.val p)) => Q (.val p) h
  | some (some (.own xs)) => Q (.brw xs) h
  | some (some (.brw xs)) => Q (.brw xs) h
  | some (some (.scr ns)) => Q (.scr ns) h
  | _ => False
@[simp ↓] theorem dVar_eq (i : Nat) (env : Env) (h : Hs) (Q : VQ) (u0 : XQ) : dVar i env h Q u0 = (match env[i]? with
  | some (some (.val p)) => Q (.val p) h
  | some (some (.own xs)) => Q (.brw xs) h
  | some (some (.brw xs)) => Q (.brw xs) h
  | some (some (.scr ns)) => Q (.scr ns) h
  | _ => False) := id rfl
def dC (p : PV) : DE := fun _ h Q _ => Q (.val p) h
@[simp ↓] theorem dC_eq (p : PV) (u0 : Env) (h : Hs) (Q : VQ) (u1 : XQ) : dC p u0 h Q u1 = (Q (.val p) h) := id rfl
section
variable {K : PySem.W.Frag} {W : WX}
theorem se_var (i : Nat) : SE K W (tVar i) (dVar i) := ⟨fun C m σ H env h Q E Q' eK R hf p _ => by
  unfold dVar at hf
  split at hf
  · rename_i pv e
    obtain ⟨v, s, r, _⟩ := R.slot i _ e
    exact ⟨v, s, p m v H (.val pv) h (.refl m H) R r hf⟩
  · rename_i xs e
    obtain ⟨v, s, ⟨a, vs, rfl, ha, na, nm, r⟩, _⟩ := R.slot i _ e
    exact ⟨_, s, p m _ H (.brw xs) h (.refl m H) R ⟨a, vs, rfl, ⟨.inl ha, nm⟩, RepL.mono (Kp.le fun b q => .inl q) ⟨[], by simp⟩ r⟩ hf⟩
  · rename_i xs e
    obtain ⟨v, s, r, _⟩ := R.slot i _ e
    exact ⟨v, s, p m v H (.brw xs) h (.refl m H) R r hf⟩
  · rename_i ns e
    obtain ⟨v, s, r, _⟩ := R.slot i _ e
    exact ⟨v, s, p m v H (.scr ns) h (.refl m H) R r hf⟩
  · exact hf.elim⟩
theorem se_c {v : V} {pv : PV} (k : ∀ Ex m H, Rep K Ex m H v pv) : SE K W (tC v) (dC pv) := ⟨fun C m σ H env h Q E Q' eK R hf p _ => by
  subst eK
  exact p m v H (.val pv) h (.refl m H) R (k _ _ _) hf⟩
theorem se_int {i : Int} : SE K W (tC (.int i)) (dC (.int i)) := se_c fun _ _ _ => .int i
theorem se_bl {b : Bool} : SE K W (tC (.bl b)) (dC (.bl b)) := se_c fun _ _ _ => .bl b
theorem se_non : SE K W (tC .non) (dC .non) := se_c fun _ _ _ => .non
theorem se_str {x : Str} : SE K W (tC (.str x)) (dC (.str x)) := se_c fun _ _ _ => .str x
end

/-! ### operators on values -/
abbrev G1 := Hs → SV → (SV → Prop) → Prop
abbrev G2 := Hs → SV → SV → (SV → Prop) → Prop
def PostO (C : Ctx) (m : List Addr) (σ : St) (H : Hp) (env : Env) (h : Hs) (q : SV → Prop) (Q' : VK) : Prop :=
  ∀ v H' sv, Same H H' → Rel (C.own v sv) m σ H' env h → RepS C (ExOf C σ env m) m (fun a => H a = none) H' v sv → q sv → Q' v H'
abbrev RepA (C : Ctx) (σ : St) (env : Env) (m : List Addr) (H : Hp) : V → SV → Prop := RepS C (ExOf C σ env m) m (fun _ => True) H
def OpS (K : PySem.W.Frag) (r : R2) (g : G2) : Prop := ∀ (C : Ctx) (m : List Addr) (σ : St) (H : Hp) (env : Env) (h : Hs) (x y : V) (sx sy : SV) (q : SV → Prop) (Q' : VK), C.K = K → Rel C m σ H env h →
  RepA C σ env m H x sx → RepA C σ env m H y sy → g h sx sy q → PostO C m σ H env h q Q' → r x y H Q'
def UnS (K : PySem.W.Frag) (r : V → Hp → VK → Prop) (g : G1) : Prop := ∀ (C : Ctx) (m : List Addr) (σ : St) (H : Hp) (env : Env) (h : Hs) (x : V) (sx : SV) (q : SV → Prop) (Q' : VK), C.K = K → Rel C m σ H env h →
  RepA C σ env m H x sx → g h sx q → PostO C m σ H env h q Q' → r x H Q'
def dOp (g : G2) (a b : DE) : DE := fun env h Q E => a env h (fun x h1 => b env h1 (fun y h2 => g h2 x y fun r => Q r h2) E) E
@[simp ↓] theorem dOp_eq (g : G2) (a b : DE) (env : Env) (h : Hs) (Q : VQ) (E : XQ) : dOp g a b env h Q E = (a env h (fun x h1 => b env h1 (fun y h2 => g h2 x y fun r => Q r h2) E) E) := id rfl
def dUn (g : G1) (a : DE) : DE := fun env h Q E => a env h (fun x h1 => g h1 x fun r => Q r h1) E
@[simp ↓] theorem dUn_eq (g : G1) (a : DE) (env : Env) (h : Hs) (Q : VQ) (E : XQ) : dUn g a env h Q E = (a env h (fun x h1 => g h1 x fun r => Q r h1) E) := id rfl
section
variable {K : PySem.W.Frag} {W : WX} {ta tb : TE} {fa fb : DE}
theorem se_op {r : R2} {g : G2} (o : OpS K r g) (ha : SE K W ta fa) (hb : SE K W tb fb) : SE K W (tOp r ta tb) (dOp g fa fb) := ⟨fun C m σ H env h Q E Q' eK R hf p px => by
  refine ha.run C m σ H env h _ E _ eK R hf (fun m1 x H1 sx h1 S1 R1 r1 q1 => ?_) px
  refine hb.run (C.own x sx) m1 σ H1 env h1 _ E _ ((C.own_K x sx).trans eK) R1 q1 (fun m2 y H2 sy h2 S2 R2 r2 q2 => ?_) (px.go S1).own
  refine o C m2 σ H2 env h2 x y sx sy _ _ eK R2.drop.drop (r1.step S2 fun _ _ => trivial) (r2.less (C.own_K x sx).symm (fun b q => q.le fun _ => C.own_GT x sx) fun _ _ => trivial) q2 fun v H' sv s3 R3 r3 q3 => ?_
  have S : StE m H m2 H2 := S1.trans S2
  have S3 : StE m2 H2 m2 H' := .same s3
  exact p m2 v H' sv h2 (S.trans S3) R3 (r3.less rfl (fun _ q => q) fun a n => stnew S n) q3⟩
end
end PM

namespace PM
open PySem PySem.Spec L2
open PyProof.Rows hiding St

/-! ### lists and data of slot values -/
def listC (h : Hs) : SV → Option (List PV)
  | .val (.lst xs) => some xs
  | .val (.ref n) => match h[n]? with
    | some (.lst xs) => some xs
    | _ => none
  | .own xs => some xs
  | .brw xs => some xs
  | .scr _ => none
  | _ => none
/-- a list or tuple that is read -/
def seqC (h : Hs) : SV → Option (List PV)
  | .val (.tup xs) => some xs
  | .scr ns => some (ns.map .int)
  | s => listC h s
section
variable {C : Ctx} {m : List Addr} {σ : St} {H : Hp} {env : Env} {h : Hs} {v : V} {sv : SV} {xs : List PV}
theorem Rel.cell (R : Rel C m σ H env h) {n : Nat} {a : Addr} {c : Cell} (e : m[n]? = some a) (f : h[n]? = some c) : CellR C.K (ExOf C σ env m) m H a c := R.hm.at_ n a c e f
theorem Rel.listRd (R : Rel C m σ H env h) (r : RepA C σ env m H v sv) (e : listC h sv = some xs) : ∃ a vs, v = .ref a ∧ Rd H a (.lst vs) ∧ RepL C.K (ExOf C σ env m) m H vs xs := by
  cases sv with
  | own ys =>
    obtain ⟨a, vs, rfl, ha, _, _, q⟩ := r
    cases e
    exact ⟨a, vs, rfl, .inl ha, RepL.mono (Kp.le fun b q => .inl q) ⟨[], by simp⟩ q⟩
  | brw ys =>
    obtain ⟨a, vs, rfl, ha, q⟩ := r
    cases e
    exact ⟨a, vs, rfl, ha.1, q⟩
  | exc _ _ => first | (cases e; done) | (cases nb; done) | exact r | exact r1 | exact ⟨r, trivial⟩ | exact ⟨r1, trivial⟩ | exact ⟨rv, trivial⟩ | trivial
  | scr ns => cases e
  | val p =>
    cases p with
    | lst ys =>
      cases e
      cases r with
      | lst ha q => exact ⟨_, _, rfl, ha.1, q⟩
    | ref n =>
      cases r with
      | ref hn =>
        have e' : (match h[n]? with | some (.lst xs) => some xs | _ => none) = some xs := e
        split at e'
        · rename_i ys hc
          cases e'
          obtain ⟨vs, q1, q2⟩ := R.cell hn hc
          exact ⟨_, vs, rfl, .inl q1, q2⟩
        · cases e'
    | _ => cases e
theorem Rel.list (R : Rel C m σ H env h) (r : RepA C σ env m H v sv) (e : listC h sv = some xs) : ∃ a vs, v = .ref a ∧ SqL C.K H a vs ∧ RepL C.K (ExOf C σ env m) m H vs xs := by
  obtain ⟨a, vs, e1, e2, e3⟩ := R.listRd r e
  exact ⟨a, vs, e1, .inl e2, e3⟩
theorem Rel.seq (R : Rel C m σ H env h) (r : RepA C σ env m H v sv) (e : seqC h sv = some xs) : ∃ a vs, v = .ref a ∧ (SqL C.K H a vs ∨ SqT C.K H a vs) ∧ RepL C.K (ExOf C σ env m) m H vs xs := by
  have lst : listC h sv = some xs → ∃ a vs, v = .ref a ∧ (SqL C.K H a vs ∨ SqT C.K H a vs) ∧ RepL C.K (ExOf C σ env m) m H vs xs := fun e => by
    obtain ⟨a, vs, e1, e2, e3⟩ := R.list r e
    exact ⟨a, vs, e1, .inl e2, e3⟩
  cases sv with
  | own ys => exact lst e
  | brw ys => exact lst e
  | exc _ _ => first | (cases e; done) | (cases nb; done) | exact r | exact r1 | exact ⟨r, trivial⟩ | exact ⟨r1, trivial⟩ | exact ⟨rv, trivial⟩ | trivial
  | scr ns =>
    obtain ⟨a, rfl, ha⟩ := r
    cases e
    refine ⟨a, _, rfl, .inl ?_, RepL.of_ints⟩
    rcases ha with ⟨ha, _⟩ | ha
    · exact .inl ha
    · exact ha H
  | val p =>
    cases p with
    | tup ys =>
      cases e
      cases r with
      | tup ha q => exact ⟨_, _, rfl, .inr ha.sq, q⟩
    | _ => exact lst e

/-- results: scalars -/
theorem PostO.at {q : SV → Prop} {Q' : VK} (p : PostO C m σ H env h q Q') (R : Rel C m σ H env h) {v : V} {pv : PV} (r : Rep C.K (ExOf C σ env m) m H v pv) (hq : q (.val pv)) : Q' v H :=
  p v H (.val pv) (Same.refl H) R r hq
theorem PostO.int {q : SV → Prop} {Q' : VK} (p : PostO C m σ H env h q Q') (R : Rel C m σ H env h) {i : Int} (hq : q (.val (.int i))) : Q' (.int i) H := p.at R (.int i) hq
theorem PostO.bl {q : SV → Prop} {Q' : VK} (p : PostO C m σ H env h q Q') (R : Rel C m σ H env h) {i : Bool} (hq : q (.val (.bl i))) : Q' (.bl i) H := p.at R (.bl i) hq
theorem PostO.str {q : SV → Prop} {Q' : VK} (p : PostO C m σ H env h q Q') (R : Rel C m σ H env h) {i : Str} (hq : q (.val (.str i))) : Q' (.str i) H := p.at R (.str i) hq
/-- a new list -/
theorem PostO.newL {q : SV → Prop} {Q' : VK} (p : PostO C m σ H env h q Q') (R : Rel C m σ H env h) {vs : List V} {xs : List PV} (r : RepL C.K (ExOf C σ env m) m H vs xs) (hq : q (.own xs)) {a : Addr} (n : H a = none) : Q' (.ref a) (upd H a (.lst vs)) := by
  have R2 : Rel (C.own (.ref a) (.own xs)) m σ (upd H a (.lst vs)) env h := R.fresh n xs
  refine p _ _ (.own xs) (Same.upd n) R2 ⟨a, vs, rfl, upd_same, n, fun q => R.mDom q n, RepL.mono (fun b u e nb => ?_) ⟨[], by simp⟩ r⟩ hq
  have z : b ≠ a := ne_of_none e n
  exact ⟨by rw [upd_ne z]; exact e, fun q => q.elim nb z⟩
theorem Rel.newTup (R : Rel C m σ H env h) {vs : List V} {xs : List PV} (r : RepL C.K (ExOf C σ env m) m H vs xs) {a : Addr} (n : H a = none) : Rep C.K (ExOf C σ env m) m (upd H a (.tup vs)) (.ref a) (.tup xs) :=
  .tup (.inl ⟨.inl upd_same, R.exNew n⟩) (RepL.mono (fun b u e nb => ⟨by rw [upd_ne (ne_of_none e n)]; exact e, nb⟩) ⟨[], by simp⟩ r)
theorem PostO.newT {q : SV → Prop} {Q' : VK} (p : PostO C m σ H env h q Q') (R : Rel C m σ H env h) {vs : List V} {xs : List PV} (r : RepL C.K (ExOf C σ env m) m H vs xs) (hq : q (.val (.tup xs))) {a : Addr} (n : H a = none) : Q' (.ref a) (upd H a (.tup vs)) :=
  p _ _ (.val (.tup xs)) (Same.upd n) (R.grow (Same.upd n)) (R.newTup r n) hq
end

/-! ### + - * // % ** -/
section
variable {X : Cx}
def rCatL : R2 := fun x y H Q => ∃ l b xs zs, x = .ref l ∧ y = .ref b ∧ Rd H l (.lst xs) ∧ Rd H b (.lst zs) ∧ xs.length + zs.length ≤ sizeLine ∧ ∀ p, H p = none → Q (.ref p) (upd H p (.lst (xs ++ zs)))
theorem op_catL : OpR X (binaryOp .Add) rCatL := by
  intro pins s σ H x y v u Q I rx ry h
  obtain ⟨l, b, xs, zs, rfl, rfl, hH, hB, hz, q⟩ := h
  cases rx
  cases ry
  obtain ⟨z, its, n, r, e⟩ := hH.ok I.hok
  obtain ⟨z2, its2, n2, r2, e2⟩ := hB.ok I.hok
  have hl := r.length
  have hl2 := r2.length
  refine PySem.P.add_list e e2 ?_ (by rw [List.size_toArray, List.size_toArray]; omega)
  have ea : its.toArray ++ its2.toArray = (its ++ its2).toArray := by simp
  rw [ea]
  exact ⟨.ref _, _, I.lnew (t' := s.toks) (r.append r2) (by rw [List.length_append]; omega), rfl, q _ I.fresh⟩
def rAddA (K : PySem.W.Frag) : R2 := fun x y H Q => (∃ i j, x = .int i ∧ y = .int j ∧ Q (.int (i + j)) H) ∨ (∃ i j, x = .str i ∧ y = .str j ∧ i.length + j.length ≤ sizeLine ∧ Q (.str (i ++ j)) H) ∨ rCatA K x y H Q ∨ rCatL x y H Q
theorem op_addA : OpR X (binaryOp .Add) (rAddA X.K) := op_add.or (op_add_str.or (op_catA.or op_catL))
end
def gAdd : G2 := fun h x y q => match x, y with
  | .val (.int i), .val (.int j) => q (.val (.int (i + j)))
  | .val (.str a), .val (.str b) => a.length + b.length ≤ sizeLine ∧ q (.val (.str (a ++ b)))
  | .val (.tup xs), .val (.tup ys) => xs.length + ys.length ≤ sizeLine ∧ q (.val (.tup (xs ++ ys)))
  | x, y => ∃ xs ys, listC h x = some xs ∧ listC h y = some ys ∧ xs.length + ys.length ≤ sizeLine ∧ q (.own (xs ++ ys))
@[simp ↓] theorem gAdd_eq  (h : Hs) (x : SV) (y : SV) (q : SV → Prop) : gAdd  h x y q = (match x, y with
  | .val (.int i), .val (.int j) => q (.val (.int (i + j)))
  | .val (.str a), .val (.str b) => a.length + b.length ≤ sizeLine ∧ q (.val (.str (a ++ b)))
  | .val (.tup xs), .val (.tup ys) => xs.length + ys.length ≤ sizeLine ∧ q (.val (.tup (xs ++ ys)))
  | x, y => ∃ xs ys, listC h x = some xs ∧ listC h y = some ys ∧ xs.length + ys.length ≤ sizeLine ∧ q (.own (xs ++ ys))) := id rfl
theorem os_add {K : PySem.W.Frag} : OpS K (rAddA K) gAdd := fun C m σ H env h x y sx sy q Q' eK R rx ry hg p => by
  subst eK
  unfold gAdd at hg
  split at hg
  · cases rx; cases ry
    exact .inl ⟨_, _, rfl, rfl, p.int R hg⟩
  · cases rx; cases ry
    exact .inr (.inl ⟨_, _, rfl, rfl, hg.1, p.str R hg.2⟩)
  · rename_i xs ys
    cases rx with
    | tup ha qa => cases ry with
      | tup hb qb =>
        refine .inr (.inr (.inl ⟨_, _, _, _, rfl, rfl, ha.sq, hb.sq, by rw [qa.length, qb.length]; exact hg.1, fun e => ?_, fun n e => ?_, fun _ _ a n => ?_⟩))
        · subst e
          cases qa
          exact p.at R (.tup hb qb) (by simpa using hg.2)
        · subst e
          cases qb
          exact p.at R (.tup ha qa) (by simpa using hg.2)
        · exact p.newT R (qa.append qb) hg.2 n
  · obtain ⟨xs, ys, e1, e2, l, hq⟩ := hg
    obtain ⟨a, vs, rfl, h1, q1⟩ := R.listRd rx e1
    obtain ⟨b, ws, rfl, h2, q2⟩ := R.listRd ry e2
    exact .inr (.inr (.inr ⟨a, b, vs, ws, rfl, rfl, h1, h2, by rw [q1.length, q2.length]; exact l, fun c n => p.newL R (q1.append q2) hq n⟩))

/-- an operator of ints -/
def gI (P : Int → Int → Prop) (f : Int → Int → PV) : G2 := fun _ x y q => match x, y with
  | .val (.int i), .val (.int j) => P i j ∧ q (.val (f i j))
  | _, _ => False
@[simp ↓] theorem gI_eq (P : Int → Int → Prop) (f : Int → Int → PV) (u0 : Hs) (x : SV) (y : SV) (q : SV → Prop) : gI P f u0 x y q = (match x, y with
  | .val (.int i), .val (.int j) => P i j ∧ q (.val (f i j))
  | _, _ => False) := id rfl
theorem os_I {K : PySem.W.Frag} {P : Int → Int → Prop} {g : Int → Int → V} {f : Int → Int → PV} (k : ∀ i j Ex m H, Rep K Ex m H (g i j) (f i j)) : OpS K (rI P g) (gI P f) := fun C m σ H env h x y sx sy q Q' eK R rx ry hg p => by
  subst eK
  unfold gI at hg
  split at hg
  · cases rx; cases ry
    exact ⟨_, _, rfl, rfl, hg.1, p.at R (k _ _ _ _ _) hg.2⟩
  · exact hg.elim
def gI0 (f : Int → Int → PV) : G2 := fun _ x y q => match x, y with
  | .val (.int i), .val (.int j) => q (.val (f i j))
  | _, _ => False
@[simp ↓] theorem gI0_eq (f : Int → Int → PV) (u0 : Hs) (x : SV) (y : SV) (q : SV → Prop) : gI0 f u0 x y q = (match x, y with
  | .val (.int i), .val (.int j) => q (.val (f i j))
  | _, _ => False) := id rfl
theorem os_I0 {K : PySem.W.Frag} {g : Int → Int → V} {f : Int → Int → PV} (k : ∀ i j Ex m H, Rep K Ex m H (g i j) (f i j)) : OpS K (rI0 g) (gI0 f) := fun C m σ H env h x y sx sy q Q' eK R rx ry hg p => by
  subst eK
  unfold gI0 at hg
  split at hg
  · cases rx; cases ry
    exact ⟨_, _, rfl, rfl, p.at R (k _ _ _ _ _) hg⟩
  · exact hg.elim
def gSub : G2 := gI0 fun i j => .int (i - j)
@[simp ↓] theorem gSub_eq : gSub = (gI0 fun i j => .int (i - j)) := id rfl
theorem os_sub {K : PySem.W.Frag} : OpS K (rI0 fun i j => .int (i - j)) gSub := os_I0 fun _ _ _ _ _ => .int _
def gMod : G2 := gI (fun _ j => 0 < j) fun i j => .int (i % j)
@[simp ↓] theorem gMod_eq : gMod = (gI (fun _ j => 0 < j) fun i j => .int (i % j)) := id rfl
theorem os_mod {K : PySem.W.Frag} : OpS K (rI (fun _ j => 0 < j) fun i j => .int (i % j)) gMod := os_I fun _ _ _ _ _ => .int _
def gFdiv : G2 := gI CDivW fun i j => .int (i / j)
@[simp ↓] theorem gFdiv_eq : gFdiv = (gI CDivW fun i j => .int (i / j)) := id rfl
theorem os_fdiv {K : PySem.W.Frag} : OpS K (rI CDivW fun i j => .int (i / j)) gFdiv := os_I fun _ _ _ _ _ => .int _
def gPow : G2 := gI CPow fun i j => .int (i ^ j.toNat)
@[simp ↓] theorem gPow_eq : gPow = (gI CPow fun i j => .int (i ^ j.toNat)) := id rfl
theorem os_pow {K : PySem.W.Frag} : OpS K (rI CPow fun i j => .int (i ^ j.toNat)) gPow := os_I fun _ _ _ _ _ => .int _
/-! * of ints (one below 2^64), of a list and an int, of a tuple and an int -/
section
variable {X : Cx}
def rMulA (K : PySem.W.Frag) : R2 := fun x y H Q => rI CMul (fun i j => .int (i * j)) x y H Q ∨ rRep x y H Q ∨ rRepT K x y H Q
theorem op_mulA : OpR X (binaryOp .Mult) (rMulA X.K) := op_mul.or (op_rep.or op_repT)
end
def repN {α : Type} (k : Nat) (xs : List α) : List α := (List.replicate k xs).flatten
theorem RepL.rep {K : PySem.W.Frag} {Ex : Ad} {m : List Addr} {H : Hp} {vs : List V} {xs : List PV} (r : RepL K Ex m H vs xs) : ∀ k, RepL K Ex m H (List.replicate k vs).flatten (repN k xs)
  | 0 => .nil
  | k + 1 => by
    unfold repN
    rw [List.replicate_succ, List.replicate_succ, List.flatten_cons, List.flatten_cons]
    exact r.append (RepL.rep r k)
def gMul : G2 := fun h x y q => match x, y with
  | .val (.int i), .val (.int j) => CMul i j ∧ q (.val (.int (i * j)))
  | .val (.tup xs), .val (.int k) => xs ≠ [] ∧ 2 ≤ k ∧ k ≤ 1000 ∧ xs.length ≤ 1000 ∧ q (.val (.tup (repN k.toNat xs)))
  | .own xs, .val (.int k) => -(2 ^ 63) ≤ k ∧ k < 2 ^ 63 ∧ xs.length * k.toNat ≤ sizeLine ∧ q (.own (repN k.toNat xs))
  | _, _ => False
@[simp ↓] theorem gMul_eq  (h : Hs) (x : SV) (y : SV) (q : SV → Prop) : gMul  h x y q = (match x, y with
  | .val (.int i), .val (.int j) => CMul i j ∧ q (.val (.int (i * j)))
  | .val (.tup xs), .val (.int k) => xs ≠ [] ∧ 2 ≤ k ∧ k ≤ 1000 ∧ xs.length ≤ 1000 ∧ q (.val (.tup (repN k.toNat xs)))
  | .own xs, .val (.int k) => -(2 ^ 63) ≤ k ∧ k < 2 ^ 63 ∧ xs.length * k.toNat ≤ sizeLine ∧ q (.own (repN k.toNat xs))
  | _, _ => False) := id rfl
theorem os_mul {K : PySem.W.Frag} : OpS K (rMulA K) gMul := fun C m σ H env h x y sx sy q Q' eK R rx ry hg p => by
  subst eK
  unfold gMul at hg
  split at hg
  · cases rx; cases ry
    exact .inl ⟨_, _, rfl, rfl, hg.1, p.int R hg.2⟩
  · cases rx with
    | tup ha qa =>
      cases ry
      refine .inr (.inr ⟨_, _, _, rfl, rfl, ha.sq, fun e => hg.1 ?_, hg.2.1, hg.2.2.1, by rw [qa.length]; exact hg.2.2.2.1, fun a n => p.newT R (qa.rep _) hg.2.2.2.2 n⟩)
      subst e
      cases qa
      rfl
  · obtain ⟨a, vs, rfl, ha, _, _, qa⟩ := rx
    cases ry
    have qa' := RepL.mono (Kp.le fun b q => .inl q) ⟨[], (by simp : m = m ++ [])⟩ qa
    exact .inr (.inl ⟨_, _, _, rfl, rfl, ha, hg.1, hg.2.1, by rw [qa.length]; exact hg.2.2.1, fun b n => p.newL R (qa'.rep _) hg.2.2.2 n⟩)
  · exact hg.elim
def gNeg : G1 := fun _ x q => match x with
  | .val (.int i) => q (.val (.int (-i)))
  | _ => False
@[simp ↓] theorem gNeg_eq  (u0 : Hs) (x : SV) (q : SV → Prop) : gNeg  u0 x q = (match x with
  | .val (.int i) => q (.val (.int (-i)))
  | _ => False) := id rfl
/-! ### comparisons -/
def gLt : G2 := gI0 fun i j => .bl (decide (i < j))
@[simp ↓] theorem gLt_eq : gLt = (gI0 fun i j => .bl (decide (i < j))) := id rfl
theorem os_lt {K : PySem.W.Frag} : OpS K (rI0 fun i j => .bl (decide (i < j))) gLt := os_I0 fun _ _ _ _ _ => .bl _
def gLe : G2 := gI0 fun i j => .bl (decide (i ≤ j))
@[simp ↓] theorem gLe_eq : gLe = (gI0 fun i j => .bl (decide (i ≤ j))) := id rfl
theorem os_le {K : PySem.W.Frag} : OpS K (rI0 fun i j => .bl (decide (i ≤ j))) gLe := os_I0 fun _ _ _ _ _ => .bl _
def gGt : G2 := gI0 fun i j => .bl (decide (j < i))
@[simp ↓] theorem gGt_eq : gGt = (gI0 fun i j => .bl (decide (j < i))) := id rfl
theorem os_gt {K : PySem.W.Frag} : OpS K (rI0 fun i j => .bl (decide (j < i))) gGt := os_I0 fun _ _ _ _ _ => .bl _
def gGe : G2 := gI0 fun i j => .bl (decide (j ≤ i))
@[simp ↓] theorem gGe_eq : gGe = (gI0 fun i j => .bl (decide (j ≤ i))) := id rfl
theorem os_ge {K : PySem.W.Frag} : OpS K (rI0 fun i j => .bl (decide (j ≤ i))) gGe := os_I0 fun _ _ _ _ _ => .bl _

/-! ### data -/
mutual
def PV.py : PV → PyData
  | .non => .none
  | .bl b => .bool b
  | .int i => .int i
  | .str x => .str x
  | .tup xs => .tuple (PV.pyL xs)
  | .lst xs => .list (PV.pyL xs)
  | .ref _ => .none
def PV.pyL : List PV → List PyData
  | [] => []
  | x :: xs => x.py :: PV.pyL xs
def PV.noRef : PV → Bool
  | .tup xs => PV.noRefL xs
  | .lst xs => PV.noRefL xs
  | .ref _ => false
  | _ => true
def PV.noRefL : List PV → Bool
  | [] => true
  | x :: xs => x.noRef && PV.noRefL xs
end
theorem PV.pyL_map : ∀ xs : List PV, PV.pyL xs = xs.map PV.py
  | [] => by simp [PV.pyL]
  | x :: xs => by simp [PV.pyL, PV.pyL_map xs]
theorem PV.noRefL_all : ∀ xs : List PV, PV.noRefL xs = xs.all PV.noRef
  | [] => by simp [PV.noRefL]
  | x :: xs => by simp [PV.noRefL, PV.noRefL_all xs]
mutual
theorem Rep.dp {K : PySem.W.Frag} {Ex : Ad} {m : List Addr} {H : Hp} {v : V} : ∀ {p : PV}, Rep K Ex m H v p → p.noRef = true → Dp K H v p.py
  | .non, .non, _ => by unfold PV.py; exact .non
  | .bl b, .bl _, _ => by unfold PV.py; exact .bl b
  | .int i, .int _, _ => by unfold PV.py; exact .int i
  | .str x, .str _, _ => by unfold PV.py; exact .str x
  | .tup xs, .tup h r, n => by unfold PV.py; exact .tup h.sq (RepL.dp r (by unfold PV.noRef at n; exact n))
  | .lst xs, .lst h r, n => by unfold PV.py; exact .lst h.sq (RepL.dp r (by unfold PV.noRef at n; exact n))
  | .ref _, .ref _, n => by unfold PV.noRef at n; cases n
theorem RepL.dp {K : PySem.W.Frag} {Ex : Ad} {m : List Addr} {H : Hp} {vs : List V} : ∀ {ps : List PV}, RepL K Ex m H vs ps → PV.noRefL ps = true → DpAll K H vs (PV.pyL ps)
  | [], .nil, _ => by unfold PV.pyL; exact .nil
  | p :: ps, .cons h r, n => by
    unfold PV.noRefL at n
    rw [Bool.and_eq_true] at n
    unfold PV.pyL
    exact .cons (Rep.dp h n.1) (RepL.dp r n.2)
end
/-- what a slot value says as data; a list that it holds counts by its items -/
def SV.pv (h : Hs) : SV → Option PV
  | .val (.ref n) => match h[n]? with
    | some (.lst xs) => some (.lst xs)
    | _ => none
  | .val p => some p
  | .own xs => some (.lst xs)
  | .brw xs => some (.lst xs)
  | .scr ns => some (.lst (ns.map .int))
  | .exc _ _ => none
def PV.okD (p : PV) : Bool := p.noRef && SeqAt.shaped p.py
theorem noRef_ints (ns : List Int) : PV.noRefL (ns.map .int) = true := by
  rw [PV.noRefL_all]
  simp [PV.noRef]
theorem Rel.dp {C : Ctx} {m : List Addr} {σ : St} {H : Hp} {env : Env} {h : Hs} {v : V} {sv : SV} {p : PV} (R : Rel C m σ H env h) (r : RepA C σ env m H v sv) (e : sv.pv h = some p) (n : p.noRef = true) : Dp C.K H v p.py := by
  have lst : ∀ xs, listC h sv = some xs → PV.noRefL xs = true → Dp C.K H v (PV.lst xs).py := fun xs e n => by
    obtain ⟨a, vs, rfl, h1, q⟩ := R.list r e
    unfold PV.py
    exact .lst h1 (q.dp n)
  cases sv with
  | own xs => cases e; exact lst xs rfl (by unfold PV.noRef at n; exact n)
  | brw xs => cases e; exact lst xs rfl (by unfold PV.noRef at n; exact n)
  | exc _ _ => first | (cases e; done) | (cases nb; done) | exact r | exact r1 | exact ⟨r, trivial⟩ | exact ⟨r1, trivial⟩ | exact ⟨rv, trivial⟩ | trivial
  | scr ns =>
    cases e
    obtain ⟨a, vs, rfl, h1, q⟩ := R.seq r (xs := ns.map .int) rfl
    obtain ⟨a', ea, ha⟩ := r
    cases ea
    have e2 := q.ints
    subst e2
    have h2 : SqL C.K H a (ns.map V.int) := by
      rcases ha with ⟨ha, _⟩ | ha
      · exact .inl ha
      · exact ha H
    unfold PV.py
    exact .lst h2 (q.dp (noRef_ints ns))
  | val q =>
    cases q with
    | ref k =>
      have e' : (match h[k]? with | some (.lst xs) => some (PV.lst xs) | _ => none) = some p := e
      split at e'
      · rename_i xs hc
        cases e'
        refine lst xs ?_ (by unfold PV.noRef at n; exact n)
        show (match h[k]? with | some (.lst xs) => some xs | _ => none) = some xs
        rw [hc]
      · cases e'
    | _ => cases e; exact Rep.dp r n
def pyEq (p q : PV) : Bool := PyData.eqv p.py q.py
def gEqB (neg : Bool) : G2 := fun h x y q => ∃ a b, x.pv h = some a ∧ y.pv h = some b ∧ a.okD = true ∧ b.okD = true ∧ q (.val (.bl (if neg then !pyEq a b else pyEq a b)))
@[simp ↓] theorem gEqB_eq (neg : Bool) (h : Hs) (x : SV) (y : SV) (q : SV → Prop) : gEqB neg h x y q = (∃ a b, x.pv h = some a ∧ y.pv h = some b ∧ a.okD = true ∧ b.okD = true ∧ q (.val (.bl (if neg then !pyEq a b else pyEq a b)))) := id rfl
def gEq : G2 := gEqB false
@[simp ↓] theorem gEq_eq : gEq = (gEqB false) := id rfl
def gNe : G2 := gEqB true
@[simp ↓] theorem gNe_eq : gNe = (gEqB true) := id rfl
theorem os_eq {K : PySem.W.Frag} : OpS K (rEqD K) gEq := fun C m σ H env h x y sx sy q Q' eK R rx ry hg p => by
  subst eK
  obtain ⟨a, b, e1, e2, o1, o2, hq⟩ := hg
  unfold PV.okD at o1 o2
  rw [Bool.and_eq_true] at o1 o2
  exact ⟨_, _, R.dp rx e1 o1.1, R.dp ry e2 o2.1, o1.2, o2.2, p.bl R hq⟩
theorem os_ne {K : PySem.W.Frag} : OpS K (rNeD K) gNe := fun C m σ H env h x y sx sy q Q' eK R rx ry hg p => by
  subst eK
  obtain ⟨a, b, e1, e2, o1, o2, hq⟩ := hg
  unfold PV.okD at o1 o2
  rw [Bool.and_eq_true] at o1 o2
  exact ⟨_, _, R.dp rx e1 o1.1, R.dp ry e2 o2.1, o1.2, o2.2, p.bl R hq⟩
/-- is None, is not None -/
@[simp] def PV.isN : PV → Bool
  | .non => true
  | _ => false
def gIsN (neg : Bool) : G2 := fun _ x y q => match x, y with
  | .val p, .val .non => q (.val (.bl (if neg then !p.isN else p.isN)))
  | _, _ => False
@[simp ↓] theorem gIsN_eq (neg : Bool) (u0 : Hs) (x : SV) (y : SV) (q : SV → Prop) : gIsN neg u0 x y q = (match x, y with
  | .val p, .val .non => q (.val (.bl (if neg then !p.isN else p.isN)))
  | _, _ => False) := id rfl
theorem Rep.isN {K : PySem.W.Frag} {Ex : Ad} {m : List Addr} {H : Hp} {v : V} {p : PV} (r : Rep K Ex m H v p) : decide (v = .non) = p.isN := by
  cases r <;> rfl
theorem os_isN {K : PySem.W.Frag} : OpS K (fun x y H Q => y = .non ∧ Q (.bl (decide (x = .non))) H) (gIsN false) := fun C m σ H env h x y sx sy q Q' eK R rx ry hg p => by
  subst eK
  unfold gIsN at hg
  split at hg
  · cases ry
    refine ⟨rfl, p.bl R ?_⟩
    rw [Rep.isN rx]
    exact hg
  · exact hg.elim
/-! in: one sign in a text; a value in a list or tuple, by == -/
section
variable {X : Cx}
def rInT (K : PySem.W.Frag) (neg : Bool) : R2 := fun x y H Q => ∃ d ds, Dp K H x d ∧ Dp K H y (.tuple ds) ∧ SeqAt.shaped d = true ∧ SeqAt.shaped (.tuple ds) = true ∧ Q (.bl (if neg then !ds.any fun z => PyData.eqv z d else ds.any fun z => PyData.eqv z d)) H
theorem op_inT (hu : X.A.units + 65 < cLine) : OpR X (compareOp .In) (rInT X.K false) := by
  intro pins s σ H x y v u Q I rx ry h
  obtain ⟨d, ds, hd, he, sd, se, q⟩ := h
  obtain ⟨as, r1⟩ := Dp.reads I d x v hd rx
  obtain ⟨bs, r2⟩ := Dp.reads I (.tuple ds) y u he ry
  exact SeqAt.in_tuple_reads r2 r1 (SeqAt.canLay_of_shaped se) (SeqAt.canLay_of_shaped sd) (PyProof.Rows.room_in_shaped sd hu) ⟨.bl _, H, I, rfl, q⟩
theorem op_notInT (hu : X.A.units + 65 < cLine) : OpR X (compareOp .NotIn) (rInT X.K true) := by
  intro pins s σ H x y v u Q I rx ry h
  obtain ⟨d, ds, hd, he, sd, se, q⟩ := h
  obtain ⟨as, r1⟩ := Dp.reads I d x v hd rx
  obtain ⟨bs, r2⟩ := Dp.reads I (.tuple ds) y u he ry
  exact SeqAt.notIn_tuple_reads r2 r1 (SeqAt.canLay_of_shaped se) (SeqAt.canLay_of_shaped sd) (PyProof.Rows.room_in_shaped sd hu) ⟨.bl _, H, I, rfl, q⟩
def rInAll (K : PySem.W.Frag) : R2 := fun x y H Q => (∃ (c : Nat) (z : Str), x = .str ⟨#[c]⟩ ∧ y = .str z ∧ Q (.bl (decide (c ∈ z.cps.toList))) H) ∨ rInD K x y H Q ∨ rInT K false x y H Q
def rNotInAll (K : PySem.W.Frag) : R2 := fun x y H Q => (∃ (c : Nat) (z : Str), x = .str ⟨#[c]⟩ ∧ y = .str z ∧ Q (.bl (!decide (c ∈ z.cps.toList))) H) ∨ rNotInD K x y H Q ∨ rInT K true x y H Q
theorem op_inAll (hu : X.A.units + 65 < cLine) : OpR X (compareOp .In) (rInAll X.K) := op_in_sign.or ((op_inD hu).or (op_inT hu))
theorem op_notInAll (hu : X.A.units + 65 < cLine) : OpR X (compareOp .NotIn) (rNotInAll X.K) := op_notIn_sign.or ((op_notInD hu).or (op_notInT hu))
end
def gInB (neg : Bool) : G2 := fun h x y q => match x, y with
  | .val (.str z), .val (.str w) => ∃ c, z = ⟨#[c]⟩ ∧ q (.val (.bl (if neg then !decide (c ∈ w.cps.toList) else decide (c ∈ w.cps.toList))))
  | x, y => ∃ p xs, x.pv h = some p ∧ ((y.pv h = some (.lst xs)) ∨ (y.pv h = some (.tup xs))) ∧ p.okD = true ∧ (PV.tup xs).okD = true ∧ q (.val (.bl (if neg then !xs.any fun z => pyEq z p else xs.any fun z => pyEq z p)))
@[simp ↓] theorem gInB_eq (neg : Bool) (h : Hs) (x : SV) (y : SV) (q : SV → Prop) : gInB neg h x y q = (match x, y with
  | .val (.str z), .val (.str w) => ∃ c, z = ⟨#[c]⟩ ∧ q (.val (.bl (if neg then !decide (c ∈ w.cps.toList) else decide (c ∈ w.cps.toList))))
  | x, y => ∃ p xs, x.pv h = some p ∧ ((y.pv h = some (.lst xs)) ∨ (y.pv h = some (.tup xs))) ∧ p.okD = true ∧ (PV.tup xs).okD = true ∧ q (.val (.bl (if neg then !xs.any fun z => pyEq z p else xs.any fun z => pyEq z p)))) := id rfl
def gIn : G2 := gInB false
@[simp ↓] theorem gIn_eq : gIn = (gInB false) := id rfl
def gNotIn : G2 := gInB true
@[simp ↓] theorem gNotIn_eq : gNotIn = (gInB true) := id rfl
theorem okD_tl {xs : List PV} (h : (PV.tup xs).okD = true) : PV.noRefL xs = true ∧ SeqAt.shaped (.tuple (PV.pyL xs)) = true ∧ SeqAt.shaped (.list (PV.pyL xs)) = true := by
  unfold PV.okD at h
  rw [Bool.and_eq_true] at h
  obtain ⟨h1, h2⟩ := h
  unfold PV.noRef at h1
  unfold PV.py at h2
  refine ⟨h1, h2, ?_⟩
  unfold SeqAt.shaped at h2 ⊢
  simpa [PyData.canLay0, PyData.depth] using h2
theorem os_inAll {K : PySem.W.Frag} : OpS K (rInAll K) gIn := fun C m σ H env h x y sx sy q Q' eK R rx ry hg p => by
  subst eK
  unfold gIn gInB at hg
  split at hg
  · obtain ⟨c, rfl, hq⟩ := hg
    cases rx; cases ry
    exact .inl ⟨_, _, rfl, rfl, p.bl R hq⟩
  · obtain ⟨a, xs, e1, e2, o1, o2, hq⟩ := hg
    obtain ⟨n2, s2, s3⟩ := okD_tl o2
    unfold PV.okD at o1
    rw [Bool.and_eq_true] at o1
    have ea : (PV.pyL xs).any (fun z => PyData.eqv z a.py) = xs.any fun z => pyEq z a := by
      rw [PV.pyL_map, List.any_map]
      rfl
    have hq' : q (.val (.bl ((PV.pyL xs).any fun z => PyData.eqv z a.py))) := by rw [ea]; exact hq
    rcases e2 with e2 | e2
    · have d2 := R.dp ry e2 (by unfold PV.noRef; exact n2)
      unfold PV.py at d2
      exact .inr (.inl ⟨_, _, R.dp rx e1 o1.1, d2, o1.2, s3, p.bl R hq'⟩)
    · have d2 := R.dp ry e2 (by unfold PV.noRef; exact n2)
      unfold PV.py at d2
      exact .inr (.inr ⟨_, _, R.dp rx e1 o1.1, d2, o1.2, s2, p.bl R hq'⟩)
theorem os_notInAll {K : PySem.W.Frag} : OpS K (rNotInAll K) gNotIn := fun C m σ H env h x y sx sy q Q' eK R rx ry hg p => by
  subst eK
  unfold gNotIn gInB at hg
  split at hg
  · obtain ⟨c, rfl, hq⟩ := hg
    cases rx; cases ry
    exact .inl ⟨_, _, rfl, rfl, p.bl R hq⟩
  · obtain ⟨a, xs, e1, e2, o1, o2, hq⟩ := hg
    obtain ⟨n2, s2, s3⟩ := okD_tl o2
    unfold PV.okD at o1
    rw [Bool.and_eq_true] at o1
    have ea : (PV.pyL xs).any (fun z => PyData.eqv z a.py) = xs.any fun z => pyEq z a := by
      rw [PV.pyL_map, List.any_map]
      rfl
    have hq' : q (.val (.bl (!(PV.pyL xs).any fun z => PyData.eqv z a.py))) := by rw [ea]; exact hq
    rcases e2 with e2 | e2
    · have d2 := R.dp ry e2 (by unfold PV.noRef; exact n2)
      unfold PV.py at d2
      exact .inr (.inl ⟨_, _, R.dp rx e1 o1.1, d2, o1.2, s3, p.bl R hq'⟩)
    · have d2 := R.dp ry e2 (by unfold PV.noRef; exact n2)
      unfold PV.py at d2
      exact .inr (.inr ⟨_, _, R.dp rx e1 o1.1, d2, o1.2, s2, p.bl R hq'⟩)

/-! ### items and slices -/
def gIx : G2 := fun h x y q => match y with
  | .val (.int i) => match x with
    | .val (.str z) => ∃ c, z.length ≤ sizeLine ∧ atI z.cps.toList i = some c ∧ q (.val (.str ⟨#[c]⟩))
    | x => ∃ xs p, seqC h x = some xs ∧ atI xs i = some p ∧ q (.val p)
  | _ => False
@[simp ↓] theorem gIx_eq  (h : Hs) (x : SV) (y : SV) (q : SV → Prop) : gIx  h x y q = (match y with
  | .val (.int i) => match x with
    | .val (.str z) => ∃ c, z.length ≤ sizeLine ∧ atI z.cps.toList i = some c ∧ q (.val (.str ⟨#[c]⟩))
    | x => ∃ xs p, seqC h x = some xs ∧ atI xs i = some p ∧ q (.val p)
  | _ => False) := id rfl
theorem RepL.atI {K : PySem.W.Frag} {Ex : Ad} {m : List Addr} {H : Hp} {vs : List V} {xs : List PV} {i : Int} {p : PV} (r : RepL K Ex m H vs xs) (e : L2.atI xs i = some p) : ∃ v, L2.atI vs i = some v ∧ Rep K Ex m H v p := by
  unfold L2.atI at e ⊢
  rw [r.length]
  cases q : ixN xs.length i with
  | none =>
    rw [q] at e
    cases e
  | some j =>
    rw [q] at e
    exact r.get e
theorem os_ix {K : PySem.W.Frag} : OpS K (rIx K) gIx := fun C m σ H env h x y sx sy q Q' eK R rx ry hg p => by
  subst eK
  unfold gIx at hg
  split at hg
  · cases ry
    split at hg
    · obtain ⟨c, l, e, hq⟩ := hg
      cases rx
      exact .inr (.inr ⟨_, _, c, rfl, rfl, l, e, p.str R hq⟩)
    · obtain ⟨xs, pv, e1, e2, hq⟩ := hg
      obtain ⟨a, vs, rfl, h1, q1⟩ := R.seq rx e1
      obtain ⟨v, e3, r3⟩ := q1.atI e2
      rcases h1 with h1 | h1
      · exact .inl ⟨a, vs, _, v, rfl, rfl, h1, e3, p.at R r3 hq⟩
      · exact .inr (.inl ⟨a, vs, _, v, rfl, rfl, h1, e3, p.at R r3 hq⟩)
  · exact hg.elim
def cutP (xs : List PV) (lo hi : Option Int) : List PV := (xs.drop (HT.sIx xs.length 0 lo)).take (HT.sIx xs.length xs.length hi - HT.sIx xs.length 0 lo)
theorem RepL.cut {K : PySem.W.Frag} {Ex : Ad} {m : List Addr} {H : Hp} {vs : List V} {xs : List PV} (r : RepL K Ex m H vs xs) (lo hi : Option Int) : RepL K Ex m H (cutV vs lo hi) (cutP xs lo hi) := by
  unfold cutV cutP
  rw [r.length]
  exact (r.drop _).take _
def rSlAll (K : PySem.W.Frag) : V → Option Int → Option Int → Hp → VK → Prop := fun x lo hi H Q => rSlL K x lo hi H Q ∨ rSlA K x lo hi H Q ∨ rSlS x lo hi H Q
theorem sl_all {X : Cx} : SlR X (rSlAll X.K) := sl_list.or (sl_tupA.or sl_str)
def gSl (h : Hs) (x : SV) (lo hi : Option Int) (q : SV → Prop) : Prop := match x with
  | .val (.str z) => z.length ≤ sizeLine ∧ q (.val (.str (cutS z lo hi)))
  | .val (.tup xs) => q (.val (.tup (cutP xs lo hi)))
  | x => ∃ xs, listC h x = some xs ∧ q (.own (cutP xs lo hi))
@[simp ↓] theorem gSl_eq (h : Hs) (x : SV) (lo hi : Option Int) (q : SV → Prop) : gSl h x lo hi q = (match x with
  | .val (.str z) => z.length ≤ sizeLine ∧ q (.val (.str (cutS z lo hi)))
  | .val (.tup xs) => q (.val (.tup (cutP xs lo hi)))
  | x => ∃ xs, listC h x = some xs ∧ q (.own (cutP xs lo hi))) := id rfl
def OptI : Option SV → Option (Option Int)
  | none => some none
  | some (.val (.int i)) => some (some i)
  | _ => none
theorem sIx_whole {xs : List PV} {lo hi : Option Int} (h : HT.sIx xs.length 0 lo = 0 ∧ HT.sIx xs.length xs.length hi = xs.length) : cutP xs lo hi = xs := by
  unfold cutP
  rw [h.1, h.2]
  simp
theorem os_sl {C : Ctx} {m : List Addr} {σ : St} {H : Hp} {env : Env} {h : Hs} {x : V} {sx : SV} {lo hi : Option Int} {q : SV → Prop} {Q' : VK} (R : Rel C m σ H env h) (rx : RepA C σ env m H x sx) (hg : gSl h sx lo hi q) (p : PostO C m σ H env h q Q') : rSlAll C.K x lo hi H Q' := by
  unfold gSl at hg
  split at hg
  · cases rx
    exact .inr (.inr ⟨_, rfl, hg.1, p.str R hg.2⟩)
  · cases rx with
    | tup ha qa =>
      refine .inr (.inl ⟨_, _, rfl, ha.sq, fun e => ?_, fun _ a n => p.newT R (qa.cut lo hi) hg n⟩)
      rw [qa.length] at e
      rw [sIx_whole e] at hg
      exact p.at R (.tup ha qa) hg
  · obtain ⟨xs, e, hq⟩ := hg
    obtain ⟨a, vs, rfl, h1, q1⟩ := R.list rx e
    exact .inl ⟨a, vs, rfl, h1, fun b n => p.newL R (q1.cut lo hi) hq n⟩
end PM

namespace PM
open PySem PySem.Spec L2
open PyProof.Rows hiding St

/-! ### arguments and displays -/
def dNil : DA := fun _ h Q _ => Q [] h
@[simp ↓] theorem dNil_eq  (u0 : Env) (h : Hs) (Q : List SV → Hs → Prop) (u1 : XQ) : dNil  u0 h Q u1 = (Q [] h) := id rfl
def dCons (a : DE) (r : DA) : DA := fun env h Q E => a env h (fun x h1 => r env h1 (fun xs h2 => Q (x :: xs) h2) E) E
@[simp ↓] theorem dCons_eq (a : DE) (r : DA) (env : Env) (h : Hs) (Q : List SV → Hs → Prop) (E : XQ) : dCons a r env h Q E = (a env h (fun x h1 => r env h1 (fun xs h2 => Q (x :: xs) h2) E) E) := id rfl
section
variable {K : PySem.W.Frag} {W : WX}
theorem sa_nil : SA K W tNil dNil := ⟨fun C m σ H env h Q E Q' eK R hf p _ => p m [] H [] h (.refl m H) R .nil hf⟩
theorem sa_cons {ta : TE} {fa : DE} {tr : TA} {fr : DA} (ha : SE K W ta fa) (hr : SA K W tr fr) : SA K W (tCons ta tr) (dCons fa fr) := ⟨fun C m σ H env h Q E Q' eK R hf p px => by
  refine ha.run C m σ H env h _ E _ eK R hf (fun m1 x H1 sx h1 S1 R1 r1 q1 => ?_) px
  refine hr.run (C.own x sx) m1 σ H1 env h1 _ E _ ((C.own_K x sx).trans eK) R1 q1 (fun m2 vs H2 svs h2 S2 R2 r2 q2 => ?_) (px.go S1).own
  refine p m2 (x :: vs) H2 (sx :: svs) h2 (S1.trans S2) R2 (.cons (r1.step S2 fun _ q => q) (Paired.mapP r2 fun v sv r => ?_)) q2
  exact r.less (C.own_K x sx).symm (fun b q => q.le fun _ => C.own_GT x sx) fun b n => stnew S1 n⟩
end
/-- a list of one's own that nobody else sees becomes a value -/
@[simp] def SV.toVal : SV → Option PV
  | .val p => some p
  | .own xs => some (.lst xs)
  | _ => none
@[simp] def valsOf : List SV → Option (List PV)
  | [] => some []
  | s :: ss => match s.toVal, valsOf ss with
    | some p, some ps => some (p :: ps)
    | _, _ => none
section
variable {C : Ctx} {m m' : List Addr} {σ : St} {H H' : Hp} {env : Env} {h : Hs}
theorem Rel.toVal (R : Rel C m σ H env h) {v : V} {sv : SV} {p : PV} (r : RepS C (ExOf C σ env m') m' (fun a => H a = none) H' v sv) (e : sv.toVal = some p) : Rep C.K (ExOf C σ env m') m' H' v p := by
  cases sv with
  | val q => cases e; exact r
  | own xs =>
    cases e
    obtain ⟨a, vs, rfl, ha, n, nm, q⟩ := r
    refine .lst ⟨.inl ha, fun z => ?_⟩ (RepL.mono (Kp.le fun b q => .inl q) ⟨[], by simp⟩ q)
    rcases z with z | z | z
    · exact R.gdom a z n
    · obtain ⟨ws, e, _⟩ := R.ownDom z
      rw [n] at e
      cases e
    · exact nm z
  | brw xs => cases e
  | exc _ _ => first | (cases e; done) | (cases nb; done) | exact r | exact r1 | exact ⟨r, trivial⟩ | exact ⟨r1, trivial⟩ | exact ⟨rv, trivial⟩ | trivial
  | scr ns => cases e
theorem Rel.toVals (R : Rel C m σ H env h) : ∀ {vs : List V} {svs : List SV} {ps : List PV}, Paired (RepS C (ExOf C σ env m') m' (fun a => H a = none) H') vs svs → valsOf svs = some ps → RepL C.K (ExOf C σ env m') m' H' vs ps
  | _, _, _, .nil, e => by
    cases e
    exact .nil
  | _, _, _, .cons r t, e => by
    unfold valsOf at e
    split at e
    · rename_i p ps e1 e2
      cases e
      exact .cons (R.toVal r e1) (R.toVals t e2)
    · cases e
end
def dTup (a : DA) : DE := fun env h Q E => a env h (fun svs h1 => match valsOf svs with
  | some ps => ps.length ≤ sizeLine ∧ Q (.val (.tup ps)) h1
  | none => False) E
@[simp ↓] theorem dTup_eq (a : DA) (env : Env) (h : Hs) (Q : VQ) (E : XQ) : dTup a env h Q E = (a env h (fun svs h1 => match valsOf svs with
  | some ps => ps.length ≤ sizeLine ∧ Q (.val (.tup ps)) h1
  | none => False) E) := id rfl
def dLst (a : DA) : DE := fun env h Q E => a env h (fun svs h1 => match valsOf svs with
  | some ps => ps.length ≤ sizeLine ∧ Q (.own ps) h1
  | none => False) E
@[simp ↓] theorem dLst_eq (a : DA) (env : Env) (h : Hs) (Q : VQ) (E : XQ) : dLst a env h Q E = (a env h (fun svs h1 => match valsOf svs with
  | some ps => ps.length ≤ sizeLine ∧ Q (.own ps) h1
  | none => False) E) := id rfl
section
variable {K : PySem.W.Frag} {W : WX} {ta : TA} {fa : DA}
theorem se_tup (ha : SA K W ta fa) : SE K W (tTup ta) (dTup fa) := ⟨fun C m σ H env h Q E Q' eK R hf p px => by
  refine ha.run C m σ H env h _ E _ eK R hf (fun m1 vs H1 svs h1 S1 R1 r1 q1 => ?_) px
  split at q1
  · rename_i ps e
    have rl := R.toVals r1 e
    have R1' : Rel C m1 σ H1 env h1 := R1.drops
    refine ⟨by rw [rl.length]; exact q1.1, fun a n => ?_⟩
    exact p m1 _ _ (.val (.tup ps)) h1 (S1.trans (.new n)) (R1'.grow (Same.upd n)) (R1'.newTup rl n) q1.2
  · exact q1.elim⟩
theorem se_lst (ha : SA K W ta fa) : SE K W (tLst ta) (dLst fa) := ⟨fun C m σ H env h Q E Q' eK R hf p px => by
  refine ha.run C m σ H env h _ E _ eK R hf (fun m1 vs H1 svs h1 S1 R1 r1 q1 => ?_) px
  split at q1
  · rename_i ps e
    have rl := R.toVals r1 e
    have R1' : Rel C m1 σ H1 env h1 := R1.drops
    refine ⟨by rw [rl.length]; exact q1.1, fun a n => ?_⟩
    refine PostO.newL (C := C) (m := m1) (σ := σ) (H := H1) (env := env) (h := h1) (q := fun r => Q r h1) (fun v H' sv s3 R3 r3 q3 => ?_) R1' rl q1.2 n
    exact p m1 v H' sv h1 (S1.trans (.same s3)) R3 (r3.less rfl (fun _ q => q) fun a n => stnew S1 n) q3
  · exact q1.elim⟩
end

/-! ### slices -/
abbrev DO := Env → Hs → (Option Int → Hs → Prop) → XQ → Prop
structure SO (K : PySem.W.Frag) (W : WX) (t : TO) (f : DO) : Prop where
  run : ∀ (C : Ctx) (m : List Addr) (σ : St) (H : Hp) (env : Env) (h : Hs) (Q : Option Int → Hs → Prop) (E : XQ) (Q' : Option Int → Hp → Prop), C.K = K → Rel C m σ H env h → f env h Q E →
    (∀ m' o H' h', StE m H m' H' → Rel C m' σ H' env h' → Q o h' → Q' o H') → PostX W C m σ H env E → t σ H Q'
def dNoPart : DO := fun _ h Q _ => Q none h
@[simp ↓] theorem dNoPart_eq  (u0 : Env) (h : Hs) (Q : Option Int → Hs → Prop) (u1 : XQ) : dNoPart  u0 h Q u1 = (Q none h) := id rfl
def dPart (a : DE) : DO := fun env h Q E => a env h (fun x h1 => match x with
  | .val (.int i) => Q (some i) h1
  | _ => False) E
@[simp ↓] theorem dPart_eq (a : DE) (env : Env) (h : Hs) (Q : Option Int → Hs → Prop) (E : XQ) : dPart a env h Q E = (a env h (fun x h1 => match x with
  | .val (.int i) => Q (some i) h1
  | _ => False) E) := id rfl
def dSl (a : DE) (lo hi : DO) : DE := fun env h Q E => a env h (fun x h1 => lo env h1 (fun l h2 => hi env h2 (fun u h3 => gSl h3 x l u fun r => Q r h3) E) E) E
@[simp ↓] theorem dSl_eq (a : DE) (lo hi : DO) (env : Env) (h : Hs) (Q : VQ) (E : XQ) : dSl a lo hi env h Q E = (a env h (fun x h1 => lo env h1 (fun l h2 => hi env h2 (fun u h3 => gSl h3 x l u fun r => Q r h3) E) E) E) := id rfl
section
variable {K : PySem.W.Frag} {W : WX}
theorem so_none : SO K W tNoPart dNoPart := ⟨fun C m σ H env h Q E Q' eK R hf p _ => p m none H h (.refl m H) R hf⟩
theorem so_some {ta : TE} {fa : DE} (ha : SE K W ta fa) : SO K W (tPart ta) (dPart fa) := ⟨fun C m σ H env h Q E Q' eK R hf p px => by
  refine ha.run C m σ H env h _ E _ eK R hf (fun m1 x H1 sx h1 S1 R1 r1 q1 => ?_) px
  split at q1
  · cases r1
    exact ⟨_, rfl, p m1 _ H1 h1 S1 R1 q1⟩
  · exact q1.elim⟩
theorem se_sl {ta : TE} {fa : DE} {tl th : TO} {fl fh : DO} (ha : SE K W ta fa) (hl : SO K W tl fl) (hh : SO K W th fh) : SE K W (tSl (rSlAll K) ta tl th) (dSl fa fl fh) := ⟨fun C m σ H env h Q E Q' eK R hf p px => by
  refine ha.run C m σ H env h _ E _ eK R hf (fun m1 x H1 sx h1 S1 R1 r1 q1 => ?_) px
  refine hl.run (C.own x sx) m1 σ H1 env h1 _ E _ ((C.own_K x sx).trans eK) R1 q1 (fun m2 l H2 h2 S2 R2 q2 => ?_) (px.go S1).own
  refine hh.run (C.own x sx) m2 σ H2 env h2 _ E _ ((C.own_K x sx).trans eK) R2 q2 (fun m3 u H3 h3 S3 R3 q3 => ?_) ((px.go S1).go S2).own
  have S : StE m H m3 H3 := (S1.trans S2).trans S3
  have r3 : RepA C σ env m3 H3 x sx := r1.step (S2.trans S3) fun _ _ => trivial
  have z := os_sl (C := C) (Q' := Q') R3.drop r3 q3 (fun v H' sv s3 R4 r4 q4 => p m3 v H' sv h3 (S.trans (.same s3)) R4 (r4.less rfl (fun _ q => q) fun a n => stnew S n) q4)
  rw [eK] at z
  exact z⟩
end

/-! ### tests -/
/-- a value's truth -/
def SV.tru (h : Hs) : SV → Option Bool
  | .val (.bl b) => some b
  | .val (.int i) => some (i != 0)
  | .val .non => some false
  | .val (.tup xs) => some (!xs.isEmpty)
  | .val (.ref n) => match h[n]? with
    | some (.lst xs) => some (!xs.isEmpty)
    | some (.dK xs) => some (!xs.isEmpty)
    | _ => none
  | .val (.lst xs) => some (!xs.isEmpty)
  | .own xs => some (!xs.isEmpty)
  | .brw xs => some (!xs.isEmpty)
  | _ => none
def dTru (a : DE) : DT := fun env h Q E => a env h (fun x h1 => match x.tru h1 with
  | some b => Q b h1
  | none => False) E
@[simp ↓] theorem dTru_eq (a : DE) (env : Env) (h : Hs) (Q : Bool → Hs → Prop) (E : XQ) : dTru a env h Q E = (a env h (fun x h1 => match x.tru h1 with
  | some b => Q b h1
  | none => False) E) := id rfl
/-- a test whose value is a bool by itself -/
def dTst (a : DE) : DT := fun env h Q E => a env h (fun x h1 => match x with
  | .val (.bl b) => Q b h1
  | _ => False) E
@[simp ↓] theorem dTst_eq (a : DE) (env : Env) (h : Hs) (Q : Bool → Hs → Prop) (E : XQ) : dTst a env h Q E = (a env h (fun x h1 => match x with
  | .val (.bl b) => Q b h1
  | _ => False) E) := id rfl
def tTru (K : PySem.W.Frag) (ta : TE) : TT := fun σ H Q => ta σ H fun x H' => ∃ k, TruV K x H' k ∧ Q k H'
section
variable {K : PySem.W.Frag} {W : WX}
theorem RepL.emp {K : PySem.W.Frag} {Ex : Ad} {m : List Addr} {H : Hp} {vs : List V} {xs : List PV} (r : RepL K Ex m H vs xs) : (!xs.isEmpty) = !vs.isEmpty := by
  cases r <;> rfl
theorem Rel.tru {C : Ctx} {m : List Addr} {σ : St} {H : Hp} {env : Env} {h : Hs} {v : V} {sv : SV} {b : Bool} (R : Rel C m σ H env h) (r : RepA C σ env m H v sv) (e : sv.tru h = some b) : TruV C.K v H b := by
  have lst : ∀ xs, listC h sv = some xs → b = !xs.isEmpty → TruV C.K v H b := fun xs e e2 => by
    obtain ⟨a, vs, rfl, h1, q⟩ := R.list r e
    exact .inl ⟨vs, h1, by rw [e2, q.emp]⟩
  cases sv with
  | own xs => cases e; exact lst xs rfl rfl
  | brw xs => cases e; exact lst xs rfl rfl
  | exc _ _ => first | (cases e; done) | (cases nb; done) | exact r | exact r1 | exact ⟨r, trivial⟩ | exact ⟨r1, trivial⟩ | exact ⟨rv, trivial⟩ | trivial
  | scr ns => cases e
  | val p =>
    cases p with
    | non => cases e; cases r; rfl
    | bl _ => cases e; cases r; rfl
    | int _ => cases e; cases r; rfl
    | str _ => cases e
    | tup xs =>
      cases e
      cases r with
      | tup ha q => exact .inr (.inl ⟨_, ha.sq, q.emp⟩)
    | lst xs => cases e; exact lst xs rfl rfl
    | ref n =>
      have e' : (match h[n]? with | some (.lst xs) => some (!xs.isEmpty) | some (.dK xs) => some (!xs.isEmpty) | _ => none) = some b := e
      split at e'
      · rename_i xs hc
        cases e'
        refine lst xs ?_ rfl
        show (match h[n]? with | some (.lst xs) => some xs | _ => none) = some xs
        rw [hc]
      · rename_i xs hc
        cases e'
        cases r with
        | ref hn =>
          obtain ⟨vs, q1, q2, _⟩ := R.cell hn hc
          refine .inr (.inr ⟨vs, q1, ?_⟩)
          have : xs.length = vs.length := by simpa using (congrArg List.length q2).symm
          cases xs <;> cases vs <;> simp_all
      · cases e'
theorem st_tru {ta : TE} {fa : DE} (ha : SE K W ta fa) : ST K W (tTru K ta) (dTru fa) := ⟨fun C m σ H env h Q E Q' eK R hf p px => by
  refine ha.run C m σ H env h _ E _ eK R hf (fun m1 x H1 sx h1 S1 R1 r1 q1 => ?_) px
  split at q1
  · rename_i b e
    subst eK
    exact ⟨b, R1.drop.tru (r1.less rfl (fun _ q => q) fun _ _ => trivial) e, p m1 b H1 h1 S1 R1.drop q1⟩
  · exact q1.elim⟩
theorem st_tst {ta : TE} {fa : DE} (ha : SE K W ta fa) : ST K W (tTest ta) (dTst fa) := ⟨fun C m σ H env h Q E Q' eK R hf p px => by
  refine ha.run C m σ H env h _ E _ eK R hf (fun m1 x H1 sx h1 S1 R1 r1 q1 => ?_) px
  split at q1
  · cases r1
    exact ⟨_, rfl, p m1 _ H1 h1 S1 R1 q1⟩
  · exact q1.elim⟩
def dAnd (a b : DT) : DT := fun env h Q E => a env h (fun c h1 => if c = true then b env h1 Q E else Q false h1) E
@[simp ↓] theorem dAnd_eq (a b : DT) (env : Env) (h : Hs) (Q : Bool → Hs → Prop) (E : XQ) : dAnd a b env h Q E = (a env h (fun c h1 => if c = true then b env h1 Q E else Q false h1) E) := id rfl
def dOr (a b : DT) : DT := fun env h Q E => a env h (fun c h1 => if c = true then Q true h1 else b env h1 Q E) E
@[simp ↓] theorem dOr_eq (a b : DT) (env : Env) (h : Hs) (Q : Bool → Hs → Prop) (E : XQ) : dOr a b env h Q E = (a env h (fun c h1 => if c = true then Q true h1 else b env h1 Q E) E) := id rfl
def dNot (a : DT) : DT := fun env h Q E => a env h (fun c h1 => Q (!c) h1) E
@[simp ↓] theorem dNot_eq (a : DT) (env : Env) (h : Hs) (Q : Bool → Hs → Prop) (E : XQ) : dNot a env h Q E = (a env h (fun c h1 => Q (!c) h1) E) := id rfl
variable {ta tb : TT} {fa fb : DT}
theorem st_and (ha : ST K W ta fa) (hb : ST K W tb fb) : ST K W (tAnd ta tb) (dAnd fa fb) := ⟨fun C m σ H env h Q E Q' eK R hf p px => by
  refine ha.run C m σ H env h _ E _ eK R hf (fun m1 c H1 h1 S1 R1 q1 => ?_) px
  cases c with
  | true => exact iteT (hb.run C m1 σ H1 env h1 Q E Q' eK R1 (by simpa using q1) (fun m2 b H2 h2 S2 => p m2 b H2 h2 (S1.trans S2)) (px.go S1))
  | false => exact iteF (p m1 false H1 h1 S1 R1 (by simpa using q1))⟩
theorem st_or (ha : ST K W ta fa) (hb : ST K W tb fb) : ST K W (tOr ta tb) (dOr fa fb) := ⟨fun C m σ H env h Q E Q' eK R hf p px => by
  refine ha.run C m σ H env h _ E _ eK R hf (fun m1 c H1 h1 S1 R1 q1 => ?_) px
  cases c with
  | false => exact iteF (hb.run C m1 σ H1 env h1 Q E Q' eK R1 (by simpa using q1) (fun m2 b H2 h2 S2 => p m2 b H2 h2 (S1.trans S2)) (px.go S1))
  | true => exact iteT (p m1 true H1 h1 S1 R1 (by simpa using q1))⟩
theorem st_not (ha : ST K W ta fa) : ST K W (tNot ta) (dNot fa) := ⟨fun C m σ H env h Q E Q' eK R hf p px =>
  ha.run C m σ H env h _ E _ eK R hf (fun m1 c H1 h1 S1 R1 q1 => p m1 (!c) H1 h1 S1 R1 q1) px⟩
end
/-! as values: bools -/
def dAndV (a b : DE) : DE := fun env h Q E => a env h (fun x h1 => match x with
  | .val (.bl c) => if c = true then b env h1 Q E else Q (.val (.bl false)) h1
  | _ => False) E
@[simp ↓] theorem dAndV_eq (a b : DE) (env : Env) (h : Hs) (Q : VQ) (E : XQ) : dAndV a b env h Q E = (a env h (fun x h1 => match x with
  | .val (.bl c) => if c = true then b env h1 Q E else Q (.val (.bl false)) h1
  | _ => False) E) := id rfl
def dOrV (a b : DE) : DE := fun env h Q E => a env h (fun x h1 => match x with
  | .val (.bl c) => if c = true then Q (.val (.bl true)) h1 else b env h1 Q E
  | _ => False) E
@[simp ↓] theorem dOrV_eq (a b : DE) (env : Env) (h : Hs) (Q : VQ) (E : XQ) : dOrV a b env h Q E = (a env h (fun x h1 => match x with
  | .val (.bl c) => if c = true then Q (.val (.bl true)) h1 else b env h1 Q E
  | _ => False) E) := id rfl
def dNotV (a : DE) : DE := fun env h Q E => a env h (fun x h1 => match x with
  | .val (.bl c) => Q (.val (.bl (!c))) h1
  | _ => False) E
@[simp ↓] theorem dNotV_eq (a : DE) (env : Env) (h : Hs) (Q : VQ) (E : XQ) : dNotV a env h Q E = (a env h (fun x h1 => match x with
  | .val (.bl c) => Q (.val (.bl (!c))) h1
  | _ => False) E) := id rfl
section
variable {K : PySem.W.Frag} {W : WX} {ta tb : TE} {fa fb : DE}
theorem PostE.go {C : Ctx} {m m1 : List Addr} {σ : St} {H H1 : Hp} {env : Env} {Q : VQ} {Q' : VK} (p : PostE C m σ H env Q Q') (S : StE m H m1 H1) : PostE C m1 σ H1 env Q Q' :=
  fun m' v H' sv h' S' R r q => p m' v H' sv h' (S.trans S') R (r.less rfl (fun _ q => q) fun a n => stnew S n) q
theorem se_and (ha : SE K W ta fa) (hb : SE K W tb fb) : SE K W (tAndV ta tb) (dAndV fa fb) := ⟨fun C m σ H env h Q E Q' eK R hf p px => by
  refine ha.run C m σ H env h _ E _ eK R hf (fun m1 x H1 sx h1 S1 R1 r1 q1 => ?_) px
  split at q1
  · rename_i c
    cases r1
    refine ⟨c, rfl, ?_⟩
    cases c with
    | true => exact iteT (hb.run C m1 σ H1 env h1 Q E Q' eK R1 (by simpa using q1) (p.go S1) (px.go S1))
    | false => exact iteF (p m1 _ H1 (.val (.bl false)) h1 S1 R1 (.bl false) (by simpa using q1))
  · exact q1.elim⟩
theorem se_not (ha : SE K W ta fa) : SE K W (tNotV ta) (dNotV fa) := ⟨fun C m σ H env h Q E Q' eK R hf p px => by
  refine ha.run C m σ H env h _ E _ eK R hf (fun m1 x H1 sx h1 S1 R1 r1 q1 => ?_) px
  split at q1
  · rename_i c
    cases r1
    exact ⟨c, rfl, p m1 _ H1 (.val (.bl (!c))) h1 S1 R1 (.bl _) q1⟩
  · exact q1.elim⟩
/-- a < b < c -/
def dChain (g g' : G2) (a b c : DE) : DE := fun env h Q E => a env h (fun x h1 => b env h1 (fun y h2 => g h2 x y fun z => match z with
  | .val (.bl k) => if k = true then c env h2 (fun w h3 => g' h3 y w fun r => Q r h3) E else Q (.val (.bl false)) h2
  | _ => False) E) E
@[simp ↓] theorem dChain_eq (g g' : G2) (a b c : DE) (env : Env) (h : Hs) (Q : VQ) (E : XQ) : dChain g g' a b c env h Q E = (a env h (fun x h1 => b env h1 (fun y h2 => g h2 x y fun z => match z with
  | .val (.bl k) => if k = true then c env h2 (fun w h3 => g' h3 y w fun r => Q r h3) E else Q (.val (.bl false)) h2
  | _ => False) E) E) := id rfl
end
end PM

namespace PM
open PySem PySem.Spec L2
open PyProof.Rows hiding St

/-! ### slots change -/
theorem get_set {α : Type} {xs : List α} {i j : Nat} {x y : α} (h : (xs.set i x)[j]? = some y) : (j = i ∧ i < xs.length ∧ y = x) ∨ (j ≠ i ∧ xs[j]? = some y) := by
  rw [List.getElem?_set] at h
  split at h
  · rename_i e
    split at h
    · exact .inl ⟨e.symm, by assumption, (Option.some.inj h).symm⟩
    · cases h
  · rename_i e
    exact .inr ⟨fun z => e z.symm, h⟩
theorem nd_ix {α : Type} {N : List α} (hN : N.Nodup) {i j : Nat} {x : α} (a : N[i]? = some x) (b : N[j]? = some x) : i = j := by
  obtain ⟨hi, ei⟩ := List.getElem?_eq_some_iff.mp a
  obtain ⟨hj, ej⟩ := List.getElem?_eq_some_iff.mp b
  rcases Nat.lt_trichotomy i j with l | l | l
  · exact absurd (ei.trans ej.symm) (List.pairwise_iff_getElem.mp hN i j hi hj l)
  · exact l
  · exact absurd (ej.trans ei.symm) (List.pairwise_iff_getElem.mp hN j i hj hi l)
section
variable {C : Ctx} {m m' : List Addr} {σ : St} {H H' : Hp} {env : Env} {h h' : Hs}
theorem own_set {i : Nat} {v : V} {sv : SV} {b : Addr} (o : OwnAt (σ.set i (some v)) (env.set i (some sv)) b) : OwnAt σ env b ∨ (sv.isOwn = true ∧ v = .ref b) := by
  obtain ⟨j, xs, e, s⟩ := o
  rcases get_set e with ⟨rfl, l, e1⟩ | ⟨n, e1⟩
  · rcases get_set s with ⟨_, _, e2⟩ | ⟨n, _⟩
    · cases e1
      cases e2
      exact .inr ⟨rfl, rfl⟩
    · exact absurd rfl n
  · rcases get_set s with ⟨q, _⟩ | ⟨_, e2⟩
    · exact absurd q n
    · exact .inl ⟨j, xs, e1, e2⟩
theorem own_clear {i : Nat} {x : Option V} {b : Addr} (o : OwnAt (σ.set i x) (env.set i none) b) : OwnAt σ env b := by
  obtain ⟨j, xs, e, s⟩ := o
  rcases get_set e with ⟨rfl, l, e1⟩ | ⟨n, e1⟩
  · cases e1
  · rcases get_set s with ⟨q, _⟩ | ⟨_, e2⟩
    · exact absurd q n
    · exact ⟨j, xs, e1, e2⟩
theorem NB.le {σ' : St} {env' : Env} {C' : Ctx} {v : V} {sv : SV} (n : NB C σ env v sv) (eK : C'.K = C.K) (o : ∀ b, OwnAt σ' env' b → OwnAt σ env b ∨ C.T b) (t : ∀ b, C'.T b → C.T b) : NB C' σ' env' v sv := by
  cases sv with
  | val p => trivial
  | own xs => trivial
  | brw xs => exact fun b e => ⟨fun q => (o b q).elim (n b e).1 (n b e).2, fun q => (n b e).2 (t b q)⟩
  | exc _ _ => first | (cases e; done) | (cases nb; done) | exact r | exact r1 | exact ⟨r, trivial⟩ | exact ⟨r1, trivial⟩ | exact ⟨rv, trivial⟩ | trivial
  | scr ns =>
    intro b e
    rcases n b e with q | q
    · exact .inl fun H' => by rw [eK]; exact q H'
    · exact .inr ⟨fun z => (o b z).elim q.1 q.2, fun z => q.2 (t b z)⟩
/-- a slot is stored -/
theorem Rel.setSlot {i : Nat} {v : V} {sv : SV} (R : Rel (C.own v sv) m σ H env h) (r : RepS C (ExOf C σ env m) m (fun a => C.H0 a = none) H v sv) (nb : sv.isB = false) (nG : ∀ a, sv.isOwn = true → v = .ref a → ¬ C.GT a) :
    Rel C m (σ.set i (some v)) H (env.set i (some sv)) h := by
  have own : ∀ b, OwnAt (σ.set i (some v)) (env.set i (some sv)) b → OwnAt σ env b ∨ (C.own v sv).T b := fun b o => (own_set o).imp id fun ⟨q, e⟩ => by
    cases sv with
    | own xs => exact .inr e.symm
    | _ => cases q
  have ex : ∀ b, ExOf C (σ.set i (some v)) (env.set i (some sv)) m b → ExOf (C.own v sv) σ env m b := fun b q => by
    rcases q with q | q | q
    · exact .inl (C.own_GT v sv q)
    · rcases own b q with z | z
      · exact .inr (.inl z)
      · exact .inl (.inr z)
    · exact .inr (.inr q)
  have slots : ∀ w sw, SlotR (C.own v sv) σ env m H w sw → SlotR C (σ.set i (some v)) (env.set i (some sv)) m H w sw := fun w sw ⟨r1, b1⟩ =>
    ⟨r1.less (C.own_K v sv).symm ex fun b q => by rw [← C.own_H0 v sv]; exact q, b1.le (C.own_K v sv).symm own fun b q => C.own_T v sv q⟩
  have R0 := R.drop
  refine ⟨by rw [List.length_set, List.length_set]; exact R.len, fun j sw e => ?_, fun p hp => ?_, fun j k xs ys a e1 e2 s1 s2 => ?_, ⟨R.hm.len, R.hm.nd, fun n a c e f => ?_⟩, R0.keep, R0.dom, R0.pre, R0.gdom, fun a g o => ?_⟩
  · rcases get_set e with ⟨rfl, l, e1⟩ | ⟨n, e1⟩
    · cases e1
      refine ⟨v, by rw [List.getElem?_set_self (by rw [R.len]; exact l)], ?_, by cases sv <;> first | trivial | cases nb⟩
      cases sv with
      | own xs =>
        obtain ⟨a, vs, rfl, ha, h0, nm, q⟩ := r
        refine ⟨a, vs, rfl, ha, h0, nm, RepL.mono (Kp.le fun b z => ?_) ⟨[], by simp⟩ q⟩
        rcases z with z | z
        · rcases ex b z with z | z | z
          · rcases z with z | z | z
            · exact .inl (.inl (.inl z))
            · exact .inl (.inl (.inr z))
            · cases z
              exact .inr rfl
          · exact .inl (.inr (.inl z))
          · exact .inl (.inr (.inr z))
        · exact .inr z
      | val p => exact Rep.mono (Kp.le fun b z => ex b z) ⟨[], by simp⟩ r
      | brw xs => cases nb
      | exc _ _ => first | (cases e; done) | (cases nb; done) | exact r | exact r1 | exact ⟨r, trivial⟩ | exact ⟨r1, trivial⟩ | exact ⟨rv, trivial⟩ | trivial
      | scr ns => cases nb
    · obtain ⟨w, s, r1⟩ := R.slot j sw e1
      exact ⟨w, by rw [List.getElem?_set_ne (Ne.symm n)]; exact s, slots w sw r1⟩
  · have z := R.pin p (by rw [C.own_pins]; exact hp)
    exact ⟨slots _ _ z.1, z.2⟩
  · have fresh : sv.isOwn = true → v = .ref a → ¬ OwnAt σ env a := fun q e o => R.gown a (by
      cases sv with
      | own xs => exact .inr (.inr e.symm)
      | _ => cases q) o
    rcases get_set e1 with ⟨rfl, l, f1⟩ | ⟨n1, f1⟩
    · rcases get_set e2 with ⟨rfl, _, f2⟩ | ⟨n2, f2⟩
      · rfl
      · cases f1
        rcases get_set s1 with ⟨_, _, g1⟩ | ⟨n, _⟩
        · cases g1
          rcases get_set s2 with ⟨q, _⟩ | ⟨_, g2⟩
          · exact absurd q n2
          · exact absurd ⟨k, ys, f2, g2⟩ (fresh rfl rfl)
        · exact absurd rfl n
    · rcases get_set e2 with ⟨rfl, _, f2⟩ | ⟨n2, f2⟩
      · cases f2
        rcases get_set s2 with ⟨_, _, g2⟩ | ⟨n, _⟩
        · cases g2
          rcases get_set s1 with ⟨q, _⟩ | ⟨_, g1⟩
          · exact absurd q n1
          · exact absurd ⟨j, xs, f1, g1⟩ (fresh rfl rfl)
        · exact absurd rfl n
      · rcases get_set s1 with ⟨q, _⟩ | ⟨_, g1⟩
        · exact absurd q n1
        · rcases get_set s2 with ⟨q, _⟩ | ⟨_, g2⟩
          · exact absurd q n2
          · exact R.uniq j k xs ys a f1 f2 g1 g2
  · have z := R.hm.at_ n a c e f
    rw [C.own_K] at z
    exact z.mono (Kp.le ex) ⟨[], by simp⟩ rfl
  · rcases own_set o with q | ⟨q, e⟩
    · exact R0.gown a g q
    · exact nG a q e g
theorem Rel.setVal {i : Nat} {v : V} {p : PV} (R : Rel C m σ H env h) (r : Rep C.K (ExOf C σ env m) m H v p) : Rel C m (σ.set i (some v)) H (env.set i (some (.val p))) h :=
  Rel.setSlot (sv := .val p) R r rfl fun _ q => nomatch q
/-- a slot is forgotten -/
theorem Rel.clear {i : Nat} {x : Option V} (R : Rel C m σ H env h) : Rel C m (σ.set i x) H (env.set i none) h := by
  have ex : ∀ b, ExOf C (σ.set i x) (env.set i none) m b → ExOf C σ env m b := fun b q => by
    rcases q with q | q | q
    · exact .inl q
    · exact .inr (.inl (own_clear q))
    · exact .inr (.inr q)
  have slots : ∀ w sw, SlotR C σ env m H w sw → SlotR C (σ.set i x) (env.set i none) m H w sw := fun w sw ⟨r1, b1⟩ => ⟨r1.less rfl ex fun _ q => q, b1.le rfl (fun b o => .inl (own_clear o)) fun _ q => q⟩
  refine ⟨by rw [List.length_set, List.length_set]; exact R.len, fun j sw e => ?_, fun p hp => ⟨slots _ _ (R.pin p hp).1, (R.pin p hp).2⟩, fun j k xs ys a e1 e2 s1 s2 => ?_, ⟨R.hm.len, R.hm.nd, fun n a c e f => (R.hm.at_ n a c e f).mono (Kp.le ex) ⟨[], by simp⟩ rfl⟩, R.keep, R.dom, R.pre, R.gdom, fun a g o => R.gown a g (own_clear o)⟩
  · rcases get_set e with ⟨rfl, l, e1⟩ | ⟨n, e1⟩
    · cases e1
    · obtain ⟨w, s, r1⟩ := R.slot j sw e1
      exact ⟨w, by rw [List.getElem?_set_ne (Ne.symm n)]; exact s, slots w sw r1⟩
  · rcases get_set e1 with ⟨rfl, l, f1⟩ | ⟨n1, f1⟩
    · cases f1
    · rcases get_set e2 with ⟨rfl, l, f2⟩ | ⟨n2, f2⟩
      · cases f2
      · rcases get_set s1 with ⟨q, _⟩ | ⟨_, g1⟩
        · exact absurd q n1
        · rcases get_set s2 with ⟨q, _⟩ | ⟨_, g2⟩
          · exact absurd q n2
          · exact R.uniq j k xs ys a f1 f2 g1 g2
/-- a list of one's own is locked for ever -/
def frzE (i : Nat) (env : Env) : Env := match env[i]? with
  | some (some (.own xs)) => env.set i (some (.val (.lst xs)))
  | _ => env
@[simp ↓] theorem frzE_eq (i : Nat) (env : Env) : frzE i env = (match env[i]? with
  | some (some (.own xs)) => env.set i (some (.val (.lst xs)))
  | _ => env) := id rfl
theorem own_frz {i : Nat} {xs : List PV} {b : Addr} (o : OwnAt σ (env.set i (some (.val (.lst xs)))) b) : ∃ j ys, j ≠ i ∧ env[j]? = some (some (.own ys)) ∧ σ[j]? = some (some (.ref b)) := by
  obtain ⟨j, ys, e, s⟩ := o
  rcases get_set e with ⟨rfl, l, e1⟩ | ⟨n, e1⟩
  · cases e1
  · exact ⟨j, ys, n, e1, s⟩
theorem Rel.frz {i : Nat} (R : Rel C m σ H env h) : Rel C m σ H (frzE i env) h := by
  unfold frzE
  split
  · rename_i xs e0
    obtain ⟨v0, s0, ⟨a0, vs0, rfl, ha0, h00, nm0, q0⟩, _⟩ := R.slot i _ e0
    have il : i < env.length := (List.getElem?_eq_some_iff.mp e0).1
    have o2 : ∀ b, OwnAt σ (env.set i (some (.val (.lst xs)))) b → OwnAt σ env b ∧ b ≠ a0 := fun b o => by
      obtain ⟨j, ys, n, e, s⟩ := own_frz o
      refine ⟨⟨j, ys, e, s⟩, fun z => ?_⟩
      subst z
      exact n (R.uniq j i ys xs b e e0 s s0)
    have ex : ∀ b, ExOf C σ (env.set i (some (.val (.lst xs)))) m b → ExOf C σ env m b := fun b q => by
      rcases q with q | q | q
      · exact .inl q
      · exact .inr (.inl (o2 b q).1)
      · exact .inr (.inr q)
    have slots : ∀ w sw, SlotR C σ env m H w sw → SlotR C σ (env.set i (some (.val (.lst xs)))) m H w sw := fun w sw ⟨r1, b1⟩ => ⟨r1.less rfl ex fun _ q => q, b1.le rfl (fun b o => .inl (o2 b o).1) fun _ q => q⟩
    refine ⟨by rw [List.length_set]; exact R.len, fun j sw e => ?_, fun p hp => ⟨slots _ _ (R.pin p hp).1, (R.pin p hp).2⟩, fun j k xs ys a e1 e2 s1 s2 => ?_, ⟨R.hm.len, R.hm.nd, fun n a c e f => (R.hm.at_ n a c e f).mono (Kp.le ex) ⟨[], by simp⟩ rfl⟩, R.keep, R.dom, R.pre, R.gdom, fun a g o => R.gown a g (o2 a o).1⟩
    · rcases get_set e with ⟨rfl, l, e1⟩ | ⟨n, e1⟩
      · cases e1
        refine ⟨_, s0, .lst ⟨.inl ha0, fun z => ?_⟩ (RepL.mono (Kp.le fun b z => .inl (ex b z)) ⟨[], by simp⟩ q0), trivial⟩
        rcases z with z | z | z
        · exact R.gown a0 z ⟨_, _, e0, s0⟩
        · exact (o2 a0 z).2 rfl
        · exact nm0 z
      · obtain ⟨w, s, r1⟩ := R.slot j sw e1
        exact ⟨w, s, slots w sw r1⟩
    · rcases get_set e1 with ⟨rfl, l, f1⟩ | ⟨n1, f1⟩
      · cases f1
      · rcases get_set e2 with ⟨rfl, l, f2⟩ | ⟨n2, f2⟩
        · cases f2
        · exact R.uniq j k _ _ a f1 f2 s1 s2
  · exact R
/-- a list of one's own is changed -/
theorem Rel.mutOwn {i : Nat} {a : Addr} {xs ys : List PV} {vs : List V} (R : Rel C m σ H env h) (e0 : env[i]? = some (some (.own xs))) (s0 : σ[i]? = some (some (.ref a))) (r : RepL C.K (ExOf C σ env m) m H vs ys) :
    Rel C m σ (upd H a (.lst vs)) (env.set i (some (.own ys))) h := by
  obtain ⟨v0, s0', ⟨a0, vs0, e00, ha0, h00, nm0, q0⟩, _⟩ := R.slot i _ e0
  rw [s0] at s0'
  cases s0'
  cases e00
  have il : i < env.length := (List.getElem?_eq_some_iff.mp e0).1
  have oa : OwnAt σ env a := ⟨i, xs, e0, s0⟩
  have o2 : ∀ b, OwnAt σ (env.set i (some (.own ys))) b → OwnAt σ env b := fun b ⟨j, zs, e, s⟩ => by
    rcases get_set e with ⟨rfl, l, e1⟩ | ⟨n, e1⟩
    · exact ⟨_, xs, e0, s⟩
    · exact ⟨j, zs, e1, s⟩
  have ex : ∀ b, ExOf C σ (env.set i (some (.own ys))) m b → ExOf C σ env m b := fun b q => by
    rcases q with q | q | q
    · exact .inl q
    · exact .inr (.inl (o2 b q))
    · exact .inr (.inr q)
  have k : Kp (ExOf C σ env m) H (ExOf C σ (env.set i (some (.own ys))) m) (upd H a (.lst vs)) := fun b u e n => by
    have nb : b ≠ a := fun z => n (by rw [z]; exact .inr (.inl oa))
    exact ⟨by rw [upd_ne nb]; exact e, fun q => n (ex b q)⟩
  have am : ∀ b, b ∈ m → b ≠ a := fun b q z => nm0 (z ▸ q)
  have oex : ∀ b, (ExOf C σ env m b ∨ b = a) → ExOf C σ env m b := fun b q => q.elim id fun z => by rw [z]; exact .inr (.inl oa)
  have slots : ∀ w sw, (sw.isOwn = true → w ≠ .ref a) → SlotR C σ env m H w sw → SlotR C σ (env.set i (some (.own ys))) m (upd H a (.lst vs)) w sw := fun w sw no ⟨r1, b1⟩ => by
    refine ⟨?_, b1.le rfl (fun b o => .inl (o2 b o)) fun _ q => q⟩
    cases sw with
    | val p => exact Rep.mono k ⟨[], by simp⟩ r1
    | own zs =>
      obtain ⟨c, ws, rfl, hc, hn, cm, q⟩ := r1
      have nc : c ≠ a := fun z => no rfl (by rw [z])
      refine ⟨c, ws, rfl, by rw [upd_ne nc]; exact hc, hn, cm, RepL.mono (fun b u e n => ?_) ⟨[], by simp⟩ q⟩
      obtain ⟨k1, k2⟩ := k b u e fun z => n (.inl z)
      exact ⟨k1, fun z => z.elim k2 fun z => n (.inr z)⟩
    | brw zs =>
      obtain ⟨c, ws, rfl, hc, q⟩ := r1
      have nc : c ≠ a := fun z => (b1 c rfl).1 (by rw [z]; exact oa)
      refine ⟨c, ws, rfl, ⟨?_, hc.2⟩, RepL.mono k ⟨[], by simp⟩ q⟩
      unfold Rd
      rw [upd_ne nc]
      exact hc.1
    | exc _ _ => first | (cases e; done) | (cases nb; done) | exact r | exact r1 | exact ⟨r, trivial⟩ | exact ⟨r1, trivial⟩ | exact ⟨rv, trivial⟩ | trivial
    | scr ns =>
      obtain ⟨c, rfl, hc⟩ := r1
      refine ⟨c, rfl, ?_⟩
      rcases b1 c rfl with z | z
      · exact .inr z
      · rcases hc with hc | hc
        · have nc : c ≠ a := fun e => z.1 (by rw [e]; exact oa)
          refine .inl ⟨?_, hc.2⟩
          unfold Rd
          rw [upd_ne nc]
          exact hc.1
        · exact .inr hc
  refine ⟨by rw [List.length_set]; exact R.len, fun j sw e => ?_, fun p hp => ⟨slots _ _ (fun q => by rw [(R.pin p hp).2] at q; cases q) (R.pin p hp).1, (R.pin p hp).2⟩, fun j k' us ws b e1 e2 s1 s2 => ?_, ⟨R.hm.len, R.hm.nd, fun n b c e f => (R.hm.at_ n b c e f).mono k ⟨[], by simp⟩ (upd_ne (am b (List.mem_of_getElem? e)))⟩, fun b u e n => ?_, fun b q => ?_, R.pre, fun b q => ?_, fun b g o => R.gown b g (o2 b o)⟩
  · rcases get_set e with ⟨rfl, l, e1⟩ | ⟨n, e1⟩
    · cases e1
      refine ⟨_, s0, ⟨a, vs, rfl, upd_same, h00, nm0, RepL.mono (fun b u e n => ?_) ⟨[], by simp⟩ r⟩, trivial⟩
      obtain ⟨k1, k2⟩ := k b u e n
      exact ⟨k1, fun z => z.elim k2 fun z => n (by rw [z]; exact .inr (.inl oa))⟩
    · obtain ⟨w, s, r1⟩ := R.slot j sw e1
      refine ⟨w, s, slots w sw (fun q z => ?_) r1⟩
      cases sw with
      | own zs =>
        subst z
        exact n (R.uniq j i zs xs a e1 e0 s s0)
      | _ => cases q
  · have to : ∀ {j : Nat} {us : List PV}, (env.set i (some (.own ys)))[j]? = some (some (.own us)) → ∃ us', env[j]? = some (some (.own us')) := fun {j us} e => by
      rcases get_set e with ⟨rfl, _, _⟩ | ⟨_, e1⟩
      · exact ⟨_, e0⟩
      · exact ⟨_, e1⟩
    obtain ⟨us', f1⟩ := to e1
    obtain ⟨ws', f2⟩ := to e2
    exact R.uniq j k' us' ws' b f1 f2 s1 s2
  · have nb : b ≠ a := fun z => by
      rw [z, h00] at e
      cases e
    rw [upd_ne nb]
    exact R.keep b u e n
  · by_cases z : b = a
    · rw [z, upd_same]
      simp
    · rw [upd_ne z]
      exact R.dom b q
  · by_cases z : b = a
    · rw [z, upd_same]
      simp
    · rw [upd_ne z]
      exact R.gdom b q
/-- a cell is changed -/
theorem Rel.mutCell {n : Nat} {a : Addr} {c' : Cell} {o : HO} (R : Rel C m σ H env h) (e0 : m[n]? = some a) (s0 : n < h.length) (r : CellR C.K (ExOf C σ env m) m (upd H a o) a c') :
    StE m H m (upd H a o) ∧ Rel C m σ (upd H a o) env (h.set n c') := by
  have am : a ∈ m := List.mem_of_getElem? e0
  have S : StE m H m (upd H a o) := ⟨fun b u e n => by rw [upd_ne (fun z => n (by rw [z]; exact am))]; exact e, fun b q => by
    by_cases z : b = a
    · rw [z, upd_same]
      simp
    · rw [upd_ne z]
      exact q, [], by simp, by simp⟩
  refine ⟨S, R.step S ⟨by rw [List.length_set]; exact R.hm.len, R.hm.nd, fun k b c e f => ?_⟩⟩
  rcases get_set f with ⟨rfl, l, f1⟩ | ⟨n', f1⟩
  · rw [e0] at e
    cases e
    cases f1
    exact r
  · have nb : b ≠ a := fun z => by
      subst z
      exact n' (nd_ix R.hm.nd e e0)
    exact (R.hm.at_ k b c e f1).mono (R.kp S) ⟨[], by simp⟩ (upd_ne nb)
/-- a new cell for a list that nobody sees -/
theorem Rel.alloc {a : Addr} {vs : List V} {xs : List PV} (R : Rel (C.own (.ref a) (.own xs)) m σ H env h) (ha : H a = some (.lst vs)) (nm : a ∉ m) (n0 : C.H0 a = none) (nG : ¬ C.GT a) (q : RepL C.K (fun b => ExOf C σ env m b ∨ b = a) m H vs xs) :
    Rel C (m ++ [a]) σ H env (h ++ [.lst xs]) := by
  have R0 := R.drop
  have no : ¬ OwnAt σ env a := R.gown a (.inr (.inr rfl))
  have ex : ∀ b, ExOf C σ env (m ++ [a]) b → ExOf (C.own (.ref a) (.own xs)) σ env m b := fun b z => by
    rcases z with z | z | z
    · exact .inl (C.own_GT _ _ z)
    · exact .inr (.inl z)
    · rcases List.mem_append.mp z with z | z
      · exact .inr (.inr z)
      · rw [List.mem_singleton.mp z]
        exact .inl (.inr (.inr rfl))
  have slots : ∀ w sw, SlotR (C.own (.ref a) (.own xs)) σ env m H w sw → (sw.isOwn = true → w ≠ .ref a) → SlotR C σ env (m ++ [a]) H w sw := fun w sw ⟨r1, b1⟩ no' => by
    refine ⟨?_, b1.le rfl (fun b o => .inl o) fun b q => .inl q⟩
    cases sw with
    | val p => exact Rep.mono (Kp.le ex) ⟨_, rfl⟩ r1
    | own zs =>
      obtain ⟨c, ws, rfl, hc, hn, cm, q⟩ := r1
      refine ⟨c, ws, rfl, hc, hn, fun z => ?_, RepL.mono (Kp.le fun b z => z.imp (ex b) id) ⟨_, rfl⟩ q⟩
      rcases List.mem_append.mp z with z | z
      · exact cm z
      · exact no' rfl (by rw [List.mem_singleton.mp z])
    | brw zs =>
      obtain ⟨c, ws, rfl, hc, q⟩ := r1
      refine ⟨c, ws, rfl, ⟨hc.1, fun z => ?_⟩, RepL.mono (Kp.le ex) ⟨_, rfl⟩ q⟩
      rcases List.mem_append.mp z with z | z
      · exact hc.2 z
      · exact (b1 c rfl).2 (.inr (by rw [List.mem_singleton.mp z]))
    | exc _ _ => first | (cases e; done) | (cases nb; done) | exact r | exact r1 | exact ⟨r, trivial⟩ | exact ⟨r1, trivial⟩ | exact ⟨rv, trivial⟩ | trivial
    | scr ns =>
      obtain ⟨c, rfl, hc⟩ := r1
      refine ⟨c, rfl, ?_⟩
      rcases b1 c rfl with z | z
      · exact .inr z
      · rcases hc with hc | hc
        · refine .inl ⟨hc.1, fun e => ?_⟩
          rcases List.mem_append.mp e with e | e
          · exact hc.2 e
          · exact z.2 (.inr (by rw [List.mem_singleton.mp e]))
        · exact .inr hc
  refine ⟨R.len, fun j sw e => ?_, fun p hp => ⟨slots _ _ (R.pin p hp).1 (fun q => by rw [(R.pin p hp).2] at q; cases q), (R.pin p hp).2⟩, R.uniq, ⟨by rw [List.length_append, List.length_append, R.hm.len]; rfl, ?_, fun k b c e f => ?_⟩, R0.keep, R0.dom, ?_, R0.gdom, R0.gown⟩
  · obtain ⟨w, s, r1⟩ := R.slot j sw e
    refine ⟨w, s, slots w sw r1 fun q z => ?_⟩
    cases sw with
    | own zs => exact no ⟨j, zs, e, by rw [← z]; exact s⟩
    | _ => cases q
  · rw [List.nodup_append]
    exact ⟨R.hm.nd, by simp, fun x hx y hy => by rw [List.mem_singleton.mp hy]; exact fun z => nm (z ▸ hx)⟩
  · by_cases hk : k < m.length
    · rw [List.getElem?_append_left hk] at e
      rw [List.getElem?_append_left (by rw [← R.hm.len]; exact hk)] at f
      exact (R.hm.at_ k b c e f).mono (Kp.le ex) ⟨_, rfl⟩ rfl
    · rw [List.getElem?_append_right (by omega)] at e
      rw [List.getElem?_append_right (by rw [← R.hm.len]; omega)] at f
      have e1 := List.mem_singleton.mp (List.mem_of_getElem? e)
      have e2 := List.mem_singleton.mp (List.mem_of_getElem? f)
      subst e1 e2
      refine ⟨vs, ha, RepL.mono (Kp.le fun z w => ?_) ⟨_, rfl⟩ q⟩
      rcases ex z w with w | w | w
      · rcases w with w | w | w
        · exact .inl (.inl (.inl w))
        · exact .inl (.inl (.inr w))
        · cases w
          exact .inr rfl
      · exact .inl (.inr (.inl w))
      · exact .inl (.inr (.inr w))
  · obtain ⟨ms, rfl, hn⟩ := R0.pre
    refine ⟨ms ++ [a], by simp, fun b hb => ?_⟩
    rcases List.mem_append.mp hb with z | z
    · exact hn b z
    · rw [List.mem_singleton.mp z]
      exact n0
end
end PM

namespace PM
open PySem PySem.Spec L2
open PyProof.Rows hiding St

/-! ### what is walked -/
/-- J yields the items xs, as long as chk holds -/
def ItOk (C : Ctx) (J : It) (xs : List PV) (chk : Hs → Prop) : Prop :=
  ∀ (C2 : Ctx) (m2 : List Addr) (σ2 : St) (H2 : Hp) (env2 : Env) (h2 : Hs), C2.K = C.K → (∀ p ∈ C.pins, p ∈ C2.pins) → Rel C2 m2 σ2 H2 env2 h2 → chk h2 → ∀ i,
    (∀ p, xs[i]? = some p → J.go i H2 ∧ ∀ x H3, J.yld i H2 x H3 → Same H2 H3 ∧ Rep C2.K (ExOf C2 σ2 env2 m2) m2 H3 x p) ∧ (xs.length ≤ i → J.stop i H2)
/-- C' is C with more pins and more temporary lists outside -/
structure CtxLe (C C' : Ctx) : Prop where
  K : C'.K = C.K
  H0 : C'.H0 = C.H0
  m0 : C'.m0 = C.m0
  gt : ∀ b, C.GT b → C'.GT b
  t : ∀ b, C.T b → C'.T b
  pins : ∀ p ∈ C.pins, p ∈ C'.pins
theorem CtxLe.refl (C : Ctx) : CtxLe C C := ⟨rfl, rfl, rfl, fun _ q => q, fun _ q => q, fun _ q => q⟩
theorem CtxLe.trans {C C1 C2 : Ctx} (a : CtxLe C C1) (b : CtxLe C1 C2) : CtxLe C C2 := ⟨b.K.trans a.K, b.H0.trans a.H0, b.m0.trans a.m0, fun x q => b.gt x (a.gt x q), fun x q => b.t x (a.t x q), fun p q => b.pins p (a.pins p q)⟩
theorem Rel.back {C C' : Ctx} {m : List Addr} {σ : St} {H : Hp} {env : Env} {h : Hs} (R : Rel C' m σ H env h) (l : CtxLe C C') : Rel C m σ H env h := R.less l.K l.H0 l.m0 l.gt l.t l.pins
abbrev DI := Env → Hs → (List PV → (Hs → Prop) → Hs → Prop) → XQ → Prop
structure SI (K : PySem.W.Frag) (W : WX) (t : TI) (f : DI) : Prop where
  run : ∀ (C : Ctx) (m : List Addr) (σ : St) (H : Hp) (env : Env) (h : Hs) (Q : List PV → (Hs → Prop) → Hs → Prop) (E : XQ) (Q' : It → Hp → Prop), C.K = K → Rel C m σ H env h → f env h Q E →
    (∀ C' m' J H' xs chk h', CtxLe C C' → StE m H m' H' → Rel C' m' σ H' env h' → ItOk C' J xs chk → Q xs chk h' → Q' J H') → PostX W C m σ H env E → t σ H Q'

/-- a value is kept beside the names -/
def Ctx.keep (C : Ctx) (v : V) : SV → Ctx
  | .own xs => { C with G := fun b => C.G b ∨ V.ref b = v, pins := (v, .brw xs) :: C.pins }
  | sv => { C with pins := (v, sv) :: C.pins }
theorem Ctx.keep_le (C : Ctx) (v : V) (sv : SV) : CtxLe C (C.keep v sv) := by
  cases sv <;> exact ⟨rfl, rfl, rfl, fun b q => by first | exact q | exact q.imp .inl id, fun b q => q, fun p q => List.mem_cons_of_mem _ q⟩
/-- what the pin says -/
@[simp] def SV.kept : SV → SV
  | .own xs => .brw xs
  | sv => sv
theorem Ctx.keep_in (C : Ctx) (v : V) (sv : SV) : (v, sv.kept) ∈ (C.keep v sv).pins := by
  cases sv <;> exact List.mem_cons_self
section
variable {C : Ctx} {m : List Addr} {σ : St} {H : Hp} {env : Env} {h : Hs}
theorem Rel.pinned (R : Rel C m σ H env h) {v : V} {sv : SV} (r : SlotR C σ env m H v sv) (no : sv.isOwn = false) : Rel { C with pins := (v, sv) :: C.pins } m σ H env h := by
  have slots : ∀ w sw, SlotR C σ env m H w sw → SlotR { C with pins := (v, sv) :: C.pins } σ env m H w sw := fun w sw q => ⟨RepS.less q.1 rfl (fun b q => q) fun _ q => q, q.2.less rfl fun _ q => q⟩
  refine ⟨R.len, fun i sw e => ?_, fun p hp => ?_, R.uniq, R.hm, R.keep, R.dom, R.pre, R.gdom, R.gown⟩
  · obtain ⟨w, s, q⟩ := R.slot i sw e
    exact ⟨w, s, slots w sw q⟩
  · rcases List.mem_cons.mp hp with e | e
    · subst e
      exact ⟨slots _ _ r, no⟩
    · exact ⟨slots _ _ (R.pin p e).1, (R.pin p e).2⟩
/-- the value of an expression that is no name is kept -/
theorem Rel.keepE {m1 : List Addr} {H1 : Hp} {h1 : Hs} (R0 : Rel C m σ H env h) {v : V} {sv : SV} (R : Rel (C.own v sv) m1 σ H1 env h1) (r : RepS C (ExOf C σ env m1) m1 (fun a => H a = none) H1 v sv) (nb : sv.isB = false) : Rel (C.keep v sv) m1 σ H1 env h1 := by
  cases sv with
  | brw xs => cases nb
  | exc _ _ => first | (cases e; done) | (cases nb; done) | exact r | exact r1 | exact ⟨r, trivial⟩ | exact ⟨r1, trivial⟩ | exact ⟨rv, trivial⟩ | trivial
  | scr ns => cases nb
  | val p => exact R.pinned (v := v) (sv := .val p) ⟨r, trivial⟩ rfl
  | own xs =>
    obtain ⟨a, vs, rfl, ha, na, nm, q⟩ := r
    have R1 : Rel { C with G := fun b => C.G b ∨ V.ref b = V.ref a } m1 σ H1 env h1 := by
      refine R.less rfl rfl rfl (fun b z => ?_) (fun b z => .inl z) fun p z => z
      rcases z with z | z
      · exact z.elim (fun z => .inl z) fun z => .inr (.inr z)
      · exact .inr (.inl z)
    refine R1.pinned (v := .ref a) (sv := .brw xs) ⟨⟨a, vs, rfl, ⟨.inl ha, nm⟩, RepL.mono (Kp.le fun b z => ?_) ⟨[], by simp⟩ q⟩, fun b e => ?_⟩ rfl
    · rcases z with z | z | z
      · rcases z with z | z
        · rcases z with z | z
          · exact .inl (.inl (.inl z))
          · cases z
            exact .inr rfl
        · exact .inl (.inl (.inr z))
      · exact .inl (.inr (.inl z))
      · exact .inl (.inr (.inr z))
    · cases e
      exact ⟨R.gown a (.inr (.inr rfl)), fun z => R0.gdom a (.inr z) na⟩
theorem Rel.seqL {v : V} {sv : SV} {xs : List PV} (R : Rel C m σ H env h) (r : RepA C σ env m H v sv) (e : seqC h sv = some xs) (nt : ∀ ys, sv ≠ .val (.tup ys)) : ∃ a vs, v = .ref a ∧ SqL C.K H a vs ∧ RepL C.K (ExOf C σ env m) m H vs xs := by
  have lst : listC h sv = some xs → ∃ a vs, v = .ref a ∧ SqL C.K H a vs ∧ RepL C.K (ExOf C σ env m) m H vs xs := fun e => R.list r e
  cases sv with
  | own ys => exact lst e
  | brw ys => exact lst e
  | exc _ _ => first | (cases e; done) | (cases nb; done) | exact r | exact r1 | exact ⟨r, trivial⟩ | exact ⟨r1, trivial⟩ | exact ⟨rv, trivial⟩ | trivial
  | scr ns =>
    obtain ⟨a, rfl, ha⟩ := r
    cases e
    refine ⟨a, _, rfl, ?_, RepL.of_ints⟩
    rcases ha with ⟨ha, _⟩ | ha
    · exact .inl ha
    · exact ha H
  | val p =>
    cases p with
    | tup ys => exact absurd rfl (nt ys)
    | _ => exact lst e
theorem Rel.pinA {v : V} {sv : SV} (R : Rel C m σ H env h) (p : (v, sv) ∈ C.pins) : RepA C σ env m H v sv := (R.pin _ p).1.1.less rfl (fun _ q => q) fun _ _ => trivial
end
theorem RepL.here {K : PySem.W.Frag} {Ex : Ad} {m : List Addr} {H : Hp} {vs : List V} {xs : List PV} {i : Nat} {x : V} {p : PV} (r : RepL K Ex m H vs xs) (e : vs[i]? = some x) (f : xs[i]? = some p) : Rep K Ex m H x p := by
  obtain ⟨q, h1, h2⟩ := r.get' e
  rw [f] at h1
  cases h1
  exact h2
/-- what a kept list says at any later moment -/
theorem itok_list {C : Ctx} {v : V} {sv : SV} {xs : List PV} {a : Addr} (hp : (v, sv) ∈ C.pins) (ev : v = .ref a) (nt : ∀ ys, sv ≠ .val (.tup ys)) : ItOk C (Itl C.K a) xs fun h => seqC h sv = some xs := by
  intro C2 m2 σ2 H2 env2 h2 eK lp R hc i
  obtain ⟨b, vs, e, hs, q⟩ := R.seqL (R.pinA (lp _ hp)) hc nt
  rw [ev] at e
  cases e
  rw [eK] at hs
  refine ⟨fun p f => ?_, fun l => ⟨vs, hs, by rw [q.length]; exact l⟩⟩
  obtain ⟨x, ex, _⟩ := q.get f
  refine ⟨⟨vs, x, hs, ex⟩, fun y H3 ⟨e1, e2⟩ => ?_⟩
  subst e1
  exact ⟨Same.refl _, q.here (e2 _ hs) f⟩
theorem itok_tup {C : Ctx} {v : V} {xs : List PV} {a : Addr} (hp : (v, SV.val (.tup xs)) ∈ C.pins) (ev : v = .ref a) : ItOk C (Itt C.K a) xs fun _ => True := by
  intro C2 m2 σ2 H2 env2 h2 eK lp R _ i
  have r := R.pinA (lp _ hp)
  subst ev
  cases r with
  | tup ha q =>
    rename_i vs
    have hs := ha.sq
    rw [eK] at hs
    refine ⟨fun p f => ?_, fun l => ⟨vs, hs, by rw [q.length]; exact l⟩⟩
    obtain ⟨x, ex, _⟩ := q.get f
    refine ⟨⟨vs, x, hs, ex⟩, fun y H3 ⟨e1, e2⟩ => ?_⟩
    subst e1
    exact ⟨Same.refl _, q.here (e2 _ hs) f⟩
/-- one walked thing: a list, a tuple, the signs of a text -/
def iSeq (K : PySem.W.Frag) (te : TE) : TI := fun σ H R => te σ H fun x H1 => (∃ a, x = .ref a ∧ (∃ xs, SqL K H1 a xs) ∧ R (Itl K a) H1) ∨ (∃ a, x = .ref a ∧ (∃ xs, SqT K H1 a xs) ∧ R (Itt K a) H1) ∨ ∃ z, x = .str z ∧ R (Its z) H1
theorem pi_seq {X : Cx} {tg e : Expr} {te : TE} (he : PE X e te) : PI X tg e (iSeq X.K te) := by
  refine ⟨fun pins s σ H R I h => ?_⟩
  refine thn (he.run pins s σ H _ I h) fun v s1 ⟨x, H1, I1, r1, q1⟩ => ?_
  rcases q1 with ⟨a, e, ⟨xs, hq⟩, q⟩ | ⟨a, e, ⟨xs, hq⟩, q⟩ | ⟨x, ex, q⟩
  · subst e
    cases r1
    obtain ⟨its, rv, p, hz⟩ := I1.list hq
    refine wpAny_pyIter_list p.isList ?_
    refine ⟨s1.heap.objs.size, [s1.heap.objs.size], _, _, H1, rfl, I1.kept (t' := s1.toks) fun b o e => Heap.get?_push_of_some _ e, turn_list a _, ⟨_, Heap.get?_push_size _ rfl, rfl, rfl⟩, fun b hb => ?_, q⟩
    have e : b = s1.heap.objs.size := by simpa using hb
    subst e
    exact I1.fpOk (Nat.le_refl _) (I1.hok.fresh (Nat.le_refl _))
  · subst e
    cases r1
    obtain ⟨its, rv, p, hz⟩ := I1.tuple hq
    refine wpAny_pyIter_tuple (show s1.heap.IsTuple a its.toArray from p) ?_
    refine ⟨s1.heap.objs.size, [s1.heap.objs.size], _, _, H1, rfl, I1.kept (t' := s1.toks) fun b o e => Heap.get?_push_of_some _ e, turn_tuple a _, ⟨_, Heap.get?_push_size _ rfl, rfl, rfl⟩, fun b hb => ?_, q⟩
    have e : b = s1.heap.objs.size := by simpa using hb
    subst e
    exact I1.fpOk (Nat.le_refl _) (I1.hok.fresh (Nat.le_refl _))
  · subst ex
    obtain ⟨t, rfl⟩ := r1
    cases ha : x.cps.all (· < 128)
    · exact wpAny_pyIter_wide ha (pi_one (tk := s1.toks) I1 _ (turn_str _ x t "str_iterator" (.inr rfl)) ⟨_, Heap.get?_push_size _ rfl, rfl, rfl⟩ q)
    · exact wpAny_pyIter_ascii ha (pi_one (tk := s1.toks) I1 _ (turn_str _ x t "str_ascii_iterator" (.inl rfl)) ⟨_, Heap.get?_push_size _ rfl, rfl, rfl⟩ q)
def signs (z : Str) : List PV := z.cps.toList.map fun c => .str ⟨#[c]⟩
theorem itok_str {C : Ctx} {z : Str} : ItOk C (Its z) (signs z) fun _ => True := by
  intro C2 m2 σ2 H2 env2 h2 eK lp R _ i
  have sz : z.cps.size = z.cps.toList.length := by simp
  refine ⟨fun p f => ?_, fun l => ?_⟩
  · unfold signs at f
    rw [List.getElem?_map] at f
    cases g : z.cps.toList[i]? with
    | none =>
      rw [g] at f
      cases f
    | some c =>
      rw [g] at f
      cases f
      have l : i < z.cps.size := by
        rw [sz]
        exact (List.getElem?_eq_some_iff.mp g).1
      refine ⟨l, fun x H3 ⟨e1, d, e2, e3⟩ => ?_⟩
      subst e1 e3
      have : d = c := by
        have e4 : z.cps.toList[i]? = some d := by rw [Array.getElem?_toList]; exact e2
        rw [g] at e4
        exact (Option.some.inj e4).symm
      subst this
      exact ⟨Same.refl _, .str _⟩
  · unfold signs at l
    rw [List.length_map] at l
    show z.cps.size ≤ i
    rw [sz]
    exact l
/-- the walk of a value; fixed: what must stay as it is, a cell's list -/
def walkQ (x : SV) (h1 : Hs) (Q : List PV → (Hs → Prop) → Hs → Prop) : Prop := match x with
  | .val (.str z) => Q (signs z) (fun _ => True) h1
  | .val (.tup xs) => Q xs (fun _ => True) h1
  | x => ∃ xs, seqC h1 x = some xs ∧ Q xs (fun h => seqC h x = some xs) h1
@[simp ↓] theorem walkQ_eq (x : SV) (h1 : Hs) (Q : List PV → (Hs → Prop) → Hs → Prop) : walkQ x h1 Q = (match x with
  | .val (.str z) => Q (signs z) (fun _ => True) h1
  | .val (.tup xs) => Q xs (fun _ => True) h1
  | x => ∃ xs, seqC h1 x = some xs ∧ Q xs (fun h => seqC h x = some xs) h1) := id rfl
/-- the value of an expression, kept -/
def dKE (a : DE) : DE := fun env h Q E => a env h (fun x h1 => x.isB = false ∧ Q x.kept h1) E
@[simp ↓] theorem dKE_eq (a : DE) (env : Env) (h : Hs) (Q : VQ) (E : XQ) : dKE a env h Q E = (a env h (fun x h1 => x.isB = false ∧ Q x.kept h1) E) := id rfl
/-- a name's value, kept: it may be a parameter that is only read -/
def dKV (i : Nat) : DE := fun env h Q _ => match env[i]? with
  | some (some (.own _)) => False
  | some (some sv) => Q sv h
  | _ => False
@[simp ↓] theorem dKV_eq (i : Nat) (env : Env) (h : Hs) (Q : VQ) (u0 : XQ) : dKV i env h Q u0 = (match env[i]? with
  | some (some (.own _)) => False
  | some (some sv) => Q sv h
  | _ => False) := id rfl
structure SKp (K : PySem.W.Frag) (W : WX) (t : TE) (f : DE) : Prop where
  run : ∀ (C : Ctx) (m : List Addr) (σ : St) (H : Hp) (env : Env) (h : Hs) (Q : VQ) (E : XQ) (Q' : VK), C.K = K → Rel C m σ H env h → f env h Q E →
    (∀ C' m' v H' sv h', CtxLe C C' → StE m H m' H' → Rel C' m' σ H' env h' → (v, sv) ∈ C'.pins → Q sv h' → Q' v H') → PostX W C m σ H env E → t σ H Q'
def dIt (a : DE) : DI := fun env h Q E => a env h (fun x h1 => walkQ x h1 Q) E
@[simp ↓] theorem dIt_eq (a : DE) (env : Env) (h : Hs) (Q : List PV → (Hs → Prop) → Hs → Prop) (E : XQ) : dIt a env h Q E = (a env h (fun x h1 => walkQ x h1 Q) E) := id rfl
section
variable {K : PySem.W.Frag} {W : WX}
theorem sk_e {ta : TE} {fa : DE} (ha : SE K W ta fa) : SKp K W ta (dKE fa) := ⟨fun C m σ H env h Q E Q' eK R hf p px => by
  refine ha.run C m σ H env h _ E _ eK R hf (fun m1 x H1 sx h1 S1 R1 r1 ⟨nb, q1⟩ => ?_) px
  exact p (C.keep x sx) m1 x H1 sx.kept h1 (C.keep_le x sx) S1 (R.keepE R1 r1 nb) (C.keep_in x sx) q1⟩
theorem sk_v (i : Nat) : SKp K W (tVar i) (dKV i) := ⟨fun C m σ H env h Q E Q' eK R hf p px => by
  unfold dKV at hf
  split at hf
  · exact hf.elim
  · rename_i sv no e
    obtain ⟨v, s, sl⟩ := R.slot i sv e
    have no' : sv.isOwn = false := by
      cases sv with
      | own xs => exact absurd rfl (no xs)
      | _ => rfl
    have le : CtxLe C { C with pins := (v, sv) :: C.pins } := ⟨rfl, rfl, rfl, fun _ q => q, fun _ q => q, fun _ q => List.mem_cons_of_mem _ q⟩
    exact ⟨v, s, p _ m v H sv h le (.refl m H) (R.pinned sl no') List.mem_cons_self hf⟩
  · exact hf.elim⟩
theorem walk_ok {C' : Ctx} {m1 : List Addr} {σ : St} {H1 : Hp} {env : Env} {h1 : Hs} {v : V} {sv : SV} {Q : List PV → (Hs → Prop) → Hs → Prop} {Q' : It → Hp → Prop} (eK : C'.K = K) (R : Rel C' m1 σ H1 env h1) (hp : (v, sv) ∈ C'.pins) (q : walkQ sv h1 Q)
    (p : ∀ J xs chk, ItOk C' J xs chk → Q xs chk h1 → Q' J H1) :
    (∃ a, v = .ref a ∧ (∃ xs, SqL K H1 a xs) ∧ Q' (Itl K a) H1) ∨ (∃ a, v = .ref a ∧ (∃ xs, SqT K H1 a xs) ∧ Q' (Itt K a) H1) ∨ ∃ z, v = .str z ∧ Q' (Its z) H1 := by
  have r := R.pinA hp
  subst eK
  unfold walkQ at q
  split at q
  · cases r
    exact .inr (.inr ⟨_, rfl, p _ _ _ itok_str q⟩)
  · cases r with
    | tup ha qa => exact .inr (.inl ⟨_, rfl, ⟨_, ha.sq⟩, p _ _ _ (itok_tup hp rfl) q⟩)
  · rename_i nt
    obtain ⟨xs, e, q⟩ := q
    obtain ⟨a, vs, ev, hs, _⟩ := R.seqL r e nt
    exact .inl ⟨a, ev, ⟨vs, hs⟩, p _ _ _ (itok_list hp ev nt) q⟩
theorem si_it {ta : TE} {fa : DE} (ha : SKp K W ta fa) : SI K W (iSeq K ta) (dIt fa) := ⟨fun C m σ H env h Q E Q' eK R hf p px =>
  ha.run C m σ H env h _ E _ eK R hf (fun C1 m1 x H1 sx h1 le S1 R1 hp q1 => walk_ok (le.K.trans eK) R1 hp q1 fun J xs chk ok q => p C1 m1 J H1 xs chk h1 le S1 R1 ok q) px⟩
/-- range(n), range(a, b) -/
def rangeP (lo : Int) (n : Nat) : List PV := (List.range n).map fun k => .int (lo + (k : Nat))
theorem itok_rng {C : Ctx} {lo : Int} {n : Nat} : ItOk C (Itr lo n) (rangeP lo n) fun _ => True := by
  intro C2 m2 σ2 H2 env2 h2 eK lp R _ i
  unfold rangeP
  refine ⟨fun p f => ?_, fun l => by rw [List.length_map, List.length_range] at l; exact l⟩
  rw [List.getElem?_map] at f
  by_cases hi : i < n
  · rw [List.getElem?_range hi] at f
    cases f
    refine ⟨hi, fun x H3 ⟨e1, e2⟩ => ?_⟩
    subst e1 e2
    exact ⟨Same.refl _, .int _⟩
  · rw [List.getElem?_eq_none (by rw [List.length_range]; omega)] at f
    cases f
def dRng1 (a : DE) : DI := fun env h Q E => a env h (fun x h1 => match x with
  | .val (.int j) => -(2 ^ 62) ≤ j ∧ j < 2 ^ 62 ∧ Q (rangeP 0 j.toNat) (fun _ => True) h1
  | _ => False) E
@[simp ↓] theorem dRng1_eq (a : DE) (env : Env) (h : Hs) (Q : List PV → (Hs → Prop) → Hs → Prop) (E : XQ) : dRng1 a env h Q E = (a env h (fun x h1 => match x with
  | .val (.int j) => -(2 ^ 62) ≤ j ∧ j < 2 ^ 62 ∧ Q (rangeP 0 j.toNat) (fun _ => True) h1
  | _ => False) E) := id rfl
def dRng2 (a b : DE) : DI := fun env h Q E => a env h (fun x h1 => b env h1 (fun y h2 => match x, y with
  | .val (.int i), .val (.int j) => (-(2 ^ 62) ≤ i ∧ i < 2 ^ 62 ∧ -(2 ^ 62) ≤ j ∧ j < 2 ^ 62) ∧ Q (rangeP i (j - i).toNat) (fun _ => True) h2
  | _, _ => False) E) E
@[simp ↓] theorem dRng2_eq (a b : DE) (env : Env) (h : Hs) (Q : List PV → (Hs → Prop) → Hs → Prop) (E : XQ) : dRng2 a b env h Q E = (a env h (fun x h1 => b env h1 (fun y h2 => match x, y with
  | .val (.int i), .val (.int j) => (-(2 ^ 62) ≤ i ∧ i < 2 ^ 62 ∧ -(2 ^ 62) ≤ j ∧ j < 2 ^ 62) ∧ Q (rangeP i (j - i).toNat) (fun _ => True) h2
  | _, _ => False) E) E) := id rfl
theorem si_rng1 {ta : TE} {fa : DE} (ha : SE K W ta fa) : SI K W (iRng1 (tCons ta tNil)) (dRng1 fa) := ⟨fun C m σ H env h Q E Q' eK R hf p px => by
  refine ha.run C m σ H env h _ E _ eK R hf (fun m1 x H1 sx h1 S1 R1 r1 q1 => ?_) px
  split at q1
  · cases r1
    exact ⟨_, rfl, q1.1, q1.2.1, p C m1 _ H1 _ _ h1 (.refl C) S1 R1 itok_rng q1.2.2⟩
  · exact q1.elim⟩
/-- zip of two lists or two tuples -/
def pairs (xs ys : List PV) : List PV := List.zipWith (fun x y => .tup [x, y]) xs ys
theorem pairs_get {xs ys : List PV} {i : Nat} {p : PV} (e : (pairs xs ys)[i]? = some p) : ∃ x y, xs[i]? = some x ∧ ys[i]? = some y ∧ p = .tup [x, y] := by
  unfold pairs at e
  rw [List.getElem?_zipWith] at e
  cases ex : xs[i]? with
  | none => rw [ex] at e; cases e
  | some x => cases ey : ys[i]? with
    | none => rw [ex, ey] at e; cases e
    | some y =>
      rw [ex, ey] at e
      cases e
      exact ⟨x, y, rfl, rfl, rfl⟩
@[simp] def SV.isT : SV → Bool
  | .val (.tup _) => true
  | _ => false
theorem newPair {C : Ctx} {m : List Addr} {σ : St} {H : Hp} {env : Env} {h : Hs} {x y : V} {p q : PV} {T : Addr} (R : Rel C m σ H env h) (rx : Rep C.K (ExOf C σ env m) m H x p) (ry : Rep C.K (ExOf C σ env m) m H y q) (n : H T = none) :
    Same H (upd H T (.tup [x, y])) ∧ Rep C.K (ExOf C σ env m) m (upd H T (.tup [x, y])) (.ref T) (.tup [p, q]) := ⟨Same.upd n, R.newTup (.cons rx (.cons ry .nil)) n⟩
theorem itok_zip {C : Ctx} {v w : V} {sv sw : SV} {xs ys : List PV} {a b : Addr} (hp : (v, sv) ∈ C.pins) (hq : (w, sw) ∈ C.pins) (ev : v = .ref a) (ew : w = .ref b) (n1 : ∀ ys, sv ≠ .val (.tup ys)) (n2 : ∀ ys, sw ≠ .val (.tup ys)) :
    ItOk C (Itz C.K a b) (pairs xs ys) fun h => seqC h sv = some xs ∧ seqC h sw = some ys := by
  intro C2 m2 σ2 H2 env2 h2 eK lp R hc i
  obtain ⟨a', vs, e, hs, q⟩ := R.seqL (R.pinA (lp _ hp)) hc.1 n1
  obtain ⟨b', ws, f, ht, r⟩ := R.seqL (R.pinA (lp _ hq)) hc.2 n2
  rw [ev] at e
  rw [ew] at f
  cases e
  cases f
  rw [eK] at hs ht
  refine ⟨fun p g => ?_, fun l => ⟨vs, ws, hs, ht, ?_⟩⟩
  · obtain ⟨x, y, g1, g2, rfl⟩ := pairs_get g
    obtain ⟨x', ex, _⟩ := q.get g1
    obtain ⟨y', ey, _⟩ := r.get g2
    refine ⟨⟨vs, ws, x', y', hs, ht, ex, ey⟩, fun z H3 ⟨T, x1, y1, e1, nT, e2, f1, f2⟩ => ?_⟩
    subst e1 e2
    exact newPair R (q.here (f1 _ hs) g1) (r.here (f2 _ ht) g2) nT
  · unfold pairs at l
    rw [List.length_zipWith] at l
    rw [q.length, r.length]
    omega
theorem itok_zipT {C : Ctx} {v w : V} {xs ys : List PV} {a b : Addr} (hp : (v, SV.val (.tup xs)) ∈ C.pins) (hq : (w, SV.val (.tup ys)) ∈ C.pins) (ev : v = .ref a) (ew : w = .ref b) : ItOk C (RZ.ItzT C.K a b) (pairs xs ys) fun _ => True := by
  intro C2 m2 σ2 H2 env2 h2 eK lp R hc i
  have r1 := R.pinA (lp _ hp)
  have r2 := R.pinA (lp _ hq)
  subst ev ew
  cases r1 with
  | tup ha q => cases r2 with
    | tup hb r =>
      rename_i vs ws
      have hs := ha.sq
      have ht := hb.sq
      rw [eK] at hs ht
      refine ⟨fun p g => ?_, fun l => ⟨vs, ws, hs, ht, ?_⟩⟩
      · obtain ⟨x, y, g1, g2, rfl⟩ := pairs_get g
        obtain ⟨x', ex, _⟩ := q.get g1
        obtain ⟨y', ey, _⟩ := r.get g2
        refine ⟨⟨vs, ws, x', y', hs, ht, ex, ey⟩, fun z H3 ⟨T, x1, y1, e1, nT, e2, f1, f2⟩ => ?_⟩
        subst e1 e2
        exact newPair R (q.here (f1 _ hs) g1) (r.here (f2 _ ht) g2) nT
      · unfold pairs at l
        rw [List.length_zipWith] at l
        rw [q.length, r.length]
        omega
def zipQ (x y : SV) (h2 : Hs) (Q : List PV → (Hs → Prop) → Hs → Prop) : Prop := match x, y with
  | .val (.tup xs), .val (.tup ys) => Q (pairs xs ys) (fun _ => True) h2
  | x, y => x.isT = false ∧ y.isT = false ∧ ∃ xs ys, seqC h2 x = some xs ∧ seqC h2 y = some ys ∧ Q (pairs xs ys) (fun h => seqC h x = some xs ∧ seqC h y = some ys) h2
@[simp ↓] theorem zipQ_eq (x y : SV) (h2 : Hs) (Q : List PV → (Hs → Prop) → Hs → Prop) : zipQ x y h2 Q = (match x, y with
  | .val (.tup xs), .val (.tup ys) => Q (pairs xs ys) (fun _ => True) h2
  | x, y => x.isT = false ∧ y.isT = false ∧ ∃ xs ys, seqC h2 x = some xs ∧ seqC h2 y = some ys ∧ Q (pairs xs ys) (fun h => seqC h x = some xs ∧ seqC h y = some ys) h2) := id rfl
def dZip (a b : DE) : DI := fun env h Q E => a env h (fun x h1 => b env h1 (fun y h2 => zipQ x y h2 Q) E) E
@[simp ↓] theorem dZip_eq (a b : DE) (env : Env) (h : Hs) (Q : List PV → (Hs → Prop) → Hs → Prop) (E : XQ) : dZip a b env h Q E = (a env h (fun x h1 => b env h1 (fun y h2 => zipQ x y h2 Q) E) E) := id rfl
theorem notT {sv : SV} (e : sv.isT = false) : ∀ ys, sv ≠ .val (.tup ys) := fun ys z => by
  subst z
  cases e
theorem PostX.back {C C' : Ctx} {m : List Addr} {σ : St} {H : Hp} {env : Env} {E : XQ} (p : PostX W C m σ H env E) (l : CtxLe C C') : PostX W C' m σ H env E :=
  fun c m' H' h' S' R e => p c m' H' h' S' (R.back l) e
theorem si_zip {ta tb : TE} {fa fb : DE} (ha : SKp K W ta fa) (hb : SKp K W tb fb) : SI K W (RZ.iZipA K (tCons ta (tCons tb tNil))) (dZip fa fb) := ⟨fun C m σ H env h Q E Q' eK R hf p px => by
  refine ha.run C m σ H env h _ E _ eK R hf (fun C1 m1 x H1 sx h1 l1 S1 R1 hp q1 => ?_) px
  refine hb.run C1 m1 σ H1 env h1 _ E _ (l1.K.trans eK) R1 q1 (fun C2 m2 y H2 sy h2 l2 S2 R2 hq q2 => ?_) ((px.go S1).back l1)
  have l := l1.trans l2
  have hp2 := l2.pins _ hp
  have S := S1.trans S2
  have eK2 := l.K.trans eK
  subst eK2
  unfold zipQ at q2
  split at q2
  · have rx := R2.pinA hp2
    have ry := R2.pinA hq
    cases rx with
    | tup ha _ => cases ry with
      | tup hb _ => exact ⟨_, _, _, _, rfl, .inr ⟨ha.sq, hb.sq, p C2 m2 _ H2 _ _ h2 l S R2 (itok_zipT hp2 hq rfl rfl) q2⟩⟩
  · obtain ⟨n1, n2, xs, ys, e1, e2, q⟩ := q2
    obtain ⟨a, vs, ev, hs, _⟩ := R2.seqL (R2.pinA hp2) e1 (notT n1)
    obtain ⟨b, ws, ew, ht, _⟩ := R2.seqL (R2.pinA hq) e2 (notT n2)
    exact ⟨a, b, vs, ws, by rw [ev, ew], .inl ⟨hs, ht, p C2 m2 _ H2 _ _ h2 l S R2 (itok_zip hp2 hq ev ew (notT n1) (notT n2)) q⟩⟩⟩
/-- enumerate of a list -/
def enums : Nat → List PV → List PV
  | _, [] => []
  | k, x :: xs => .tup [.int (k : Nat), x] :: enums (k + 1) xs
theorem enums_get : ∀ {xs : List PV} {k i : Nat} {p : PV}, (enums k xs)[i]? = some p → ∃ x, xs[i]? = some x ∧ p = .tup [.int ((k + i : Nat) : Int), x]
  | [], _, _, _, e => by simp [enums] at e
  | x :: xs, k, 0, p, e => by
    cases e
    exact ⟨x, rfl, rfl⟩
  | x :: xs, k, i + 1, p, e => by
    obtain ⟨y, h1, h2⟩ := enums_get (xs := xs) (k := k + 1) (i := i) e
    exact ⟨y, h1, by rw [h2]; congr 4; omega⟩
theorem enums_len : ∀ (xs : List PV) (k : Nat), (enums k xs).length = xs.length
  | [], _ => rfl
  | x :: xs, k => by simp [enums, enums_len xs]
def dEnum (a : DE) : DI := fun env h Q E => a env h (fun x h1 => x.isT = false ∧ ∃ xs, seqC h1 x = some xs ∧ Q (enums 0 xs) (fun h => seqC h x = some xs) h1) E
@[simp ↓] theorem dEnum_eq (a : DE) (env : Env) (h : Hs) (Q : List PV → (Hs → Prop) → Hs → Prop) (E : XQ) : dEnum a env h Q E = (a env h (fun x h1 => x.isT = false ∧ ∃ xs, seqC h1 x = some xs ∧ Q (enums 0 xs) (fun h => seqC h x = some xs) h1) E) := id rfl
theorem itok_enum {C : Ctx} {v : V} {sv : SV} {xs : List PV} {a : Addr} (hp : (v, sv) ∈ C.pins) (ev : v = .ref a) (nt : ∀ ys, sv ≠ .val (.tup ys)) : ItOk C (Ite C.K a) (enums 0 xs) fun h => seqC h sv = some xs := by
  intro C2 m2 σ2 H2 env2 h2 eK lp R hc i
  obtain ⟨b, vs, e, hs, q⟩ := R.seqL (R.pinA (lp _ hp)) hc nt
  rw [ev] at e
  cases e
  rw [eK] at hs
  refine ⟨fun p f => ?_, fun l => ⟨vs, hs, by rw [enums_len] at l; rw [q.length]; exact l⟩⟩
  obtain ⟨x, g, rfl⟩ := enums_get f
  obtain ⟨x', ex, _⟩ := q.get g
  refine ⟨⟨vs, x', hs, ex⟩, fun y H3 ⟨T, x1, e1, nT, e2, f1⟩ => ?_⟩
  subst e1 e2
  rw [Nat.zero_add]
  exact newPair R (.int _) (q.here (f1 _ hs) g) nT
theorem si_enum {ta : TE} {fa : DE} (ha : SKp K W ta fa) : SI K W (iEnum K (tCons ta tNil)) (dEnum fa) := ⟨fun C m σ H env h Q E Q' eK R hf p px => by
  refine ha.run C m σ H env h _ E _ eK R hf (fun C1 m1 x H1 sx h1 l1 S1 R1 hp q1 => ?_) px
  have eK1 := l1.K.trans eK
  subst eK1
  obtain ⟨nt, xs, e, q⟩ := q1
  obtain ⟨a, vs, ev, hs, _⟩ := R1.seqL (R1.pinA hp) e (notT nt)
  exact ⟨a, vs, by rw [ev], hs, p C1 m1 _ H1 _ _ h1 l1 S1 R1 (itok_enum hp ev (notT nt)) q⟩⟩
end
end PM

namespace PM
open PySem PySem.Spec L2
open PyProof.Rows hiding St

/-! ### targets -/
abbrev DB := PV → Env → (Env → Prop) → Prop
/-- vs: the slots that it stores -/
structure SG (K : PySem.W.Frag) (vs : List Nat) (g : TG) (f : DB) : Prop where
  run : ∀ (C : Ctx) (m : List Addr) (σ : St) (H : Hp) (env : Env) (h : Hs) (x : V) (p : PV) (q : Env → Prop) (Q : St → Hp → Prop), C.K = K → Rel C m σ H env h → Rep C.K (ExOf C σ env m) m H x p → f p env q →
    (∀ σ' env', Rel C m σ' H env' h → σ'.length = σ.length → (∀ k, k ∉ vs → σ'[k]? = σ[k]? ∧ env'[k]? = env[k]?) → q env' → Q σ' H) → g x σ H Q
def bName (i : Nat) : DB := fun p env q => q (env.set i (some (.val p)))
@[simp ↓] theorem bName_eq (i : Nat) (p : PV) (env : Env) (q : Env → Prop) : bName i p env q = (q (env.set i (some (.val p)))) := id rfl
/-- a, b = .. of two names -/
def bTup2 (i j : Nat) : DB := fun p env q => match p with
  | .tup [x, y] => q ((env.set i (some (.val x))).set j (some (.val y)))
  | _ => False
@[simp ↓] theorem bTup2_eq (i j : Nat) (p : PV) (env : Env) (q : Env → Prop) : bTup2 i j p env q = (match p with
  | .tup [x, y] => q ((env.set i (some (.val x))).set j (some (.val y)))
  | _ => False) := id rfl
def bTup3 (i j k : Nat) : DB := fun p env q => match p with
  | .tup [x, y, z] => q (((env.set i (some (.val x))).set j (some (.val y))).set k (some (.val z)))
  | _ => False
@[simp ↓] theorem bTup3_eq (i j k : Nat) (p : PV) (env : Env) (q : Env → Prop) : bTup3 i j k p env q = (match p with
  | .tup [x, y, z] => q (((env.set i (some (.val x))).set j (some (.val y))).set k (some (.val z)))
  | _ => False) := id rfl
theorem ex_val {C : Ctx} {m : List Addr} {σ : St} {env : Env} {i : Nat} {v : V} {p : PV} : ∀ b, ExOf C (σ.set i (some v)) (env.set i (some (.val p))) m b → ExOf C σ env m b := fun b q => by
  rcases q with q | q | q
  · exact .inl q
  · rcases own_set q with z | ⟨z, _⟩
    · exact .inr (.inl z)
    · cases z
  · exact .inr (.inr q)
section
variable {K : PySem.W.Frag}
theorem sg_name (i : Nat) : SG K [i] (gName i) (bName i) := ⟨fun C m σ H env h x p q Q eK R r hf k =>
  k _ _ (R.setVal r) (by rw [List.length_set]) (fun j hj => ⟨List.getElem?_set_ne (fun e => hj (by simp [e])), List.getElem?_set_ne (fun e => hj (by simp [e]))⟩) hf⟩
theorem sg_tup2 (i j : Nat) : SG K [i, j] (gTup K 2 (gCons (gName i) (gCons (gName j) gNil))) (bTup2 i j) := ⟨fun C m σ H env h x p q Q eK R r hf k => by
  subst eK
  unfold bTup2 at hf
  split at hf
  · cases r with
    | tup ha rl =>
      cases rl with
      | cons r1 rl => cases rl with
        | cons r2 rl =>
          cases rl
          refine ⟨_, _, rfl, ha.sq, rfl, _, _, rfl, _, _, rfl, rfl, ?_⟩
          have R1 := R.setVal (i := i) r1
          have R2 := R1.setVal (i := j) (Rep.mono (Kp.le ex_val) ⟨[], by simp⟩ r2)
          refine k _ _ R2 (by rw [List.length_set, List.length_set]) (fun l hl => ?_) hf
          have n1 : i ≠ l := fun e => hl (by simp [e])
          have n2 : j ≠ l := fun e => hl (by simp [e])
          rw [List.getElem?_set_ne n2, List.getElem?_set_ne n1, List.getElem?_set_ne n2, List.getElem?_set_ne n1]
          exact ⟨rfl, rfl⟩
  · exact hf.elim⟩
end

/-! ### comprehensions -/
@[simp] def wipeE (env : Env) : List Nat → Env
  | [] => env
  | v :: vs => (wipeE env vs).set v none
theorem Rel.wipe {C : Ctx} {m : List Addr} {σ : St} {H : Hp} {env : Env} {h : Hs} (R : Rel C m σ H env h) : ∀ vs : List Nat, Rel C m (L2.wipe σ vs) H (wipeE env vs) h
  | [] => R
  | v :: vs => (R.wipe vs).clear
theorem wipe_get (σ : St) (k : Nat) : ∀ vs : List Nat, (wipe σ vs)[k]? = if k ∈ vs ∧ k < σ.length then some none else σ[k]?
  | [] => by simp [wipe]
  | v :: vs => by
    unfold wipe
    rw [List.getElem?_set, wipe_length]
    by_cases e : v = k
    · subst e
      by_cases l : v < σ.length
      · simp [l]
      · rw [if_pos rfl, if_neg l]
        simp [l]
    · rw [if_neg e, wipe_get σ k vs]
      have : (k ∈ v :: vs ∧ k < σ.length) ↔ (k ∈ vs ∧ k < σ.length) := by
        simp only [List.mem_cons]
        constructor
        · rintro ⟨z | z, l⟩
          · exact absurd z.symm e
          · exact ⟨z, l⟩
        · rintro ⟨z, l⟩
          exact ⟨.inr z, l⟩
      simp only [this]
theorem wipe_of {σ σ2 : St} {vs : List Nat} (l : σ2.length = σ.length) (k : ∀ j, j ∉ vs → σ2[j]? = σ[j]?) : wipe σ2 vs = wipe σ vs := by
  apply List.ext_getElem?
  intro j
  rw [wipe_get, wipe_get, l]
  by_cases e : j ∈ vs
  · by_cases z : j < σ.length
    · simp [e, z]
    · simp only [z, and_false, if_false]
      rw [List.getElem?_eq_none (by omega), List.getElem?_eq_none (by omega)]
  · simp only [e, false_and, if_false]
    exact k j e
theorem wipe_wipe (σ : St) (vs : List Nat) : wipe (wipe σ vs) vs = wipe σ vs := wipe_of (wipe_length σ vs) fun j hj => by
  rw [wipe_get]
  simp [hj]
/-- the turns of a comprehension: env is the block's names ahead of each turn -/
def compL (chk : Hs → Prop) (bd : DB) (tt : DT) (te : DE) (env : Env) : List PV → List PV → Hs → (List PV → Hs → Prop) → Prop
  | [], acc, h, Q => chk h ∧ Q acc h
  | x :: xs, acc, h, Q => chk h ∧ bd x env fun env1 => tt env1 h (fun b h1 => if b = true then te env1 h1 (fun y h2 => match y.toVal with
      | some p => acc.length < sizeLine ∧ compL chk bd tt te env xs (acc ++ [p]) h2 Q
      | none => False) (fun _ _ => False) else compL chk bd tt te env xs acc h1 Q) (fun _ _ => False)
@[simp ↓] theorem compL_nil (chk : Hs → Prop) (bd : DB) (tt : DT) (te : DE) (env : Env) (acc : List PV) (h : Hs) (Q : List PV → Hs → Prop) : compL chk bd tt te env [] acc h Q = (chk h ∧ Q acc h) := id rfl
@[simp ↓] theorem compL_cons (chk : Hs → Prop) (bd : DB) (tt : DT) (te : DE) (env : Env) (x : PV) (xs : List PV) (acc : List PV) (h : Hs) (Q : List PV → Hs → Prop) : compL chk bd tt te env (x :: xs) acc h Q = (chk h ∧ bd x env fun env1 => tt env1 h (fun b h1 => if b = true then te env1 h1 (fun y h2 => match y.toVal with
      | some p => acc.length < sizeLine ∧ compL chk bd tt te env xs (acc ++ [p]) h2 Q
      | none => False) (fun _ _ => False) else compL chk bd tt te env xs acc h1 Q) (fun _ _ => False)) := id rfl
def dYes : DT := fun _ h Q _ => Q true h
@[simp ↓] theorem dYes_eq  (u0 : Env) (h : Hs) (Q : Bool → Hs → Prop) (u1 : XQ) : dYes  u0 h Q u1 = (Q true h) := id rfl
/-- none of the slots holds a list of one's own -/
@[simp] def notOwn (env : Env) (vs : List Nat) : Bool := vs.all fun v => match env[v]? with
  | some (some (.own _)) => false
  | _ => true
def dLc (src : DI) (vs : List Nat) (bd : DB) (tt : DT) (te : DE) : DE := fun env h Q E => notOwn env vs = true ∧ src env h (fun xs chk h1 => compL chk bd tt te (wipeE env vs) xs [] h1 fun acc h2 => Q (.own acc) h2) E
@[simp ↓] theorem dLc_eq (src : DI) (vs : List Nat) (bd : DB) (tt : DT) (te : DE) (env : Env) (h : Hs) (Q : VQ) (E : XQ) : dLc src vs bd tt te env h Q E = (notOwn env vs = true ∧ src env h (fun xs chk h1 => compL chk bd tt te (wipeE env vs) xs [] h1 fun acc h2 => Q (.own acc) h2) E) := id rfl
theorem wipeE_get {env : Env} {k : Nat} : ∀ {vs : List Nat}, k ∉ vs → (wipeE env vs)[k]? = env[k]?
  | [], _ => rfl
  | v :: vs, h => by
    unfold wipeE
    rw [List.getElem?_set_ne (fun e => h (by simp [e])), wipeE_get fun z => h (List.mem_cons_of_mem _ z)]
theorem own_wipe {σ : St} {env : Env} {b : Addr} : ∀ {vs : List Nat}, OwnAt (wipe σ vs) (wipeE env vs) b → OwnAt σ env b
  | [], q => q
  | _ :: vs, q => own_wipe (vs := vs) (own_clear q)
theorem CtxLe.own {C C1 : Ctx} (l : CtxLe C C1) (v : V) (sv sw : SV) (e : sv.isOwn = sw.isOwn) : CtxLe (C.own v sv) (C1.own v sw) := by
  cases sv <;> cases sw <;> first | cases e | skip
  all_goals first | exact l | skip
  refine ⟨l.K, l.H0, l.m0, fun b q => ?_, fun b q => q.imp (l.t b) id, l.pins⟩
  rcases q with q | q | q
  · exact (l.gt b (.inl q)).elim .inl fun z => .inr (.inl z)
  · exact (l.gt b (.inr q)).elim .inl fun z => .inr (.inl z)
  · exact .inr (.inr q)
/-- a temporary list is changed -/
theorem Rel.mutTemp {C : Ctx} {m : List Addr} {σ : St} {H : Hp} {env : Env} {h : Hs} {D : Addr} {xs : List PV} {o : HO} (R : Rel (C.own (.ref D) (.own xs)) m σ H env h) (h0 : C.H0 D = none) (nm : D ∉ m) : Rel (C.own (.ref D) (.own xs)) m σ (upd H D o) env h := by
  have k : Kp (ExOf (C.own (.ref D) (.own xs)) σ env m) H (ExOf (C.own (.ref D) (.own xs)) σ env m) (upd H D o) := fun b u e n => by
    have nb : b ≠ D := fun z => n (by rw [z]; exact .inl (.inr (.inr rfl)))
    exact ⟨by rw [upd_ne nb]; exact e, n⟩
  have dm : ∀ b, H b ≠ none → upd H D o b ≠ none := fun b q => by
    by_cases z : b = D
    · rw [z, upd_same]
      simp
    · rw [upd_ne z]
      exact q
  have slots : ∀ w sw, (sw.isOwn = true → w ≠ .ref D) → SlotR (C.own (.ref D) (.own xs)) σ env m H w sw → SlotR (C.own (.ref D) (.own xs)) σ env m (upd H D o) w sw := fun w sw no ⟨r1, b1⟩ => by
    refine ⟨?_, b1⟩
    cases sw with
    | val p => exact Rep.mono k ⟨[], by simp⟩ r1
    | own zs =>
      obtain ⟨c, ws, rfl, hc, hn, cm, q⟩ := r1
      have nc : c ≠ D := fun z => no rfl (by rw [z])
      refine ⟨c, ws, rfl, by rw [upd_ne nc]; exact hc, hn, cm, RepL.mono (fun b u e n => ?_) ⟨[], by simp⟩ q⟩
      obtain ⟨k1, k2⟩ := k b u e fun z => n (.inl z)
      exact ⟨k1, fun z => z.elim k2 fun z => n (.inr z)⟩
    | brw zs =>
      obtain ⟨c, ws, rfl, hc, q⟩ := r1
      have nc : c ≠ D := fun z => (b1 c rfl).2 (.inr (by rw [z]))
      refine ⟨c, ws, rfl, ⟨?_, hc.2⟩, RepL.mono k ⟨[], by simp⟩ q⟩
      unfold Rd
      rw [upd_ne nc]
      exact hc.1
    | exc _ _ => first | (cases e; done) | (cases nb; done) | exact r | exact r1 | exact ⟨r, trivial⟩ | exact ⟨r1, trivial⟩ | exact ⟨rv, trivial⟩ | trivial
    | scr ns =>
      obtain ⟨c, rfl, hc⟩ := r1
      refine ⟨c, rfl, ?_⟩
      rcases b1 c rfl with z | z
      · exact .inr z
      · rcases hc with hc | hc
        · have nc : c ≠ D := fun e => z.2 (.inr (by rw [e]))
          refine .inl ⟨?_, hc.2⟩
          unfold Rd
          rw [upd_ne nc]
          exact hc.1
        · exact .inr hc
  refine ⟨R.len, fun j sw e => ?_, fun p hp => ⟨slots _ _ (fun q => by rw [(R.pin p hp).2] at q; cases q) (R.pin p hp).1, (R.pin p hp).2⟩, R.uniq, ⟨R.hm.len, R.hm.nd, fun n b c e f => (R.hm.at_ n b c e f).mono k ⟨[], by simp⟩ (upd_ne fun z => nm (by rw [← z]; exact List.mem_of_getElem? e))⟩, fun b u e n => ?_, fun b q => dm b (R.dom b q), R.pre, fun b q => dm b (R.gdom b q), R.gown⟩
  · obtain ⟨w, s, r1⟩ := R.slot j sw e
    refine ⟨w, s, slots w sw (fun q z => ?_) r1⟩
    cases sw with
    | own zs => exact R.gown D (.inr (.inr rfl)) ⟨j, zs, e, by rw [← z]; exact s⟩
    | _ => cases q
  · have z := R.keep b u e n
    have nb : b ≠ D := fun w => by
      rw [w] at e
      have e' : C.H0 D = some u := e
      rw [h0] at e'
      cases e'
    rw [upd_ne nb]
    exact z
section
variable {K : PySem.W.Frag} {W : WX}
theorem st_yes : ST K W tYes dYes := ⟨fun C m σ H env h Q E Q' eK R hf p _ => p m true H h (.refl m H) R hf⟩
theorem se_lc {wi : TI} {g : TG} {tt : TT} {te : TE} {vs : List Nat} {src : DI} {bd : DB} {ft : DT} {fe : DE} (hs : SI K W wi src) (hg : SG K vs g bd) (ht : ST K (fun _ _ _ _ => False) tt ft) (he : SE K (fun _ _ _ _ => False) te fe) :
    SE K W (tLc wi g tt te vs) (dLc src vs bd ft fe) := ⟨fun C m σ H env h Q E Q' eK R hf p px => by
  obtain ⟨hno, hf⟩ := hf
  refine hs.run C m σ H env h _ E _ eK R hf (fun C1 m1 J H1 xs chk h1 le S1 R1 ok q1 => ?_) px
  have eK1 : C1.K = K := le.K.trans eK
  intro D hD
  have h0D : C1.H0 D = none := by
    cases e : C1.H0 D with
    | none => rfl
    | some o => exact absurd hD (R1.dom D (by rw [e]; simp))
  have n0 : (C1.own (.ref D) (.own [])).K = K := (C1.own_K _ _).trans eK1
  have lep : ∀ p ∈ C1.pins, p ∈ (C1.own (.ref D) (.own [])).pins := fun p hp => by rw [C1.own_pins]; exact hp
  -- the state of the loop
  let Inv (i : Nat) (H2 : Hp) : Prop := i ≤ xs.length ∧ ∃ (m2 : List Addr) (h2 : Hs) (acc : List PV) (av : List V), StE m1 H1 m2 H2 ∧ Rel (C1.own (.ref D) (.own [])) m2 σ H2 env h2 ∧ H2 D = some (.lst av) ∧ D ∉ m2 ∧
    RepL C1.K (fun b => ExOf C1 σ env m2 b ∨ b = D) m2 H2 av acc ∧ compL chk bd ft fe (wipeE env vs) (xs.drop i) acc h2 fun acc h2 => Q (.own acc) h2
  refine ⟨fun i n H2 => n = xs.length - i ∧ Inv i H2, ?_, ?_⟩
  · exact ⟨_, rfl, Nat.zero_le _, m1, h1, [], [], .new hD, R1.fresh hD [], upd_same, fun z => R1.mDom z hD, .nil, q1⟩
  · rintro i n H2 ⟨rfl, hi, m2, h2, acc, av, S2, R2, hDa, nD, ra, q2⟩
    by_cases hlt : i < xs.length
    · right
      have ex : xs[i]? = some xs[i] := List.getElem?_eq_getElem hlt
      rw [List.drop_eq_getElem_cons hlt] at q2
      unfold compL at q2
      obtain ⟨hc, q2⟩ := q2
      obtain ⟨go, yld⟩ := (ok _ m2 σ H2 env h2 (C1.own_K _ _) lep R2 hc i).1 _ ex
      refine ⟨go, Inv (i + 1), fun H' hN => ⟨_, by omega, rfl, hN⟩, fun x H3 hy => ?_⟩
      obtain ⟨sm, rx⟩ := yld x H3 hy
      have R3 : Rel (C1.own (.ref D) (.own [])) m2 σ H3 env h2 := R2.grow sm
      have Rw := R3.wipe vs
      have exw : ∀ b, ExOf (C1.own (.ref D) (.own [])) (wipe σ vs) (wipeE env vs) m2 b → ExOf (C1.own (.ref D) (.own [])) σ env m2 b := fun b q => by
        rcases q with q | q | q
        · exact .inl q
        · exact .inr (.inl (own_wipe q))
        · exact .inr (.inr q)
      refine hg.run _ m2 _ H3 _ h2 x _ _ _ n0 Rw (Rep.mono (Kp.le exw) ⟨[], by simp⟩ rx) q2 fun σ' env' R4 l4 k4 q4 => ?_
      refine ⟨(wipe_of (by rw [l4]) fun j hj => (k4 j hj).1).trans (wipe_wipe σ vs), ?_⟩
      -- the outer lists of one's own are there within the turn, too
      have own' : ∀ b, OwnAt σ env b → OwnAt σ' env' b := fun b ⟨j, ys, e, s⟩ => by
        have nj : j ∉ vs := fun z => by
          have w := List.all_eq_true.mp hno j z
          rw [e] at w
          cases w
        refine ⟨j, ys, ?_, ?_⟩
        · rw [(k4 j nj).2, wipeE_get nj]
          exact e
        · rw [(k4 j nj).1, wipe_get]
          simp only [nj, false_and, if_false]
          exact s
      have exo : ∀ {m5 : List Addr} (b : Addr), ExOf (C1.own (.ref D) (.own [])) σ env m5 b → ExOf (C1.own (.ref D) (.own [])) σ' env' m5 b := fun {m5} b w => by
        rcases w with w | w | w
        · exact .inl w
        · exact .inr (.inl (own' b w))
        · exact .inr (.inr w)
      have outer : ∀ {m5 : List Addr} {H5 : Hp} {h5 : Hs}, StE m2 H3 m5 H5 → Rel (C1.own (.ref D) (.own [])) m5 σ' H5 env' h5 → Rel (C1.own (.ref D) (.own [])) m5 σ H5 env h5 := fun {m5 H5 h5} S R5 =>
        R3.step S ⟨R5.hm.len, R5.hm.nd, fun n a c e f => (R5.hm.at_ n a c e f).mono (Kp.le exo) ⟨[], by simp⟩ rfl⟩
      have base : StE m1 H1 m2 H3 := S2.trans (.same sm)
      have hD3 : H3 D = some (.lst av) := sm _ _ hDa
      have ra3 : RepL C1.K (fun b => ExOf C1 σ env m2 b ∨ b = D) m2 H3 av acc := RepL.mono (fun b u e n => ⟨sm _ _ e, n⟩) ⟨[], by simp⟩ ra
      have raS : ∀ {m5 : List Addr} {H5 : Hp}, StE m2 H3 m5 H5 → RepL C1.K (fun b => ExOf C1 σ env m5 b ∨ b = D) m5 H5 av acc := fun {m5 H5} S => RepL.mono (S.kp (fun b q => .inl (.inr (.inr q))) fun b q => by
        rcases q with q | q
        · exact q.step.imp .inl id
        · exact .inl (.inr q)) S.ex' ra3
      have nopx : ∀ {m5 : List Addr} {H5 : Hp}, PostX (fun _ _ _ _ => False) (C1.own (.ref D) (.own [])) m5 σ' H5 env' (fun _ _ => False) := fun c m' H' h' _ _ z => z
      refine ht.run _ m2 σ' H3 env' h2 _ _ _ n0 R4 q4 (fun m5 b H5 h5 S5 R5 q5 => ?_) nopx
      cases b with
      | false =>
        refine iteF ⟨hlt, m5, h5, acc, av, base.trans S5, outer S5 R5, S5.keep _ _ hD3 nD, S5.notin (by rw [hD3]; simp) nD, raS S5, ?_⟩
        simpa using q5
      | true =>
        refine iteT (he.run _ m5 σ' H5 env' h5 _ _ _ n0 R5 (by simpa using q5) (fun m6 y H6 sy h6 S6 R6 r6 q6 => ?_) nopx)
        split at q6
        · rename_i pv ep
          obtain ⟨lz, q6⟩ := q6
          have S := S5.trans S6
          have hD6 : H6 D = some (.lst av) := S.keep _ _ hD3 nD
          have nD6 : D ∉ m6 := S.notin (by rw [hD3]; simp) nD
          have ry := R5.toVal r6 ep
          rw [C1.own_K] at ry
          have ro := outer S R6.drop
          have ra6 := raS S
          have lz' : av.length < sizeLine := by
            rw [ra6.length]
            exact lz
          refine ⟨av, hD6, lz', hlt, m6, h6, acc ++ [pv], av ++ [y], ?_, ro.mutTemp h0D nD6, upd_same, nD6, ?_, q6⟩
          · have B := base.trans S
            exact ⟨fun b o e n => by rw [upd_ne (ne_of_none e hD)]; exact B.keep b o e n, fun b q => by
              by_cases z : b = D
              · rw [z, upd_same]
                simp
              · rw [upd_ne z]
                exact B.dom b q, B.ext⟩
          · have ru : RepL C1.K (fun b => ExOf C1 σ env m6 b ∨ b = D) m6 H6 (av ++ [y]) (acc ++ [pv]) := ra6.append (.cons (Rep.mono (Kp.le fun b q => ?_) ⟨[], by simp⟩ ry) .nil)
            · exact RepL.mono (fun b u e n => ⟨by rw [upd_ne (fun z => n (.inr z))]; exact e, n⟩) ⟨[], by simp⟩ ru
            · rcases q with q | q
              · exact exo b (q.le fun _ => C1.own_GT _ _)
              · rw [q]
                exact .inl (.inr (.inr rfl))
        · exact q6.elim
    · left
      have ei : i = xs.length := by omega
      rw [List.drop_eq_nil_of_le (by omega)] at q2
      obtain ⟨hc, q2⟩ := q2
      refine ⟨(ok _ m2 σ H2 env h2 (C1.own_K _ _) lep R2 hc i).2 (by omega), ?_⟩
      have S := S1.trans S2
      have lo := le.own (.ref D) (.own acc) (.own []) rfl
      refine p m2 (.ref D) H2 (.own acc) h2 S (R2.back lo) ⟨D, av, rfl, hDa, stnew S1 hD, nD, ?_⟩ q2
      rw [← le.K]
      exact RepL.mono (Kp.le fun b q => q.imp (fun q => q.le le.gt) id) ⟨[], by simp⟩ ra⟩
end
end PM

namespace PM
open PySem PySem.Spec L2
open PyProof.Rows hiding St

/-! ### statements -/
structure EndsOk (W : WX) (C : Ctx) (Df : DEnds) (D : Ends) : Prop where
  nx : ∀ m σ H env h, Rel C m σ H env h → Df.nx env h → D.nx σ H
  bk : ∀ m σ H env h, Rel C m σ H env h → Df.bk env h → D.bk σ H
  ct : ∀ m σ H env h, Rel C m σ H env h → Df.ct env h → D.ct σ H
  rt : ∀ m σ H env h v sv, Rel (C.own v sv) m σ H env h → RepS C (ExOf C σ env m) m (fun a => C.H0 a = none) H v sv → (sv.isOwn = true → ∀ a, v = .ref a → ¬ C.GT a) → Df.rt sv h → D.rt v H
  ex : ∀ c m σ H env h, Rel C m σ H env h → Df.ex c env h → W (.ref c) none σ H
structure SS (K : PySem.W.Frag) (W : WX) (t : TS) (f : DS) : Prop where
  run : ∀ (C : Ctx) (m : List Addr) (σ : St) (H : Hp) (env : Env) (h : Hs) (Df : DEnds) (D : Ends), C.K = K → Rel C m σ H env h → f Df env h → EndsOk W C Df D → t D σ H
section
variable {K : PySem.W.Frag} {W : WX} {C : Ctx} {Df : DEnds} {D : Ends}
theorem EndsOk.px (p : EndsOk W C Df D) {m : List Addr} {σ : St} {H : Hp} {env : Env} : PostX W C m σ H env fun c h => Df.ex c env h := fun c m' H' h' _ R e => p.ex c m' σ H' env h' R e
theorem EndsOk.next (p : EndsOk W C Df D) {nx : Env → Hs → Prop} {nx' : St → Hp → Prop} (q : ∀ m σ H env h, Rel C m σ H env h → nx env h → nx' σ H) : EndsOk W C { Df with nx := nx } { D with nx := nx' } := ⟨q, p.bk, p.ct, p.rt, p.ex⟩
def sNil : DS := fun D env h => D.nx env h
@[simp ↓] theorem sNil_eq  (D : DEnds) (env : Env) (h : Hs) : sNil  D env h = (D.nx env h) := id rfl
def sSeq (s t : DS) : DS := fun D env h => s { D with nx := fun env1 h1 => t D env1 h1 } env h
@[simp ↓] theorem sSeq_eq (s t : DS) (D : DEnds) (env : Env) (h : Hs) : sSeq s t D env h = (s { D with nx := fun env1 h1 => t D env1 h1 } env h) := id rfl
theorem ss_nil : SS K W tNext sNil := ⟨fun C m σ H env h Df D eK R hf p => p.nx m σ H env h R hf⟩
theorem ss_seq {t u : TS} {f g : DS} (h1 : SS K W t f) (h2 : SS K W u g) : SS K W (tSeq t u) (sSeq f g) := ⟨fun C m σ H env h Df D eK R hf p =>
  h1.run C m σ H env h _ _ eK R hf (p.next fun m σ H env h R q => h2.run C m σ H env h Df D eK R q p)⟩
/-- a list of one's own is locked ahead of a statement -/
theorem ss_frz {t : TS} {f : DS} (i : Nat) (hs : SS K W t f) : SS K W t (fun D env h => f D (frzE i env) h) := ⟨fun C m σ H env h Df D eK R hf p => hs.run C m σ H _ h Df D eK R.frz hf p⟩
def sFrz (i : Nat) (f : DS) : DS := fun D env h => f D (frzE i env) h
@[simp ↓] theorem sFrz_eq (i : Nat) (f : DS) (D : DEnds) (env : Env) (h : Hs) : sFrz i f D env h = (f D (frzE i env) h) := id rfl
theorem Rel.newOk {m1 : List Addr} {H1 : Hp} {m : List Addr} {σ : St} {H : Hp} {env : Env} {h : Hs} (R : Rel C m σ H env h) {v : V} {sv : SV} (r : RepS C (ExOf C σ env m1) m1 (fun a => H a = none) H1 v sv) :
    RepS C (ExOf C σ env m1) m1 (fun a => C.H0 a = none) H1 v sv ∧ (sv.isOwn = true → ∀ a, v = .ref a → ¬ C.GT a) := by
  have n0 : ∀ a, H a = none → C.H0 a = none := fun a n => by
    cases e : C.H0 a with
    | none => rfl
    | some o => exact absurd n (R.dom a (by rw [e]; simp))
  refine ⟨r.less rfl (fun _ q => q) n0, fun o a e g => ?_⟩
  cases sv with
  | own xs =>
    obtain ⟨b, vs, rfl, _, n, _⟩ := r
    cases e
    exact R.gdom _ g n
  | _ => cases o
/-- x = e -/
def sAsg (i : Nat) (e : DE) : DS := fun D env h => e env h (fun x h1 => x.isB = false ∧ D.nx (env.set i (some x)) h1) fun c h1 => D.ex c env h1
@[simp ↓] theorem sAsg_eq (i : Nat) (e : DE) (D : DEnds) (env : Env) (h : Hs) : sAsg i e D env h = (e env h (fun x h1 => x.isB = false ∧ D.nx (env.set i (some x)) h1) fun c h1 => D.ex c env h1) := id rfl
theorem ss_asg {te : TE} {fe : DE} (i : Nat) (he : SE K W te fe) : SS K W (tAsg te (gName i)) (sAsg i fe) := ⟨fun C m σ H env h Df D eK R hf p => by
  refine he.run C m σ H env h _ _ _ eK R hf (fun m1 x H1 sx h1 S1 R1 r1 ⟨nb, q1⟩ => ?_) p.px
  obtain ⟨r2, ng⟩ := R.newOk r1
  exact p.nx m1 _ H1 _ h1 (R1.setSlot r2 nb fun a o e => ng o a e) q1⟩
/-- a target that takes a value apart; a value that is stored elsewhere -/
def sBind (bd : DB) (e : DE) : DS := fun D env h => e env h (fun x h1 => match x.toVal with
  | some p => bd p env fun env1 => D.nx env1 h1
  | none => False) fun c h1 => D.ex c env h1
@[simp ↓] theorem sBind_eq (bd : DB) (e : DE) (D : DEnds) (env : Env) (h : Hs) : sBind bd e D env h = (e env h (fun x h1 => match x.toVal with
  | some p => bd p env fun env1 => D.nx env1 h1
  | none => False) fun c h1 => D.ex c env h1) := id rfl
def sExpr (e : DE) : DS := fun D env h => e env h (fun _ h1 => D.nx env h1) fun c h1 => D.ex c env h1
@[simp ↓] theorem sExpr_eq (e : DE) (D : DEnds) (env : Env) (h : Hs) : sExpr e D env h = (e env h (fun _ h1 => D.nx env h1) fun c h1 => D.ex c env h1) := id rfl
theorem ss_expr {te : TE} {fe : DE} (he : SE K W te fe) : SS K W (tDrop te) (sExpr fe) := ⟨fun C m σ H env h Df D eK R hf p =>
  he.run C m σ H env h _ _ _ eK R hf (fun m1 x H1 sx h1 S1 R1 r1 q1 => p.nx m1 σ H1 env h1 R1.drop q1) p.px⟩
def sRet (e : DE) : DS := fun D env h => e env h D.rt fun c h1 => D.ex c env h1
@[simp ↓] theorem sRet_eq (e : DE) (D : DEnds) (env : Env) (h : Hs) : sRet e D env h = (e env h D.rt fun c h1 => D.ex c env h1) := id rfl
theorem ss_ret {te : TE} {fe : DE} (he : SE K W te fe) : SS K W (tRet te) (sRet fe) := ⟨fun C m σ H env h Df D eK R hf p => by
  refine he.run C m σ H env h _ _ _ eK R hf (fun m1 x H1 sx h1 S1 R1 r1 q1 => ?_) p.px
  obtain ⟨r2, ng⟩ := R.newOk r1
  exact p.rt m1 σ H1 env h1 x sx R1 r2 ng q1⟩
def sRetN : DS := fun D _ h => D.rt (.val .non) h
@[simp ↓] theorem sRetN_eq  (D : DEnds) (u0 : Env) (h : Hs) : sRetN  D u0 h = (D.rt (.val .non) h) := id rfl
theorem ss_retN : SS K W tRetN sRetN := ⟨fun C m σ H env h Df D eK R hf p => p.rt m σ H env h .non (.val .non) R .non (fun o => nomatch o) hf⟩
/-- a name's list is handed on -/
theorem Rel.take {m : List Addr} {σ : St} {H : Hp} {env : Env} {h : Hs} {i : Nat} {xs : List PV} (R : Rel C m σ H env h) (e0 : env[i]? = some (some (.own xs))) : ∃ a, σ[i]? = some (some (.ref a)) ∧ Rel (C.own (.ref a) (.own xs)) m σ H (env.set i none) h ∧
    RepS C (ExOf C σ (env.set i none) m) m (fun a => C.H0 a = none) H (.ref a) (.own xs) ∧ ¬ C.GT a := by
  obtain ⟨v0, s0, ⟨a, vs, rfl, ha, h0, nm, q⟩, _⟩ := R.slot i _ e0
  have oa : OwnAt σ env a := ⟨i, xs, e0, s0⟩
  have sub : ∀ b, OwnAt σ (env.set i none) b → OwnAt σ env b ∧ b ≠ a := fun b ⟨j, ys, e, s⟩ => by
    rcases get_set e with ⟨rfl, l, e1⟩ | ⟨n, e1⟩
    · cases e1
    · refine ⟨⟨j, ys, e1, s⟩, fun z => ?_⟩
      subst z
      exact n (R.uniq j i ys xs _ e1 e0 s s0)
  have ex : ∀ b, ExOf (C.own (.ref a) (.own xs)) σ (env.set i none) m b → ExOf C σ env m b := fun b q => by
    rcases q with q | q | q
    · rcases q with q | q | q
      · exact .inl (.inl q)
      · exact .inl (.inr q)
      · cases q
        exact .inr (.inl oa)
    · exact .inr (.inl (sub b q).1)
    · exact .inr (.inr q)
  have nGT : ¬ C.GT a := fun g => R.gown a g oa
  have slots : ∀ w sw, (sw.isOwn = true → True) → SlotR C σ env m H w sw → SlotR (C.own (.ref a) (.own xs)) σ (env.set i none) m H w sw := fun w sw _ ⟨r1, b1⟩ => by
    refine ⟨r1.less rfl ex fun _ q => q, ?_⟩
    cases sw with
    | val p => trivial
    | own zs => trivial
    | brw zs => exact fun b e => ⟨fun z => (b1 b e).1 (sub b z).1, fun z => z.elim (b1 b e).2 fun z => (b1 b e).1 (by cases z; exact oa)⟩
    | exc _ _ => first | (cases e; done) | (cases nb; done) | exact r | exact r1 | exact ⟨r, trivial⟩ | exact ⟨r1, trivial⟩ | exact ⟨rv, trivial⟩ | trivial
    | scr ns =>
      intro b e
      rcases b1 b e with z | z
      · exact .inl z
      · exact .inr ⟨fun w => z.1 (sub b w).1, fun w => w.elim z.2 fun w => z.1 (by cases w; exact oa)⟩
  refine ⟨a, s0, ⟨by rw [List.length_set]; exact R.len, fun j sw e => ?_, fun p hp => ⟨slots _ _ (fun _ => trivial) (R.pin p hp).1, (R.pin p hp).2⟩, fun j k us ws b e1 e2 s1 s2 => ?_, ⟨R.hm.len, R.hm.nd, fun n b c e f => (R.hm.at_ n b c e f).mono (Kp.le ex) ⟨[], by simp⟩ rfl⟩, R.keep, R.dom, R.pre, fun b g => ?_, fun b g o => ?_⟩, ?_, nGT⟩
  · rcases get_set e with ⟨rfl, l, e1⟩ | ⟨n, e1⟩
    · cases e1
    · obtain ⟨w, s, r1⟩ := R.slot j sw e1
      exact ⟨w, s, slots w sw (fun _ => trivial) r1⟩
  · rcases get_set e1 with ⟨rfl, _, f1⟩ | ⟨_, f1⟩
    · cases f1
    · rcases get_set e2 with ⟨rfl, _, f2⟩ | ⟨_, f2⟩
      · cases f2
      · exact R.uniq j k us ws b f1 f2 s1 s2
  · rcases g with g | g | g
    · exact R.gdom b (.inl g)
    · exact R.gdom b (.inr g)
    · cases g
      rw [ha]
      simp
  · obtain ⟨o1, o2⟩ := sub b o
    rcases g with g | g | g
    · exact R.gown b (.inl g) o1
    · exact R.gown b (.inr g) o1
    · cases g
      exact o2 rfl
  · refine ⟨a, vs, rfl, ha, h0, nm, RepL.mono (Kp.le fun b q => ?_) ⟨[], by simp⟩ q⟩
    rcases q with q | q
    · rcases q with q | q | q
      · exact .inl (.inl q)
      · exact .inl (.inr (.inl (sub b q).1))
      · exact .inl (.inr (.inr q))
    · exact .inr q
/-- return x -/
def sRetV (i : Nat) : DS := fun D env h => match env[i]? with
  | some (some (.own xs)) => D.rt (.own xs) h
  | some (some (.val p)) => D.rt (.val p) h
  | _ => False
@[simp ↓] theorem sRetV_eq (i : Nat) (D : DEnds) (env : Env) (h : Hs) : sRetV i D env h = (match env[i]? with
  | some (some (.own xs)) => D.rt (.own xs) h
  | some (some (.val p)) => D.rt (.val p) h
  | _ => False) := id rfl
theorem ss_retV (i : Nat) : SS K W (tRet (tVar i)) (sRetV i) := ⟨fun C m σ H env h Df D eK R hf p => by
  unfold sRetV at hf
  split at hf
  · rename_i xs e0
    obtain ⟨a, s0, R1, r1, nG⟩ := R.take e0
    exact ⟨_, s0, p.rt m σ H _ h _ _ R1 r1 (fun _ b e => by cases e; exact nG) hf⟩
  · rename_i pv e0
    obtain ⟨v, s, r, _⟩ := R.slot i _ e0
    exact ⟨v, s, p.rt m σ H env h v (.val pv) R r (fun o => nomatch o) hf⟩
  · exact hf.elim⟩
def sIf (c : DT) (s t : DS) : DS := fun D env h => c env h (fun b h1 => if b = true then s D env h1 else t D env h1) fun c h1 => D.ex c env h1
@[simp ↓] theorem sIf_eq (c : DT) (s t : DS) (D : DEnds) (env : Env) (h : Hs) : sIf c s t D env h = (c env h (fun b h1 => if b = true then s D env h1 else t D env h1) fun c h1 => D.ex c env h1) := id rfl
theorem ss_if {tc : TT} {t u : TS} {fc : DT} {f g : DS} (hc : ST K W tc fc) (h1 : SS K W t f) (h2 : SS K W u g) : SS K W (tIfS tc t u) (sIf fc f g) := ⟨fun C m σ H env h Df D eK R hf p => by
  refine hc.run C m σ H env h _ _ _ eK R hf (fun m1 b H1 h1' S1 R1 q1 => ?_) p.px
  cases b with
  | true => exact iteT (h1.run C m1 σ H1 env h1' Df D eK R1 (by simpa using q1) p)
  | false => exact iteF (h2.run C m1 σ H1 env h1' Df D eK R1 (by simpa using q1) p)⟩
def sPass : DS := sNil
@[simp ↓] theorem sPass_eq : sPass = (sNil) := id rfl
theorem ss_pass : SS K W tNext sPass := ss_nil
def sBreak : DS := fun D env h => D.bk env h
@[simp ↓] theorem sBreak_eq  (D : DEnds) (env : Env) (h : Hs) : sBreak  D env h = (D.bk env h) := id rfl
def sCont : DS := fun D env h => D.ct env h
@[simp ↓] theorem sCont_eq  (D : DEnds) (env : Env) (h : Hs) : sCont  D env h = (D.ct env h) := id rfl
/-- while, by an invariant and a number that falls -/
def sWhile (c : DT) (b : DS) : DS := fun D env h => ∃ I : Nat → Env → Hs → Prop, (∃ n, I n env h) ∧ ∀ n env h, I n env h → c env h (fun v h1 => if v = true then b { D with nx := fun env' h' => ∃ n', n' < n ∧ I n' env' h', ct := fun env' h' => ∃ n', n' < n ∧ I n' env' h', bk := D.nx } env h1 else D.nx env h1) fun c h1 => D.ex c env h1
theorem ss_while {tc : TT} {tb : TS} {fc : DT} {f : DS} (hc : ST K W tc fc) (hb : SS K W tb f) : SS K W (tWhile tc tb) (sWhile fc f) := ⟨fun C m σ H env h Df D eK R hf p => by
  obtain ⟨I, ⟨n, i0⟩, step⟩ := hf
  refine ⟨fun n σ H => ∃ m env h, Rel C m σ H env h ∧ I n env h, ⟨n, m, env, h, R, i0⟩, ?_⟩
  rintro n σ H ⟨m, env, h, R, i⟩
  refine hc.run C m σ H env h _ _ _ eK R (step n env h i) (fun m1 b H1 h1 S1 R1 q1 => ?_) p.px
  cases b with
  | false => exact p.nx m1 σ H1 env h1 R1 (by simpa using q1)
  | true =>
    refine ⟨fun σ' H' => ∃ n', n' < n ∧ ∃ m env h, Rel C m σ' H' env h ∧ I n' env h, fun σ' H' q => q, ?_⟩
    have q2 : f { Df with nx := fun env' h' => ∃ n', n' < n ∧ I n' env' h', ct := fun env' h' => ∃ n', n' < n ∧ I n' env' h', bk := Df.nx } env h1 := by simpa using q1
    exact hb.run C m1 σ H1 env h1 _ _ eK R1 q2 ⟨fun m σ H env h R ⟨n', l, q⟩ => ⟨n', l, m, env, h, R, q⟩, p.nx, fun m σ H env h R ⟨n', l, q⟩ => ⟨n', l, m, env, h, R, q⟩, p.rt, p.ex⟩⟩
/-- the turns of a for -/
def forL (chk : Hs → Prop) (bd : DB) (b : DS) (D : DEnds) : List PV → Env → Hs → Prop
  | [], env, h => chk h ∧ D.nx env h
  | x :: xs, env, h => chk h ∧ bd x env fun env1 => b { D with nx := forL chk bd b D xs, ct := forL chk bd b D xs, bk := D.nx } env1 h
@[simp ↓] theorem forL_nil (chk : Hs → Prop) (bd : DB) (b : DS) (D : DEnds) (env : Env) (h : Hs) : forL chk bd b D [] env h = (chk h ∧ D.nx env h) := id rfl
@[simp ↓] theorem forL_cons (chk : Hs → Prop) (bd : DB) (b : DS) (D : DEnds) (x : PV) (xs : List PV) (env : Env) (h : Hs) : forL chk bd b D (x :: xs) env h = (chk h ∧ bd x env fun env1 => b { D with nx := forL chk bd b D xs, ct := forL chk bd b D xs, bk := D.nx } env1 h) := id rfl
def sFor (src : DI) (bd : DB) (b : DS) : DS := fun D env h => src env h (fun xs chk h1 => forL chk bd b D xs env h1) fun c h1 => D.ex c env h1
@[simp ↓] theorem sFor_eq (src : DI) (bd : DB) (b : DS) (D : DEnds) (env : Env) (h : Hs) : sFor src bd b D env h = (src env h (fun xs chk h1 => forL chk bd b D xs env h1) fun c h1 => D.ex c env h1) := id rfl
theorem ss_for {wi : TI} {g : TG} {tb : TS} {src : DI} {vs : List Nat} {bd : DB} {f : DS} (hs : SI K W wi src) (hg : SG K vs g bd) (hb : SS K W tb f) : SS K W (tFor wi g tb) (sFor src bd f) := ⟨fun C m σ H env h Df D eK R hf p => by
  refine hs.run C m σ H env h _ _ _ eK R hf (fun C1 m1 J H1 xs chk h1 le S1 R1 ok q1 => ?_) p.px
  have eK1 : C1.K = K := le.K.trans eK
  let Inv (i : Nat) (σ : St) (H : Hp) : Prop := i ≤ xs.length ∧ ∃ m env h, Rel C1 m σ H env h ∧ forL chk bd f Df (xs.drop i) env h
  refine ⟨fun i n σ H => n = xs.length - i ∧ Inv i σ H, ⟨_, rfl, Nat.zero_le _, m1, env, h1, R1, q1⟩, ?_⟩
  rintro i n σ H ⟨rfl, hi, m, env, h, R, q⟩
  by_cases hlt : i < xs.length
  · right
    have ex : xs[i]? = some xs[i] := List.getElem?_eq_getElem hlt
    rw [List.drop_eq_getElem_cons hlt] at q
    unfold forL at q
    obtain ⟨hc, q⟩ := q
    obtain ⟨go, yld⟩ := (ok C1 m σ H env h rfl (fun _ q => q) R hc i).1 _ ex
    refine ⟨go, Inv (i + 1), fun σ' H' hN => ⟨_, by omega, rfl, hN⟩, fun x H3 hy => ?_⟩
    obtain ⟨sm, rx⟩ := yld x H3 hy
    refine hg.run C1 m σ H3 env h x _ _ _ eK1 (R.grow sm) rx q fun σ' env' R4 _ _ q4 => ?_
    refine hb.run C1 m σ' H3 env' h _ _ eK1 R4 q4 ⟨fun m σ H env h R q => ⟨hlt, m, env, h, R, q⟩, fun m σ H env h R q => p.nx m σ H env h (R.back le) q, fun m σ H env h R q => ⟨hlt, m, env, h, R, q⟩, fun m σ H env h v sv R r ng q => ?_, fun c m σ H env h R q => p.ex c m σ H env h (R.back le) q⟩
    exact p.rt m σ H env h v sv (R.back (le.own v sv sv rfl)) (r.less le.K.symm (fun b q => q.le le.gt) fun b q => by rw [← le.H0]; exact q) (fun o a e g => ng o a e (le.gt a g)) q
  · left
    rw [List.drop_eq_nil_of_le (by omega)] at q
    obtain ⟨hc, q⟩ := q
    exact ⟨(ok C1 m σ H env h rfl (fun _ q => q) R hc i).2 (by omega), p.nx m σ H env h (R.back le) q⟩⟩
end
end PM

namespace PM
open PySem PySem.Spec L2
open PyProof.Rows hiding St

/-! ### defs -/
abbrev W0 : WX := fun _ _ _ _ => False
@[simp] def SV.toArg : SV → SV
  | .own xs => .brw xs
  | sv => sv
theorem RepS.wide {C : Ctx} {Ex Ex' N : Ad} {m m' : List Addr} {H H' : Hp} {v : V} {sv : SV} (r : RepS C Ex m N H v sv) (S : StE m H m' H') (h1 : ∀ b, b ∈ m → Ex b) (h2 : ∀ b, Ex' b → Ex b ∨ b ∈ m' ∨ H b = none) : RepS C Ex' m' N H' v sv := by
  have kp : ∀ {Z Z' : Ad}, (∀ b, b ∈ m → Z b) → (∀ b, Z' b → Z b ∨ b ∈ m' ∨ H b = none) → Kp Z H Z' H' := fun {Z Z'} g1 g2 b u e n => by
    have nm : b ∉ m := fun q => n (g1 b q)
    refine ⟨S.keep b u e nm, fun q => ?_⟩
    rcases g2 b q with q | q | q
    · exact n q
    · exact S.notin (by rw [e]; simp) nm q
    · rw [e] at q
      cases q
  cases sv with
  | val p => exact Rep.mono (kp h1 h2) S.ex' r
  | own xs =>
    obtain ⟨a, vs, rfl, ha, n, nm, q⟩ := r
    exact ⟨a, vs, rfl, S.keep _ _ ha nm, n, S.notin (by rw [ha]; simp) nm, RepL.mono (kp (fun b q => .inl (h1 b q)) fun b q => by
      rcases q with q | q
      · exact (h2 b q).imp .inl id
      · exact .inl (.inr q)) S.ex' q⟩
  | brw xs =>
    obtain ⟨a, vs, rfl, ha, q⟩ := r
    exact ⟨a, vs, rfl, ha.mono (S.kp (fun _ q => q) fun b q => .inr q), RepL.mono (kp h1 h2) S.ex' q⟩
  | exc _ _ => first | (cases e; done) | (cases nb; done) | exact r | exact r1 | exact ⟨r, trivial⟩ | exact ⟨r1, trivial⟩ | exact ⟨rv, trivial⟩ | trivial
  | scr ns =>
    obtain ⟨a, rfl, ha⟩ := r
    refine ⟨a, rfl, ha.imp (fun ha => ?_) id⟩
    have z : LstAt (· ∈ m') H' a (ns.map V.int) := LstAt.mono ha (S.kp (fun _ q => q) fun b q => .inr q)
    exact z
/-- the names behind a step that hands on a new list -/
theorem Rel.stepOwn {C : Ctx} {m m' : List Addr} {σ : St} {H H' : Hp} {env : Env} {h h' : Hs} {v : V} {sv : SV} (R : Rel C m σ H env h) (S : StE m H m' H') (hm : HeapR C.K (ExOf (C.own v sv) σ env m') m' H' h') (fr : ∀ a, sv.isOwn = true → v = .ref a → H a = none ∧ H' a ≠ none) : Rel (C.own v sv) m' σ H' env h' := by
  have gt : ∀ b, (C.own v sv).GT b → C.GT b ∨ (sv.isOwn = true ∧ v = .ref b) := fun b q => by
    cases sv with
    | own xs =>
      rcases q with q | q | q
      · exact .inl (.inl q)
      · exact .inl (.inr q)
      · exact .inr ⟨rfl, q.symm⟩
    | _ => exact .inl q
  have ex : ∀ b, ExOf (C.own v sv) σ env m' b → ExOf C σ env m b ∨ b ∈ m' ∨ H b = none := fun b q => by
    rcases q with q | q | q
    · rcases gt b q with q | ⟨o, e⟩
      · exact .inl (.inl q)
      · exact .inr (.inr (fr b o e).1)
    · exact .inl (.inr (.inl q))
    · exact .inr (.inl q)
  have R1 : Rel C m' σ H' env h' := R.step S ⟨hm.len, hm.nd, fun n a c e f => by
    have z := hm.at_ n a c e f
    exact z.mono (Kp.le fun b q => q.le fun _ => C.own_GT v sv) ⟨[], by simp⟩ rfl⟩
  have slots : ∀ w sw, SlotR C σ env m H w sw → SlotR (C.own v sv) σ env m' H' w sw := fun w sw ⟨r1, b1⟩ => by
    refine ⟨((r1.wide S (fun b q => .inr (.inr q)) ex).less (C.own_K v sv) (fun _ q => q) fun b q => by rw [C.own_H0]; exact q), ?_⟩
    have tt : ∀ b, H b ≠ none → ¬ C.T b → ¬ (C.own v sv).T b := fun b nb nt z => by
      cases sv with
      | own xs =>
        rcases z with z | z
        · exact nt z
        · exact nb (fr b rfl z.symm).1
      | _ => exact nt z
    cases sw with
    | val p => trivial
    | own xs => trivial
    | brw xs =>
      obtain ⟨c, ws, rfl, hc, _⟩ := r1
      intro b e
      cases e
      refine ⟨(b1 c rfl).1, tt c (fun z => ?_) (b1 c rfl).2⟩
      rcases hc.1 with q | ⟨_, q⟩ <;> (rw [z] at q; cases q)
    | exc _ _ => first | (cases e; done) | (cases nb; done) | exact r | exact r1 | exact ⟨r, trivial⟩ | exact ⟨r1, trivial⟩ | exact ⟨rv, trivial⟩ | trivial
    | scr ns =>
      obtain ⟨c, rfl, hc⟩ := r1
      intro b e
      cases e
      rcases b1 c rfl with q | q
      · exact .inl fun H' => by rw [C.own_K]; exact q H'
      · rcases hc with hc | hc
        · refine .inr ⟨q.1, tt c (fun z => ?_) q.2⟩
          rcases hc.1 with q | ⟨_, q⟩ <;> (rw [z] at q; cases q)
        · exact .inl fun H' => by rw [C.own_K]; exact hc H'
  refine ⟨R.len, fun i sw e => ?_, fun p hp => ?_, R.uniq, by rw [C.own_K]; exact hm, by rw [C.own_H0, C.own_m0]; exact R1.keep, by rw [C.own_H0]; exact R1.dom, by rw [C.own_H0, C.own_m0]; exact R1.pre, fun b q => ?_, fun b q o => ?_⟩
  · obtain ⟨w, s, r⟩ := R.slot i sw e
    exact ⟨w, s, slots w sw r⟩
  · have z := R.pin p (by rw [C.own_pins] at hp; exact hp)
    exact ⟨slots _ _ z.1, z.2⟩
  · rcases gt b q with q | ⟨o, e⟩
    · exact R1.gdom b q
    · exact (fr b o e).2
  · rcases gt b q with q | ⟨so, e⟩
    · exact R.gown b q o
    · obtain ⟨vs, z, _⟩ := R.ownDom o
      rw [(fr b so e).1] at z
      cases z
def ctxAt (K : PySem.W.Frag) (G : Ad) (m : List Addr) (H : Hp) : Ctx := { K := K, G := G, H0 := H, m0 := m }
/-- what a def promises: its denotation -/
def spD (K : PySem.W.Frag) (n : Nat) (d : DF) : Sp := fun vs H Q _ => vs.length = n ∧ ∃ (G : Ad) (m : List Addr) (h : Hs) (svs : List SV) (Qd : VQ), Rel (ctxAt K G m H) m (vs.map some) H (svs.map some) h ∧ d svs h Qd (fun _ _ => False) ∧
  ∀ m' v H' sv h', StE m H m' H' → HeapR K (ExOf ((ctxAt K G m H).own v sv) [] [] m') m' H' h' → RepS (ctxAt K G m H) (ExOf (ctxAt K G m H) [] [] m') m' (fun a => H a = none) H' v sv → Qd sv h' → Q v H'
theorem own_nil {b : Addr} : ¬ OwnAt [] [] b := fun ⟨i, xs, e, _⟩ => by simp at e
theorem own_rep {σ : St} {env : Env} {k : Nat} {b : Addr} (l : σ.length = env.length) (o : OwnAt (σ ++ List.replicate k none) (env ++ List.replicate k none) b) : OwnAt σ env b := by
  obtain ⟨i, xs, e, s⟩ := o
  by_cases hi : i < env.length
  · rw [List.getElem?_append_left hi] at e
    rw [List.getElem?_append_left (by omega)] at s
    exact ⟨i, xs, e, s⟩
  · rw [List.getElem?_append_right (by omega), List.getElem?_replicate] at e
    split at e <;> cases e
theorem Rel.ext {C : Ctx} {m : List Addr} {σ : St} {H : Hp} {env : Env} {h : Hs} (R : Rel C m σ H env h) (k : Nat) : Rel C m (σ ++ List.replicate k none) H (env ++ List.replicate k none) h := by
  have sub : ∀ b, OwnAt (σ ++ List.replicate k none) (env ++ List.replicate k none) b → OwnAt σ env b := fun b o => own_rep R.len o
  have ex : ∀ b, ExOf C (σ ++ List.replicate k none) (env ++ List.replicate k none) m b → ExOf C σ env m b := fun b q => by
    rcases q with q | q | q
    · exact .inl q
    · exact .inr (.inl (sub b q))
    · exact .inr (.inr q)
  have slots : ∀ w sw, SlotR C σ env m H w sw → SlotR C (σ ++ List.replicate k none) (env ++ List.replicate k none) m H w sw := fun w sw ⟨r1, b1⟩ => ⟨r1.less rfl ex fun _ q => q, b1.le rfl (fun b o => .inl (sub b o)) fun _ q => q⟩
  have left : ∀ {i : Nat} {sv : SV}, (env ++ List.replicate k none)[i]? = some (some sv) → i < env.length ∧ env[i]? = some (some sv) := fun {i sv} e => by
    by_cases hi : i < env.length
    · rw [List.getElem?_append_left hi] at e
      exact ⟨hi, e⟩
    · rw [List.getElem?_append_right (by omega), List.getElem?_replicate] at e
      split at e <;> cases e
  refine ⟨by simp [R.len], fun i sv e => ?_, fun p hp => ⟨slots _ _ (R.pin p hp).1, (R.pin p hp).2⟩, fun i j xs ys a e1 e2 s1 s2 => ?_, ⟨R.hm.len, R.hm.nd, fun n a c e f => (R.hm.at_ n a c e f).mono (Kp.le ex) ⟨[], by simp⟩ rfl⟩, R.keep, R.dom, R.pre, R.gdom, fun a g o => R.gown a g (sub a o)⟩
  · obtain ⟨hi, e⟩ := left e
    obtain ⟨w, s, r⟩ := R.slot i sv e
    exact ⟨w, by rw [List.getElem?_append_left (by rw [R.len]; exact hi)]; exact s, slots w sv r⟩
  · obtain ⟨h1, e1⟩ := left e1
    obtain ⟨h2, e2⟩ := left e2
    rw [List.getElem?_append_left (by rw [R.len]; exact h1)] at s1
    rw [List.getElem?_append_left (by rw [R.len]; exact h2)] at s2
    exact R.uniq i j xs ys a e1 e2 s1 s2
/-- a def: n parameters, k further names -/
def dDef (n k : Nat) (body : DS) : DF := fun svs h Q E => svs.length = n ∧ body { nx := fun _ h' => Q (.val .non) h', rt := Q, ex := fun c _ h' => E c h' } (svs.map some ++ List.replicate k none) h
@[simp ↓] theorem dDef_eq (n k : Nat) (body : DS) (svs : List SV) (h : Hs) (Q : VQ) (E : XQ) : dDef n k body svs h Q E = (svs.length = n ∧ body { nx := fun _ h' => Q (.val .non) h', rt := Q, ex := fun c _ h' => E c h' } (svs.map some ++ List.replicate k none) h) := id rfl
section
variable {P : Program} {w : World} {K : PySem.W.Frag} {mg : Str → Option Value} {base : Heap}
theorem ok_def {x qual : Str} {st : Stmt} {f : Addr} {fd : FuncData} {N ps : List Str} {k : Nat} {body : DS} (F : Fun K x qual st f fd) (S : FnScope N ps (defScope st))
    (hb : ∀ (cdv : Value) (A : Around) (outer : List PySem.Env) (s : Shared) (H : Hp) (E : XK), Room k (A.deeper (envOfC qual (defScope st) s.heap.objs.size f cdv)) → ∃ t, PSs (cxOf CX0 P w K mg base N qual (defScope st) f cdv A outer s H E).nox (defBody st) t ∧ SS K W0 t body) :
    FnOk P w K mg base CX0 (k + 1) f fd ps (spD K ps.length (dDef ps.length (N.length - ps.length) body)) := by
  refine F.ok S (fun vs H Q E h => h.1) (fun cdv A outer s H vs Q E hr h => ?_)
  obtain ⟨t, hp, hs⟩ := hb cdv A outer s H E hr
  obtain ⟨hl, G, m, h, svs, Qd, R, ⟨sl, hd⟩, post⟩ := h
  refine ⟨t, hp, ?_⟩
  have R2 := R.ext (N.length - ps.length)
  have fin : ∀ m' σ H' env h' v sv, Rel ((ctxAt K G m H).own v sv) m' σ H' env h' → RepS (ctxAt K G m H) (ExOf (ctxAt K G m H) σ env m') m' (fun a => H a = none) H' v sv → Qd sv h' → Q v H' := fun m' σ H' env h' v sv R r q => by
    have R0 := R.drop
    have ex : ∀ (C : Ctx) b, ExOf C [] [] m' b → ExOf C σ env m' b := fun C b q => by
      rcases q with q | q | q
      · exact .inl q
      · exact absurd q own_nil
      · exact .inr (.inr q)
    refine post m' v H' sv h' ⟨R0.keep, R0.dom, R0.pre⟩ ⟨R.hm.len, R.hm.nd, fun n a c e f => ?_⟩ (r.less rfl (ex _) fun _ q => q) q
    have z := R.hm.at_ n a c e f
    rw [Ctx.own_K] at z
    exact z.mono (Kp.le (ex _)) ⟨[], by simp⟩ rfl
  have e0 : L2.start N vs = vs.map some ++ List.replicate (N.length - ps.length) none := by
    unfold L2.start
    rw [hl]
  rw [e0]
  refine hs.run (ctxAt K G m H) m _ H _ h _ _ rfl R2 hd ⟨fun m' σ H' env h' R q => fin m' σ H' env h' .non (.val .non) R .non q, fun _ _ _ _ _ _ q => q, fun _ _ _ _ _ _ q => q, fun m' σ H' env h' v sv R r _ q => fin m' σ H' env h' v sv R r q, fun _ _ _ _ _ _ _ q => q⟩
end
/-- f(..) -/
def apA (svs : List SV) (k : List SV → Prop) : Prop := k (svs.map SV.toArg)
@[simp ↓] theorem apA_nil (k : List SV → Prop) : apA [] k = k [] := id rfl
@[simp ↓] theorem apA_val (p : PV) (l : List SV) (k : List SV → Prop) : apA (.val p :: l) k = apA l fun vs => k (.val p :: vs) := id rfl
@[simp ↓] theorem apA_own (p : List PV) (l : List SV) (k : List SV → Prop) : apA (.own p :: l) k = apA l fun vs => k (.brw p :: vs) := id rfl
@[simp ↓] theorem apA_brw (p : List PV) (l : List SV) (k : List SV → Prop) : apA (.brw p :: l) k = apA l fun vs => k (.brw p :: vs) := id rfl
@[simp ↓] theorem apA_scr (p : List Int) (l : List SV) (k : List SV → Prop) : apA (.scr p :: l) k = apA l fun vs => k (.scr p :: vs) := id rfl
def dCall (n : Nat) (d : DF) (a : DA) : DE := fun env h Q E => a env h (fun svs h1 => svs.length = n ∧ apA svs fun vs => d vs h1 Q fun _ _ => False) E
@[simp ↓] theorem dCall_eq (n : Nat) (d : DF) (a : DA) (env : Env) (h : Hs) (Q : VQ) (E : XQ) : dCall n d a env h Q E = (a env h (fun svs h1 => svs.length = n ∧ apA svs fun vs => d vs h1 Q fun _ _ => False) E) := id rfl
theorem paired_get {α β : Type} {R : α → β → Prop} : ∀ {xs : List α} {ys : List β} {i : Nat} {y : β}, Paired R xs ys → ys[i]? = some y → ∃ x, xs[i]? = some x ∧ R x y
  | _, _, _, _, .nil, e => by simp at e
  | _, _, 0, _, .cons r _, e => by
    obtain rfl := Option.some.inj e
    exact ⟨_, rfl, r⟩
  | _, _, i + 1, _, .cons _ t, e => paired_get (i := i) t e
/-- the state at a callee's beginning -/
theorem Rel.enter {C : Ctx} {m : List Addr} {σ : St} {H : Hp} {env : Env} {h : Hs} {N : Ad} {vs : List V} {svs : List SV} (R : Rel C m σ H env h) (r : Paired (RepS C (ExOf C σ env m) m N H) vs svs) :
    Rel (ctxAt C.K (fun a => C.GT a ∨ OwnAt σ env a) m H) m (vs.map some) H ((svs.map SV.toArg).map some) h := by
  have noown : ∀ {b : Addr}, ¬ OwnAt (vs.map some) ((svs.map SV.toArg).map some) b := fun {b} ⟨i, xs, e, _⟩ => by
    rw [List.map_map, List.getElem?_map] at e
    cases g : svs[i]? with
    | none => rw [g] at e; cases e
    | some sv =>
      rw [g] at e
      have e1 : SV.toArg sv = .own xs := by
        have z := Option.some.inj e
        exact Option.some.inj z
      cases sv <;> cases e1
  have exi : ∀ b, ExOf (ctxAt C.K (fun a => C.GT a ∨ OwnAt σ env a) m H) (vs.map some) ((svs.map SV.toArg).map some) m b → ExOf C σ env m b := fun b q => by
    rcases q with q | q | q
    · rcases q with q | q
      · exact q.elim .inl fun q => .inr (.inl q)
      · exact q.elim
    · exact absurd q noown
    · exact .inr (.inr q)
  have len : vs.length = svs.length := Paired.length r
  refine ⟨by simp [len], fun i sv e => ?_, fun p hp => (nomatch hp), fun i j xs ys a e1 _ s1 _ => absurd ⟨i, xs, e1, s1⟩ noown, ⟨R.hm.len, R.hm.nd, fun n a c e f => (R.hm.at_ n a c e f).mono (Kp.le exi) ⟨[], by simp⟩ rfl⟩, fun b o e _ => e, fun b q => q, ⟨[], by simp [ctxAt], by simp⟩, fun a g => ?_, fun a _ o => noown o⟩
  · rw [List.map_map, List.getElem?_map] at e
    cases g : svs[i]? with
    | none => rw [g] at e; cases e
    | some s0 =>
      rw [g] at e
      obtain ⟨v, gv, rv⟩ := paired_get r g
      have e1 : SV.toArg s0 = sv := by
        have z := Option.some.inj e
        exact Option.some.inj z
      subst e1
      refine ⟨v, by rw [List.getElem?_map, gv]; rfl, ?_⟩
      cases s0 with
      | val p => exact ⟨Rep.mono (Kp.le exi) ⟨[], by simp⟩ rv, trivial⟩
      | own xs =>
        obtain ⟨a, ws, rfl, ha, _, nm, q⟩ := rv
        exact ⟨⟨a, ws, rfl, ⟨.inl ha, nm⟩, RepL.mono (Kp.le fun b q => .inl (exi b q)) ⟨[], by simp⟩ q⟩, fun b _ => ⟨noown, fun q => q⟩⟩
      | brw xs =>
        obtain ⟨a, ws, rfl, ha, q⟩ := rv
        exact ⟨⟨a, ws, rfl, ha, RepL.mono (Kp.le exi) ⟨[], by simp⟩ q⟩, fun b _ => ⟨noown, fun q => q⟩⟩
      | exc _ _ => first | (cases e; done) | (cases nb; done) | exact r | exact r1 | exact ⟨r, trivial⟩ | exact ⟨r1, trivial⟩ | exact ⟨rv, trivial⟩ | trivial
      | scr ns =>
        obtain ⟨a, rfl, ha⟩ := rv
        exact ⟨⟨a, rfl, ha⟩, fun b _ => .inr ⟨noown, fun q => q⟩⟩
  · rcases g with g | g
    · exact g.elim (R.gdom a) fun o => R.exDom (.inr (.inl o))
    · exact g.elim
section
variable {K : PySem.W.Frag} {W : WX}
theorem se_call {ta : TA} {fa : DA} {n : Nat} {d : DF} {E0 : XK} (ha : SA K W ta fa) : SE K W (tCall (spD K n d) [] E0 ta) (dCall n d fa) := ⟨fun C m σ H env h Q E Q' eK R hf p px => by
  refine ha.run C m σ H env h _ E _ eK R hf (fun m1 vs H1 svs h1 S1 R1 r1 ⟨hn, q1⟩ => ?_) px
  have len : vs.length = svs.length := Paired.length r1
  rw [List.append_nil]
  have R1' : Rel C m1 σ H1 env h1 := R1.drops
  have Re := R1'.enter r1
  subst eK
  refine ⟨len.trans hn, _, m1, h1, _, Q, Re, q1, fun m' v H' sv h' S2 hm r2 q2 => ?_⟩
  have ex : ∀ b, ExOf C σ env m' b → ExOf (ctxAt C.K (fun a => C.GT a ∨ OwnAt σ env a) m1 H1) [] [] m' b := fun b q => by
    rcases q with q | q | q
    · exact .inl (.inl (.inl q))
    · exact .inl (.inl (.inr q))
    · exact .inr (.inr q)
  have exo : ∀ b, ExOf (C.own v sv) σ env m' b → ExOf ((ctxAt C.K (fun a => C.GT a ∨ OwnAt σ env a) m1 H1).own v sv) [] [] m' b := fun b q => by
    rcases q with q | q | q
    · cases sv with
      | own xs =>
        rcases q with q | q | q
        · exact .inl (.inl (.inl (.inl q)))
        · exact .inl (.inl (.inl (.inr q)))
        · exact .inl (.inr (.inr q))
      | _ => exact .inl (.inl (.inl q))
    · exact .inl (by
        cases sv with
        | _ => exact .inl (.inr q))
    · exact .inr (.inr q)
  have r3 : RepS C (ExOf C σ env m') m' (fun a => H1 a = none) H' v sv := r2.less rfl ex fun _ q => q
  refine p m' v H' sv h' (S1.trans S2) (R1'.stepOwn S2 ⟨hm.len, hm.nd, fun n a c e f => ?_⟩ fun a o e => ?_) (r3.less rfl (fun _ q => q) fun a q => stnew S1 q) q2
  · exact (hm.at_ n a c e f).mono (Kp.le exo) ⟨[], by simp⟩ rfl
  · cases sv with
    | own xs =>
      obtain ⟨b, ws, rfl, hb, nb, _⟩ := r3
      cases e
      exact ⟨nb, by rw [hb]; simp⟩
    | _ => cases o⟩
end
end PM

namespace PM
open PySem PySem.Spec L2
open PyProof.Rows hiding St

/-! ### calls of built-ins, by values -/
abbrev GL := Hs → List SV → (SV → Prop) → Prop
def CallS (K : PySem.W.Frag) (r : List V → Hp → VK → Prop) (g : GL) : Prop := ∀ (C : Ctx) (m : List Addr) (σ : St) (H : Hp) (env : Env) (h : Hs) (vs : List V) (svs : List SV) (q : SV → Prop) (Q' : VK), C.K = K → Rel C m σ H env h →
  Paired (RepA C σ env m H) vs svs → g h svs q → PostO C m σ H env h q Q' → r vs H Q'
def dB (g : GL) (a : DA) : DE := fun env h Q E => a env h (fun svs h1 => g h1 svs fun r => Q r h1) E
@[simp ↓] theorem dB_eq (g : GL) (a : DA) (env : Env) (h : Hs) (Q : VQ) (E : XQ) : dB g a env h Q E = (a env h (fun svs h1 => g h1 svs fun r => Q r h1) E) := id rfl
section
variable {K : PySem.W.Frag} {W : WX}
theorem se_cb {ta : TA} {fa : DA} {r : List V → Hp → VK → Prop} {g : GL} (o : CallS K r g) (ha : SA K W ta fa) : SE K W (tCB r ta) (dB g fa) := ⟨fun C m σ H env h Q E Q' eK R hf p px => by
  refine ha.run C m σ H env h _ E _ eK R hf (fun m1 vs H1 svs h1 S1 R1 r1 q1 => ?_) px
  refine o C m1 σ H1 env h1 vs svs _ _ eK R1.drops (Paired.mapP r1 fun v sv r => r.less rfl (fun _ q => q) fun _ _ => trivial) q1 fun v H' sv s3 R3 r3 q3 => ?_
  have S3 : StE m1 H1 m1 H' := .same s3
  exact p m1 v H' sv h1 (S1.trans S3) R3 (r3.less rfl (fun _ q => q) fun a n => stnew S1 n) q3⟩
end
/-- one argument -/
def g1 (g : G1) : GL := fun h svs q => match svs with
  | [x] => g h x q
  | _ => False
@[simp ↓] theorem g1_eq (g : G1) (h : Hs) (svs : List SV) (q : SV → Prop) : g1 g h svs q = (match svs with
  | [x] => g h x q
  | _ => False) := id rfl
def CallS1 (K : PySem.W.Frag) (r : V → Hp → VK → Prop) (g : G1) : Prop := UnS K r g
theorem cs_1 {K : PySem.W.Frag} {r : List V → Hp → VK → Prop} {g : G1} (u : UnS K (fun x H Q => r [x] H Q) g) : CallS K r (g1 g) := fun C m σ H env h vs svs q Q' eK R rs hg p => by
  unfold g1 at hg
  split at hg
  · cases rs with
    | cons r1 rs =>
      cases rs
      exact u C m σ H env h _ _ q Q' eK R r1 hg p
  · exact hg.elim
/-- len -/
def gLen : G1 := fun h x q => match x with
  | .val (.str z) => z.length ≤ sizeLine ∧ q (.val (.int z.length))
  | x => ∃ xs, seqC h x = some xs ∧ q (.val (.int xs.length))
@[simp ↓] theorem gLen_eq  (h : Hs) (x : SV) (q : SV → Prop) : gLen  h x q = (match x with
  | .val (.str z) => z.length ≤ sizeLine ∧ q (.val (.int z.length))
  | x => ∃ xs, seqC h x = some xs ∧ q (.val (.int xs.length))) := id rfl
theorem us_len {K : PySem.W.Frag} : UnS K (fun x H Q => ∃ y n, [x] = [y] ∧ LenV K y H n ∧ Q (.int n) H) gLen := fun C m σ H env h x sx q Q' eK R rx hg p => by
  subst eK
  unfold gLen at hg
  split at hg
  · cases rx
    exact ⟨_, _, rfl, ⟨hg.1, rfl⟩, p.int R hg.2⟩
  · obtain ⟨xs, e, hq⟩ := hg
    obtain ⟨a, vs, rfl, h1, q1⟩ := R.seq rx e
    refine ⟨_, vs.length, rfl, h1.imp (fun z => ⟨vs, z, rfl⟩) (fun z => ⟨vs, z, rfl⟩), ?_⟩
    rw [q1.length]
    exact p.int R hq
def gInt1 : G1 := fun _ x q => match x with
  | .val (.int i) => q (.val (.int i))
  | .val (.bl b) => q (.val (.int (if b then 1 else 0)))
  | _ => False
@[simp ↓] theorem gInt1_eq  (u0 : Hs) (x : SV) (q : SV → Prop) : gInt1  u0 x q = (match x with
  | .val (.int i) => q (.val (.int i))
  | .val (.bl b) => q (.val (.int (if b then 1 else 0)))
  | _ => False) := id rfl
theorem us_int1 {K : PySem.W.Frag} : UnS K (fun x H Q => (∃ i, [x] = [V.int i] ∧ Q (.int i) H) ∨ ∃ k, [x] = [V.bl k] ∧ Q (.int (if k then 1 else 0)) H) gInt1 := fun C m σ H env h x sx q Q' eK R rx hg p => by
  subst eK
  unfold gInt1 at hg
  split at hg
  · cases rx
    exact .inl ⟨_, rfl, p.int R hg⟩
  · cases rx
    exact .inr ⟨_, rfl, p.int R hg⟩
  · exact hg.elim
/-- lists of ints, of bools -/
def intsOf : List PV → Option (List Int)
  | [] => some []
  | .int i :: xs => (intsOf xs).map (i :: ·)
  | _ :: _ => none
theorem intsOf_eq : ∀ {xs : List PV} {ns : List Int}, intsOf xs = some ns → xs = ns.map .int
  | [], _, e => by cases e; rfl
  | .int i :: xs, ns, e => by
    unfold intsOf at e
    cases g : intsOf xs with
    | none => rw [g] at e; cases e
    | some ms =>
      rw [g] at e
      cases e
      rw [intsOf_eq g]
      rfl
  | .non :: _, _, e => by cases e
  | .bl _ :: _, _, e => by cases e
  | .str _ :: _, _, e => by cases e
  | .tup _ :: _, _, e => by cases e
  | .lst _ :: _, _, e => by cases e
  | .ref _ :: _, _, e => by cases e
@[simp] theorem intsOf_map (ns : List Int) : intsOf (ns.map .int) = some ns := by
  induction ns with
  | nil => rfl
  | cons n ns ih => simp [intsOf, ih]
def blsOf : List PV → Option (List Bool)
  | [] => some []
  | .bl i :: xs => (blsOf xs).map (i :: ·)
  | _ :: _ => none
theorem blsOf_eq : ∀ {xs : List PV} {ns : List Bool}, blsOf xs = some ns → xs = ns.map .bl
  | [], _, e => by cases e; rfl
  | .bl i :: xs, ns, e => by
    unfold blsOf at e
    cases g : blsOf xs with
    | none => rw [g] at e; cases e
    | some ms =>
      rw [g] at e
      cases e
      rw [blsOf_eq g]
      rfl
  | .non :: _, _, e => by cases e
  | .int _ :: _, _, e => by cases e
  | .str _ :: _, _, e => by cases e
  | .tup _ :: _, _, e => by cases e
  | .lst _ :: _, _, e => by cases e
  | .ref _ :: _, _, e => by cases e
@[simp] theorem blsOf_map (ns : List Bool) : blsOf (ns.map .bl) = some ns := by
  induction ns with
  | nil => rfl
  | cons n ns ih => simp [blsOf, ih]
theorem RepL.bls {K : PySem.W.Frag} {Ex : Ad} {m : List Addr} {H : Hp} : ∀ {vs : List V} {ns : List Bool}, RepL K Ex m H vs (ns.map PV.bl) → vs = ns.map V.bl
  | _, [], .nil => rfl
  | _, n :: ns, .cons h r => by
    cases h
    rw [RepL.bls r]
    rfl
def gInts (f : List Int → (SV → Prop) → Prop) : G1 := fun h x q => match listC h x with
  | some xs => match intsOf xs with
    | some ns => f ns q
    | none => False
  | none => False
@[simp ↓] theorem gInts_eq (f : List Int → (SV → Prop) → Prop) (h : Hs) (x : SV) (q : SV → Prop) : gInts f h x q = (match listC h x with
  | some xs => match intsOf xs with
    | some ns => f ns q
    | none => False
  | none => False) := id rfl
theorem Rel.intsL {C : Ctx} {m : List Addr} {σ : St} {H : Hp} {env : Env} {h : Hs} {x : V} {sx : SV} {f : List Int → (SV → Prop) → Prop} {q : SV → Prop} (R : Rel C m σ H env h) (rx : RepA C σ env m H x sx) (hg : gInts f h sx q) : ∃ a ns, x = .ref a ∧ SqL C.K H a (ns.map V.int) ∧ f ns q := by
  unfold gInts at hg
  split at hg
  · rename_i xs e
    split at hg
    · rename_i ns e2
      obtain ⟨a, vs, rfl, h1, q1⟩ := R.list rx e
      rw [intsOf_eq e2] at q1
      exact ⟨a, ns, rfl, by rw [← q1.ints]; exact h1, hg⟩
    · exact hg.elim
  · exact hg.elim
def gSum : G1 := gInts fun ns q => q (.val (.int ns.sum))
@[simp ↓] theorem gSum_eq : gSum = (gInts fun ns q => q (.val (.int ns.sum))) := id rfl
def maxI : List Int → Int
  | [] => 0
  | [n] => n
  | n :: ns => max n (maxI ns)
def minI : List Int → Int
  | [] => 0
  | [n] => n
  | n :: ns => min n (minI ns)
theorem maxI_spec : ∀ (ns : List Int), ns ≠ [] → maxI ns ∈ ns ∧ ∀ y ∈ ns, y ≤ maxI ns
  | [], h => absurd rfl h
  | [n], _ => by simp [maxI]
  | n :: k :: ns, _ => by
    obtain ⟨h1, h2⟩ := maxI_spec (k :: ns) (by simp)
    have e : maxI (n :: k :: ns) = max n (maxI (k :: ns)) := rfl
    rw [e]
    refine ⟨?_, fun y hy => ?_⟩
    · rcases Int.le_total n (maxI (k :: ns)) with l | l
      · rw [Int.max_eq_right l]
        exact List.mem_cons_of_mem _ h1
      · rw [Int.max_eq_left l]
        exact List.mem_cons_self
    · rcases List.mem_cons.mp hy with z | z
      · subst z
        exact Int.le_max_left _ _
      · exact Int.le_trans (h2 y z) (Int.le_max_right _ _)
theorem minI_spec : ∀ (ns : List Int), ns ≠ [] → minI ns ∈ ns ∧ ∀ y ∈ ns, minI ns ≤ y
  | [], h => absurd rfl h
  | [n], _ => by simp [minI]
  | n :: k :: ns, _ => by
    obtain ⟨h1, h2⟩ := minI_spec (k :: ns) (by simp)
    have e : minI (n :: k :: ns) = min n (minI (k :: ns)) := rfl
    rw [e]
    refine ⟨?_, fun y hy => ?_⟩
    · rcases Int.le_total n (minI (k :: ns)) with l | l
      · rw [Int.min_eq_left l]
        exact List.mem_cons_self
      · rw [Int.min_eq_right l]
        exact List.mem_cons_of_mem _ h1
    · rcases List.mem_cons.mp hy with z | z
      · subst z
        exact Int.min_le_left _ _
      · exact Int.le_trans (Int.min_le_right _ _) (h2 y z)
def gMaxL : G1 := gInts fun ns q => ns ≠ [] ∧ q (.val (.int (maxI ns)))
@[simp ↓] theorem gMaxL_eq : gMaxL = (gInts fun ns q => ns ≠ [] ∧ q (.val (.int (maxI ns)))) := id rfl
def gMinL : G1 := gInts fun ns q => ns ≠ [] ∧ q (.val (.int (minI ns)))
@[simp ↓] theorem gMinL_eq : gMinL = (gInts fun ns q => ns ≠ [] ∧ q (.val (.int (minI ns)))) := id rfl
theorem us_maxL {K : PySem.W.Frag} : UnS K (fun x H Q => rMax K [x] H Q) gMaxL := fun C m σ H env h x sx q Q' eK R rx hg p => by
  subst eK
  obtain ⟨a, ns, rfl, h1, hne, hq⟩ := R.intsL rx hg
  refine ⟨a, ns, rfl, h1, List.length_pos_iff.mpr hne, fun m hm hy => ?_⟩
  obtain ⟨z1, z2⟩ := maxI_spec ns hne
  have e : m = maxI ns := Int.le_antisymm (z2 m hm) (hy _ z1)
  rw [e]
  exact p.int R hq
theorem us_minL {K : PySem.W.Frag} : UnS K (fun x H Q => rMin K [x] H Q) gMinL := fun C m σ H env h x sx q Q' eK R rx hg p => by
  subst eK
  obtain ⟨a, ns, rfl, h1, hne, hq⟩ := R.intsL rx hg
  refine ⟨a, ns, rfl, h1, List.length_pos_iff.mpr hne, fun m hm hy => ?_⟩
  obtain ⟨z1, z2⟩ := minI_spec ns hne
  have e : m = minI ns := Int.le_antisymm (hy _ z1) (z2 m hm)
  rw [e]
  exact p.int R hq
/-- max, min: of two ints, of a list of ints -/
def gMax : GL := fun h svs q => match svs with
  | [x] => gMaxL h x q
  | [.val (.int i), .val (.int j)] => q (.val (.int (max i j)))
  | _ => False
@[simp ↓] theorem gMax_eq  (h : Hs) (svs : List SV) (q : SV → Prop) : gMax  h svs q = (match svs with
  | [x] => gMaxL h x q
  | [.val (.int i), .val (.int j)] => q (.val (.int (max i j)))
  | _ => False) := id rfl
def gMin : GL := fun h svs q => match svs with
  | [x] => gMinL h x q
  | [.val (.int i), .val (.int j)] => q (.val (.int (min i j)))
  | _ => False
@[simp ↓] theorem gMin_eq  (h : Hs) (svs : List SV) (q : SV → Prop) : gMin  h svs q = (match svs with
  | [x] => gMinL h x q
  | [.val (.int i), .val (.int j)] => q (.val (.int (min i j)))
  | _ => False) := id rfl
def rMaxA (K : PySem.W.Frag) : List V → Hp → VK → Prop := fun xs H Q => rMax K xs H Q ∨ ∃ i j, xs = [.int i, .int j] ∧ Q (.int (if j > i then j else i)) H
def rMinA (K : PySem.W.Frag) : List V → Hp → VK → Prop := fun xs H Q => rMin K xs H Q ∨ ∃ i j, xs = [.int i, .int j] ∧ Q (.int (if j < i then j else i)) H
theorem cr_maxA {X : Cx} (hc : X.calm = true) : CallR X (.builtin "max") (rMaxA X.K) := (cr_max hc).or (call_max2 hc)
theorem cr_minA {X : Cx} (hc : X.calm = true) : CallR X (.builtin "min") (rMinA X.K) := (cr_min hc).or (call_min2 hc)
theorem cs_max {K : PySem.W.Frag} : CallS K (rMaxA K) gMax := fun C m σ H env h vs svs q Q' eK R rs hg p => by
  unfold gMax at hg
  split at hg
  · cases rs with
    | cons r1 rs =>
      cases rs
      exact .inl (us_maxL C m σ H env h _ _ q Q' eK R r1 hg p)
  · cases rs with
    | cons r1 rs => cases rs with
      | cons r2 rs =>
        cases rs
        cases r1
        cases r2
        rename_i i j
        refine .inr ⟨i, j, rfl, ?_⟩
        have e : (if j > i then j else i) = max i j := by
          split <;> omega
        rw [e]
        exact p.int R hg
  · exact hg.elim
theorem cs_min {K : PySem.W.Frag} : CallS K (rMinA K) gMin := fun C m σ H env h vs svs q Q' eK R rs hg p => by
  unfold gMin at hg
  split at hg
  · cases rs with
    | cons r1 rs =>
      cases rs
      exact .inl (us_minL C m σ H env h _ _ q Q' eK R r1 hg p)
  · cases rs with
    | cons r1 rs => cases rs with
      | cons r2 rs =>
        cases rs
        cases r1
        cases r2
        rename_i i j
        refine .inr ⟨i, j, rfl, ?_⟩
        have e : (if j < i then j else i) = min i j := by
          split <;> omega
        rw [e]
        exact p.int R hg
  · exact hg.elim
def gBls (f : List Bool → Bool) : G1 := fun h x q => match listC h x with
  | some xs => match blsOf xs with
    | some ns => q (.val (.bl (f ns)))
    | none => False
  | none => False
@[simp ↓] theorem gBls_eq (f : List Bool → Bool) (h : Hs) (x : SV) (q : SV → Prop) : gBls f h x q = (match listC h x with
  | some xs => match blsOf xs with
    | some ns => q (.val (.bl (f ns)))
    | none => False
  | none => False) := id rfl
theorem us_all {K : PySem.W.Frag} : UnS K (fun x H Q => rAll K [x] H Q) (gBls fun bs => bs.all id) := fun C m σ H env h x sx q Q' eK R rx hg p => by
  subst eK
  unfold gBls at hg
  split at hg
  · rename_i xs e
    split at hg
    · rename_i ns e2
      obtain ⟨a, vs, rfl, h1, q1⟩ := R.list rx e
      rw [blsOf_eq e2] at q1
      exact ⟨a, ns, rfl, by rw [← q1.bls]; exact h1, p.bl R hg⟩
    · exact hg.elim
  · exact hg.elim
def gAny : G1 := gBls fun bs => bs.any id
@[simp ↓] theorem gAny_eq : gAny = (gBls fun bs => bs.any id) := id rfl
def gAll : G1 := gBls fun bs => bs.all id
@[simp ↓] theorem gAll_eq : gAll = (gBls fun bs => bs.all id) := id rfl
/-- list(xs), tuple(xs) -/
def gList : G1 := fun h x q => ∃ xs, seqC h x = some xs ∧ q (.own xs)
@[simp ↓] theorem gList_eq  (h : Hs) (x : SV) (q : SV → Prop) : gList  h x q = (∃ xs, seqC h x = some xs ∧ q (.own xs)) := id rfl
def gTuple : G1 := fun h x q => ∃ xs, seqC h x = some xs ∧ q (.val (.tup xs))
@[simp ↓] theorem gTuple_eq  (h : Hs) (x : SV) (q : SV → Prop) : gTuple  h x q = (∃ xs, seqC h x = some xs ∧ q (.val (.tup xs))) := id rfl
theorem us_tuple {K : PySem.W.Frag} : UnS K (fun x H Q => ∃ p ys, [x] = [V.ref p] ∧ ((SqL K H p ys ∧ ∀ l, H l = none → Q (.ref l) (upd H l (.tup ys))) ∨ (SqT K H p ys ∧ Q (.ref p) H))) gTuple := fun C m σ H env h x sx q Q' eK R rx ⟨xs, e, hq⟩ p => by
  subst eK
  by_cases t : sx.isT = true
  · cases sx with
    | val pv => cases pv with
      | tup ys =>
        cases e
        cases rx with
        | tup ha qa => exact ⟨_, _, rfl, .inr ⟨ha.sq, p.at R (.tup ha qa) hq⟩⟩
      | _ => cases t
    | _ => cases t
  · obtain ⟨a, vs, rfl, h1, q1⟩ := R.seqL rx e (notT (by simpa using t))
    exact ⟨a, vs, rfl, .inl ⟨h1, fun l n => p.newT R q1 hq n⟩⟩
def gOrd : G1 := fun _ x q => match x with
  | .val (.str z) => z.length = 1 ∧ q (.val (.int (z.cps.getD 0 0 : Nat)))
  | _ => False
@[simp ↓] theorem gOrd_eq  (u0 : Hs) (x : SV) (q : SV → Prop) : gOrd  u0 x q = (match x with
  | .val (.str z) => z.length = 1 ∧ q (.val (.int (z.cps.getD 0 0 : Nat)))
  | _ => False) := id rfl
/-- isinstance of a value and a built-in type -/
inductive Kd where
  | non | bl | int | str | tup | lst | dict
  deriving DecidableEq
def Kd.name : Kd → String
  | .non => "NoneType" | .bl => "bool" | .int => "int" | .str => "str" | .tup => "tuple" | .lst => "list" | .dict => "dict"
@[simp] def Kd.is (k t : Kd) : Bool := decide (k = t) || (decide (k = .bl) && decide (t = .int))
def SV.kd (h : Hs) : SV → Option Kd
  | .val .non => some .non
  | .val (.bl _) => some .bl
  | .val (.int _) => some .int
  | .val (.str _) => some .str
  | .val (.tup _) => some .tup
  | .val (.lst _) => some .lst
  | .val (.ref n) => match h[n]? with
    | some (.lst _) => some .lst
    | some (.dK _) => some .dict
    | some (.dT _) => some .dict
    | _ => none
  | .own _ => some .lst
  | .brw _ => some .lst
  | .scr _ => none
  | .exc _ _ => none
def dIsi (t : Kd) (a : DE) : DE := fun env h Q E => a env h (fun x h1 => match x.kd h1 with
  | some k => t ≠ .non ∧ Q (.val (.bl (k.is t))) h1
  | none => False) E
@[simp ↓] theorem dIsi_eq (t : Kd) (a : DE) (env : Env) (h : Hs) (Q : VQ) (E : XQ) : dIsi t a env h Q E = (a env h (fun x h1 => match x.kd h1 with
  | some k => t ≠ .non ∧ Q (.val (.bl (k.is t))) h1
  | none => False) E) := id rfl
/-! ### lists of one's own and cells change -/
section
variable {K : PySem.W.Frag} {W : WX}
theorem CellR.lstC {C : Ctx} {m : List Addr} {σ : St} {env : Env} {H : Hp} {h : Hs} {n : Nat} {a : Addr} {vs : List V} {ys : List PV} (R : Rel C m σ H env h) (e0 : m[n]? = some a) (r : RepL C.K (ExOf C σ env m) m H vs ys) : CellR C.K (ExOf C σ env m) m (upd H a (.lst vs)) a (.lst ys) := by
  have am : a ∈ m := List.mem_of_getElem? e0
  refine ⟨vs, upd_same, RepL.mono (fun b u e q => ⟨by rw [upd_ne fun z => q (by rw [z]; exact .inr (.inr am))]; exact e, q⟩) ⟨[], by simp⟩ r⟩
theorem Rel.owned {C : Ctx} {m : List Addr} {σ : St} {env : Env} {H : Hp} {h : Hs} {i : Nat} {xs : List PV} (R : Rel C m σ H env h) (e0 : env[i]? = some (some (.own xs))) : ∃ a vs, σ[i]? = some (some (.ref a)) ∧ H a = some (.lst vs) ∧ RepL C.K (ExOf C σ env m) m H vs xs := by
  obtain ⟨v0, s0, ⟨a, vs, rfl, ha, h0, nm, q0⟩, _⟩ := R.slot i _ e0
  exact ⟨a, vs, s0, ha, RepL.mono (Kp.le fun b q => .inl q) ⟨[], by simp⟩ q0⟩
theorem Rel.cellAt {C : Ctx} {m : List Addr} {σ : St} {env : Env} {H : Hp} {h : Hs} {n : Nat} {v : V} {c : Cell} {Ex : Ad} (R : Rel C m σ H env h) (r : Rep C.K Ex m H v (.ref n)) (e : h[n]? = some c) : ∃ a, v = .ref a ∧ m[n]? = some a ∧ CellR C.K (ExOf C σ env m) m H a c := by
  cases r with
  | ref hn => exact ⟨_, rfl, hn, R.hm.at_ n _ c hn e⟩
/-- x.append(e), x a name that holds a list of its own -/
def sAppV (i : Nat) (e : DE) : DS := fun D env h => match env[i]? with
  | some (some (.own xs)) => e env h (fun y h1 => match y.toVal with
      | some p => xs.length < sizeLine ∧ D.nx (env.set i (some (.own (xs ++ [p])))) h1
      | none => False) fun c h1 => D.ex c env h1
  | _ => False
@[simp ↓] theorem sAppV_eq (i : Nat) (e : DE) (D : DEnds) (env : Env) (h : Hs) : sAppV i e D env h = (match env[i]? with
  | some (some (.own xs)) => e env h (fun y h1 => match y.toVal with
      | some p => xs.length < sizeLine ∧ D.nx (env.set i (some (.own (xs ++ [p])))) h1
      | none => False) fun c h1 => D.ex c env h1
  | _ => False) := id rfl
/-- o.append(e), o a cell -/
def sAppE (o e : DE) : DS := fun D env h => o env h (fun x h1 => match x with
  | .val (.ref n) => (∃ ys, h1[n]? = some (.lst ys)) ∧ e env h1 (fun y h2 => match y.toVal with
      | some p => ∃ xs, h2[n]? = some (.lst xs) ∧ xs.length < sizeLine ∧ D.nx env (h2.set n (.lst (xs ++ [p])))
      | none => False) fun c h2 => D.ex c env h2
  | _ => False) fun c h1 => D.ex c env h1
@[simp ↓] theorem sAppE_eq (o e : DE) (D : DEnds) (env : Env) (h : Hs) : sAppE o e D env h = (o env h (fun x h1 => match x with
  | .val (.ref n) => (∃ ys, h1[n]? = some (.lst ys)) ∧ e env h1 (fun y h2 => match y.toVal with
      | some p => ∃ xs, h2[n]? = some (.lst xs) ∧ xs.length < sizeLine ∧ D.nx env (h2.set n (.lst (xs ++ [p])))
      | none => False) fun c h2 => D.ex c env h2
  | _ => False) fun c h1 => D.ex c env h1) := id rfl
theorem ss_appE {to te : TE} {fo fe : DE} (ho : SE K W to fo) (he : SE K W te fe) : SS K W (tDrop (tBM K "list" rAppend to (tCons te tNil))) (sAppE fo fe) := ⟨fun C m σ H env h Df D eK R hf p => by
  refine ho.run C m σ H env h _ _ _ eK R hf (fun m1 x H1 sx h1 S1 R1 r1 q1 => ?_) p.px
  split at q1
  · rename_i n
    obtain ⟨⟨ys, e0⟩, q1⟩ := q1
    obtain ⟨a, rfl, ea, vs, hv, _⟩ := R1.cellAt r1 e0
    refine ⟨.inl ⟨rfl, vs, .inl (.inl hv)⟩, ?_⟩
    refine he.run C m1 σ H1 env h1 _ _ _ eK R1 q1 (fun m2 y H2 sy h2 S2 R2 r2 q2 => ?_) p.px
    split at q2
    · rename_i pv ep
      obtain ⟨xs, e2, l, q2⟩ := q2
      have ea2 : m2[n]? = some a := by
        obtain ⟨ms, rfl, _⟩ := S2.ext
        rw [List.getElem?_append_left (List.getElem?_eq_some_iff.mp ea).1]
        exact ea
      obtain ⟨vs2, hv2, rl⟩ := R2.drop.hm.at_ n a _ ea2 e2
      have ry := R1.toVal r2 ep
      obtain ⟨_, R3⟩ := R2.drop.mutCell ea2 (List.getElem?_eq_some_iff.mp e2).1 (CellR.lstC R2.drop ea2 (rl.append (.cons ry .nil)))
      exact ⟨a, vs2, y, rfl, rfl, hv2, by rw [rl.length]; exact l, p.nx m2 σ _ env _ R3 q2⟩
    · exact q2.elim
  · exact q1.elim⟩
/-- x[i] = e, x a name that holds a list of its own -/
def sSetV (k : Nat) (i e : DE) : DS := fun D env h => e env h (fun y h1 => match y.toVal with
  | some p => match env[k]? with
    | some (some (.own xs)) => i env h1 (fun j h2 => match j with
        | .val (.int z) => ∃ n, ixN xs.length z = some n ∧ D.nx (env.set k (some (.own (xs.set n p)))) h2
        | _ => False) fun c h2 => D.ex c env h2
    | _ => False
  | none => False) fun c h1 => D.ex c env h1
@[simp ↓] theorem sSetV_eq (k : Nat) (i e : DE) (D : DEnds) (env : Env) (h : Hs) : sSetV k i e D env h = (e env h (fun y h1 => match y.toVal with
  | some p => match env[k]? with
    | some (some (.own xs)) => i env h1 (fun j h2 => match j with
        | .val (.int z) => ∃ n, ixN xs.length z = some n ∧ D.nx (env.set k (some (.own (xs.set n p)))) h2
        | _ => False) fun c h2 => D.ex c env h2
    | _ => False
  | none => False) fun c h1 => D.ex c env h1) := id rfl
theorem ss_setV {ti te : TE} {fi fe : DE} (k : Nat) (hi : SE K W ti fi) (he : SE K W te fe) : SS K W (tAsg te (L2.gSub (tVar k) ti rSetL)) (sSetV k fi fe) := ⟨fun C m σ H env h Df D eK R hf p => by
  refine he.run C m σ H env h _ _ _ eK R hf (fun m1 y H1 sy h1 S1 R1 r1 q1 => ?_) p.px
  split at q1
  · rename_i pv ep
    split at q1
    · rename_i xs e0
      obtain ⟨a, vs, s0, ha, _⟩ := R1.drop.owned e0
      have ry := R.toVal r1 ep
      refine ⟨_, s0, ?_⟩
      refine hi.run C m1 σ H1 env h1 _ _ _ eK R1.drop q1 (fun m2 j H2 sj h2 S2 R2 r2 q2 => ?_) p.px
      split at q2
      · obtain ⟨n, en, q2⟩ := q2
        cases r2
        obtain ⟨a2, vs2, s2, ha2, rl⟩ := R2.drop.owned e0
        rw [s0] at s2
        cases s2
        have ry2 : Rep C.K (ExOf C σ env m2) m2 H2 y pv := Rep.mono (R1.drop.kp S2) S2.ex' ry
        refine ⟨a, vs2, _, n, rfl, rfl, ha2, by rw [rl.length]; exact en, ?_⟩
        exact p.nx m2 σ _ _ h2 (R2.drop.mutOwn e0 s0 (rl.set n ry2)) q2
      · exact q2.elim
    · exact q1.elim
  · exact q1.elim⟩
/-- o[i] = e, o a cell -/
def sSetE (o i e : DE) : DS := fun D env h => e env h (fun y h1 => match y.toVal with
  | some p => o env h1 (fun x h2 => match x with
      | .val (.ref n) => i env h2 (fun j h3 => match j with
          | .val (.int z) => ∃ xs k, h3[n]? = some (.lst xs) ∧ ixN xs.length z = some k ∧ D.nx env (h3.set n (.lst (xs.set k p)))
          | _ => False) fun c h3 => D.ex c env h3
      | _ => False) fun c h2 => D.ex c env h2
  | none => False) fun c h1 => D.ex c env h1
@[simp ↓] theorem sSetE_eq (o i e : DE) (D : DEnds) (env : Env) (h : Hs) : sSetE o i e D env h = (e env h (fun y h1 => match y.toVal with
  | some p => o env h1 (fun x h2 => match x with
      | .val (.ref n) => i env h2 (fun j h3 => match j with
          | .val (.int z) => ∃ xs k, h3[n]? = some (.lst xs) ∧ ixN xs.length z = some k ∧ D.nx env (h3.set n (.lst (xs.set k p)))
          | _ => False) fun c h3 => D.ex c env h3
      | _ => False) fun c h2 => D.ex c env h2
  | none => False) fun c h1 => D.ex c env h1) := id rfl
theorem ss_setE {to ti te : TE} {fo fi fe : DE} (ho : SE K W to fo) (hi : SE K W ti fi) (he : SE K W te fe) : SS K W (tAsg te (L2.gSub to ti rSetL)) (sSetE fo fi fe) := ⟨fun C m σ H env h Df D eK R hf p => by
  refine he.run C m σ H env h _ _ _ eK R hf (fun m1 y H1 sy h1 S1 R1 r1 q1 => ?_) p.px
  split at q1
  · rename_i pv ep
    have ry := R.toVal r1 ep
    refine ho.run C m1 σ H1 env h1 _ _ _ eK R1.drop q1 (fun m2 x H2 sx h2 S2 R2 r2 q2 => ?_) p.px
    split at q2
    · rename_i n
      refine hi.run C m2 σ H2 env h2 _ _ _ eK R2 q2 (fun m3 j H3 sj h3 S3 R3 r3 q3 => ?_) p.px
      split at q3
      · obtain ⟨xs, k, e3, ek, q3⟩ := q3
        cases r3
        have rx : Rep C.K (ExOf C σ env m3) m3 H3 x (.ref n) := Rep.mono (R2.kp S3) S3.ex' r2
        obtain ⟨a, rfl, ea, vs, hv, rl⟩ := R3.cellAt rx e3
        have ry3 : Rep C.K (ExOf C σ env m3) m3 H3 y pv := Rep.mono (R1.drop.kp (S2.trans S3)) (S2.trans S3).ex' ry
        obtain ⟨_, R4⟩ := R3.mutCell ea (List.getElem?_eq_some_iff.mp e3).1 (CellR.lstC R3 ea (rl.set k ry3))
        exact ⟨a, vs, _, k, rfl, rfl, hv, by rw [rl.length]; exact ek, p.nx m3 σ _ env _ R4 q3⟩
      · exact q3.elim
    · exact q2.elim
  · exact q1.elim⟩
/-- a new list goes into a cell -/
def dAlloc (a : DE) : DE := fun env h Q E => a env h (fun x h1 => match x with
  | .own xs => Q (.val (.ref h1.length)) (h1 ++ [.lst xs])
  | _ => False) E
@[simp ↓] theorem dAlloc_eq (a : DE) (env : Env) (h : Hs) (Q : VQ) (E : XQ) : dAlloc a env h Q E = (a env h (fun x h1 => match x with
  | .own xs => Q (.val (.ref h1.length)) (h1 ++ [.lst xs])
  | _ => False) E) := id rfl
theorem se_alloc {ta : TE} {fa : DE} (ha : SE K W ta fa) : SE K W ta (dAlloc fa) := ⟨fun C m σ H env h Q E Q' eK R hf p px => by
  refine ha.run C m σ H env h _ E _ eK R hf (fun m1 x H1 sx h1 S1 R1 r1 q1 => ?_) px
  split at q1
  · rename_i xs
    obtain ⟨a, vs, rfl, hv, na, nm, q⟩ := r1
    have n0 : C.H0 a = none := by
      cases e : C.H0 a with
      | none => rfl
      | some o => exact absurd na (R.dom a (by rw [e]; simp))
    have R2 := R1.alloc hv nm n0 (fun g => R.gdom a g na) q
    refine p (m1 ++ [a]) _ H1 (.val (.ref h1.length)) _ ⟨S1.keep, S1.dom, ?_⟩ R2 (.ref ?_) q1
    · obtain ⟨ms, rfl, hn⟩ := S1.ext
      refine ⟨ms ++ [a], by simp, fun b hb => ?_⟩
      rcases List.mem_append.mp hb with z | z
      · exact hn b z
      · rw [List.mem_singleton.mp z]
        exact na
    · rw [← R1.hm.len]
      simp
  · exact q1.elim⟩
/-- a new list becomes a value -/
def dFrz (a : DE) : DE := fun env h Q E => a env h (fun x h1 => match x.toVal with
  | some p => Q (.val p) h1
  | none => False) E
@[simp ↓] theorem dFrz_eq (a : DE) (env : Env) (h : Hs) (Q : VQ) (E : XQ) : dFrz a env h Q E = (a env h (fun x h1 => match x.toVal with
  | some p => Q (.val p) h1
  | none => False) E) := id rfl
end
section
variable (h : Hs) (b : Bool) (i : Int) (z : Str) (xs : List PV) (ns : List Int) (n : Nat)
@[simp] theorem kd_non : (SV.val .non).kd h = some .non := rfl
@[simp] theorem kd_bl : (SV.val (.bl b)).kd h = some .bl := rfl
@[simp] theorem kd_int : (SV.val (.int i)).kd h = some .int := rfl
@[simp] theorem kd_str : (SV.val (.str z)).kd h = some .str := rfl
@[simp] theorem kd_tup : (SV.val (.tup xs)).kd h = some .tup := rfl
@[simp] theorem kd_lst : (SV.val (.lst xs)).kd h = some .lst := rfl
@[simp] theorem kd_own : (SV.own xs).kd h = some .lst := rfl
@[simp] theorem kd_brw : (SV.brw xs).kd h = some .lst := rfl
@[simp] theorem tru_non : (SV.val .non).tru h = some false := rfl
@[simp] theorem tru_bl : (SV.val (.bl b)).tru h = some b := rfl
@[simp] theorem tru_int : (SV.val (.int i)).tru h = some (i != 0) := rfl
@[simp] theorem tru_tup : (SV.val (.tup xs)).tru h = some (!xs.isEmpty) := rfl
@[simp] theorem tru_lst : (SV.val (.lst xs)).tru h = some (!xs.isEmpty) := rfl
@[simp] theorem tru_own : (SV.own xs).tru h = some (!xs.isEmpty) := rfl
@[simp] theorem tru_brw : (SV.brw xs).tru h = some (!xs.isEmpty) := rfl
@[simp] theorem listC_lst : listC h (.val (.lst xs)) = some xs := rfl
@[simp] theorem listC_own : listC h (.own xs) = some xs := rfl
@[simp] theorem listC_brw : listC h (.brw xs) = some xs := rfl
@[simp] theorem listC_tup : listC h (.val (.tup xs)) = none := rfl
@[simp] theorem listC_int : listC h (.val (.int i)) = none := rfl
@[simp] theorem seqC_lst : seqC h (.val (.lst xs)) = some xs := rfl
@[simp] theorem seqC_own : seqC h (.own xs) = some xs := rfl
@[simp] theorem seqC_brw : seqC h (.brw xs) = some xs := rfl
@[simp] theorem seqC_tup : seqC h (.val (.tup xs)) = some xs := rfl
@[simp] theorem seqC_scr : seqC h (.scr ns) = some (ns.map .int) := rfl
theorem seqC_ref {c : List PV} (e : h[n]? = some (.lst c)) : seqC h (.val (.ref n)) = some c := by simp [seqC, listC, e]
@[simp] theorem pv_non : (SV.val .non).pv h = some .non := rfl
@[simp] theorem pv_bl : (SV.val (.bl b)).pv h = some (.bl b) := rfl
@[simp] theorem pv_int : (SV.val (.int i)).pv h = some (.int i) := rfl
@[simp] theorem pv_str : (SV.val (.str z)).pv h = some (.str z) := rfl
@[simp] theorem pv_tup : (SV.val (.tup xs)).pv h = some (.tup xs) := rfl
@[simp] theorem pv_lst : (SV.val (.lst xs)).pv h = some (.lst xs) := rfl
@[simp] theorem pv_own : (SV.own xs).pv h = some (.lst xs) := rfl
@[simp] theorem pv_brw : (SV.brw xs).pv h = some (.lst xs) := rfl
end
end PM

namespace PM
open PySem PySem.Spec L2
open PyProof.Rows hiding St

/-! ### a piece of syntax and its denotation -/
section
variable (K : PySem.W.Frag) (W : WX)
def tE (f : DE) : TE := fun σ H Q' => ∃ (C : Ctx) (m : List Addr) (env : Env) (h : Hs) (Q : VQ) (E : XQ), C.K = K ∧ Rel C m σ H env h ∧ f env h Q E ∧ PostE C m σ H env Q Q' ∧ PostX W C m σ H env E
def tT (f : DT) : TT := fun σ H Q' => ∃ (C : Ctx) (m : List Addr) (env : Env) (h : Hs) (Q : Bool → Hs → Prop) (E : XQ), C.K = K ∧ Rel C m σ H env h ∧ f env h Q E ∧ (∀ m' b H' h', StE m H m' H' → Rel C m' σ H' env h' → Q b h' → Q' b H') ∧ PostX W C m σ H env E
def tA (f : DA) : TA := fun σ H Q' => ∃ (C : Ctx) (m : List Addr) (env : Env) (h : Hs) (Q : List SV → Hs → Prop) (E : XQ), C.K = K ∧ Rel C m σ H env h ∧ f env h Q E ∧
  (∀ m' vs H' svs h', StE m H m' H' → Rel (C.owns vs svs) m' σ H' env h' → Paired (RepS C (ExOf C σ env m') m' (fun a => H a = none) H') vs svs → Q svs h' → Q' vs H') ∧ PostX W C m σ H env E
def tI (f : DI) : TI := fun σ H Q' => ∃ (C : Ctx) (m : List Addr) (env : Env) (h : Hs) (Q : List PV → (Hs → Prop) → Hs → Prop) (E : XQ), C.K = K ∧ Rel C m σ H env h ∧ f env h Q E ∧
  (∀ C' m' J H' xs chk h', CtxLe C C' → StE m H m' H' → Rel C' m' σ H' env h' → ItOk C' J xs chk → Q xs chk h' → Q' J H') ∧ PostX W C m σ H env E
def tK (f : DE) : TE := fun σ H Q' => ∃ (C : Ctx) (m : List Addr) (env : Env) (h : Hs) (Q : VQ) (E : XQ), C.K = K ∧ Rel C m σ H env h ∧ f env h Q E ∧
  (∀ C' m' v H' sv h', CtxLe C C' → StE m H m' H' → Rel C' m' σ H' env h' → (v, sv) ∈ C'.pins → Q sv h' → Q' v H') ∧ PostX W C m σ H env E
def tO (f : DO) : TO := fun σ H Q' => ∃ (C : Ctx) (m : List Addr) (env : Env) (h : Hs) (Q : Option Int → Hs → Prop) (E : XQ), C.K = K ∧ Rel C m σ H env h ∧ f env h Q E ∧ (∀ m' o H' h', StE m H m' H' → Rel C m' σ H' env h' → Q o h' → Q' o H') ∧ PostX W C m σ H env E
def tS (f : DS) : TS := fun D σ H => ∃ (C : Ctx) (m : List Addr) (env : Env) (h : Hs) (Df : DEnds), C.K = K ∧ Rel C m σ H env h ∧ f Df env h ∧ EndsOk W C Df D
end
section
variable {K : PySem.W.Frag} {W : WX}
theorem seE {f : DE} : SE K W (tE K W f) f := ⟨fun C m σ H env h Q E Q' eK R hf p px => ⟨C, m, env, h, Q, E, eK, R, hf, p, px⟩⟩
theorem stT {f : DT} : ST K W (tT K W f) f := ⟨fun C m σ H env h Q E Q' eK R hf p px => ⟨C, m, env, h, Q, E, eK, R, hf, p, px⟩⟩
theorem saA {f : DA} : SA K W (tA K W f) f := ⟨fun C m σ H env h Q E Q' eK R hf p px => ⟨C, m, env, h, Q, E, eK, R, hf, p, px⟩⟩
theorem siI {f : DI} : SI K W (tI K W f) f := ⟨fun C m σ H env h Q E Q' eK R hf p px => ⟨C, m, env, h, Q, E, eK, R, hf, p, px⟩⟩
theorem skK {f : DE} : SKp K W (tK K W f) f := ⟨fun C m σ H env h Q E Q' eK R hf p px => ⟨C, m, env, h, Q, E, eK, R, hf, p, px⟩⟩
theorem soO {f : DO} : SO K W (tO K W f) f := ⟨fun C m σ H env h Q E Q' eK R hf p px => ⟨C, m, env, h, Q, E, eK, R, hf, p, px⟩⟩
theorem ssS {f : DS} : SS K W (tS K W f) f := ⟨fun C m σ H env h Df D eK R hf p => ⟨C, m, env, h, Df, eK, R, hf, p⟩⟩
end
section
variable (X : Cx) (W : WX)
def PEd (e : Expr) (f : DE) : Prop := PE X e (tE X.K W f)
def PTd (e : Expr) (f : DT) : Prop := PT X e (tT X.K W f)
def PWd (e : Expr) (f : DT) : Prop := PW X e (tT X.K W f)
def PTsd (es : List Expr) (f : DT) : Prop := PTs X es (tT X.K W f)
def PAd (es : List Expr) (f : DA) : Prop := PA X es (tA X.K W f)
def PId (tg e : Expr) (f : DI) : Prop := PI X tg e (tI X.K W f)
def PKd (e : Expr) (f : DE) : Prop := PE X e (tK X.K W f)
def POd (e : Option Expr) (f : DO) : Prop := PO X e (tO X.K W f)
def PSd (s : Stmt) (f : DS) : Prop := PS X s (tS X.K W f)
def PSsd (s : List Stmt) (f : DS) : Prop := PSs X s (tS X.K W f)
end
section
variable {X : Cx} {W : WX} {e : Expr} {t : TE} {f : DE}
theorem PEd.of (h : PE X e t) (s : SE X.K W t f) : PEd X W e f := ⟨fun pins st σ H Q I ⟨C, m, env, h', Qd, E, eK, R, hf, p, px⟩ => h.run pins st σ H Q I (s.run C m σ H env h' Qd E Q eK R hf p px)⟩
theorem PKd.of (h : PE X e t) (s : SKp X.K W t f) : PKd X W e f := ⟨fun pins st σ H Q I ⟨C, m, env, h', Qd, E, eK, R, hf, p, px⟩ => h.run pins st σ H Q I (s.run C m σ H env h' Qd E Q eK R hf p px)⟩
theorem PTd.of {t : TT} {f : DT} (h : PT X e t) (s : ST X.K W t f) : PTd X W e f := ⟨fun pins st σ H Q I ⟨C, m, env, h', Qd, E, eK, R, hf, p, px⟩ => h.run pins st σ H Q I (s.run C m σ H env h' Qd E Q eK R hf p px)⟩
theorem PWd.of {t : TT} {f : DT} (h : PW X e t) (s : ST X.K W t f) : PWd X W e f := ⟨fun wh pins st σ H Q I ⟨C, m, env, h', Qd, E, eK, R, hf, p, px⟩ => h.run wh pins st σ H Q I (s.run C m σ H env h' Qd E Q eK R hf p px)⟩
theorem PTsd.of {es : List Expr} {t : TT} {f : DT} (h : PTs X es t) (s : ST X.K W t f) : PTsd X W es f := ⟨fun pins st σ H Q I ⟨C, m, env, h', Qd, E, eK, R, hf, p, px⟩ => h.run pins st σ H Q I (s.run C m σ H env h' Qd E Q eK R hf p px)⟩
theorem PAd.of {es : List Expr} {t : TA} {f : DA} (h : PA X es t) (s : SA X.K W t f) : PAd X W es f := ⟨fun pos pins st σ H Q I ⟨C, m, env, h', Qd, E, eK, R, hf, p, px⟩ => h.run pos pins st σ H Q I (s.run C m σ H env h' Qd E Q eK R hf p px)⟩
theorem PId.of {tg : Expr} {t : TI} {f : DI} (h : PI X tg e t) (s : SI X.K W t f) : PId X W tg e f := ⟨fun pins st σ H Q I ⟨C, m, env, h', Qd, E, eK, R, hf, p, px⟩ => h.run pins st σ H Q I (s.run C m σ H env h' Qd E Q eK R hf p px)⟩
theorem POd.of {e : Option Expr} {t : TO} {f : DO} (h : PO X e t) (s : SO X.K W t f) : POd X W e f := ⟨fun pins st σ H Q I ⟨C, m, env, h', Qd, E, eK, R, hf, p, px⟩ => h.run pins st σ H Q I (s.run C m σ H env h' Qd E Q eK R hf p px)⟩
theorem PSd.of {st : Stmt} {t : TS} {f : DS} (h : PS X st t) (s : SS X.K W t f) : PSd X W st f := ⟨fun pins s' σ H D I ⟨C, m, env, h', Df, eK, R, hf, p⟩ => h.run pins s' σ H D I (s.run C m σ H env h' Df D eK R hf p)⟩
theorem PSsd.of {st : List Stmt} {t : TS} {f : DS} (h : PSs X st t) (s : SS X.K W t f) : PSsd X W st f := ⟨fun pins s' σ H D I ⟨C, m, env, h', Df, eK, R, hf, p⟩ => h.run pins s' σ H D I (s.run C m σ H env h' Df D eK R hf p)⟩
end

/-! ### the rules -/
section
variable {X : Cx} {W : WX} {a b c e : Expr} {fa fb fc fe : DE} {pos : Pos}
theorem pd_var (i : Nat) {x : Str} (hN : X.N[i]? = some x := by rfl) (hv : Vis X.env.scope x := by first | exact Or.inl rfl | exact Or.inr (Or.inl rfl) | exact Or.inr (Or.inr rfl)) (hd : (x == ("__debug__" : Str)) = false := by decide)
    (hcd : (x == ("__classdict__" : Str)) = false := by decide) : PEd X W (.Name x pos) (dVar i) := .of (pe_var hN hv hd hcd) (se_var i)
theorem pk_var (i : Nat) {x : Str} (hN : X.N[i]? = some x := by rfl) (hv : Vis X.env.scope x := by first | exact Or.inl rfl | exact Or.inr (Or.inl rfl) | exact Or.inr (Or.inr rfl)) (hd : (x == ("__debug__" : Str)) = false := by decide)
    (hcd : (x == ("__classdict__" : Str)) = false := by decide) : PKd X W (.Name x pos) (dKV i) := .of (pe_var hN hv hd hcd) (sk_v i)
theorem pk_e (h : PEd X W e fe) : PKd X W e (dKE fe) := .of h (sk_e seE)
theorem pd_int {i : Int} {j} : PEd X W (.Constant (.int i) j pos) (dC (.int i)) := .of pe_int se_int
theorem pd_bl {i : Bool} {j} : PEd X W (.Constant (.bool i) j pos) (dC (.bl i)) := .of pe_bl se_bl
theorem pd_non {j} : PEd X W (.Constant .none j pos) (dC .non) := .of pe_non se_non
theorem pd_str {i : Str} {j} : PEd X W (.Constant (.str i) j pos) (dC (.str i)) := .of pe_str se_str
/-- a constant of the module -/
structure GC (K : PySem.W.Frag) (mg : Str → Option Value) (x : Str) (p : PV) : Prop where
  at_ : ∃ (v : V) (u : Value), mg x = some u ∧ RelV v u ∧ ∀ Ex m H, Rep K Ex m H v p
theorem pd_glob {x : Str} {p : PV} (G : GC X.K X.mg x p) (hg : Gl X x := by rfl) (hd : (x == ("__debug__" : Str)) = false := by decide) : PEd X W (.Name x pos) (dC p) := by
  obtain ⟨v, u, hm, r, k⟩ := G.at_
  exact .of (pe_glob hg hm r hd) (se_c k)
theorem pd_add (ha : PEd X W a fa) (hb : PEd X W b fb) : PEd X W (.BinOp a .Add b pos) (dOp gAdd fa fb) := .of (pe_op op_addA ha hb) (se_op os_add seE seE)
theorem pd_sub (ha : PEd X W a fa) (hb : PEd X W b fb) : PEd X W (.BinOp a .Sub b pos) (dOp gSub fa fb) := .of (pe_op op_sub ha hb) (se_op os_sub seE seE)
theorem pd_fdiv (ha : PEd X W a fa) (hb : PEd X W b fb) : PEd X W (.BinOp a .FloorDiv b pos) (dOp gFdiv fa fb) := .of (pe_op op_fdivW ha hb) (se_op os_fdiv seE seE)
theorem pd_mod (ha : PEd X W a fa) (hb : PEd X W b fb) : PEd X W (.BinOp a .Mod b pos) (dOp gMod fa fb) := .of (pe_op op_mod ha hb) (se_op os_mod seE seE)
theorem pd_pow (ha : PEd X W a fa) (hb : PEd X W b fb) : PEd X W (.BinOp a .Pow b pos) (dOp gPow fa fb) := .of (pe_op op_pow ha hb) (se_op os_pow seE seE)
/-! comparisons: the operator's pair -/
structure CmpD (X : Cx) (op : CmpOp) (g : G2) : Prop where
  ok : ∃ r, OpR X (compareOp op) r ∧ OpS X.K r g
theorem cd_lt : CmpD X .Lt gLt := ⟨_, op_lt, os_lt⟩
theorem cd_le : CmpD X .LtE gLe := ⟨_, op_le, os_le⟩
theorem cd_gt : CmpD X .Gt gGt := ⟨_, op_gt, os_gt⟩
theorem cd_ge : CmpD X .GtE gGe := ⟨_, op_ge, os_ge⟩
theorem cd_eq (hu : X.A.units + 65 < cLine) : CmpD X .Eq gEq := ⟨_, op_eqD (by omega), os_eq⟩
theorem cd_ne (hu : X.A.units + 65 < cLine) : CmpD X .NotEq gNe := ⟨_, op_neD (by omega), os_ne⟩
theorem cd_in (hu : X.A.units + 65 < cLine) : CmpD X .In gIn := ⟨_, op_inAll hu, os_inAll⟩
theorem cd_notIn (hu : X.A.units + 65 < cLine) : CmpD X .NotIn gNotIn := ⟨_, op_notInAll hu, os_notInAll⟩
theorem cd_is : CmpD X .Is (gIsN false) := ⟨_, op_isN, os_isN⟩
theorem pd_cmp {op : CmpOp} {g : G2} (o : CmpD X op g) (ha : PEd X W a fa) (hb : PEd X W b fb) (hm : behindInMarks op b = false := by first | exact nobehind _ (by decide) (by decide) | rfl | with_unfolding_all rfl) : PEd X W (.Compare a [op] [b] pos) (dOp g fa fb) := by
  obtain ⟨r, h1, h2⟩ := o.ok
  exact .of (pe_cmpR h1 ha hb hm) (se_op h2 seE seE)
theorem ptd_cmp {op : CmpOp} {g : G2} (o : CmpD X op g) (ha : PEd X W a fa) (hb : PEd X W b fb) (hm : behindInMarks op b = false := by first | exact nobehind _ (by decide) (by decide) | rfl | with_unfolding_all rfl) : PTd X W (.Compare a [op] [b] pos) (dTst (dOp g fa fb)) := by
  obtain ⟨r, h1, h2⟩ := o.ok
  exact .of (pt_cmpR h1 ha hb hm) (st_tst (se_op h2 seE seE))
/-! tests -/
theorem ptd_tru (h : PEd X W e fe) (he : ∀ whole, isTrue e X.env whole = (do let v ← whole; standAt e.pos; holding [v] (truthy v)) := by intro _; rfl) : PTd X W e (dTru fe) := .of (pt_truth h he) (st_tru seE)
variable {ta tb : DT} {rest : List Expr}
theorem pwd_and1 (ha : PTd X W a ta) : PWd X W (.BoolOp .And [a] pos) ta := .of (pw_and1 ha) stT
theorem pwd_or1 (ha : PTd X W a ta) : PWd X W (.BoolOp .Or [a] pos) ta := .of (pw_or1 ha) stT
theorem pwd_and (ha : PTd X W a ta) (hb : PWd X W (.BoolOp .And (b :: rest) pos) tb) : PWd X W (.BoolOp .And (a :: b :: rest) pos) (dAnd ta tb) := .of (pw_and ha hb) (st_and stT stT)
theorem pwd_or (ha : PTd X W a ta) (hb : PWd X W (.BoolOp .Or (b :: rest) pos) tb) : PWd X W (.BoolOp .Or (a :: b :: rest) pos) (dOr ta tb) := .of (pw_or ha hb) (st_or stT stT)
theorem PWd.pt (h : PWd X W e ta) : PTd X W e ta := PW.pt h
theorem ptd_not (ha : PTd X W a ta) : PTd X W (.UnaryOp .Not a pos) (dNot ta) := .of (pt_not ha) (st_not stT)
/-! .. as values -/
theorem pd_one {op} (h : PEd X W a fa) : PEd X W (.BoolOp op [a] pos) fa := .of (pe_one h) seE
theorem pd_and (ha : PEd X W a fa) (hb : PEd X W (.BoolOp .And (b :: rest) pos) fb) : PEd X W (.BoolOp .And (a :: b :: rest) pos) (dAndV fa fb) := .of (pe_and ha hb) (se_and seE seE)
theorem pd_not (ha : PEd X W a fa) : PEd X W (.UnaryOp .Not a pos) (dNotV fa) := .of (pe_not ha) (se_not seE)
/-! displays, items, slices -/
variable {es : List Expr} {fs : DA}
theorem pad_nil : PAd X W [] dNil := .of pa_nil sa_nil
theorem pad_cons (ha : PEd X W e fe) (hr : PAd X W es fs) (hs : starEach (e :: es) X.env = (false, eval e X.env) :: starEach es X.env := by rfl) : PAd X W (e :: es) (dCons fe fs) := .of (pa_cons ha hr hs) (sa_cons seE saA)
theorem pd_tup {x1} (h : PAd X W es fs) : PEd X W (.Tuple es x1 pos) (dTup fs) := .of (pe_tup h) (se_tup saA)
theorem pd_lst (h : PAd X W es fs) : PEd X W (.List es pos) (dLst fs) := .of (pe_lst h) (se_lst saA)
theorem pd_ix (ha : PEd X W a fa) (hb : PEd X W b fb) (hs : PlainIx b := by exact fun _ _ => rfl) : PEd X W (.Subscript a b pos) (dOp gIx fa fb) := .of (pe_ix ix_seq ha hb hs) (se_op os_ix seE seE)
variable {lo hi : Option Expr} {fl fh : DO} {p2 : Pos}
theorem pod_none : POd X W none dNoPart := .of po_none so_none
theorem pod_some (h : PEd X W e fe) : POd X W (some e) (dPart fe) := .of (po_some h) (so_some seE)
theorem pd_sl (he : PEd X W e fe) (hl : POd X W lo fl) (hh : POd X W hi fh) : PEd X W (.Subscript e (.Slice lo hi none p2) pos) (dSl fe fl fh) := .of (pe_slice sl_all he hl hh) (se_sl seE soO soO)
theorem pd_alloc (h : PEd X W e fe) : PEd X W e (dAlloc fe) := .of h (se_alloc seE)
/-! what is walked -/
variable {tg : Expr}
theorem pid_it (h : PKd X W e fe) : PId X W tg e (dIt fe) := .of (pi_seq h) (si_it skK)
theorem pid_rng1 {p : Pos} (hm : X.mg "range" = none) (ha : PEd X W a fa) (hg : Gl X "range" := by rfl) (hs : starEach [a] X.env = [(false, eval a X.env)] := by rfl) : PId X W tg (.Call (.Name "range" p) [a] [] pos) (dRng1 fa) :=
  .of (pi_range1 hg hm (pa_cons ha pa_nil hs) hs) (si_rng1 seE)
theorem pid_zip {p tpos : Pos} {elts : List Expr} {kk : Nat} (hm : X.mg "zip" = none) (ha : PKd X W a fa) (hb : PKd X W b fb) (hg : Gl X "zip" := by rfl) (hs : starEach [a, b] X.env = (false, eval a X.env) :: starEach [b] X.env := by rfl) (hs2 : starEach [b] X.env = (false, eval b X.env) :: starEach [] X.env := by rfl)
    (hpl : (backTo pos (starEach [b] X.env)).any (·.1) = false := by rfl) : PId X W (.Tuple elts kk tpos) (.Call (.Name "zip" p) [a, b] [] pos) (dZip fa fb) := .of (RZ.pi_zipA hg hm (pa_cons ha (pa_cons hb pa_nil hs2) hs) hs hpl) (si_zip skK skK)
theorem pid_enum {p tpos : Pos} {elts : List Expr} {kk : Nat} (hm : X.mg "enumerate" = none) (ha : PKd X W a fa) (hg : Gl X "enumerate" := by rfl) (hs : starEach [a] X.env = [(false, eval a X.env)] := by rfl) :
    PId X W (.Tuple elts kk tpos) (.Call (.Name "enumerate" p) [a] [] pos) (dEnum fa) := .of (pi_enum hg hm (pa_cons ha pa_nil hs) hs) (si_enum skK)
/-! comprehensions -/
structure PGd (X : Cx) (vs : List Nat) (tg : Expr) (f : DB) : Prop where
  ok : ∃ g, PG X tg g ∧ SG X.K vs g f
theorem pgd_name (i : Nat) {x : Str} (hN : X.N.Nodup) (hi : X.N[i]? = some x := by rfl) (hx : Loc X.env.scope x := by first | exact .inl rfl | exact .inr rfl) (hf : X.fn x = true ∨ X.env.scope.names.lookup x = some .local := by first | exact .inl rfl | exact .inr rfl | assumption) : PGd X [i] (.Name x pos) (bName i) :=
  ⟨_, pg_name hN hi hx hf, sg_name i⟩
theorem pgd_tup2 (i j : Nat) {x y : Str} {p q : Pos} {k : Nat} (hc : X.calm = true) (hN : X.N.Nodup) (hi : X.N[i]? = some x := by rfl) (hj : X.N[j]? = some y := by rfl) (hx : Loc X.env.scope x := by first | exact .inl rfl | exact .inr rfl) (hy : Loc X.env.scope y := by first | exact .inl rfl | exact .inr rfl)
    (hf : X.fn x = true ∨ X.env.scope.names.lookup x = some .local := by first | exact .inl rfl | exact .inr rfl | assumption) (hf2 : X.fn y = true ∨ X.env.scope.names.lookup y = some .local := by first | exact .inl rfl | exact .inr rfl | assumption) :
    PGd X [i, j] (.Tuple [.Name x p, .Name y q] k pos) (bTup2 i j) := ⟨_, pg_tup hc (pgs_cons (pg_name hN hi hx hf) (pgs_cons (pg_name hN hj hy hf2) pgs_nil)), sg_tup2 i j⟩
theorem ptsd_nil : PTsd X W [] dYes := .of pts_nil st_yes
theorem ptsd_one {t : DT} (h : PTd X W e t) : PTsd X W [e] t := .of (pts_one h) stT
/-- the rules of a block hold whatever the block's beginning: the context's parts of a block -/
abbrev BlkAll (X : Cx) (scope : Scope) (P : Cx → Prop) : Prop := ∀ (s : Shared) (H : Hp) (C : Addr) (cl : List (Str × Addr)) (fp : List Addr), P (X.blk s H scope (compEnvC scope cl C X.env) fp)
theorem PGd.all {scope : Scope} {tg : Expr} {vs : List Nat} {bd : DB} (h : BlkAll X scope fun Y => PGd Y vs tg bd) : ∃ g, (BlkAll X scope fun Y => PG Y tg g) ∧ SG X.K vs g bd := by
  refine ⟨fun x σ H Q => ∀ (s : Shared) (H0 : Hp) (C : Addr) (cl : List (Str × Addr)) (fp : List Addr), Classical.choose (h s H0 C cl fp).ok x σ H Q, fun s H0 C cl fp => ?_, ⟨fun C m σ H env h' x p q Q eK R r hf k s H0 C' cl fp => ?_⟩⟩
  · have z := (Classical.choose_spec (h s H0 C cl fp).ok).1
    exact ⟨fun pins s' σ H x u Q I r q => z.run pins s' σ H x u Q I r (q s H0 C cl fp)⟩
  · exact (Classical.choose_spec (h s H0 C' cl fp).ok).2.run C m σ H env h' x p q Q eK R r hf k
theorem pd_lc {elt iter : Expr} {ifs : List Expr} {scope : Scope} {own : List (Str × Nat)} {vs : List Nat} {fi : DI} {bd : DB} {ft : DT} (hc : X.calm = true) (hN : X.N.Nodup) (ok : BlkOk X.N X.env.scope scope own) (ev : own.map (·.2) = vs) (hi : PId X W tg iter fi)
    (hg : BlkAll X scope fun Y => PGd Y vs tg bd) (ht : BlkAll X scope fun Y => PTsd Y W0 ifs ft) (he : BlkAll X scope fun Y => PEd Y W0 elt fe) (hs : ∀ x, foldedSetIterable iter X.env x = pure x := by intro _; rfl) :
    PEd X W (.ListComp elt [⟨tg, iter, ifs, 0⟩] scope pos) (dLc fi vs bd ft fe) := by
  subst ev
  obtain ⟨g, h1, h2⟩ := PGd.all hg
  exact .of (pe_lc (tt := tT X.K W0 ft) (te := tE X.K W0 fe) hc hN hi ok h1 ht he hs) (se_lc siI h2 stT seE)
/-! calls -/
variable {x : Str} {p : Pos}
theorem pd_call {n k : Nat} {d : DF} {f : Addr} {fd : FuncData} {ps : List Str} (F : FnOk X.prog X.w X.K X.mg X.base CX0 k f fd ps (spD X.K n d)) (hr : Room k X.A) (hm : X.mg x = some (.ref f)) (hk : PySem.W.keepIn X.K (.ref f) = true) (hb : Binds X.K fd ps []) (ha : PAd X W (e :: es) fs)
    (hg : Gl X x := by rfl) (hdb : (x == ("__debug__" : Str)) = false := by decide) (he : starEach (e :: es) X.env = (false, eval e X.env) :: starEach es X.env := by rfl) (hpl : (backTo pos (starEach es X.env)).any (·.1) = false := by rfl) : PEd X W (.Call (.Name x p) (e :: es) [] pos) (dCall n d fs) :=
  .of (pe_call F hr hg hm hk hb .nil pass0 ha hdb he hpl) (se_call saA)
/-- a built-in that is called by its name -/
theorem pd_cb {id : String} {r : List V → Hp → VK → Prop} {g : GL} (cr : CallR X (.builtin id) r) (cs : CallS X.K r g) (hv : bootBuiltins x = some (.builtin id)) (hm : X.mg x = none) (ha : PAd X W (e :: es) fs) (hg : Gl X x := by rfl) (hn : x ≠ "__name__" := by decide) (hdb : (x == ("__debug__" : Str)) = false := by decide)
    (he : starEach (e :: es) X.env = (false, eval e X.env) :: starEach es X.env := by rfl) (hpl : (backTo pos (starEach es X.env)).any (·.1) = false := by rfl) : PEd X W (.Call (.Name x p) (e :: es) [] pos) (dB g fs) := .of (pe_callB cr hg hm hv ha hn hdb he hpl) (se_cb cs saA)
theorem pd_ct {id : String} {r : List V → Hp → VK → Prop} {g : GL} (cr : CallR X (.type id) r) (cs : CallS X.K r g) (hv : bootBuiltins x = some (.type id)) (hm : X.mg x = none) (ha : PAd X W (e :: es) fs) (hg : Gl X x := by rfl) (hn : x ≠ "__name__" := by decide) (hdb : (x == ("__debug__" : Str)) = false := by decide)
    (he : starEach (e :: es) X.env = (false, eval e X.env) :: starEach es X.env := by rfl) (hpl : (backTo pos (starEach es X.env)).any (·.1) = false := by rfl) : PEd X W (.Call (.Name x p) (e :: es) [] pos) (dB g fs) := .of (pe_callTy cr hg hm hv ha hn hdb he hpl) (se_cb cs saA)
end
/-! ### statements -/
section
variable {X : Cx} {W : WX} {a b c e o : Expr} {fa fb fc fe fo : DE} {pos : Pos} {st : Stmt} {rest : List Stmt} {f g : DS}
theorem psd_nil : PSsd X W [] sNil := .of pss_nil ss_nil
theorem psd_cons (h1 : PSd X W st f) (h2 : PSsd X W rest g) : PSsd X W (st :: rest) (sSeq f g) := .of (pss_cons h1 h2) (ss_seq ssS ssS)
theorem psd_one (h1 : PSd X W st f) : PSsd X W [st] f := .of (pss_one h1) ssS
theorem psd_frz (i : Nat) (h : PSd X W st f) : PSd X W st (sFrz i f) := .of h (ss_frz i ssS)
theorem psd_set (i : Nat) {x : Str} {pos' : Pos} (he : PEd X W e fe) (hN : X.N.Nodup) (hi : X.N[i]? = some x := by rfl) (hx : Loc X.env.scope x := by first | exact .inl rfl | exact .inr rfl) (hs : swapsWith e (some (.Name x pos')) pos.line X.env = pure false := by rfl)
    (hf : X.fn x = true ∨ X.env.scope.names.lookup x = some .local := by first | exact .inl rfl | exact .inr rfl | assumption) : PSd X W (.Assign [.Name x pos'] e pos) (sAsg i fe) := .of (ps_set hN hi hx he hs hf) (ss_asg i seE)
/-- y = [..] -/
theorem psd_setLc (i : Nat) {y : Str} {py : Pos} {elt tg iter : Expr} {ifs : List Expr} {scope : Scope} {own : List (Str × Nat)} {vs : List Nat} {spos : Pos} {fi : DI} {bd : DB} {ft : DT} (hc : X.calm = true) (hN : X.N.Nodup) (ok : BlkOk X.N X.env.scope scope own) (ev : own.map (·.2) = vs)
    (hsw : swapsWith (.ListComp elt [⟨tg, iter, ifs, 0⟩] scope pos) (some (.Name y py)) spos.line X.env = pure true) (hi : PId X W tg iter fi)
    (hg : BlkAll X scope fun Y => PGd Y vs tg bd) (ht : BlkAll X scope fun Y => PTsd Y W0 ifs ft) (he : BlkAll X scope fun Y => PEd Y W0 elt fe) (hy : X.N[i]? = some y := by rfl) (hyl : X.env.scope.names.lookup y = some .local := by rfl) (hs : ∀ x, foldedSetIterable iter X.env x = pure x := by intro _; rfl) :
    PSd X W (.Assign [.Name y py] (.ListComp elt [⟨tg, iter, ifs, 0⟩] scope pos) spos) (sAsg i (dLc fi vs bd ft fe)) := by
  subst ev
  obtain ⟨g, h1, h2⟩ := PGd.all hg
  exact .of (ps_setLc (tt := tT X.K W0 ft) (te := tE X.K W0 fe) hc hN hy hyl hsw hi ok h1 ht he hs) (ss_asg i (se_lc siI h2 stT seE))
theorem psd_expr (he : PEd X W e fe) (hs : swapsWith e none pos.line X.env = pure false := by rfl) : PSd X W (.Expr e pos) (sExpr fe) := .of (ps_expr he hs) (ss_expr seE)
theorem psd_ret (he : PEd X W e fe) : PSd X W (.Return (some e) pos) (sRet fe) := .of (ps_ret he) (ss_ret seE)
theorem psd_retN : PSd X W (.Return none pos) sRetN := .of ps_retN ss_retN
theorem psd_retV (i : Nat) {x : Str} {pos' : Pos} (hN : X.N[i]? = some x := by rfl) (hv : Vis X.env.scope x := by first | exact Or.inl rfl | exact Or.inr (Or.inl rfl) | exact Or.inr (Or.inr rfl)) (hd : (x == ("__debug__" : Str)) = false := by decide)
    (hcd : (x == ("__classdict__" : Str)) = false := by decide) : PSd X W (.Return (some (.Name x pos')) pos) (sRetV i) := .of (ps_ret (pe_var hN hv hd hcd)) (ss_retV i)
variable {fc' : DT} {s1 s2 : List Stmt}
theorem psd_if (hc : PTd X W c fc') (h1 : PSsd X W s1 f) (h2 : PSsd X W s2 g) : PSd X W (.If c s1 s2 pos) (sIf fc' f g) := .of (ps_if hc h1 h2) (ss_if stT ssS ssS)
theorem psd_pass : PSd X W (.Pass pos) sPass := .of ps_pass ss_pass
theorem psd_while (hp : PassesOwn (model X.prog X.w) X.A X.env X.xe) (hc : PTd X W c fc') (hb : PSsd X W s1 f) : PSd X W (.While c s1 [] pos) (sWhile fc' f) := .of (ps_while hp hc hb) (ss_while stT ssS)
theorem psd_for {tg iter : Expr} {vs : List Nat} {bd : DB} {fi : DI} (hp : PassesOwn (model X.prog X.w) X.A X.env X.xe) (hc : X.calm = true) (hi : PId X W tg iter fi) (hg : PGd X vs tg bd) (hb : PSsd X W s1 f) (hs : ∀ x, foldedSetIterable iter X.env x = pure x := by intro _; rfl) : PSd X W (.For tg iter s1 [] pos) (sFor fi bd f) := by
  obtain ⟨g, h1, h2⟩ := hg.ok
  exact .of (ps_for hp hc hi h1 hb hs) (ss_for siI h2 ssS)
/-! lists change -/
variable {apos cpos : Pos}
theorem pe_app {to : TE} {t : TA} (ho : PE X o to) (ha : PA X [e] t) (hbase : attributeBase o "append" X.env (eval o X.env) = eval o X.env := by rfl)
    (hfew : ((backTo cpos (starEach [e] X.env)).all (fun x => !x.1) && (backToKw cpos (keywordEach [] X.env)).all (fun x => x.1.isSome) && decide (([e] : List Expr).length + ([] : List Keyword).length + (if ([] : List Keyword).isEmpty then 0 else 1) < 30)) = true := by rfl)
    (hline : (apos.endLine == cpos.line) = true := by rfl) (hs : starEach [e] X.env = (false, eval e X.env) :: starEach [] X.env := by rfl) (hplain : (backTo cpos (starEach [] X.env)).any (·.1) = false := by rfl) :
    PE X (.Call (.Attribute o "append" apos) [e] [] cpos) (tBM X.K "list" rAppend to t) := pe_bm PySem.F.plainAttrs_list PySem.F.slot_list_append PySem.F.type_list_append mt_append ho ha hbase hfew hline hs hplain
theorem psd_appE (ho : PEd X W o fo) (he : PEd X W e fe) (hbase : attributeBase o "append" X.env (eval o X.env) = eval o X.env := by rfl)
    (hfew : ((backTo cpos (starEach [e] X.env)).all (fun x => !x.1) && (backToKw cpos (keywordEach [] X.env)).all (fun x => x.1.isSome) && decide (([e] : List Expr).length + ([] : List Keyword).length + (if ([] : List Keyword).isEmpty then 0 else 1) < 30)) = true := by rfl)
    (hline : (apos.endLine == cpos.line) = true := by rfl) (hs : starEach [e] X.env = (false, eval e X.env) :: starEach [] X.env := by rfl) (hplain : (backTo cpos (starEach [] X.env)).any (·.1) = false := by rfl)
    (hsw : swapsWith (.Call (.Attribute o "append" apos) [e] [] cpos) none pos.line X.env = pure false := by rfl) :
    PSd X W (.Expr (.Call (.Attribute o "append" apos) [e] [] cpos) pos) (sAppE fo fe) := .of (ps_expr (pe_app ho (pa_cons he pa_nil hs) hbase hfew hline hs hplain) hsw) (ss_appE seE seE)
variable {i : Expr} {fi : DE}
theorem psd_setV (k : Nat) {x : Str} {p tpos : Pos} (hi : PEd X W i fi) (he : PEd X W e fe) (hN : X.N[k]? = some x := by rfl) (hv : Vis X.env.scope x := by first | exact Or.inl rfl | exact Or.inr (Or.inl rfl) | exact Or.inr (Or.inr rfl)) (hd : (x == ("__debug__" : Str)) = false := by decide) (hcd : (x == ("__classdict__" : Str)) = false := by decide)
    (hs : swapsWithSole [.Subscript (.Name x p) i tpos] e pos.line X.env = pure false := by rfl) (hw : swappedStores [.Subscript (.Name x p) i tpos] e X.env = pure none := by rfl)
    (ha : ∀ v, assign (.Subscript (.Name x p) i tpos) X.env v = (do
      let ov ← holding [v] (eval (.Name x p) X.env)
      let iv ← holding [v, ov] (eval i X.env)
      standAt tpos
      holding [v, ov, iv] (setItem ov iv v)
      release [v, ov, iv] []) := by intro _; rfl) (ha1 : (assignEach [.Subscript (.Name x p) i tpos] X.env).map (·.2) = [assign (.Subscript (.Name x p) i tpos) X.env] := by rfl) :
    PSd X W (.Assign [.Subscript (.Name x p) i tpos] e pos) (sSetV k fi fe) := .of (ps_asg he (pg_sub (pe_var hN hv hd hcd) hi set_list ha) hs hw ha1) (ss_setV k seE seE)
theorem psd_setE {tpos : Pos} (ho : PEd X W o fo) (hi : PEd X W i fi) (he : PEd X W e fe) (hs : swapsWithSole [.Subscript o i tpos] e pos.line X.env = pure false := by rfl) (hw : swappedStores [.Subscript o i tpos] e X.env = pure none := by rfl)
    (ha : ∀ v, assign (.Subscript o i tpos) X.env v = (do
      let ov ← holding [v] (eval o X.env)
      let iv ← holding [v, ov] (eval i X.env)
      standAt tpos
      holding [v, ov, iv] (setItem ov iv v)
      release [v, ov, iv] []) := by intro _; rfl) (ha1 : (assignEach [.Subscript o i tpos] X.env).map (·.2) = [assign (.Subscript o i tpos) X.env] := by rfl) :
    PSd X W (.Assign [.Subscript o i tpos] e pos) (sSetE fo fi fe) := .of (ps_asg he (pg_sub ho hi set_list ha) hs hw ha1) (ss_setE seE seE seE)
end
section
variable {P : Program} {w : World} {K : PySem.W.Frag} {mg : Str → Option Value} {base : Heap}
end
end PM

namespace PM
open PySem PySem.Spec L2
open PyProof.Rows hiding St

/-! ### a def that stands at a name of the module -/
structure DefAt (K : PySem.W.Frag) (mg : Str → Option Value) (x : Str) (st : Stmt) (ps : List Str) : Prop where
  at_ : ∃ (f : Addr) (fd : FuncData), Fun K x x st f fd ∧ mg x = some (.ref f) ∧ Binds K fd ps []
structure FnAt (P : Program) (w : World) (K : PySem.W.Frag) (mg : Str → Option Value) (base : Heap) (k : Nat) (x : Str) (n : Nat) (d : DF) : Prop where
  at_ : ∃ (f : Addr) (fd : FuncData) (ps : List Str), mg x = some (.ref f) ∧ PySem.W.keepIn K (.ref f) = true ∧ Binds K fd ps [] ∧ FnOk P w K mg base CX0 k f fd ps (spD K n d)
theorem u65 {k : Nat} {A : Around} (r : Room k A) : A.units + 65 < cLine := by
  have := r.un
  omega
section
variable {P : Program} {w : World} {K : PySem.W.Frag} {mg : Str → Option Value} {base : Heap}
theorem FnAt.mk' {x : Str} {st : Stmt} {N ps : List Str} {k : Nat} {body : DS} (D : DefAt K mg x st ps) (S : FnScope N ps (defScope st))
    (hb : ∀ (f : Addr) (cdv : Value) (A : Around) (outer : List PySem.Env) (s : Shared) (H : Hp) (E : XK), Room k (A.deeper (envOfC x (defScope st) s.heap.objs.size f cdv)) → PSsd (cxOf CX0 P w K mg base N x (defScope st) f cdv A outer s H E).nox W0 (defBody st) body) :
    FnAt P w K mg base (k + 1) x ps.length (dDef ps.length (N.length - ps.length) body) := by
  obtain ⟨f, fd, F, hm, hb'⟩ := D.at_
  exact ⟨f, fd, ps, hm, F.kp, hb', ok_def F S fun cdv A outer s H E hr => ⟨_, hb f cdv A outer s H E hr, ssS⟩⟩
theorem fnOk_mk {x : Str} {st : Stmt} {f : Addr} {fd : FuncData} {N ps : List Str} {k : Nat} {body : DS} (F : Fun K x x st f fd) (S : FnScope N ps (defScope st))
    (hb : ∀ (f : Addr) (cdv : Value) (A : Around) (outer : List PySem.Env) (s : Shared) (H : Hp) (E : XK), Room k (A.deeper (envOfC x (defScope st) s.heap.objs.size f cdv)) → PSsd (cxOf CX0 P w K mg base N x (defScope st) f cdv A outer s H E).nox W0 (defBody st) body) :
    FnOk P w K mg base CX0 (k + 1) f fd ps (spD K ps.length (dDef ps.length (N.length - ps.length) body)) := ok_def F S fun cdv A outer s H E hr => ⟨_, hb f cdv A outer s H E hr, ssS⟩
theorem relInt {i : Int} {t : Tok} : RelV (.int i) (.int i t) := ⟨t, rfl⟩
theorem relStr {z : Str} {t : Tok} : RelV (.str z) (.str z t) := ⟨t, rfl⟩
/-- the law's beginning: the script alone -/
theorem law_start {H : Hp} {a : Addr} {ns : List Int} {d : DF} {E : XK} (hS : SqL K H a (ns.map V.int)) (hd : d [.scr ns] [] (fun sv _ => sv = .val (.bl true)) fun _ _ => False) : spD K 1 d [.ref a] H (fun v _ => v = .bl true) E := by
  have no : ∀ {b : Addr}, ¬ OwnAt [some (V.ref a)] [some (SV.scr ns)] b := fun {b} ⟨i, xs, e, _⟩ => by
    cases i with
    | zero => cases e
    | succ i => simp at e
  refine ⟨rfl, fun _ => False, [], [], [.scr ns], _, ⟨rfl, fun i sv e => ?_, fun p hp => (nomatch hp), fun i j xs ys a e1 _ s1 _ => absurd ⟨i, xs, e1, s1⟩ no, ⟨rfl, List.nodup_nil, fun n a c e _ => by simp at e⟩, fun b o e _ => e, fun b q => q, ⟨[], rfl, by simp⟩, fun b q => q.elim False.elim False.elim, fun b q => q.elim False.elim False.elim⟩, hd, fun m' v H' sv h' _ _ r q => ?_⟩
  · cases i with
    | zero =>
      cases e
      refine ⟨.ref a, rfl, ⟨a, rfl, ?_⟩, fun b _ => .inr ⟨no, fun q => q⟩⟩
      rcases hS with hS | hS
      · exact .inl ⟨hS, by simp⟩
      · exact .inr fun H' => .inr hS
    | succ i => simp at e
  · subst q
    cases r
    rfl
end
section
variable {X : Cx} {W : WX} {e : Expr} {es : List Expr} {fs : DA} {pos p : Pos} {x : Str}
theorem pd_callF {n k k' : Nat} {d : DF} (F : FnAt X.prog X.w X.K X.mg X.base k x n d) (hr : Room k' X.A) (hk : k ≤ k') (ha : PAd X W (e :: es) fs)
    (hg : Gl X x := by rfl) (hdb : (x == ("__debug__" : Str)) = false := by decide) (he : starEach (e :: es) X.env = (false, eval e X.env) :: starEach es X.env := by rfl) (hpl : (backTo pos (starEach es X.env)).any (·.1) = false := by rfl) : PEd X W (.Call (.Name x p) (e :: es) [] pos) (dCall n d fs) := by
  obtain ⟨f, fd, ps, hm, kp, hb, G⟩ := F.at_
  exact pd_call G (hr.mono hk) hm kp hb ha hg hdb he hpl
/-! the built-ins -/
abbrev BNone (X : Cx) (x : Str) : Prop := X.mg x = none
theorem bt_len : bootBuiltins "len" = some (.builtin "len") := by decide +kernel
theorem bt_max : bootBuiltins "max" = some (.builtin "max") := by decide +kernel
theorem bt_min : bootBuiltins "min" = some (.builtin "min") := by decide +kernel
theorem bt_all : bootBuiltins "all" = some (.builtin "all") := by decide +kernel
theorem bt_int : bootBuiltins "int" = some (.type "int") := by decide +kernel
theorem bt_tuple : bootBuiltins "tuple" = some (.type "tuple") := by decide +kernel
variable (hm : X.mg x = none)
theorem pd_len (hm : X.mg "len" = none) (ha : PAd X W (e :: es) fs) (hg : Gl X "len" := by rfl) (he : starEach (e :: es) X.env = (false, eval e X.env) :: starEach es X.env := by rfl) (hpl : (backTo pos (starEach es X.env)).any (·.1) = false := by rfl) : PEd X W (.Call (.Name "len" p) (e :: es) [] pos) (dB (g1 gLen) fs) :=
  pd_cb call_len (cs_1 us_len) bt_len hm ha hg (by decide) (by decide) he hpl
theorem pd_max (hc : X.calm = true) (hm : X.mg "max" = none) (ha : PAd X W (e :: es) fs) (hg : Gl X "max" := by rfl) (he : starEach (e :: es) X.env = (false, eval e X.env) :: starEach es X.env := by rfl) (hpl : (backTo pos (starEach es X.env)).any (·.1) = false := by rfl) : PEd X W (.Call (.Name "max" p) (e :: es) [] pos) (dB gMax fs) :=
  pd_cb (cr_maxA hc) cs_max bt_max hm ha hg (by decide) (by decide) he hpl
theorem pd_min (hc : X.calm = true) (hm : X.mg "min" = none) (ha : PAd X W (e :: es) fs) (hg : Gl X "min" := by rfl) (he : starEach (e :: es) X.env = (false, eval e X.env) :: starEach es X.env := by rfl) (hpl : (backTo pos (starEach es X.env)).any (·.1) = false := by rfl) : PEd X W (.Call (.Name "min" p) (e :: es) [] pos) (dB gMin fs) :=
  pd_cb (cr_minA hc) cs_min bt_min hm ha hg (by decide) (by decide) he hpl
theorem pd_all (hc : X.calm = true) (hm : X.mg "all" = none) (ha : PAd X W (e :: es) fs) (hg : Gl X "all" := by rfl) (he : starEach (e :: es) X.env = (false, eval e X.env) :: starEach es X.env := by rfl) (hpl : (backTo pos (starEach es X.env)).any (·.1) = false := by rfl) : PEd X W (.Call (.Name "all" p) (e :: es) [] pos) (dB (g1 gAll) fs) :=
  pd_cb (cr_all hc) (cs_1 us_all) bt_all hm ha hg (by decide) (by decide) he hpl
theorem pd_int1 (hm : X.mg "int" = none) (ha : PAd X W (e :: es) fs) (hg : Gl X "int" := by rfl) (he : starEach (e :: es) X.env = (false, eval e X.env) :: starEach es X.env := by rfl) (hpl : (backTo pos (starEach es X.env)).any (·.1) = false := by rfl) : PEd X W (.Call (.Name "int" p) (e :: es) [] pos) (dB (g1 gInt1) fs) :=
  pd_ct call_int1 (cs_1 us_int1) bt_int hm ha hg (by decide) (by decide) he hpl
theorem pd_tuple (hm : X.mg "tuple" = none) (ha : PAd X W (e :: es) fs) (hg : Gl X "tuple" := by rfl) (he : starEach (e :: es) X.env = (false, eval e X.env) :: starEach es X.env := by rfl) (hpl : (backTo pos (starEach es X.env)).any (·.1) = false := by rfl) : PEd X W (.Call (.Name "tuple" p) (e :: es) [] pos) (dB (g1 gTuple) fs) :=
  pd_ct call_tuple_of (cs_1 us_tuple) bt_tuple hm ha hg (by decide) (by decide) he hpl
end
end PM

namespace PM
open PySem PySem.Spec L2
open PyProof.Rows hiding St
theorem tuple_mul0 (l : Addr) (items : Array Value) (n : Nat) (dd : Option Addr) (sl : Array (Option Value)) (u : Tok) (c1 : items.isEmpty = false) :
    Meets (Builtin.«tuple.__mul__» ⟨[.ref l, .int 0 u], []⟩) (fun _ R s => s.heap.get? l = some { cls := .type "tuple", dict := dd, data := .seq items n, slots := sl } ∧
      R (.ok (.ret (Value.ref s.heap.objs.size))) { s with heap := s.heap.push { cls := Value.type "tuple", data := Data.seq #[] }, toks := s.toks }) :=
  .of_wp fun prog w A R s h => by
    obtain ⟨hp, g, d, tk, os⟩ := s
    obtain ⟨hl, h⟩ := h
    have f1 := AutoSeq1.idx_int
    have c0 : (decide ((0 : Int) < -(2 ^ 63)) || decide ((0 : Int) ≥ 2 ^ 63)) = false := by decide
    have c2 : (items.isEmpty || (0 : Int) == 1) = false := by rw [c1]; rfl
    wp_walk using wpAny_loadPart' hl
    repeat (first
      | (refine wpAny_ite_false (decide_eq_false (by rw [c0]; exact Bool.false_ne_true)) ?_; wp_walk using wpAny_loadPart' hl)
      | (refine wpAny_ite_false (decide_eq_false (by rw [c2]; exact Bool.false_ne_true)) ?_; wp_walk using wpAny_loadPart' hl)
      | (refine wpAny_ite_true (decide_eq_true (by rfl)) ?_; wp_walk using wpAny_loadPart' hl))
    exact ⟨_, rfl, h⟩
theorem tuple_mul1 (l : Addr) (items : Array Value) (n : Nat) (dd : Option Addr) (sl : Array (Option Value)) (u : Tok) :
    Meets (Builtin.«tuple.__mul__» ⟨[.ref l, .int 1 u], []⟩) (fun _ R s => s.heap.get? l = some { cls := .type "tuple", dict := dd, data := .seq items n, slots := sl } ∧
      R (.ok (.ret (Value.ref l))) s) :=
  .of_wp fun prog w A R s h => by
    obtain ⟨hp, g, d, tk, os⟩ := s
    obtain ⟨hl, h⟩ := h
    have f1 := AutoSeq1.idx_int
    have c0 : (decide ((1 : Int) < -(2 ^ 63)) || decide ((1 : Int) ≥ 2 ^ 63)) = false := by decide
    have c2 : (items.isEmpty || (1 : Int) == 1) = true := by cases items.isEmpty <;> rfl
    wp_walk using wpAny_loadPart' hl
    repeat (first
      | (refine wpAny_ite_false (decide_eq_false (by rw [c0]; exact Bool.false_ne_true)) ?_; wp_walk using wpAny_loadPart' hl)
      | (refine wpAny_ite_true (decide_eq_true c2) ?_; wp_walk using wpAny_loadPart' hl)
      | (refine wpAny_ite_true (decide_eq_true (by rfl)) ?_; wp_walk using wpAny_loadPart' hl))
    exact ⟨_, rfl, h⟩
section
variable {X : Cx}
def rRepT0 (K : PySem.W.Frag) : R2 := fun x y H Q => ∃ l xs, x = .ref l ∧ y = .int 0 ∧ SqT K H l xs ∧ xs ≠ [] ∧ ∀ p, H p = none → Q (.ref p) (upd H p (.tup []))
def rRepT1 (K : PySem.W.Frag) : R2 := fun x y H Q => ∃ l xs, x = .ref l ∧ y = .int 1 ∧ SqT K H l xs ∧ Q (.ref l) H
theorem op_repT0 : OpR X (binaryOp .Mult) (rRepT0 X.K) := by
  intro pins s σ H x y v u Q I rx ry h
  obtain ⟨l, xs, rfl, rfl, hT, hne, q⟩ := h
  cases rx
  obtain ⟨t, rfl⟩ := ry
  obtain ⟨its, r, ⟨⟨cls, dd, data, sl⟩, ho, hc, n, hd⟩, hs⟩ := I.tuple hT
  simp only at hc hd
  subst hc hd
  have hle : its.length = xs.length := r.length.symm
  have hn : its ≠ [] := fun e => hne (by
    rw [e] at hle
    exact List.eq_nil_of_length_eq_zero hle.symm)
  have hi : its.toArray.isEmpty = false := by
    cases its with
    | nil => exact absurd rfl hn
    | cons a b => rfl
  refine wpAny_binaryOp_repeat_ref (T := "tuple") (U := "int") (by decide) ⟨_, ho, rfl⟩ (fun s' => typeIs_int s' 0 t) noFill_tuple_mul F.fills_int_mul F.slot_int_rmul repeat_tuple F.slot_int_index.lookup
    (call_meets F.slot_int_rmul (typeIs_int s 0 t) F.entry_int_rmul (F.args_int_rmul_2 _ _) (int_rmul_tuple 0 t l its.toArray n dd sl)
      ⟨ho, rfl, ⟨_, ho, rfl⟩, call_meets F.slot_tuple_mul ⟨_, ho, rfl⟩ F.entry_tuple_mul (F.args_tuple_mul_2 _ _) (tuple_mul0 l its.toArray n dd sl t hi) ⟨ho, ?_⟩⟩)
  refine ⟨.ref s.heap.objs.size, _, I.laid (t' := s.toks) (o := .tup []) (fun b ob q => Heap.get?_push_of_some _ q) (Nat.le_refl _) ?_, rfl, q _ (I.hok.fresh (Nat.le_refl _))⟩
  exact ⟨Nat.zero_le _, [], .nil, IsTup.new _ _⟩
theorem op_repT1 : OpR X (binaryOp .Mult) (rRepT1 X.K) := by
  intro pins s σ H x y v u Q I rx ry h
  obtain ⟨l, xs, rfl, rfl, hT, q⟩ := h
  cases rx
  obtain ⟨t, rfl⟩ := ry
  obtain ⟨its, r, ⟨⟨cls, dd, data, sl⟩, ho, hc, n, hd⟩, hs⟩ := I.tuple hT
  simp only at hc hd
  subst hc hd
  exact wpAny_binaryOp_repeat_ref (T := "tuple") (U := "int") (by decide) ⟨_, ho, rfl⟩ (fun s' => typeIs_int s' 1 t) noFill_tuple_mul F.fills_int_mul F.slot_int_rmul repeat_tuple F.slot_int_index.lookup
    (call_meets F.slot_int_rmul (typeIs_int s 1 t) F.entry_int_rmul (F.args_int_rmul_2 _ _) (int_rmul_tuple 1 t l its.toArray n dd sl)
      ⟨ho, rfl, ⟨_, ho, rfl⟩, call_meets F.slot_tuple_mul ⟨_, ho, rfl⟩ F.entry_tuple_mul (F.args_tuple_mul_2 _ _) (tuple_mul1 l its.toArray n dd sl t) ⟨ho, ⟨.ref l, H, I, rfl, q⟩⟩⟩)
def repS (k : Nat) (z : Str) : Str := ⟨(List.replicate k z.cps).foldl (· ++ ·) #[]⟩
def rRepS : R2 := fun x y H Q => ∃ z k, x = .str z ∧ y = .int k ∧ 0 ≤ k ∧ k ≤ 1000 ∧ 0 < z.length ∧ z.length ≤ 1000 ∧ Q (.str (repS k.toNat z)) H
theorem op_repS : OpR X (binaryOp .Mult) rRepS := by
  intro pins s σ H x y v u Q I rx ry h
  obtain ⟨z, k, rfl, rfl, h1, h2, h3, hz, q⟩ := h
  obtain ⟨t0, rfl⟩ := rx
  obtain ⟨t, rfl⟩ := ry
  by_cases k0 : k = 0
  · subst k0
    refine PySem.P.mul_str_none (by decide) (by decide) ⟨.str (repS 0 z), H, I.tok _, ⟨s.toks, ?_⟩, q⟩
    rfl
  by_cases k1 : k = 1
  · subst k1
    refine PySem.P.mul_str (by decide) (fun _ z => absurd z (by simp)) (fun _ z => absurd z (by simp)) ?_
    rw [if_neg (by decide), if_pos (by rfl)]
    refine ⟨.str (repS 1 z), H, I, ⟨t0, ?_⟩, q⟩
    have : repS 1 z = z := by
      unfold repS
      cases z
      simp
    rw [this]
  have e1 : ¬ k < 1 := by omega
  have e2 : (k == 1 || z.length == 0) = false := by
    rw [beq_eq_false_iff_ne.mpr (by omega : k ≠ 1), beq_eq_false_iff_ne.mpr (by omega : z.length ≠ 0)]
    rfl
  refine PySem.P.mul_str (by rw [decide_eq_false (by omega), decide_eq_false (by omega)]; rfl) (fun _ _ => ?_) (fun _ _ => ?_) ?_
  · have a0 : ((z.length : Nat) : Int) * k ≤ 1000 * k := Int.mul_le_mul_of_nonneg_right (by omega) (by omega)
    have : ((z.length : Nat) : Int) ≤ (2 ^ 63 - 1) / k := Int.le_ediv_of_mul_le (by omega) (by omega)
    omega
  · unfold Builtin.Str.tooLong
    have a1 : z.length * k.toNat ≤ 1000 * 1000 := Nat.mul_le_mul hz (by omega)
    rw [sizeLine_eq]
    exact decide_eq_false (by omega)
  · rw [if_neg e1, e2, if_neg (by decide)]
    refine ⟨?_, ?_⟩
    · have e : (List.foldl (fun x1 x2 => x1 ++ x2) #[] (List.replicate k.toNat z.cps)).size = k.toNat * z.length := by
        have g : ∀ (n : Nat) (a acc : Array Nat), (List.foldl (fun x1 x2 => x1 ++ x2) acc (List.replicate n a)).size = acc.size + n * a.size := fun n a => by
          induction n with
          | zero => intro acc; simp
          | succ n ih => intro acc; rw [List.replicate_succ, List.foldl_cons, ih, Array.size_append, Nat.succ_mul]; omega
        have := g k.toNat z.cps #[]
        rw [this]
        simp [Str.length]
      show (List.foldl (fun x1 x2 => x1 ++ x2) #[] (List.replicate k.toNat z.cps)).size ≤ sizeLine
      have a1 : k.toNat * z.length ≤ 1000 * 1000 := Nat.mul_le_mul (by omega) hz
      rw [e, sizeLine_eq]
      omega
    · exact ⟨.str (repS k.toNat z), H, I.tok _, ⟨_, rfl⟩, q⟩
def rMulX (K : PySem.W.Frag) : R2 := fun x y H Q => rMulA K x y H Q ∨ rRepT0 K x y H Q ∨ rRepT1 K x y H Q ∨ rRepS x y H Q
theorem op_mulX2 : OpR X (binaryOp .Mult) (rMulX X.K) := op_mulA.or (op_repT0.or (op_repT1.or op_repS))
end
/-- * : ints, a tuple and an int not below 0, a list and an int, a text and an int not below 0 -/
def gMulX : G2 := fun h x y q => match x, y with
  | .val (.int i), .val (.int j) => CMul i j ∧ q (.val (.int (i * j)))
  | .val (.str z), .val (.int k) => 0 ≤ k ∧ k ≤ 1000 ∧ 0 < z.length ∧ z.length ≤ 1000 ∧ q (.val (.str (repS k.toNat z)))
  | .val (.tup xs), .val (.int k) => xs ≠ [] ∧ 0 ≤ k ∧ k ≤ 1000 ∧ xs.length ≤ 1000 ∧ q (.val (.tup (repN k.toNat xs)))
  | .own xs, .val (.int k) => -(2 ^ 63) ≤ k ∧ k < 2 ^ 63 ∧ xs.length * k.toNat ≤ sizeLine ∧ q (.own (repN k.toNat xs))
  | _, _ => False
@[simp ↓] theorem gMulX_eq (h : Hs) (x y : SV) (q : SV → Prop) : gMulX h x y q = (match x, y with
  | .val (.int i), .val (.int j) => CMul i j ∧ q (.val (.int (i * j)))
  | .val (.str z), .val (.int k) => 0 ≤ k ∧ k ≤ 1000 ∧ 0 < z.length ∧ z.length ≤ 1000 ∧ q (.val (.str (repS k.toNat z)))
  | .val (.tup xs), .val (.int k) => xs ≠ [] ∧ 0 ≤ k ∧ k ≤ 1000 ∧ xs.length ≤ 1000 ∧ q (.val (.tup (repN k.toNat xs)))
  | .own xs, .val (.int k) => -(2 ^ 63) ≤ k ∧ k < 2 ^ 63 ∧ xs.length * k.toNat ≤ sizeLine ∧ q (.own (repN k.toNat xs))
  | _, _ => False) := id rfl
theorem os_mulX {K : PySem.W.Frag} : OpS K (rMulX K) gMulX := fun C m σ H env h x y sx sy q Q' eK R rx ry hg p => by
  have base := os_mul C m σ H env h x y sx sy q Q' eK R rx ry
  subst eK
  unfold gMulX at hg
  split at hg
  · exact .inl (base hg p)
  · cases rx; cases ry
    exact .inr (.inr (.inr ⟨_, _, rfl, rfl, hg.1, hg.2.1, hg.2.2.1, hg.2.2.2.1, p.str R hg.2.2.2.2⟩))
  · rename_i xs k
    obtain ⟨hne, h0, h1, h2, hq⟩ := hg
    by_cases k2 : 2 ≤ k
    · exact .inl (base ⟨hne, k2, h1, h2, hq⟩ p)
    · cases rx with
      | tup ha qa =>
        cases ry
        have hn : ∀ vs, RepL C.K (ExOf C σ env m) m H vs xs → vs ≠ [] := fun vs r e => hne (by subst e; cases r; rfl)
        by_cases k1 : k = 1
        · subst k1
          rw [show repN (1 : Int).toNat xs = xs by simp [repN]] at hq
          exact .inr (.inr (.inl ⟨_, _, rfl, rfl, ha.sq, p.at R (.tup ha qa) hq⟩))
        · obtain rfl : k = 0 := by omega
          rw [show repN (0 : Int).toNat xs = [] by simp [repN]] at hq
          exact .inr (.inl ⟨_, _, rfl, rfl, ha.sq, hn _ qa, fun a n => p.newT R .nil hq n⟩)
  · exact .inl (base hg p)
  · exact hg.elim
section
variable {X : Cx} {W : WX} {a b : Expr} {fa fb : DE} {pos : Pos}
theorem pd_mulX (ha : PEd X W a fa) (hb : PEd X W b fb) : PEd X W (.BinOp a .Mult b pos) (dOp gMulX fa fb) := .of (pe_op op_mulX2 ha hb) (se_op os_mulX seE seE)
end
/-! abs -/
def gAbs : G1 := fun _ x q => match x with
  | .val (.int i) => q (.val (.int (if i < 0 then -i else i)))
  | _ => False
@[simp ↓] theorem gAbs_eq (h : Hs) (x : SV) (q : SV → Prop) : gAbs h x q = (match x with
  | .val (.int i) => q (.val (.int (if i < 0 then -i else i)))
  | _ => False) := id rfl
section
variable {X : Cx} {W : WX} {e : Expr} {es : List Expr} {fs : DA} {p pos : Pos}
end
end PM

namespace PM
open PySem PySem.Spec L2
open PyProof.Rows hiding St

/-! ### words for evaluation -/
@[simp] theorem blsOf_mapf {α : Type} (l : List α) (f : α → Bool) : blsOf (l.map fun a => .bl (f a)) = some (l.map f) := by
  induction l with
  | nil => rfl
  | cons a l ih => simp [blsOf, ih]
@[simp] theorem intsOf_mapf {α : Type} (l : List α) (f : α → Int) : intsOf (l.map fun a => .int (f a)) = some (l.map f) := by
  induction l with
  | nil => rfl
  | cons a l ih => simp [intsOf, ih]
section
variable {chk : Hs → Prop} {bd : DB} {tt : DT} {te : DE} {env : Env} {h : Hs} {Q : List PV → Hs → Prop}
/-- any comprehension, by what holds after each turn -/
theorem compL_inv (I : Nat → List PV → Hs → Prop) : ∀ (xs : List PV) (j : Nat) (acc : List PV) (h : Hs), I j acc h →
    (∀ i x, xs[i]? = some x → ∀ acc h, I (j + i) acc h → ∀ N : List PV → Hs → Prop, (∀ acc' h', I (j + i + 1) acc' h' → N acc' h') → chk h ∧ bd x env fun env1 => tt env1 h (fun b h1 => if b = true then te env1 h1 (fun y h2 => match y.toVal with
      | some p => acc.length < sizeLine ∧ N (acc ++ [p]) h2
      | none => False) (fun _ _ => False) else N acc h1) (fun _ _ => False)) →
    (∀ acc h, I (j + xs.length) acc h → chk h ∧ Q acc h) → compL chk bd tt te env xs acc h Q
  | [], j, acc, h, i0, _, he => he acc h i0
  | x :: xs, j, acc, h, i0, hs, he => by
    rw [compL]
    exact hs 0 x rfl acc h i0 _ fun acc' h' i1 => compL_inv I xs (j + 1) acc' h' i1 (fun i y e acc h q N hN => hs (i + 1) y e acc h (by rw [show j + (i + 1) = j + 1 + i by omega]; exact q) N fun a b c => hN a b (by rw [show j + 1 + i + 1 = j + (i + 1) + 1 by omega]; exact c)) fun acc h q => he acc h (by rw [List.length_cons, show j + (xs.length + 1) = j + 1 + xs.length by omega]; exact q)
/-- a for, by what holds after each turn -/
theorem forL_inv {b : DS} {D : DEnds} (I : Nat → Env → Hs → Prop) : ∀ (xs : List PV) (j : Nat) (env : Env) (h : Hs), I j env h →
    (∀ i x, xs[i]? = some x → ∀ env h, I (j + i) env h → ∀ N : Env → Hs → Prop, (∀ env' h', I (j + i + 1) env' h' → N env' h') → chk h ∧ bd x env fun env1 => b { D with nx := N, ct := N, bk := D.nx } env1 h) →
    (∀ env h, I (j + xs.length) env h → chk h ∧ D.nx env h) → forL chk bd b D xs env h
  | [], j, env, h, i0, _, he => he env h i0
  | x :: xs, j, env, h, i0, hs, he => by
    rw [forL]
    exact hs 0 x rfl env h i0 _ fun env' h' i1 => forL_inv I xs (j + 1) env' h' i1 (fun i y e env h q N hN => hs (i + 1) y e env h (by rw [show j + (i + 1) = j + 1 + i by omega]; exact q) N fun a b c => hN a b (by rw [show j + 1 + i + 1 = j + (i + 1) + 1 by omega]; exact c)) fun env h q => he env h (by rw [List.length_cons, show j + (xs.length + 1) = j + 1 + xs.length by omega]; exact q)
end
/-- one statement at a time: what follows is kept shut -/
theorem seq_in {s t : DS} {D : DEnds} {env : Env} {h : Hs} (p : ∀ N : Env → Hs → Prop, (∀ e1 h1, t D e1 h1 → N e1 h1) → s { D with nx := N } env h) : sSeq s t D env h := p _ fun _ _ q => q
/-- the test first: the branches are kept shut -/
theorem if_in {c : DT} {s t : DS} {D : DEnds} {env : Env} {h : Hs} (p : ∀ S T : Env → Hs → Prop, (∀ e1 h1, s D e1 h1 → S e1 h1) → (∀ e1 h1, t D e1 h1 → T e1 h1) → c env h (fun b h1 => if b = true then S env h1 else T env h1) fun x h1 => D.ex x env h1) : sIf c s t D env h := p _ _ (fun _ _ q => q) (fun _ _ q => q)
/-! items -/
theorem atI_pos {α : Type} {xs : List α} {i : Int} (h0 : 0 ≤ i) : atI xs i = xs[i.toNat]? := by
  unfold atI ixN
  rw [if_pos h0]
  split
  · rfl
  · rw [List.getElem?_eq_none (by omega)]
    rfl
theorem atI_nat' {α : Type} {xs : List α} {n : Nat} : atI xs (n : Int) = xs[n]? := by
  rw [atI_pos (by omega)]
  simp
theorem cdivW {i j : Int} (h0 : 0 < j) (h1 : j < 2 ^ 200) : CDivW i j := by
  have h2 : j.natAbs < 2 ^ 200 := by omega
  refine ⟨h0, ?_⟩
  have := (Nat.log2_lt (n := j.natAbs) (k := 200) (by omega)).mpr h2
  omega
@[simp] theorem atI_map {α β : Type} (f : α → β) (xs : List α) (i : Int) : atI (xs.map f) i = (atI xs i).map f := by
  unfold atI
  rw [List.length_map]
  cases ixN xs.length i with
  | none => rfl
  | some j => simp
theorem atI_some {α : Type} {xs : List α} {i : Int} (h0 : 0 ≤ i) (h1 : i < xs.length) : ∃ c, atI xs i = some c := by
  rw [atI_pos h0, List.getElem?_eq_getElem (by omega)]
  exact ⟨_, rfl⟩
theorem ixN_some {n : Nat} {i : Int} (h0 : 0 ≤ i) (h1 : i < n) : ixN n i = some i.toNat := by
  unfold ixN
  rw [if_pos h0, if_pos (by omega)]
@[simp] theorem atI_0 {α : Type} (a : α) (l : List α) : atI (a :: l) 0 = some a := by rw [atI_pos (by decide)]; rfl
@[simp] theorem atI_1 {α : Type} (a b : α) (l : List α) : atI (a :: b :: l) 1 = some b := by rw [atI_pos (by decide)]; rfl
@[simp] theorem atI_2 {α : Type} (a b c : α) (l : List α) : atI (a :: b :: c :: l) 2 = some c := by rw [atI_pos (by decide)]; rfl
@[simp] theorem atI_3 {α : Type} (a b c d : α) (l : List α) : atI (a :: b :: c :: d :: l) 3 = some d := by rw [atI_pos (by decide)]; rfl
@[simp] theorem atI_4 {α : Type} (a b c d e : α) (l : List α) : atI (a :: b :: c :: d :: e :: l) 4 = some e := by rw [atI_pos (by decide)]; rfl
/-- the number at an index -/
def gd (v : List Int) (k : Nat) : Int := v.getD k 0
theorem cmulR {i j : Int} (h : j.natAbs < 2 ^ 64) : CMul i j := Or.inr (by omega)
theorem cmulL {i j : Int} (h : i.natAbs < 2 ^ 64) : CMul i j := Or.inl (by omega)
@[simp] theorem cpow_lit {i j : Int} : CPow i j ↔ (0 ≤ j ∧ j ≤ 1000000 ∧ i.natAbs < 2 ^ 64) := Iff.rfl
theorem szL {n : Nat} (h : n ≤ 8192) : n ≤ sizeLine := Nat.le_trans h (by show 8192 ≤ sizeLine; decide)
theorem szLt {n : Nat} (h : n < 8192) : n < sizeLine := Nat.lt_of_lt_of_le h (szL (by omega))
theorem rangeP_get {lo : Int} {n i : Nat} {x : PV} (e : (rangeP lo n)[i]? = some x) : i < n ∧ x = .int (lo + i) := by
  unfold rangeP at e
  rw [List.getElem?_map] at e
  by_cases hi : i < n
  · rw [List.getElem?_range hi] at e
    cases e
    exact ⟨hi, rfl⟩
  · rw [List.getElem?_eq_none (by rw [List.length_range]; omega)] at e
    cases e
theorem rangeP_len (lo : Int) (n : Nat) : (rangeP lo n).length = n := by simp [rangeP]
/-- a box: a cell with one int -/
def B (n : Nat) (h : Hs) : Prop := ∃ b : Int, h[n]? = some (.lst [.int b])
def bxv (n : Nat) (h : Hs) : Int := match h[n]? with
  | some (.lst [.int b]) => b
  | _ => 0
/-- the digit taken, and what it leaves -/
def tk (n : Nat) (k : Int) (h : Hs) : Int := bxv n h % k
def pt (n : Nat) (k : Int) (h : Hs) : Hs := h.set n (.lst [.int (bxv n h / k)])
theorem B.lt {n : Nat} {h : Hs} (hb : B n h) : n < h.length := by
  obtain ⟨b, hb⟩ := hb
  rcases Nat.lt_or_ge n h.length with l | l
  · exact l
  · rw [List.getElem?_eq_none l] at hb
    cases hb
theorem B.get {n : Nat} {h : Hs} (hb : B n h) : h[n]? = some (.lst [.int (bxv n h)]) := by
  obtain ⟨b, hb⟩ := hb
  rw [bxv, hb]
theorem B.pt {n : Nat} {h : Hs} {k : Int} (hb : B n h) : B n (PM.pt n k h) := ⟨bxv n h / k, by simp [PM.pt, hb.lt]⟩
theorem tk_ge {n : Nat} {h : Hs} {k : Int} (k0 : 0 < k) : 0 ≤ tk n k h := Int.emod_nonneg _ (by omega)
theorem tk_lt {n : Nat} {h : Hs} {k : Int} (k0 : 0 < k) : tk n k h < k := Int.emod_lt_of_pos _ k0
@[simp] theorem okD_int (i : Int) : (PV.int i).okD = true := by simp [PV.okD, PV.noRef, PV.py, SeqAt.shaped, PyData.canLay0, PyData.depth]
@[simp] theorem okD_bl (i : Bool) : (PV.bl i).okD = true := by simp [PV.okD, PV.noRef, PV.py, SeqAt.shaped, PyData.canLay0, PyData.depth]
@[simp] theorem okD_non : PV.non.okD = true := by simp [PV.okD, PV.noRef, PV.py, SeqAt.shaped, PyData.canLay0, PyData.depth]
@[simp] theorem pyEq_int (i j : Int) : pyEq (.int i) (.int j) = decide (i = j) := by simp [pyEq, PV.py, PyData.eqv, Bool.beq_eq_decide_eq]
@[simp] theorem pyEq_bl (i j : Bool) : pyEq (.bl i) (.bl j) = decide (i = j) := by cases i <;> cases j <;> simp [pyEq, PV.py, PyData.eqv]
/-- data with no reference, no deeper than n -/
def okN (n : Nat) (p : PV) : Prop := p.noRef = true ∧ p.py.canLay0 = true ∧ p.py.depth ≤ n
theorem okD_okN {p : PV} : p.okD = true ↔ okN 64 p := by
  unfold PV.okD SeqAt.shaped okN
  rw [Bool.and_eq_true, Bool.and_eq_true, decide_eq_true_eq]
@[simp] theorem okN_int {n : Nat} (i : Int) : okN n (.int i) ↔ True := by simp [okN, PV.noRef, PV.py, PyData.canLay0, PyData.depth]
@[simp] theorem okN_bl {n : Nat} (i : Bool) : okN n (.bl i) ↔ True := by simp [okN, PV.noRef, PV.py, PyData.canLay0, PyData.depth]
@[simp] theorem okN_non {n : Nat} : okN n .non ↔ True := by simp [okN, PV.noRef, PV.py, PyData.canLay0, PyData.depth]
@[simp] theorem okN_str {n : Nat} (x : Str) : okN n (.str x) ↔ PyData.strOk x = true := by simp [okN, PV.noRef, PV.py, PyData.canLay0, PyData.depth]
theorem okN_all {n : Nat} : ∀ xs : List PV, (PV.noRefL xs = true ∧ PyData.canLayAll0 (PV.pyL xs) = true ∧ PyData.depthAll (PV.pyL xs) ≤ n) ↔ ∀ x ∈ xs, okN n x
  | [] => by simp [PV.noRefL, PV.pyL, PyData.canLayAll0, PyData.depthAll]
  | x :: xs => by
    have ih := okN_all (n := n) xs
    rw [List.forall_mem_cons, ← ih]
    simp only [PV.noRefL, PV.pyL, PyData.canLayAll0, PyData.depthAll, Bool.and_eq_true, Nat.max_le, okN]
    constructor
    · rintro ⟨⟨a, b⟩, ⟨c, d⟩, e, f⟩
      exact ⟨⟨a, c, e⟩, b, d, f⟩
    · rintro ⟨⟨a, c, e⟩, b, d, f⟩
      exact ⟨⟨a, b⟩, ⟨c, d⟩, e, f⟩
@[simp] theorem okN_tup {n : Nat} (xs : List PV) : okN (n + 1) (.tup xs) ↔ ∀ x ∈ xs, okN n x := by
  rw [← okN_all]
  simp [okN, PV.noRef, PV.py, PyData.canLay0, PyData.depth]
@[simp] theorem okN_lst {n : Nat} (xs : List PV) : okN (n + 1) (.lst xs) ↔ ∀ x ∈ xs, okN n x := by
  rw [← okN_all]
  simp [okN, PV.noRef, PV.py, PyData.canLay0, PyData.depth]
@[simp] theorem okD_tup (xs : List PV) : (PV.tup xs).okD = true ↔ ∀ x ∈ xs, okN 63 x := by rw [okD_okN, okN_tup]
@[simp] theorem okD_lst (xs : List PV) : (PV.lst xs).okD = true ↔ ∀ x ∈ xs, okN 63 x := by rw [okD_okN, okN_lst]
@[simp] theorem okD_str (x : Str) : (PV.str x).okD = true ↔ PyData.strOk x = true := by rw [okD_okN, okN_str]
theorem pyEq_self {p : PV} (h : p.okD = true) : pyEq p p = true := PySem.SeqAt.eqv_refl _ (okD_okN.mp h).2.1
@[simp] theorem pyEq_tupc (x y : PV) (xs ys : List PV) : pyEq (.tup (x :: xs)) (.tup (y :: ys)) = (pyEq x y && pyEq (.tup xs) (.tup ys)) := by simp [pyEq, PV.py, PV.pyL, PyData.eqv, PyData.eqvAll]
@[simp] theorem pyEq_tup0 : pyEq (.tup []) (.tup []) = true := by simp [pyEq, PV.py, PV.pyL, PyData.eqv, PyData.eqvAll]
@[simp] theorem pyEq_tup1 (x : PV) (xs : List PV) : pyEq (.tup (x :: xs)) (.tup []) = false := by simp [pyEq, PV.py, PV.pyL, PyData.eqv, PyData.eqvAll]
@[simp] theorem pyEq_tup2 (x : PV) (xs : List PV) : pyEq (.tup []) (.tup (x :: xs)) = false := by simp [pyEq, PV.py, PV.pyL, PyData.eqv, PyData.eqvAll]
@[simp] theorem pyEq_lstc (x y : PV) (xs ys : List PV) : pyEq (.lst (x :: xs)) (.lst (y :: ys)) = (pyEq x y && pyEq (.lst xs) (.lst ys)) := by simp [pyEq, PV.py, PV.pyL, PyData.eqv, PyData.eqvAll]
@[simp] theorem pyEq_lst0 : pyEq (.lst []) (.lst []) = true := by simp [pyEq, PV.py, PV.pyL, PyData.eqv, PyData.eqvAll]
@[simp] theorem pyEq_lst1 (x : PV) (xs : List PV) : pyEq (.lst (x :: xs)) (.lst []) = false := by simp [pyEq, PV.py, PV.pyL, PyData.eqv, PyData.eqvAll]
@[simp] theorem pyEq_lst2 (x : PV) (xs : List PV) : pyEq (.lst []) (.lst (x :: xs)) = false := by simp [pyEq, PV.py, PV.pyL, PyData.eqv, PyData.eqvAll]
@[simp] theorem pyEq_str (x y : Str) : pyEq (.str x) (.str y) = decide (x = y) := by simp [pyEq, PV.py, PyData.eqv, Bool.beq_eq_decide_eq]
@[simp] theorem pyEq_nn : pyEq .non .non = true := by simp [pyEq, PV.py, PyData.eqv]
@[simp] theorem okD_vec (v : List Int) : (PV.tup (v.map .int)).okD = true := by
  unfold PV.okD PV.noRef PV.py SeqAt.shaped
  rw [noRef_ints]
  have e1 : ∀ w : List Int, PyData.canLayAll0 (PV.pyL (w.map PV.int)) = true := fun w => by
    induction w with
    | nil => simp [PV.pyL, PyData.canLayAll0]
    | cons x w ih => simp [PV.pyL, PV.py, PyData.canLayAll0, PyData.canLay0, ih]
  have e2 : ∀ w : List Int, PyData.depthAll (PV.pyL (w.map PV.int)) = 0 := fun w => by
    induction w with
    | nil => simp [PV.pyL, PyData.depthAll]
    | cons x w ih => simp [PV.pyL, PV.py, PyData.depthAll, PyData.depth, ih]
  simp [PyData.canLay0, PyData.depth, e1, e2]
@[simp] theorem pyEq_vec (v w : List Int) : pyEq (.tup (v.map .int)) (.tup (w.map .int)) = decide (v = w) := by
  have e : ∀ v w : List Int, PyData.eqvAll (PV.pyL (v.map PV.int)) (PV.pyL (w.map PV.int)) = decide (v = w) := fun v => by
    induction v with
    | nil => intro w; cases w <;> simp [PV.pyL, PyData.eqvAll]
    | cons x v ih => intro w; cases w <;> simp [PV.pyL, PV.py, PyData.eqvAll, PyData.eqv, ih, Bool.beq_eq_decide_eq]
  unfold pyEq PV.py
  rw [PyData.eqv, e]
@[simp] theorem pairs_cons (x y : PV) (xs ys : List PV) : pairs (x :: xs) (y :: ys) = .tup [x, y] :: pairs xs ys := rfl
@[simp] theorem pairs_nil (ys : List PV) : pairs [] ys = [] := rfl
@[simp] theorem blsOf_nil : blsOf [] = some [] := rfl
@[simp] theorem blsOf_cons (b : Bool) (xs : List PV) : blsOf (.bl b :: xs) = (blsOf xs).map (b :: ·) := rfl
@[simp] theorem intsOf_nil : intsOf [] = some [] := rfl
@[simp] theorem intsOf_cons (b : Int) (xs : List PV) : intsOf (.int b :: xs) = (intsOf xs).map (b :: ·) := rfl
/-- plain data: no reference, no bool, no list, no deeper than n -/
def Cl : Nat → PV → Prop
  | _, .non => True
  | _, .int _ => True
  | _, .str x => PyData.strOk x = true ∧ x.length ≤ 8192
  | n + 1, .tup xs => ∀ x ∈ xs, Cl n x
  | _, _ => False
@[simp] theorem Cl_non {n : Nat} : Cl n .non ↔ True := by cases n <;> simp [Cl]
@[simp] theorem Cl_int {n : Nat} (i : Int) : Cl n (.int i) ↔ True := by cases n <;> simp [Cl]
@[simp] theorem Cl_str {n : Nat} (x : Str) : Cl n (.str x) ↔ (PyData.strOk x = true ∧ x.length ≤ 8192) := by cases n <;> simp [Cl]
@[simp] theorem Cl_tup {n : Nat} (xs : List PV) : Cl (n + 1) (.tup xs) ↔ ∀ x ∈ xs, Cl n x := by simp [Cl]
@[simp] theorem Cl_bl {n : Nat} (b : Bool) : Cl n (.bl b) ↔ False := by cases n <;> simp [Cl]
@[simp] theorem Cl_ref {n m : Nat} : Cl n (.ref m) ↔ False := by cases n <;> simp [Cl]
@[simp] theorem Cl_lst {n : Nat} (xs : List PV) : Cl n (.lst xs) ↔ False := by cases n <;> simp [Cl]
/-- no reference -/
def nr : PV → Bool
  | .ref _ => false
  | _ => true
/-- no reference, nor one in it -/
def fl2 : PV → Bool
  | .ref _ => false
  | .tup xs => xs.all nr
  | _ => true
end PM

namespace PM
open PySem PySem.Spec L2 PySem.W
open PyProof.Rows hiding St

/-! ### sorted lists of data -/
/-- the items are alike up to the first that differ -/
def cutL : List PyData → List PyData → Bool
  | x :: xs, y :: ys => alike x y && (!PyData.eqv x y || cutL xs ys)
  | _, _ => true
def cut2 : PyData → PyData → Bool
  | .tuple xs, .tuple ys => cutL xs ys
  | x, y => alike x y
section
variable {prog : Program} {w : World} {A : Around} {s : Shared}
noncomputable def cutKind (h : Heap) (ds : List PyData) : PyProof.Rows.KeyKind := dataKind h ds
end
/-- sorted(xs) of a list of data -/
def rSortD (K : PySem.W.Frag) : List V → Hp → VK → Prop := fun vs H Q => ∃ (a : Addr) (xs : List V) (ps : List PV), vs = [.ref a] ∧ SqL K H a xs ∧ DpAll K H xs (ps.map PV.py) ∧ xs.length = ps.length ∧ (∀ p ∈ ps, ∀ p' ∈ ps, cut2 p.py p'.py = true) ∧ Sortable (ps.map PV.py) ∧ (∀ p ∈ ps, p.py.depth ≤ 64) ∧
  ∀ (zs : List (V × PV)) (b : Addr), zs = (xs.zip ps).mergeSort (fun x y => dataLe false PV.py x.2 y.2) → H b = none → Q (.ref b) (upd H b (.lst (zs.map (·.1))))
section
variable {X : Cx}
theorem vals_each {β : Type} {R : Value → β → Prop} {f : β → V} (hf : ∀ u b, R u b → RelV (f b) u) : ∀ {us : List Value} {bs : List β}, EachIs R us bs → Vals (bs.map f) us
  | _, _, .nil => .nil
  | _, _, .cons h t => .cons (hf _ _ h) (vals_each hf t)
end
/-- by <, as data -/
def leP (a b : PV) : Bool := dataLe false PV.py a b
def srtP (ps : List PV) : List PV := ps.mergeSort leP
def SrtOk (ps : List PV) : Prop := (∀ p ∈ ps, p.okD = true) ∧ (∀ p ∈ ps, ∀ p' ∈ ps, cut2 p.py p'.py = true) ∧ Sortable (ps.map PV.py)
def gSorted : G1 := fun h x q => ∃ ps, listC h x = some ps ∧ SrtOk ps ∧ q (.own (srtP ps))
@[simp ↓] theorem gSorted_eq (h : Hs) (x : SV) (q : SV → Prop) : gSorted h x q = (∃ ps, listC h x = some ps ∧ SrtOk ps ∧ q (.own (srtP ps))) := id rfl
theorem u90 {k : Nat} {A : Around} (r : Room k A) : A.units + 90 < cLine := by
  have := r.un
  omega
end PM

namespace PM
open PySem PySem.Spec L2 PySem.W
open PyProof.Rows hiding St

/-! ### sets whose members are keys of a kind, with what a walk needs of their table -/
section
variable {P : Program} {w : World} {κ : Type} [DecidableEq κ] (knd : PySem.KeyKind P w κ)
/-- the key that a value is -/
noncomputable def kfn (v : Value) : Option κ := open Classical in if q : ∃ k, knd.is k v = true then some q.choose else none
theorem kfn_of {k : κ} {v : Value} (h : knd.is k v = true) : kfn knd v = some k := by
  have q : ∃ k, knd.is k v = true := ⟨k, h⟩
  have e : kfn knd v = some q.choose := dif_pos q
  rw [e, knd.inj _ _ _ q.choose_spec h]
noncomputable abbrev kfs (es : Array (Int × Value)) : List (Option κ) := es.toList.map fun e => kfn knd e.2
/-- the table rises, it can be walked -/
def TabOk (w : World) (t : SetTable) : Prop := Ris t.place.toList ∧ (w.params.followText "set-order" = true ∨ t.led = true)
structure Ents (es : Array (Int × Value)) (S : κ → Bool) : Prop where
  el : ElemsOf knd es.toList
  nd : (kfs knd es).Nodup
  mem : ∀ k, S k = true ↔ some k ∈ kfs knd es
  bd : es.size < scanBound
def SetX (h : Heap) (a : Addr) (S : κ → Bool) (n : Nat) : Prop :=
  ∃ o es ep t, h.get? a = some o ∧ o.ExactSet ∧ o.data = .set es ep t ∧ Ents knd es S ∧ t.fits es.size = true ∧ es.size = n ∧ TabOk w t
variable {knd}
theorem SetX.at {h h' : Heap} {a : Addr} {S : κ → Bool} {n : Nat} (R : SetX knd h a S n) (k : ∀ o, h.get? a = some o → h'.get? a = some o) : SetX knd h' a S n :=
  let ⟨o, es, ep, t, e, r⟩ := R
  ⟨o, es, ep, t, k o e, r⟩
theorem Ents.is {es : Array (Int × Value)} {S : κ → Bool} (E : Ents knd es S) {e : Int × Value} (m : e ∈ es.toList) (k : κ) : knd.is k e.2 = true ↔ kfn knd e.2 = some k := by
  obtain ⟨⟨k0, h0, _⟩, _⟩ := E.el e m
  rw [kfn_of knd h0]
  exact ⟨fun q => by rw [knd.inj _ _ _ h0 q], fun q => by rw [← Option.some.inj q]; exact h0⟩
theorem Ents.ex {es : Array (Int × Value)} {S : κ → Bool} (E : Ents knd es S) (k : κ) : S k = true ↔ ∃ e ∈ es.toList, knd.is k e.2 = true := by
  rw [E.mem, List.mem_map]
  exact ⟨fun ⟨e, m, q⟩ => ⟨e, m, (E.is m k).mpr q⟩, fun ⟨e, m, q⟩ => ⟨e, m, (E.is m k).mp q⟩⟩
theorem SetX.setOf {h : Heap} {a : Addr} {S : κ → Bool} {n : Nat} (R : SetX knd h a S n) : h.SetOf knd a S n := by
  obtain ⟨o, es, ep, t, e, x, d, E, f, z, _⟩ := R
  exact ⟨o, es, ep, t, e, x, d, E.el, E.ex, E.bd, f, z⟩
theorem Ents.perm {es es' : Array (Int × Value)} {S : κ → Bool} (E : Ents knd es S) (p : es'.toList.Perm es.toList) : Ents knd es' S where
  el := fun e m => E.el e (p.mem_iff.mp m)
  nd := (p.map _).nodup_iff.mpr E.nd
  mem := fun k => (E.mem k).trans (p.map _).mem_iff.symm
  bd := by
    have := p.length_eq
    rw [Array.length_toList, Array.length_toList] at this
    rw [this]
    exact E.bd
theorem Ents.add {es es' : Array (Int × Value)} {S : κ → Bool} (E : Ents knd es S) {k : κ} {v : Value} (hk : knd.is k v = true) (sc : v.scannable = true) (n : S k ≠ true) (p : es'.toList.Perm ((knd.hash k, v) :: es.toList)) (b : es.size + 1 < scanBound) :
    Ents knd es' (fun j => S j || decide (j = k)) ∧ es'.size = es.size + 1 := by
  have sz : es'.size = es.size + 1 := by
    have := p.length_eq
    rw [List.length_cons, Array.length_toList, Array.length_toList] at this
    exact this
  have pk : (kfs knd es').Perm (some k :: kfs knd es) := by
    have := p.map fun e : Int × Value => kfn knd e.2
    rw [List.map_cons, kfn_of knd hk] at this
    exact this
  refine ⟨⟨fun e m => ?_, pk.nodup_iff.mpr (List.nodup_cons.mpr ⟨fun z => n ((E.mem k).mpr z), E.nd⟩), fun j => ?_, by omega⟩, sz⟩
  · rcases List.mem_cons.mp (p.mem_iff.mp m) with rfl | m
    · exact ⟨⟨k, hk, rfl⟩, sc⟩
    · exact E.el e m
  · rw [pk.mem_iff, List.mem_cons, Bool.or_eq_true, decide_eq_true_eq, E.mem j]
    constructor
    · rintro (z | rfl)
      · exact .inr z
      · exact .inl rfl
    · rintro (z | z)
      · exact .inr (Option.some.inj z)
      · exact .inl z
end
section
variable {P : Program} {w : World} {κ : Type} [DecidableEq κ] {knd : PySem.KeyKind P w κ} {A : Around} {E : Value → Shared → Prop} {s : Shared} {a : Addr}
/-- what a new place in the table keeps -/
theorem lay_ok {t : SetTable} {es : Array (Int × Value)} {hv : Int} {v : Value} (T : TabOk w t) : ∀ Z, layNew t es hv v = Z → Z.1.toList.Perm ((hv, v) :: es.toList) ∧ Z.2.1.fits Z.1.size = true ∧ TabOk w Z.2.1 := by
  rintro Z rfl
  refine ⟨?_, layNew_fits t es hv v, layNew_ris t es hv v T.1, T.2.imp id fun q => by rw [layNew_led]; exact q⟩
  have p := layNew_perm t es hv v
  rw [Array.toList_push] at p
  exact p.trans (List.perm_append_singleton _ _)
theorem relay_ok {t : SetTable} {es : Array (Int × Value)} {k : Nat} (T : TabOk w t) : ∀ Z, relayAll t es k = Z → Z.1.toList.Perm es.toList ∧ Z.2.1.fits Z.1.size = true ∧ TabOk w Z.2.1 := by
  rintro Z rfl
  exact ⟨relayAll_perm t es k, relayAll_fits t es k, relayAll_ris t es k, T.2.imp id fun q => by rw [relayAll_led]; exact q⟩
theorem putX {h : Heap} {o : Obj} {es es' : Array (Int × Value)} {ep : Nat} {t t' : SetTable} (e : h.get? a = some o) (d : o.data = .set es ep t) : (h.update a (Obj.putSet es' t')).get? a = some { o with data := .set es' (ep + 1) t' } := store_at e d
theorem addX_end {g : Bool → Sem Unit} (hg : ∀ (b : Bool) (s1 : Shared) (Q' : Unit → Shared → Prop), Q' () s1 → wpAny (model P w) A (g b) Q' E s1) {o : Obj} {es : Array (Int × Value)} {ep : Nat} {t : SetTable} (e : s.heap.get? a = some o) (x : o.ExactSet) (d : o.data = .set es ep t)
    {es1 : Array (Int × Value)} {t2 : SetTable} {S : κ → Bool} (E1 : Ents knd es1 S) (f : t2.fits es1.size = true) (T : TabOk w t2) {dm : Bool} {R : Option Bool → Shared → Prop} (hR : ∀ h', Heap.SameBut a s.heap h' → SetX knd h' a S es1.size → R (some true) { s with heap := h' }) :
    wpAny (model P w) A (do
        storeSet a es1 t2
        if (!dm && t2.tooFull) = true then do
            g (relayAll t2 es1 (SetTable.grown es1.size)).2.2
            storeSet a (relayAll t2 es1 (SetTable.grown es1.size)).1 (relayAll t2 es1 (SetTable.grown es1.size)).2.1
            pure (some true)
          else pure (some true)) R E s := by
  have e1 := putX (es' := es1) (t' := t2) e d
  have b1 := Heap.SameBut.update s.heap a (Obj.putSet es1 t2)
  refine wpAny_bind (wpAny_storeSet_of e d ?_ (fits_of_scanBound E1.bd))
  split
  · have q := relay_ok (es := es1) (k := SetTable.grown es1.size) T _ rfl
    generalize relayAll t2 es1 (SetTable.grown es1.size) = Z at q ⊢
    obtain ⟨es2, t3, gv⟩ := Z
    obtain ⟨p, f3, T3⟩ : es2.toList.Perm es1.toList ∧ t3.fits es2.size = true ∧ TabOk w t3 := q
    have E2 := E1.perm p
    have z : es2.size = es1.size := by
      have := p.length_eq
      rwa [Array.length_toList, Array.length_toList] at this
    refine wpAny_bind (hg _ _ _ (wpAny_bind (wpAny_storeSet_of e1 rfl ?_ (fits_of_scanBound E2.bd))))
    exact wpAny_pure (hR _ (b1.trans (Heap.SameBut.update _ a _)) ⟨_, es2, _, t3, putX e1 rfl, x, rfl, E2, f3, z, T3⟩)
  · exact wpAny_pure (hR _ b1 ⟨_, es1, _, t2, e1, x, rfl, E1, f, rfl, T⟩)
theorem addX_hashed {k : κ} {v : Value} {S : κ → Bool} {n : Nat} {Q : Bool → Shared → Prop} (hk : knd.is k v = true) (sc : v.scannable = true) (R : SetX knd s.heap a S n) (room : n + 1 < scanBound)
    (hQ : ∀ h', Heap.SameBut a s.heap h' → SetX knd h' a (fun j => S j || decide (j = k)) (if S k = true then n else n + 1) → Q (!S k) { s with heap := h' }) : wpAny (model P w) A (setAddHashed a v (knd.hash k)) Q E s := by
  obtain ⟨o, es, ep, t, ho, x, d, E0, f, z, T⟩ := R
  unfold setAddHashed setAddHashedIn
  refine wpAny_holding (wpAny_bind (wpAny_setState_of ho d f ?_))
  dsimp only
  rw [byScan_of sc E0.bd E0.el, if_pos rfl]
  unfold setAddByScan
  refine wpAny_bind (wpAny_bind (wpAny_rule (wpAny_bind (wpAny_setScan_of hk ho d f E0.el ?_))))
  cases hfi : List.findIdx? (fun e => knd.is k e.2) es.toList with
  | some j =>
    obtain ⟨hj, pj, _⟩ := List.findIdx?_eq_some_iff_getElem.mp hfi
    have yes : S k = true := (E0.ex k).mpr ⟨_, List.getElem_mem hj, pj⟩
    have same : (fun j => S j || decide (j = k)) = S := funext fun i => by
      by_cases q : i = k
      · rw [q, yes]; rfl
      · simp [q]
    have q := hQ s.heap (Heap.SameBut.refl a s.heap) (by rw [same, if_pos yes]; exact ⟨o, es, ep, t, ho, x, d, E0, f, z, T⟩)
    rw [yes] at q
    exact wpAny_pure (wpAny_pure q)
  | none =>
    have no : S k ≠ true := fun q => by
      obtain ⟨e, m, q⟩ := (E0.ex k).mp q
      have c := List.findIdx?_eq_none_iff.mp hfi e m
      rw [q] at c
      cases c
    have no' : S k = false := by simpa using no
    have L := lay_ok (es := es) (hv := knd.hash k) (v := v) T _ rfl
    dsimp only
    generalize layNew t es (knd.hash k) v = Z at L ⊢
    obtain ⟨es1, t1, dm, gv⟩ := Z
    obtain ⟨p1, f1, T1⟩ : es1.toList.Perm ((knd.hash k, v) :: es.toList) ∧ t1.fits es1.size = true ∧ TabOk w t1 := L
    obtain ⟨E1, z1⟩ := E0.add hk sc no p1 (by omega)
    have fin : ∀ h', Heap.SameBut a s.heap h' → SetX knd h' a (fun j => S j || decide (j = k)) es1.size → Q true { s with heap := h' } := fun h' sb r => by
      have q := hQ h' sb
      rw [no', if_neg (by decide)] at q
      rw [z1, z] at r
      exact q r
    dsimp only
    have way : ∀ (b : Bool) (s1 : Shared) (Q' : Unit → Shared → Prop), Q' () s1 → wpAny (model P w) A (match b with | true => rule "set.scan.the-table-gave-way" | false => pure ()) Q' E s1 :=
      fun b s1 Q' q => by
        cases b
        · exact wpAny_pure q
        · exact wpAny_rule q
    refine wpAny_bind (way _ _ _ ?_)
    split
    · refine wpAny_bind ?_
      rw [hashByValue_scannable 8 sc]
      refine wpAny_pure (addX_end (fun b s1 Q' q => ?_) ho x d E1 ?_ ?_ fun h' sb r => wpAny_pure (fin h' sb r))
      · cases b
        · exact wpAny_pure q
        · exact wpAny_rule q
      · first | exact f1 | (split <;> first | exact f1 | exact SetTable.fits_plain_off f1)
      · first | exact T1 | (split <;> exact T1)
    · refine wpAny_bind (wpAny_pure ?_)
      rw [if_pos rfl]
      refine addX_end (fun b s1 Q' q => ?_) ho x d E1 f1 T1 fun h' sb r => wpAny_pure (fin h' sb r)
      cases b
      · exact wpAny_pure q
      · exact wpAny_rule q
theorem addX {k : κ} {v : Value} {S : κ → Bool} {n : Nat} {Q : Value → Shared → Prop} (hk : knd.is k v = true) (sc : v.scannable = true) (R : SetX knd s.heap a S n) (room : n + 1 < scanBound)
    (hQ : ∀ h' tk, Heap.SameBut a s.heap h' → SetX knd h' a (fun j => S j || decide (j = k)) (if S k = true then n else n + 1) → Q .none { s with heap := h', toks := tk }) :
    wpAny (model P w) A (call (.builtin "set.add") [.ref a, v]) Q E s := by
  refine wpAny_call_entry F.slot_set_add R.setOf.typeIs F.entry_set_add ?_ (F.args_set_add_2 _ _)
  unfold Builtin.«set.add» Builtin.Frozenset.oneOther
  simp only [List.isEmpty_nil, bind_assoc]
  unfold Builtin.Frozenset.addrOf setAdd
  refine wpAny_bind (wpAny_pure ?_)
  try dsimp only
  refine wpAny_bind (wpAny_pure ?_)
  try dsimp only
  refine wpAny_bind (wpAny_holding (wpAny_bind (knd.pyHash hk (addX_hashed (s := { s with toks := s.toks + 1 }) hk sc R room fun h' sb r => ?_))))
  exact wpAny_pure (⟨_, rfl, hQ h' _ sb r⟩)
end
end PM

set_option maxHeartbeats 1000000
namespace PM
open PySem PySem.Spec L2 PySem.W
open PyProof.Rows hiding St

/-! ### a set of keys as a thing of the layer's heap; {elt for ..} -/
def SetKO (P : Program) (w : World) (a : Addr) (S : Key → Bool) (n : Nat) : HO := .ext fun h => SetX (mixKind P w) h a S n
abbrev setNew (w : World) : Obj := { cls := .type "set", dict := none, data := .set #[] 0 (.fresh 0 0 (!w.params.followText "set-order")) }
theorem setX_fresh {P : Program} (w : World) (h : Heap) : SetX (mixKind P w) (h.push (setNew w)) h.objs.size (fun _ => false) 0 := by
  refine ⟨_, #[], 0, _, Heap.get?_push_size _ rfl, ⟨rfl, rfl, rfl⟩, rfl, ⟨fun e he => absurd (show e ∈ ([] : List (Int × Value)) from he) List.not_mem_nil, List.nodup_nil, fun k => ⟨fun z => Bool.noConfusion z, fun z => absurd (show some k ∈ ([] : List (Option Key)) from z) List.not_mem_nil⟩, by decide⟩, by rfl, rfl, List.Pairwise.nil, ?_⟩
  show _ ∨ (!w.params.followText "set-order") = true
  cases w.params.followText "set-order" <;> simp
theorem setKO_ok {P : Program} {w : World} {H : Hp} {h : Heap} {a : Addr} {S : Key → Bool} {n : Nat} (R : SetX (mixKind P w) h a S n) : ObjOk P w H h a (SetKO P w a S n) :=
  ⟨R, (let ⟨o, _, _, _, e, _⟩ := R; ⟨o, e⟩), fun _ _ p k => SetX.at p k⟩
section
variable {X : Cx}
theorem setKO_at {pins : List (Addr × Obj)} {σ : St} {H : Hp} {s : Shared} {a : Addr} {S : Key → Bool} {n : Nat} (I : Inv X pins σ H s) (e : H a = some (SetKO X.prog X.w a S n)) : SetX (mixKind X.prog X.w) s.heap a S n := (I.hok a _ e).1
theorem addKO {pins : List (Addr × Obj)} {σ : St} {H : Hp} {s : Shared} {E : Value → Shared → Prop} {D : Addr} {S : Key → Bool} {n : Nat} {k : Key} {u : Value} {Q : Value → Shared → Prop} (I : Inv X pins σ H s) (e : H D = some (SetKO X.prog X.w D S n)) (r : RelV (kV k) u) (room : n + 1 < scanBound)
    (q : ∀ s', Inv X pins σ (upd H D (SetKO X.prog X.w D (fun j => S j || decide (j = k)) (if S k = true then n else n + 1))) s' → Q .none s') : wpAny (model X.prog X.w) X.A (call (.builtin "set.add") [.ref D, u]) Q E s :=
  addX (kV_is r) (key_scan r) (setKO_at I e) room fun h' tk sb new =>
    q _ (I.write (e := D) (t' := tk) (by rw [e]; trivial) (.inl rfl) (fun b v hb hv => (sb.2 b hb).trans hv) (let ⟨o, _, _, _, z, _⟩ := new; ⟨o, z⟩) (setKO_ok new))
/-- what the turns of a set comprehension want; D: the set -/
def tScX (P : Program) (w : World) (wi : TI) (g : TG) (tt : TT) (te : TE) (vs : List Nat) : TE := fun σ H Q => wi σ H fun J H1 => ∀ D, H1 D = none → ∃ Z : Nat → Nat → Hp → Prop, (∃ m, Z 0 m (upd H1 D (SetKO P w D (fun _ => false) 0))) ∧ ∀ i m H, Z i m H →
  (J.stop i H ∧ Q (.ref D) H) ∨ (J.go i H ∧ ∃ Nx : Hp → Prop, (∀ H', Nx H' → ∃ m', m' < m ∧ Z (i + 1) m' H') ∧ ∀ x H', J.yld i H x H' → g x (wipe σ vs) H' fun σ2 H2 => wipe σ2 vs = wipe σ vs ∧ tt σ2 H2 fun b H3 =>
    if b = true then te σ2 H3 fun y H4 => ∃ (k : Key) (S : Key → Bool) (n : Nat), y = kV k ∧ H4 D = some (SetKO P w D S n) ∧ n + 1 < scanBound ∧ Nx (upd H4 D (SetKO P w D (fun j => S j || decide (j = k)) (if S k = true then n else n + 1))) else Nx H3)
theorem pe_scX {elt tg iter : Expr} {ifs : List Expr} {scope : Scope} {own : List (PySem.Str × Nat)} {pos : Pos} {wi : TI} {g : TG} {tt : TT} {te : TE} (hc : X.calm = true) (hN : X.N.Nodup) (hi : PI X tg iter wi) (ok : BlkOk X.N X.env.scope scope own)
    (hg : ∀ s H C cl fp, PG (X.blk s H scope (compEnvC scope cl C X.env) fp) tg g) (ht : ∀ s H C cl fp, PTs (X.blk s H scope (compEnvC scope cl C X.env) fp) ifs tt) (he : ∀ s H C cl fp, PE (X.blk s H scope (compEnvC scope cl C X.env) fp) elt te)
    (hs : ∀ x, foldedSetIterable iter X.env x = pure x := by intro _; rfl) : PE X (.SetComp elt [⟨tg, iter, ifs, 0⟩] scope pos) (tScX X.prog X.w wi g tt te (own.map (·.2))) := by
  refine ⟨fun pins s σ H Q I h => ?_⟩
  have free : ∀ y ∈ scope.names, y.2 = .free → ∃ c, X.env.cells.lookup y.1 = some c := fun y hy e => (ok.free y hy e).elim (fun k => I.ok.has _ (.inl k)) fun k => I.ok.has _ (.inr k)
  rw [PpSet.eval_SetComp]
  refine wpAny_comprehension_free (use := none) rfl hs (closure_ok free) ok.kind (fun y hy e => by rw [ok.uniq y hy, e]) (thn (hi.run pins s σ H _ I h) fun xv s1 hx => thn hx fun itv s2 ⟨it, fp, tn, J, H2, e, I2, T, st2, f2, q⟩ => ?_)
  subst e
  refine PpSet.newSet_ok (newEnv_comp ?_)
  generalize hD : s2.heap.objs.size = D
  have Dn : H2 D = none := I2.hok.fresh (Nat.le_of_eq hD)
  obtain ⟨Z, ⟨m0, z0⟩, turn⟩ := q D Dn
  generalize hs3 : ({ s2 with heap := s2.heap.push (setNew X.w) } : Shared) = s3
  have heap3 : s3.heap = s2.heap.push (setNew X.w) := by rw [← hs3]
  have up3 : ∀ (b : Addr) (o : Obj), s2.heap.get? b = some o → s3.heap.get? b = some o := fun b o z => by
    rw [heap3]
    exact Heap.get?_push_of_some _ z
  generalize hH3 : upd H2 D (SetKO X.prog X.w D (fun _ => false) 0) = H3 at z0
  have I3 : Inv X pins σ H3 s3 := by
    subst hs3 hH3
    exact I2.laid (t' := s2.toks) (fun b o z => Heap.get?_push_of_some _ z) (Nat.le_of_eq hD) (hD ▸ setKO_ok (setX_fresh X.w s2.heap))
  have f3 : ∀ b ∈ fp, FpOk X pins H3 b ∧ b < s3.heap.objs.size := fun b hb => by
    obtain ⟨o, z, _⟩ := T.obj _ _ st2 b hb
    have lt := Heap.lt_size z
    refine ⟨⟨?_, (f2 b hb).2⟩, Heap.lt_size (up3 b o z)⟩
    rw [← hH3, upd_ne (Nat.ne_of_lt (hD ▸ lt))]
    exact (f2 b hb).1
  have st3 : tn 0 s3.heap := T.keep _ _ _ st2 fun b _ o z => up3 b o z
  have I4 := block_start I3 ok hN f3
  generalize hcl : cellsFrom (s3.heap.objs.size + 1) scope.names (cloFrom X.env.cells scope.names []) = cl at I4
  have PGr := hg s3 H3 s3.heap.objs.size cl fp
  have PTr := ht s3 H3 s3.heap.objs.size cl fp
  have PEr := he s3 H3 s3.heap.objs.size cl fp
  have nfp : ∀ b ∈ fp, H3 b = none := fun b hb => (f3 b hb).1.1
  generalize hce : compEnvC scope cl s3.heap.objs.size X.env = ce at I4 PGr PTr PEr
  have cL : ce.locals = s3.heap.objs.size := by subst hce; rfl
  generalize hs4 : ({ s3 with heap := pushCells (s3.heap.push { cls := .type "dict", data := .dict #[] }) scope.names } : Shared) = s4 at I4
  have st4 : tn 0 s4.heap := T.keep _ _ _ st3 fun b _ o z => by
    rw [← hs4]
    exact pushCells_keeps _ _ _ _ (Heap.get?_push_of_some _ z)
  have station : ∀ {σ' : St} {H' : Hp} {s' : Shared}, Inv (X.blk s3 H3 scope ce fp) [] σ' H' s' → (∀ b ∈ fp, H' b = none) → ∀ b ∈ fp, FpOk (X.blk s3 H3 scope ce fp) [] H' b := fun {σ' H' s'} I' n b hb =>
    ⟨n b hb, (I'.ok.exf b hb).1, I'.ok.exfs b hb, .inl hb, fun x c e => (I'.ok.exf b hb).2 x c e, fun p hp => by simp at hp⟩
  have loop : codeAny (model X.prog X.w) X.A (.compLoop (.SetComp elt [⟨tg, iter, ifs, 0⟩] scope pos) 0 (.ref it) (.ref D) ce) (compPost (model X.prog X.w) X.A X.xe none (EP X pins σ Q) (.ref D) s3.heap.objs.size) s4 := by
    refine PpSet.compLoopS_any (fun n s' => ∃ i H', Inv (X.blk s3 H3 scope ce fp) [] (wipe σ (own.map (·.2))) H' s' ∧ tn i s'.heap ∧ (∀ b ∈ fp, H' b = none) ∧ Z i n H') ?_ m0 ⟨0, H3, I4, st4, nfp, z0⟩
    rintro n s5 ⟨i, H5, I5, st5, n5, w5⟩
    rcases turn i n H5 w5 with ⟨stop, fin⟩ | ⟨go, Nx, hNx, step⟩
    · refine thnF (T.done (X.blk s3 H3 scope ce fp) rfl rfl rfl hc i [] s5 _ H5 (fun _ _ => False) I5 (station I5 n5) st5 stop) fun r s6 ⟨hr, I6⟩ => ?_
      subst hr
      have I7 : Inv X pins σ H5 s6 := I3.call' (ch := fp) I6.os I6.base I6.hok I6.bare fun b hb =>
        let z := (f3 b hb).1
        ⟨z.2.2.2.1, z.2.1, z.2.2.2.2.1, z.2.2.2.2.2⟩
      have nC : H5 s3.heap.objs.size = none := cL ▸ I6.free
      obtain ⟨m, hn, _⟩ := I6.loc
      have hn' : s6.heap.Ns ce.locals m := hn
      rw [cL] at hn'
      obtain ⟨g0, g1, g2, g3, g4, g5⟩ := I3.fpOk (Nat.le_refl _) nC
      exact ⟨m, hn', fun h'' sb => ⟨.ref D, H5, I7.turned (t' := s6.toks) (fun b o hb e => (sb.2 b hb).trans e) nC g1 g3 g4 g5, rfl, fin⟩⟩
    · refine thnF (T.item (X.blk s3 H3 scope ce fp) rfl rfl rfl hc i [] s5 _ H5 (fun _ _ => False) I5 (station I5 n5) st5 go) fun r s6 ⟨u, hr, h6⟩ => ?_
      subst hr
      refine thnF h6 fun _ s7 ⟨x, H7, I7, r7, y7, st7, n7⟩ => ?_
      have I7' := I7.pinned (station I7 n7) (T.obj _ _ st7)
      refine thnF (PGr.run _ s7 _ H7 x u _ I7' r7 (step x H7 y7)) fun _ s8 ⟨σ8, H8, I8, hw8, q8⟩ => thnF (PTr.run _ s8 σ8 H8 _ I8 q8) fun b s9 ⟨H9, I9, q9⟩ => ?_
      have back : ∀ {s' : Shared} {H' : Hp}, Inv (X.blk s3 H3 scope ce fp) ([] ++ pinsAt fp s7.heap) σ8 H' s' → Nx H' → ∃ m, m < n ∧ ∃ i H', Inv (X.blk s3 H3 scope ce fp) [] (wipe σ (own.map (·.2))) H' s' ∧ tn i s'.heap ∧ (∀ b ∈ fp, H' b = none) ∧ Z i m H' := fun {s' H'} I' nx => by
        obtain ⟨m', hm, z'⟩ := hNx H' nx
        have pin : ∀ b ∈ fp, ∀ o, s7.heap.get? b = some o → s'.heap.get? b = some o ∧ H' b = none := fun b hb o e =>
          let y := I'.pin (b, o) (List.mem_append_right _ (List.mem_append_right _ (mem_pinsAt hb e)))
          ⟨y.1, y.2.1⟩
        refine ⟨m', hm, i + 1, H', (I'.unpinned (pins := [])).weak (by rw [← hw8, wipe_length]) (fun j v e => ?_), T.keep _ _ _ st7 fun b hb o e => (pin b hb o e).1, fun b hb => ?_, z'⟩
        · rw [← hw8] at e
          exact (wipe_some e).1
        · obtain ⟨o, e, _⟩ := T.obj _ _ st7 b hb
          exact (pin b hb o e).2
      cases b with
      | false =>
        rw [if_neg (by decide)] at q9 ⊢
        exact back I9 q9
      | true =>
        rw [if_pos rfl] at q9 ⊢
        refine thnF (PEr.run _ s9 σ8 H9 _ I9 q9) fun z s10 ⟨yv, H10, I10, r10, k0, S0, n0, ey, hD10, hz10, nx⟩ => ?_
        subst ey
        exact addKO (X := X.blk s3 H3 scope ce fp) I10 hD10 r10 hz10 fun s11 I11 => back I11 nx
  have := PpSet.codeAny_compStart_set loop (T.self X.A 0 _ _ _ st4 loop)
  subst hs4 hce hcl hs3
  exact this
end
end PM

namespace PM
open PySem PySem.Spec L2 PySem.W
open PyProof.Rows hiding St

/-! ### sorted(a set of ints, or of texts) -/
def kPy : Key → PyData
  | .inl i => .int i
  | .inr x => .str x
def kSame (a b : Key) : Bool := a.isLeft == b.isLeft
def kLt (a b : Key) : Prop := match a, b with
  | .inl i, .inl j => i < j
  | .inr x, .inr y => x.cps.toList < y.cps.toList
  | _, _ => False
theorem str_ext {x y : Str} (h : x.cps.toList = y.cps.toList) : x = y := by
  cases x
  cases y
  simp at h
  rw [h]
theorem kLt_of {a b : Key} (s : kSame a b = true) (n : a ≠ b) (h : dataLt (kPy b) (kPy a) = false) : kLt a b := by
  cases a with
  | inl i => cases b with
    | inl j =>
      have h' : dataLt (.int j) (.int i) = false := h
      rw [dataLt_int] at h'
      have : i ≠ j := fun e => n (by rw [e])
      show i < j
      have := of_decide_eq_false h'
      omega
    | inr y => exact absurd s (by simp [kSame])
  | inr x => cases b with
    | inl j => exact absurd s (by simp [kSame])
    | inr y =>
      have h' : dataLt (.str y) (.str x) = false := h
      rw [dataLt_str] at h'
      have h2 : ¬ y.cps.toList < x.cps.toList := of_decide_eq_false h'
      have h3 : x.cps.toList ≤ y.cps.toList := List.not_lt.mp h2
      show x.cps.toList < y.cps.toList
      exact Std.lt_of_le_of_ne h3 fun e => n (by rw [str_ext e])
def rSortX (P : Program) (w : World) : List V → Hp → VK → Prop := fun vs H Q => ∃ (a : Addr) (S : Key → Bool) (n : Nat), vs = [.ref a] ∧ H a = some (SetKO P w a S n) ∧ (∀ k j, S k = true → S j = true → kSame k j = true) ∧
  ∀ (zs : List Key) (p : Addr), zs.Pairwise kLt → (∀ k, k ∈ zs ↔ S k = true) → H p = none → Q (.ref p) (upd H p (.lst (zs.map kV)))
theorem each_is {P : Program} {w : World} : ∀ {vs : List Value}, (∀ v ∈ vs, ∃ k, (mixKind P w).is k v = true) → ∃ ks, EachIs (fun v k => (mixKind P w).is k v = true) vs ks
  | [], _ => ⟨[], .nil⟩
  | v :: vs, h => by
    obtain ⟨k, hk⟩ := h v List.mem_cons_self
    obtain ⟨ks, hks⟩ := each_is (vs := vs) fun u m => h u (List.mem_cons_of_mem _ m)
    exact ⟨k :: ks, .cons hk hks⟩
theorem is_rel {P : Program} {w : World} {k : Key} {v : Value} (h : (mixKind P w).is k v = true) : RelV (kV k) v ∧ ∀ hp, Reads hp v (kPy k) [] := by
  rcases keyIs_shape h with ⟨i, t, rfl, rfl⟩ | ⟨x, t, rfl, rfl⟩
  · exact ⟨⟨t, rfl⟩, fun _ => .int i t⟩
  · exact ⟨⟨t, rfl⟩, fun _ => .str x t⟩
theorem each_kfn {P : Program} {w : World} : ∀ {vs : List Value} {ks : List Key}, EachIs (fun v k => (mixKind P w).is k v = true) vs ks → vs.map (kfn (mixKind P w)) = ks.map some
  | _, _, .nil => rfl
  | _, _, .cons h t => by rw [List.map_cons, List.map_cons, each_kfn t, kfn_of _ h]
section
variable {X : Cx}
theorem cr_sortX (hc : X.calm = true) (hu : X.A.units + 90 < cLine) : CallR X (.builtin "sorted") (rSortX X.prog X.w) := by
  intro pins s σ H vs us Q I r h
  obtain ⟨a, S, n, rfl, ha, hom, q⟩ := h
  rw [Vals.ref1 r]
  obtain ⟨o, es, ep, t, ho, hex, hd, E0, hf, hn, T⟩ := setKO_at I ha
  refine Calls.call_function_entry kind_sorted plain_sorted entry_sorted (args_sorted1 _) ?_
  unfold Builtin.«sorted»
  refine wpAny_bind (m := checkCount "sorted" 1 1 _) (wpAny_pure ?_)
  refine wpAny_bind (collect_set (A := X.A.in1) (I.ok.hd hc) ⟨o, ho, hex.1, hd⟩ hf E0.bd T.1 T.2 fun s1 out k1 hz g1 o1 pm => ?_)
  have ol : out.length < scanBound := by
    have z := pm.length_eq
    rw [List.length_map] at z
    rw [z, Array.length_toList]
    exact E0.bd
  have osz : out.length ≤ sizeLine := Nat.le_trans (Nat.le_of_lt ol) (by show 4096 ≤ sizeLine; decide)
  refine wpAny_bind (wpAny_newList ?_ osz)
  have hL : (s1.heap.push (seqObj "list" out.toArray 0)).get? s1.heap.objs.size = some (seqObj "list" out.toArray 0) := Heap.get?_push_size _ rfl
  obtain ⟨ks, ek⟩ := each_is (P := X.prog) (w := X.w) (vs := out) fun v m => by
    obtain ⟨e, m2, rfl⟩ := List.mem_map.mp (pm.mem_iff.mp m)
    obtain ⟨⟨k, hk, _⟩, _⟩ := E0.el e m2
    exact ⟨k, hk⟩
  have pk : (ks.map some).Perm (kfs (mixKind X.prog X.w) es) := by
    have := pm.map (kfn (mixKind X.prog X.w))
    rw [each_kfn ek, List.map_map] at this
    exact this
  have mem : ∀ k, k ∈ ks ↔ S k = true := fun k => by
    rw [E0.mem, ← pk.mem_iff, List.mem_map]
    exact ⟨fun m => ⟨k, m, rfl⟩, fun ⟨j, m, e⟩ => by cases e; exact m⟩
  have nd : ks.Nodup := by
    have := pk.nodup_iff.mpr E0.nd
    rw [List.nodup_iff_pairwise_ne, List.pairwise_map] at this
    exact this.imp fun h e => h (by rw [e])
  have er : ∀ hp : Heap, EachIs (fun v k => RelV (kV k) v ∧ ∃ as, Reads hp v (kPy k) as) out ks := fun hp => ek.mono fun v k z => ⟨(is_rel z).1, _, (is_rel z).2 hp⟩
  have hal : AllAlike (ks.map kPy) := by
    intro d m d' m'
    obtain ⟨k, mk, rfl⟩ := List.mem_map.mp m
    obtain ⟨j, mj, rfl⟩ := List.mem_map.mp m'
    have := hom k j ((mem k).mp mk) ((mem j).mp mj)
    cases k <;> cases j <;> first | (simp [kPy, alike]; done) | exact absurd this (by simp [kSame])
  have hsr : Sortable (ks.map kPy) := .inr fun d m => by
    obtain ⟨k, mk, rfl⟩ := List.mem_map.mp m
    cases k <;> exact ⟨by simp [kPy], by simp [kPy]⟩
  let hp := sortingHeap (s1.heap.push (seqObj "list" out.toArray 0)) s1.heap.objs.size out
  have SA : SortsAt X.prog X.w X.A.in1.in1 { s1 with heap := hp } (dataKind hp (ks.map kPy)) out :=
    SortsAt.data (s := { s1 with heap := hp }) (each_map (R := fun v d => ∃ as, Reads hp v d as) kPy ((er hp).mono fun v k z => z.2)) hal hsr fun d m => by
      obtain ⟨k, mk, rfl⟩ := List.mem_map.mp m
      have : X.A.in1.in1.units = X.A.units + 2 := rfl
      cases k <;> simp only [kPy, PyData.depth] <;> omega
  have ev := sortVals_data (h' := hp) (R := fun v k => RelV (kV k) v ∧ ∃ as, Reads hp v (kPy k) as) false (er hp) ((er hp).mono fun v k z => z.2) hal
  have hv := vals_each (f := kV) (fun _ _ z => z.1) ev
  refine wpAny_bind (wpAny_holding (wpAny_call_entry slot_list_sort ⟨_, hL, rfl⟩ entry_list_sort (list_sort_vals (s := { s1 with heap := s1.heap.push (seqObj "list" out.toArray 0) }) hL SA osz ⟨_, rfl, ?_⟩) (args_list_sort _)))
  obtain ⟨c, hc2⟩ := sortedHeap_at (vs := out) (out := (sortVals (dataKind hp (ks.map kPy)) false out out).toArray) hL
  have keepH : ∀ b u, s.heap.get? b = some u → (sortedHeap (s1.heap.push (seqObj "list" out.toArray 0)) s1.heap.objs.size out (sortVals (dataKind hp (ks.map kPy)) false out out).toArray).get? b = some u := fun b u e => by
    have e1 := k1 b u e
    have lt := Heap.lt_size e1
    rw [sortedHeap_old (Nat.ne_of_lt lt) (by rw [size_push']; exact Nat.lt_succ_of_lt lt)]
    exact Heap.get?_push_of_some _ e1
  generalize hs2 : sortedHeap (s1.heap.push (seqObj "list" out.toArray 0)) s1.heap.objs.size out (sortVals (dataKind hp (ks.map kPy)) false out out).toArray = h2 at hc2 keepH ⊢
  have fresh : H s1.heap.objs.size = none := I.hok.fresh hz
  have ps := List.mergeSort_perm ks (dataLe false kPy)
  have len : ((ks.mergeSort (dataLe false kPy)).map kV).length ≤ sizeLine := by
    rw [List.length_map, List.length_mergeSort, ← ek.length]
    exact osz
  have J : Inv X pins σ (upd H s1.heap.objs.size (.lst ((ks.mergeSort (dataLe false kPy)).map kV))) { s with heap := h2, gens := s1.gens, drawn := s1.drawn, toks := s1.toks } :=
    I.call (ch := []) (Un.laid keepH hz fresh) (I.hok.laid keepH hz ⟨len, _, c, hv, hc2⟩) (by rw [g1]; exact I.bare) fun _ z => nomatch z
  have es1 : ({ s1 with heap := h2 } : Shared) = { s with heap := h2, gens := s1.gens, drawn := s1.drawn, toks := s1.toks } := by
    cases s1
    cases s
    cases o1
    rfl
  refine wpAny_pure ⟨_, rfl, ?_⟩
  rw [es1]
  refine ⟨.ref _, _, J, rfl, q _ _ ?_ (fun k => ?_) fresh⟩
  · have srt := sort_pairwise (sortLe_total (listOrd itemOrd) false fun k => keyToks (kPy k)) ks
    have nd2 : (ks.mergeSort (dataLe false kPy)).Pairwise (· ≠ ·) := List.nodup_iff_pairwise_ne.mp (ps.nodup_iff.mpr nd)
    have both := srt.and nd2
    refine List.Pairwise.imp_of_mem (fun {k j} mk mj z => ?_) both
    refine kLt_of (hom k j ((mem k).mp (ps.mem_iff.mp mk)) ((mem j).mp (ps.mem_iff.mp mj))) z.2 ?_
    have z1 : (!dataLt (kPy j) (kPy k)) = true := z.1
    simpa using z1
  · rw [ps.mem_iff]
    exact mem k
end
end PM

namespace PM
open PySem PySem.Spec L2 PySem.W
open PyProof.Rows hiding St

/-! ### sorted({..}) by values -/
def pvK : Key → PV
  | .inl i => .int i
  | .inr x => .str x
theorem rep_key {K : PySem.W.Frag} {Ex : Ad} {m : List Addr} {H : Hp} {v : V} {k : Key} (r : Rep K Ex m H v (pvK k)) : v = kV k := by
  cases k <;> cases r <;> rfl
theorem repL_keys {K : PySem.W.Frag} {Ex : Ad} {m : List Addr} {H : Hp} : ∀ ks : List Key, RepL K Ex m H (ks.map kV) (ks.map pvK)
  | [] => .nil
  | .inl i :: ks => .cons (.int i) (repL_keys ks)
  | .inr x :: ks => .cons (.str x) (repL_keys ks)
def memK (k : Key) (l : List Key) : Bool := l.any fun j => decide (j = k)
theorem memK_iff {k : Key} {l : List Key} : memK k l = true ↔ k ∈ l := by
  simp [memK]
def ddK : List Key → List Key
  | [] => []
  | k :: ks => if memK k (ddK ks) = true then ddK ks else k :: ddK ks
theorem ddK_mem {k : Key} : ∀ {ks : List Key}, k ∈ ddK ks ↔ k ∈ ks
  | [] => Iff.rfl
  | j :: ks => by
    have ih := ddK_mem (k := k) (ks := ks)
    have ihj := ddK_mem (k := j) (ks := ks)
    by_cases q : memK j (ddK ks) = true
    · rw [ddK, if_pos q, ih, List.mem_cons]
      exact ⟨.inr, fun z => z.elim (fun e => by rw [e]; exact ihj.mp (memK_iff.mp q)) id⟩
    · rw [ddK, if_neg q, List.mem_cons, List.mem_cons, ih]
theorem ddK_nd : ∀ ks : List Key, (ddK ks).Nodup
  | [] => List.nodup_nil
  | j :: ks => by
    by_cases q : memK j (ddK ks) = true
    · rw [ddK, if_pos q]
      exact ddK_nd ks
    · rw [ddK, if_neg q]
      exact List.nodup_cons.mpr ⟨fun z => q (memK_iff.mpr z), ddK_nd ks⟩
def sortK (ks : List Key) : List Key := (ddK ks).mergeSort (dataLe false kPy)
theorem sortK_mem {k : Key} {ks : List Key} : k ∈ sortK ks ↔ k ∈ ks := by
  unfold sortK
  rw [(List.mergeSort_perm _ _).mem_iff, ddK_mem]
theorem sortK_lt {ks : List Key} (h : ∀ k ∈ ks, ∀ j ∈ ks, kSame k j = true) : (sortK ks).Pairwise kLt := by
  have srt := sort_pairwise (sortLe_total (listOrd itemOrd) false fun k => keyToks (kPy k)) (ddK ks)
  have nd := List.nodup_iff_pairwise_ne.mp ((List.mergeSort_perm (ddK ks) (dataLe false kPy)).nodup_iff.mpr (ddK_nd ks))
  refine List.Pairwise.imp_of_mem (fun {k j} mk mj z => ?_) (srt.and nd)
  refine kLt_of (h k (sortK_mem.mp mk) j (sortK_mem.mp mj)) z.2 ?_
  have z1 : (!dataLt (kPy j) (kPy k)) = true := z.1
  simpa using z1
theorem strict_uniq {α : Type} {lt : α → α → Prop} (irr : ∀ a, ¬ lt a a) (asy : ∀ a b, lt a b → ¬ lt b a) : ∀ {l m : List α}, l.Pairwise lt → m.Pairwise lt → (∀ k, k ∈ l ↔ k ∈ m) → l = m
  | [], [], _, _, _ => rfl
  | [], y :: m, _, _, h => by
    have := (h y).mpr List.mem_cons_self
    simp at this
  | x :: l, [], _, _, h => by
    have := (h x).mp List.mem_cons_self
    simp at this
  | x :: l, y :: m, hl, hm, h => by
    obtain ⟨lx, hl2⟩ := List.pairwise_cons.mp hl
    obtain ⟨my, hm2⟩ := List.pairwise_cons.mp hm
    have e : x = y := by
      rcases List.mem_cons.mp ((h x).mp List.mem_cons_self) with e | a
      · exact e
      · rcases List.mem_cons.mp ((h y).mpr List.mem_cons_self) with e | b
        · exact e.symm
        · exact absurd (lx y b) (asy _ _ (my x a))
    subst e
    have eq : ∀ k, k ∈ l ↔ k ∈ m := fun k => ⟨fun q => by
      rcases List.mem_cons.mp ((h k).mp (List.mem_cons_of_mem _ q)) with e | z
      · subst e
        exact absurd (lx _ q) (irr _)
      · exact z, fun q => by
      rcases List.mem_cons.mp ((h k).mpr (List.mem_cons_of_mem _ q)) with e | z
      · subst e
        exact absurd (my _ q) (irr _)
      · exact z⟩
    rw [strict_uniq irr asy hl2 hm2 eq]
theorem kLt_irr (k : Key) : ¬ kLt k k := by
  cases k with
  | inl i => exact Int.lt_irrefl i
  | inr x => exact Std.lt_irrefl
theorem kLt_asy (a b : Key) : kLt a b → ¬ kLt b a := by
  cases a <;> cases b <;> simp only [kLt] <;> intro h
  · omega
  · exact h.elim
  · exact h.elim
  · exact Std.not_gt_of_lt h
theorem sortK_uniq {zs ks : List Key} (p : zs.Pairwise kLt) (h : ∀ k ∈ ks, ∀ j ∈ ks, kSame k j = true) (m : ∀ k, k ∈ zs ↔ k ∈ ks) : zs = sortK ks :=
  strict_uniq kLt_irr kLt_asy p (sortK_lt h) fun k => (m k).trans sortK_mem.symm
/-- the turns of a set comprehension: acc: the keys met -/
def setL (chk : Hs → Prop) (bd : DB) (tt : DT) (te : DE) (env : Env) : List PV → List Key → Hs → (List Key → Hs → Prop) → Prop
  | [], acc, h, Q => chk h ∧ Q acc h
  | x :: xs, acc, h, Q => chk h ∧ bd x env fun env1 => tt env1 h (fun b h1 => if b = true then te env1 h1 (fun y h2 => ∃ k, y = .val (pvK k) ∧ acc.length + 1 < 4096 ∧ setL chk bd tt te env xs (acc ++ [k]) h2 Q) (fun _ _ => False) else setL chk bd tt te env xs acc h1 Q) (fun _ _ => False)
def dSortC (src : DI) (vs : List Nat) (bd : DB) (tt : DT) (te : DE) : DE := fun env h Q E => notOwn env vs = true ∧ src env h (fun xs chk h1 => setL chk bd tt te (wipeE env vs) xs [] h1 fun ks h2 => (∀ k ∈ ks, ∀ j ∈ ks, kSame k j = true) ∧ Q (.own ((sortK ks).map pvK)) h2) E
@[simp ↓] theorem dSortC_eq (src : DI) (vs : List Nat) (bd : DB) (tt : DT) (te : DE) (env : Env) (h : Hs) (Q : VQ) (E : XQ) : dSortC src vs bd tt te env h Q E = (notOwn env vs = true ∧ src env h (fun xs chk h1 => setL chk bd tt te (wipeE env vs) xs [] h1 fun ks h2 => (∀ k ∈ ks, ∀ j ∈ ks, kSame k j = true) ∧ Q (.own ((sortK ks).map pvK)) h2) E) := id rfl
section
variable {K : PySem.W.Frag} {W : WX}
theorem se_sortc {P : Program} {w : World} {wi : TI} {g : TG} {tt : TT} {te : TE} {vs : List Nat} {src : DI} {bd : DB} {ft : DT} {fe : DE} (hs : SI K W wi src) (hg : SG K vs g bd) (ht : ST K (fun _ _ _ _ => False) tt ft) (he : SE K (fun _ _ _ _ => False) te fe) :
    SE K W (tCB (rSortX P w) (tCons (tScX P w wi g tt te vs) tNil)) (dSortC src vs bd ft fe) := ⟨fun C m σ H env h Q E Q' eK R hf p px => by
  obtain ⟨hno, hf⟩ := hf
  refine hs.run C m σ H env h _ E _ eK R hf (fun C1 m1 J H1 xs chk h1 le S1 R1 ok q1 => ?_) px
  have eK1 : C1.K = K := le.K.trans eK
  intro D hD
  have h0D : C1.H0 D = none := by
    cases e : C1.H0 D with
    | none => rfl
    | some o => exact absurd hD (R1.dom D (by rw [e]; simp))
  have n0 : (C1.own (.ref D) (.own [])).K = K := (C1.own_K _ _).trans eK1
  have lep : ∀ p ∈ C1.pins, p ∈ (C1.own (.ref D) (.own [])).pins := fun p hp => by rw [C1.own_pins]; exact hp
  let Iv (i : Nat) (H2 : Hp) : Prop := i ≤ xs.length ∧ ∃ (m2 : List Addr) (h2 : Hs) (acc : List Key) (n : Nat), StE m1 H1 m2 H2 ∧ Rel (C1.own (.ref D) (.own [])) m2 σ H2 env h2 ∧ H2 D = some (SetKO P w D (fun k => memK k acc) n) ∧ D ∉ m2 ∧ n ≤ acc.length ∧
    setL chk bd ft fe (wipeE env vs) (xs.drop i) acc h2 fun ks h2 => (∀ k ∈ ks, ∀ j ∈ ks, kSame k j = true) ∧ Q (.own ((sortK ks).map pvK)) h2
  refine ⟨fun i n H2 => n = xs.length - i ∧ Iv i H2, ?_, ?_⟩
  · refine ⟨_, rfl, Nat.zero_le _, m1, h1, [], 0, .new hD, R1.fresh hD [], ?_, fun z => R1.mDom z hD, Nat.zero_le _, q1⟩
    rw [upd_same]
    rfl
  · rintro i n H2 ⟨rfl, hi, m2, h2, acc, cnt, S2, R2, hDa, nD, hcn, q2⟩
    by_cases hlt : i < xs.length
    · right
      have ex : xs[i]? = some xs[i] := List.getElem?_eq_getElem hlt
      rw [List.drop_eq_getElem_cons hlt] at q2
      unfold setL at q2
      obtain ⟨hc, q2⟩ := q2
      obtain ⟨go, yld⟩ := (ok _ m2 σ H2 env h2 (C1.own_K _ _) lep R2 hc i).1 _ ex
      refine ⟨go, Iv (i + 1), fun H' hN => ⟨_, by omega, rfl, hN⟩, fun x H3 hy => ?_⟩
      obtain ⟨sm, rx⟩ := yld x H3 hy
      have R3 : Rel (C1.own (.ref D) (.own [])) m2 σ H3 env h2 := R2.grow sm
      have Rw := R3.wipe vs
      have exw : ∀ b, ExOf (C1.own (.ref D) (.own [])) (wipe σ vs) (wipeE env vs) m2 b → ExOf (C1.own (.ref D) (.own [])) σ env m2 b := fun b q => by
        rcases q with q | q | q
        · exact .inl q
        · exact .inr (.inl (own_wipe q))
        · exact .inr (.inr q)
      refine hg.run _ m2 _ H3 _ h2 x _ _ _ n0 Rw (Rep.mono (Kp.le exw) ⟨[], by simp⟩ rx) q2 fun σ' env' R4 l4 k4 q4 => ?_
      refine ⟨(wipe_of (by rw [l4]) fun j hj => (k4 j hj).1).trans (wipe_wipe σ vs), ?_⟩
      have own' : ∀ b, OwnAt σ env b → OwnAt σ' env' b := fun b ⟨j, ys, e, s⟩ => by
        have nj : j ∉ vs := fun z => by
          have w := List.all_eq_true.mp hno j z
          rw [e] at w
          cases w
        refine ⟨j, ys, ?_, ?_⟩
        · rw [(k4 j nj).2, wipeE_get nj]
          exact e
        · rw [(k4 j nj).1, wipe_get]
          simp only [nj, false_and, if_false]
          exact s
      have exo : ∀ {m5 : List Addr} (b : Addr), ExOf (C1.own (.ref D) (.own [])) σ env m5 b → ExOf (C1.own (.ref D) (.own [])) σ' env' m5 b := fun {m5} b w => by
        rcases w with w | w | w
        · exact .inl w
        · exact .inr (.inl (own' b w))
        · exact .inr (.inr w)
      have outer : ∀ {m5 : List Addr} {H5 : Hp} {h5 : Hs}, StE m2 H3 m5 H5 → Rel (C1.own (.ref D) (.own [])) m5 σ' H5 env' h5 → Rel (C1.own (.ref D) (.own [])) m5 σ H5 env h5 := fun {m5 H5 h5} S R5 =>
        R3.step S ⟨R5.hm.len, R5.hm.nd, fun n a c e f => (R5.hm.at_ n a c e f).mono (Kp.le exo) ⟨[], by simp⟩ rfl⟩
      have base : StE m1 H1 m2 H3 := S2.trans (.same sm)
      have hD3 := sm _ _ hDa
      have nopx : ∀ {m5 : List Addr} {H5 : Hp}, PostX (fun _ _ _ _ => False) (C1.own (.ref D) (.own [])) m5 σ' H5 env' (fun _ _ => False) := fun c m' H' h' _ _ z => z
      refine ht.run _ m2 σ' H3 env' h2 _ _ _ n0 R4 q4 (fun m5 b H5 h5 S5 R5 q5 => ?_) nopx
      cases b with
      | false =>
        refine iteF ⟨hlt, m5, h5, acc, cnt, base.trans S5, outer S5 R5, S5.keep _ _ hD3 nD, S5.notin (by rw [hD3]; simp) nD, hcn, ?_⟩
        simpa using q5
      | true =>
        refine iteT (he.run _ m5 σ' H5 env' h5 _ _ _ n0 R5 (by simpa using q5) (fun m6 y H6 sy h6 S6 R6 r6 q6 => ?_) nopx)
        obtain ⟨k, ey, lz, q6⟩ := q6
        subst ey
        have S := S5.trans S6
        have hD6 := S.keep _ _ hD3 nD
        have nD6 : D ∉ m6 := S.notin (by rw [hD3]; simp) nD
        have ro := outer S R6.drop
        refine ⟨k, fun j => memK j acc, cnt, rep_key r6, hD6, (by show cnt + 1 < 4096; omega), ?_⟩
        show Iv (i + 1) _
        refine ⟨hlt, m6, h6, acc ++ [k], (if memK k acc = true then cnt else cnt + 1), ?_, ro.mutTemp h0D nD6, ?_, nD6, ?_, q6⟩
        · have B := base.trans S
          exact ⟨fun b o e n => by rw [upd_ne (ne_of_none e hD)]; exact B.keep b o e n, fun b q => by
            by_cases z : b = D
            · rw [z, upd_same]
              simp
            · rw [upd_ne z]
              exact B.dom b q, B.ext⟩
        · rw [upd_same]
          have e1 : (fun j => memK j acc || decide (j = k)) = fun j => memK j (acc ++ [k]) := funext fun j => by
            rw [Bool.eq_iff_iff, Bool.or_eq_true, memK_iff, memK_iff, decide_eq_true_eq, List.mem_append, List.mem_singleton]
          rw [e1]
        · rw [List.length_append, List.length_singleton]
          split <;> omega
    · left
      have ei : i = xs.length := by omega
      rw [List.drop_eq_nil_of_le (by omega)] at q2
      obtain ⟨hc, hom, q2⟩ := q2
      refine ⟨(ok _ m2 σ H2 env h2 (C1.own_K _ _) lep R2 hc i).2 (by omega), ?_⟩
      have S := S1.trans S2
      refine ⟨D, _, cnt, rfl, hDa, fun k j a b => hom k (memK_iff.mp a) j (memK_iff.mp b), fun zs b zp zm hb => ?_⟩
      have R2' : Rel C m2 σ H2 env h2 := R2.drop.back le
      obtain rfl := sortK_uniq zp hom fun k => (zm k).trans memK_iff
      have pn : ∀ {v' : V} {H' : Hp} {sv' : SV}, Same H2 H' → Rel (C.own v' sv') m2 σ H' env h2 → RepS C (ExOf C σ env m2) m2 (fun a => H2 a = none) H' v' sv' → Q sv' h2 → Q' v' H' := fun {v' H' sv'} s r3 r4 q =>
        p m2 v' H' sv' h2 (S.trans (.same s)) r3 (r4.less rfl (fun _ q => q) fun a n => stnew S n) q
      exact PostO.newL (q := fun sv => Q sv h2) (fun v' H' sv' s r3 r4 q => pn s r3 r4 q) R2' (repL_keys _) q2 hb⟩
end
theorem pd_sortc {X : Cx} {W : WX} {elt tg iter : Expr} {ifs : List Expr} {scope : Scope} {own : List (PySem.Str × Nat)} {pos p2 p : Pos} {vs : List Nat} {fi : DI} {bd : DB} {ft : DT} {fe : DE} (hc : X.calm = true) (hu : X.A.units + 90 < cLine) (hm : X.mg "sorted" = none) (hN : X.N.Nodup) (ok : BlkOk X.N X.env.scope scope own) (ev : own.map (·.2) = vs) (hi : PId X W tg iter fi)
    (hg : BlkAll X scope fun Y => PGd Y vs tg bd) (ht : BlkAll X scope fun Y => PTsd Y W0 ifs ft) (he : BlkAll X scope fun Y => PEd Y W0 elt fe) (hs : ∀ x, foldedSetIterable iter X.env x = pure x := by intro _; rfl)
    (hgl : Gl X "sorted" := by rfl) (hst : starEach [.SetComp elt [⟨tg, iter, ifs, 0⟩] scope pos] X.env = (false, eval (.SetComp elt [⟨tg, iter, ifs, 0⟩] scope pos) X.env) :: starEach [] X.env := by rfl) (hpl : (backTo p2 (starEach [] X.env)).any (·.1) = false := by rfl) :
    PEd X W (.Call (.Name "sorted" p) [.SetComp elt [⟨tg, iter, ifs, 0⟩] scope pos] [] p2) (dSortC fi vs bd ft fe) := by
  subst ev
  obtain ⟨g, h1, h2⟩ := PGd.all hg
  exact .of (pe_callB (cr_sortX hc hu) hgl hm (by decide +kernel) (pa_cons (pe_scX (tt := tT X.K W0 ft) (te := tE X.K W0 fe) hc hN hi ok h1 ht he hs) pa_nil hst) (he := hst) (hpl := hpl)) (se_sortc siI h2 stT seE)
end PM

namespace PM
open PySem PySem.Spec L2 PySem.W
open PyProof.Rows hiding St

/-! ### texts: join, str -/
def strsOf : List PV → Option (List Str)
  | [] => some []
  | .str i :: xs => (strsOf xs).map (i :: ·)
  | _ :: _ => none
@[simp] theorem strsOf_nil : strsOf [] = some [] := rfl
@[simp] theorem strsOf_cons (b : Str) (xs : List PV) : strsOf (.str b :: xs) = (strsOf xs).map (b :: ·) := rfl
@[simp] theorem strsOf_map (ns : List Str) : strsOf (ns.map .str) = some ns := by
  induction ns with
  | nil => rfl
  | cons n ns ih => simp [ih]
@[simp] theorem strsOf_mapf {α : Type} (l : List α) (f : α → Str) : strsOf (l.map fun a => .str (f a)) = some (l.map f) := by
  induction l with
  | nil => rfl
  | cons a l ih => simp [ih]
def JoinFits (s : Str) (ys : List Str) : Prop := (ys.map (·.length)).sum + ys.length * s.length ≤ 16777216
def dJoin (a b : DE) : DE := fun env h Q E => a env h (fun x h1 => ∃ s, x = .val (.str s) ∧ b env h1 (fun y h2 => ∃ xs ys, seqC h2 y = some xs ∧ strsOf xs = some ys ∧ JoinFits s ys ∧ Q (.val (.str (Txt.join s ys))) h2) E) E
@[simp ↓] theorem dJoin_eq (a b : DE) (env : Env) (h : Hs) (Q : VQ) (E : XQ) : dJoin a b env h Q E = (a env h (fun x h1 => ∃ s, x = .val (.str s) ∧ b env h1 (fun y h2 => ∃ xs ys, seqC h2 y = some xs ∧ strsOf xs = some ys ∧ JoinFits s ys ∧ Q (.val (.str (Txt.join s ys))) h2) E) E) := id rfl
def rJoinV (K : PySem.W.Frag) : V → List V → Hp → VK → Prop := fun x xs H Q => ∃ a p, ∃ ys : List Str, x = .str a ∧ xs = [.ref p] ∧ (SqL K H p (ys.map V.str) ∨ SqT K H p (ys.map V.str)) ∧ (ys.map (·.length)).sum + ys.length * a.length ≤ 16777216 ∧ Q (.str (Txt.join a ys)) H
section
variable {K : PySem.W.Frag} {W : WX} {ta tb : TE} {fa fb : DE}
end
/-- str(n) -/
def gStrI : G1 := fun _ x q => match x with
  | .val (.int i) => i.natAbs.log2 < 1920 ∧ q (.val (.str (toString i : String)))
  | _ => False
@[simp ↓] theorem gStrI_eq (u0 : Hs) (x : SV) (q : SV → Prop) : gStrI u0 x q = (match x with
  | .val (.int i) => i.natAbs.log2 < 1920 ∧ q (.val (.str (toString i : String)))
  | _ => False) := id rfl
section
variable {X : Cx} {W : WX} {o e : Expr} {fo fe : DE} {es : List Expr} {fs : DA} {pos p apos : Pos}
end
end PM

namespace PM
open PySem PySem.Spec L2 PySem.W
open PyProof.Rows hiding St

/-! ### dicts with keys ints and texts -/
def kP : L2.Key → PV
  | .inl i => .int i
  | .inr x => .str x
@[simp] theorem kP_inl (i : Int) : kP (.inl i) = .int i := rfl
@[simp] theorem kP_inr (x : Str) : kP (.inr x) = .str x := rfl
def asKey : SV → Option L2.Key
  | .val (.int i) => some (.inl i)
  | .val (.str x) => some (.inr x)
  | _ => none
@[simp] theorem asKey_int (i : Int) : asKey (.val (.int i)) = some (.inl i) := rfl
@[simp] theorem asKey_str (x : Str) : asKey (.val (.str x)) = some (.inr x) := rfl
def valP (kvs : List (L2.Key × PV)) (k : L2.Key) : Option PV := (kvs.find? fun kv => decide (kv.1 = k)).map (·.2)
section
variable {K : PySem.W.Frag} {W : WX} {C : Ctx} {m : List Addr} {σ : St} {env : Env} {H : Hp} {h : Hs}
/-- a new cell of any kind -/
theorem Rel.allocC {a : Addr} {c : Cell} {o : HO} (R : Rel C m σ H env h) (n : H a = none) (r : ∀ Ex, CellR C.K Ex (m ++ [a]) (upd H a o) a c) :
    StE m H (m ++ [a]) (upd H a o) ∧ Rel C (m ++ [a]) σ (upd H a o) env (h ++ [c]) := by
  have nm : a ∉ m := fun z => R.mDom z n
  have n0 : C.H0 a = none := by
    cases e : C.H0 a with
    | none => rfl
    | some o => exact absurd n (R.dom a (by rw [e]; simp))
  refine ⟨⟨fun b u e _ => by rw [upd_ne (ne_of_none e n)]; exact e, fun b q => by
    by_cases z : b = a
    · rw [z, upd_same]
      simp
    · rw [upd_ne z]
      exact q, [a], rfl, fun b hb => by rw [List.mem_singleton.mp hb]; exact n⟩, ?_⟩
  have R' := R.fresh (o := o) n []
  have R0 := R'.drop
  have no : ¬ OwnAt σ env a := R'.gown a (.inr (.inr rfl))
  have ex : ∀ b, ExOf C σ env (m ++ [a]) b → ExOf (C.own (.ref a) (.own [])) σ env m b := fun b z => by
    rcases z with z | z | z
    · exact .inl (C.own_GT _ _ z)
    · exact .inr (.inl z)
    · rcases List.mem_append.mp z with z | z
      · exact .inr (.inr z)
      · rw [List.mem_singleton.mp z]
        exact .inl (.inr (.inr rfl))
  have slots : ∀ w sw, SlotR (C.own (.ref a) (.own [])) σ env m (upd H a o) w sw → (sw.isOwn = true → w ≠ .ref a) → SlotR C σ env (m ++ [a]) (upd H a o) w sw := fun w sw ⟨r1, b1⟩ no' => by
    refine ⟨?_, b1.le rfl (fun b o => .inl o) fun b q => .inl q⟩
    cases sw with
    | val p => exact Rep.mono (Kp.le ex) ⟨_, rfl⟩ r1
    | own zs =>
      obtain ⟨c, ws, rfl, hc, hn, cm, q⟩ := r1
      refine ⟨c, ws, rfl, hc, hn, fun z => ?_, RepL.mono (Kp.le fun b z => z.imp (ex b) id) ⟨_, rfl⟩ q⟩
      rcases List.mem_append.mp z with z | z
      · exact cm z
      · exact no' rfl (by rw [List.mem_singleton.mp z])
    | brw zs =>
      obtain ⟨c, ws, rfl, hc, q⟩ := r1
      refine ⟨c, ws, rfl, ⟨hc.1, fun z => ?_⟩, RepL.mono (Kp.le ex) ⟨_, rfl⟩ q⟩
      rcases List.mem_append.mp z with z | z
      · exact hc.2 z
      · exact (b1 c rfl).2 (.inr (by rw [List.mem_singleton.mp z]))
    | exc _ _ => first | (cases e; done) | (cases nb; done) | exact r | exact r1 | exact ⟨r, trivial⟩ | exact ⟨r1, trivial⟩ | exact ⟨rv, trivial⟩ | trivial
    | scr ns =>
      obtain ⟨c, rfl, hc⟩ := r1
      refine ⟨c, rfl, ?_⟩
      rcases b1 c rfl with z | z
      · exact .inr z
      · rcases hc with hc | hc
        · refine .inl ⟨hc.1, fun e => ?_⟩
          rcases List.mem_append.mp e with e | e
          · exact hc.2 e
          · exact z.2 (.inr (by rw [List.mem_singleton.mp e]))
        · exact .inr hc
  refine ⟨R.len, fun j sw e => ?_, fun p hp => ⟨slots _ _ (R'.pin p hp).1 (fun q => by rw [(R'.pin p hp).2] at q; cases q), (R'.pin p hp).2⟩, R.uniq, ⟨by rw [List.length_append, List.length_append, R.hm.len]; rfl, ?_, fun k b c' e f => ?_⟩, R0.keep, R0.dom, ?_, R0.gdom, R0.gown⟩
  · obtain ⟨w, s, r1⟩ := R'.slot j sw e
    refine ⟨w, s, slots w sw r1 fun q z => ?_⟩
    cases sw with
    | own zs => exact no ⟨j, zs, e, by rw [← z]; exact s⟩
    | _ => cases q
  · rw [List.nodup_append]
    exact ⟨R.hm.nd, by simp, fun x hx y hy => by rw [List.mem_singleton.mp hy]; exact fun z => nm (z ▸ hx)⟩
  · by_cases hk : k < m.length
    · rw [List.getElem?_append_left hk] at e
      rw [List.getElem?_append_left (by rw [← R.hm.len]; exact hk)] at f
      exact (R'.hm.at_ k b c' e f).mono (Kp.le ex) ⟨_, rfl⟩ rfl
    · rw [List.getElem?_append_right (by omega)] at e
      rw [List.getElem?_append_right (by rw [← R.hm.len]; omega)] at f
      have e1 := List.mem_singleton.mp (List.mem_of_getElem? e)
      have e2 := List.mem_singleton.mp (List.mem_of_getElem? f)
      subst e1 e2
      exact r _
  · obtain ⟨ms, rfl, hn⟩ := R0.pre
    refine ⟨ms ++ [a], by simp, fun b hb => ?_⟩
    rcases List.mem_append.mp hb with z | z
    · exact hn b z
    · rw [List.mem_singleton.mp z]
      exact n0
def dDget (a b : DE) : DE := fun env h Q E => a env h (fun x h1 => b env h1 (fun y h2 => ∃ n kvs k p, x = .val (.ref n) ∧ h2[n]? = some (.dK kvs) ∧ asKey y = some k ∧ valP kvs k = some p ∧ Q (.val p) h2) E) E
@[simp ↓] theorem dDget_eq (a b : DE) (env : Env) (h : Hs) (Q : VQ) (E : XQ) : dDget a b env h Q E = (a env h (fun x h1 => b env h1 (fun y h2 => ∃ n kvs k p, x = .val (.ref n) ∧ h2[n]? = some (.dK kvs) ∧ asKey y = some k ∧ valP kvs k = some p ∧ Q (.val p) h2) E) E) := id rfl
/-- the pairs of a display -/
def dPairs : List (L2.Key × DE) → Env → Hs → (List (L2.Key × PV) → Hs → Prop) → XQ → Prop
  | [], _, h, Q, _ => Q [] h
  | (k, f) :: r, env, h, Q, E => f env h (fun y h1 => match y.toVal with
    | some p => dPairs r env h1 (fun ps h2 => Q ((k, p) :: ps) h2) E
    | none => False) E
@[simp ↓] theorem dPairs_nil (env : Env) (h : Hs) (Q : List (L2.Key × PV) → Hs → Prop) (E : XQ) : dPairs [] env h Q E = Q [] h := id rfl
@[simp ↓] theorem dPairs_cons (k : L2.Key) (f : DE) (r : List (L2.Key × DE)) (env : Env) (h : Hs) (Q : List (L2.Key × PV) → Hs → Prop) (E : XQ) : dPairs ((k, f) :: r) env h Q E = f env h (fun y h1 => match y.toVal with
    | some p => dPairs r env h1 (fun ps h2 => Q ((k, p) :: ps) h2) E
    | none => False) E := id rfl
def dDisp (ps : List (L2.Key × DE)) : DE := fun env h Q E => dPairs ps env (h ++ [.dK []]) (fun kvs h2 => h2[h.length]? = some (.dK []) ∧ kvs.length ≤ 15 ∧ (kvs.map (·.1)).Nodup ∧ Q (.val (.ref h.length)) (h2.set h.length (.dK kvs))) E
@[simp ↓] theorem dDisp_eq (ps : List (L2.Key × DE)) (env : Env) (h : Hs) (Q : VQ) (E : XQ) : dDisp ps env h Q E = dPairs ps env (h ++ [.dK []]) (fun kvs h2 => h2[h.length]? = some (.dK []) ∧ kvs.length ≤ 15 ∧ (kvs.map (·.1)).Nodup ∧ Q (.val (.ref h.length)) (h2.set h.length (.dK kvs))) E := id rfl
inductive PrsS (K : PySem.W.Frag) (W : WX) : List (TE × TE) → List (L2.Key × DE) → Prop
  | nil : PrsS K W [] []
  | cons {k : L2.Key} {te : TE} {fe : DE} {trs : List (TE × TE)} {ps : List (L2.Key × DE)} (h : SE K W te fe) (r : PrsS K W trs ps) : PrsS K W ((tC (kV k), te) :: trs) ((k, fe) :: ps)
end
section
variable {X : Cx} {W : WX} {o e : Expr} {fo fe : DE} {pos : Pos}
structure Prsd (X : Cx) (W : WX) (pos : Pos) (ks : List (Option Expr)) (vs : List Expr) (ps : List (L2.Key × DE)) : Prop where
  ok : ∃ trs, PPs X pos ks vs trs ∧ PrsS X.K W trs ps
end
end PM

namespace PM
open PySem PySem.Spec L2 PySem.W
open PyProof.Rows hiding St

/-! ### the call of a lambda, over the heap alone -/
section
variable {prog : Program} {w : World} {A : Around} {s : Shared} {E : Value → Shared → Prop}
/-- what is asked of the lambda's scope: one parameter, nothing captured -/
structure LamOne (scope : Scope) (x : Str) : Prop where
  kind : scope.kind = .function
  co : scope.isCoroutine = false
  gen : scope.isGenerator = false
  loc : scope.names.lookup x = some .local
  nc : ∀ y ∈ scope.names, y.2 ≠ .cell
end

/-! ### a lambda is made: only the maker's table changes -/
/-- all but the table at P stays -/
def ExtP (P : Addr) (H H' : Hp) : Prop := ∀ b o, H b = some o → b ≠ P → H' b = some o
/-- the table tells what it told, and new code objects -/
def TabStep (P : Addr) (q : Str) (H H' : Hp) : Prop := ∀ ps : Array Value, H P = some (.tbl ps) → TriplesOk ps.toList → ∃ ps2 : Array Value, H' P = some (.tbl ps2) ∧ TriplesOk ps2.toList ∧
  ∀ (pos : Pos) (cv : Value), codeAmong pos ps2.toList = some cv → codeAmong pos ps.toList = some cv ∨ ∃ k, cv = .ref k ∧ H k = none ∧ H' k = some (LamX.CodeO k q)
section
variable {X : Cx} {pins : List (Addr × Obj)} {σ : St} {H : Hp} {s : Shared}
end
/-! ### sorted(e, key=lambda x: x[:2]) -/
def kI2 (b : V × Int × Int) : PyData := .tuple [.int b.2.1, .int b.2.2]
def rSortLam (K : PySem.W.Frag) (P : Addr) (q : Str) : V → Hp → VK → Prop := fun x H Q => LamX.TabS H P q ∧ ∃ (a : Addr) (bs : List (V × Int × Int)), x = .ref a ∧ SqL K H a (bs.map (·.1)) ∧
  (∀ b ∈ bs, ∃ t rest, b.1 = .ref t ∧ SqT K H t (.int b.2.1 :: .int b.2.2 :: rest) ∧ rest ≠ []) ∧
  ∀ H2 p, ExtP P H H2 → TabStep P q H H2 → H2 p = none → Q (.ref p) (upd H2 p (.lst ((bs.mergeSort (dataLe false kI2)).map (·.1))))
section
variable {X : Cx}
/-- what is seen of the text: the lambda, its one parameter -/
structure LamText (X : Cx) (params : Arguments) (scope : Scope) (x : Str) (body : Expr) : Prop where
  one : LamOne scope x
  dbg : (x == ("__debug__" : Str)) = false
  dflt : defaultsOf params X.env = ([], [])
  free : ∀ y ∈ scope.names, y.2 ≠ .free
  clo : cloFrom X.env.cells scope.names [] = []
  bind : ∀ (qual : Str) (pm v cd ctv : Value), bindArgs (kla_fn "<lambda>" qual params body scope [] pm cd ctv) ⟨[v], []⟩ = pure [(x, v)]
def tSortLam (K : PySem.W.Frag) (P : Addr) (q : Str) (t : TE) : TE := fun σ H Q => t σ H fun x H1 => rSortLam K P q x H1 Q
end
end PM

namespace PM
open PySem PySem.Spec L2 PySem.W
open PyProof.Rows hiding St

/-! ### sorted(.., key=lambda x: x[:2]) by values -/
def kI2P (b : PV × Int × Int) : PyData := .tuple [.int b.2.1, .int b.2.2]
def srt2 (bs : List (PV × Int × Int)) : List (PV × Int × Int) := bs.mergeSort (dataLe false kI2P)
def dSortLam (P : Addr) (q : Str) (a : DE) : DE := fun env h Q E => a env h (fun x h1 => ∃ (n : Nat) (bs : List (PV × Int × Int)), h1[n]? = some (.tab P q) ∧ listC h1 x = some (bs.map (·.1)) ∧ (∀ b ∈ bs, ∃ rest, b.1 = .tup (.int b.2.1 :: .int b.2.2 :: rest) ∧ rest ≠ []) ∧ Q (.own ((srt2 bs).map (·.1))) h1) E
@[simp ↓] theorem dSortLam_eq (P : Addr) (q : Str) (a : DE) (env : Env) (h : Hs) (Q : VQ) (E : XQ) : dSortLam P q a env h Q E = (a env h (fun x h1 => ∃ (n : Nat) (bs : List (PV × Int × Int)), h1[n]? = some (.tab P q) ∧ listC h1 x = some (bs.map (·.1)) ∧ (∀ b ∈ bs, ∃ rest, b.1 = .tup (.int b.2.1 :: .int b.2.2 :: rest) ∧ rest ≠ []) ∧ Q (.own ((srt2 bs).map (·.1))) h1) E) := id rfl
section
variable {K : PySem.W.Frag} {W : WX}
end
section
variable {X : Cx} {W : WX} {e : Expr} {fe : DE}
end
end PM

namespace PM
open PySem PySem.Spec L2
open PyProof.Rows hiding St

/-! ### a def whose own code object is known -/
section
variable {P : Program} {w : World} {K : PySem.W.Frag} {mg : Str → Option Value} {base : Heap}
end
/-- the end with the tables of any defs -/
theorem walkT {l : PySem.W.OpenLaw} {n k : Nat} {q : Program} {loose : List Str} {XP : (Str → Option Value) → Heap → Prop} {YP : World → Heap → Prop} {d : DefRec} {K : Params → PySem.W.Frag} {x : Str}
    (m1 : l.most = some n) (m2 : n ≤ sizeLine) (m3 : d.params.defaults = []) (m4 : Room k callerA)
    (m5 : ∀ (w : World) (h : Heap), YP w h → (K w.params).In h)
    (F : ∀ (w : World) (mg : Str → Option Value) (fa : Addr) (h : Heap), (K w.params).In h → h.Ns mainGlobals mg → mg d.name = some (.ref fa) →
      (∀ (y : Str) (c Pt : Addr), ((recsOf q).any (fun e => e.name == y)) = true → PySem.W.tabIn (K w.params) y = some (c, Pt) → PySem.W.CodeHd h c Pt ∧ h.get? Pt = some (PySem.W.tabObj #[])) → LamX.LawAtS l w (K w.params) CX0 k n x mg fa h) : PySem.W.WalkO q loose XP YP l.row.toRowW d [] (fun f vs => PySem.call f vs) := by
  refine Att.attach_callB m1 m3 fun w s₀ s₁ mg mb fa o pm cd doc a vs ns G Yw ho hd hcd hmg hobj hints hlen hbits hg => ?_
  have here := m5 w _ Yw
  obtain ⟨fd, cs, sp, t1, t2, t3, t4, t5, t6⟩ := F w mg fa _ here G.T.g hmg fun y c Pt e1 e2 => by
    obtain ⟨dy, e3⟩ := Option.isSome_iff_exists.mp ((List.find?_isSome (p := fun e : DefRec => e.name == y)).mpr (List.any_eq_true.mp e1))
    exact PySem.W.tab_of G.T here e3 e2
  exact LamX.law_callTs here G.T.g G.T.b G.T.builtins G.T.nolimit hg t1 t2 t3 G.T.bmain hobj hints (Nat.le_trans hlen m2) m4 t6 t4 (fun H' u1 u2 => t5 H' a ns hlen hbits u1 u2) fun _ _ _ h => h
end PM

namespace PM
open PySem PySem.Spec L2 PySem.W
open PyProof.Rows hiding St

/-! ### the call of `lambda x: (x[i], x[j])`, over the heap alone -/
section
variable {prog : Program} {w : World} {A : Around} {s : Shared} {E : Value → Shared → Prop}
end
end PM

namespace PM
open PySem PySem.Spec L2 PySem.W
open PyProof.Rows hiding St

/-! ### sorted(e, key=lambda x: (x[i], x[j])) -/
def rSortLam2 (K : PySem.W.Frag) (i j : Nat) (P : Addr) (q : Str) : V → Hp → VK → Prop := fun x H Q => LamX.TabS H P q ∧ ∃ (a : Addr) (bs : List (V × Int × Int)), x = .ref a ∧ SqL K H a (bs.map (·.1)) ∧
  (∀ b ∈ bs, ∃ t xs, b.1 = .ref t ∧ SqT K H t xs ∧ xs[i]? = some (.int b.2.1) ∧ xs[j]? = some (.int b.2.2)) ∧
  ∀ H2 p, ExtP P H H2 → TabStep P q H H2 → H2 p = none → Q (.ref p) (upd H2 p (.lst ((bs.mergeSort (dataLe false kI2)).map (·.1))))
section
variable {X : Cx}
def tSortLam2 (K : PySem.W.Frag) (i j : Nat) (P : Addr) (q : Str) (t : TE) : TE := fun σ H Q => t σ H fun x H1 => rSortLam2 K i j P q x H1 Q
end
end PM

namespace PM
open PySem PySem.Spec L2 PySem.W
open PyProof.Rows hiding St

/-! ### sorted(.., key=lambda x: (x[i], x[j])) by values -/
def dSortLam2 (i j : Nat) (P : Addr) (q : Str) (a : DE) : DE := fun env h Q E => a env h (fun x h1 => ∃ (n : Nat) (bs : List (PV × Int × Int)), h1[n]? = some (.tab P q) ∧ listC h1 x = some (bs.map (·.1)) ∧ (∀ b ∈ bs, ∃ xs, b.1 = .tup xs ∧ xs[i]? = some (.int b.2.1) ∧ xs[j]? = some (.int b.2.2)) ∧ Q (.own ((srt2 bs).map (·.1))) h1) E
@[simp ↓] theorem dSortLam2_eq (i j : Nat) (P : Addr) (q : Str) (a : DE) (env : Env) (h : Hs) (Q : VQ) (E : XQ) : dSortLam2 i j P q a env h Q E = (a env h (fun x h1 => ∃ (n : Nat) (bs : List (PV × Int × Int)), h1[n]? = some (.tab P q) ∧ listC h1 x = some (bs.map (·.1)) ∧ (∀ b ∈ bs, ∃ xs, b.1 = .tup xs ∧ xs[i]? = some (.int b.2.1) ∧ xs[j]? = some (.int b.2.2)) ∧ Q (.own ((srt2 bs).map (·.1))) h1) E) := id rfl
section
variable {K : PySem.W.Frag} {W : WX}
end
section
variable {X : Cx} {W : WX} {e : Expr} {fe : DE}
end
end PM

namespace PM
open PySem PySem.Spec L2
open PyProof.Rows hiding St

/-! ### x.extend(e), x a name that holds a list of its own; e a new list or a cell -/
def extC (h : Hs) : SV → Option (List PV)
  | .own zs => some zs
  | .val (.ref n) => match h[n]? with
    | some (.lst zs) => some zs
    | _ => none
  | _ => none
section
variable {K : PySem.W.Frag} {W : WX}
def sExtV (i : Nat) (e : DE) : DS := fun D env h => match env[i]? with
  | some (some (.own xs)) => e env h (fun y h1 => ∃ zs, extC h1 y = some zs ∧ xs.length + zs.length ≤ sizeLine ∧ D.nx (env.set i (some (.own (xs ++ zs)))) h1) fun c h1 => D.ex c env h1
  | _ => False
@[simp ↓] theorem sExtV_eq (i : Nat) (e : DE) (D : DEnds) (env : Env) (h : Hs) : sExtV i e D env h = (match env[i]? with
  | some (some (.own xs)) => e env h (fun y h1 => ∃ zs, extC h1 y = some zs ∧ xs.length + zs.length ≤ sizeLine ∧ D.nx (env.set i (some (.own (xs ++ zs)))) h1) fun c h1 => D.ex c env h1
  | _ => False) := id rfl
end
section
variable {X : Cx} {W : WX} {e : Expr} {fe : DE} {apos cpos pos : Pos}
end
end PM

namespace PM
open PySem PySem.Spec L2
open PyProof.Rows hiding St

/-! ### {}, d[k] = v -/
def dNewK : DE := fun _ h Q _ => Q (.val (.ref h.length)) (h ++ [.dK []])
@[simp ↓] theorem dNewK_eq (u0 : Env) (h : Hs) (Q : VQ) (u1 : XQ) : dNewK u0 h Q u1 = Q (.val (.ref h.length)) (h ++ [.dK []]) := id rfl
def putP (kvs : List (L2.Key × PV)) (k : L2.Key) (v : PV) : List (L2.Key × PV) :=
  if (kvs.any fun kv => decide (kv.1 = k)) = true then kvs.map (fun kv => if kv.1 = k then (kv.1, v) else kv) else kvs ++ [(k, v)]
def sSetD (o i e : DE) : DS := fun D env h => e env h (fun v h1 => match v.toVal with
  | some p => o env h1 (fun x h2 => i env h2 (fun y h3 => ∃ n kvs k, x = .val (.ref n) ∧ asKey y = some k ∧ h3[n]? = some (.dK kvs) ∧ kvs.length < sizeLine ∧ D.nx env (h3.set n (.dK (putP kvs k p)))) fun c h => D.ex c env h) fun c h => D.ex c env h
  | none => False) fun c h => D.ex c env h
@[simp ↓] theorem sSetD_eq (o i e : DE) (D : DEnds) (env : Env) (h : Hs) : sSetD o i e D env h = (e env h (fun v h1 => match v.toVal with
  | some p => o env h1 (fun x h2 => i env h2 (fun y h3 => ∃ n kvs k, x = .val (.ref n) ∧ asKey y = some k ∧ h3[n]? = some (.dK kvs) ∧ kvs.length < sizeLine ∧ D.nx env (h3.set n (.dK (putP kvs k p)))) fun c h => D.ex c env h) fun c h => D.ex c env h
  | none => False) fun c h => D.ex c env h) := id rfl
section
variable {K : PySem.W.Frag} {W : WX} {C : Ctx} {m : List Addr} {σ : St} {env : Env} {H : Hp} {h : Hs}
theorem se_newK : SE K W tDNewK dNewK := ⟨fun C m σ H env h Q E Q' eK R hf p px => by
  intro a na
  obtain ⟨S0, R0⟩ := R.allocC (a := a) (c := .dK []) (o := .dK []) na fun Ex => ⟨[], upd_same, rfl, .nil⟩
  refine p _ _ _ (.val (.ref h.length)) _ S0 R0 (.ref ?_) hf
  rw [← R.hm.len, List.getElem?_append_right (Nat.le_refl _)]
  simp⟩
end
section
variable {X : Cx} {W : WX} {o i e : Expr} {fo fi fe : DE} {pos tpos : Pos}
theorem pd_newK : PEd X W (.Dict [] [] pos) dNewK := .of pe_dnewK se_newK
end
end PM

namespace PM
open PySem PySem.Spec L2
open PyProof.Rows hiding St

/-! ### for k in d, d a name: the dict is locked meanwhile -/
def dItK (i : Nat) : DI := fun env h Q _ => ∃ n o us kvs, env[i]? = some (some (.val (.ref n))) ∧ h[n]? = some (.lkK o us kvs) ∧ Q (kvs.map fun x => kP x.1) (fun h => h[n]? = some (.lkK o us kvs)) h
def lkEnds (n : Nat) (o : Obj) (us : List (L2.Key × V)) (kvs : List (L2.Key × PV)) (D : DEnds) : DEnds := { nx := fun env h => h[n]? = some (.lkK o us kvs) ∧ D.nx env (h.set n (.dK kvs)), rt := fun _ _ => False }
@[simp] theorem lkEnds_nx (n : Nat) (o : Obj) (us : List (L2.Key × V)) (kvs : List (L2.Key × PV)) (D : DEnds) (env : Env) (h : Hs) : (lkEnds n o us kvs D).nx env h = (h[n]? = some (.lkK o us kvs) ∧ D.nx env (h.set n (.dK kvs))) := rfl
def sForK (i : Nat) (bd : DB) (b : DS) : DS := fun D env h => ∃ n kvs, env[i]? = some (some (.val (.ref n))) ∧ h[n]? = some (.dK kvs) ∧ ∀ (o : Obj) (us : List (L2.Key × V)),
  forL (fun h => h[n]? = some (.lkK o us kvs)) bd b (lkEnds n o us kvs D) (kvs.map fun x => kP x.1) env (h.set n (.lkK o us kvs))
@[simp ↓] theorem sForK_eq (i : Nat) (bd : DB) (b : DS) (D : DEnds) (env : Env) (h : Hs) : sForK i bd b D env h = (∃ n kvs, env[i]? = some (some (.val (.ref n))) ∧ h[n]? = some (.dK kvs) ∧ ∀ (o : Obj) (us : List (L2.Key × V)),
  forL (fun h => h[n]? = some (.lkK o us kvs)) bd b (lkEnds n o us kvs D) (kvs.map fun x => kP x.1) env (h.set n (.lkK o us kvs))) := id rfl
section
variable {K : PySem.W.Frag} {W : WX}
/-- d[k] of a locked dict -/
def dDgetL (a b : DE) : DE := fun env h Q E => a env h (fun x h1 => b env h1 (fun y h2 => ∃ n o us kvs k p, x = .val (.ref n) ∧ h2[n]? = some (.lkK o us kvs) ∧ asKey y = some k ∧ valP kvs k = some p ∧ Q (.val p) h2) E) E
@[simp ↓] theorem dDgetL_eq (a b : DE) (env : Env) (h : Hs) (Q : VQ) (E : XQ) : dDgetL a b env h Q E = (a env h (fun x h1 => b env h1 (fun y h2 => ∃ n o us kvs k p, x = .val (.ref n) ∧ h2[n]? = some (.lkK o us kvs) ∧ asKey y = some k ∧ valP kvs k = some p ∧ Q (.val p) h2) E) E) := id rfl
end
section
variable {X : Cx} {W : WX} {a b : Expr} {fa fb : DE} {pos : Pos} {f : DS} {s1 : List Stmt}
end
end PM

namespace PM
open PySem PySem.Spec L2
open PyProof.Rows hiding St
variable {K : PySem.W.Frag}
def tabsC (ts : List (Addr × Str)) : Hs := ts.map fun p => .tab p.1 p.2
end PM

namespace PM
open PySem PySem.Spec L2
open PyProof.Rows hiding St

/-! ### instances: o.f, o.f = e, o.m(..), C(..) -/
def lookF (f : Str) (fs : List (Str × PV)) : Option PV := List.lookup f fs
def putFP (f : Str) (p : PV) : List (Str × PV) → List (Str × PV)
  | [] => [(f, p)]
  | kv :: fs => if kv.1 = f then (kv.1, p) :: fs else (kv.1, kv.2) :: putFP f p fs
def dFld (C : Addr) (a : DE) (f : Str) : DE := fun env h Q E => a env h (fun x h1 => ∃ n fs p, x = .val (.ref n) ∧ h1[n]? = some (.ins C fs) ∧ lookF f fs = some p ∧ Q (.val p) h1) E
@[simp ↓] theorem dFld_eq (C : Addr) (a : DE) (f : Str) (env : Env) (h : Hs) (Q : VQ) (E : XQ) : dFld C a f env h Q E = (a env h (fun x h1 => ∃ n fs p, x = .val (.ref n) ∧ h1[n]? = some (.ins C fs) ∧ lookF f fs = some p ∧ Q (.val p) h1) E) := id rfl
def sFldS (C : Addr) (o e : DE) (f : Str) : DS := fun D env h => e env h (fun v h1 => match v.toVal with
  | some p => o env h1 (fun x h2 => ∃ n fs, x = .val (.ref n) ∧ h2[n]? = some (.ins C fs) ∧ fs.length < 1000 ∧ D.nx env (h2.set n (.ins C (putFP f p fs)))) fun c h => D.ex c env h
  | none => False) fun c h => D.ex c env h
@[simp ↓] theorem sFldS_eq (C : Addr) (o e : DE) (f : Str) (D : DEnds) (env : Env) (h : Hs) : sFldS C o e f D env h = (e env h (fun v h1 => match v.toVal with
  | some p => o env h1 (fun x h2 => ∃ n fs, x = .val (.ref n) ∧ h2[n]? = some (.ins C fs) ∧ fs.length < 1000 ∧ D.nx env (h2.set n (.ins C (putFP f p fs)))) fun c h => D.ex c env h
  | none => False) fun c h => D.ex c env h) := id rfl
section
variable {K : PySem.W.Frag} {W : WX} {C : Ctx} {m : List Addr} {σ : St} {env : Env} {H : Hp} {h : Hs}
/-- a new cell, where it lies is known -/
theorem Rel.allocE {a : Addr} {c : Cell} {o : HO} (R : Rel C m σ H env h) (n : H a = none) (r : CellR C.K (ExOf C σ env (m ++ [a])) (m ++ [a]) (upd H a o) a c) :
    StE m H (m ++ [a]) (upd H a o) ∧ Rel C (m ++ [a]) σ (upd H a o) env (h ++ [c]) := by
  have nm : a ∉ m := fun z => R.mDom z n
  have n0 : C.H0 a = none := by
    cases e : C.H0 a with
    | none => rfl
    | some o => exact absurd n (R.dom a (by rw [e]; simp))
  refine ⟨⟨fun b u e _ => by rw [upd_ne (ne_of_none e n)]; exact e, fun b q => by
    by_cases z : b = a
    · rw [z, upd_same]
      simp
    · rw [upd_ne z]
      exact q, [a], rfl, fun b hb => by rw [List.mem_singleton.mp hb]; exact n⟩, ?_⟩
  have R' := R.fresh (o := o) n []
  have R0 := R'.drop
  have no : ¬ OwnAt σ env a := R'.gown a (.inr (.inr rfl))
  have ex : ∀ b, ExOf C σ env (m ++ [a]) b → ExOf (C.own (.ref a) (.own [])) σ env m b := fun b z => by
    rcases z with z | z | z
    · exact .inl (C.own_GT _ _ z)
    · exact .inr (.inl z)
    · rcases List.mem_append.mp z with z | z
      · exact .inr (.inr z)
      · rw [List.mem_singleton.mp z]
        exact .inl (.inr (.inr rfl))
  have slots : ∀ w sw, SlotR (C.own (.ref a) (.own [])) σ env m (upd H a o) w sw → (sw.isOwn = true → w ≠ .ref a) → SlotR C σ env (m ++ [a]) (upd H a o) w sw := fun w sw ⟨r1, b1⟩ no' => by
    refine ⟨?_, b1.le rfl (fun b o => .inl o) fun b q => .inl q⟩
    cases sw with
    | val p => exact Rep.mono (Kp.le ex) ⟨_, rfl⟩ r1
    | own zs =>
      obtain ⟨c, ws, rfl, hc, hn, cm, q⟩ := r1
      refine ⟨c, ws, rfl, hc, hn, fun z => ?_, RepL.mono (Kp.le fun b z => z.imp (ex b) id) ⟨_, rfl⟩ q⟩
      rcases List.mem_append.mp z with z | z
      · exact cm z
      · exact no' rfl (by rw [List.mem_singleton.mp z])
    | brw zs =>
      obtain ⟨c, ws, rfl, hc, q⟩ := r1
      refine ⟨c, ws, rfl, ⟨hc.1, fun z => ?_⟩, RepL.mono (Kp.le ex) ⟨_, rfl⟩ q⟩
      rcases List.mem_append.mp z with z | z
      · exact hc.2 z
      · exact (b1 c rfl).2 (.inr (by rw [List.mem_singleton.mp z]))
    | exc _ _ => first | (cases e; done) | (cases nb; done) | exact r | exact r1 | exact ⟨r, trivial⟩ | exact ⟨r1, trivial⟩ | exact ⟨rv, trivial⟩ | trivial
    | scr ns =>
      obtain ⟨c, rfl, hc⟩ := r1
      refine ⟨c, rfl, ?_⟩
      rcases b1 c rfl with z | z
      · exact .inr z
      · rcases hc with hc | hc
        · refine .inl ⟨hc.1, fun e => ?_⟩
          rcases List.mem_append.mp e with e | e
          · exact hc.2 e
          · exact z.2 (.inr (by rw [List.mem_singleton.mp e]))
        · exact .inr hc
  refine ⟨R.len, fun j sw e => ?_, fun p hp => ⟨slots _ _ (R'.pin p hp).1 (fun q => by rw [(R'.pin p hp).2] at q; cases q), (R'.pin p hp).2⟩, R.uniq, ⟨by rw [List.length_append, List.length_append, R.hm.len]; rfl, ?_, fun k b c' e f => ?_⟩, R0.keep, R0.dom, ?_, R0.gdom, R0.gown⟩
  · obtain ⟨w, s, r1⟩ := R'.slot j sw e
    refine ⟨w, s, slots w sw r1 fun q z => ?_⟩
    cases sw with
    | own zs => exact no ⟨j, zs, e, by rw [← z]; exact s⟩
    | _ => cases q
  · rw [List.nodup_append]
    exact ⟨R.hm.nd, by simp, fun x hx y hy => by rw [List.mem_singleton.mp hy]; exact fun z => nm (z ▸ hx)⟩
  · by_cases hk : k < m.length
    · rw [List.getElem?_append_left hk] at e
      rw [List.getElem?_append_left (by rw [← R.hm.len]; exact hk)] at f
      exact (R'.hm.at_ k b c' e f).mono (Kp.le ex) ⟨_, rfl⟩ rfl
    · rw [List.getElem?_append_right (by omega)] at e
      rw [List.getElem?_append_right (by rw [← R.hm.len]; omega)] at f
      have e1 := List.mem_singleton.mp (List.mem_of_getElem? e)
      have e2 := List.mem_singleton.mp (List.mem_of_getElem? f)
      subst e1 e2
      exact r
  · obtain ⟨ms, rfl, hn⟩ := R0.pre
    refine ⟨ms ++ [a], by simp, fun b hb => ?_⟩
    rcases List.mem_append.mp hb with z | z
    · exact hn b z
    · rw [List.mem_singleton.mp z]
      exact n0


theorem look_rep {Ex : Ad} {f : Str} {p : PV} : ∀ {vs : List (Str × V)} {fs : List (Str × PV)}, vs.map (·.1) = fs.map (·.1) → RepL K Ex m H (vs.map (·.2)) (fs.map (·.2)) → lookF f fs = some p → ∃ v, List.lookup f vs = some v ∧ Rep K Ex m H v p
  | [], [], _, _, e => by cases e
  | [], _ :: _, e, _, _ => by simp at e
  | _ :: _, [], e, _, _ => by simp at e
  | a :: vs, b :: fs, e, r, l => by
    simp only [List.map_cons, List.cons.injEq] at e r
    cases r with
    | cons r1 r2 =>
      unfold lookF at l
      rw [List.lookup_cons] at l
      rw [List.lookup_cons, e.1]
      split at l
      · cases l
        exact ⟨_, rfl, r1⟩
      · exact look_rep e.2 r2 l
theorem putF_rep {Ex : Ad} {f : Str} {v : V} {p : PV} (rv : Rep K Ex m H v p) : ∀ {vs : List (Str × V)} {fs : List (Str × PV)}, vs.map (·.1) = fs.map (·.1) → RepL K Ex m H (vs.map (·.2)) (fs.map (·.2)) → (putF f v vs).map (·.1) = (putFP f p fs).map (·.1) ∧ RepL K Ex m H ((putF f v vs).map (·.2)) ((putFP f p fs).map (·.2))
  | [], [], _, _ => ⟨rfl, .cons rv .nil⟩
  | [], _ :: _, e, _ => by simp at e
  | _ :: _, [], e, _ => by simp at e
  | a :: vs, b :: fs, e, r => by
    simp only [List.map_cons, List.cons.injEq] at e r
    cases r with
    | cons r1 r2 =>
      obtain ⟨i1, i2⟩ := putF_rep (f := f) rv e.2 r2
      unfold putF putFP
      rw [e.1]
      by_cases z : b.1 = f
      · rw [if_pos z, if_pos z]
        exact ⟨by simp [e.2], .cons rv r2⟩
      · rw [if_neg z, if_neg z]
        exact ⟨by simp [i1], .cons r1 i2⟩
theorem se_fld {D : Addr} {ta : TE} {fa : DE} {f : Str} (cl : Cls K D) (na : NoAttr K D f) (ha : SE K W ta fa) : SE K W (tFld K ta f) (dFld D fa f) := ⟨fun C m σ H env h Q E Q' eK R hf p px => by
  refine ha.run C m σ H env h _ E _ eK R hf (fun m1 x H1 sx h1 S1 R1 r1 q1 => ?_) px
  obtain ⟨n, fs, pv, rfl, e1, e2, q2⟩ := q1
  have rx := r1
  obtain ⟨a, rfl, ea, dx, vs, hv, hx, nx, ek, rl⟩ := R1.drop.cellAt (show Rep C.K (ExOf C σ env m1) m1 H1 x (.ref n) from rx) e1
  obtain ⟨v, l1, rv⟩ := look_rep ek rl e2
  exact ⟨a, D, dx, vs, v, rfl, hv, eK ▸ cl, eK ▸ na, l1, p m1 v H1 (.val pv) h1 S1 R1.drop rv q2⟩⟩
theorem ss_fld {D : Addr} {to te : TE} {fo fe : DE} {f : Str} (cl : Cls K D) (na : NoAttr K D f) (ho : SE K W to fo) (he : SE K W te fe) : SS K W (sFld K to te f) (sFldS D fo fe f) := ⟨fun C m σ H env h Df Ds eK R hf p => by
  refine he.run C m σ H env h _ _ _ eK R hf (fun m1 y H1 sy h1 S1 R1 r1 q1 => ?_) p.px
  split at q1
  · rename_i pv ep
    have ry := R.toVal r1 ep
    refine ho.run C m1 σ H1 env h1 _ _ _ eK R1.drop q1 (fun m2 x H2 sx h2 S2 R2 r2 q2 => ?_) p.px
    obtain ⟨n, fs, rfl, e3, lz, q3⟩ := q2
    obtain ⟨a, rfl, ea, dx, vs, hv, hx, nx, ekk, rl⟩ := R2.drop.cellAt (show Rep C.K (ExOf C σ env m2) m2 H2 x (.ref n) from r2) e3
    have ry3 : Rep C.K (ExOf C σ env m2) m2 H2 y pv := Rep.mono (R1.drop.kp S2) S2.ex' ry
    have am : a ∈ m2 := List.mem_of_getElem? ea
    have kp : ∀ o, Kp (ExOf C σ env m2) H2 (ExOf C σ env m2) (upd H2 a o) := fun o b u e q => ⟨by rw [upd_ne fun z => q (by rw [z]; exact .inr (.inr am))]; exact e, q⟩
    obtain ⟨pk, pr⟩ := putF_rep (f := f) ry3 ekk rl
    have lv := congrArg List.length ekk
    simp only [List.length_map] at lv
    have nd : dx ≠ a := fun z => nx (by rw [z]; exact .inr (.inr am))
    obtain ⟨_, R4⟩ := R2.drop.mutCell (o := .ins D dx (putF f y vs)) ea (List.getElem?_eq_some_iff.mp e3).1 (c' := .ins D (putFP f pv fs)) ⟨dx, _, upd_same, by rw [upd_ne nd]; exact hx, nx, pk, pr.mono (kp _) ⟨[], by simp⟩⟩
    exact ⟨a, D, dx, vs, rfl, hv, eK ▸ cl, eK ▸ na, by omega, p.nx m2 σ _ env _ R4 q3⟩
  · exact q1.elim⟩

/-- o.m(..): n counts o -/
def dMeth (C : Addr) (mn : Str) (n : Nat) (d : DF) (a : DE) (fa : DA) : DE := fun env h Q E => a env h (fun x h1 => ∃ nn fs, x = .val (.ref nn) ∧ h1[nn]? = some (.ins C fs) ∧ lookF mn fs = none ∧ fa env h1 (fun svs h2 => svs.length + 1 = n ∧ apA svs fun vs => d (.val (.ref nn) :: vs) h2 Q fun _ _ => False) E) E
@[simp ↓] theorem dMeth_eq (C : Addr) (mn : Str) (n : Nat) (d : DF) (a : DE) (fa : DA) (env : Env) (h : Hs) (Q : VQ) (E : XQ) : dMeth C mn n d a fa env h Q E = (a env h (fun x h1 => ∃ nn fs, x = .val (.ref nn) ∧ h1[nn]? = some (.ins C fs) ∧ lookF mn fs = none ∧ fa env h1 (fun svs h2 => svs.length + 1 = n ∧ apA svs fun vs => d (.val (.ref nn) :: vs) h2 Q fun _ _ => False) E) E) := id rfl
/-- C(..): n counts the new instance -/
def dMake (C : Addr) (n : Nat) (d : DF) (fa : DA) : DE := fun env h Q E => fa env h (fun svs h1 => svs.length + 1 = n ∧ apA svs fun vs => d (.val (.ref h1.length) :: vs) (h1 ++ [.ins C []]) (fun v h2 => v = .val .non ∧ Q (.val (.ref h1.length)) h2) fun _ _ => False) E
@[simp ↓] theorem dMake_eq (C : Addr) (n : Nat) (d : DF) (fa : DA) (env : Env) (h : Hs) (Q : VQ) (E : XQ) : dMake C n d fa env h Q E = (fa env h (fun svs h1 => svs.length + 1 = n ∧ apA svs fun vs => d (.val (.ref h1.length) :: vs) (h1 ++ [.ins C []]) (fun v h2 => v = .val .non ∧ Q (.val (.ref h1.length)) h2) fun _ _ => False) E) := id rfl
theorem look_none {f : Str} : ∀ {vs : List (Str × V)} {fs : List (Str × PV)}, vs.map (·.1) = fs.map (·.1) → lookF f fs = none → List.lookup f vs = none
  | [], [], _, _ => rfl
  | [], _ :: _, e, _ => by simp at e
  | _ :: _, [], e, _ => by simp at e
  | a :: vs, b :: fs, e, l => by
    simp only [List.map_cons, List.cons.injEq] at e
    unfold lookF at l
    rw [List.lookup_cons] at l
    rw [List.lookup_cons, e.1]
    split at l
    · cases l
    · exact look_none e.2 l
/-- a call of a def from any state: its arguments stand, its end is handed on -/
theorem call_d {N : Ad} {m0 m1 : List Addr} {H0 H1 : Hp} {h1 : Hs} {n : Nat} {d : DF} {vs : List V} {svs : List SV} {Q : VQ} {E0 : XK} {Q' : VK} (R1 : Rel C m1 σ H1 env h1) (S1 : StE m0 H0 m1 H1) (r1 : Paired (RepS C (ExOf C σ env m1) m1 N H1) vs svs) (hn : svs.length = n) (q1 : d (svs.map SV.toArg) h1 Q fun _ _ => False) (p : PostE C m0 σ H0 env Q Q') : spD C.K n d vs H1 Q' E0 := by
  have len : vs.length = svs.length := Paired.length r1
  have Re := R1.enter r1
  refine ⟨len.trans hn, _, m1, h1, _, Q, Re, q1, fun m' v H' sv h' S2 hm r2 q2 => ?_⟩
  have ex : ∀ b, ExOf C σ env m' b → ExOf (ctxAt C.K (fun a => C.GT a ∨ OwnAt σ env a) m1 H1) [] [] m' b := fun b q => by
    rcases q with q | q | q
    · exact .inl (.inl (.inl q))
    · exact .inl (.inl (.inr q))
    · exact .inr (.inr q)
  have exo : ∀ b, ExOf (C.own v sv) σ env m' b → ExOf ((ctxAt C.K (fun a => C.GT a ∨ OwnAt σ env a) m1 H1).own v sv) [] [] m' b := fun b q => by
    rcases q with q | q | q
    · cases sv with
      | own xs =>
        rcases q with q | q | q
        · exact .inl (.inl (.inl (.inl q)))
        · exact .inl (.inl (.inl (.inr q)))
        · exact .inl (.inr (.inr q))
      | _ => exact .inl (.inl (.inl q))
    · exact .inl (by
        cases sv with
        | _ => exact .inl (.inr q))
    · exact .inr (.inr q)
  have r3 : RepS C (ExOf C σ env m') m' (fun a => H1 a = none) H' v sv := r2.less rfl ex fun _ q => q
  refine p m' v H' sv h' (S1.trans S2) (R1.stepOwn S2 ⟨hm.len, hm.nd, fun n a c e f => ?_⟩ fun a o e => ?_) (r3.less rfl (fun _ q => q) fun a q => stnew S1 q) q2
  · exact (hm.at_ n a c e f).mono (Kp.le exo) ⟨[], by simp⟩ rfl
  · cases sv with
    | own xs =>
      obtain ⟨b, ws, rfl, hb, nb, _⟩ := r3
      cases e
      exact ⟨nb, by rw [hb]; simp⟩
    | _ => cases o
theorem se_meth {D : Addr} {ta : TE} {fa : DE} {t : TA} {fs : DA} {mn : Str} {n : Nat} {d : DF} {E0 : XK} (ha : SE K W ta fa) (hs : SA K W t fs) : SE K W (tMeth D mn (spD K n d) [] E0 ta t) (dMeth D mn n d fa fs) := ⟨fun C m σ H env h Q E Q' eK R hf p px => by
  refine ha.run C m σ H env h _ E _ eK R hf (fun m1 x H1 sx h1 S1 R1 r1 q1 => ?_) px
  obtain ⟨nn, fl, rfl, e1, e2, q1⟩ := q1
  obtain ⟨a, rfl, ea, dx, vs0, hv, hx, nx, ek, rl⟩ := R1.drop.cellAt (show Rep C.K (ExOf C σ env m1) m1 H1 x (.ref nn) from r1) e1
  refine ⟨a, dx, vs0, rfl, hv, look_none ek e2, ?_⟩
  refine hs.run C m1 σ H1 env h1 _ E _ eK R1.drop q1 (fun m2 vs H2 svs h2 S2 R2 r2 ⟨hn, q2⟩ => ?_) (px.go S1)
  rw [List.append_nil]
  subst eK
  have rx : RepS C (ExOf C σ env m2) m2 (fun a => H1 a = none) H2 (.ref a) (.val (.ref nn)) := r1.step S2 (N' := fun a => H a = none) fun _ q => q
  exact call_d (svs := .val (.ref nn) :: svs) R2.drops (S1.trans S2) (.cons rx r2) hn q2 p⟩
theorem se_make {D : Addr} {t : TA} {fs : DA} {n : Nat} {d : DF} {E0 : XK} (hs : SA K W t fs) : SE K W (tMake D (spD K n d) [] E0 t) (dMake D n d fs) := ⟨fun C m σ H env h Q E Q' eK R hf p px => by
  refine hs.run C m σ H env h _ E _ eK R hf (fun m1 vs H1 svs h1 S1 R1 r1 ⟨hn, q1⟩ => ?_) px
  intro x dx nx ndx ne
  rw [List.append_nil]
  subst eK
  have S2 : StE m1 H1 m1 (upd H1 dx (.own x)) := .new ndx
  have R2 : Rel C m1 σ (upd H1 dx (.own x)) env h1 := R1.drops.grow (Same.upd ndx)
  have nx2 : upd H1 dx (.own x) x = none := by rw [upd_ne ne.symm]; exact nx
  have ndE : ¬ ExOf C σ env (m1 ++ [x]) dx := fun q => by
    rcases q with q | q | q
    · exact R1.drops.exNew ndx (.inl q)
    · exact R1.drops.exNew ndx (.inr (.inl q))
    · rcases List.mem_append.mp q with q | q
      · exact R1.drops.exNew ndx (.inr (.inr q))
      · exact ne (List.mem_singleton.mp q)
  obtain ⟨S3, R3⟩ := R2.allocE (c := .ins D []) (o := .ins D dx []) nx2 ⟨dx, [], upd_same, by rw [upd_ne ne, upd_same], ndE, rfl, .nil⟩
  have hlen : m1.length = h1.length := R2.hm.len
  have pos : ∀ m', (∃ ms, m' = (m1 ++ [x]) ++ ms) → m'[h1.length]? = some x := by
    rintro m' ⟨ms, rfl⟩
    rw [← hlen, List.append_assoc, List.getElem?_append_right (Nat.le_refl _)]
    simp
  have rx : RepS C (ExOf C σ env (m1 ++ [x])) (m1 ++ [x]) (fun a => H a = none) (upd (upd H1 dx (.own x)) x (.ins D dx [])) (.ref x) (.val (.ref h1.length)) := .ref (pos _ ⟨[], by simp⟩)
  have S23 := S2.trans S3
  have r2 : Paired (RepS C (ExOf C σ env (m1 ++ [x])) (m1 ++ [x]) (fun a => H a = none) (upd (upd H1 dx (.own x)) x (.ins D dx []))) vs svs := by
    have aux : ∀ {vs : List V} {svs : List SV}, Paired (RepS C (ExOf C σ env m1) m1 (fun a => H a = none) H1) vs svs → Paired (RepS C (ExOf C σ env (m1 ++ [x])) (m1 ++ [x]) (fun a => H a = none) (upd (upd H1 dx (.own x)) x (.ins D dx []))) vs svs := by
      intro vs svs r
      induction r with
      | nil => exact .nil
      | cons a _ ih => exact .cons (a.step S23 fun _ q => q) ih
    exact aux r1
  refine call_d (svs := .val (.ref h1.length) :: svs) (m0 := m1 ++ [x]) (H0 := upd (upd H1 dx (.own x)) x (.ins D dx [])) R3 (.refl _ _) (.cons rx r2) hn q1 ?_
  rintro m' v H' sv h' S4 R4 r4 ⟨rfl, q4⟩
  cases r4
  exact ⟨rfl, p m' (.ref x) H' (.val (.ref h1.length)) h' ((S1.trans S23).trans S4) R4 (.ref (pos _ S4.ex')) q4⟩⟩
/-- a method of a class, and how the class makes its instances -/
structure MethAt (P : Program) (w : World) (K : PySem.W.Frag) (mg : Str → Option Value) (base : Heap) (k : Nat) (C : Addr) (mn : Str) (n : Nat) (d : DF) : Prop where
  at_ : ∃ (f : Addr) (fd : FuncData) (ps : List Str), Meth K C mn f ∧ Binds K fd ps [] ∧ FnOk P w K mg base CX0 k f fd ps (spD K n d)
structure MakeAt (P : Program) (w : World) (K : PySem.W.Frag) (mg : Str → Option Value) (base : Heap) (k : Nat) (x : Str) (C : Addr) (n : Nat) (d : DF) : Prop where
  at_ : ∃ (f : Addr) (fd : FuncData) (ps : List Str), mg x = some (.ref C) ∧ Mk K C f ∧ Binds K fd ps [] ∧ FnOk P w K mg base CX0 k f fd ps (spD K n d)
end
section
variable {X : Cx} {W : WX} {e o : Expr} {es : List Expr} {fo fe : DE} {fs : DA} {pos apos p : Pos} {x f mn : Str} {C : Addr} {d : DF} {n k k' : Nat}
theorem pd_fld (cl : Cls X.K C) (na : NoAttr X.K C f) (ho : PEd X W o fo) (hb : attributeBase o f X.env (eval o X.env) = eval o X.env := by rfl) : PEd X W (.Attribute o f pos) (dFld C fo f) := .of (pe_fld ho hb) (se_fld cl na seE)
theorem psd_fld (cl : Cls X.K C) (na : NoAttr X.K C f) (ho : PEd X W o fo) (he : PEd X W e fe) (hs : swapsWith e (some (.Attribute o f apos)) pos.line X.env = pure false := by rfl) : PSd X W (.Assign [.Attribute o f apos] e pos) (sFldS C fo fe f) := .of (ps_fld ho he hs) (ss_fld cl na seE seE)
theorem pd_meth (cl : Cls X.K C) (F : MethAt X.prog X.w X.K X.mg X.base k C mn n d) (hr : Room k' X.A) (hk : k ≤ k') (ho : PEd X W o fo) (ha : PAd X W (e :: es) fs) {pl : Sem Bool} (he : starEach (e :: es) X.env = (false, eval e X.env) :: starEach es X.env := by rfl) (hpl : (backTo pos (starEach es X.env)).any (·.1) = false := by rfl)
    (hc : eval (.Call (.Attribute o mn apos) (e :: es) [] pos) X.env = (do
      let ov ← eval o X.env
      standAt apos.atName
      let (f, first) ← holding [ov] (getMethod ov mn pl)
      callWith pos f first (backTo pos (starEach (e :: es) X.env)) (backToKw pos (keywordEach [] X.env))) := by rfl) : PEd X W (.Call (.Attribute o mn apos) (e :: es) [] pos) (dMeth C mn n d fo fs) := by
  obtain ⟨f, fd, ps, hm, hb, G⟩ := F.at_
  exact .of (pe_meth ho cl hm G (hr.mono hk) hb .nil pass0 ha he hpl hc) (se_meth seE saA)
theorem pd_meth0 (cl : Cls X.K C) (F : MethAt X.prog X.w X.K X.mg X.base k C mn n d) (hr : Room k' X.A) (hk : k ≤ k') (ho : PEd X W o fo) {pl : Sem Bool}
    (hc : eval (.Call (.Attribute o mn apos) [] [] pos) X.env = (do
      let ov ← eval o X.env
      standAt apos.atName
      let (f, first) ← holding [ov] (getMethod ov mn pl)
      callWith pos f first (backTo pos (starEach [] X.env)) (backToKw pos (keywordEach [] X.env))) := by rfl) : PEd X W (.Call (.Attribute o mn apos) [] [] pos) (dMeth C mn n d fo dNil) := by
  obtain ⟨f, fd, ps, hm, hb, G⟩ := F.at_
  exact .of (pe_meth0 ho cl hm G (hr.mono hk) hb .nil pass0 hc) (se_meth seE sa_nil)
theorem pd_make (F : MakeAt X.prog X.w X.K X.mg X.base k x C n d) (hr : Room k' X.A) (hk : k + 1 ≤ k') (ha : PAd X W (e :: es) fs) (hg : Gl X x := by rfl) (hdb : (x == ("__debug__" : Str)) = false := by decide) (he : starEach (e :: es) X.env = (false, eval e X.env) :: starEach es X.env := by rfl) (hpl : (backTo pos (starEach es X.env)).any (·.1) = false := by rfl) : PEd X W (.Call (.Name x p) (e :: es) [] pos) (dMake C n d fs) := by
  obtain ⟨f, fd, ps, hm, mk, hb, G⟩ := F.at_
  exact .of (pe_make mk G (hr.mono hk) hg hm hb .nil pass0 ha hdb he hpl) (se_make saA)
theorem pd_make0 (F : MakeAt X.prog X.w X.K X.mg X.base k x C n d) (hr : Room k' X.A) (hk : k + 1 ≤ k') (hg : Gl X x := by rfl) (hdb : (x == ("__debug__" : Str)) = false := by decide) : PEd X W (.Call (.Name x p) [] [] pos) (dMake C n d dNil) := by
  obtain ⟨f, fd, ps, hm, mk, hb, G⟩ := F.at_
  exact .of (pe_make0 mk G (hr.mono hk) hg hm hb .nil pass0 hdb) (se_make sa_nil)
end
section
variable {P : Program} {w : World} {K : PySem.W.Frag} {mg : Str → Option Value} {base : Heap}
theorem fnOk_q {x qual : Str} {st : Stmt} {f : Addr} {fd : FuncData} {N ps : List Str} {k : Nat} {body : DS} (F : Fun K x qual st f fd) (S : FnScope N ps (defScope st))
    (hb : ∀ (f : Addr) (cdv : Value) (A : Around) (outer : List PySem.Env) (s : Shared) (H : Hp) (E : XK), Room k (A.deeper (envOfC qual (defScope st) s.heap.objs.size f cdv)) → PSsd (cxOf CX0 P w K mg base N qual (defScope st) f cdv A outer s H E).nox W0 (defBody st) body) :
    FnOk P w K mg base CX0 (k + 1) f fd ps (spD K ps.length (dDef ps.length (N.length - ps.length) body)) := ok_def F S fun cdv A outer s H E hr => ⟨_, hb f cdv A outer s H E hr, ssS⟩
end
end PM

namespace PM
open PySem PySem.Spec L2
open PyProof.Rows hiding St

/-! ### defs that may raise; raise; try .. except X as n -/
def spX (K : PySem.W.Frag) (n : Nat) (d : DF) : Sp := fun vs H Q E => vs.length = n ∧ ∃ (G : Ad) (m : List Addr) (h : Hs) (svs : List SV) (Qd : VQ) (Ed : XQ), Rel (ctxAt K G m H) m (vs.map some) H (svs.map some) h ∧ d svs h Qd Ed ∧
  (∀ m' v H' sv h', StE m H m' H' → HeapR K (ExOf ((ctxAt K G m H).own v sv) [] [] m') m' H' h' → RepS (ctxAt K G m H) (ExOf (ctxAt K G m H) [] [] m') m' (fun a => H a = none) H' v sv → Qd sv h' → Q v H') ∧
  ∀ c m' H' h', StE m H m' H' → HeapR K (ExOf (ctxAt K G m H) [] [] m') m' H' h' → Ed c h' → E (.ref c) none H'
abbrev WR (E : XK) : WX := fun cls d _ H => E cls d H
section
variable {P : Program} {w : World} {K : PySem.W.Frag} {mg : Str → Option Value} {base : Heap}
end
def dCallX (n : Nat) (d : DF) (a : DA) : DE := fun env h Q E => a env h (fun svs h1 => svs.length = n ∧ apA svs fun vs => d vs h1 Q E) E
@[simp ↓] theorem dCallX_eq (n : Nat) (d : DF) (a : DA) (env : Env) (h : Hs) (Q : VQ) (E : XQ) : dCallX n d a env h Q E = (a env h (fun svs h1 => svs.length = n ∧ apA svs fun vs => d vs h1 Q E) E) := id rfl
def dMethX (C : Addr) (mn : Str) (n : Nat) (d : DF) (a : DE) (fa : DA) : DE := fun env h Q E => a env h (fun x h1 => ∃ nn fs, x = .val (.ref nn) ∧ h1[nn]? = some (.ins C fs) ∧ lookF mn fs = none ∧ fa env h1 (fun svs h2 => svs.length + 1 = n ∧ apA svs fun vs => d (.val (.ref nn) :: vs) h2 Q E) E) E
@[simp ↓] theorem dMethX_eq (C : Addr) (mn : Str) (n : Nat) (d : DF) (a : DE) (fa : DA) (env : Env) (h : Hs) (Q : VQ) (E : XQ) : dMethX C mn n d a fa env h Q E = (a env h (fun x h1 => ∃ nn fs, x = .val (.ref nn) ∧ h1[nn]? = some (.ins C fs) ∧ lookF mn fs = none ∧ fa env h1 (fun svs h2 => svs.length + 1 = n ∧ apA svs fun vs => d (.val (.ref nn) :: vs) h2 Q E) E) E) := id rfl
def sRaise (c : Addr) : DS := fun D env h => D.ex c env h
@[simp ↓] theorem sRaise_eq (c : Addr) (D : DEnds) (env : Env) (h : Hs) : sRaise c D env h = D.ex c env h := id rfl
def tMethX (C : Addr) (m : Str) (sp : Sp) (E : St → XK) (ta : TE) (t : TA) : TE := fun σ H Q => ta σ H fun x H1 => ∃ a dx fs, x = .ref a ∧ H1 a = some (.ins C dx fs) ∧ fs.lookup m = none ∧ t σ H1 fun vs H2 => sp (x :: vs) H2 Q (E σ)
section
variable {X : Cx} {CXX : CXT} {k : Nat} {f C : Addr} {fd : FuncData} {ps : List Str} {sp : Sp} {E : St → XK} {m : Str} {pos apos : Pos} {e o : Expr} {es : List Expr} {ta : TE} {t : TA}
end
section
variable {K : PySem.W.Frag} {W : WX} {C : Ctx} {m : List Addr} {σ : St} {env : Env} {H : Hp} {h : Hs}
end
/-- an own class of errors without __init__ over ValueError -/
structure ErrAt (K : PySem.W.Frag) (mg : Str → Option Value) (x : Str) (C : Addr) : Prop where
  g : mg x = some (.ref C)
  q : PySem.W.excIn K C [.type "ValueError", .type "Exception", .type "BaseException", .type "object"] "ValueError.__new__" = true
  k : PySem.W.keepIn K (.ref C) = true
  b : PySem.W.subIn K (.ref C) (.type "BaseException") = some true
  t : PySem.W.typeIn K (.ref C) = some (.type "type")
structure FnAtX (P : Program) (w : World) (K : PySem.W.Frag) (mg : Str → Option Value) (base : Heap) (k : Nat) (x : Str) (n : Nat) (d : DF) : Prop where
  at_ : ∃ (f : Addr) (fd : FuncData) (ps : List Str), mg x = some (.ref f) ∧ PySem.W.keepIn K (.ref f) = true ∧ Binds K fd ps [] ∧ FnOk P w K mg base (CX P w) k f fd ps (spX K n d)
structure MethAtX (P : Program) (w : World) (K : PySem.W.Frag) (mg : Str → Option Value) (base : Heap) (k : Nat) (C : Addr) (mn : Str) (n : Nat) (d : DF) : Prop where
  at_ : ∃ (f : Addr) (fd : FuncData) (ps : List Str), Meth K C mn f ∧ Binds K fd ps [] ∧ FnOk P w K mg base (CX P w) k f fd ps (spX K n d)
section
variable {X : Cx} {W : WX} {e o : Expr} {es : List Expr} {fo fe : DE} {fs : DA} {pos apos p p2 rpos : Pos} {x f mn : Str} {C : Addr} {d : DF} {n k k' : Nat}
end
end PM

namespace PM
open PySem PySem.Spec L2
open PyProof.Rows hiding St

/-! ### try .. except X as n: suite (the suite raises nothing); isinstance(n, Y) there -/
section
variable {C : Ctx} {m : List Addr} {σ : St} {env : Env} {H : Hp} {h : Hs}
end
/-- M: what is known of a raised class, whether it is one of the handler's; i: the slot of the name; the suite knows the exception's place and class -/
def sTryAs (i : Nat) (M : Addr → Option Bool) (body : DS) (suite : Addr → Addr → DS) : DS := fun D env h => body { D with ex := fun c env' h' => ∃ b, M c = some b ∧
  (b = true → ∀ a, suite a c { nx := fun e1 h1 => D.nx (e1.set i none) h1, rt := D.rt, bk := fun e1 h1 => D.bk (e1.set i none) h1, ct := fun e1 h1 => D.ct (e1.set i none) h1 } (env'.set i (some (.exc c a))) h') ∧ (b = false → D.ex c env' h') } env h
@[simp ↓] theorem sTryAs_eq (i : Nat) (M : Addr → Option Bool) (body : DS) (suite : Addr → Addr → DS) (D : DEnds) (env : Env) (h : Hs) : sTryAs i M body suite D env h = (body { D with ex := fun c env' h' => ∃ b, M c = some b ∧
  (b = true → ∀ a, suite a c { nx := fun e1 h1 => D.nx (e1.set i none) h1, rt := D.rt, bk := fun e1 h1 => D.bk (e1.set i none) h1, ct := fun e1 h1 => D.ct (e1.set i none) h1 } (env'.set i (some (.exc c a))) h') ∧ (b = false → D.ex c env' h') } env h) := id rfl
/-- isinstance(n, Y) in the suite: B tells of each class that may be caught -/
def dIsE (i : Nat) (a c : Addr) (B : Addr → Option Bool) : DE := fun env h Q _ => env[i]? = some (some (.exc c a)) ∧ ∃ b, B c = some b ∧ Q (.val (.bl b)) h
@[simp ↓] theorem dIsE_eq (i : Nat) (a c : Addr) (B : Addr → Option Bool) (env : Env) (h : Hs) (Q : VQ) (u1 : XQ) : dIsE i a c B env h Q u1 = (env[i]? = some (some (.exc c a)) ∧ ∃ b, B c = some b ∧ Q (.val (.bl b)) h) := id rfl
section
/-- a suite's reading, for the classes that are known -/
def tSuite (K : PySem.W.Frag) (IsC : Addr → Prop) (suite : Addr → Addr → DS) (a : Addr) (cls : Value) (d : Option Addr) : TS := fun D σ H => ∃ c, cls = .ref c ∧ d = none ∧ IsC c ∧ tS K W0 (suite a c) D σ H
variable {X : Cx}
end
/-! ### methods and makers, as they stand in a class -/
structure MethDef (K : PySem.W.Frag) (C : Addr) (mn qual : Str) (st : Stmt) (ps : List Str) : Prop where
  at_ : ∃ (f : Addr) (fd : FuncData), Fun K mn qual st f fd ∧ Meth K C mn f ∧ Binds K fd ps []
structure MakeDef (K : PySem.W.Frag) (mg : Str → Option Value) (x : Str) (C : Addr) (qual : Str) (st : Stmt) (ps : List Str) : Prop where
  at_ : ∃ (f : Addr) (fd : FuncData), Fun K "__init__" qual st f fd ∧ mg x = some (.ref C) ∧ Mk K C f ∧ Binds K fd ps []
section
variable {P : Program} {w : World} {K : PySem.W.Frag} {mg : Str → Option Value} {base : Heap}
theorem MethAt.mk' {C : Addr} {mn qual : Str} {st : Stmt} {N ps : List Str} {k : Nat} {body : DS} (D : MethDef K C mn qual st ps) (S : FnScope N ps (defScope st))
    (hb : ∀ (f : Addr) (cdv : Value) (A : Around) (outer : List PySem.Env) (s : Shared) (H : Hp) (E : XK), Room k (A.deeper (envOfC qual (defScope st) s.heap.objs.size f cdv)) → PSsd (cxOf CX0 P w K mg base N qual (defScope st) f cdv A outer s H E).nox W0 (defBody st) body) :
    MethAt P w K mg base (k + 1) C mn ps.length (dDef ps.length (N.length - ps.length) body) := by
  obtain ⟨f, fd, F, hm, hb'⟩ := D.at_
  exact ⟨f, fd, ps, hm, hb', fnOk_q F S hb⟩
theorem MakeAt.mk' {x : Str} {C : Addr} {qual : Str} {st : Stmt} {N ps : List Str} {k : Nat} {body : DS} (D : MakeDef K mg x C qual st ps) (S : FnScope N ps (defScope st))
    (hb : ∀ (f : Addr) (cdv : Value) (A : Around) (outer : List PySem.Env) (s : Shared) (H : Hp) (E : XK), Room k (A.deeper (envOfC qual (defScope st) s.heap.objs.size f cdv)) → PSsd (cxOf CX0 P w K mg base N qual (defScope st) f cdv A outer s H E).nox W0 (defBody st) body) :
    MakeAt P w K mg base (k + 1) x C ps.length (dDef ps.length (N.length - ps.length) body) := by
  obtain ⟨f, fd, F, hg, hm, hb'⟩ := D.at_
  exact ⟨f, fd, ps, hg, hm, hb', fnOk_q F S hb⟩
/-- what is known of classes, by a list -/
def tbl (l : List (Addr × Bool)) : Addr → Option Bool := fun c => List.lookup c l
/-- a class that the table knows -/
abbrev InT (l : List (Addr × Bool)) (c : Addr) : Prop := ∃ b, tbl l c = some b
end
end PM

namespace PM
open PySem PySem.Spec L2
open PyProof.Rows hiding St

/-! ### k in d, del d[k], d.get(k, x), d.pop(k), d.pop(k, x): dicts of ints and texts -/
def dropP (kvs : List (L2.Key × PV)) (k : L2.Key) : List (L2.Key × PV) := kvs.filter fun kv => decide (kv.1 ≠ k)
section
variable {K : PySem.W.Frag} {W : WX} {C : Ctx} {m : List Addr} {σ : St} {env : Env} {H : Hp} {h : Hs}
def rInK (neg : Bool) : R2 := fun x y H Q => ∃ a o, y = .ref a ∧ DGet H a x o ∧ Q (.bl (if neg then !o.isSome else o.isSome)) H
def gInK (neg : Bool) : G2 := fun h x y q => ∃ n kvs k, y = .val (.ref n) ∧ asKey x = some k ∧ h[n]? = some (.dK kvs) ∧ q (.val (.bl (if neg then !(valP kvs k).isSome else (valP kvs k).isSome)))
@[simp ↓] theorem gInK_eq (neg : Bool) (h : Hs) (x y : SV) (q : SV → Prop) : gInK neg h x y q = (∃ n kvs k, y = .val (.ref n) ∧ asKey x = some k ∧ h[n]? = some (.dK kvs) ∧ q (.val (.bl (if neg then !(valP kvs k).isSome else (valP kvs k).isSome)))) := id rfl
def sDelK (o i : DE) : DS := fun D env h => o env h (fun x h1 => i env h1 (fun y h2 => ∃ n kvs k, x = .val (.ref n) ∧ asKey y = some k ∧ h2[n]? = some (.dK kvs) ∧ (valP kvs k).isSome = true ∧ D.nx env (h2.set n (.dK (dropP kvs k)))) fun c h => D.ex c env h) fun c h => D.ex c env h
@[simp ↓] theorem sDelK_eq (o i : DE) (D : DEnds) (env : Env) (h : Hs) : sDelK o i D env h = (o env h (fun x h1 => i env h1 (fun y h2 => ∃ n kvs k, x = .val (.ref n) ∧ asKey y = some k ∧ h2[n]? = some (.dK kvs) ∧ (valP kvs k).isSome = true ∧ D.nx env (h2.set n (.dK (dropP kvs k)))) fun c h => D.ex c env h) fun c h => D.ex c env h) := id rfl
/-- d.get(k, x) -/
def dGetK2 (o i x : DE) : DE := fun env h Q E => o env h (fun u h1 => ∃ n kvs0, u = .val (.ref n) ∧ h1[n]? = some (.dK kvs0) ∧ i env h1 (fun y h2 => x env h2 (fun z h3 => ∃ kvs k, asKey y = some k ∧ h3[n]? = some (.dK kvs) ∧ (∀ p, valP kvs k = some p → Q (.val p) h3) ∧ (valP kvs k = none → Q z h3)) E) E) E
@[simp ↓] theorem dGetK2_eq (o i x : DE) (env : Env) (h : Hs) (Q : VQ) (E : XQ) : dGetK2 o i x env h Q E = (o env h (fun u h1 => ∃ n kvs0, u = .val (.ref n) ∧ h1[n]? = some (.dK kvs0) ∧ i env h1 (fun y h2 => x env h2 (fun z h3 => ∃ kvs k, asKey y = some k ∧ h3[n]? = some (.dK kvs) ∧ (∀ p, valP kvs k = some p → Q (.val p) h3) ∧ (valP kvs k = none → Q z h3)) E) E) E) := id rfl
/-- d.pop(k): it is there -/
def dPopK1 (o i : DE) : DE := fun env h Q E => o env h (fun u h1 => ∃ n kvs0, u = .val (.ref n) ∧ h1[n]? = some (.dK kvs0) ∧ i env h1 (fun y h2 => ∃ kvs k p, asKey y = some k ∧ h2[n]? = some (.dK kvs) ∧ valP kvs k = some p ∧ Q (.val p) (h2.set n (.dK (dropP kvs k)))) E) E
@[simp ↓] theorem dPopK1_eq (o i : DE) (env : Env) (h : Hs) (Q : VQ) (E : XQ) : dPopK1 o i env h Q E = (o env h (fun u h1 => ∃ n kvs0, u = .val (.ref n) ∧ h1[n]? = some (.dK kvs0) ∧ i env h1 (fun y h2 => ∃ kvs k p, asKey y = some k ∧ h2[n]? = some (.dK kvs) ∧ valP kvs k = some p ∧ Q (.val p) (h2.set n (.dK (dropP kvs k)))) E) E) := id rfl
end
section
variable {X : Cx} {W : WX} {o i x : Expr} {fo fi fx : DE} {pos tpos apos cpos : Pos}
end
end PM

namespace PM
open PySem PySem.Spec L2
open PyProof.Rows hiding St
variable {K : PySem.W.Frag}
/-- the law's beginning without tables, for a denotation that takes addresses -/
theorem lawAt0 {l : PySem.W.OpenLaw} {w : World} {k n : Nat} {x : Str} {mg : Str → Option Value} {fa : Addr} {h : Heap} {d : DF}
    (z : ∃ fd : FuncData, (∀ (s : Shared) (v : Value), BindsTo s fd ⟨[v], []⟩ [(x, v)]) ∧ ∀ base : Heap, K.In base → base.Ns mainGlobals mg → FnOk l.prog w K mg base CX0 k fa fd [x] (spD K 1 d))
    (hd : ∀ ns : List Int, ns.length ≤ n → d [.scr ns] [] (fun sv _ => sv = .val (.bl true)) fun _ _ => False) : LamX.LawAtS l w K CX0 k n x mg fa h := by
  obtain ⟨fd, z1, z2⟩ := z
  exact ⟨fd, [], spD K 1 d, (fun p hp => nomatch hp), (fun p hp => nomatch hp), (fun p hp => nomatch hp), z1, fun H a ns hl _ hT hS => law_start hS (hd ns hl), fun base hK hG _ => z2 base hK hG⟩
end PM

namespace PM
open PySem PySem.Spec L2
open PyProof.Rows hiding St

/-! ### what a law never reaches -/
def dNo : DE := fun _ _ _ _ => False
@[simp ↓] theorem dNo_eq (env : Env) (h : Hs) (Q : VQ) (E : XQ) : dNo env h Q E = False := id rfl
def dNoT : DT := fun _ _ _ _ => False
@[simp ↓] theorem dNoT_eq (env : Env) (h : Hs) (Q : Bool → Hs → Prop) (E : XQ) : dNoT env h Q E = False := id rfl
def sNo : DS := fun _ _ _ => False
@[simp ↓] theorem sNo_eq (D : DEnds) (env : Env) (h : Hs) : sNo D env h = False := id rfl
section
variable {X : Cx} {W : WX}
theorem ptd_no {e : Expr} : PTd X W e dNoT := ⟨fun _ _ _ _ _ _ ⟨_, _, _, _, _, _, _, _, hf, _, _⟩ => hf.elim⟩
theorem psd_no {s : Stmt} : PSd X W s sNo := ⟨fun _ _ _ _ _ _ ⟨_, _, _, _, _, _, _, hf, _⟩ => hf.elim⟩
end
end PM


namespace PM
open PySem PySem.Spec L2 PySem.W
open PyProof.Rows hiding St
/-! ### words for comprehensions, by what a turn gives -/
section
variable {chk : Hs → Prop} {bd : DB} {tt : DT} {te : DE} {env : Env} {h : Hs} {Q : List PV → Hs → Prop}
theorem compL_p {α : Type} (sv : α → SV) (f g : α → PV) (hc : chk h) (hsv : ∀ a, (sv a).toVal = some (g a)) : ∀ (l : List α) (acc : List PV), (∀ a ∈ l, ∀ K : VQ, bd (f a) env (fun e1 => te e1 h K fun _ _ => False) = K (sv a) h) → acc.length + l.length ≤ sizeLine →
    compL chk bd dYes te env (l.map f) acc h Q = Q (acc ++ l.map g) h
  | [], acc, _, _ => by simp [hc]
  | a :: l, acc, he, hl => by
    have ih := compL_p sv f g hc hsv l (acc ++ [g a]) (fun b m => he b (List.mem_cons_of_mem _ m)) (by simp at hl ⊢; omega)
    have l1 : acc.length < sizeLine := by simp at hl; omega
    rw [List.map_cons, compL]
    simp only [dYes, if_true]
    rw [he a List.mem_cons_self]
    simp only [hsv, hc, l1, true_and, ih]
    simp
theorem compL_pf {α : Type} (sv : α → SV) (f g : α → PV) (p : α → Bool) (hc : chk h) (hsv : ∀ a, (sv a).toVal = some (g a)) : ∀ (l : List α) (acc : List PV), (∀ a ∈ l, ∀ (K : VQ) (N : Hs → Prop), bd (f a) env (fun e1 => tt e1 h (fun b h1 => if b = true then te e1 h1 K (fun _ _ => False) else N h1) fun _ _ => False) = if p a = true then K (sv a) h else N h) → acc.length + l.length ≤ sizeLine →
    compL chk bd tt te env (l.map f) acc h Q = Q (acc ++ (l.filter p).map g) h
  | [], acc, _, _ => by simp [hc]
  | a :: l, acc, he, hl => by
    have l1 : acc.length < sizeLine := by simp at hl; omega
    have ih := fun acc hl => compL_pf sv f g p hc hsv l acc (fun b m => he b (List.mem_cons_of_mem _ m)) hl
    rw [List.map_cons, compL, he a List.mem_cons_self]
    by_cases pa : p a = true
    · rw [if_pos pa]
      simp only [hsv, hc, l1, true_and]
      rw [ih _ (by simp at hl ⊢; omega)]
      simp [List.filter_cons, pa]
    · rw [if_neg pa, ih _ (by simp at hl ⊢; omega)]
      simp [List.filter_cons, pa, hc]
theorem setL_pf {QK : List Key → Hs → Prop} {α : Type} (f : α → PV) (p : α → Bool) (k : α → Key) (hc : chk h) : ∀ (l : List α) (acc : List Key), (∀ a ∈ l, ∀ (K : VQ) (N : Hs → Prop), bd (f a) env (fun e1 => tt e1 h (fun b h1 => if b = true then te e1 h1 K (fun _ _ => False) else N h1) fun _ _ => False) = if p a = true then K (.val (pvK (k a))) h else N h) → acc.length + l.length < 4096 →
    setL chk bd tt te env (l.map f) acc h QK = QK (acc ++ (l.filter p).map k) h
  | [], acc, _, _ => by simp [hc, setL]
  | a :: l, acc, he, hl => by
    have l1 : acc.length + 1 < 4096 := by simp at hl; omega
    have ih := fun acc hl => setL_pf (QK := QK) f p k hc l acc (fun b m => he b (List.mem_cons_of_mem _ m)) hl
    have inj : ∀ j, (SV.val (pvK (k a)) = SV.val (pvK j)) ↔ j = k a := fun j => by
      constructor
      · intro e
        cases q : k a <;> rw [q] at e <;> cases j <;> simp [pvK] at e <;> simp [e]
      · rintro rfl
        rfl
    rw [List.map_cons, setL, he a List.mem_cons_self]
    by_cases pa : p a = true
    · rw [if_pos pa]
      have ee : ∀ T : Key → Prop, (∃ j, SV.val (pvK (k a)) = SV.val (pvK j) ∧ T j) = T (k a) := fun T => by
        apply propext
        constructor
        · rintro ⟨j, e, t⟩
          obtain rfl := (inj j).mp e
          exact t
        · exact fun t => ⟨_, rfl, t⟩
      rw [ee, ih _ (by simp at hl ⊢; omega)]
      simp [List.filter_cons, pa, hc, l1]
    · rw [if_neg pa, ih _ (by simp at hl ⊢; omega)]
      simp [List.filter_cons, pa, hc]
end
/-- what is walked first: the turns are kept shut -/
theorem for_in {src : DI} {bd : DB} {b : DS} {D : DEnds} {env : Env} {h : Hs} (p : ∀ F : List PV → (Hs → Prop) → Hs → Prop, (∀ xs chk h1, forL chk bd b D xs env h1 → F xs chk h1) → src env h F fun c h1 => D.ex c env h1) : sFor src bd b D env h := p _ fun _ _ _ q => q
/-! ### texts by their codes -/
/-! ### sorted lists of ints, by values -/
end PM

namespace PM
open PySem PySem.Spec L2
open PyProof.Rows hiding St
def c_NO_VECTOR : PV := (.tup [(.int 0), (.int 0), (.int 0), (.int 0), (.int 0), (.int 0), (.int 0), (.int 0)])
def c_ADMIT : PV := (.str "admit")
def c_BEGIN : PV := (.str "begin")
def c_RETIRE : PV := (.str "retire")
def c_ACK : PV := (.str "ack")
def c_MOST_NEWS : PV := (.int 20)
/-! knows(vector, dot): 0 vector, 1 dot -/
def d_knows_b : DS :=
  sRet (dOp gLe (dOp gIx (dVar 1) (dC (.int 1))) (dOp gIx (dVar 0) (dOp gIx (dVar 1) (dC (.int 0)))))
def d_knows : DF := dDef 2 0 d_knows_b
/-! covers(vector, other): 0 vector, 1 other, 2 one, 3 two -/
def d_covers_b : DS :=
  sRet (dB (g1 gAll) (dCons (dLc (dZip (dKV 0) (dKV 1)) [2, 3] (bTup2 2 3) dYes (dOp gGe (dVar 2) (dVar 3))) dNil))
def d_covers : DF := dDef 2 2 d_covers_b
/-! joined(vector, other): 0 vector, 1 other, 2 one, 3 two -/
def d_joined_b : DS :=
  sRet (dB (g1 gTuple) (dCons (dLc (dZip (dKV 0) (dKV 1)) [2, 3] (bTup2 2 3) dYes (dB gMax (dCons (dVar 2) (dCons (dVar 3) dNil)))) dNil))
def d_joined : DF := dDef 2 2 d_joined_b
/-! raised(vector, dot): 0 vector, 1 dot -/
def d_raised_b : DS :=
  sRet (dOp gAdd (dOp gAdd (dSl (dVar 0) dNoPart (dPart (dOp gIx (dVar 1) (dC (.int 0))))) (dTup (dCons (dOp gIx (dVar 1) (dC (.int 1))) dNil))) (dSl (dVar 0) (dPart (dOp gAdd (dOp gIx (dVar 1) (dC (.int 0))) (dC (.int 1)))) dNoPart))
def d_raised : DF := dDef 2 0 d_raised_b
/-! dot_of(event): 0 event -/
def d_dot_of_b : DS :=
  sRet (dSl (dVar 0) dNoPart (dPart (dC (.int 2))))
def d_dot_of : DF := dDef 1 0 d_dot_of_b
/-! Base.__init__(self): 0 self -/
def d_Base___init___b (C_Base : Addr) : DS :=
  sSeq (sFldS C_Base (dVar 0) (dC c_NO_VECTOR) "vector")
  (sSeq (sFldS C_Base (dVar 0) (dC (.int 0)) "height")
  (sSeq (sFldS C_Base (dVar 0) dNewK "registers")
  (sSeq (sFldS C_Base (dVar 0) dNewK "counters")
  (sSeq (sFldS C_Base (dVar 0) dNewK "sets")
  (sFldS C_Base (dVar 0) dNewK "texts")))))
def d_Base___init__ (C_Base : Addr) : DF := dDef 1 0 (d_Base___init___b C_Base)
/-! with_site(sites, site): 0 sites, 1 site, 2 other -/
def d_with_site_b : DS :=
  sRet (dB (g1 gTuple) (dCons (dSortC (dIt (dKE (dOp gAdd (dVar 0) (dTup (dCons (dVar 1) dNil))))) [2] (bName 2) dYes (dVar 2)) dNil))
def d_with_site : DF := dDef 2 1 d_with_site_b
/-! Knowing.names_all(self, site): 0 self, 1 site, 2 other -/
def d_Knowing_names_all_b (C_Knowing : Addr) : DS :=
  sRet (dB (g1 gAll) (dCons (dLc (dIt (dKE (dFld C_Knowing (dVar 0) "retiring"))) [2] (bName 2) dYes (dOp gIn (dVar 2) (dOp gIx (dFld C_Knowing (dVar 0) "acks") (dVar 1)))) dNil))
def d_Knowing_names_all (C_Knowing : Addr) : DF := dDef 2 1 (d_Knowing_names_all_b C_Knowing)
/-! Knowing.may_take(self, event, heard): 0 self, 1 event, 2 heard, 3 left, 4 site -/
def d_Knowing_may_take_b (C_Knowing : Addr) : DS :=
  sSeq (sIf (dTst (dOp gNotIn (dOp gIx (dVar 1) (dC (.int 0))) (dFld C_Knowing (dVar 0) "retiring"))) (sRet (dC (.bl true))) sNil)
  (sSeq sNo
  sNo)
def d_Knowing_may_take (C_Knowing : Addr) : DF := dDef 3 2 (d_Knowing_may_take_b C_Knowing)
/-! Site.check_writer(self): 0 self -/
def d_Site_check_writer_b (C_Knowing C_Site : Addr) : DS :=
  sIf (dTst (dOp gIn (dFld C_Site (dVar 0) "number") (dFld C_Knowing (dFld C_Site (dVar 0) "knowing") "retiring"))) sNo sNil
def d_Site_check_writer (C_Knowing C_Site : Addr) : DF := dDef 1 0 (d_Site_check_writer_b C_Knowing C_Site)
/-! Site.check_place(self, op): 0 self, 1 op -/
def d_Site_check_place_b (C_Site : Addr) : DS :=
  sSeq (sIf (dOr (dAnd (dTst (dOp gEq (dOp gIx (dVar 1) (dC (.int 0))) (dC (.str "insert")))) (dTst (dOp (gIsN false) (dOp gIx (dVar 1) (dC (.int 2))) (dC .non)))) (dTst (dOp gNotIn (dOp gIx (dVar 1) (dC (.int 0))) (dTup (dCons (dC (.str "insert")) (dCons (dC (.str "erase")) dNil)))))) sRetN sNil)
  (sIf dNoT sNo sNil)
def d_Site_check_place (C_Site : Addr) : DF := dDef 2 0 (d_Site_check_place_b C_Site)
/-! Site.heard(self, other): 0 self, 1 other -/
def d_Site_heard_b (C_Site : Addr) : DS :=
  sSeq (sIf (dTst (dOp gEq (dVar 1) (dFld C_Site (dVar 0) "number"))) (sRet (dFld C_Site (dVar 0) "vector")) sNil)
  (sRet (dOp gIx (dFld C_Site (dVar 0) "heard_vectors") (dVar 1)))
def d_Site_heard (C_Site : Addr) : DF := dDef 2 0 (d_Site_heard_b C_Site)
/-! Site.fresh(self): 0 self, 1 found -/
def d_Site_fresh_b (C_Site : Addr) : DS :=
  sSeq (sAsg 1 (dFld C_Site (dVar 0) "new_events"))
  (sSeq (sFldS C_Site (dVar 0) (dAlloc (dLst dNil)) "new_events")
  (sRetV 1))
def d_Site_fresh (C_Site : Addr) : DF := dDef 1 1 (d_Site_fresh_b C_Site)
/-! _law_row(_law_script, _law_k): 0 _law_script, 1 _law_k, 2 _law_cell, 3 _law_first, 4 _law_second -/
def d_law_row_b : DS :=
  sSeq (sAsg 2 (dC (.int 0)))
  (sSeq (sIf (dTst (dOp gGt (dB (g1 gLen) (dCons (dVar 0) dNil)) (dC (.int 0)))) (sAsg 2 (dOp gIx (dVar 0) (dOp gMod (dB (g1 gInt1) (dCons (dVar 1) dNil)) (dB (g1 gLen) (dCons (dVar 0) dNil))))) sNil)
  (sSeq (sIf (dTst (dOp gLt (dVar 2) (dC (.int 0)))) (sAsg 2 (dOp gSub (dC (.int 1)) (dOp gMulX (dC (.int 2)) (dVar 2)))) sNil)
  (sSeq (sIf (dAnd (dTst (dOp gGe (dVar 2) (dOp gPow (dC (.int 10)) (dC (.int 9))))) (dTst (dOp gLt (dVar 1) (dB (g1 gLen) (dCons (dVar 0) dNil))))) (sRetV 2) sNil)
  (sSeq (sAsg 3 (dOp gMod (dB (g1 gInt1) (dCons (dOp gAdd (dOp gAdd (dOp gMulX (dVar 2) (dC (.int 48271))) (dOp gMulX (dOp gAdd (dVar 1) (dC (.int 1))) (dC (.int 69621)))) (dB (g1 gLen) (dCons (dVar 0) dNil))) dNil)) (dC (.int 2147483647))))
  (sSeq (sAsg 4 (dOp gMod (dB (g1 gInt1) (dCons (dOp gAdd (dOp gAdd (dOp gMulX (dVar 3) (dVar 3)) (dOp gMulX (dVar 2) (dC (.int 16807)))) (dVar 1)) dNil)) (dC (.int 2147483629))))
  (sRet (dOp gAdd (dOp gMulX (dVar 4) (dC (.int 2147483647))) (dOp gMod (dB (g1 gInt1) (dCons (dOp gMulX (dVar 3) (dC (.int 40692))) dNil)) (dC (.int 2147483399))))))))))
def d_law_row : DF := dDef 2 3 d_law_row_b
/-! _law_take(_law_box, _law_size): 0 _law_box, 1 _law_size, 2 _law_digit -/
def d_law_take_b : DS :=
  sSeq (sAsg 2 (dOp gMod (dB (g1 gInt1) (dCons (dOp gIx (dVar 0) (dC (.int 0))) dNil)) (dVar 1)))
  (sSeq (sSetE (dVar 0) (dC (.int 0)) (dOp gFdiv (dOp gIx (dVar 0) (dC (.int 0))) (dVar 1)))
  (sRetV 2))
def d_law_take : DF := dDef 2 1 d_law_take_b
/-! _law_news(_law_site, _law_events, _law_first): 0 _law_site, 1 _law_events, 2 _law_first -/
def d_law_news_b (C_Site : Addr) : DS :=
  sRet (dTup (dCons (dC (.str "news")) (dCons (dFld C_Site (dVar 0) "vector") (dCons (dB (g1 gTuple) (dCons (dSl (dVar 1) (dPart (dVar 2)) (dPart (dOp gAdd (dVar 2) (dC (.int 20))))) dNil)) dNil))))
def d_law_news (C_Site : Addr) : DF := dDef 3 0 (d_law_news_b C_Site)
/-! Knowing.__init__(self, number, size, first): 0 self, 1 number, 2 size, 3 first -/
def d_Knowing___init___b (C_Knowing : Addr) : DS :=
  sSeq (sFldS C_Knowing (dVar 0) (dVar 1) "number")
  (sSeq (sFldS C_Knowing (dVar 0) (dVar 2) "size")
  (sSeq (sFldS C_Knowing (dVar 0) (dCall 2 d_with_site (dCons (dVar 3) (dCons (dVar 1) dNil))) "present")
  (sSeq (sFldS C_Knowing (dVar 0) dNewK "coming")
  (sSeq (sFldS C_Knowing (dVar 0) (dAlloc (dOp gMulX (dLst (dCons (dC c_NO_VECTOR) dNil)) (dVar 2))) "told")
  (sSeq (sFldS C_Knowing (dVar 0) (dTup dNil) "retiring")
  (sSeq (sFldS C_Knowing (dVar 0) (dTup dNil) "over")
  (sSeq (sFldS C_Knowing (dVar 0) (dAlloc (dOp gMulX (dLst (dCons (dTup dNil) dNil)) (dVar 2))) "acks")
  (sFldS C_Knowing (dVar 0) (dAlloc (dOp gMulX (dLst (dCons (dTup dNil) dNil)) (dVar 2))) "absent"))))))))
def d_Knowing___init__ (C_Knowing : Addr) : DF := dDef 4 0 (d_Knowing___init___b C_Knowing)
/-! Knowing.join_told(self, site, vector): 0 self, 1 site, 2 vector -/
def d_Knowing_join_told_b (C_Knowing : Addr) : DS :=
  sSetE (dFld C_Knowing (dVar 0) "told") (dVar 1) (dCall 2 d_joined (dCons (dOp gIx (dFld C_Knowing (dVar 0) "told") (dVar 1)) (dCons (dVar 2) dNil)))
def d_Knowing_join_told (C_Knowing : Addr) : DF := dDef 3 0 (d_Knowing_join_told_b C_Knowing)
/-! Knowing.wants_ack(self): 0 self -/
def d_Knowing_wants_ack_b (C_Knowing : Addr) : DS :=
  sRet (dAndV (dOp gNotIn (dFld C_Knowing (dVar 0) "number") (dFld C_Knowing (dVar 0) "retiring")) (dNotV (dMeth C_Knowing "names_all" 2 (d_Knowing_names_all C_Knowing) (dVar 0) (dCons (dFld C_Knowing (dVar 0) "number") dNil))))
def d_Knowing_wants_ack (C_Knowing : Addr) : DF := dDef 1 0 (d_Knowing_wants_ack_b C_Knowing)
/-! Site.hear_of(self, site, vector): 0 self, 1 site, 2 vector -/
def d_Site_hear_of_b (C_Site : Addr) : DS :=
  sSetE (dFld C_Site (dVar 0) "heard_vectors") (dVar 1) (dCall 2 d_joined (dCons (dOp gIx (dFld C_Site (dVar 0) "heard_vectors") (dVar 1)) (dCons (dVar 2) dNil)))
def d_Site_hear_of (C_Site : Addr) : DF := dDef 3 0 (d_Site_hear_of_b C_Site)
/-! Site.can_take(self, event): 0 self, 1 event, 2 vector -/
def d_Site_can_take_b (C_Knowing C_Site : Addr) : DS :=
  sSeq (sAsg 2 (dFld C_Site (dVar 0) "vector"))
  (sSeq (sIf (dOr (dTst (dOp gNe (dOp gIx (dVar 1) (dC (.int 1))) (dOp gAdd (dOp gIx (dVar 2) (dOp gIx (dVar 1) (dC (.int 0)))) (dC (.int 1))))) (dNot (dTru (dCall 2 d_covers (dCons (dVar 2) (dCons (dOp gIx (dVar 1) (dC (.int 2))) dNil)))))) (sRet (dC (.bl false))) sNil)
  (sRet (dMeth C_Knowing "may_take" 3 (d_Knowing_may_take C_Knowing) (dFld C_Site (dVar 0) "knowing") (dCons (dVar 1) (dCons (dFld C_Site (dVar 0) "heard_vectors") dNil)))))
def d_Site_can_take (C_Knowing C_Site : Addr) : DF := dDef 2 1 (d_Site_can_take_b C_Knowing C_Site)
/-! Site.let_wait(self, event): 0 self, 1 event, 2 dot, 3 other -/
def d_Site_let_wait_b (C_Knowing C_Site : Addr) : DS :=
  sSeq (sAsg 2 (dCall 1 d_dot_of (dCons (dVar 1) dNil)))
  (sSeq (sIf (dOr (dTru (dCall 2 d_knows (dCons (dFld C_Site (dVar 0) "vector") (dCons (dVar 2) dNil)))) (dTst (dOp gIn (dOp gIx (dVar 1) (dC (.int 0))) (dFld C_Knowing (dFld C_Site (dVar 0) "knowing") "over")))) sRetN sNil)
  (sIf (dTst (dOp gNotIn (dVar 2) (dLc (dIt (dKE (dFld C_Site (dVar 0) "waiting"))) [3] (bName 3) dYes (dCall 1 d_dot_of (dCons (dVar 3) dNil))))) (sAppE (dFld C_Site (dVar 0) "waiting") (dVar 1)) sNil))
def d_Site_let_wait (C_Knowing C_Site : Addr) : DF := dDef 2 2 (d_Site_let_wait_b C_Knowing C_Site)
/-! Site.news_for(self, receiver): 0 self, 1 receiver, 2 known, 3 events, 4 event -/
def d_Site_news_for_b (C_Site : Addr) : DS :=
  sSeq (sAsg 2 (dMeth C_Site "heard" 2 (d_Site_heard C_Site) (dVar 0) (dCons (dVar 1) dNil)))
  (sSeq (sAsg 3 (dLc (dIt (dKE (dFld C_Site (dVar 0) "held"))) [4] (bName 4) (dNot (dTru (dCall 2 d_knows (dCons (dVar 2) (dCons (dCall 1 d_dot_of (dCons (dVar 4) dNil)) dNil))))) (dVar 4)))
  (sRet (dTup (dCons (dC (.str "news")) (dCons (dFld C_Site (dVar 0) "vector") (dCons (dB (g1 gTuple) (dCons (dSl (dVar 3) dNoPart (dPart (dC c_MOST_NEWS))) dNil)) dNil))))))
def d_Site_news_for (C_Site : Addr) : DF := dDef 2 3 (d_Site_news_for_b C_Site)
/-! _law_op(_law_box, _law_k): 0 _law_box, 1 _law_k -/
def d_law_op_b : DS :=
  sRet (dOp gIx (dLst (dCons (dTup (dCons (dC (.str "inc")) (dCons (dC (.str "a")) (dCons (dOp gAdd (dC (.int 1)) (dCall 2 d_law_take (dCons (dVar 0) (dCons (dC (.int 9)) dNil)))) dNil)))) (dCons (dTup (dCons (dC (.str "set")) (dCons (dC (.str "b")) (dCons (dVar 1) dNil)))) (dCons (dTup (dCons (dC (.str "insert")) (dCons (dC (.str "a")) (dCons (dC .non) (dCons (dOp gIx (dC (.str "xyz")) (dOp gMod (dVar 1) (dC (.int 3)))) dNil))))) dNil)))) (dCall 2 d_law_take (dCons (dVar 0) (dCons (dC (.int 3)) dNil))))
def d_law_op : DF := dDef 2 0 d_law_op_b
/-! Knowing.note(self, event): 0 self, 1 event, 2 dot, 3 word, 4 mark -/
def d_Knowing_note_b (C_Knowing : Addr) : DS :=
  sSeq (sAsg 2 (dCall 1 d_dot_of (dCons (dVar 1) dNil)))
  (sSeq (sAsg 3 (dOp gIx (dOp gIx (dVar 1) (dC (.int 4))) (dC (.int 0))))
  (sSeq (sIf (dTst (dOp gEq (dVar 3) (dC c_ADMIT))) sNo sNil)
  (sSeq (sAsg 4 (dCall 2 d_raised (dCons (dOp gIx (dVar 1) (dC (.int 2))) (dCons (dVar 2) dNil))))
  (sSeq (sExpr (dMeth C_Knowing "join_told" 3 (d_Knowing_join_told C_Knowing) (dVar 0) (dCons (dOp gIx (dVar 2) (dC (.int 0))) (dCons (dVar 4) dNil))))
  (sSeq (sExpr (dMeth C_Knowing "join_told" 3 (d_Knowing_join_told C_Knowing) (dVar 0) (dCons (dFld C_Knowing (dVar 0) "number") (dCons (dCall 2 d_raised (dCons (dC c_NO_VECTOR) (dCons (dVar 2) dNil))) dNil))))
  (sSeq (sIf (dTst (dOp gEq (dVar 3) (dC c_BEGIN))) sNo sNil)
  (sSeq (sIf (dTst (dOp gEq (dVar 3) (dC c_RETIRE))) sNo sNil)
  (sIf (dTst (dOp gEq (dVar 3) (dC c_ACK))) (sSeq sNo
  sNo) sNil))))))))
def d_Knowing_note (C_Knowing : Addr) : DF := dDef 2 3 (d_Knowing_note_b C_Knowing)
/-! Knowing.tell(self, sender, vector): 0 self, 1 sender, 2 vector -/
def d_Knowing_tell_b (C_Knowing : Addr) : DS :=
  sIf (dTst (dOp gLe (dOp gIx (dVar 2) (dVar 1)) (dOp gIx (dOp gIx (dFld C_Knowing (dVar 0) "told") (dFld C_Knowing (dVar 0) "number")) (dVar 1)))) (sExpr (dMeth C_Knowing "join_told" 3 (d_Knowing_join_told C_Knowing) (dVar 0) (dCons (dVar 1) (dCons (dVar 2) dNil)))) sNil
def d_Knowing_tell (C_Knowing : Addr) : DF := dDef 3 0 (d_Knowing_tell_b C_Knowing)
/-! Site.end_step(self): 0 self, 1 event -/
def d_Site_end_step_b (C_Knowing C_Site : Addr) : DS :=
  sSeq (sIf (dTru (dMeth C_Knowing "wants_ack" 1 (d_Knowing_wants_ack C_Knowing) (dFld C_Site (dVar 0) "knowing") dNil)) sNo sNil)
  (sFldS C_Site (dVar 0) (dAlloc (dLc (dIt (dKE (dFld C_Site (dVar 0) "waiting"))) [1] (bName 1) (dTst (dOp gNotIn (dOp gIx (dVar 1) (dC (.int 0))) (dFld C_Knowing (dFld C_Site (dVar 0) "knowing") "over"))) (dVar 1))) "waiting")
def d_Site_end_step (C_Knowing C_Site : Addr) : DF := dDef 1 1 (d_Site_end_step_b C_Knowing C_Site)
/-! Site.__init__(self, number, size, first): 0 self, 1 number, 2 size, 3 first -/
def d_Site___init___b (C_Base C_Knowing C_Site : Addr) : DS :=
  sSeq (sFldS C_Site (dVar 0) (dVar 1) "number")
  (sSeq (sFldS C_Site (dVar 0) (dVar 2) "size")
  (sSeq (sFldS C_Site (dVar 0) (dC c_NO_VECTOR) "vector")
  (sSeq (sFldS C_Site (dVar 0) (dMake C_Base 1 (d_Base___init__ C_Base) dNil) "base")
  (sSeq (sFldS C_Site (dVar 0) (dAlloc (dLst dNil)) "held")
  (sSeq (sFldS C_Site (dVar 0) (dAlloc (dLst dNil)) "waiting")
  (sSeq (sFldS C_Site (dVar 0) (dMake C_Knowing 4 (d_Knowing___init__ C_Knowing) (dCons (dVar 1) (dCons (dVar 2) (dCons (dVar 3) dNil)))) "knowing")
  (sSeq (sFldS C_Site (dVar 0) (dAlloc (dOp gMulX (dLst (dCons (dC c_NO_VECTOR) dNil)) (dVar 2))) "heard_vectors")
  (sFldS C_Site (dVar 0) (dAlloc (dLst dNil)) "new_events"))))))))
def d_Site___init__ (C_Base C_Knowing C_Site : Addr) : DF := dDef 4 0 (d_Site___init___b C_Base C_Knowing C_Site)
/-! Site.take(self, event): 0 self, 1 event, 2 mark -/
def d_Site_take_b (C_Knowing C_Site : Addr) : DS :=
  sSeq (sAppE (dFld C_Site (dVar 0) "held") (dVar 1))
  (sSeq (sExpr (dMeth C_Knowing "note" 2 (d_Knowing_note C_Knowing) (dFld C_Site (dVar 0) "knowing") (dCons (dVar 1) dNil)))
  (sSeq (sFldS C_Site (dVar 0) (dOp gIx (dFld C_Knowing (dFld C_Site (dVar 0) "knowing") "told") (dFld C_Site (dVar 0) "number")) "vector")
  (sSeq (sAsg 2 (dCall 2 d_raised (dCons (dOp gIx (dVar 1) (dC (.int 2))) (dCons (dCall 1 d_dot_of (dCons (dVar 1) dNil)) dNil))))
  (sSeq (sExpr (dMeth C_Site "hear_of" 3 (d_Site_hear_of C_Site) (dVar 0) (dCons (dOp gIx (dVar 1) (dC (.int 0))) (dCons (dVar 2) dNil))))
  (sSeq (sIf (dTst (dOp gEq (dOp gIx (dOp gIx (dVar 1) (dC (.int 4))) (dC (.int 0))) (dC c_BEGIN))) sNo sNil)
  (sSetE (dFld C_Site (dVar 0) "heard_vectors") (dFld C_Site (dVar 0) "number") (dFld C_Site (dVar 0) "vector")))))))
def d_Site_take (C_Knowing C_Site : Addr) : DF := dDef 2 1 (d_Site_take_b C_Knowing C_Site)
/-! Site.make(self, op): 0 self, 1 op, 2 height, 3 event -/
def d_Site_make_b (C_Base C_Knowing C_Site : Addr) : DS :=
  sSeq (sAsg 2 (dOp gAdd (dC (.int 1)) (dB gMax (dCons (dOp gAdd (dLst (dCons (dFld C_Base (dFld C_Site (dVar 0) "base") "height") dNil)) (dLc (dIt (dKE (dFld C_Site (dVar 0) "held"))) [3] (bName 3) dYes (dOp gIx (dVar 3) (dC (.int 3))))) dNil))))
  (sSeq (sFrz 2 (sAsg 3 (dTup (dCons (dFld C_Site (dVar 0) "number") (dCons (dOp gAdd (dOp gIx (dFld C_Site (dVar 0) "vector") (dFld C_Site (dVar 0) "number")) (dC (.int 1))) (dCons (dFld C_Site (dVar 0) "vector") (dCons (dVar 2) (dCons (dVar 1) dNil))))))))
  (sSeq (sExpr (dMeth C_Site "take" 2 (d_Site_take C_Knowing C_Site) (dVar 0) (dCons (dVar 3) dNil)))
  (sSeq (sFrz 3 (sAppE (dFld C_Site (dVar 0) "new_events") (dVar 3)))
  (sRet (dCall 1 d_dot_of (dCons (dVar 3) dNil))))))
def d_Site_make (C_Base C_Knowing C_Site : Addr) : DF := dDef 2 2 (d_Site_make_b C_Base C_Knowing C_Site)
/-! Site.take_next(self): 0 self, 1 place, 2 event -/
def d_Site_take_next_b (C_Knowing C_Site : Addr) : DS :=
  sSeq (sFor (dEnum (dKE (dFld C_Site (dVar 0) "waiting"))) (bTup2 1 2) (sIf (dTru (dMeth C_Site "can_take" 2 (d_Site_can_take C_Knowing C_Site) (dVar 0) (dCons (dVar 2) dNil))) (sSeq (sFldS C_Site (dVar 0) (dAlloc (dOp gAdd (dSl (dFld C_Site (dVar 0) "waiting") dNoPart (dPart (dVar 1))) (dSl (dFld C_Site (dVar 0) "waiting") (dPart (dOp gAdd (dVar 1) (dC (.int 1)))) dNoPart))) "waiting")
  (sSeq (sExpr (dMeth C_Site "take" 2 (d_Site_take C_Knowing C_Site) (dVar 0) (dCons (dVar 2) dNil)))
  (sSeq (sFrz 2 (sAppE (dFld C_Site (dVar 0) "new_events") (dVar 2)))
  (sRet (dC (.bl true)))))) sNil))
  (sRet (dC (.bl false)))
def d_Site_take_next (C_Knowing C_Site : Addr) : DF := dDef 1 2 (d_Site_take_next_b C_Knowing C_Site)
/-! Site.write(self, op): 0 self, 1 op, 2 dot -/
def d_Site_write_b (C_Base C_Knowing C_Site : Addr) : DS :=
  sSeq (sExpr (dMeth C_Site "check_writer" 1 (d_Site_check_writer C_Knowing C_Site) (dVar 0) dNil))
  (sSeq (sExpr (dMeth C_Site "check_place" 2 (d_Site_check_place C_Site) (dVar 0) (dCons (dVar 1) dNil)))
  (sSeq (sAsg 2 (dMeth C_Site "make" 2 (d_Site_make C_Base C_Knowing C_Site) (dVar 0) (dCons (dVar 1) dNil)))
  (sSeq (sExpr (dMeth C_Site "end_step" 1 (d_Site_end_step C_Knowing C_Site) (dVar 0) dNil))
  (sRetV 2))))
def d_Site_write (C_Base C_Knowing C_Site : Addr) : DF := dDef 2 1 (d_Site_write_b C_Base C_Knowing C_Site)
/-! Site.hear(self, sender, news): 0 self, 1 sender, 2 news, 3 event -/
def d_Site_hear_b (C_Knowing C_Site : Addr) : DS :=
  sSeq (sFor (dIt (dKE (dOp gIx (dVar 2) (dC (.int 2))))) (bName 3) (sExpr (dMeth C_Site "let_wait" 2 (d_Site_let_wait C_Knowing C_Site) (dVar 0) (dCons (dVar 3) dNil))))
  (sSeq (sExpr (dMeth C_Site "hear_of" 3 (d_Site_hear_of C_Site) (dVar 0) (dCons (dVar 1) (dCons (dOp gIx (dVar 2) (dC (.int 1))) dNil))))
  (sSeq (sWhile (dTru (dMeth C_Site "take_next" 1 (d_Site_take_next C_Knowing C_Site) (dVar 0) dNil)) sPass)
  (sSeq (sExpr (dMeth C_Knowing "tell" 3 (d_Knowing_tell C_Knowing) (dFld C_Site (dVar 0) "knowing") (dCons (dVar 1) (dCons (dOp gIx (dVar 2) (dC (.int 1))) dNil))))
  (sExpr (dMeth C_Site "end_step" 1 (d_Site_end_step C_Knowing C_Site) (dVar 0) dNil)))))
def d_Site_hear (C_Knowing C_Site : Addr) : DF := dDef 3 1 (d_Site_hear_b C_Knowing C_Site)
/-! law(_law_script): 0 _law_script, 1 _law_box, 2 _law_sites, 3 _law_count, 4 _law_k, 5 _law_events, 6 _law_heard, 7 _law_known, 8 _law_turn, 9 _law_kind, 10 _law_news_here, 11 _law_j, 12 _law_behind, 13 _law_number -/
def d_law_b (C_Base C_Knowing C_Site : Addr) : DS :=
  sSeq (sAsg 1 (dAlloc (dLst (dCons (dCall 2 d_law_row (dCons (dVar 0) (dCons (dC (.int 0)) dNil))) dNil))))
  (sSeq (sAsg 2 (dLc (dRng1 (dC (.int 3))) [13] (bName 13) dYes (dMake C_Site 4 (d_Site___init__ C_Base C_Knowing C_Site) (dCons (dVar 13) (dCons (dC (.int 5)) (dCons (dTup (dCons (dC (.int 0)) (dCons (dC (.int 1)) (dCons (dC (.int 2)) dNil)))) dNil))))))
  (sSeq (sAsg 3 (dCall 2 d_law_take (dCons (dVar 1) (dCons (dC (.int 71)) dNil))))
  (sSeq (sFor (dRng1 (dVar 3)) (bName 4) (sIf (dTst (dOp gNe (dMeth C_Site "write" 2 (d_Site_write C_Base C_Knowing C_Site) (dOp gIx (dVar 2) (dC (.int 0))) (dCons (dCall 2 d_law_op (dCons (dAlloc (dLst (dCons (dOp gAdd (dCall 2 d_law_row (dCons (dVar 0) (dCons (dOp gAdd (dC (.int 1)) (dOp gMod (dVar 4) (dC (.int 50)))) dNil))) (dOp gMulX (dC (.int 7)) (dVar 4))) dNil))) (dCons (dVar 4) dNil))) dNil)) (dTup (dCons (dC (.int 0)) (dCons (dOp gAdd (dVar 4) (dC (.int 1))) dNil))))) (sRet (dC (.bl false))) sNil))
  (sSeq (sAsg 5 (dMeth C_Site "fresh" 1 (d_Site_fresh C_Site) (dOp gIx (dVar 2) (dC (.int 0))) dNil))
  (sSeq (sIf (dOr (dTst (dOp gNe (dB (g1 gLen) (dCons (dVar 5) dNil)) (dVar 3))) (dOr (dTst (dOp gNe (dFld C_Site (dOp gIx (dVar 2) (dC (.int 0))) "held") (dVar 5))) (dTst (dOp gNe (dC c_MOST_NEWS) (dC (.int 20)))))) (sRet (dC (.bl false))) sNil)
  (sSeq (sAsg 6 (dLst (dCons (dC (.int 0)) (dCons (dC (.int 0)) dNil))))
  (sSeq (sAsg 7 (dLst (dCons (dC (.int 0)) (dCons (dC (.int 0)) dNil))))
  (sSeq (sFor (dRng1 (dOp gAdd (dC (.int 4)) (dCall 2 d_law_take (dCons (dVar 1) (dCons (dC (.int 13)) dNil))))) (bName 4) (sSeq (sAsg 8 (dAlloc (dLst (dCons (dCall 2 d_law_row (dCons (dVar 0) (dCons (dOp gSub (dC (.int 60)) (dVar 4)) dNil))) dNil))))
  (sSeq (sAsg 9 (dCall 2 d_law_take (dCons (dVar 8) (dCons (dC (.int 4)) dNil))))
  (sIf (dTst (dOp gLt (dVar 9) (dC (.int 2)))) (sSeq (sAsg 10 (dMeth C_Site "news_for" 2 (d_Site_news_for C_Site) (dOp gIx (dVar 2) (dC (.int 0))) (dCons (dC (.int 1)) dNil)))
  (sSeq (sIf (dTst (dOp gNe (dVar 10) (dCall 3 (d_law_news C_Site) (dCons (dOp gIx (dVar 2) (dC (.int 0))) (dCons (dVar 5) (dCons (dOp gIx (dVar 6) (dC (.int 0))) dNil)))))) (sRet (dC (.bl false))) sNil)
  (sFor (dRng1 (dCall 2 d_law_take (dCons (dVar 8) (dCons (dC (.int 3)) dNil)))) (bName 11) (sSeq (sExpr (dMeth C_Site "hear" 3 (d_Site_hear C_Knowing C_Site) (dOp gIx (dVar 2) (dC (.int 1))) (dCons (dC (.int 0)) (dCons (dVar 10) dNil))))
  (sSeq (sAsg 12 (dB gMax (dCons (dOp gIx (dVar 7) (dC (.int 0))) (dCons (dB gMin (dCons (dVar 3) (dCons (dOp gAdd (dOp gIx (dVar 6) (dC (.int 0))) (dC (.int 20))) dNil))) dNil))))
  (sSeq (sFrz 12 (sIf (dOr (dTst (dOp gNe (dMeth C_Site "fresh" 1 (d_Site_fresh C_Site) (dOp gIx (dVar 2) (dC (.int 1))) dNil) (dSl (dVar 5) (dPart (dOp gIx (dVar 7) (dC (.int 0)))) (dPart (dVar 12))))) (dTst (dOp gNe (dFld C_Site (dOp gIx (dVar 2) (dC (.int 1))) "vector") (dOp gAdd (dTup (dCons (dVar 12) dNil)) (dOp gMulX (dTup (dCons (dC (.int 0)) dNil)) (dC (.int 7))))))) (sRet (dC (.bl false))) sNil))
  (sFrz 12 (sSetV 7 (dC (.int 0)) (dVar 12))))))))) (sIf (dTst (dOp gEq (dVar 9) (dC (.int 2)))) (sSeq (sAsg 10 (dMeth C_Site "news_for" 2 (d_Site_news_for C_Site) (dOp gIx (dVar 2) (dC (.int 1))) (dCons (dC (.int 2)) dNil)))
  (sSeq (sIf (dTst (dOp gNe (dVar 10) (dCall 3 (d_law_news C_Site) (dCons (dOp gIx (dVar 2) (dC (.int 1))) (dCons (dSl (dVar 5) dNoPart (dPart (dOp gIx (dVar 7) (dC (.int 0))))) (dCons (dOp gIx (dVar 6) (dC (.int 1))) dNil)))))) (sRet (dC (.bl false))) sNil)
  (sSeq (sExpr (dMeth C_Site "hear" 3 (d_Site_hear C_Knowing C_Site) (dOp gIx (dVar 2) (dC (.int 2))) (dCons (dC (.int 1)) (dCons (dVar 10) dNil))))
  (sSeq (sSetV 7 (dC (.int 1)) (dB gMax (dCons (dOp gIx (dVar 7) (dC (.int 1))) (dCons (dB gMin (dCons (dOp gIx (dVar 7) (dC (.int 0))) (dCons (dOp gAdd (dOp gIx (dVar 6) (dC (.int 1))) (dC (.int 20))) dNil))) dNil))))
  (sIf (dOr (dTst (dOp gNe (dFld C_Site (dOp gIx (dVar 2) (dC (.int 2))) "held") (dSl (dVar 5) dNoPart (dPart (dOp gIx (dVar 7) (dC (.int 1))))))) (dTst (dOp gNe (dFld C_Site (dOp gIx (dVar 2) (dC (.int 2))) "waiting") (dLst dNil)))) (sRet (dC (.bl false))) sNil))))) (sSeq (sExpr (dMeth C_Site "hear" 3 (d_Site_hear C_Knowing C_Site) (dOp gIx (dVar 2) (dC (.int 0))) (dCons (dC (.int 1)) (dCons (dMeth C_Site "news_for" 2 (d_Site_news_for C_Site) (dOp gIx (dVar 2) (dC (.int 1))) (dCons (dC (.int 0)) dNil)) dNil))))
  (sSeq (sSetV 6 (dC (.int 0)) (dOp gIx (dVar 7) (dC (.int 0))))
  (sSeq (sExpr (dMeth C_Site "hear" 3 (d_Site_hear C_Knowing C_Site) (dOp gIx (dVar 2) (dC (.int 1))) (dCons (dC (.int 2)) (dCons (dMeth C_Site "news_for" 2 (d_Site_news_for C_Site) (dOp gIx (dVar 2) (dC (.int 2))) (dCons (dC (.int 1)) dNil)) dNil))))
  (sSeq (sSetV 6 (dC (.int 1)) (dOp gIx (dVar 7) (dC (.int 1))))
  (sIf (dOr (dTst (dOp gNe (dOp gIx (dMeth C_Site "heard" 2 (d_Site_heard C_Site) (dOp gIx (dVar 2) (dC (.int 0))) (dCons (dC (.int 1)) dNil)) (dC (.int 0))) (dOp gIx (dVar 7) (dC (.int 0))))) (dTst (dOp gNe (dOp gIx (dMeth C_Site "heard" 2 (d_Site_heard C_Site) (dOp gIx (dVar 2) (dC (.int 1))) (dCons (dC (.int 2)) dNil)) (dC (.int 0))) (dOp gIx (dVar 7) (dC (.int 1)))))) (sRet (dC (.bl false))) sNil))))))))))
  (sSeq (sFor (dRng1 (dC (.int 5))) (bName 4) (sSeq (sExpr (dMeth C_Site "hear" 3 (d_Site_hear C_Knowing C_Site) (dOp gIx (dVar 2) (dC (.int 1))) (dCons (dC (.int 0)) (dCons (dMeth C_Site "news_for" 2 (d_Site_news_for C_Site) (dOp gIx (dVar 2) (dC (.int 0))) (dCons (dC (.int 1)) dNil)) dNil))))
  (sExpr (dMeth C_Site "hear" 3 (d_Site_hear C_Knowing C_Site) (dOp gIx (dVar 2) (dC (.int 0))) (dCons (dC (.int 1)) (dCons (dMeth C_Site "news_for" 2 (d_Site_news_for C_Site) (dOp gIx (dVar 2) (dC (.int 1))) (dCons (dC (.int 0)) dNil)) dNil))))))
  (sRet (dAndV (dOp gEq (dFld C_Site (dOp gIx (dVar 2) (dC (.int 1))) "held") (dVar 5)) (dOp gEq (dMeth C_Site "news_for" 2 (d_Site_news_for C_Site) (dOp gIx (dVar 2) (dC (.int 0))) (dCons (dC (.int 1)) dNil)) (dTup (dCons (dC (.str "news")) (dCons (dFld C_Site (dOp gIx (dVar 2) (dC (.int 0))) "vector") (dCons (dTup dNil) dNil))))))))))))))))
def d_law (C_Base C_Knowing C_Site : Addr) : DF := dDef 1 13 (d_law_b C_Base C_Knowing C_Site)
end PM

namespace PM
open PySem PySem.Spec L2
open PyProof.Rows hiding St
theorem take_eq {n : Nat} {h : Hs} {k : Int} {Q : VQ} {E : XQ} (hb : B n h) (h0 : 0 < k) (h1 : k < 2 ^ 200) : d_law_take [.val (.ref n), .val (.int k)] h Q E = Q (.val (.int (tk n k h))) (pt n k h) := by
  have hg := hb.get
  have hl := hb.lt
  simp [d_law_take, d_law_take_b, seqC_ref, hg, atI, ixN, cdivW h0 h1, h0]
  rfl
theorem cmulM (a : Int) : CMul (a % 2147483647) (a % 2147483647) := cmulL (by
  have := Int.emod_nonneg a (b := 2147483647) (by decide)
  have := Int.emod_lt_of_pos a (b := 2147483647) (by decide)
  omega)
theorem row_ok {h : Hs} {Q : VQ} {E : XQ} {ns : List Int} {k : Int} (hQ : ∀ i, Q (.val (.int i)) h) : d_law_row [.scr ns, .val (.int k)] h Q E := by
  have fin : ∀ (D : DEnds) (c : Int) (w3 w4 : Option SV), D.rt = Q → (sSeq (sIf (dTst (dOp gLt (dVar 2) (dC (.int 0)))) (sAsg 2 (dOp gSub (dC (.int 1)) (dOp gMulX (dC (.int 2)) (dVar 2)))) sNil)
  (sSeq (sIf (dAnd (dTst (dOp gGe (dVar 2) (dOp gPow (dC (.int 10)) (dC (.int 9))))) (dTst (dOp gLt (dVar 1) (dB (g1 gLen) (dCons (dVar 0) dNil))))) (sRetV 2) sNil)
  (sSeq (sAsg 3 (dOp gMod (dB (g1 gInt1) (dCons (dOp gAdd (dOp gAdd (dOp gMulX (dVar 2) (dC (.int 48271))) (dOp gMulX (dOp gAdd (dVar 1) (dC (.int 1))) (dC (.int 69621)))) (dB (g1 gLen) (dCons (dVar 0) dNil))) dNil)) (dC (.int 2147483647))))
  (sSeq (sAsg 4 (dOp gMod (dB (g1 gInt1) (dCons (dOp gAdd (dOp gAdd (dOp gMulX (dVar 3) (dVar 3)) (dOp gMulX (dVar 2) (dC (.int 16807)))) (dVar 1)) dNil)) (dC (.int 2147483629))))
  (sRet (dOp gAdd (dOp gMulX (dVar 4) (dC (.int 2147483647))) (dOp gMod (dB (g1 gInt1) (dCons (dOp gMulX (dVar 3) (dC (.int 40692))) dNil)) (dC (.int 2147483399))))))))) D [some (.scr ns), some (.val (.int k)), some (.val (.int c)), w3, w4] h := by
    intro D c w3 w4 hD
    have tail : ∀ (D : DEnds) (c : Int), D.rt = Q → (sSeq (sIf (dAnd (dTst (dOp gGe (dVar 2) (dOp gPow (dC (.int 10)) (dC (.int 9))))) (dTst (dOp gLt (dVar 1) (dB (g1 gLen) (dCons (dVar 0) dNil))))) (sRetV 2) sNil)
  (sSeq (sAsg 3 (dOp gMod (dB (g1 gInt1) (dCons (dOp gAdd (dOp gAdd (dOp gMulX (dVar 2) (dC (.int 48271))) (dOp gMulX (dOp gAdd (dVar 1) (dC (.int 1))) (dC (.int 69621)))) (dB (g1 gLen) (dCons (dVar 0) dNil))) dNil)) (dC (.int 2147483647))))
  (sSeq (sAsg 4 (dOp gMod (dB (g1 gInt1) (dCons (dOp gAdd (dOp gAdd (dOp gMulX (dVar 3) (dVar 3)) (dOp gMulX (dVar 2) (dC (.int 16807)))) (dVar 1)) dNil)) (dC (.int 2147483629))))
  (sRet (dOp gAdd (dOp gMulX (dVar 4) (dC (.int 2147483647))) (dOp gMod (dB (g1 gInt1) (dCons (dOp gMulX (dVar 3) (dC (.int 40692))) dNil)) (dC (.int 2147483399)))))))) D [some (.scr ns), some (.val (.int k)), some (.val (.int c)), w3, w4] h := by
      intro D c hD
      refine seq_in fun N hN => ?_
      have nx : N [some (.scr ns), some (.val (.int k)), some (.val (.int c)), w3, w4] h := by
        refine hN _ _ ?_
        subst hD
        simp [cmulR, cmulL, cmulM, hQ]
      clear hN
      subst hD
      simp
      by_cases q : (10 : Int) ^ 9 ≤ c
      · simp [q, hQ, nx]
      · simp [q, hQ, nx]
    refine seq_in fun N hN => ?_
    have nx := fun c => hN [some (.scr ns), some (.val (.int k)), some (.val (.int c)), w3, w4] h (tail _ c hD)
    simp [cmulL, nx]
  unfold d_law_row d_law_row_b dDef
  refine ⟨rfl, ?_⟩
  refine seq_in fun N hN => ?_
  simp
  refine hN _ _ ?_
  clear hN
  refine seq_in fun N hN => ?_
  have nx := fun c => hN [some (.scr ns), some (.val (.int k)), some (.val (.int c)), none, none] h (fin _ c _ _ rfl)
  clear hN
  cases ns with
  | nil => simp [nx]
  | cons n0 ns =>
    obtain ⟨c, hc⟩ := atI_some (xs := n0 :: ns) (i := k % ((ns.length : Int) + 1)) (Int.emod_nonneg k (by omega)) (by simpa using Int.emod_lt_of_pos k (b := (ns.length : Int) + 1) (by omega))
    have hc' : atI (PV.int n0 :: List.map PV.int ns) (k % (↑ns.length + 1)) = some (.int c) := by
      rw [← List.map_cons, atI_map, hc]
      rfl
    simp [hc', nx]
/-- the vector of a world in which only the first site writes -/
def vecP (n : Nat) : PV := .tup [.int n, .int 0, .int 0, .int 0, .int 0, .int 0, .int 0, .int 0]
/-- the dot of the event behind n others -/
def dotP (n : Nat) : PV := .tup [.int 0, .int ((n : Int) + 1)]
/-- the event behind n others -/
def evP (n : Nat) (op : PV) : PV := .tup [.int 0, .int ((n : Int) + 1), vecP n, .int ((n : Int) + 1), op]
@[simp ↓ 5000] theorem ix_ev0 (n : Nat) (op : PV) (h : Hs) (q : SV → Prop) : gIx h (.val (evP n op)) (.val (.int 0)) q = q (.val (.int 0)) := by
  unfold evP
  simp
@[simp ↓ 5000] theorem ix_ev1 (n : Nat) (op : PV) (h : Hs) (q : SV → Prop) : gIx h (.val (evP n op)) (.val (.int 1)) q = q (.val (.int ((n : Int) + 1))) := by
  unfold evP
  simp
@[simp ↓ 5000] theorem ix_ev2 (n : Nat) (op : PV) (h : Hs) (q : SV → Prop) : gIx h (.val (evP n op)) (.val (.int 2)) q = q (.val (vecP n)) := by
  unfold evP
  simp
@[simp ↓ 5000] theorem ix_ev3 (n : Nat) (op : PV) (h : Hs) (q : SV → Prop) : gIx h (.val (evP n op)) (.val (.int 3)) q = q (.val (.int ((n : Int) + 1))) := by
  unfold evP
  simp
@[simp ↓ 5000] theorem ix_ev4 (n : Nat) (op : PV) (h : Hs) (q : SV → Prop) : gIx h (.val (evP n op)) (.val (.int 4)) q = q (.val (op)) := by
  unfold evP
  simp
@[simp ↓ 5000] theorem ix_dot0 (n : Nat) (h : Hs) (q : SV → Prop) : gIx h (.val (dotP n)) (.val (.int 0)) q = q (.val (.int 0)) := by
  unfold dotP
  simp
@[simp ↓ 5000] theorem ix_dot1 (n : Nat) (h : Hs) (q : SV → Prop) : gIx h (.val (dotP n)) (.val (.int 1)) q = q (.val (.int ((n : Int) + 1))) := by
  unfold dotP
  simp
theorem vec_no : c_NO_VECTOR = vecP 0 := rfl
section
variable {h : Hs} {Q : VQ} {E : XQ}
theorem knows_eq (v n : Nat) : d_knows [.val (vecP v), .val (dotP n)] h Q E = Q (.val (.bl (decide (n < v)))) h := by
  have e : decide ((n : Int) + 1 ≤ (v : Int)) = decide (n < v) := by
    by_cases q : n < v
    · rw [decide_eq_true q, decide_eq_true (by omega)]
    · rw [decide_eq_false q, decide_eq_false (by omega)]
  unfold vecP
  simp [d_knows, d_knows_b, e]
theorem dot_eq (n : Nat) (op : PV) : d_dot_of [.val (evP n op)] h Q E = Q (.val (dotP n)) h := by
  unfold evP dotP
  simp [d_dot_of, d_dot_of_b]
  rfl
theorem raised_eq (v n : Nat) : d_raised [.val (vecP v), .val (dotP n)] h Q E = Q (.val (vecP (n + 1))) h := by
  unfold vecP
  have s8 : 8 ≤ sizeLine := szL (by decide)
  have s1 : 1 ≤ sizeLine := szL (by decide)
  have c1 : cutP [PV.int v, PV.int 0, PV.int 0, PV.int 0, PV.int 0, PV.int 0, PV.int 0, PV.int 0] none (some 0) = [] := rfl
  have c2 : cutP [PV.int v, PV.int 0, PV.int 0, PV.int 0, PV.int 0, PV.int 0, PV.int 0, PV.int 0] (some 1) none = [PV.int 0, PV.int 0, PV.int 0, PV.int 0, PV.int 0, PV.int 0, PV.int 0] := rfl
  simp [d_raised, d_raised_b, atI, ixN, s1, c1, c2, s8]
theorem joined_eq (v w : Nat) : d_joined [.val (vecP v), .val (vecP w)] h Q E = Q (.val (vecP (max v w))) h := by
  unfold vecP
  have s8 : 8 ≤ sizeLine := szL (by decide)
  have e : (max (v : Int) (w : Int)) = ((max v w : Nat) : Int) := by omega
  simp [d_joined, d_joined_b, szLt, e]
theorem covers_eq (v w : Nat) : d_covers [.val (vecP v), .val (vecP w)] h Q E = Q (.val (.bl (decide (w ≤ v)))) h := by
  unfold vecP
  simp [d_covers, d_covers_b, szLt]
theorem with_eq (n : Nat) (hn : n = 0 ∨ n = 1 ∨ n = 2) : d_with_site [.val (.tup [.int 0, .int 1, .int 2]), .val (.int n)] h Q E = Q (.val (.tup [.int 0, .int 1, .int 2])) h := by
  have s1 : 1 ≤ sizeLine := szL (by decide)
  have s4 : 4 ≤ sizeLine := szL (by decide)
  have e : [PV.int 0, .int 1, .int 2, .int n] = ([0, 1, 2, (n : Int)]).map fun i => PV.int i := rfl
  simp [d_with_site, d_with_site_b, s1, s4]
  rw [e, setL_pf (fun i : Int => PV.int i) (fun _ => true) (fun i => (.inl i : Key)) trivial _ _ (fun a m K N => by simp; rfl) (by simp)]
  have hs : ∀ k ∈ ([.inl 0, .inl 1, .inl 2, .inl (n : Int)] : List Key), ∀ j ∈ ([.inl 0, .inl 1, .inl 2, .inl (n : Int)] : List Key), kSame k j = true := by
    intro k hk j hj
    simp at hk hj
    rcases hk with rfl | rfl | rfl | rfl <;> rcases hj with rfl | rfl | rfl | rfl <;> rfl
  have es : sortK ([.inl 0, .inl 1, .inl 2, .inl (n : Int)] : List Key) = [.inl 0, .inl 1, .inl 2] := by
    refine (sortK_uniq (zs := [.inl 0, .inl 1, .inl 2]) ?_ hs fun k => ?_).symm
    · simp [kLt]
    · rcases hn with rfl | rfl | rfl <;> simp <;> exact ⟨fun z => by rcases z with z | z | z <;> simp [z], fun z => by rcases z with z | z | z | z <;> simp [z]⟩
  show ((∀ k ∈ ([.inl 0, .inl 1, .inl 2, .inl (n : Int)] : List Key), ∀ j ∈ ([.inl 0, .inl 1, .inl 2, .inl (n : Int)] : List Key), kSame k j = true) ∧ Q (.val (.tup ((sortK ([.inl 0, .inl 1, .inl 2, .inl (n : Int)] : List Key)).map pvK))) h) ↔ _
  rw [es]
  exact ⟨fun q => q.2, fun q => ⟨hs, q⟩⟩
end
end PM

namespace PM
open PySem PySem.Spec L2
open PyProof.Rows hiding St
theorem lkF_ne {f g : Str} {p : PV} {fs : List (Str × PV)} (h : (f == g) = false) : lookF f ((g, p) :: fs) = lookF f fs := by
  unfold lookF
  rw [List.lookup_cons, h]
theorem lkF_eq {f : Str} {p : PV} {fs : List (Str × PV)} : lookF f ((f, p) :: fs) = some p := by
  unfold lookF
  rw [List.lookup_cons, beq_self_eq_true]
theorem ptF_eq {f : Str} {p q : PV} {fs : List (Str × PV)} : putFP f p ((f, q) :: fs) = (f, p) :: fs := by
  unfold putFP
  exact if_pos rfl
theorem ptF_ne {f g : Str} {p q : PV} {fs : List (Str × PV)} (h : (g == f) = false) : putFP f p ((g, q) :: fs) = (g, q) :: putFP f p fs := by
  have n : ¬ g = f := fun e => by rw [e, beq_self_eq_true] at h; cases h
  conv => lhs; unfold putFP
  exact if_neg n
theorem ptF_nil {f : Str} {p : PV} : putFP f p [] = [(f, p)] := rfl
/-! fields of bs -/
def bs1 (a0 : PV) : List (Str × PV) := [("vector", a0)]
def bs2 (a0 a1 : PV) : List (Str × PV) := [("vector", a0), ("height", a1)]
def bs3 (a0 a1 a2 : PV) : List (Str × PV) := [("vector", a0), ("height", a1), ("registers", a2)]
def bs4 (a0 a1 a2 a3 : PV) : List (Str × PV) := [("vector", a0), ("height", a1), ("registers", a2), ("counters", a3)]
def bs5 (a0 a1 a2 a3 a4 : PV) : List (Str × PV) := [("vector", a0), ("height", a1), ("registers", a2), ("counters", a3), ("sets", a4)]
def bsF (a0 a1 a2 a3 a4 a5 : PV) : List (Str × PV) := [("vector", a0), ("height", a1), ("registers", a2), ("counters", a3), ("sets", a4), ("texts", a5)]
section
variable (a0 a1 a2 a3 a4 a5 x : PV)
@[simp] theorem bs_len1 : (bs1 a0).length = 1 := rfl
@[simp] theorem bs_len2 : (bs2 a0 a1).length = 2 := rfl
@[simp] theorem bs_len3 : (bs3 a0 a1 a2).length = 3 := rfl
@[simp] theorem bs_len4 : (bs4 a0 a1 a2 a3).length = 4 := rfl
@[simp] theorem bs_len5 : (bs5 a0 a1 a2 a3 a4).length = 5 := rfl
@[simp] theorem bs_len6 : (bsF a0 a1 a2 a3 a4 a5).length = 6 := rfl
@[simp] theorem bs_n1 : putFP "vector" a0 [] = bs1 a0 := ptF_nil
@[simp] theorem bs_n2 : putFP "height" a1 (bs1 a0) = bs2 a0 a1 := (ptF_ne (by decide +kernel)).trans (congrArg _ (ptF_nil))
@[simp] theorem bs_n3 : putFP "registers" a2 (bs2 a0 a1) = bs3 a0 a1 a2 := (ptF_ne (by decide +kernel)).trans (congrArg _ ((ptF_ne (by decide +kernel)).trans (congrArg _ (ptF_nil))))
@[simp] theorem bs_n4 : putFP "counters" a3 (bs3 a0 a1 a2) = bs4 a0 a1 a2 a3 := (ptF_ne (by decide +kernel)).trans (congrArg _ ((ptF_ne (by decide +kernel)).trans (congrArg _ ((ptF_ne (by decide +kernel)).trans (congrArg _ (ptF_nil))))))
@[simp] theorem bs_n5 : putFP "sets" a4 (bs4 a0 a1 a2 a3) = bs5 a0 a1 a2 a3 a4 := (ptF_ne (by decide +kernel)).trans (congrArg _ ((ptF_ne (by decide +kernel)).trans (congrArg _ ((ptF_ne (by decide +kernel)).trans (congrArg _ ((ptF_ne (by decide +kernel)).trans (congrArg _ (ptF_nil))))))))
@[simp] theorem bs_n6 : putFP "texts" a5 (bs5 a0 a1 a2 a3 a4) = bsF a0 a1 a2 a3 a4 a5 := (ptF_ne (by decide +kernel)).trans (congrArg _ ((ptF_ne (by decide +kernel)).trans (congrArg _ ((ptF_ne (by decide +kernel)).trans (congrArg _ ((ptF_ne (by decide +kernel)).trans (congrArg _ ((ptF_ne (by decide +kernel)).trans (congrArg _ (ptF_nil))))))))))
@[simp] theorem bs_l_vector : lookF "vector" (bsF a0 a1 a2 a3 a4 a5) = some a0 := lkF_eq
@[simp] theorem bs_p_vector : putFP "vector" x (bsF a0 a1 a2 a3 a4 a5) = bsF x a1 a2 a3 a4 a5 := ptF_eq
@[simp] theorem bs_l_height : lookF "height" (bsF a0 a1 a2 a3 a4 a5) = some a1 := (lkF_ne (by decide +kernel)).trans (lkF_eq)
@[simp] theorem bs_p_height : putFP "height" x (bsF a0 a1 a2 a3 a4 a5) = bsF a0 x a2 a3 a4 a5 := (ptF_ne (by decide +kernel)).trans (congrArg _ (ptF_eq))
@[simp] theorem bs_l_registers : lookF "registers" (bsF a0 a1 a2 a3 a4 a5) = some a2 := (lkF_ne (by decide +kernel)).trans ((lkF_ne (by decide +kernel)).trans (lkF_eq))
@[simp] theorem bs_p_registers : putFP "registers" x (bsF a0 a1 a2 a3 a4 a5) = bsF a0 a1 x a3 a4 a5 := (ptF_ne (by decide +kernel)).trans (congrArg _ ((ptF_ne (by decide +kernel)).trans (congrArg _ (ptF_eq))))
@[simp] theorem bs_l_counters : lookF "counters" (bsF a0 a1 a2 a3 a4 a5) = some a3 := (lkF_ne (by decide +kernel)).trans ((lkF_ne (by decide +kernel)).trans ((lkF_ne (by decide +kernel)).trans (lkF_eq)))
@[simp] theorem bs_p_counters : putFP "counters" x (bsF a0 a1 a2 a3 a4 a5) = bsF a0 a1 a2 x a4 a5 := (ptF_ne (by decide +kernel)).trans (congrArg _ ((ptF_ne (by decide +kernel)).trans (congrArg _ ((ptF_ne (by decide +kernel)).trans (congrArg _ (ptF_eq))))))
@[simp] theorem bs_l_sets : lookF "sets" (bsF a0 a1 a2 a3 a4 a5) = some a4 := (lkF_ne (by decide +kernel)).trans ((lkF_ne (by decide +kernel)).trans ((lkF_ne (by decide +kernel)).trans ((lkF_ne (by decide +kernel)).trans (lkF_eq))))
@[simp] theorem bs_p_sets : putFP "sets" x (bsF a0 a1 a2 a3 a4 a5) = bsF a0 a1 a2 a3 x a5 := (ptF_ne (by decide +kernel)).trans (congrArg _ ((ptF_ne (by decide +kernel)).trans (congrArg _ ((ptF_ne (by decide +kernel)).trans (congrArg _ ((ptF_ne (by decide +kernel)).trans (congrArg _ (ptF_eq))))))))
@[simp] theorem bs_l_texts : lookF "texts" (bsF a0 a1 a2 a3 a4 a5) = some a5 := (lkF_ne (by decide +kernel)).trans ((lkF_ne (by decide +kernel)).trans ((lkF_ne (by decide +kernel)).trans ((lkF_ne (by decide +kernel)).trans ((lkF_ne (by decide +kernel)).trans (lkF_eq)))))
@[simp] theorem bs_p_texts : putFP "texts" x (bsF a0 a1 a2 a3 a4 a5) = bsF a0 a1 a2 a3 a4 x := (ptF_ne (by decide +kernel)).trans (congrArg _ ((ptF_ne (by decide +kernel)).trans (congrArg _ ((ptF_ne (by decide +kernel)).trans (congrArg _ ((ptF_ne (by decide +kernel)).trans (congrArg _ ((ptF_ne (by decide +kernel)).trans (congrArg _ (ptF_eq))))))))))
end
/-! fields of kw -/
def kw1 (a0 : PV) : List (Str × PV) := [("number", a0)]
def kw2 (a0 a1 : PV) : List (Str × PV) := [("number", a0), ("size", a1)]
def kw3 (a0 a1 a2 : PV) : List (Str × PV) := [("number", a0), ("size", a1), ("present", a2)]
def kw4 (a0 a1 a2 a3 : PV) : List (Str × PV) := [("number", a0), ("size", a1), ("present", a2), ("coming", a3)]
def kw5 (a0 a1 a2 a3 a4 : PV) : List (Str × PV) := [("number", a0), ("size", a1), ("present", a2), ("coming", a3), ("told", a4)]
def kw6 (a0 a1 a2 a3 a4 a5 : PV) : List (Str × PV) := [("number", a0), ("size", a1), ("present", a2), ("coming", a3), ("told", a4), ("retiring", a5)]
def kw7 (a0 a1 a2 a3 a4 a5 a6 : PV) : List (Str × PV) := [("number", a0), ("size", a1), ("present", a2), ("coming", a3), ("told", a4), ("retiring", a5), ("over", a6)]
def kw8 (a0 a1 a2 a3 a4 a5 a6 a7 : PV) : List (Str × PV) := [("number", a0), ("size", a1), ("present", a2), ("coming", a3), ("told", a4), ("retiring", a5), ("over", a6), ("acks", a7)]
def kwF (a0 a1 a2 a3 a4 a5 a6 a7 a8 : PV) : List (Str × PV) := [("number", a0), ("size", a1), ("present", a2), ("coming", a3), ("told", a4), ("retiring", a5), ("over", a6), ("acks", a7), ("absent", a8)]
section
variable (a0 a1 a2 a3 a4 a5 a6 a7 a8 x : PV)
@[simp] theorem kw_len1 : (kw1 a0).length = 1 := rfl
@[simp] theorem kw_len2 : (kw2 a0 a1).length = 2 := rfl
@[simp] theorem kw_len3 : (kw3 a0 a1 a2).length = 3 := rfl
@[simp] theorem kw_len4 : (kw4 a0 a1 a2 a3).length = 4 := rfl
@[simp] theorem kw_len5 : (kw5 a0 a1 a2 a3 a4).length = 5 := rfl
@[simp] theorem kw_len6 : (kw6 a0 a1 a2 a3 a4 a5).length = 6 := rfl
@[simp] theorem kw_len7 : (kw7 a0 a1 a2 a3 a4 a5 a6).length = 7 := rfl
@[simp] theorem kw_len8 : (kw8 a0 a1 a2 a3 a4 a5 a6 a7).length = 8 := rfl
@[simp] theorem kw_len9 : (kwF a0 a1 a2 a3 a4 a5 a6 a7 a8).length = 9 := rfl
@[simp] theorem kw_n1 : putFP "number" a0 [] = kw1 a0 := ptF_nil
@[simp] theorem kw_n2 : putFP "size" a1 (kw1 a0) = kw2 a0 a1 := (ptF_ne (by decide +kernel)).trans (congrArg _ (ptF_nil))
@[simp] theorem kw_n3 : putFP "present" a2 (kw2 a0 a1) = kw3 a0 a1 a2 := (ptF_ne (by decide +kernel)).trans (congrArg _ ((ptF_ne (by decide +kernel)).trans (congrArg _ (ptF_nil))))
@[simp] theorem kw_n4 : putFP "coming" a3 (kw3 a0 a1 a2) = kw4 a0 a1 a2 a3 := (ptF_ne (by decide +kernel)).trans (congrArg _ ((ptF_ne (by decide +kernel)).trans (congrArg _ ((ptF_ne (by decide +kernel)).trans (congrArg _ (ptF_nil))))))
@[simp] theorem kw_n5 : putFP "told" a4 (kw4 a0 a1 a2 a3) = kw5 a0 a1 a2 a3 a4 := (ptF_ne (by decide +kernel)).trans (congrArg _ ((ptF_ne (by decide +kernel)).trans (congrArg _ ((ptF_ne (by decide +kernel)).trans (congrArg _ ((ptF_ne (by decide +kernel)).trans (congrArg _ (ptF_nil))))))))
@[simp] theorem kw_n6 : putFP "retiring" a5 (kw5 a0 a1 a2 a3 a4) = kw6 a0 a1 a2 a3 a4 a5 := (ptF_ne (by decide +kernel)).trans (congrArg _ ((ptF_ne (by decide +kernel)).trans (congrArg _ ((ptF_ne (by decide +kernel)).trans (congrArg _ ((ptF_ne (by decide +kernel)).trans (congrArg _ ((ptF_ne (by decide +kernel)).trans (congrArg _ (ptF_nil))))))))))
@[simp] theorem kw_n7 : putFP "over" a6 (kw6 a0 a1 a2 a3 a4 a5) = kw7 a0 a1 a2 a3 a4 a5 a6 := (ptF_ne (by decide +kernel)).trans (congrArg _ ((ptF_ne (by decide +kernel)).trans (congrArg _ ((ptF_ne (by decide +kernel)).trans (congrArg _ ((ptF_ne (by decide +kernel)).trans (congrArg _ ((ptF_ne (by decide +kernel)).trans (congrArg _ ((ptF_ne (by decide +kernel)).trans (congrArg _ (ptF_nil))))))))))))
@[simp] theorem kw_n8 : putFP "acks" a7 (kw7 a0 a1 a2 a3 a4 a5 a6) = kw8 a0 a1 a2 a3 a4 a5 a6 a7 := (ptF_ne (by decide +kernel)).trans (congrArg _ ((ptF_ne (by decide +kernel)).trans (congrArg _ ((ptF_ne (by decide +kernel)).trans (congrArg _ ((ptF_ne (by decide +kernel)).trans (congrArg _ ((ptF_ne (by decide +kernel)).trans (congrArg _ ((ptF_ne (by decide +kernel)).trans (congrArg _ ((ptF_ne (by decide +kernel)).trans (congrArg _ (ptF_nil))))))))))))))
@[simp] theorem kw_n9 : putFP "absent" a8 (kw8 a0 a1 a2 a3 a4 a5 a6 a7) = kwF a0 a1 a2 a3 a4 a5 a6 a7 a8 := (ptF_ne (by decide +kernel)).trans (congrArg _ ((ptF_ne (by decide +kernel)).trans (congrArg _ ((ptF_ne (by decide +kernel)).trans (congrArg _ ((ptF_ne (by decide +kernel)).trans (congrArg _ ((ptF_ne (by decide +kernel)).trans (congrArg _ ((ptF_ne (by decide +kernel)).trans (congrArg _ ((ptF_ne (by decide +kernel)).trans (congrArg _ ((ptF_ne (by decide +kernel)).trans (congrArg _ (ptF_nil))))))))))))))))
@[simp] theorem kw_l_number : lookF "number" (kwF a0 a1 a2 a3 a4 a5 a6 a7 a8) = some a0 := lkF_eq
@[simp] theorem kw_p_number : putFP "number" x (kwF a0 a1 a2 a3 a4 a5 a6 a7 a8) = kwF x a1 a2 a3 a4 a5 a6 a7 a8 := ptF_eq
@[simp] theorem kw_l_size : lookF "size" (kwF a0 a1 a2 a3 a4 a5 a6 a7 a8) = some a1 := (lkF_ne (by decide +kernel)).trans (lkF_eq)
@[simp] theorem kw_p_size : putFP "size" x (kwF a0 a1 a2 a3 a4 a5 a6 a7 a8) = kwF a0 x a2 a3 a4 a5 a6 a7 a8 := (ptF_ne (by decide +kernel)).trans (congrArg _ (ptF_eq))
@[simp] theorem kw_l_present : lookF "present" (kwF a0 a1 a2 a3 a4 a5 a6 a7 a8) = some a2 := (lkF_ne (by decide +kernel)).trans ((lkF_ne (by decide +kernel)).trans (lkF_eq))
@[simp] theorem kw_p_present : putFP "present" x (kwF a0 a1 a2 a3 a4 a5 a6 a7 a8) = kwF a0 a1 x a3 a4 a5 a6 a7 a8 := (ptF_ne (by decide +kernel)).trans (congrArg _ ((ptF_ne (by decide +kernel)).trans (congrArg _ (ptF_eq))))
@[simp] theorem kw_l_coming : lookF "coming" (kwF a0 a1 a2 a3 a4 a5 a6 a7 a8) = some a3 := (lkF_ne (by decide +kernel)).trans ((lkF_ne (by decide +kernel)).trans ((lkF_ne (by decide +kernel)).trans (lkF_eq)))
@[simp] theorem kw_p_coming : putFP "coming" x (kwF a0 a1 a2 a3 a4 a5 a6 a7 a8) = kwF a0 a1 a2 x a4 a5 a6 a7 a8 := (ptF_ne (by decide +kernel)).trans (congrArg _ ((ptF_ne (by decide +kernel)).trans (congrArg _ ((ptF_ne (by decide +kernel)).trans (congrArg _ (ptF_eq))))))
@[simp] theorem kw_l_told : lookF "told" (kwF a0 a1 a2 a3 a4 a5 a6 a7 a8) = some a4 := (lkF_ne (by decide +kernel)).trans ((lkF_ne (by decide +kernel)).trans ((lkF_ne (by decide +kernel)).trans ((lkF_ne (by decide +kernel)).trans (lkF_eq))))
@[simp] theorem kw_p_told : putFP "told" x (kwF a0 a1 a2 a3 a4 a5 a6 a7 a8) = kwF a0 a1 a2 a3 x a5 a6 a7 a8 := (ptF_ne (by decide +kernel)).trans (congrArg _ ((ptF_ne (by decide +kernel)).trans (congrArg _ ((ptF_ne (by decide +kernel)).trans (congrArg _ ((ptF_ne (by decide +kernel)).trans (congrArg _ (ptF_eq))))))))
@[simp] theorem kw_l_retiring : lookF "retiring" (kwF a0 a1 a2 a3 a4 a5 a6 a7 a8) = some a5 := (lkF_ne (by decide +kernel)).trans ((lkF_ne (by decide +kernel)).trans ((lkF_ne (by decide +kernel)).trans ((lkF_ne (by decide +kernel)).trans ((lkF_ne (by decide +kernel)).trans (lkF_eq)))))
@[simp] theorem kw_p_retiring : putFP "retiring" x (kwF a0 a1 a2 a3 a4 a5 a6 a7 a8) = kwF a0 a1 a2 a3 a4 x a6 a7 a8 := (ptF_ne (by decide +kernel)).trans (congrArg _ ((ptF_ne (by decide +kernel)).trans (congrArg _ ((ptF_ne (by decide +kernel)).trans (congrArg _ ((ptF_ne (by decide +kernel)).trans (congrArg _ ((ptF_ne (by decide +kernel)).trans (congrArg _ (ptF_eq))))))))))
@[simp] theorem kw_l_over : lookF "over" (kwF a0 a1 a2 a3 a4 a5 a6 a7 a8) = some a6 := (lkF_ne (by decide +kernel)).trans ((lkF_ne (by decide +kernel)).trans ((lkF_ne (by decide +kernel)).trans ((lkF_ne (by decide +kernel)).trans ((lkF_ne (by decide +kernel)).trans ((lkF_ne (by decide +kernel)).trans (lkF_eq))))))
@[simp] theorem kw_p_over : putFP "over" x (kwF a0 a1 a2 a3 a4 a5 a6 a7 a8) = kwF a0 a1 a2 a3 a4 a5 x a7 a8 := (ptF_ne (by decide +kernel)).trans (congrArg _ ((ptF_ne (by decide +kernel)).trans (congrArg _ ((ptF_ne (by decide +kernel)).trans (congrArg _ ((ptF_ne (by decide +kernel)).trans (congrArg _ ((ptF_ne (by decide +kernel)).trans (congrArg _ ((ptF_ne (by decide +kernel)).trans (congrArg _ (ptF_eq))))))))))))
@[simp] theorem kw_l_acks : lookF "acks" (kwF a0 a1 a2 a3 a4 a5 a6 a7 a8) = some a7 := (lkF_ne (by decide +kernel)).trans ((lkF_ne (by decide +kernel)).trans ((lkF_ne (by decide +kernel)).trans ((lkF_ne (by decide +kernel)).trans ((lkF_ne (by decide +kernel)).trans ((lkF_ne (by decide +kernel)).trans ((lkF_ne (by decide +kernel)).trans (lkF_eq)))))))
@[simp] theorem kw_p_acks : putFP "acks" x (kwF a0 a1 a2 a3 a4 a5 a6 a7 a8) = kwF a0 a1 a2 a3 a4 a5 a6 x a8 := (ptF_ne (by decide +kernel)).trans (congrArg _ ((ptF_ne (by decide +kernel)).trans (congrArg _ ((ptF_ne (by decide +kernel)).trans (congrArg _ ((ptF_ne (by decide +kernel)).trans (congrArg _ ((ptF_ne (by decide +kernel)).trans (congrArg _ ((ptF_ne (by decide +kernel)).trans (congrArg _ ((ptF_ne (by decide +kernel)).trans (congrArg _ (ptF_eq))))))))))))))
@[simp] theorem kw_l_absent : lookF "absent" (kwF a0 a1 a2 a3 a4 a5 a6 a7 a8) = some a8 := (lkF_ne (by decide +kernel)).trans ((lkF_ne (by decide +kernel)).trans ((lkF_ne (by decide +kernel)).trans ((lkF_ne (by decide +kernel)).trans ((lkF_ne (by decide +kernel)).trans ((lkF_ne (by decide +kernel)).trans ((lkF_ne (by decide +kernel)).trans ((lkF_ne (by decide +kernel)).trans (lkF_eq))))))))
@[simp] theorem kw_p_absent : putFP "absent" x (kwF a0 a1 a2 a3 a4 a5 a6 a7 a8) = kwF a0 a1 a2 a3 a4 a5 a6 a7 x := (ptF_ne (by decide +kernel)).trans (congrArg _ ((ptF_ne (by decide +kernel)).trans (congrArg _ ((ptF_ne (by decide +kernel)).trans (congrArg _ ((ptF_ne (by decide +kernel)).trans (congrArg _ ((ptF_ne (by decide +kernel)).trans (congrArg _ ((ptF_ne (by decide +kernel)).trans (congrArg _ ((ptF_ne (by decide +kernel)).trans (congrArg _ ((ptF_ne (by decide +kernel)).trans (congrArg _ (ptF_eq))))))))))))))))
@[simp] theorem kw_m_note : lookF "note" (kwF a0 a1 a2 a3 a4 a5 a6 a7 a8) = none := (lkF_ne (by decide +kernel)).trans ((lkF_ne (by decide +kernel)).trans ((lkF_ne (by decide +kernel)).trans ((lkF_ne (by decide +kernel)).trans ((lkF_ne (by decide +kernel)).trans ((lkF_ne (by decide +kernel)).trans ((lkF_ne (by decide +kernel)).trans ((lkF_ne (by decide +kernel)).trans ((lkF_ne (by decide +kernel)).trans (rfl)))))))))
@[simp] theorem kw_m_join_told : lookF "join_told" (kwF a0 a1 a2 a3 a4 a5 a6 a7 a8) = none := (lkF_ne (by decide +kernel)).trans ((lkF_ne (by decide +kernel)).trans ((lkF_ne (by decide +kernel)).trans ((lkF_ne (by decide +kernel)).trans ((lkF_ne (by decide +kernel)).trans ((lkF_ne (by decide +kernel)).trans ((lkF_ne (by decide +kernel)).trans ((lkF_ne (by decide +kernel)).trans ((lkF_ne (by decide +kernel)).trans (rfl)))))))))
@[simp] theorem kw_m_names_all : lookF "names_all" (kwF a0 a1 a2 a3 a4 a5 a6 a7 a8) = none := (lkF_ne (by decide +kernel)).trans ((lkF_ne (by decide +kernel)).trans ((lkF_ne (by decide +kernel)).trans ((lkF_ne (by decide +kernel)).trans ((lkF_ne (by decide +kernel)).trans ((lkF_ne (by decide +kernel)).trans ((lkF_ne (by decide +kernel)).trans ((lkF_ne (by decide +kernel)).trans ((lkF_ne (by decide +kernel)).trans (rfl)))))))))
@[simp] theorem kw_m_tell : lookF "tell" (kwF a0 a1 a2 a3 a4 a5 a6 a7 a8) = none := (lkF_ne (by decide +kernel)).trans ((lkF_ne (by decide +kernel)).trans ((lkF_ne (by decide +kernel)).trans ((lkF_ne (by decide +kernel)).trans ((lkF_ne (by decide +kernel)).trans ((lkF_ne (by decide +kernel)).trans ((lkF_ne (by decide +kernel)).trans ((lkF_ne (by decide +kernel)).trans ((lkF_ne (by decide +kernel)).trans (rfl)))))))))
@[simp] theorem kw_m_wants_ack : lookF "wants_ack" (kwF a0 a1 a2 a3 a4 a5 a6 a7 a8) = none := (lkF_ne (by decide +kernel)).trans ((lkF_ne (by decide +kernel)).trans ((lkF_ne (by decide +kernel)).trans ((lkF_ne (by decide +kernel)).trans ((lkF_ne (by decide +kernel)).trans ((lkF_ne (by decide +kernel)).trans ((lkF_ne (by decide +kernel)).trans ((lkF_ne (by decide +kernel)).trans ((lkF_ne (by decide +kernel)).trans (rfl)))))))))
@[simp] theorem kw_m_may_take : lookF "may_take" (kwF a0 a1 a2 a3 a4 a5 a6 a7 a8) = none := (lkF_ne (by decide +kernel)).trans ((lkF_ne (by decide +kernel)).trans ((lkF_ne (by decide +kernel)).trans ((lkF_ne (by decide +kernel)).trans ((lkF_ne (by decide +kernel)).trans ((lkF_ne (by decide +kernel)).trans ((lkF_ne (by decide +kernel)).trans ((lkF_ne (by decide +kernel)).trans ((lkF_ne (by decide +kernel)).trans (rfl)))))))))
end
/-! fields of si -/
def si1 (a0 : PV) : List (Str × PV) := [("number", a0)]
def si2 (a0 a1 : PV) : List (Str × PV) := [("number", a0), ("size", a1)]
def si3 (a0 a1 a2 : PV) : List (Str × PV) := [("number", a0), ("size", a1), ("vector", a2)]
def si4 (a0 a1 a2 a3 : PV) : List (Str × PV) := [("number", a0), ("size", a1), ("vector", a2), ("base", a3)]
def si5 (a0 a1 a2 a3 a4 : PV) : List (Str × PV) := [("number", a0), ("size", a1), ("vector", a2), ("base", a3), ("held", a4)]
def si6 (a0 a1 a2 a3 a4 a5 : PV) : List (Str × PV) := [("number", a0), ("size", a1), ("vector", a2), ("base", a3), ("held", a4), ("waiting", a5)]
def si7 (a0 a1 a2 a3 a4 a5 a6 : PV) : List (Str × PV) := [("number", a0), ("size", a1), ("vector", a2), ("base", a3), ("held", a4), ("waiting", a5), ("knowing", a6)]
def si8 (a0 a1 a2 a3 a4 a5 a6 a7 : PV) : List (Str × PV) := [("number", a0), ("size", a1), ("vector", a2), ("base", a3), ("held", a4), ("waiting", a5), ("knowing", a6), ("heard_vectors", a7)]
def siF (a0 a1 a2 a3 a4 a5 a6 a7 a8 : PV) : List (Str × PV) := [("number", a0), ("size", a1), ("vector", a2), ("base", a3), ("held", a4), ("waiting", a5), ("knowing", a6), ("heard_vectors", a7), ("new_events", a8)]
section
variable (a0 a1 a2 a3 a4 a5 a6 a7 a8 x : PV)
@[simp] theorem si_len1 : (si1 a0).length = 1 := rfl
@[simp] theorem si_len2 : (si2 a0 a1).length = 2 := rfl
@[simp] theorem si_len3 : (si3 a0 a1 a2).length = 3 := rfl
@[simp] theorem si_len4 : (si4 a0 a1 a2 a3).length = 4 := rfl
@[simp] theorem si_len5 : (si5 a0 a1 a2 a3 a4).length = 5 := rfl
@[simp] theorem si_len6 : (si6 a0 a1 a2 a3 a4 a5).length = 6 := rfl
@[simp] theorem si_len7 : (si7 a0 a1 a2 a3 a4 a5 a6).length = 7 := rfl
@[simp] theorem si_len8 : (si8 a0 a1 a2 a3 a4 a5 a6 a7).length = 8 := rfl
@[simp] theorem si_len9 : (siF a0 a1 a2 a3 a4 a5 a6 a7 a8).length = 9 := rfl
@[simp] theorem si_n1 : putFP "number" a0 [] = si1 a0 := ptF_nil
@[simp] theorem si_n2 : putFP "size" a1 (si1 a0) = si2 a0 a1 := (ptF_ne (by decide +kernel)).trans (congrArg _ (ptF_nil))
@[simp] theorem si_n3 : putFP "vector" a2 (si2 a0 a1) = si3 a0 a1 a2 := (ptF_ne (by decide +kernel)).trans (congrArg _ ((ptF_ne (by decide +kernel)).trans (congrArg _ (ptF_nil))))
@[simp] theorem si_n4 : putFP "base" a3 (si3 a0 a1 a2) = si4 a0 a1 a2 a3 := (ptF_ne (by decide +kernel)).trans (congrArg _ ((ptF_ne (by decide +kernel)).trans (congrArg _ ((ptF_ne (by decide +kernel)).trans (congrArg _ (ptF_nil))))))
@[simp] theorem si_n5 : putFP "held" a4 (si4 a0 a1 a2 a3) = si5 a0 a1 a2 a3 a4 := (ptF_ne (by decide +kernel)).trans (congrArg _ ((ptF_ne (by decide +kernel)).trans (congrArg _ ((ptF_ne (by decide +kernel)).trans (congrArg _ ((ptF_ne (by decide +kernel)).trans (congrArg _ (ptF_nil))))))))
@[simp] theorem si_n6 : putFP "waiting" a5 (si5 a0 a1 a2 a3 a4) = si6 a0 a1 a2 a3 a4 a5 := (ptF_ne (by decide +kernel)).trans (congrArg _ ((ptF_ne (by decide +kernel)).trans (congrArg _ ((ptF_ne (by decide +kernel)).trans (congrArg _ ((ptF_ne (by decide +kernel)).trans (congrArg _ ((ptF_ne (by decide +kernel)).trans (congrArg _ (ptF_nil))))))))))
@[simp] theorem si_n7 : putFP "knowing" a6 (si6 a0 a1 a2 a3 a4 a5) = si7 a0 a1 a2 a3 a4 a5 a6 := (ptF_ne (by decide +kernel)).trans (congrArg _ ((ptF_ne (by decide +kernel)).trans (congrArg _ ((ptF_ne (by decide +kernel)).trans (congrArg _ ((ptF_ne (by decide +kernel)).trans (congrArg _ ((ptF_ne (by decide +kernel)).trans (congrArg _ ((ptF_ne (by decide +kernel)).trans (congrArg _ (ptF_nil))))))))))))
@[simp] theorem si_n8 : putFP "heard_vectors" a7 (si7 a0 a1 a2 a3 a4 a5 a6) = si8 a0 a1 a2 a3 a4 a5 a6 a7 := (ptF_ne (by decide +kernel)).trans (congrArg _ ((ptF_ne (by decide +kernel)).trans (congrArg _ ((ptF_ne (by decide +kernel)).trans (congrArg _ ((ptF_ne (by decide +kernel)).trans (congrArg _ ((ptF_ne (by decide +kernel)).trans (congrArg _ ((ptF_ne (by decide +kernel)).trans (congrArg _ ((ptF_ne (by decide +kernel)).trans (congrArg _ (ptF_nil))))))))))))))
@[simp] theorem si_n9 : putFP "new_events" a8 (si8 a0 a1 a2 a3 a4 a5 a6 a7) = siF a0 a1 a2 a3 a4 a5 a6 a7 a8 := (ptF_ne (by decide +kernel)).trans (congrArg _ ((ptF_ne (by decide +kernel)).trans (congrArg _ ((ptF_ne (by decide +kernel)).trans (congrArg _ ((ptF_ne (by decide +kernel)).trans (congrArg _ ((ptF_ne (by decide +kernel)).trans (congrArg _ ((ptF_ne (by decide +kernel)).trans (congrArg _ ((ptF_ne (by decide +kernel)).trans (congrArg _ ((ptF_ne (by decide +kernel)).trans (congrArg _ (ptF_nil))))))))))))))))
@[simp] theorem si_l_number : lookF "number" (siF a0 a1 a2 a3 a4 a5 a6 a7 a8) = some a0 := lkF_eq
@[simp] theorem si_p_number : putFP "number" x (siF a0 a1 a2 a3 a4 a5 a6 a7 a8) = siF x a1 a2 a3 a4 a5 a6 a7 a8 := ptF_eq
@[simp] theorem si_l_size : lookF "size" (siF a0 a1 a2 a3 a4 a5 a6 a7 a8) = some a1 := (lkF_ne (by decide +kernel)).trans (lkF_eq)
@[simp] theorem si_p_size : putFP "size" x (siF a0 a1 a2 a3 a4 a5 a6 a7 a8) = siF a0 x a2 a3 a4 a5 a6 a7 a8 := (ptF_ne (by decide +kernel)).trans (congrArg _ (ptF_eq))
@[simp] theorem si_l_vector : lookF "vector" (siF a0 a1 a2 a3 a4 a5 a6 a7 a8) = some a2 := (lkF_ne (by decide +kernel)).trans ((lkF_ne (by decide +kernel)).trans (lkF_eq))
@[simp] theorem si_p_vector : putFP "vector" x (siF a0 a1 a2 a3 a4 a5 a6 a7 a8) = siF a0 a1 x a3 a4 a5 a6 a7 a8 := (ptF_ne (by decide +kernel)).trans (congrArg _ ((ptF_ne (by decide +kernel)).trans (congrArg _ (ptF_eq))))
@[simp] theorem si_l_base : lookF "base" (siF a0 a1 a2 a3 a4 a5 a6 a7 a8) = some a3 := (lkF_ne (by decide +kernel)).trans ((lkF_ne (by decide +kernel)).trans ((lkF_ne (by decide +kernel)).trans (lkF_eq)))
@[simp] theorem si_p_base : putFP "base" x (siF a0 a1 a2 a3 a4 a5 a6 a7 a8) = siF a0 a1 a2 x a4 a5 a6 a7 a8 := (ptF_ne (by decide +kernel)).trans (congrArg _ ((ptF_ne (by decide +kernel)).trans (congrArg _ ((ptF_ne (by decide +kernel)).trans (congrArg _ (ptF_eq))))))
@[simp] theorem si_l_held : lookF "held" (siF a0 a1 a2 a3 a4 a5 a6 a7 a8) = some a4 := (lkF_ne (by decide +kernel)).trans ((lkF_ne (by decide +kernel)).trans ((lkF_ne (by decide +kernel)).trans ((lkF_ne (by decide +kernel)).trans (lkF_eq))))
@[simp] theorem si_p_held : putFP "held" x (siF a0 a1 a2 a3 a4 a5 a6 a7 a8) = siF a0 a1 a2 a3 x a5 a6 a7 a8 := (ptF_ne (by decide +kernel)).trans (congrArg _ ((ptF_ne (by decide +kernel)).trans (congrArg _ ((ptF_ne (by decide +kernel)).trans (congrArg _ ((ptF_ne (by decide +kernel)).trans (congrArg _ (ptF_eq))))))))
@[simp] theorem si_l_waiting : lookF "waiting" (siF a0 a1 a2 a3 a4 a5 a6 a7 a8) = some a5 := (lkF_ne (by decide +kernel)).trans ((lkF_ne (by decide +kernel)).trans ((lkF_ne (by decide +kernel)).trans ((lkF_ne (by decide +kernel)).trans ((lkF_ne (by decide +kernel)).trans (lkF_eq)))))
@[simp] theorem si_p_waiting : putFP "waiting" x (siF a0 a1 a2 a3 a4 a5 a6 a7 a8) = siF a0 a1 a2 a3 a4 x a6 a7 a8 := (ptF_ne (by decide +kernel)).trans (congrArg _ ((ptF_ne (by decide +kernel)).trans (congrArg _ ((ptF_ne (by decide +kernel)).trans (congrArg _ ((ptF_ne (by decide +kernel)).trans (congrArg _ ((ptF_ne (by decide +kernel)).trans (congrArg _ (ptF_eq))))))))))
@[simp] theorem si_l_knowing : lookF "knowing" (siF a0 a1 a2 a3 a4 a5 a6 a7 a8) = some a6 := (lkF_ne (by decide +kernel)).trans ((lkF_ne (by decide +kernel)).trans ((lkF_ne (by decide +kernel)).trans ((lkF_ne (by decide +kernel)).trans ((lkF_ne (by decide +kernel)).trans ((lkF_ne (by decide +kernel)).trans (lkF_eq))))))
@[simp] theorem si_p_knowing : putFP "knowing" x (siF a0 a1 a2 a3 a4 a5 a6 a7 a8) = siF a0 a1 a2 a3 a4 a5 x a7 a8 := (ptF_ne (by decide +kernel)).trans (congrArg _ ((ptF_ne (by decide +kernel)).trans (congrArg _ ((ptF_ne (by decide +kernel)).trans (congrArg _ ((ptF_ne (by decide +kernel)).trans (congrArg _ ((ptF_ne (by decide +kernel)).trans (congrArg _ ((ptF_ne (by decide +kernel)).trans (congrArg _ (ptF_eq))))))))))))
@[simp] theorem si_l_heard_vectors : lookF "heard_vectors" (siF a0 a1 a2 a3 a4 a5 a6 a7 a8) = some a7 := (lkF_ne (by decide +kernel)).trans ((lkF_ne (by decide +kernel)).trans ((lkF_ne (by decide +kernel)).trans ((lkF_ne (by decide +kernel)).trans ((lkF_ne (by decide +kernel)).trans ((lkF_ne (by decide +kernel)).trans ((lkF_ne (by decide +kernel)).trans (lkF_eq)))))))
@[simp] theorem si_p_heard_vectors : putFP "heard_vectors" x (siF a0 a1 a2 a3 a4 a5 a6 a7 a8) = siF a0 a1 a2 a3 a4 a5 a6 x a8 := (ptF_ne (by decide +kernel)).trans (congrArg _ ((ptF_ne (by decide +kernel)).trans (congrArg _ ((ptF_ne (by decide +kernel)).trans (congrArg _ ((ptF_ne (by decide +kernel)).trans (congrArg _ ((ptF_ne (by decide +kernel)).trans (congrArg _ ((ptF_ne (by decide +kernel)).trans (congrArg _ ((ptF_ne (by decide +kernel)).trans (congrArg _ (ptF_eq))))))))))))))
@[simp] theorem si_l_new_events : lookF "new_events" (siF a0 a1 a2 a3 a4 a5 a6 a7 a8) = some a8 := (lkF_ne (by decide +kernel)).trans ((lkF_ne (by decide +kernel)).trans ((lkF_ne (by decide +kernel)).trans ((lkF_ne (by decide +kernel)).trans ((lkF_ne (by decide +kernel)).trans ((lkF_ne (by decide +kernel)).trans ((lkF_ne (by decide +kernel)).trans ((lkF_ne (by decide +kernel)).trans (lkF_eq))))))))
@[simp] theorem si_p_new_events : putFP "new_events" x (siF a0 a1 a2 a3 a4 a5 a6 a7 a8) = siF a0 a1 a2 a3 a4 a5 a6 a7 x := (ptF_ne (by decide +kernel)).trans (congrArg _ ((ptF_ne (by decide +kernel)).trans (congrArg _ ((ptF_ne (by decide +kernel)).trans (congrArg _ ((ptF_ne (by decide +kernel)).trans (congrArg _ ((ptF_ne (by decide +kernel)).trans (congrArg _ ((ptF_ne (by decide +kernel)).trans (congrArg _ ((ptF_ne (by decide +kernel)).trans (congrArg _ ((ptF_ne (by decide +kernel)).trans (congrArg _ (ptF_eq))))))))))))))))
@[simp] theorem si_m_take : lookF "take" (siF a0 a1 a2 a3 a4 a5 a6 a7 a8) = none := (lkF_ne (by decide +kernel)).trans ((lkF_ne (by decide +kernel)).trans ((lkF_ne (by decide +kernel)).trans ((lkF_ne (by decide +kernel)).trans ((lkF_ne (by decide +kernel)).trans ((lkF_ne (by decide +kernel)).trans ((lkF_ne (by decide +kernel)).trans ((lkF_ne (by decide +kernel)).trans ((lkF_ne (by decide +kernel)).trans (rfl)))))))))
@[simp] theorem si_m_hear_of : lookF "hear_of" (siF a0 a1 a2 a3 a4 a5 a6 a7 a8) = none := (lkF_ne (by decide +kernel)).trans ((lkF_ne (by decide +kernel)).trans ((lkF_ne (by decide +kernel)).trans ((lkF_ne (by decide +kernel)).trans ((lkF_ne (by decide +kernel)).trans ((lkF_ne (by decide +kernel)).trans ((lkF_ne (by decide +kernel)).trans ((lkF_ne (by decide +kernel)).trans ((lkF_ne (by decide +kernel)).trans (rfl)))))))))
@[simp] theorem si_m_make : lookF "make" (siF a0 a1 a2 a3 a4 a5 a6 a7 a8) = none := (lkF_ne (by decide +kernel)).trans ((lkF_ne (by decide +kernel)).trans ((lkF_ne (by decide +kernel)).trans ((lkF_ne (by decide +kernel)).trans ((lkF_ne (by decide +kernel)).trans ((lkF_ne (by decide +kernel)).trans ((lkF_ne (by decide +kernel)).trans ((lkF_ne (by decide +kernel)).trans ((lkF_ne (by decide +kernel)).trans (rfl)))))))))
@[simp] theorem si_m_end_step : lookF "end_step" (siF a0 a1 a2 a3 a4 a5 a6 a7 a8) = none := (lkF_ne (by decide +kernel)).trans ((lkF_ne (by decide +kernel)).trans ((lkF_ne (by decide +kernel)).trans ((lkF_ne (by decide +kernel)).trans ((lkF_ne (by decide +kernel)).trans ((lkF_ne (by decide +kernel)).trans ((lkF_ne (by decide +kernel)).trans ((lkF_ne (by decide +kernel)).trans ((lkF_ne (by decide +kernel)).trans (rfl)))))))))
@[simp] theorem si_m_check_writer : lookF "check_writer" (siF a0 a1 a2 a3 a4 a5 a6 a7 a8) = none := (lkF_ne (by decide +kernel)).trans ((lkF_ne (by decide +kernel)).trans ((lkF_ne (by decide +kernel)).trans ((lkF_ne (by decide +kernel)).trans ((lkF_ne (by decide +kernel)).trans ((lkF_ne (by decide +kernel)).trans ((lkF_ne (by decide +kernel)).trans ((lkF_ne (by decide +kernel)).trans ((lkF_ne (by decide +kernel)).trans (rfl)))))))))
@[simp] theorem si_m_check_place : lookF "check_place" (siF a0 a1 a2 a3 a4 a5 a6 a7 a8) = none := (lkF_ne (by decide +kernel)).trans ((lkF_ne (by decide +kernel)).trans ((lkF_ne (by decide +kernel)).trans ((lkF_ne (by decide +kernel)).trans ((lkF_ne (by decide +kernel)).trans ((lkF_ne (by decide +kernel)).trans ((lkF_ne (by decide +kernel)).trans ((lkF_ne (by decide +kernel)).trans ((lkF_ne (by decide +kernel)).trans (rfl)))))))))
@[simp] theorem si_m_write : lookF "write" (siF a0 a1 a2 a3 a4 a5 a6 a7 a8) = none := (lkF_ne (by decide +kernel)).trans ((lkF_ne (by decide +kernel)).trans ((lkF_ne (by decide +kernel)).trans ((lkF_ne (by decide +kernel)).trans ((lkF_ne (by decide +kernel)).trans ((lkF_ne (by decide +kernel)).trans ((lkF_ne (by decide +kernel)).trans ((lkF_ne (by decide +kernel)).trans ((lkF_ne (by decide +kernel)).trans (rfl)))))))))
@[simp] theorem si_m_can_take : lookF "can_take" (siF a0 a1 a2 a3 a4 a5 a6 a7 a8) = none := (lkF_ne (by decide +kernel)).trans ((lkF_ne (by decide +kernel)).trans ((lkF_ne (by decide +kernel)).trans ((lkF_ne (by decide +kernel)).trans ((lkF_ne (by decide +kernel)).trans ((lkF_ne (by decide +kernel)).trans ((lkF_ne (by decide +kernel)).trans ((lkF_ne (by decide +kernel)).trans ((lkF_ne (by decide +kernel)).trans (rfl)))))))))
@[simp] theorem si_m_take_next : lookF "take_next" (siF a0 a1 a2 a3 a4 a5 a6 a7 a8) = none := (lkF_ne (by decide +kernel)).trans ((lkF_ne (by decide +kernel)).trans ((lkF_ne (by decide +kernel)).trans ((lkF_ne (by decide +kernel)).trans ((lkF_ne (by decide +kernel)).trans ((lkF_ne (by decide +kernel)).trans ((lkF_ne (by decide +kernel)).trans ((lkF_ne (by decide +kernel)).trans ((lkF_ne (by decide +kernel)).trans (rfl)))))))))
@[simp] theorem si_m_let_wait : lookF "let_wait" (siF a0 a1 a2 a3 a4 a5 a6 a7 a8) = none := (lkF_ne (by decide +kernel)).trans ((lkF_ne (by decide +kernel)).trans ((lkF_ne (by decide +kernel)).trans ((lkF_ne (by decide +kernel)).trans ((lkF_ne (by decide +kernel)).trans ((lkF_ne (by decide +kernel)).trans ((lkF_ne (by decide +kernel)).trans ((lkF_ne (by decide +kernel)).trans ((lkF_ne (by decide +kernel)).trans (rfl)))))))))
@[simp] theorem si_m_hear : lookF "hear" (siF a0 a1 a2 a3 a4 a5 a6 a7 a8) = none := (lkF_ne (by decide +kernel)).trans ((lkF_ne (by decide +kernel)).trans ((lkF_ne (by decide +kernel)).trans ((lkF_ne (by decide +kernel)).trans ((lkF_ne (by decide +kernel)).trans ((lkF_ne (by decide +kernel)).trans ((lkF_ne (by decide +kernel)).trans ((lkF_ne (by decide +kernel)).trans ((lkF_ne (by decide +kernel)).trans (rfl)))))))))
@[simp] theorem si_m_heard : lookF "heard" (siF a0 a1 a2 a3 a4 a5 a6 a7 a8) = none := (lkF_ne (by decide +kernel)).trans ((lkF_ne (by decide +kernel)).trans ((lkF_ne (by decide +kernel)).trans ((lkF_ne (by decide +kernel)).trans ((lkF_ne (by decide +kernel)).trans ((lkF_ne (by decide +kernel)).trans ((lkF_ne (by decide +kernel)).trans ((lkF_ne (by decide +kernel)).trans ((lkF_ne (by decide +kernel)).trans (rfl)))))))))
@[simp] theorem si_m_news_for : lookF "news_for" (siF a0 a1 a2 a3 a4 a5 a6 a7 a8) = none := (lkF_ne (by decide +kernel)).trans ((lkF_ne (by decide +kernel)).trans ((lkF_ne (by decide +kernel)).trans ((lkF_ne (by decide +kernel)).trans ((lkF_ne (by decide +kernel)).trans ((lkF_ne (by decide +kernel)).trans ((lkF_ne (by decide +kernel)).trans ((lkF_ne (by decide +kernel)).trans ((lkF_ne (by decide +kernel)).trans (rfl)))))))))
@[simp] theorem si_m_fresh : lookF "fresh" (siF a0 a1 a2 a3 a4 a5 a6 a7 a8) = none := (lkF_ne (by decide +kernel)).trans ((lkF_ne (by decide +kernel)).trans ((lkF_ne (by decide +kernel)).trans ((lkF_ne (by decide +kernel)).trans ((lkF_ne (by decide +kernel)).trans ((lkF_ne (by decide +kernel)).trans ((lkF_ne (by decide +kernel)).trans ((lkF_ne (by decide +kernel)).trans ((lkF_ne (by decide +kernel)).trans (rfl)))))))))
end
end PM

namespace PM
open PySem PySem.Spec L2
open PyProof.Rows hiding St
/-! ### a site in the heap -/
/-- the places of a site, and what its base and its knowing hold beside -/
structure Pl where
  n : Nat
  base : Nat
  held : Nat
  wait : Nat
  kn : Nat
  hv : Nat
  new : Nat
  told : Nat
  acks : Nat
  b1 : PV
  b2 : PV
  b3 : PV
  b4 : PV
  b5 : PV
  k1 : PV
  k2 : PV
  k3 : PV
  k4 : PV
structure Ss where
  num : Nat
  v : Nat
  held : List PV
  wait : List PV
  new : List PV
  told : List Nat
  hv : List Nat
def own (P : Pl) : List Nat := [P.n, P.base, P.held, P.wait, P.kn, P.hv, P.new, P.told, P.acks]
structure SiteAt (CB CK CS : Addr) (h : Hs) (P : Pl) (S : Ss) : Prop where
  n : h[P.n]? = some (.ins CS (siF (.int S.num) (.int 5) (vecP S.v) (.ref P.base) (.ref P.held) (.ref P.wait) (.ref P.kn) (.ref P.hv) (.ref P.new)))
  base : h[P.base]? = some (.ins CB (bsF P.b1 (.int 0) P.b2 P.b3 P.b4 P.b5))
  held : h[P.held]? = some (.lst S.held)
  wait : h[P.wait]? = some (.lst S.wait)
  kn : h[P.kn]? = some (.ins CK (kwF (.int S.num) P.k1 P.k2 P.k3 (.ref P.told) (.tup []) (.tup []) (.ref P.acks) P.k4))
  hv : h[P.hv]? = some (.lst (S.hv.map vecP))
  new : h[P.new]? = some (.lst S.new)
  told : h[P.told]? = some (.lst (S.told.map vecP))
  acks : h[P.acks]? = some (.lst (List.replicate 5 (.tup [])))
  nd : (own P).Nodup
  lt : S.told.length = 5
  lh : S.hv.length = 5
  num : S.num < 3
/-- outside L nothing changed -/
structure Fr (h H : Hs) (L : List Nat) : Prop where
  l : h.length ≤ H.length
  g : ∀ i, i < h.length → i ∉ L → H[i]? = h[i]?
theorem Fr.refl (h : Hs) (L : List Nat) : Fr h h L := ⟨Nat.le_refl _, fun _ _ _ => rfl⟩
theorem Fr.set {h H : Hs} {L : List Nat} (f : Fr h H L) {i : Nat} (hi : i ∈ L ∨ h.length ≤ i) (c : Cell) : Fr h (H.set i c) L := ⟨by rw [List.length_set]; exact f.l, fun j lj nj => by
  rw [List.getElem?_set_ne fun e => by subst e; exact hi.elim nj fun q => by omega]
  exact f.g j lj nj⟩
theorem Fr.app {h H : Hs} {L : List Nat} (f : Fr h H L) (e : Hs) : Fr h (H ++ e) L := ⟨by rw [List.length_append]; have := f.l; omega, fun j lj nj => by
  rw [List.getElem?_append_left (Nat.lt_of_lt_of_le lj f.l)]
  exact f.g j lj nj⟩
theorem Fr.trans {a b c : Hs} {L M : List Nat} (x : Fr a b L) (y : Fr b c M) (hm : ∀ i ∈ M, i ∈ L ∨ a.length ≤ i) : Fr a c L := ⟨Nat.le_trans x.l y.l, fun i li ni => by
  rw [y.g i (Nat.lt_of_lt_of_le li x.l) fun z => (hm i z).elim ni fun q => by omega]
  exact x.g i li ni⟩
structure Po (CB CK CS : Addr) (h H : Hs) (P P' : Pl) (S' : Ss) : Prop where
  at_ : SiteAt CB CK CS H P' S'
  fr : Fr h H (own P)
  ow : ∀ x ∈ own P', x ∈ own P ∨ h.length ≤ x
  n : P'.n = P.n
section
variable {CB CK CS : Addr} {h H H2 : Hs} {P P' P2 : Pl} {S S' S2 : Ss}
theorem Po.refl (A : SiteAt CB CK CS h P S) : Po CB CK CS h h P P S := ⟨A, .refl _ _, fun _ q => .inl q, rfl⟩
theorem Po.trans (x : Po CB CK CS h H P P' S') (y : Po CB CK CS H H2 P' P2 S2) : Po CB CK CS h H2 P P2 S2 := ⟨y.at_, x.fr.trans y.fr x.ow, fun i m => (y.ow i m).elim (x.ow i) fun q => .inr (Nat.le_trans x.fr.l q), y.n.trans x.n⟩
theorem SiteAt.lts (A : SiteAt CB CK CS h P S) : ∀ x ∈ own P, x < h.length := by
  intro x m
  unfold own at m
  simp at m
  rcases m with rfl | rfl | rfl | rfl | rfl | rfl | rfl | rfl | rfl
  · exact (List.getElem?_eq_some_iff.mp A.n).1
  · exact (List.getElem?_eq_some_iff.mp A.base).1
  · exact (List.getElem?_eq_some_iff.mp A.held).1
  · exact (List.getElem?_eq_some_iff.mp A.wait).1
  · exact (List.getElem?_eq_some_iff.mp A.kn).1
  · exact (List.getElem?_eq_some_iff.mp A.hv).1
  · exact (List.getElem?_eq_some_iff.mp A.new).1
  · exact (List.getElem?_eq_some_iff.mp A.told).1
  · exact (List.getElem?_eq_some_iff.mp A.acks).1
/-- a site that stands apart stays -/
theorem SiteAt.keep (A : SiteAt CB CK CS h P S) {L : List Nat} (f : Fr h H L) (hd : ∀ x ∈ own P, x ∉ L) : SiteAt CB CK CS H P S := by
  have l := A.lts
  have g : ∀ x ∈ own P, H[x]? = h[x]? := fun x m => f.g x (l x m) (hd x m)
  exact ⟨(g _ (by simp [own])).trans A.n, (g _ (by simp [own])).trans A.base, (g _ (by simp [own])).trans A.held, (g _ (by simp [own])).trans A.wait, (g _ (by simp [own])).trans A.kn, (g _ (by simp [own])).trans A.hv, (g _ (by simp [own])).trans A.new, (g _ (by simp [own])).trans A.told, (g _ (by simp [own])).trans A.acks, A.nd, A.lt, A.lh, A.num⟩
theorem SiteAt.app (A : SiteAt CB CK CS h P S) (e : Hs) : SiteAt CB CK CS (h ++ e) P S := A.keep ((Fr.refl h []).app e) fun _ _ => by simp
structure Nd (P : Pl) : Prop where
  n_base : P.n ≠ P.base
  n_held : P.n ≠ P.held
  n_wait : P.n ≠ P.wait
  n_kn : P.n ≠ P.kn
  n_hv : P.n ≠ P.hv
  n_new : P.n ≠ P.new
  n_told : P.n ≠ P.told
  n_acks : P.n ≠ P.acks
  base_n : P.base ≠ P.n
  base_held : P.base ≠ P.held
  base_wait : P.base ≠ P.wait
  base_kn : P.base ≠ P.kn
  base_hv : P.base ≠ P.hv
  base_new : P.base ≠ P.new
  base_told : P.base ≠ P.told
  base_acks : P.base ≠ P.acks
  held_n : P.held ≠ P.n
  held_base : P.held ≠ P.base
  held_wait : P.held ≠ P.wait
  held_kn : P.held ≠ P.kn
  held_hv : P.held ≠ P.hv
  held_new : P.held ≠ P.new
  held_told : P.held ≠ P.told
  held_acks : P.held ≠ P.acks
  wait_n : P.wait ≠ P.n
  wait_base : P.wait ≠ P.base
  wait_held : P.wait ≠ P.held
  wait_kn : P.wait ≠ P.kn
  wait_hv : P.wait ≠ P.hv
  wait_new : P.wait ≠ P.new
  wait_told : P.wait ≠ P.told
  wait_acks : P.wait ≠ P.acks
  kn_n : P.kn ≠ P.n
  kn_base : P.kn ≠ P.base
  kn_held : P.kn ≠ P.held
  kn_wait : P.kn ≠ P.wait
  kn_hv : P.kn ≠ P.hv
  kn_new : P.kn ≠ P.new
  kn_told : P.kn ≠ P.told
  kn_acks : P.kn ≠ P.acks
  hv_n : P.hv ≠ P.n
  hv_base : P.hv ≠ P.base
  hv_held : P.hv ≠ P.held
  hv_wait : P.hv ≠ P.wait
  hv_kn : P.hv ≠ P.kn
  hv_new : P.hv ≠ P.new
  hv_told : P.hv ≠ P.told
  hv_acks : P.hv ≠ P.acks
  new_n : P.new ≠ P.n
  new_base : P.new ≠ P.base
  new_held : P.new ≠ P.held
  new_wait : P.new ≠ P.wait
  new_kn : P.new ≠ P.kn
  new_hv : P.new ≠ P.hv
  new_told : P.new ≠ P.told
  new_acks : P.new ≠ P.acks
  told_n : P.told ≠ P.n
  told_base : P.told ≠ P.base
  told_held : P.told ≠ P.held
  told_wait : P.told ≠ P.wait
  told_kn : P.told ≠ P.kn
  told_hv : P.told ≠ P.hv
  told_new : P.told ≠ P.new
  told_acks : P.told ≠ P.acks
  acks_n : P.acks ≠ P.n
  acks_base : P.acks ≠ P.base
  acks_held : P.acks ≠ P.held
  acks_wait : P.acks ≠ P.wait
  acks_kn : P.acks ≠ P.kn
  acks_hv : P.acks ≠ P.hv
  acks_new : P.acks ≠ P.new
  acks_told : P.acks ≠ P.told
theorem nds (nd : (own P).Nodup) : Nd P := by
  simp [own] at nd
  obtain ⟨⟨h_n_base, h_n_held, h_n_wait, h_n_kn, h_n_hv, h_n_new, h_n_told, h_n_acks⟩, ⟨h_base_held, h_base_wait, h_base_kn, h_base_hv, h_base_new, h_base_told, h_base_acks⟩, ⟨h_held_wait, h_held_kn, h_held_hv, h_held_new, h_held_told, h_held_acks⟩, ⟨h_wait_kn, h_wait_hv, h_wait_new, h_wait_told, h_wait_acks⟩, ⟨h_kn_hv, h_kn_new, h_kn_told, h_kn_acks⟩, ⟨h_hv_new, h_hv_told, h_hv_acks⟩, ⟨h_new_told, h_new_acks⟩, h_told_acks⟩ := nd
  exact ⟨h_n_base, h_n_held, h_n_wait, h_n_kn, h_n_hv, h_n_new, h_n_told, h_n_acks, Ne.symm h_n_base, h_base_held, h_base_wait, h_base_kn, h_base_hv, h_base_new, h_base_told, h_base_acks, Ne.symm h_n_held, Ne.symm h_base_held, h_held_wait, h_held_kn, h_held_hv, h_held_new, h_held_told, h_held_acks, Ne.symm h_n_wait, Ne.symm h_base_wait, Ne.symm h_held_wait, h_wait_kn, h_wait_hv, h_wait_new, h_wait_told, h_wait_acks, Ne.symm h_n_kn, Ne.symm h_base_kn, Ne.symm h_held_kn, Ne.symm h_wait_kn, h_kn_hv, h_kn_new, h_kn_told, h_kn_acks, Ne.symm h_n_hv, Ne.symm h_base_hv, Ne.symm h_held_hv, Ne.symm h_wait_hv, Ne.symm h_kn_hv, h_hv_new, h_hv_told, h_hv_acks, Ne.symm h_n_new, Ne.symm h_base_new, Ne.symm h_held_new, Ne.symm h_wait_new, Ne.symm h_kn_new, Ne.symm h_hv_new, h_new_told, h_new_acks, Ne.symm h_n_told, Ne.symm h_base_told, Ne.symm h_held_told, Ne.symm h_wait_told, Ne.symm h_kn_told, Ne.symm h_hv_told, Ne.symm h_new_told, h_told_acks, Ne.symm h_n_acks, Ne.symm h_base_acks, Ne.symm h_held_acks, Ne.symm h_wait_acks, Ne.symm h_kn_acks, Ne.symm h_hv_acks, Ne.symm h_new_acks, Ne.symm h_told_acks⟩
theorem SiteAt.setTold (A : SiteAt CB CK CS h P S) {t : List Nat} (l : t.length = 5) : Po CB CK CS h (h.set P.told (.lst (t.map vecP))) P P { S with told := t } := by
  have nd := nds A.nd
  have lt := A.lts P.told (by simp [own])
  refine ⟨⟨?_, ?_, ?_, ?_, ?_, ?_, ?_, ?_, ?_, A.nd, l, A.lh, A.num⟩, (Fr.refl _ _).set (.inl (by simp [own])) _, fun _ q => .inl q, rfl⟩
  · rw [List.getElem?_set_ne nd.told_n]; exact A.n
  · rw [List.getElem?_set_ne nd.told_base]; exact A.base
  · rw [List.getElem?_set_ne nd.told_held]; exact A.held
  · rw [List.getElem?_set_ne nd.told_wait]; exact A.wait
  · rw [List.getElem?_set_ne nd.told_kn]; exact A.kn
  · rw [List.getElem?_set_ne nd.told_hv]; exact A.hv
  · rw [List.getElem?_set_ne nd.told_new]; exact A.new
  · exact List.getElem?_set_self lt
  · rw [List.getElem?_set_ne nd.told_acks]; exact A.acks
theorem SiteAt.setHv (A : SiteAt CB CK CS h P S) {t : List Nat} (l : t.length = 5) : Po CB CK CS h (h.set P.hv (.lst (t.map vecP))) P P { S with hv := t } := by
  have nd := nds A.nd
  have lt := A.lts P.hv (by simp [own])
  refine ⟨⟨?_, ?_, ?_, ?_, ?_, ?_, ?_, ?_, ?_, A.nd, A.lt, l, A.num⟩, (Fr.refl _ _).set (.inl (by simp [own])) _, fun _ q => .inl q, rfl⟩
  · rw [List.getElem?_set_ne nd.hv_n]; exact A.n
  · rw [List.getElem?_set_ne nd.hv_base]; exact A.base
  · rw [List.getElem?_set_ne nd.hv_held]; exact A.held
  · rw [List.getElem?_set_ne nd.hv_wait]; exact A.wait
  · rw [List.getElem?_set_ne nd.hv_kn]; exact A.kn
  · exact List.getElem?_set_self lt
  · rw [List.getElem?_set_ne nd.hv_new]; exact A.new
  · rw [List.getElem?_set_ne nd.hv_told]; exact A.told
  · rw [List.getElem?_set_ne nd.hv_acks]; exact A.acks
theorem SiteAt.setHeld (A : SiteAt CB CK CS h P S) (t : List PV) : Po CB CK CS h (h.set P.held (.lst t)) P P { S with held := t } := by
  have nd := nds A.nd
  have lt := A.lts P.held (by simp [own])
  refine ⟨⟨?_, ?_, ?_, ?_, ?_, ?_, ?_, ?_, ?_, A.nd, A.lt, A.lh, A.num⟩, (Fr.refl _ _).set (.inl (by simp [own])) _, fun _ q => .inl q, rfl⟩
  · rw [List.getElem?_set_ne nd.held_n]; exact A.n
  · rw [List.getElem?_set_ne nd.held_base]; exact A.base
  · exact List.getElem?_set_self lt
  · rw [List.getElem?_set_ne nd.held_wait]; exact A.wait
  · rw [List.getElem?_set_ne nd.held_kn]; exact A.kn
  · rw [List.getElem?_set_ne nd.held_hv]; exact A.hv
  · rw [List.getElem?_set_ne nd.held_new]; exact A.new
  · rw [List.getElem?_set_ne nd.held_told]; exact A.told
  · rw [List.getElem?_set_ne nd.held_acks]; exact A.acks
theorem SiteAt.setWait (A : SiteAt CB CK CS h P S) (t : List PV) : Po CB CK CS h (h.set P.wait (.lst t)) P P { S with wait := t } := by
  have nd := nds A.nd
  have lt := A.lts P.wait (by simp [own])
  refine ⟨⟨?_, ?_, ?_, ?_, ?_, ?_, ?_, ?_, ?_, A.nd, A.lt, A.lh, A.num⟩, (Fr.refl _ _).set (.inl (by simp [own])) _, fun _ q => .inl q, rfl⟩
  · rw [List.getElem?_set_ne nd.wait_n]; exact A.n
  · rw [List.getElem?_set_ne nd.wait_base]; exact A.base
  · rw [List.getElem?_set_ne nd.wait_held]; exact A.held
  · exact List.getElem?_set_self lt
  · rw [List.getElem?_set_ne nd.wait_kn]; exact A.kn
  · rw [List.getElem?_set_ne nd.wait_hv]; exact A.hv
  · rw [List.getElem?_set_ne nd.wait_new]; exact A.new
  · rw [List.getElem?_set_ne nd.wait_told]; exact A.told
  · rw [List.getElem?_set_ne nd.wait_acks]; exact A.acks
theorem SiteAt.setNew (A : SiteAt CB CK CS h P S) (t : List PV) : Po CB CK CS h (h.set P.new (.lst t)) P P { S with new := t } := by
  have nd := nds A.nd
  have lt := A.lts P.new (by simp [own])
  refine ⟨⟨?_, ?_, ?_, ?_, ?_, ?_, ?_, ?_, ?_, A.nd, A.lt, A.lh, A.num⟩, (Fr.refl _ _).set (.inl (by simp [own])) _, fun _ q => .inl q, rfl⟩
  · rw [List.getElem?_set_ne nd.new_n]; exact A.n
  · rw [List.getElem?_set_ne nd.new_base]; exact A.base
  · rw [List.getElem?_set_ne nd.new_held]; exact A.held
  · rw [List.getElem?_set_ne nd.new_wait]; exact A.wait
  · rw [List.getElem?_set_ne nd.new_kn]; exact A.kn
  · rw [List.getElem?_set_ne nd.new_hv]; exact A.hv
  · exact List.getElem?_set_self lt
  · rw [List.getElem?_set_ne nd.new_told]; exact A.told
  · rw [List.getElem?_set_ne nd.new_acks]; exact A.acks
theorem SiteAt.setN (A : SiteAt CB CK CS h P S) (v : Nat) : Po CB CK CS h (h.set P.n (.ins CS (siF (.int S.num) (.int 5) (vecP v) (.ref P.base) (.ref P.held) (.ref P.wait) (.ref P.kn) (.ref P.hv) (.ref P.new)))) P P { S with v := v } := by
  have nd := nds A.nd
  have lt := A.lts P.n (by simp [own])
  refine ⟨⟨?_, ?_, ?_, ?_, ?_, ?_, ?_, ?_, ?_, A.nd, A.lt, A.lh, A.num⟩, (Fr.refl _ _).set (.inl (by simp [own])) _, fun _ q => .inl q, rfl⟩
  · exact List.getElem?_set_self lt
  · rw [List.getElem?_set_ne nd.n_base]; exact A.base
  · rw [List.getElem?_set_ne nd.n_held]; exact A.held
  · rw [List.getElem?_set_ne nd.n_wait]; exact A.wait
  · rw [List.getElem?_set_ne nd.n_kn]; exact A.kn
  · rw [List.getElem?_set_ne nd.n_hv]; exact A.hv
  · rw [List.getElem?_set_ne nd.n_new]; exact A.new
  · rw [List.getElem?_set_ne nd.n_told]; exact A.told
  · rw [List.getElem?_set_ne nd.n_acks]; exact A.acks
theorem SiteAt.newWait (A : SiteAt CB CK CS h P S) (t : List PV) : Po CB CK CS h ((h ++ [Cell.lst t]).set P.n (.ins CS (siF (.int S.num) (.int 5) (vecP S.v) (.ref P.base) (.ref P.held) (.ref h.length) (.ref P.kn) (.ref P.hv) (.ref P.new)))) P { P with wait := h.length } { S with wait := t } := by
  have nd := nds A.nd
  have l := A.lts
  have l_n := l P.n (by simp [own])
  have l_base := l P.base (by simp [own])
  have l_held := l P.held (by simp [own])
  have l_wait := l P.wait (by simp [own])
  have l_kn := l P.kn (by simp [own])
  have l_hv := l P.hv (by simp [own])
  have l_new := l P.new (by simp [own])
  have l_told := l P.told (by simp [own])
  have l_acks := l P.acks (by simp [own])
  have ap : ∀ {i : Nat} {c : Cell}, h[i]? = some c → (h ++ [Cell.lst t])[i]? = some c := fun {i c} e => by
    rw [List.getElem?_append_left (List.getElem?_eq_some_iff.mp e).1]
    exact e
  have nd' : (own { P with wait := h.length }).Nodup := by
    simp only [own, List.nodup_cons, List.mem_cons, List.not_mem_nil, or_false, not_or, List.nodup_nil, and_true, not_false_eq_true]
    exact ⟨⟨nd.n_base, nd.n_held, Nat.ne_of_lt l_n, nd.n_kn, nd.n_hv, nd.n_new, nd.n_told, nd.n_acks⟩, ⟨nd.base_held, Nat.ne_of_lt l_base, nd.base_kn, nd.base_hv, nd.base_new, nd.base_told, nd.base_acks⟩, ⟨Nat.ne_of_lt l_held, nd.held_kn, nd.held_hv, nd.held_new, nd.held_told, nd.held_acks⟩, ⟨Ne.symm (Nat.ne_of_lt l_kn), Ne.symm (Nat.ne_of_lt l_hv), Ne.symm (Nat.ne_of_lt l_new), Ne.symm (Nat.ne_of_lt l_told), Ne.symm (Nat.ne_of_lt l_acks)⟩, ⟨nd.kn_hv, nd.kn_new, nd.kn_told, nd.kn_acks⟩, ⟨nd.hv_new, nd.hv_told, nd.hv_acks⟩, ⟨nd.new_told, nd.new_acks⟩, nd.told_acks⟩
  refine ⟨⟨?_, ?_, ?_, ?_, ?_, ?_, ?_, ?_, ?_, nd', A.lt, A.lh, A.num⟩, ((Fr.refl _ _).app _).set (.inl (by simp [own])) _, fun x q => ?_, rfl⟩
  · exact List.getElem?_set_self (by rw [List.length_append]; exact Nat.lt_of_lt_of_le l_n (Nat.le_add_right _ _))
  · show (List.set (h ++ [Cell.lst t]) P.n _)[P.base]? = _
    rw [List.getElem?_set_ne nd.n_base]
    exact ap A.base
  · show (List.set (h ++ [Cell.lst t]) P.n _)[P.held]? = _
    rw [List.getElem?_set_ne nd.n_held]
    exact ap A.held
  · show (List.set (h ++ [Cell.lst t]) P.n _)[h.length]? = some (Cell.lst t)
    rw [List.getElem?_set_ne (Nat.ne_of_lt l_n), List.getElem?_append_right (Nat.le_refl _), Nat.sub_self]
    rfl
  · show (List.set (h ++ [Cell.lst t]) P.n _)[P.kn]? = _
    rw [List.getElem?_set_ne nd.n_kn]
    exact ap A.kn
  · show (List.set (h ++ [Cell.lst t]) P.n _)[P.hv]? = _
    rw [List.getElem?_set_ne nd.n_hv]
    exact ap A.hv
  · show (List.set (h ++ [Cell.lst t]) P.n _)[P.new]? = _
    rw [List.getElem?_set_ne nd.n_new]
    exact ap A.new
  · show (List.set (h ++ [Cell.lst t]) P.n _)[P.told]? = _
    rw [List.getElem?_set_ne nd.n_told]
    exact ap A.told
  · show (List.set (h ++ [Cell.lst t]) P.n _)[P.acks]? = _
    rw [List.getElem?_set_ne nd.n_acks]
    exact ap A.acks
  · simp only [own, List.mem_cons, List.not_mem_nil, or_false] at q ⊢
    rcases q with q | q | q | q | q | q | q | q | q
    · exact .inl (by simp [q])
    · exact .inl (by simp [q])
    · exact .inl (by simp [q])
    · exact .inr (by rw [q]; exact Nat.le_refl _)
    · exact .inl (by simp [q])
    · exact .inl (by simp [q])
    · exact .inl (by simp [q])
    · exact .inl (by simp [q])
    · exact .inl (by simp [q])
theorem SiteAt.newNew (A : SiteAt CB CK CS h P S) (t : List PV) : Po CB CK CS h ((h ++ [Cell.lst t]).set P.n (.ins CS (siF (.int S.num) (.int 5) (vecP S.v) (.ref P.base) (.ref P.held) (.ref P.wait) (.ref P.kn) (.ref P.hv) (.ref h.length)))) P { P with new := h.length } { S with new := t } := by
  have nd := nds A.nd
  have l := A.lts
  have l_n := l P.n (by simp [own])
  have l_base := l P.base (by simp [own])
  have l_held := l P.held (by simp [own])
  have l_wait := l P.wait (by simp [own])
  have l_kn := l P.kn (by simp [own])
  have l_hv := l P.hv (by simp [own])
  have l_new := l P.new (by simp [own])
  have l_told := l P.told (by simp [own])
  have l_acks := l P.acks (by simp [own])
  have ap : ∀ {i : Nat} {c : Cell}, h[i]? = some c → (h ++ [Cell.lst t])[i]? = some c := fun {i c} e => by
    rw [List.getElem?_append_left (List.getElem?_eq_some_iff.mp e).1]
    exact e
  have nd' : (own { P with new := h.length }).Nodup := by
    simp only [own, List.nodup_cons, List.mem_cons, List.not_mem_nil, or_false, not_or, List.nodup_nil, and_true, not_false_eq_true]
    exact ⟨⟨nd.n_base, nd.n_held, nd.n_wait, nd.n_kn, nd.n_hv, Nat.ne_of_lt l_n, nd.n_told, nd.n_acks⟩, ⟨nd.base_held, nd.base_wait, nd.base_kn, nd.base_hv, Nat.ne_of_lt l_base, nd.base_told, nd.base_acks⟩, ⟨nd.held_wait, nd.held_kn, nd.held_hv, Nat.ne_of_lt l_held, nd.held_told, nd.held_acks⟩, ⟨nd.wait_kn, nd.wait_hv, Nat.ne_of_lt l_wait, nd.wait_told, nd.wait_acks⟩, ⟨nd.kn_hv, Nat.ne_of_lt l_kn, nd.kn_told, nd.kn_acks⟩, ⟨Nat.ne_of_lt l_hv, nd.hv_told, nd.hv_acks⟩, ⟨Ne.symm (Nat.ne_of_lt l_told), Ne.symm (Nat.ne_of_lt l_acks)⟩, nd.told_acks⟩
  refine ⟨⟨?_, ?_, ?_, ?_, ?_, ?_, ?_, ?_, ?_, nd', A.lt, A.lh, A.num⟩, ((Fr.refl _ _).app _).set (.inl (by simp [own])) _, fun x q => ?_, rfl⟩
  · exact List.getElem?_set_self (by rw [List.length_append]; exact Nat.lt_of_lt_of_le l_n (Nat.le_add_right _ _))
  · show (List.set (h ++ [Cell.lst t]) P.n _)[P.base]? = _
    rw [List.getElem?_set_ne nd.n_base]
    exact ap A.base
  · show (List.set (h ++ [Cell.lst t]) P.n _)[P.held]? = _
    rw [List.getElem?_set_ne nd.n_held]
    exact ap A.held
  · show (List.set (h ++ [Cell.lst t]) P.n _)[P.wait]? = _
    rw [List.getElem?_set_ne nd.n_wait]
    exact ap A.wait
  · show (List.set (h ++ [Cell.lst t]) P.n _)[P.kn]? = _
    rw [List.getElem?_set_ne nd.n_kn]
    exact ap A.kn
  · show (List.set (h ++ [Cell.lst t]) P.n _)[P.hv]? = _
    rw [List.getElem?_set_ne nd.n_hv]
    exact ap A.hv
  · show (List.set (h ++ [Cell.lst t]) P.n _)[h.length]? = some (Cell.lst t)
    rw [List.getElem?_set_ne (Nat.ne_of_lt l_n), List.getElem?_append_right (Nat.le_refl _), Nat.sub_self]
    rfl
  · show (List.set (h ++ [Cell.lst t]) P.n _)[P.told]? = _
    rw [List.getElem?_set_ne nd.n_told]
    exact ap A.told
  · show (List.set (h ++ [Cell.lst t]) P.n _)[P.acks]? = _
    rw [List.getElem?_set_ne nd.n_acks]
    exact ap A.acks
  · simp only [own, List.mem_cons, List.not_mem_nil, or_false] at q ⊢
    rcases q with q | q | q | q | q | q | q | q | q
    · exact .inl (by simp [q])
    · exact .inl (by simp [q])
    · exact .inl (by simp [q])
    · exact .inl (by simp [q])
    · exact .inl (by simp [q])
    · exact .inl (by simp [q])
    · exact .inr (by rw [q]; exact Nat.le_refl _)
    · exact .inl (by simp [q])
    · exact .inl (by simp [q])
end
end PM

namespace PM
open PySem PySem.Spec L2
open PyProof.Rows hiding St
/-- an operation of this law -/
def OpOk (op : PV) : Prop := (∃ k, op = .tup [.str "inc", .str "a", .int k]) ∨ (∃ k, op = .tup [.str "set", .str "b", .int k]) ∨ ∃ z, op = .tup [.str "insert", .str "a", .non, .str z] ∧ PyData.strOk z = true
theorem at_map {v : List Nat} {i x : Nat} (e : v[i]? = some x) : atI (v.map vecP) ((i : Nat) : Int) = some (vecP x) := by
  rw [atI_nat', List.getElem?_map, e]
  rfl
section
variable {CB CK CS : Addr} {h : Hs} {P : Pl} {S : Ss} {Q : VQ} {E : XQ}
theorem join_eq (A : SiteAt CB CK CS h P S) {i w x : Nat} (hi : S.told[i]? = some x) (hQ : Q (.val .non) (h.set P.told (.lst ((S.told.set i (max x w)).map vecP)))) : d_Knowing_join_told CK [.val (.ref P.kn), .val (.int i), .val (vecP w)] h Q E := by
  have li := (List.getElem?_eq_some_iff.mp hi).1
  have e1 : seqC h (.val (.ref P.told)) = some (S.told.map vecP) := by simp [seqC_ref, A.told]
  have e2 : ixN (S.told.map vecP).length (i : Int) = some i := by rw [ixN_some (by omega) (by simpa using li)]; simp
  simp [d_Knowing_join_told, d_Knowing_join_told_b, A.kn]
  refine ⟨_, e1, _, at_map hi, ?_⟩
  rw [joined_eq]
  refine ⟨_, A.kn, .ref P.told, by simp, ?_⟩
  rw [List.map_set] at hQ
  exact ⟨_, A.told, i, e2, hQ⟩
theorem hear_of_eq (A : SiteAt CB CK CS h P S) {i w x : Nat} (hi : S.hv[i]? = some x) (hQ : Q (.val .non) (h.set P.hv (.lst ((S.hv.set i (max x w)).map vecP)))) : d_Site_hear_of CS [.val (.ref P.n), .val (.int i), .val (vecP w)] h Q E := by
  have li := (List.getElem?_eq_some_iff.mp hi).1
  have e1 : seqC h (.val (.ref P.hv)) = some (S.hv.map vecP) := by simp [seqC_ref, A.hv]
  have e2 : ixN (S.hv.map vecP).length (i : Int) = some i := by rw [ixN_some (by omega) (by simpa using li)]; simp
  simp [d_Site_hear_of, d_Site_hear_of_b, A.n]
  refine ⟨_, e1, _, at_map hi, ?_⟩
  rw [joined_eq]
  refine ⟨_, A.n, .ref P.hv, by simp, ?_⟩
  rw [List.map_set] at hQ
  exact ⟨_, A.hv, i, e2, hQ⟩
theorem names_eq (A : SiteAt CB CK CS h P S) (hQ : Q (.val (.bl true)) h) {i : Int} : d_Knowing_names_all CK [.val (.ref P.kn), .val (.int i)] h Q E := by
  simp [d_Knowing_names_all, d_Knowing_names_all_b, A.kn]
  exact hQ
theorem wants_eq (A : SiteAt CB CK CS h P S) (hQ : Q (.val (.bl false)) h) : d_Knowing_wants_ack CK [.val (.ref P.kn)] h Q E := by
  simp [d_Knowing_wants_ack, d_Knowing_wants_ack_b, A.kn]
  refine names_eq A ?_
  simp
  exact hQ
theorem may_eq (A : SiteAt CB CK CS h P S) {i : Nat} {op : PV} {sv : SV} (hQ : Q (.val (.bl true)) h) : d_Knowing_may_take CK [.val (.ref P.kn), .val (evP i op), sv] h Q E := by
  unfold d_Knowing_may_take d_Knowing_may_take_b dDef
  refine ⟨rfl, ?_⟩
  refine seq_in fun N hN => ?_
  simp [A.kn]
  exact hQ
theorem writer_eq (A : SiteAt CB CK CS h P S) (hQ : Q (.val .non) h) : d_Site_check_writer CK CS [.val (.ref P.n)] h Q E := by
  simp [d_Site_check_writer, d_Site_check_writer_b, A.n, A.kn]
  exact hQ
theorem place_eq (A : SiteAt CB CK CS h P S) {op : PV} (ho : OpOk op) (hQ : Q (.val .non) h) : d_Site_check_place CS [.val (.ref P.n), .val op] h Q E := by
  have n1 : ¬ (Str.ofString "inc" = Str.ofString "insert") := by decide +kernel
  have n2 : ¬ (Str.ofString "set" = Str.ofString "insert") := by decide +kernel
  have n3 : ¬ (Str.ofString "inc" = Str.ofString "erase") := by decide +kernel
  have n4 : ¬ (Str.ofString "set" = Str.ofString "erase") := by decide +kernel
  have s2 : 2 ≤ sizeLine := szL (by decide)
  unfold d_Site_check_place d_Site_check_place_b dDef
  refine ⟨rfl, ?_⟩
  refine seq_in fun N hN => ?_
  rcases ho with ⟨k, rfl⟩ | ⟨k, rfl⟩ | ⟨z, rfl, hz⟩
  · simp [n1, n3, s2]
    refine ⟨by decide +kernel, by decide +kernel, by decide +kernel, ⟨by decide +kernel, by decide +kernel⟩, ?_⟩
    rw [if_pos ⟨Ne.symm n1, Ne.symm n3⟩]
    exact hQ
  · simp [n2, n4, s2]
    refine ⟨by decide +kernel, by decide +kernel, by decide +kernel, ⟨by decide +kernel, by decide +kernel⟩, ?_⟩
    rw [if_pos ⟨Ne.symm n2, Ne.symm n4⟩]
    exact hQ
  · simp [s2]
    exact ⟨by decide +kernel, hQ⟩
theorem heard_eq (A : SiteAt CB CK CS h P S) {i x : Nat} (hn : i ≠ S.num) (hi : S.hv[i]? = some x) (hQ : Q (.val (vecP x)) h) : d_Site_heard CS [.val (.ref P.n), .val (.int i)] h Q E := by
  have e1 : seqC h (.val (.ref P.hv)) = some (S.hv.map vecP) := by simp [seqC_ref, A.hv]
  have ne : ¬ ((i : Int) = (S.num : Int)) := by omega
  simp [d_Site_heard, d_Site_heard_b, A.n, ne]
  exact ⟨_, e1, _, at_map hi, hQ⟩
theorem fresh_eq (A : SiteAt CB CK CS h P S) (hQ : ∀ H, Po CB CK CS h H P { P with new := h.length } { S with new := [] } → H[P.new]? = some (.lst S.new) → Q (.val (.ref P.new)) H) : d_Site_fresh CS [.val (.ref P.n)] h Q E := by
  have nd := nds A.nd
  have A1 := A.newNew []
  have ln := A.lts P.n (by simp [own])
  unfold d_Site_fresh d_Site_fresh_b dDef
  refine ⟨rfl, ?_⟩
  refine seq_in fun N hN => ?_
  simp [A.n]
  refine hN _ _ ?_
  clear hN
  have hn : (h ++ [Cell.lst []])[P.n]? = some (.ins CS (siF (.int S.num) (.int 5) (vecP S.v) (.ref P.base) (.ref P.held) (.ref P.wait) (.ref P.kn) (.ref P.hv) (.ref P.new))) := by
    rw [List.getElem?_append_left ln]
    exact A.n
  refine seq_in fun N hN => ?_
  simp [hn]
  refine hN _ _ ?_
  clear hN
  simp
  refine hQ _ A1 ?_
  rw [List.getElem?_set_ne nd.n_new, List.getElem?_append_left (A.lts P.new (by simp [own]))]
  exact A.new
end
end PM

namespace PM
open PySem PySem.Spec L2
open PyProof.Rows hiding St
theorem OpOk.word {op : PV} (h : OpOk op) : ∃ w rest, op = .tup (.str w :: rest) ∧ PyData.strOk w = true ∧ ¬ w = "admit" ∧ ¬ w = "begin" ∧ ¬ w = "retire" ∧ ¬ w = "ack" := by
  rcases h with ⟨k, rfl⟩ | ⟨k, rfl⟩ | ⟨z, rfl, hz⟩
  · exact ⟨_, _, rfl, by decide +kernel, by decide +kernel, by decide +kernel, by decide +kernel, by decide +kernel⟩
  · exact ⟨_, _, rfl, by decide +kernel, by decide +kernel, by decide +kernel, by decide +kernel, by decide +kernel⟩
  · exact ⟨_, _, rfl, by decide +kernel, by decide +kernel, by decide +kernel, by decide +kernel, by decide +kernel⟩
/-- a number more known of the first site, at the place j -/
def bump (t : List Nat) (j i : Nat) : List Nat := t.set j (max (t.getD j 0) i)
theorem bump_len (t : List Nat) (j i : Nat) : (bump t j i).length = t.length := by simp [bump]
theorem getD_some {t : List Nat} {j : Nat} (l : j < t.length) : t[j]? = some (t.getD j 0) := by
  rw [List.getElem?_eq_getElem l, List.getD_eq_getElem?_getD, List.getElem?_eq_getElem l]
  rfl
theorem bump_at {t : List Nat} {j i : Nat} (l : j < t.length) : (bump t j i).getD j 0 = max (t.getD j 0) i := by
  unfold bump
  rw [List.getD_eq_getElem?_getD, List.getElem?_set_self l]
  rfl
theorem bump_ne {t : List Nat} {j i k : Nat} (n : k ≠ j) : (bump t j i).getD k 0 = t.getD k 0 := by
  unfold bump
  rw [List.getD_eq_getElem?_getD, List.getElem?_set_ne (Ne.symm n), ← List.getD_eq_getElem?_getD]
section
variable {CB CK CS : Addr} {h : Hs} {P : Pl} {S : Ss} {Q : VQ} {E : XQ}
theorem join_po (A : SiteAt CB CK CS h P S) {i w : Nat} (hi : i < 5) (hQ : ∀ H, Po CB CK CS h H P P { S with told := bump S.told i w } → Q (.val .non) H) : d_Knowing_join_told CK [.val (.ref P.kn), .val (.int i), .val (vecP w)] h Q E :=
  join_eq A (getD_some (by rw [A.lt]; exact hi)) (hQ _ (A.setTold (t := bump S.told i w) (by rw [bump_len]; exact A.lt)))
theorem hear_po (A : SiteAt CB CK CS h P S) {i w : Nat} (hi : i < 5) (hQ : ∀ H, Po CB CK CS h H P P { S with hv := bump S.hv i w } → Q (.val .non) H) : d_Site_hear_of CS [.val (.ref P.n), .val (.int i), .val (vecP w)] h Q E :=
  hear_of_eq A (getD_some (by rw [A.lh]; exact hi)) (hQ _ (A.setHv (t := bump S.hv i w) (by rw [bump_len]; exact A.lh)))
theorem knote_eq (A : SiteAt CB CK CS h P S) {i : Nat} {op : PV} (ho : OpOk op) (hQ : ∀ H, Po CB CK CS h H P P { S with told := bump (bump S.told 0 (i + 1)) S.num (i + 1) } → Q (.val .non) H) : d_Knowing_note CK [.val (.ref P.kn), .val (evP i op)] h Q E := by
  obtain ⟨w, rest, rfl, ow, w1, w2, w3, w4⟩ := ho.word
  have nm := A.num
  have oks : PyData.strOk "admit" = true ∧ PyData.strOk "begin" = true ∧ PyData.strOk "retire" = true ∧ PyData.strOk "ack" = true := by decide +kernel
  obtain ⟨k1, k2, k3, k4⟩ := oks
  unfold d_Knowing_note d_Knowing_note_b dDef
  refine ⟨rfl, ?_⟩
  refine seq_in fun N hN => ?_
  simp
  rw [dot_eq]
  refine ⟨rfl, hN _ _ ?_⟩
  clear hN
  refine seq_in fun N hN => ?_
  simp
  refine hN _ _ ?_
  clear hN
  refine seq_in fun N hN => ?_
  simp [c_ADMIT, w1, ow, k1]
  refine hN _ _ ?_
  clear hN
  refine seq_in fun N hN => ?_
  simp
  rw [raised_eq]
  refine ⟨rfl, hN _ _ ?_⟩
  clear hN
  refine seq_in fun N hN => ?_
  simp [A.kn]
  refine join_po (i := 0) A (by decide) fun H1 B1 => hN _ _ ?_
  clear hN
  have A1 := B1.at_
  refine seq_in fun N hN => ?_
  simp [A1.kn]
  rw [vec_no, raised_eq]
  simp [A1.kn]
  refine join_po (i := S.num) A1 (by omega) fun H2 B2 => hN _ _ ?_
  clear hN
  have B := B1.trans B2
  refine seq_in fun N hN => ?_
  simp [c_BEGIN, w2, ow, k2]
  refine hN _ _ ?_
  clear hN
  refine seq_in fun N hN => ?_
  simp [c_RETIRE, w3, ow, k3]
  refine hN _ _ ?_
  clear hN
  simp [c_ACK, w4, ow, k4]
  exact hQ _ B
/-- what is told behind a step of tell: one's own stays -/
theorem tell_eq (A : SiteAt CB CK CS h P S) {s V : Nat} (hs : s < 5) (hn : s ≠ S.num) (hQ : ∀ H t, Po CB CK CS h H P P { S with told := t } → t.getD S.num 0 = S.told.getD S.num 0 → Q (.val .non) H) : d_Knowing_tell CK [.val (.ref P.kn), .val (.int s), .val (vecP V)] h Q E := by
  have nm := A.num
  have lt := A.lt
  have e1 : seqC h (.val (.ref P.told)) = some (S.told.map vecP) := by simp [seqC_ref, A.told]
  have e2 := at_map (getD_some (t := S.told) (j := S.num) (by omega))
  have el : ∀ n : Nat, ∃ a : Int, atI [PV.int (n : Int), .int 0, .int 0, .int 0, .int 0, .int 0, .int 0, .int 0] (s : Int) = some (.int a) := fun n => by
    rcases (by omega : s = 0 ∨ s = 1 ∨ s = 2 ∨ s = 3 ∨ s = 4) with rfl | rfl | rfl | rfl | rfl <;> exact ⟨_, rfl⟩
  obtain ⟨a, ea⟩ := el V
  obtain ⟨b, eb⟩ := el (S.told.getD S.num 0)
  simp only [d_Knowing_tell, d_Knowing_tell_b, dDef]
  refine ⟨rfl, ?_⟩
  refine if_in fun S1 T1 hS1 hT1 => ?_
  simp [A.kn]
  refine ⟨_, rfl, _, ea, _, e1, _, e2, _, rfl, _, eb, ?_⟩
  show if a ≤ b then _ else _
  split
  · refine hS1 _ _ ?_
    simp [A.kn]
    exact join_po A hs fun H B => hQ H _ B (bump_ne (Ne.symm hn))
  · refine hT1 _ _ ?_
    simp
    have B := A.setTold (t := S.told) lt
    have e : h.set P.told (.lst (S.told.map vecP)) = h := by
      refine List.ext_getElem? fun i => ?_
      by_cases q : P.told = i
      · subst q
        rw [List.getElem?_set_self (List.getElem?_eq_some_iff.mp A.told).1, A.told]
      · rw [List.getElem?_set_ne q]
    rw [e] at B
    exact hQ h _ B rfl
theorem end_eq (A : SiteAt CB CK CS h P S) (hl : S.wait.length ≤ 1000) (hw : ∀ e ∈ S.wait, ∃ i op, e = evP i op) (hQ : ∀ H P', Po CB CK CS h H P P' S → Q (.val .non) H) : d_Site_end_step CK CS [.val (.ref P.n)] h Q E := by
  unfold d_Site_end_step d_Site_end_step_b dDef
  refine ⟨rfl, ?_⟩
  refine seq_in fun N hN => ?_
  simp [A.n, A.kn]
  refine wants_eq A ?_
  simp
  refine hN _ _ ?_
  clear hN
  have e1 : seqC h (.val (.ref P.wait)) = some S.wait := by simp [seqC_ref, A.wait]
  simp [A.n]
  refine ⟨_, e1, ?_⟩
  have key := fun QC => compL_pf (Q := QC) (env := [some (.val (.ref P.n)), none]) (chk := fun h => seqC h (.val (.ref P.wait)) = some S.wait) (bd := bName 1) (tt := dTst (dOp (gInB true) (dOp gIx (dVar 1) (dC (.int 0))) (dFld CK (dFld CS (dVar 0) "knowing") "over"))) (te := dVar 1) (h := h) (fun a : PV => SV.val a) (fun x => x) (fun x => x) (fun _ => true) e1 (fun _ => rfl) S.wait [] (fun a m K N => by
    obtain ⟨i, op, rfl⟩ := hw a m
    simp [A.n, A.kn]) (szL (by simp; omega))
  rw [List.map_id'] at key
  rw [key]
  have B := A.newWait S.wait
  have ln := A.lts P.n (by simp [own])
  have hn : (h ++ [Cell.lst S.wait])[P.n]? = some (.ins CS (siF (.int S.num) (.int 5) (vecP S.v) (.ref P.base) (.ref P.held) (.ref P.wait) (.ref P.kn) (.ref P.hv) (.ref P.new))) := by
    rw [List.getElem?_append_left ln]
    exact A.n
  have ef : [] ++ (S.wait.filter fun _ => true).map (fun x => x) = S.wait := by simp
  rw [ef]
  refine ⟨_, hn, by simp, ?_⟩
  have := hQ _ _ B
  simpa using this
end
end PM

namespace PM
open PySem PySem.Spec L2
open PyProof.Rows hiding St
/-- what a site knows behind the event behind i others -/
def tkT (S : Ss) (i : Nat) : List Nat := bump (bump S.told 0 (i + 1)) S.num (i + 1)
def tkV (S : Ss) (i : Nat) : Nat := (tkT S i).getD S.num 0
def tkS (S : Ss) (i : Nat) (op : PV) : Ss := { S with v := tkV S i, held := S.held ++ [evP i op], told := tkT S i, hv := (bump S.hv 0 (i + 1)).set S.num (tkV S i) }
section
variable {CB CK CS : Addr} {h : Hs} {P : Pl} {S : Ss} {Q : VQ} {E : XQ}
theorem stake_eq (A : SiteAt CB CK CS h P S) {i : Nat} {op : PV} (ho : OpOk op) (hl : S.held.length ≤ 1000) (hQ : ∀ H, Po CB CK CS h H P P (tkS S i op) → Q (.val .non) H) : d_Site_take CK CS [.val (.ref P.n), .val (evP i op)] h Q E := by
  have nm := A.num
  have lt := A.lt
  have lh := A.lh
  obtain ⟨w, rest, rfl, ow, w1, w2, w3, w4⟩ := ho.word
  have k2 : PyData.strOk "begin" = true := by decide +kernel
  have szh : S.held.length < sizeLine := szLt (by omega)
  unfold d_Site_take d_Site_take_b dDef
  refine ⟨rfl, ?_⟩
  refine seq_in fun N hN => ?_
  simp [A.n, A.held, szh]
  refine hN _ _ ?_
  clear hN
  have B1 := A.setHeld (S.held ++ [evP i (.tup (.str w :: rest))])
  generalize h.set P.held (.lst (S.held ++ [evP i (.tup (.str w :: rest))])) = H1 at B1
  have A1 := B1.at_
  refine seq_in fun N hN => ?_
  simp [A1.n, A1.kn]
  refine knote_eq A1 ho fun H2 B2 => hN _ _ ?_
  clear hN
  have B2 := B1.trans B2
  have A2 := B2.at_
  have lT : (bump (bump S.told 0 (i + 1)) S.num (i + 1)).length = 5 := by rw [bump_len, bump_len]; exact lt
  have e1 : seqC H2 (.val (.ref P.told)) = some ((tkT S i).map vecP) := by simp [seqC_ref, A2.told, tkT]
  have e2 : atI ((tkT S i).map vecP) (S.num : Int) = some (vecP (tkV S i)) := at_map (getD_some (t := tkT S i) (by unfold tkT; rw [lT]; omega))
  refine seq_in fun N hN => ?_
  simp [A2.n, A2.kn]
  refine ⟨_, e1, _, e2, hN _ _ ?_⟩
  clear hN
  have B3 := B2.trans (A2.setN (tkV S i))
  simp only at B3
  generalize H2.set P.n _ = H3 at B3 ⊢
  have A3 := B3.at_
  refine seq_in fun N hN => ?_
  simp
  rw [dot_eq]
  show d_raised [.val (vecP i), .val (dotP i)] H3 _ _
  rw [raised_eq]
  refine ⟨rfl, hN _ _ ?_⟩
  clear hN
  refine seq_in fun N hN => ?_
  simp [A3.n]
  refine hear_po (i := 0) A3 (by decide) fun H4 B4 => hN _ _ ?_
  clear hN
  have B4 := B3.trans B4
  have A4 := B4.at_
  refine seq_in fun N hN => ?_
  simp [c_BEGIN, w2, ow, k2]
  refine hN _ _ ?_
  clear hN
  have lH : (bump S.hv 0 (i + 1)).length = 5 := by rw [bump_len]; exact lh
  have e3 : ixN ((bump S.hv 0 (i + 1)).map vecP).length (S.num : Int) = some S.num := by rw [ixN_some (by omega) (by simp [lH]; omega)]; simp
  have hh := A4.hv
  simp only at hh
  simp [A4.n]
  refine ⟨_, hh, _, e3, ?_⟩
  have B5 := B4.trans (A4.setHv (t := (bump S.hv 0 (i + 1)).set S.num (tkV S i)) (by rw [List.length_set]; exact lH))
  rw [List.map_set] at B5
  exact hQ _ B5
@[simp ↓ 5000] theorem ix_vec0 (v : Nat) (h : Hs) (q : SV → Prop) : gIx h (.val (vecP v)) (.val (.int 0)) q = q (.val (.int v)) := by
  unfold vecP
  simp
/-- the height that an event tells -/
def hof : PV → PV
  | .tup [_, _, _, x, _] => x
  | _ => .non
theorem intsOf_m : ∀ ns : List Int, intsOf (ns.map .int) = some ns
  | [] => rfl
  | n :: ns => by
    rw [List.map_cons]
    unfold intsOf
    rw [intsOf_m ns]
    rfl
theorem heights {l : List PV} (he : ∀ i e, l[i]? = some e → ∃ op, e = evP i op) : l.map hof = ((List.range l.length).map fun (i : Nat) => ((i : Int) + 1)).map .int := by
  refine List.ext_getElem? fun i => ?_
  rw [List.getElem?_map, List.getElem?_map, List.getElem?_map]
  rcases Nat.lt_or_ge i l.length with q | q
  · rw [List.getElem?_range q, List.getElem?_eq_getElem q]
    obtain ⟨op, e⟩ := he i l[i] (List.getElem?_eq_getElem q)
    rw [e]
    rfl
  · rw [List.getElem?_eq_none q, List.getElem?_eq_none (by simpa using q)]
    rfl
theorem max_h (v : Nat) : maxI (0 :: (List.range v).map fun (i : Nat) => ((i : Int) + 1)) = v := by
  obtain ⟨h1, h2⟩ := maxI_spec (0 :: (List.range v).map fun (i : Nat) => ((i : Int) + 1)) (by simp)
  generalize maxI (0 :: (List.range v).map fun (i : Nat) => ((i : Int) + 1)) = m at *
  have l : m ≤ v := by
    rcases List.mem_cons.mp h1 with e | e
    · omega
    · obtain ⟨i, mi, rfl⟩ := List.mem_map.mp e
      have := List.mem_range.mp mi
      omega
  have g : (v : Int) ≤ m := by
    cases v with
    | zero => exact h2 0 List.mem_cons_self
    | succ k => exact h2 _ (List.mem_cons_of_mem _ (List.mem_map.mpr ⟨k, List.mem_range.mpr (by omega), by omega⟩))
  omega
/-- an event of one's own -/
theorem make_eq (A : SiteAt CB CK CS h P S) {op : PV} (ho : OpOk op) (hn : S.num = 0) (hl : S.held.length ≤ 1000) (hl2 : S.new.length ≤ 1000) (hh : S.held.length = S.v) (he : ∀ i e, S.held[i]? = some e → ∃ op, e = evP i op) (hQ : ∀ H, Po CB CK CS h H P P { tkS S S.v op with new := S.new ++ [evP S.v op] } → Q (.val (dotP S.v)) H) : d_Site_make CB CK CS [.val (.ref P.n), .val op] h Q E := by
  have e1 : seqC h (.val (.ref P.held)) = some S.held := by simp [seqC_ref, A.held]
  have s1 : 1 ≤ sizeLine := szL (by decide)
  have s5 : 5 ≤ sizeLine := szL (by decide)
  have hn0 : (S.num : Int) = 0 := by omega
  have key := fun QC => compL_pf (Q := QC) (env := [some (.val (.ref P.n)), some (.val op), none, none]) (chk := fun h => seqC h (.val (.ref P.held)) = some S.held) (bd := bName 3) (tt := dYes) (te := dOp gIx (dVar 3) (dC (.int 3))) (h := h) (fun a : PV => SV.val (hof a)) (fun x => x) hof (fun _ => true) e1 (fun _ => rfl) S.held [] (fun a m K N => by
    obtain ⟨i, li, ei⟩ := List.getElem_of_mem m
    obtain ⟨o, rfl⟩ := he i a (by rw [List.getElem?_eq_getElem li, ei])
    simp
    rfl) (szL (by simp; omega))
  rw [List.map_id'] at key
  have ef : [] ++ (S.held.filter fun _ => true).map hof = ((List.range S.v).map fun (i : Nat) => ((i : Int) + 1)).map .int := by
    rw [← hh, ← heights he, List.nil_append, List.filter_eq_self.mpr fun _ _ => rfl]
  unfold d_Site_make d_Site_make_b dDef
  refine ⟨rfl, ?_⟩
  refine seq_in fun N hN => ?_
  simp [A.n, A.base, s1]
  refine ⟨_, e1, ?_⟩
  rw [key, ef, intsOf_m]
  refine ⟨szL (by simp; omega), by simp, ?_⟩
  rw [max_h]
  refine hN _ _ ?_
  clear hN
  have ev : vecP S.v = .tup [.int S.v, .int 0, .int 0, .int 0, .int 0, .int 0, .int 0, .int 0] := rfl
  have fold : ∀ z, PV.tup [.int 0, .int ((S.v : Int) + 1), vecP S.v, .int (1 + (S.v : Int)), z] = evP S.v z := fun z => by
    unfold evP
    rw [Int.add_comm 1]
  refine seq_in fun N hN => ?_
  have An := A.n
  rw [hn0] at An
  simp [frzE, An, s5]
  refine ⟨_, rfl, _, atI_0 _ _, ?_⟩
  show N [some (.val (.ref P.n)), some (.val op), some (.val (.int (1 + (S.v : Int)))), some (.val (.tup [.int 0, .int ((S.v : Int) + 1), vecP S.v, .int (1 + (S.v : Int)), op]))] h
  rw [fold]
  refine hN _ _ ?_
  clear hN
  refine seq_in fun N hN => ?_
  simp [A.n]
  refine stake_eq A ho hl fun H1 B1 => hN _ _ ?_
  clear hN
  have A1 := B1.at_
  have hw := A1.new
  have szn : (tkS S S.v op).new.length < sizeLine := szLt (show S.new.length < 8192 by omega)
  refine seq_in fun N hN => ?_
  simp [frzE, A1.n, hw, szn]
  refine hN _ _ ?_
  clear hN
  have B2 := B1.trans (A1.setNew (S.new ++ [evP S.v op]))
  simp
  rw [dot_eq]
  exact hQ _ B2
theorem write_eq (A : SiteAt CB CK CS h P S) {op : PV} (ho : OpOk op) (hn : S.num = 0) (hl : S.held.length ≤ 1000) (hl2 : S.new.length ≤ 1000) (hw : S.wait = []) (hh : S.held.length = S.v) (he : ∀ i e, S.held[i]? = some e → ∃ op, e = evP i op) (hQ : ∀ H P', Po CB CK CS h H P P' { tkS S S.v op with new := S.new ++ [evP S.v op] } → Q (.val (dotP S.v)) H) : d_Site_write CB CK CS [.val (.ref P.n), .val op] h Q E := by
  unfold d_Site_write d_Site_write_b dDef
  refine ⟨rfl, ?_⟩
  refine seq_in fun N hN => ?_
  simp [A.n]
  refine writer_eq A (hN _ _ ?_)
  clear hN
  refine seq_in fun N hN => ?_
  simp [A.n]
  refine place_eq A ho (hN _ _ ?_)
  clear hN
  refine seq_in fun N hN => ?_
  simp [A.n]
  refine make_eq A ho hn hl hl2 hh he fun H1 B1 => ⟨rfl, hN _ _ ?_⟩
  clear hN
  have A1 := B1.at_
  refine seq_in fun N hN => ?_
  simp [A1.n]
  refine end_eq A1 (by show S.wait.length ≤ 1000; rw [hw]; simp) (fun e m => ?_) fun H2 P2 B2 => hN _ _ ?_
  · have m : e ∈ S.wait := m
    rw [hw] at m
    cases m
  · simp
    exact hQ _ _ (B1.trans B2)
end
end PM

namespace PM
open PySem PySem.Spec L2
open PyProof.Rows hiding St
/-- the dot of an event -/
def dof : PV → PV
  | .tup (a :: b :: _) => .tup [a, b]
  | _ => .non
theorem dot_okD (i : Nat) : (dotP i).okD = true := by
  unfold dotP
  simp
theorem dot_okN (n i : Nat) : okN (n + 1) (dotP i) := by
  unfold dotP
  simp
theorem dot_pyEq (i j : Nat) : pyEq (dotP i) (dotP j) = decide (i = j) := by
  unfold dotP
  simp
  by_cases q : i = j
  · simp [q]
  · have : ¬ (i : Int) + 1 = (j : Int) + 1 := by omega
    simp [q, this]
    omega
theorem cut_1 (x : PV) (xs : List PV) : cutP (x :: xs) (some (1 : Int)) none = xs := by
  have e : HT.sIx (x :: xs).length (x :: xs).length none = (x :: xs).length := rfl
  unfold cutP
  rw [e, show ((1 : Int)) = ((1 : Nat) : Int) from rfl, HT.sIx_nat, Nat.min_eq_left (by simp)]
  simp
section
variable {CB CK CS : Addr} {h : Hs} {P : Pl} {S : Ss} {Q : VQ} {E : XQ}
theorem wait_known (A : SiteAt CB CK CS h P S) {i : Nat} {op : PV} (hi : i < S.v) (hQ : Q (.val .non) h) : d_Site_let_wait CK CS [.val (.ref P.n), .val (evP i op)] h Q E := by
  unfold d_Site_let_wait d_Site_let_wait_b dDef
  refine ⟨rfl, ?_⟩
  refine seq_in fun N hN => ?_
  simp
  rw [dot_eq]
  refine ⟨rfl, hN _ _ ?_⟩
  clear hN
  refine seq_in fun N hN => ?_
  simp [A.n]
  rw [knows_eq]
  simp [hi]
  exact hQ
theorem wait_new (A : SiteAt CB CK CS h P S) {i : Nat} {op : PV} (hi : S.v ≤ i) (hl : S.wait.length ≤ 1000) (hw : ∀ e ∈ S.wait, ∃ j o, e = evP j o ∧ j ≠ i) (hQ : ∀ H, Po CB CK CS h H P P { S with wait := S.wait ++ [evP i op] } → Q (.val .non) H) : d_Site_let_wait CK CS [.val (.ref P.n), .val (evP i op)] h Q E := by
  have ni : ¬ i < S.v := by omega
  have e1 : seqC h (.val (.ref P.wait)) = some S.wait := by simp [seqC_ref, A.wait]
  have key := fun QC => compL_pf (Q := QC) (env := [some (.val (.ref P.n)), some (.val (evP i op)), some (.val (dotP i)), none]) (chk := fun h => seqC h (.val (.ref P.wait)) = some S.wait) (bd := bName 3) (tt := dYes) (te := dCall 1 d_dot_of (dCons (dVar 3) dNil)) (h := h) (fun a : PV => SV.val (dof a)) (fun x => x) dof (fun _ => true) e1 (fun _ => rfl) S.wait [] (fun a m K N => by
    obtain ⟨j, o, rfl, _⟩ := hw a m
    simp
    rw [dot_eq]
    rfl) (szL (by simp; omega))
  rw [List.map_id'] at key
  have ef : [] ++ (S.wait.filter fun _ => true).map dof = S.wait.map dof := by rw [List.nil_append, List.filter_eq_self.mpr fun _ _ => rfl]
  have szw : S.wait.length < sizeLine := szLt (by omega)
  unfold d_Site_let_wait d_Site_let_wait_b dDef
  refine ⟨rfl, ?_⟩
  refine seq_in fun N hN => ?_
  simp
  rw [dot_eq]
  refine ⟨rfl, hN _ _ ?_⟩
  clear hN
  refine seq_in fun N hN => ?_
  simp [A.n]
  rw [knows_eq]
  simp [ni, A.n, A.kn]
  refine hN _ _ ?_
  clear hN
  simp [A.n]
  refine ⟨_, e1, ?_⟩
  rw [key, ef]
  have hm : ∀ x ∈ S.wait.map dof, ∃ j, x = dotP j ∧ j ≠ i := fun x m => by
    obtain ⟨e, me, rfl⟩ := List.mem_map.mp m
    obtain ⟨j, o, rfl, n⟩ := hw e me
    exact ⟨j, rfl, n⟩
  refine ⟨dotP i, rfl, dot_okD i, fun x m => ?_, ?_⟩
  · obtain ⟨j, rfl, _⟩ := hm x m
    exact dot_okN 62 j
  · rw [if_pos fun x m => by
      obtain ⟨j, rfl, n⟩ := hm x m
      rw [dot_pyEq]
      exact decide_eq_false n]
    refine ⟨_, A.n, .ref P.wait, by simp, ⟨_, A.wait⟩, _, A.wait, szw, ?_⟩
    exact hQ _ (A.setWait _)
theorem can_eq (A : SiteAt CB CK CS h P S) {op : PV} (hQ : Q (.val (.bl true)) h) : d_Site_can_take CK CS [.val (.ref P.n), .val (evP S.v op)] h Q E := by
  unfold d_Site_can_take d_Site_can_take_b dDef
  refine ⟨rfl, ?_⟩
  refine seq_in fun N hN => ?_
  simp [A.n]
  refine hN _ _ ?_
  clear hN
  refine seq_in fun N hN => ?_
  simp
  rw [covers_eq]
  simp
  refine hN _ _ ?_
  clear hN
  simp [A.n, A.kn]
  exact may_eq A hQ
theorem next_none (A : SiteAt CB CK CS h P S) (hw : S.wait = []) (hQ : Q (.val (.bl false)) h) : d_Site_take_next CK CS [.val (.ref P.n)] h Q E := by
  have e1 : seqC h (.val (.ref P.wait)) = some [] := by simp [seqC_ref, A.wait, hw]
  unfold d_Site_take_next d_Site_take_next_b dDef
  refine ⟨rfl, ?_⟩
  refine seq_in fun N hN => ?_
  simp [A.n, e1]
  rw [show enums 0 [] = [] from rfl, forL_nil]
  refine ⟨e1, hN _ _ ?_⟩
  simp
  exact hQ
theorem next_some (A : SiteAt CB CK CS h P S) {op : PV} {rest : List PV} (hw : S.wait = evP S.v op :: rest) (ho : OpOk op) (hl : S.held.length ≤ 1000) (hl2 : S.new.length ≤ 1000) (hl3 : rest.length ≤ 1000)
    (hQ : ∀ H P', Po CB CK CS h H P P' { tkS S S.v op with wait := rest, new := S.new ++ [evP S.v op] } → Q (.val (.bl true)) H) : d_Site_take_next CK CS [.val (.ref P.n)] h Q E := by
  have e1 : seqC h (.val (.ref P.wait)) = some (evP S.v op :: rest) := by simp [seqC_ref, A.wait, hw]
  have e2 : listC h (.val (.ref P.wait)) = some (evP S.v op :: rest) := by simp [listC, A.wait, hw]
  have c1 : cutP (evP S.v op :: rest) none (some 0) = [] := by
    unfold cutP
    rfl
  have szr : rest.length ≤ sizeLine := szL (by omega)
  unfold d_Site_take_next d_Site_take_next_b dDef
  refine ⟨rfl, ?_⟩
  refine seq_in fun N hN => ?_
  clear hN
  simp [A.n]
  refine ⟨_, e1, ?_⟩
  rw [show enums 0 (evP S.v op :: rest) = .tup [.int 0, evP S.v op] :: enums 1 rest from rfl, forL_cons]
  refine ⟨e1, ?_⟩
  generalize forL (fun h => seqC h (.val (.ref P.wait)) = some (evP S.v op :: rest)) = F
  rw [bTup2_eq]
  refine if_in fun S1 T1 hS1 hT1 => ?_
  simp [A.n]
  refine can_eq A ?_
  simp
  refine hS1 _ _ ?_
  clear hS1 hT1
  refine seq_in fun N2 hN2 => ?_
  simp [A.n]
  refine ⟨_, e2, _, e2, ?_⟩
  rw [c1, cut_1]
  refine ⟨by simpa using szr, ?_⟩
  have B1 := A.newWait rest
  have ln := A.lts P.n (by simp [own])
  have hn : (h ++ [Cell.lst rest])[P.n]? = some (.ins CS (siF (.int S.num) (.int 5) (vecP S.v) (.ref P.base) (.ref P.held) (.ref P.wait) (.ref P.kn) (.ref P.hv) (.ref P.new))) := by
    rw [List.getElem?_append_left ln]
    exact A.n
  refine ⟨_, hn, by simp, hN2 _ _ ?_⟩
  clear hN2
  rw [List.nil_append, si_p_waiting]
  generalize (h ++ [Cell.lst rest]).set P.n _ = H1 at B1 ⊢
  have A1 := B1.at_
  have a1 := A1.n
  simp only at a1
  refine seq_in fun N2 hN2 => ?_
  simp [a1]
  refine stake_eq A1 ho hl fun H2 B2 => hN2 _ _ ?_
  clear hN2
  have B2 := B1.trans B2
  have A2 := B2.at_
  have a2 := A2.n
  simp only at a2
  have n2 := A2.new
  simp only at n2
  have szn : S.new.length < sizeLine := szLt (by omega)
  refine seq_in fun N2 hN2 => ?_
  simp [frzE, a2, n2, tkS, szn]
  refine hN2 _ _ ?_
  clear hN2
  simp
  have B3 := B2.trans (A2.setNew (S.new ++ [evP S.v op]))
  exact hQ _ _ B3
end
end PM

namespace PM
open PySem PySem.Spec L2
open PyProof.Rows hiding St
/-- events behind a others -/
def EvL (a : Nat) (es : List PV) : Prop := ∀ k e, es[k]? = some e → ∃ op, OpOk op ∧ e = evP (a + k) op
theorem EvL.cons {a : Nat} {e : PV} {es : List PV} (h : EvL a (e :: es)) : (∃ op, OpOk op ∧ e = evP a op) ∧ EvL (a + 1) es := ⟨by
  obtain ⟨op, ho, e1⟩ := h 0 e rfl
  exact ⟨op, ho, e1⟩, fun k x q => by
  obtain ⟨op, ho, e1⟩ := h (k + 1) x q
  exact ⟨op, ho, by rw [e1, show a + 1 + k = a + (k + 1) by omega]⟩⟩
theorem EvL.drop {a n : Nat} {es : List PV} (h : EvL a es) : EvL (a + n) (es.drop n) := fun k e q => by
  rw [List.getElem?_drop] at q
  obtain ⟨op, ho, e1⟩ := h _ _ q
  exact ⟨op, ho, by rw [e1, show a + n + k = a + (n + k) by omega]⟩
section
variable {CB CK CS : Addr} {h : Hs} {P : Pl} {S : Ss} {Q : VQ} {E : XQ}
theorem wait_loop {D : DEnds} {e1 e2 : Option SV} (b : DS) (hb : b = sExpr (dMeth CS "let_wait" 2 (d_Site_let_wait CK CS) (dVar 0) (dCons (dVar 3) dNil))) : ∀ (es : List PV) (a : Nat) (S : Ss) (h : Hs) (w : Option SV), SiteAt CB CK CS h P S → EvL a es → (∀ e ∈ S.wait, ∃ j o, e = evP j o ∧ j < a) → S.wait.length + es.length ≤ 1000 →
    (∀ H w, Po CB CK CS h H P P { S with wait := S.wait ++ es.drop (S.v - a) } → D.nx [some (.val (.ref P.n)), e1, e2, w] H) →
    forL (fun _ => True) (bName 3) b D es [some (.val (.ref P.n)), e1, e2, w] h := by
  intro es
  induction es with
  | nil =>
    intro a S h w A _ _ _ hD
    simp at hD ⊢
    exact hD h w (.refl A)
  | cons e es ih =>
    intro a S h w A hev hwt hl hD
    obtain ⟨⟨op, ho, rfl⟩, hev2⟩ := hev.cons
    rw [List.length_cons] at hl
    rw [forL_cons]
    refine ⟨trivial, ?_⟩
    by_cases q : a < S.v
    · have nx := ih (a + 1) S h (some (.val (evP a op))) A hev2 (fun e m => by
        obtain ⟨j, o, e1, l⟩ := hwt e m
        exact ⟨j, o, e1, by omega⟩) (by omega) fun H w B => hD H w (by
        rw [show S.v - a = (S.v - (a + 1)) + 1 by omega, List.drop_succ_cons]
        exact B)
      generalize forL (fun _ => True) (bName 3) b D es = F at nx ⊢
      subst hb
      simp [A.n]
      exact wait_known A q nx
    · have ih2 := ih (a + 1) { S with wait := S.wait ++ [evP a op] }
      generalize forL (fun _ => True) (bName 3) b D es = F at ih2 ⊢
      subst hb
      simp [A.n]
      refine wait_new A (by omega) (by omega) (fun e m => ?_) fun H B => ih2 H _ B.at_ hev2 (fun e m => ?_) (by simp; omega) fun H2 w2 B2 => hD H2 w2 ?_
      · obtain ⟨j, o, e1, l⟩ := hwt e m
        exact ⟨j, o, e1, by omega⟩
      · have m : e ∈ S.wait ++ [evP a op] := m
        rcases List.mem_append.mp m with m | m
        · obtain ⟨j, o, e1, l⟩ := hwt e m
          exact ⟨j, o, e1, by omega⟩
        · exact ⟨a, op, List.mem_singleton.mp m, by omega⟩
      · have B3 := B.trans B2
        have e3 : S.v - a = 0 := by omega
        have e4 : S.v - (a + 1) = 0 := by omega
        simp only [e4, List.drop_zero, List.append_assoc, List.singleton_append] at B3
        rw [e3, List.drop_zero]
        exact B3
theorem set_getD {l : List Nat} {i j x : Nat} (n : i ≠ j) : (l.set i x).getD j 0 = l.getD j 0 := by
  rw [List.getD_eq_getElem?_getD, List.getElem?_set_ne n, ← List.getD_eq_getElem?_getD]
/-- S' is S behind the events L -/
structure TkL (S S' : Ss) (L : List PV) : Prop where
  num : S'.num = S.num
  v : S'.v = S.v + L.length
  held : S'.held = S.held ++ L
  new : S'.new = S.new ++ L
  told : S'.told.getD S.num 0 = S'.v
  f1 : ∀ j, j ≠ 0 → j ≠ S.num → S'.hv.getD j 0 = S.hv.getD j 0
  f2 : S.num ≠ 0 → S.hv.getD 0 0 ≤ S'.hv.getD 0 0
  f3 : S.num ≠ 0 → L ≠ [] → S'.v ≤ S'.hv.getD 0 0
theorem TkL.step {S S' : Ss} {L : List PV} (T : TkL S S' L) (hn : S.num ≠ 0) (lt : S'.told.length = 5) (lh : S'.hv.length = 5) (nm : S.num < 3) {op : PV} {w : List PV} : TkL S { tkS S' S'.v op with wait := w, new := S'.new ++ [evP S'.v op] } (L ++ [evP S'.v op]) := by
  have ev : tkV S' S'.v = S'.v + 1 := by
    unfold tkV tkT
    rw [T.num, bump_at (by rw [bump_len]; omega), bump_ne hn, T.told]
    omega
  refine ⟨T.num, ?_, ?_, ?_, ?_, fun j h0 h1 => ?_, fun _ => ?_, fun _ _ => ?_⟩
  · show tkV S' S'.v = _
    rw [ev, T.v, List.length_append]
    rfl
  · show S'.held ++ [evP S'.v op] = _
    rw [T.held, List.append_assoc]
  · show S'.new ++ [evP S'.v op] = _
    rw [T.new, List.append_assoc]
  · show (tkT S' S'.v).getD S.num 0 = tkV S' S'.v
    unfold tkV
    rw [T.num]
  · show ((bump S'.hv 0 (S'.v + 1)).set S'.num (tkV S' S'.v)).getD j 0 = _
    rw [set_getD (by rw [T.num]; exact Ne.symm h1), bump_ne h0]
    exact T.f1 j h0 h1
  · show _ ≤ ((bump S'.hv 0 (S'.v + 1)).set S'.num (tkV S' S'.v)).getD 0 0
    rw [set_getD (by rw [T.num]; exact hn), bump_at (by omega)]
    have := T.f2 hn
    omega
  · show tkV S' S'.v ≤ ((bump S'.hv 0 (S'.v + 1)).set S'.num (tkV S' S'.v)).getD 0 0
    rw [set_getD (by rw [T.num]; exact hn), bump_at (by omega), ev]
    omega
/-- what hearing does -/
structure Hr (S S' : Ss) (s V : Nat) (L : List PV) : Prop where
  num : S'.num = S.num
  v : S'.v = S.v + L.length
  held : S'.held = S.held ++ L
  new : S'.new = S.new ++ L
  wait : S'.wait = []
  told : S'.told.getD S.num 0 = S'.v
  f1 : ∀ j, j < 5 → j ≠ 0 → j ≠ S.num → S'.hv.getD j 0 = if j = s then max (S.hv.getD j 0) V else S.hv.getD j 0
  f2 : S.num ≠ 0 → S.hv.getD 0 0 ≤ S'.hv.getD 0 0
  f3 : S.num ≠ 0 → L ≠ [] → S'.v ≤ S'.hv.getD 0 0
theorem hear_eq (A : SiteAt CB CK CS h P S) {s V a : Nat} {es : List PV} (hs : s < 5) (hsn : s ≠ S.num) (hwt : S.wait = []) (hev : EvL a es) (ha : a ≤ S.v) (ht : S.told.getD S.num 0 = S.v) (n0 : S.num = 0 → es.drop (S.v - a) = []) (l1 : S.held.length ≤ 900) (l2 : S.new.length ≤ 900) (l3 : es.length ≤ 100)
    (hQ : ∀ H P' S', Po CB CK CS h H P P' S' → Hr S S' s V (es.drop (S.v - a)) → Q (.val .non) H) : d_Site_hear CK CS [.val (.ref P.n), .val (.int s), .val (.tup [.str "news", vecP V, .tup es])] h Q E := by
  unfold d_Site_hear d_Site_hear_b dDef
  refine ⟨rfl, ?_⟩
  refine seq_in fun N hN => ?_
  refine for_in fun F hF => ?_
  simp
  refine hF _ _ _ ?_
  refine wait_loop _ rfl es a S h none A hev (fun e m => by rw [hwt] at m; cases m) (by rw [hwt]; simp; omega) fun H1 w1 B1 => hN _ _ ?_
  clear hN hF
  rw [hwt, List.nil_append] at B1
  have lL : (es.drop (S.v - a)).length ≤ 100 := by rw [List.length_drop]; omega
  have eL : EvL S.v (es.drop (S.v - a)) := by
    have := hev.drop (n := S.v - a)
    rw [show a + (S.v - a) = S.v by omega] at this
    exact this
  generalize es.drop (S.v - a) = L at *
  have A1 := B1.at_
  have a1 := A1.n
  simp only at a1
  refine seq_in fun N hN => ?_
  simp [a1]
  refine hear_po (i := s) A1 hs fun H2 B2 => hN _ _ ?_
  clear hN
  have B2 := B1.trans B2
  refine seq_in fun N hN => ?_
  have T0 : TkL { S with wait := L, hv := bump S.hv s V } { S with wait := L, hv := bump S.hv s V } (L.take 0) := ⟨rfl, by simp, by simp, by simp, ht, fun _ _ _ => rfl, fun _ => Nat.le_refl _, fun _ z => absurd (List.take_zero) z⟩
  refine ⟨fun n env h' => ∃ (P' : Pl) (S' : Ss) (r : Nat), env = [some (.val (.ref P.n)), some (.val (.int s)), some (.val (.tup [.str "news", vecP V, .tup es])), w1] ∧ Po CB CK CS h h' P P' S' ∧ TkL { S with wait := L, hv := bump S.hv s V } S' (L.take r) ∧ S'.wait = L.drop r ∧ r ≤ L.length ∧ n = L.length - r, ⟨_, P, _, 0, rfl, B2, T0, rfl, Nat.zero_le _, rfl⟩, ?_⟩
  rintro n env h' ⟨P', S', r, rfl, B, T, ew, lr, rfl⟩
  have A3 := B.at_
  have a3 := A3.n
  rw [B.n] at a3
  have lt3 := A3.lt
  have lh3 := A3.lh
  have vT : S'.v = S.v + (L.take r).length := T.v
  have lT : (L.take r).length = r := by rw [List.length_take]; omega
  simp [a3]
  rw [← B.n]
  rcases Nat.lt_or_ge r L.length with q | q
  · have ed : L.drop r = L[r] :: L.drop (r + 1) := List.drop_eq_getElem_cons q
    obtain ⟨op, ho, e1⟩ := eL r L[r] (List.getElem?_eq_getElem q)
    have ev : S.v + r = S'.v := by omega
    rw [ev] at e1
    have nn : S.num ≠ 0 := fun z => by
      rw [n0 z] at q
      simp at q
    have hl : S'.held.length ≤ 1000 := by rw [T.held, List.length_append, lT]; show S.held.length + r ≤ 1000; omega
    have hl2 : S'.new.length ≤ 1000 := by rw [T.new, List.length_append, lT]; show S.new.length + r ≤ 1000; omega
    refine next_some A3 (by rw [ew, ed, e1]) ho hl hl2 (by rw [List.length_drop]; omega) fun H4 P4 B4 => ?_
    simp
    have T4 := T.step nn lt3 lh3 A.num (op := op) (w := L.drop (r + 1))
    have et : L.take r ++ [evP S'.v op] = L.take (r + 1) := by rw [← e1, List.take_succ, List.getElem?_eq_getElem q]; rfl
    rw [et] at T4
    exact ⟨L.length - (r + 1), by omega, P4, _, B.trans B4, r + 1, T4, rfl, q, rfl⟩
  · have er : r = L.length := by omega
    subst er
    rw [List.drop_length] at ew
    rw [List.take_length] at T vT
    refine next_none A3 ew ?_
    simp
    refine hN _ _ ?_
    clear hN
    have k3 := A3.kn
    refine seq_in fun N hN => ?_
    simp [a3, B.n, k3]
    refine tell_eq A3 hs (by rw [T.num]; exact hsn) fun H4 t B4 et => hN _ _ ?_
    clear hN
    have B4 := B.trans B4
    have A4 := B4.at_
    have a4 := A4.n
    simp only at a4
    rw [B.n] at a4
    simp [a4]
    rw [← B.n]
    refine end_eq A4 (by show S'.wait.length ≤ 1000; rw [ew]; simp) (fun e m => by
      have m : e ∈ S'.wait := m
      rw [ew] at m
      cases m) fun H5 P5 B5 => ?_
    refine hQ _ _ _ (B4.trans B5) ⟨T.num, T.v, T.held, T.new, ew, ?_, fun j l5 h0 h1 => ?_, fun z => ?_, T.f3⟩
    · show t.getD S.num 0 = S'.v
      rw [← show S'.num = S.num from T.num, et, show S'.num = S.num from T.num]
      exact T.told
    · rw [T.f1 j h0 h1]
      show (bump S.hv s V).getD j 0 = _
      split
      · rename_i e
        subst e
        exact bump_at (by rw [A.lh]; exact l5)
      · rename_i e
        exact bump_ne e
    · refine Nat.le_trans ?_ (T.f2 z)
      show _ ≤ (bump S.hv s V).getD 0 0
      by_cases e : (0 : Nat) = s
      · subst e
        rw [bump_at (by rw [A.lh]; decide)]
        omega
      · rw [bump_ne e]
        exact Nat.le_refl _
end
end PM

namespace PM
open PySem PySem.Spec L2
open PyProof.Rows hiding St
def newsP (V : Nat) (es : List PV) : PV := .tup [.str "news", vecP V, .tup es]
theorem cut_to (xs : List PV) (n : Nat) : cutP xs none (some (n : Int)) = xs.take n := by
  have e : HT.sIx xs.length 0 none = 0 := rfl
  unfold cutP
  rw [e, HT.sIx_nat, List.drop_zero, Nat.sub_zero]
  rcases Nat.le_total n xs.length with l | l
  · rw [Nat.min_eq_left l]
  · rw [Nat.min_eq_right l, List.take_of_length_le (Nat.le_refl _), List.take_of_length_le l]
theorem cut_mid (xs : List PV) (i j : Nat) : cutP xs (some (i : Int)) (some (j : Int)) = (xs.drop i).take (j - i) := by
  unfold cutP
  rw [HT.sIx_nat, HT.sIx_nat]
  rcases Nat.le_total i xs.length with l | l
  · rw [Nat.min_eq_left l]
    rcases Nat.le_total j xs.length with k | k
    · rw [Nat.min_eq_left k]
    · rw [Nat.min_eq_right k, List.take_of_length_le (by rw [List.length_drop]; omega), List.take_of_length_le (by rw [List.length_drop]; omega)]
  · rw [Nat.min_eq_right l, List.drop_length, List.drop_eq_nil_of_le l]
    simp
/-- how many events stand before an event -/
def ixof : PV → Nat
  | .tup [_, .int n, _, _, _] => (n - 1).toNat
  | _ => 0
theorem ixof_ev (i : Nat) (op : PV) : ixof (evP i op) = i := by
  show (((i : Int) + 1) - 1).toNat = i
  omega
theorem filter_ev : ∀ (es : List PV) (a k : Nat), EvL a es → es.filter (fun e => !decide (ixof e < k)) = es.drop (k - a)
  | [], _, _, _ => by simp
  | e :: es, a, k, h => by
    obtain ⟨⟨op, ho, rfl⟩, h2⟩ := h.cons
    rw [List.filter_cons, ixof_ev]
    by_cases q : a < k
    · rw [decide_eq_true q]
      simp only [Bool.not_true, if_neg Bool.false_ne_true]
      rw [filter_ev es (a + 1) k h2, show k - a = (k - (a + 1)) + 1 by omega, List.drop_succ_cons]
    · rw [decide_eq_false q]
      simp only [Bool.not_false, if_pos]
      rw [filter_ev es (a + 1) k h2, show k - a = 0 by omega, show k - (a + 1) = 0 by omega, List.drop_zero, List.drop_zero]
section
variable {CB CK CS : Addr} {h : Hs} {P : Pl} {S : Ss} {Q : VQ} {E : XQ}
theorem news_eq (A : SiteAt CB CK CS h P S) {w k : Nat} (hw : w ≠ S.num) (hk : S.hv[w]? = some k) (hev : EvL 0 S.held) (hl : S.held.length ≤ 1000) (hQ : Q (.val (newsP S.v ((S.held.drop k).take 20))) h) : d_Site_news_for CS [.val (.ref P.n), .val (.int w)] h Q E := by
  have e1 : seqC h (.val (.ref P.held)) = some S.held := by simp [seqC_ref, A.held]
  have s3 : 3 ≤ sizeLine := szL (by decide)
  have hm : ∀ e ∈ S.held, ∃ i op, e = evP i op := fun e m => by
    obtain ⟨i, li, ei⟩ := List.getElem_of_mem m
    obtain ⟨op, _, e2⟩ := hev i e (by rw [List.getElem?_eq_getElem li, ei])
    exact ⟨_, op, e2⟩
  unfold d_Site_news_for d_Site_news_for_b dDef
  refine ⟨rfl, ?_⟩
  refine seq_in fun N hN => ?_
  simp [A.n]
  refine heard_eq A hw hk ⟨rfl, hN _ _ ?_⟩
  clear hN
  have key := fun QC => compL_pf (Q := QC) (env := [some (.val (.ref P.n)), some (.val (.int (w : Int))), some (.val (vecP k)), none, none]) (chk := fun h => seqC h (.val (.ref P.held)) = some S.held) (bd := bName 4) (tt := dNot (dTru (dCall 2 d_knows (dCons (dVar 2) (dCons (dCall 1 d_dot_of (dCons (dVar 4) dNil)) dNil))))) (te := dVar 4) (h := h) (fun a : PV => SV.val a) (fun x => x) (fun x => x) (fun e => !decide (ixof e < k)) e1 (fun _ => rfl) S.held [] (fun a m K N => by
    obtain ⟨i, op, rfl⟩ := hm a m
    simp
    rw [dot_eq]
    show d_knows [.val (vecP k), .val (dotP i)] h _ _ ↔ _
    rw [knows_eq, ixof_ev]
    by_cases q : i < k
    · have q2 : ¬ k ≤ i := by omega
      simp [q, q2]
    · have q2 : k ≤ i := by omega
      simp [q, q2]) (szL (by simp; omega))
  rw [List.map_id'] at key
  refine seq_in fun N hN => ?_
  simp [A.n]
  refine ⟨_, e1, ?_⟩
  rw [key, filter_ev S.held 0 k hev]
  refine hN _ _ ?_
  clear hN
  simp [A.n, c_MOST_NEWS, s3]
  rw [show (20 : Int) = ((20 : Nat) : Int) from rfl, cut_to]
  exact hQ
theorem lnews_eq (A : SiteAt CB CK CS h P S) {sv : SV} {xs : List PV} {f : Nat} (hs : sv = .brw xs ∨ ∃ n, sv = .val (.ref n) ∧ h[n]? = some (.lst xs)) (hQ : Q (.val (newsP S.v ((xs.drop f).take 20))) h) : d_law_news CS [.val (.ref P.n), sv, .val (.int f)] h Q E := by
  have s3 : 3 ≤ sizeLine := szL (by decide)
  have e : (f : Int) + 20 = ((f + 20 : Nat) : Int) := by omega
  have e2 : f + 20 - f = 20 := by omega
  rcases hs with rfl | ⟨n, rfl, hn⟩
  · simp [d_law_news, d_law_news_b, A.n, s3]
    rw [e, cut_mid, e2]
    exact hQ
  · have el : listC h (.val (.ref n)) = some xs := by simp [listC, hn]
    simp [d_law_news, d_law_news_b, A.n, s3]
    refine ⟨_, el, ?_⟩
    rw [e, cut_mid, e2]
    exact hQ
/-- only the box changed -/
structure Bx (b : Nat) (H h : Hs) : Prop where
  bb : B b h
  l : h.length = H.length
  g : ∀ i, i ≠ b → h[i]? = H[i]?
theorem Bx.pt {b : Nat} {H h : Hs} {k : Int} (x : Bx b H h) : Bx b H (PM.pt b k h) := ⟨x.bb.pt, by rw [← x.l]; simp [PM.pt], fun i q => by
  rw [← x.g i q]
  unfold PM.pt
  rw [List.getElem?_set_ne (Ne.symm q)]⟩
theorem Bx.refl {b : Nat} {h : Hs} (hb : B b h) : Bx b h h := ⟨hb, rfl, fun _ _ => rfl⟩
theorem op_eq {n : Nat} {k : Nat} (hb : B n h) (hQ : ∀ op H, OpOk op → Bx n h H → Q (.val op) H) : d_law_op [.val (.ref n), .val (.int k)] h Q E := by
  have s3 : 3 ≤ sizeLine := szL (by decide)
  have s4 : 4 ≤ sizeLine := szL (by decide)
  have x0 := Bx.refl hb
  have x1 := x0.pt (k := 9)
  have x2 := x1.pt (k := 3)
  have g0 := tk_ge (n := n) (h := PM.pt n 9 h) (k := 3) (by decide)
  have g1 := tk_lt (n := n) (h := PM.pt n 9 h) (k := 3) (by decide)
  simp [d_law_op, d_law_op_b, ↓take_eq x0.bb, ↓take_eq x1.bb, s3, s4]
  generalize tk n 3 (PM.pt n 9 h) = g at *
  generalize tk n 9 h = t at *
  have xl : (Str.ofString "xyz").length ≤ sizeLine := szL (by decide +kernel)
  obtain ⟨c, ec, c128⟩ : ∃ c : Nat, atI (Str.ofString "xyz").cps.toList ((k : Int) % 3) = some c ∧ c < 128 := by
    rcases (by omega : (k : Int) % 3 = 0 ∨ (k : Int) % 3 = 1 ∨ (k : Int) % 3 = 2) with e | e | e <;> rw [e]
    · exact ⟨120, by decide +kernel, by decide⟩
    · exact ⟨121, by decide +kernel, by decide⟩
    · exact ⟨122, by decide +kernel, by decide⟩
  have ok : PyData.strOk ⟨#[c]⟩ = true := by
    unfold PyData.strOk
    simp
    omega
  refine ⟨xl, c, ec, ?_⟩
  rcases (by omega : g = 0 ∨ g = 1 ∨ g = 2) with rfl | rfl | rfl
  · exact ⟨_, rfl, hQ _ _ (.inl ⟨_, rfl⟩) x2⟩
  · exact ⟨_, rfl, hQ _ _ (.inr (.inl ⟨_, rfl⟩)) x2⟩
  · exact ⟨_, rfl, hQ _ _ (.inr (.inr ⟨_, rfl, ok⟩)) x2⟩
def baseL (CB : Addr) (n : Nat) : Hs := [.ins CB (bsF (vecP 0) (.int 0) (.ref (n + 1)) (.ref (n + 1 + 1)) (.ref (n + 1 + 1 + 1)) (.ref (n + 1 + 1 + 1 + 1))), .dK [], .dK [], .dK [], .dK []]
theorem base_eq (hQ : Q (.val .non) (h ++ baseL CB h.length)) : d_Base___init__ CB [.val (.ref h.length)] (h ++ [.ins CB []]) Q E := by
  simp [d_Base___init__, d_Base___init___b, vec_no]
  exact hQ
def knowL (CK : Addr) (n num : Nat) : Hs := [.ins CK (kwF (.int num) (.int 5) (.tup [.int 0, .int 1, .int 2]) (.ref (n + 1)) (.ref (n + 1 + 1)) (.tup []) (.tup []) (.ref (n + 1 + 1 + 1)) (.ref (n + 1 + 1 + 1 + 1))), .dK [], .lst (List.replicate 5 (vecP 0)), .lst (List.replicate 5 (.tup [])), .lst (List.replicate 5 (.tup []))]
theorem know_eq {n : Nat} (hn : n = 0 ∨ n = 1 ∨ n = 2) (hQ : Q (.val .non) (h ++ knowL CK h.length n)) : d_Knowing___init__ CK [.val (.ref h.length), .val (.int n), .val (.int 5), .val (.tup [.int 0, .int 1, .int 2])] (h ++ [.ins CK []]) Q E := by
  have s1 : 1 ≤ sizeLine := szL (by decide)
  have s5 : 5 ≤ sizeLine := szL (by decide)
  have e1 : ∀ x : PV, repN 5 [x] = List.replicate 5 x := fun x => rfl
  unfold d_Knowing___init__ d_Knowing___init___b dDef
  refine ⟨rfl, ?_⟩
  refine seq_in fun N hN => ?_
  simp
  refine hN _ _ ?_
  clear hN
  refine seq_in fun N hN => ?_
  simp
  refine hN _ _ ?_
  clear hN
  refine seq_in fun N hN => ?_
  simp
  rw [with_eq n hn]
  simp
  refine hN _ _ ?_
  clear hN
  simp [vec_no, s1, s5, e1]
  exact hQ
@[simp] theorem si_n3' (a b c : PV) : putFP "vector" c (kw2 a b) = si3 a b c := (ptF_ne (by decide +kernel)).trans (congrArg _ ((ptF_ne (by decide +kernel)).trans (congrArg _ ptF_nil)))
theorem base_eq' {H G : Hs} {n : Nat} (hG : G = H ++ [.ins CB []]) (hn : n = H.length) (hQ : Q (.val .non) (H ++ baseL CB n)) : d_Base___init__ CB [.val (.ref n)] G Q E := by
  subst hG hn
  exact base_eq hQ
theorem know_eq' {H G : Hs} {m n : Nat} (hG : G = H ++ [.ins CK []]) (hm : m = H.length) (hn : n = 0 ∨ n = 1 ∨ n = 2) (hQ : Q (.val .non) (H ++ knowL CK m n)) : d_Knowing___init__ CK [.val (.ref m), .val (.int n), .val (.int 5), .val (.tup [.int 0, .int 1, .int 2])] G Q E := by
  subst hG hm
  exact know_eq hn hQ
/-- a new site's cells from n on -/
def siteL (CB CK CS : Addr) (n num : Nat) : Hs := [.ins CS (siF (.int num) (.int 5) (vecP 0) (.ref (n + 1)) (.ref (n + 6)) (.ref (n + 7)) (.ref (n + 8)) (.ref (n + 13)) (.ref (n + 14)))] ++ baseL CB (n + 1) ++ [.lst [], .lst []] ++ knowL CK (n + 8) num ++ [.lst (List.replicate 5 (vecP 0)), .lst []]
theorem site_eq {n : Nat} (hn : n = 0 ∨ n = 1 ∨ n = 2) (hQ : Q (.val .non) (h ++ siteL CB CK CS h.length n)) : d_Site___init__ CB CK CS [.val (.ref h.length), .val (.int n), .val (.int 5), .val (.tup [.int 0, .int 1, .int 2])] (h ++ [.ins CS []]) Q E := by
  have s1 : 1 ≤ sizeLine := szL (by decide)
  have s5 : 5 ≤ sizeLine := szL (by decide)
  have e1 : ∀ x : PV, repN 5 [x] = List.replicate 5 x := fun x => rfl
  unfold d_Site___init__ d_Site___init___b dDef
  refine ⟨rfl, ?_⟩
  refine seq_in fun N hN => ?_
  simp
  refine hN _ _ ?_
  clear hN
  refine seq_in fun N hN => ?_
  simp
  refine hN _ _ ?_
  clear hN
  refine seq_in fun N hN => ?_
  simp [vec_no]
  refine hN _ _ ?_
  clear hN
  refine seq_in fun N hN => ?_
  simp
  refine base_eq' (H := h ++ [Cell.ins CS (si3 (.int n) (.int 5) (vecP 0))]) (by simp) (by simp) ?_
  simp [baseL]
  refine hN _ _ ?_
  clear hN
  refine seq_in fun N hN => ?_
  simp
  refine hN _ _ ?_
  clear hN
  refine seq_in fun N hN => ?_
  simp
  refine hN _ _ ?_
  clear hN
  refine seq_in fun N hN => ?_
  simp
  refine know_eq' (H := h ++ [Cell.ins CS (si6 (.int n) (.int 5) (vecP 0) (.ref (h.length + 1)) (.ref (h.length + 6)) (.ref (h.length + 7))), Cell.ins CB (bsF (vecP 0) (.int 0) (.ref (h.length + 1 + 1)) (.ref (h.length + 1 + 1 + 1)) (.ref (h.length + 1 + 1 + 1 + 1)) (.ref (h.length + 1 + 1 + 1 + 1 + 1))), .dK [], .dK [], .dK [], .dK [], .lst [], .lst []]) (by simp) (by simp) hn ?_
  simp [knowL]
  refine hN _ _ ?_
  clear hN
  refine seq_in fun N hN => ?_
  simp [vec_no, s1, s5, e1]
  refine hN _ _ ?_
  clear hN
  simp

  exact hQ
end
end PM

namespace PM
open PySem PySem.Spec L2
open PyProof.Rows hiding St
def plN (N num : Nat) : Pl := ⟨N, N + 1, N + 6, N + 7, N + 8, N + 13, N + 14, N + 10, N + 11, vecP 0, .ref (N + 1 + 1), .ref (N + 1 + 1 + 1), .ref (N + 1 + 1 + 1 + 1), .ref (N + 1 + 1 + 1 + 1 + 1), .int 5, .tup [.int 0, .int 1, .int 2], .ref (N + 8 + 1), .ref (N + 8 + 1 + 1 + 1 + 1)⟩
def ssN (num : Nat) : Ss := ⟨num, 0, [], [], [], List.replicate 5 0, List.replicate 5 0⟩
theorem site_at {CB CK CS : Addr} (h : Hs) {n : Nat} (hn : n < 3) : SiteAt CB CK CS (h ++ siteL CB CK CS h.length n) (plN h.length n) (ssN n) := by
  have g : ∀ k, (h ++ siteL CB CK CS h.length n)[h.length + k]? = (siteL CB CK CS h.length n)[k]? := fun k => by
    rw [List.getElem?_append_right (by omega), show h.length + k - h.length = k by omega]
  exact ⟨g 0, g 1, g 6, g 7, g 8, g 13, g 14, g 10, g 11, by simp [own, plN], rfl, rfl, hn⟩
/-- three sites, and the list of all events, apart in the heap -/
structure H3 (CB CK CS : Addr) (h : Hs) (P0 P1 P2 : Pl) (S0 S1 S2 : Ss) (e : Nat) (evs : List PV) : Prop where
  a0 : SiteAt CB CK CS h P0 S0
  a1 : SiteAt CB CK CS h P1 S1
  a2 : SiteAt CB CK CS h P2 S2
  d01 : ∀ x ∈ own P0, x ∉ own P1
  d02 : ∀ x ∈ own P0, x ∉ own P2
  d12 : ∀ x ∈ own P1, x ∉ own P2
  ee : h[e]? = some (.lst evs)
  e0 : e ∉ own P0
  e1 : e ∉ own P1
  e2 : e ∉ own P2
section
variable {CB CK CS : Addr} {h H : Hs} {P0 P1 P2 P' : Pl} {S0 S1 S2 S' : Ss} {e : Nat} {evs : List PV}
theorem H3.fr (X : H3 CB CK CS h P0 P1 P2 S0 S1 S2 e evs) {L : List Nat} (f : Fr h H L) (hL : ∀ x ∈ L, h.length ≤ x) : H3 CB CK CS H P0 P1 P2 S0 S1 S2 e evs :=
  ⟨X.a0.keep f fun x m z => Nat.not_le_of_lt (X.a0.lts x m) (hL x z), X.a1.keep f fun x m z => Nat.not_le_of_lt (X.a1.lts x m) (hL x z), X.a2.keep f fun x m z => Nat.not_le_of_lt (X.a2.lts x m) (hL x z), X.d01, X.d02, X.d12,
    (f.g e (List.getElem?_eq_some_iff.mp X.ee).1 fun z => Nat.not_le_of_lt (List.getElem?_eq_some_iff.mp X.ee).1 (hL e z)).trans X.ee, X.e0, X.e1, X.e2⟩
theorem H3.frd (X : H3 CB CK CS h P0 P1 P2 S0 S1 S2 e evs) {L : List Nat} (f : Fr h H L) (h0 : ∀ x ∈ L, x ∉ own P0) (h1 : ∀ x ∈ L, x ∉ own P1) (h2 : ∀ x ∈ L, x ∉ own P2) (h3 : e ∉ L) : H3 CB CK CS H P0 P1 P2 S0 S1 S2 e evs :=
  ⟨X.a0.keep f fun x m z => h0 x z m, X.a1.keep f fun x m z => h1 x z m, X.a2.keep f fun x m z => h2 x z m, X.d01, X.d02, X.d12, (f.g e (List.getElem?_eq_some_iff.mp X.ee).1 h3).trans X.ee, X.e0, X.e1, X.e2⟩
theorem H3.s0 (X : H3 CB CK CS h P0 P1 P2 S0 S1 S2 e evs) (B : Po CB CK CS h H P0 P' S') : H3 CB CK CS H P' P1 P2 S' S1 S2 e evs := by
  have le := (List.getElem?_eq_some_iff.mp X.ee).1
  refine ⟨B.at_, X.a1.keep B.fr fun x m z => X.d01 x z m, X.a2.keep B.fr fun x m z => X.d02 x z m, fun x m z => ?_, fun x m z => ?_, X.d12, (B.fr.g e le X.e0).trans X.ee, fun m => ?_, X.e1, X.e2⟩
  · exact (B.ow x m).elim (fun q => X.d01 x q z) fun q => Nat.not_le_of_lt (X.a1.lts x z) q
  · exact (B.ow x m).elim (fun q => X.d02 x q z) fun q => Nat.not_le_of_lt (X.a2.lts x z) q
  · exact (B.ow e m).elim X.e0 fun q => by omega
theorem H3.s1 (X : H3 CB CK CS h P0 P1 P2 S0 S1 S2 e evs) (B : Po CB CK CS h H P1 P' S') : H3 CB CK CS H P0 P' P2 S0 S' S2 e evs := by
  have le := (List.getElem?_eq_some_iff.mp X.ee).1
  refine ⟨X.a0.keep B.fr fun x m z => X.d01 x m z, B.at_, X.a2.keep B.fr fun x m z => X.d12 x z m, fun x m z => ?_, X.d02, fun x m z => ?_, (B.fr.g e le X.e1).trans X.ee, X.e0, fun m => ?_, X.e2⟩
  · exact (B.ow x z).elim (fun q => X.d01 x m q) fun q => Nat.not_le_of_lt (X.a0.lts x m) q
  · exact (B.ow x m).elim (fun q => X.d12 x q z) fun q => Nat.not_le_of_lt (X.a2.lts x z) q
  · exact (B.ow e m).elim X.e1 fun q => by omega
theorem H3.s2 (X : H3 CB CK CS h P0 P1 P2 S0 S1 S2 e evs) (B : Po CB CK CS h H P2 P' S') : H3 CB CK CS H P0 P1 P' S0 S1 S' e evs := by
  have le := (List.getElem?_eq_some_iff.mp X.ee).1
  refine ⟨X.a0.keep B.fr fun x m z => X.d02 x m z, X.a1.keep B.fr fun x m z => X.d12 x m z, B.at_, X.d01, fun x m z => ?_, fun x m z => ?_, (B.fr.g e le X.e2).trans X.ee, X.e0, X.e1, fun m => ?_⟩
  · exact (B.ow x z).elim (fun q => X.d02 x m q) fun q => Nat.not_le_of_lt (X.a0.lts x m) q
  · exact (B.ow x z).elim (fun q => X.d12 x m q) fun q => Nat.not_le_of_lt (X.a1.lts x m) q
  · exact (B.ow e m).elim X.e2 fun q => by omega
end
/-- what is true of the three sites: k0, k1 known events, w0, w1 heard ones -/
structure LS (n k0 k1 w0 w1 : Nat) (evs : List PV) (S0 S1 S2 : Ss) : Prop where
  ev : EvL 0 evs
  ln : evs.length = n
  n70 : n ≤ 70
  n0 : S0.num = 0
  v0 : S0.v = n
  h0 : S0.held = evs
  q0 : S0.wait = []
  t0 : S0.told.getD 0 0 = n
  c0 : S0.new.length ≤ 70
  x0 : S0.hv.getD 1 0 = w0
  n1 : S1.num = 1
  v1 : S1.v = k0
  h1 : S1.held = evs.take k0
  q1 : S1.wait = []
  t1 : S1.told.getD 1 0 = k0
  c1 : S1.new.length ≤ k0
  x1 : S1.hv.getD 2 0 = w1
  y1 : k0 ≤ S1.hv.getD 0 0
  n2 : S2.num = 2
  v2 : S2.v = k1
  h2 : S2.held = evs.take k1
  q2 : S2.wait = []
  t2 : S2.told.getD 2 0 = k1
  c2 : S2.new.length ≤ k1
  x2 : k1 ≤ S2.hv.getD 1 0
  b0 : w0 ≤ k0
  b1 : k0 ≤ n
  b2 : w1 ≤ k1
  b3 : k1 ≤ k0
theorem take_more {evs : List PV} {a k m : Nat} (ha : a ≤ k) (hk : k ≤ m) : (((evs.take m).drop a).take 20).drop (k - a) = ((evs.take m).drop k).take (a + 20 - k) := by
  rw [List.drop_take, List.drop_drop, show a + (k - a) = k by omega, show 20 - (k - a) = a + 20 - k by omega]
theorem take_app {evs : List PV} {k m j : Nat} (hk : k ≤ m) (hm : m ≤ evs.length) : evs.take k ++ ((evs.take m).drop k).take j = evs.take (max k (min m (k + j))) ∧ (((evs.take m).drop k).take j).length = max k (min m (k + j)) - k := by
  have e : ((evs.take m).drop k).take j = (evs.drop k).take (min j (m - k)) := by
    rw [List.drop_take, List.take_take]
  rw [e]
  refine ⟨?_, ?_⟩
  · rw [show max k (min m (k + j)) = k + min j (m - k) by omega, List.take_add]
  · rw [List.length_take, List.length_drop]
    omega
end PM

namespace PM
open PySem PySem.Spec L2
open PyProof.Rows hiding St
theorem EvL.take {a m : Nat} {es : List PV} (h : EvL a es) : EvL a (es.take m) := fun k e q => by
  rw [List.getElem?_take] at q
  split at q
  · exact h k e q
  · cases q
theorem evl_nil (a : Nat) : EvL a [] := fun k e q => by simp at q
section
variable {CB CK CS : Addr} {h : Hs} {P0 P1 P2 : Pl} {S0 S1 S2 : Ss} {e n k0 k1 w0 w1 : Nat} {evs : List PV} {Q : VQ} {E : XQ}
/-- the second site hears the first one -/
theorem h01 (X : H3 CB CK CS h P0 P1 P2 S0 S1 S2 e evs) (L : LS n k0 k1 w0 w1 evs S0 S1 S2) (hQ : ∀ H P1' S1', H3 CB CK CS H P0 P1' P2 S0 S1' S2 e evs → P1'.n = P1.n → LS n (max k0 (min n (w0 + 20))) k1 w0 w1 evs S0 S1' S2 → S1'.new = S1.new ++ (evs.drop k0).take (max k0 (min n (w0 + 20)) - k0) → Q (.val .non) H) : d_Site_hear CK CS [.val (.ref P1.n), .val (.int 0), .val (newsP n ((evs.drop w0).take 20))] h Q E := by
  have en : evs.take n = evs := List.take_of_length_le (by rw [L.ln]; exact Nat.le_refl _)
  have tm := take_more (evs := evs) (a := w0) (k := k0) (m := n) L.b0 L.b1
  have ta := take_app (evs := evs) (k := k0) (m := n) (j := w0 + 20 - k0) L.b1 (by rw [L.ln]; exact Nat.le_refl _)
  have b0 := L.b0
  have b1 := L.b1
  have n70 := L.n70
  have em : max k0 (min n (k0 + (w0 + 20 - k0))) = max k0 (min n (w0 + 20)) := by omega
  rw [en] at tm ta
  rw [em] at ta
  have lh : S1.held.length ≤ 900 := by rw [L.h1, List.length_take]; omega
  have c1 := L.c1
  have ed : ((evs.drop w0).take 20).drop (S1.v - w0) = (evs.drop k0).take (w0 + 20 - k0) := by rw [L.v1]; exact tm
  refine hear_eq (s := 0) (V := n) (a := w0) X.a1 (by decide) (by rw [L.n1]; decide) L.q1 (EvL.take (by
    have := L.ev.drop (n := w0)
    rwa [Nat.zero_add] at this)) (by rw [L.v1]; exact b0) (by rw [L.n1, L.v1]; exact L.t1) (fun z => by rw [L.n1] at z; cases z) lh (by omega) (by rw [List.length_take]; omega) fun H P' S' B R => ?_
  rw [ed] at R
  have X2 := X.s1 B
  have nn : S1.num ≠ 0 := by rw [L.n1]; decide
  have v' : S'.v = max k0 (min n (w0 + 20)) := by
    rw [R.v, L.v1, ta.2]
    omega
  have lt : ((evs.drop k0).take (w0 + 20 - k0)) = (evs.drop k0).take (max k0 (min n (w0 + 20)) - k0) := by
    rw [List.take_eq_take_iff, List.length_drop, L.ln]
    omega
  refine hQ H P' S' X2 B.n ⟨L.ev, L.ln, L.n70, L.n0, L.v0, L.h0, L.q0, L.t0, L.c0, L.x0, R.num.trans L.n1, v', ?_, R.wait, ?_, ?_, ?_, ?_, L.n2, L.v2, L.h2, L.q2, L.t2, L.c2, L.x2, by omega, by omega, L.b2, by have := L.b3; omega⟩ (by rw [R.new, lt])
  · rw [R.held, L.h1, ta.1]
  · have := R.told
    rw [L.n1] at this
    rw [this, v']
  · rw [R.new, List.length_append, ta.2]
    omega
  · rw [R.f1 2 (by decide) (by decide) (by rw [L.n1]; decide)]
    exact L.x1
  · by_cases q : (evs.drop k0).take (w0 + 20 - k0) = []
    · have := R.f2 nn
      have l0 : ((evs.drop k0).take (w0 + 20 - k0)).length = 0 := by rw [q]; rfl
      rw [ta.2] at l0
      have := L.y1
      omega
    · have := R.f3 nn q
      omega
/-- the third site hears the second one -/
theorem h12 (X : H3 CB CK CS h P0 P1 P2 S0 S1 S2 e evs) (L : LS n k0 k1 w0 w1 evs S0 S1 S2) (hQ : ∀ H P2' S2', H3 CB CK CS H P0 P1 P2' S0 S1 S2' e evs → P2'.n = P2.n → LS n k0 (max k1 (min k0 (w1 + 20))) w0 w1 evs S0 S1 S2' → Q (.val .non) H) : d_Site_hear CK CS [.val (.ref P2.n), .val (.int 1), .val (newsP k0 (((evs.take k0).drop w1).take 20))] h Q E := by
  have b0 := L.b2
  have b1 := L.b3
  have b3 := L.b1
  have n70 := L.n70
  have tm := take_more (evs := evs) (a := w1) (k := k1) (m := k0) b0 b1
  have ta := take_app (evs := evs) (k := k1) (m := k0) (j := w1 + 20 - k1) b1 (by rw [L.ln]; exact b3)
  have em : max k1 (min k0 (k1 + (w1 + 20 - k1))) = max k1 (min k0 (w1 + 20)) := by omega
  rw [em] at ta
  have lh : S2.held.length ≤ 900 := by rw [L.h2, List.length_take]; omega
  have c2 := L.c2
  have ed : (((evs.take k0).drop w1).take 20).drop (S2.v - w1) = ((evs.take k0).drop k1).take (w1 + 20 - k1) := by rw [L.v2]; exact tm
  refine hear_eq (s := 1) (V := k0) (a := w1) X.a2 (by decide) (by rw [L.n2]; decide) L.q2 (EvL.take (by
    have := (L.ev.take (m := k0)).drop (n := w1)
    rwa [Nat.zero_add] at this)) (by rw [L.v2]; exact b0) (by rw [L.n2, L.v2]; exact L.t2) (fun z => by rw [L.n2] at z; cases z) lh (by omega) (by rw [List.length_take]; omega) fun H P' S' B R => ?_
  rw [ed] at R
  have X2 := X.s2 B
  have v' : S'.v = max k1 (min k0 (w1 + 20)) := by
    rw [R.v, L.v2, ta.2]
    omega
  refine hQ H P' S' X2 B.n ⟨L.ev, L.ln, L.n70, L.n0, L.v0, L.h0, L.q0, L.t0, L.c0, L.x0, L.n1, L.v1, L.h1, L.q1, L.t1, L.c1, L.x1, L.y1, R.num.trans L.n2, v', ?_, R.wait, ?_, ?_, ?_, L.b0, L.b1, by omega, by omega⟩
  · rw [R.held, L.h2, ta.1]
  · have := R.told
    rw [L.n2] at this
    rw [this, v']
  · rw [R.new, List.length_append, ta.2]
    omega
  · rw [R.f1 1 (by decide) (by decide) (by rw [L.n2]; decide), if_pos rfl]
    omega
/-- the first site hears the second one -/
theorem h10 (X : H3 CB CK CS h P0 P1 P2 S0 S1 S2 e evs) (L : LS n k0 k1 w0 w1 evs S0 S1 S2) (hQ : ∀ H P0' S0', H3 CB CK CS H P0' P1 P2 S0' S1 S2 e evs → P0'.n = P0.n → LS n k0 k1 k0 w1 evs S0' S1 S2 → Q (.val .non) H) : d_Site_hear CK CS [.val (.ref P0.n), .val (.int 1), .val (newsP k0 [])] h Q E := by
  have n70 := L.n70
  have c0 := L.c0
  have lh : S0.held.length ≤ 900 := by rw [L.h0, L.ln]; omega
  refine hear_eq (s := 1) (V := k0) (a := 0) X.a0 (by decide) (by rw [L.n0]; decide) L.q0 (evl_nil 0) (Nat.zero_le _) (by rw [L.n0, L.v0]; exact L.t0) (fun _ => by simp) lh (by omega) (by simp) fun H P' S' B R => ?_
  rw [List.drop_nil] at R
  refine hQ H P' S' (X.s0 B) B.n ⟨L.ev, L.ln, L.n70, R.num.trans L.n0, ?_, ?_, R.wait, ?_, ?_, ?_, L.n1, L.v1, L.h1, L.q1, L.t1, L.c1, L.x1, L.y1, L.n2, L.v2, L.h2, L.q2, L.t2, L.c2, L.x2, Nat.le_refl _, L.b1, L.b2, L.b3⟩
  · rw [R.v, L.v0]; rfl
  · rw [R.held, L.h0, List.append_nil]
  · have := R.told
    rw [L.n0] at this
    rw [this, R.v, L.v0]; rfl
  · rw [R.new, List.append_nil]; exact L.c0
  · rw [R.f1 1 (by decide) (by decide) (by rw [L.n0]; decide), if_pos rfl, L.x0]
    have := L.b0
    omega
/-- the second site hears the third one -/
theorem h21 (X : H3 CB CK CS h P0 P1 P2 S0 S1 S2 e evs) (L : LS n k0 k1 w0 w1 evs S0 S1 S2) (hQ : ∀ H P1' S1', H3 CB CK CS H P0 P1' P2 S0 S1' S2 e evs → P1'.n = P1.n → LS n k0 k1 w0 k1 evs S0 S1' S2 → S1'.new = S1.new → Q (.val .non) H) : d_Site_hear CK CS [.val (.ref P1.n), .val (.int 2), .val (newsP k1 [])] h Q E := by
  have n70 := L.n70
  have b1 := L.b1
  have c1 := L.c1
  have lh : S1.held.length ≤ 900 := by rw [L.h1, List.length_take]; omega
  have nn : S1.num ≠ 0 := by rw [L.n1]; decide
  refine hear_eq (s := 2) (V := k1) (a := 0) X.a1 (by decide) (by rw [L.n1]; decide) L.q1 (evl_nil 0) (Nat.zero_le _) (by rw [L.n1, L.v1]; exact L.t1) (fun _ => by simp) lh (by omega) (by simp) fun H P' S' B R => ?_
  rw [List.drop_nil] at R
  refine hQ H P' S' (X.s1 B) B.n ⟨L.ev, L.ln, L.n70, L.n0, L.v0, L.h0, L.q0, L.t0, L.c0, L.x0, R.num.trans L.n1, ?_, ?_, R.wait, ?_, ?_, ?_, ?_, L.n2, L.v2, L.h2, L.q2, L.t2, L.c2, L.x2, L.b0, L.b1, Nat.le_refl _, L.b3⟩ (by rw [R.new, List.append_nil])
  · rw [R.v, L.v1]; rfl
  · rw [R.held, L.h1, List.append_nil]
  · have := R.told
    rw [L.n1] at this
    rw [this, R.v, L.v1]; rfl
  · rw [R.new, List.append_nil]; exact L.c1
  · rw [R.f1 2 (by decide) (by decide) (by rw [L.n1]; decide), if_pos rfl, L.x1]
    have := L.b2
    omega
  · exact Nat.le_trans L.y1 (R.f2 nn)
/-- the news -/
theorem nw01 (X : H3 CB CK CS h P0 P1 P2 S0 S1 S2 e evs) (L : LS n k0 k1 w0 w1 evs S0 S1 S2) (hQ : Q (.val (newsP n ((evs.drop w0).take 20))) h) : d_Site_news_for CS [.val (.ref P0.n), .val (.int 1)] h Q E := by
  have n70 := L.n70
  refine news_eq (w := 1) X.a0 (by rw [L.n0]; decide) (getD_some (by rw [X.a0.lh]; decide)) (by rw [L.h0]; exact L.ev) (by rw [L.h0, L.ln]; omega) ?_
  rw [L.x0, L.v0, L.h0]
  exact hQ
theorem nw12 (X : H3 CB CK CS h P0 P1 P2 S0 S1 S2 e evs) (L : LS n k0 k1 w0 w1 evs S0 S1 S2) (hQ : Q (.val (newsP k0 (((evs.take k0).drop w1).take 20))) h) : d_Site_news_for CS [.val (.ref P1.n), .val (.int 2)] h Q E := by
  have n70 := L.n70
  have b1 := L.b1
  refine news_eq (w := 2) X.a1 (by rw [L.n1]; decide) (getD_some (by rw [X.a1.lh]; decide)) (by rw [L.h1]; exact L.ev.take) (by rw [L.h1, List.length_take]; omega) ?_
  rw [L.x1, L.v1, L.h1]
  exact hQ
theorem nw10 (X : H3 CB CK CS h P0 P1 P2 S0 S1 S2 e evs) (L : LS n k0 k1 w0 w1 evs S0 S1 S2) (hQ : Q (.val (newsP k0 [])) h) : d_Site_news_for CS [.val (.ref P1.n), .val (.int 0)] h Q E := by
  have n70 := L.n70
  have b1 := L.b1
  refine news_eq (w := 0) X.a1 (by rw [L.n1]; decide) (getD_some (by rw [X.a1.lh]; decide)) (by rw [L.h1]; exact L.ev.take) (by rw [L.h1, List.length_take]; omega) ?_
  have y := L.y1
  rw [L.v1, L.h1, List.drop_eq_nil_of_le (by rw [List.length_take]; omega)]
  exact hQ
theorem nw21 (X : H3 CB CK CS h P0 P1 P2 S0 S1 S2 e evs) (L : LS n k0 k1 w0 w1 evs S0 S1 S2) (hQ : Q (.val (newsP k1 [])) h) : d_Site_news_for CS [.val (.ref P2.n), .val (.int 1)] h Q E := by
  have n70 := L.n70
  have b1 := L.b1
  have b3 := L.b3
  refine news_eq (w := 1) X.a2 (by rw [L.n2]; decide) (getD_some (by rw [X.a2.lh]; decide)) (by rw [L.h2]; exact L.ev.take) (by rw [L.h2, List.length_take]; omega) ?_
  have y := L.x2
  rw [L.v2, L.h2, List.drop_eq_nil_of_le (by rw [List.length_take]; omega)]
  exact hQ
end
end PM

namespace PM
open PySem PySem.Spec L2
open PyProof.Rows hiding St
theorem siteL_len (CB CK CS : Addr) (n k : Nat) : (siteL CB CK CS n k).length = 15 := by simp [siteL, baseL, knowL]
theorem dot_tup (j : Nat) : pyEq (dotP j) (.tup [.int 0, .int ((j : Int) + 1)]) = true := by
  unfold dotP
  simp
/-- the sites while the first one writes -/
structure WS (j : Nat) (S0 S1 S2 : Ss) : Prop where
  ev : EvL 0 S0.held
  l : S0.held.length = j
  n0 : S0.num = 0
  v0 : S0.v = j
  q0 : S0.wait = []
  t0 : S0.told.getD 0 0 = j
  c0 : S0.new = S0.held
  x0 : S0.hv.getD 1 0 = 0
  s1 : S1 = ssN 1
  s2 : S2 = ssN 2
theorem WS.new : WS 0 (ssN 0) (ssN 1) (ssN 2) := ⟨evl_nil 0, rfl, rfl, rfl, rfl, rfl, rfl, rfl, rfl, rfl⟩
theorem WS.step {j : Nat} {S0 S1 S2 : Ss} (W : WS j S0 S1 S2) (lt : S0.told.length = 5) (lh : S0.hv.length = 5) {op : PV} (ho : OpOk op) : WS (j + 1) { tkS S0 S0.v op with new := S0.new ++ [evP S0.v op] } S1 S2 := by
  have e1 : tkV S0 S0.v = j + 1 := by
    unfold tkV tkT
    rw [W.n0, bump_at (by rw [bump_len, lt]; decide), bump_at (by rw [lt]; decide), W.t0, W.v0]
    omega
  refine ⟨?_, ?_, W.n0, e1, W.q0, ?_, ?_, ?_, W.s1, W.s2⟩
  · intro k e q
    have q : (S0.held ++ [evP S0.v op])[k]? = some e := q
    rcases Nat.lt_or_ge k S0.held.length with l | l
    · rw [List.getElem?_append_left l] at q
      exact W.ev k e q
    · rw [List.getElem?_append_right l] at q
      have l2 := (List.getElem?_eq_some_iff.mp q).1
      simp at l2
      have e0 : k = j := by have := W.l; omega
      subst e0
      rw [W.l, Nat.sub_self] at q
      cases q
      exact ⟨op, ho, by rw [W.v0, Nat.zero_add]⟩
  · show (S0.held ++ [evP S0.v op]).length = j + 1
    rw [List.length_append, W.l]
    rfl
  · show (tkT S0 S0.v).getD 0 0 = j + 1
    rw [← e1]
    unfold tkV
    rw [W.n0]
  · show S0.new ++ [evP S0.v op] = S0.held ++ [evP S0.v op]
    rw [W.c0]
  · show ((bump S0.hv 0 (S0.v + 1)).set S0.num (tkV S0 S0.v)).getD 1 0 = 0
    rw [W.n0, set_getD (by decide), bump_ne (by decide)]
    exact W.x0
section
variable {CB CK CS : Addr} {h : Hs} {P0 P1 P2 : Pl} {S0 S1 S2 : Ss} {n0 n1 n2 b : Nat} {z : List PV}
theorem write_step {D : DEnds} {ns : List Int} {e1 e3 e5 e6 e7 e8 e9 e10 e11 e12 e13 : Option SV} {j : Nat} {N : Env → Hs → Prop} (X : H3 CB CK CS h P0 P1 P2 S0 S1 S2 b z) (W : WS j S0 S1 S2) (hj : j < 71) (p0 : P0.n = n0)
    (hN : ∀ H P0' S0', H3 CB CK CS H P0' P1 P2 S0' S1 S2 b z → P0'.n = n0 → WS (j + 1) S0' S1 S2 → D.nx [some (.scr ns), e1, some (.own [.ref n0, .ref n1, .ref n2]), e3, some (.val (.int j)), e5, e6, e7, e8, e9, e10, e11, e12, e13] H) :
    (sIf (dTst (dOp gNe (dMeth CS "write" 2 (d_Site_write CB CK CS) (dOp gIx (dVar 2) (dC (.int 0))) (dCons (dCall 2 d_law_op (dCons (dAlloc (dLst (dCons (dOp gAdd (dCall 2 d_law_row (dCons (dVar 0) (dCons (dOp gAdd (dC (.int 1)) (dOp gMod (dVar 4) (dC (.int 50)))) dNil))) (dOp gMulX (dC (.int 7)) (dVar 4))) dNil))) (dCons (dVar 4) dNil))) dNil)) (dTup (dCons (dC (.int 0)) (dCons (dOp gAdd (dVar 4) (dC (.int 1))) dNil))))) (sRet (dC (.bl false))) sNil)
      D [some (.scr ns), e1, some (.own [.ref n0, .ref n1, .ref n2]), e3, some (.val (.int j)), e5, e6, e7, e8, e9, e10, e11, e12, e13] h := by
  have s1 : 1 ≤ sizeLine := szL (by decide)
  have s2 : 2 ≤ sizeLine := szL (by decide)
  have a0 := X.a0.n
  rw [p0] at a0
  refine if_in fun S1' T1 hS1 hT1 => ?_
  simp [a0, cdivW]
  refine row_ok fun i => ?_
  simp [cmulL, s1]
  refine op_eq (n := h.length) ⟨i + 7 * j, by simp⟩ fun op H ho x => ?_
  have f : Fr h H [h.length] := by
    refine ⟨by rw [x.l]; simp, fun k lk nk => ?_⟩
    rw [x.g k (by simpa using nk), List.getElem?_append_left lk]
  have X1 := X.fr f (by simp)
  have lj := W.l
  have c0 := W.c0
  simp
  rw [← p0]
  refine write_eq X1.a0 ho W.n0 (by omega) (by rw [c0]; omega) W.q0 (by rw [lj, W.v0]) (fun k e q => by
    obtain ⟨op, _, e1⟩ := W.ev k e q
    exact ⟨op, by rw [e1, Nat.zero_add]⟩) fun H2 P' B => ?_
  simp [s2]
  refine ⟨dotP S0.v, rfl, dot_okD _, ?_⟩
  rw [W.v0, if_pos (dot_tup j)]
  refine hT1 _ _ ?_
  simp
  have := hN _ _ _ (X1.s0 B) (B.n.trans p0) (W.step X1.a0.lt X1.a0.lh ho)
  rw [p0]
  exact this
end
end PM

namespace PM
open PySem PySem.Spec L2
open PyProof.Rows hiding St
def innerB (C_Knowing C_Site : Addr) : DS := sSeq (sExpr (dMeth C_Site "hear" 3 (d_Site_hear C_Knowing C_Site) (dOp gIx (dVar 2) (dC (.int 1))) (dCons (dC (.int 0)) (dCons (dVar 10) dNil))))
  (sSeq (sAsg 12 (dB gMax (dCons (dOp gIx (dVar 7) (dC (.int 0))) (dCons (dB gMin (dCons (dVar 3) (dCons (dOp gAdd (dOp gIx (dVar 6) (dC (.int 0))) (dC (.int 20))) dNil))) dNil))))
  (sSeq (sFrz 12 (sIf (dOr (dTst (dOp gNe (dMeth C_Site "fresh" 1 (d_Site_fresh C_Site) (dOp gIx (dVar 2) (dC (.int 1))) dNil) (dSl (dVar 5) (dPart (dOp gIx (dVar 7) (dC (.int 0)))) (dPart (dVar 12))))) (dTst (dOp gNe (dFld C_Site (dOp gIx (dVar 2) (dC (.int 1))) "vector") (dOp gAdd (dTup (dCons (dVar 12) dNil)) (dOp gMulX (dTup (dCons (dC (.int 0)) dNil)) (dC (.int 7))))))) (sRet (dC (.bl false))) sNil))
  (sFrz 12 (sSetV 7 (dC (.int 0)) (dVar 12)))))
def roundB (C_Knowing C_Site : Addr) : DS := sSeq (sAsg 8 (dAlloc (dLst (dCons (dCall 2 d_law_row (dCons (dVar 0) (dCons (dOp gSub (dC (.int 60)) (dVar 4)) dNil))) dNil))))
  (sSeq (sAsg 9 (dCall 2 d_law_take (dCons (dVar 8) (dCons (dC (.int 4)) dNil))))
  (sIf (dTst (dOp gLt (dVar 9) (dC (.int 2)))) (sSeq (sAsg 10 (dMeth C_Site "news_for" 2 (d_Site_news_for C_Site) (dOp gIx (dVar 2) (dC (.int 0))) (dCons (dC (.int 1)) dNil)))
  (sSeq (sIf (dTst (dOp gNe (dVar 10) (dCall 3 (d_law_news C_Site) (dCons (dOp gIx (dVar 2) (dC (.int 0))) (dCons (dVar 5) (dCons (dOp gIx (dVar 6) (dC (.int 0))) dNil)))))) (sRet (dC (.bl false))) sNil)
  (sFor (dRng1 (dCall 2 d_law_take (dCons (dVar 8) (dCons (dC (.int 3)) dNil)))) (bName 11) (sSeq (sExpr (dMeth C_Site "hear" 3 (d_Site_hear C_Knowing C_Site) (dOp gIx (dVar 2) (dC (.int 1))) (dCons (dC (.int 0)) (dCons (dVar 10) dNil))))
  (sSeq (sAsg 12 (dB gMax (dCons (dOp gIx (dVar 7) (dC (.int 0))) (dCons (dB gMin (dCons (dVar 3) (dCons (dOp gAdd (dOp gIx (dVar 6) (dC (.int 0))) (dC (.int 20))) dNil))) dNil))))
  (sSeq (sFrz 12 (sIf (dOr (dTst (dOp gNe (dMeth C_Site "fresh" 1 (d_Site_fresh C_Site) (dOp gIx (dVar 2) (dC (.int 1))) dNil) (dSl (dVar 5) (dPart (dOp gIx (dVar 7) (dC (.int 0)))) (dPart (dVar 12))))) (dTst (dOp gNe (dFld C_Site (dOp gIx (dVar 2) (dC (.int 1))) "vector") (dOp gAdd (dTup (dCons (dVar 12) dNil)) (dOp gMulX (dTup (dCons (dC (.int 0)) dNil)) (dC (.int 7))))))) (sRet (dC (.bl false))) sNil))
  (sFrz 12 (sSetV 7 (dC (.int 0)) (dVar 12))))))))) (sIf (dTst (dOp gEq (dVar 9) (dC (.int 2)))) (sSeq (sAsg 10 (dMeth C_Site "news_for" 2 (d_Site_news_for C_Site) (dOp gIx (dVar 2) (dC (.int 1))) (dCons (dC (.int 2)) dNil)))
  (sSeq (sIf (dTst (dOp gNe (dVar 10) (dCall 3 (d_law_news C_Site) (dCons (dOp gIx (dVar 2) (dC (.int 1))) (dCons (dSl (dVar 5) dNoPart (dPart (dOp gIx (dVar 7) (dC (.int 0))))) (dCons (dOp gIx (dVar 6) (dC (.int 1))) dNil)))))) (sRet (dC (.bl false))) sNil)
  (sSeq (sExpr (dMeth C_Site "hear" 3 (d_Site_hear C_Knowing C_Site) (dOp gIx (dVar 2) (dC (.int 2))) (dCons (dC (.int 1)) (dCons (dVar 10) dNil))))
  (sSeq (sSetV 7 (dC (.int 1)) (dB gMax (dCons (dOp gIx (dVar 7) (dC (.int 1))) (dCons (dB gMin (dCons (dOp gIx (dVar 7) (dC (.int 0))) (dCons (dOp gAdd (dOp gIx (dVar 6) (dC (.int 1))) (dC (.int 20))) dNil))) dNil))))
  (sIf (dOr (dTst (dOp gNe (dFld C_Site (dOp gIx (dVar 2) (dC (.int 2))) "held") (dSl (dVar 5) dNoPart (dPart (dOp gIx (dVar 7) (dC (.int 1))))))) (dTst (dOp gNe (dFld C_Site (dOp gIx (dVar 2) (dC (.int 2))) "waiting") (dLst dNil)))) (sRet (dC (.bl false))) sNil))))) (sSeq (sExpr (dMeth C_Site "hear" 3 (d_Site_hear C_Knowing C_Site) (dOp gIx (dVar 2) (dC (.int 0))) (dCons (dC (.int 1)) (dCons (dMeth C_Site "news_for" 2 (d_Site_news_for C_Site) (dOp gIx (dVar 2) (dC (.int 1))) (dCons (dC (.int 0)) dNil)) dNil))))
  (sSeq (sSetV 6 (dC (.int 0)) (dOp gIx (dVar 7) (dC (.int 0))))
  (sSeq (sExpr (dMeth C_Site "hear" 3 (d_Site_hear C_Knowing C_Site) (dOp gIx (dVar 2) (dC (.int 1))) (dCons (dC (.int 2)) (dCons (dMeth C_Site "news_for" 2 (d_Site_news_for C_Site) (dOp gIx (dVar 2) (dC (.int 2))) (dCons (dC (.int 1)) dNil)) dNil))))
  (sSeq (sSetV 6 (dC (.int 1)) (dOp gIx (dVar 7) (dC (.int 1))))
  (sIf (dOr (dTst (dOp gNe (dOp gIx (dMeth C_Site "heard" 2 (d_Site_heard C_Site) (dOp gIx (dVar 2) (dC (.int 0))) (dCons (dC (.int 1)) dNil)) (dC (.int 0))) (dOp gIx (dVar 7) (dC (.int 0))))) (dTst (dOp gNe (dOp gIx (dMeth C_Site "heard" 2 (d_Site_heard C_Site) (dOp gIx (dVar 2) (dC (.int 1))) (dCons (dC (.int 2)) dNil)) (dC (.int 0))) (dOp gIx (dVar 7) (dC (.int 1)))))) (sRet (dC (.bl false))) sNil))))))))
def endB (C_Knowing C_Site : Addr) : DS := sSeq (sExpr (dMeth C_Site "hear" 3 (d_Site_hear C_Knowing C_Site) (dOp gIx (dVar 2) (dC (.int 1))) (dCons (dC (.int 0)) (dCons (dMeth C_Site "news_for" 2 (d_Site_news_for C_Site) (dOp gIx (dVar 2) (dC (.int 0))) (dCons (dC (.int 1)) dNil)) dNil))))
  (sExpr (dMeth C_Site "hear" 3 (d_Site_hear C_Knowing C_Site) (dOp gIx (dVar 2) (dC (.int 0))) (dCons (dC (.int 1)) (dCons (dMeth C_Site "news_for" 2 (d_Site_news_for C_Site) (dOp gIx (dVar 2) (dC (.int 1))) (dCons (dC (.int 0)) dNil)) dNil))))
theorem ev_ok {i : Nat} {op : PV} (ho : OpOk op) (n : Nat) : okN (n + 3) (evP i op) := by
  unfold evP vecP
  rcases ho with ⟨k, rfl⟩ | ⟨k, rfl⟩ | ⟨z, rfl, hz⟩
  · simp
    exact ⟨by decide +kernel, by decide +kernel⟩
  · simp
    exact ⟨by decide +kernel, by decide +kernel⟩
  · simp [hz]
    exact ⟨by decide +kernel, by decide +kernel⟩
theorem evl_ok {a : Nat} {es : List PV} (h : EvL a es) (n : Nat) : ∀ x ∈ es, okN (n + 3) x := fun x m => by
  obtain ⟨i, li, ei⟩ := List.getElem_of_mem m
  obtain ⟨op, ho, e⟩ := h i x (by rw [List.getElem?_eq_getElem li, ei])
  rw [e]
  exact ev_ok ho n
theorem lst_ok {a : Nat} {es : List PV} (h : EvL a es) : (PV.lst es).okD = true := by
  rw [okD_lst]
  exact fun x m => evl_ok h 60 x m
theorem news_ok {V a : Nat} {es : List PV} (h : EvL a es) : (newsP V es).okD = true := by
  unfold newsP vecP
  rw [okD_tup]
  intro x m
  simp at m
  rcases m with rfl | rfl | rfl
  · simp
    decide +kernel
  · simp
  · rw [okN_tup]
    exact fun x m => evl_ok h 59 x m
theorem vec_ok (V : Nat) : (vecP V).okD = true := by
  unfold vecP
  simp
section
variable {CB CK CS : Addr} {h : Hs} {P0 P1 P2 : Pl} {S0 S1 S2 : Ss} {e n k0 k1 w0 w1 p0 p1 p2 : Nat} {evs : List PV}
/-- the second site hears the news, and tells what is fresh -/
theorem inner_ok {D : DEnds} {ns : List Int} {e1 e4 e8 e9 e11 e12 e13 : Option SV} (X : H3 CB CK CS h P0 P1 P2 S0 S1 S2 e evs) (L : LS n k0 k1 w0 w1 evs S0 S1 S2) (cn : S1.new = []) (q0 : P0.n = p0) (q1 : P1.n = p1) (q2 : P2.n = p2)
    (hN : ∀ H P1' S1' k0' e12, H3 CB CK CS H P0 P1' P2 S0 S1' S2 e evs → LS n k0' k1 w0 w1 evs S0 S1' S2 → S1'.new = [] → P1'.n = p1 → D.nx [some (.scr ns), e1, some (.own [.ref p0, .ref p1, .ref p2]), some (.val (.int n)), e4, some (.val (.ref e)), some (.own [.int w0, .int w1]), some (.own [.int (k0' : Nat), .int k1]), e8, e9, some (.val (newsP n ((evs.drop w0).take 20))), e11, e12, e13] H) :
    innerB CK CS D [some (.scr ns), e1, some (.own [.ref p0, .ref p1, .ref p2]), some (.val (.int n)), e4, some (.val (.ref e)), some (.own [.int w0, .int w1]), some (.own [.int (k0 : Nat), .int k1]), e8, e9, some (.val (newsP n ((evs.drop w0).take 20))), e11, e12, e13] h := by
  have a1 := X.a1.n
  rw [q1] at a1
  unfold innerB
  refine seq_in fun N hN1 => ?_
  simp [a1]
  rw [← q1]
  refine h01 X L fun H P1' S1' X2 pn L2 en => hN1 _ _ ?_
  clear hN1
  rw [q1] at pn
  rw [cn, List.nil_append] at en
  have a2 := X2.a1.n
  rw [pn] at a2
  refine seq_in fun N hN1 => ?_
  simp
  have em : max (k0 : Int) (min (n : Int) ((w0 : Int) + 20)) = ((max k0 (min n (w0 + 20)) : Nat) : Int) := by omega
  rw [em]
  refine hN1 _ _ ?_
  clear hN1
  generalize hk : max k0 (min n (w0 + 20)) = k0' at *
  refine seq_in fun N hN1 => ?_
  refine if_in fun S1x T1 hS1 hT1 => ?_
  simp [frzE, a2, q1]
  rw [← pn]
  refine fresh_eq X2.a1 fun H3' B3 hf => ?_
  have X3 := X2.s1 B3
  have a3 := X3.a1.n
  simp only at a3
  have le : listC H3' (.val (.ref e)) = some evs := by simp [listC, X3.ee]
  have en' : SV.pv H3' (.val (.ref P1'.new)) = some (.lst ((evs.drop k0).take (k0' - k0))) := by
    rw [← en]
    simp [SV.pv, hf]
  have ev2 : EvL (0 + k0) ((evs.drop k0).take (k0' - k0)) := (L.ev.drop (n := k0)).take
  have r7 : PV.tup (.int (k0' : Int) :: repN 7 [.int 0]) = vecP k0' := rfl
  have ok7 : ∀ a ∈ repN 7 [PV.int 0], okN 63 a := fun a m => by
    have : repN 7 [PV.int 0] = [PV.int 0, .int 0, .int 0, .int 0, .int 0, .int 0, .int 0] := rfl
    rw [this] at m
    simp at m
    rw [m]
    simp
  refine ⟨_, le, _, en', lst_ok ev2, ?_, ?_⟩
  · rw [cut_mid]
    exact fun x m => evl_ok ev2 60 x m
  rw [cut_mid, if_pos (pyEq_self (lst_ok ev2))]
  refine ⟨_, a3, vecP S1'.v, by simp, szL (by decide), szL (by decide), vecP S1'.v, rfl, vec_ok _, ok7, ?_⟩
  rw [r7, L2.v1, if_pos (pyEq_self (vec_ok _))]
  refine hT1 _ _ ?_
  simp
  refine hN1 _ _ ?_
  clear hN1 hS1 hT1
  simp [frzE]
  have L3 : LS n k0' k1 w0 w1 evs S0 { S1' with new := [] } S2 := ⟨L2.ev, L2.ln, L2.n70, L2.n0, L2.v0, L2.h0, L2.q0, L2.t0, L2.c0, L2.x0, L2.n1, L2.v1, L2.h1, L2.q1, L2.t1, Nat.zero_le _, L2.x1, L2.y1, L2.n2, L2.v2, L2.h2, L2.q2, L2.t2, L2.c2, L2.x2, L2.b0, L2.b1, L2.b2, L2.b3⟩
  have := hN H3' _ _ k0' (some (.val (.int k0'))) X3 L3 rfl pn
  rw [pn]
  exact ⟨0, rfl, this⟩
/-- a round of the main loop -/
theorem round_ok {D : DEnds} {ns : List Int} {e1 e8 e9 e10 e11 e12 e13 : Option SV} {k : Nat} (X : H3 CB CK CS h P0 P1 P2 S0 S1 S2 e evs) (L : LS n k0 k1 w0 w1 evs S0 S1 S2) (cn : S1.new = []) (q0 : P0.n = p0) (q1 : P1.n = p1) (q2 : P2.n = p2)
    (hN : ∀ H P0' P1' P2' S0' S1' S2' k0' k1' w0' w1' e8 e9 e10 e11 e12, H3 CB CK CS H P0' P1' P2' S0' S1' S2' e evs → LS n k0' k1' w0' w1' evs S0' S1' S2' → S1'.new = [] → P0'.n = p0 → P1'.n = p1 → P2'.n = p2 → D.nx [some (.scr ns), e1, some (.own [.ref p0, .ref p1, .ref p2]), some (.val (.int n)), some (.val (.int k)), some (.val (.ref e)), some (.own [.int (w0' : Nat), .int (w1' : Nat)]), some (.own [.int (k0' : Nat), .int (k1' : Nat)]), e8, e9, e10, e11, e12, e13] H) :
    roundB CK CS D [some (.scr ns), e1, some (.own [.ref p0, .ref p1, .ref p2]), some (.val (.int n)), some (.val (.int k)), some (.val (.ref e)), some (.own [.int (w0 : Nat), .int (w1 : Nat)]), some (.own [.int (k0 : Nat), .int (k1 : Nat)]), e8, e9, e10, e11, e12, e13] h := by
  have s1 : 1 ≤ sizeLine := szL (by decide)
  unfold roundB
  refine seq_in fun N hN1 => ?_
  simp
  refine row_ok fun i => ?_
  simp [s1]
  refine hN1 _ _ ?_
  clear hN1
  have f0 : Fr h (h ++ [Cell.lst [.int i]]) [h.length] := (Fr.refl h _).app _
  have hb : B h.length (h ++ [Cell.lst [.int i]]) := ⟨i, by simp⟩
  refine seq_in fun N hN1 => ?_
  simp [↓take_eq hb]
  have x1 : Bx h.length (h ++ [Cell.lst [.int i]]) (PM.pt h.length 4 (h ++ [Cell.lst [.int i]])) := (Bx.refl hb).pt
  have g0 := tk_ge (n := h.length) (h := h ++ [Cell.lst [.int i]]) (k := 4) (by decide)
  have g1 := tk_lt (n := h.length) (h := h ++ [Cell.lst [.int i]]) (k := 4) (by decide)
  generalize tk h.length 4 (h ++ [Cell.lst [.int i]]) = kind at *
  generalize PM.pt h.length 4 (h ++ [Cell.lst [.int i]]) = h1 at *
  refine hN1 _ _ ?_
  clear hN1
  have f1 : Fr h h1 [h.length] := by
    refine ⟨by rw [x1.l]; simp, fun k lk nk => ?_⟩
    rw [x1.g k (by simpa using nk), List.getElem?_append_left lk]
  have X1 := X.fr f1 (by simp)
  have hb1 := x1.bb
  have bo : h.length ∉ own P0 ∧ h.length ∉ own P1 ∧ h.length ∉ own P2 ∧ h.length ≠ e := ⟨fun z => Nat.lt_irrefl _ (X.a0.lts _ z), fun z => Nat.lt_irrefl _ (X.a1.lts _ z), fun z => Nat.lt_irrefl _ (X.a2.lts _ z), fun z => by
    have := (List.getElem?_eq_some_iff.mp X.ee).1
    omega⟩
  generalize h.length = b at *
  have a0 := X1.a0.n
  have a1 := X1.a1.n
  have a2 := X1.a2.n
  rw [q0] at a0
  rw [q1] at a1
  rw [q2] at a2
  refine if_in fun S1' T1 hS1 hT1 => ?_
  simp
  by_cases c2 : kind < 2
  · rw [if_pos c2]
    refine hS1 _ _ ?_
    clear hS1 hT1
    refine seq_in fun N hN1 => ?_
    simp [a0]
    rw [← q0]
    refine nw01 X1 L ⟨rfl, hN1 _ _ ?_⟩
    clear hN1
    rw [q0]
    have evw : EvL (0 + w0) ((evs.drop w0).take 20) := (L.ev.drop (n := w0)).take
    refine seq_in fun N hN1 => ?_
    refine if_in fun S1' T1 hS1 hT1 => ?_
    simp
    rw [← q0]
    refine lnews_eq X1.a0 (xs := evs) (f := w0) (.inr ⟨e, rfl, X1.ee⟩) ?_
    rw [L.v0, q0]
    refine ⟨_, rfl, _, rfl, news_ok evw, news_ok evw, ?_⟩
    rw [pyEq_self (news_ok evw)]
    simp
    refine hT1 _ _ ?_
    simp
    refine hN1 _ _ ?_
    clear hN1 hS1 hT1
    have t0 := tk_ge (n := b) (h := h1) (k := 3) (by decide)
    have t1 := tk_lt (n := b) (h := h1) (k := 3) (by decide)
    have f2 : Fr h1 (PM.pt b 3 h1) [b] := by
      refine ⟨by simp [PM.pt], fun k lk nk => ?_⟩
      unfold PM.pt
      rw [List.getElem?_set_ne (by simpa using Ne.symm (show k ≠ b by simpa using nk))]
    have X2 := X1.frd f2 (fun x m z => by
      rw [List.mem_singleton.mp m] at z
      exact bo.1 z) (fun x m z => by
      rw [List.mem_singleton.mp m] at z
      exact bo.2.1 z) (fun x m z => by
      rw [List.mem_singleton.mp m] at z
      exact bo.2.2.1 z) (fun z => bo.2.2.2 (List.mem_singleton.mp z).symm)
    simp [↓take_eq hb1]
    generalize tk b 3 h1 = t at *
    generalize PM.pt b 3 h1 = h2 at *
    refine ⟨by omega, by omega, ?_⟩
    refine forL_inv (fun j env h => ∃ P1' S1' k0' e11 e12, H3 CB CK CS h P0 P1' P2 S0 S1' S2 e evs ∧ LS n k0' k1 w0 w1 evs S0 S1' S2 ∧ S1'.new = [] ∧ P1'.n = p1 ∧ env = [some (.scr ns), e1, some (.own [.ref p0, .ref p1, .ref p2]), some (.val (.int n)), some (.val (.int k)), some (.val (.ref e)), some (.own [.int w0, .int w1]), some (.own [.int (k0' : Nat), .int k1]), some (.val (.ref b)), some (.val (.int kind)), some (.val (newsP n ((evs.drop w0).take 20))), e11, e12, e13]) _ 0 _ _ ⟨P1, S1, k0, e11, e12, X2, L, cn, q1, rfl⟩ ?_ ?_
    · rintro j x ex env h3 ⟨P1', S1', k0', e11', e12', X3, L3, cn3, q3, rfl⟩ N' hN'
      obtain ⟨hj, rfl⟩ := rangeP_get ex
      refine ⟨trivial, ?_⟩
      rw [bName_eq]
      exact inner_ok X3 L3 cn3 q0 q3 q2 fun H P1x S1x kx ex X4 L4 cn4 q4 => hN' _ _ ⟨P1x, S1x, kx, _, _, X4, L4, cn4, q4, rfl⟩
    · rintro env h3 ⟨P1', S1', k0', e11', e12', X3, L3, cn3, q3, rfl⟩
      exact ⟨trivial, hN _ _ _ _ _ _ _ _ _ _ _ _ _ _ _ _ X3 L3 cn3 q0 q3 q2⟩
  rw [if_neg c2]
  refine hT1 _ _ ?_
  clear hS1 hT1
  refine if_in fun S1' T1 hS1 hT1 => ?_
  simp
  by_cases c3 : kind = 2
  · rw [if_pos c3]
    refine hS1 _ _ ?_
    clear hS1 hT1
    refine seq_in fun N hN1 => ?_
    simp [a1]
    rw [← q1]
    refine nw12 X1 L ⟨rfl, hN1 _ _ ?_⟩
    clear hN1
    rw [q1]
    have evw : EvL (0 + w1) (((evs.take k0).drop w1).take 20) := ((L.ev.take (m := k0)).drop (n := w1)).take
    have le : listC h1 (.val (.ref e)) = some evs := by simp [listC, X1.ee]
    refine seq_in fun N hN1 => ?_
    refine if_in fun S1' T1 hS1 hT1 => ?_
    simp
    refine ⟨_, le, ?_⟩
    rw [cut_to, ← q1]
    refine lnews_eq X1.a1 (xs := evs.take k0) (f := w1) (.inl rfl) ?_
    rw [L.v1, q1]
    refine ⟨_, rfl, _, rfl, news_ok evw, news_ok evw, ?_⟩
    rw [pyEq_self (news_ok evw)]
    simp
    refine hT1 _ _ ?_
    simp
    refine hN1 _ _ ?_
    clear hN1 hS1 hT1
    refine seq_in fun N hN1 => ?_
    simp [a2]
    rw [← q2]
    refine h12 X1 L fun H P2' S2' X2 pn L2 => hN1 _ _ ?_
    clear hN1
    rw [q2] at pn ⊢
    have em : max (k1 : Int) (min (k0 : Int) ((w1 : Int) + 20)) = ((max k1 (min k0 (w1 + 20)) : Nat) : Int) := by omega
    refine seq_in fun N hN1 => ?_
    simp
    rw [em]
    refine ⟨1, rfl, hN1 _ _ ?_⟩
    clear hN1
    generalize max k1 (min k0 (w1 + 20)) = k1' at *
    have a3 := X2.a2.n
    rw [pn] at a3
    refine if_in fun S1' T1 hS1 hT1 => ?_
    simp [a3]
    have le2 : listC H (.val (.ref e)) = some evs := by simp [listC, X2.ee]
    have ph : SV.pv H (.val (.ref P2'.held)) = some (.lst (evs.take k1')) := by
      rw [← L2.h2]
      simp [SV.pv, X2.a2.held]
    have pw : SV.pv H (.val (.ref P2'.wait)) = some (.lst []) := by
      rw [← L2.q2]
      simp [SV.pv, X2.a2.wait]
    have evk : EvL 0 (evs.take k1') := L.ev.take
    have nl : (PV.lst []).okD = true := by simp
    refine ⟨_, le2, _, ph, lst_ok evk, ?_, ?_⟩
    · rw [cut_to]
      exact fun x m => evl_ok evk 60 x m
    rw [cut_to, if_pos (pyEq_self (lst_ok evk))]
    refine ⟨_, pw, nl, ?_⟩
    rw [if_pos (pyEq_self nl)]
    refine hT1 _ _ ?_
    simp
    exact hN _ _ _ _ _ _ _ _ _ _ _ _ _ _ _ _ X2 L2 cn q0 q1 pn
  rw [if_neg c3]
  refine hT1 _ _ ?_
  clear hS1 hT1
  refine seq_in fun N hN1 => ?_
  simp [a0, a1]
  rw [← q1]
  refine nw10 X1 L ?_
  rw [q1, ← q0]
  refine h10 X1 L fun H P0' S0' X2 pn L2 => hN1 _ _ ?_
  clear hN1
  rw [q0] at pn ⊢
  have a1' := X2.a1.n
  have a2' := X2.a2.n
  rw [q1] at a1'
  rw [q2] at a2'
  refine seq_in fun N hN1 => ?_
  simp
  refine ⟨0, rfl, hN1 _ _ ?_⟩
  clear hN1
  refine seq_in fun N hN1 => ?_
  simp [a1', a2']
  rw [← q2]
  refine nw21 X2 L2 ?_
  rw [q2, ← q1]
  refine h21 X2 L2 fun H4 P1' S1' X4 pn4 L4 en4 => hN1 _ _ ?_
  clear hN1
  rw [q1] at pn4 ⊢
  refine seq_in fun N hN1 => ?_
  simp
  refine ⟨1, rfl, hN1 _ _ ?_⟩
  clear hN1
  have a04 := X4.a0.n
  have a14 := X4.a1.n
  rw [pn] at a04
  rw [pn4] at a14
  refine if_in fun S1' T1 hS1 hT1 => ?_
  simp [a04]
  rw [← pn]
  refine heard_eq (i := 1) X4.a0 (by rw [L4.n0]; decide) (getD_some (by rw [X4.a0.lh]; decide)) ?_
  rw [L4.x0, pn]
  have oki : ∀ z : Int, (PV.int z).okD = true := fun z => by simp
  refine ⟨_, rfl, _, atI_0 _ _, .int k0, rfl, oki _, ?_⟩
  rw [if_pos (pyEq_self (oki _))]
  refine ⟨_, a14, by simp, ?_⟩
  rw [← pn4]
  refine heard_eq (i := 2) X4.a1 (by rw [L4.n1]; decide) (getD_some (by rw [X4.a1.lh]; decide)) ?_
  rw [L4.x1, pn4]
  refine ⟨_, rfl, _, atI_0 _ _, .int k1, rfl, oki _, ?_⟩
  rw [if_pos (pyEq_self (oki _))]
  refine hT1 _ _ ?_
  simp
  exact hN _ _ _ _ _ _ _ _ _ _ _ _ _ _ _ _ X4 L4 (en4.trans cn) pn pn4 q2
theorem end_ok {D : DEnds} {e0 e1 e3 e4 e5 e6 e7 e8 e9 e10 e11 e12 e13 : Option SV} (X : H3 CB CK CS h P0 P1 P2 S0 S1 S2 e evs) (L : LS n k0 k1 w0 w1 evs S0 S1 S2) (q0 : P0.n = p0) (q1 : P1.n = p1)
    (hN : ∀ H P0' P1' S0' S1', H3 CB CK CS H P0' P1' P2 S0' S1' S2 e evs → LS n (max k0 (min n (w0 + 20))) k1 (max k0 (min n (w0 + 20))) w1 evs S0' S1' S2 → P0'.n = p0 → P1'.n = p1 → D.nx [e0, e1, some (.own [.ref p0, .ref p1, .ref p2]), e3, e4, e5, e6, e7, e8, e9, e10, e11, e12, e13] H) :
    endB CK CS D [e0, e1, some (.own [.ref p0, .ref p1, .ref p2]), e3, e4, e5, e6, e7, e8, e9, e10, e11, e12, e13] h := by
  have a0 := X.a0.n
  have a1 := X.a1.n
  rw [q0] at a0
  rw [q1] at a1
  unfold endB
  refine seq_in fun N hN1 => ?_
  simp [a0, a1]
  rw [← q0]
  refine nw01 X L ?_
  rw [q0, ← q1]
  refine h01 X L fun H P1' S1' X2 pn L2 en => hN1 _ _ ?_
  clear hN1
  rw [q1] at pn ⊢
  have a0' := X2.a0.n
  have a1' := X2.a1.n
  rw [q0] at a0'
  rw [pn] at a1'
  simp [a0', a1']
  rw [← pn]
  refine nw10 X2 L2 ?_
  rw [pn, ← q0]
  refine h10 X2 L2 fun H4 P0' S0' X4 pn4 L4 => ?_
  rw [q0] at pn4 ⊢
  exact hN _ _ _ _ _ X4 L4 pn4 pn
end
end PM

namespace PM
open PySem PySem.Spec L2
open PyProof.Rows hiding St
section
variable {CB CK CS : Addr} {Q : VQ} {E : XQ}
theorem site_eq' {H G : Hs} {m n : Nat} (hG : G = H ++ [.ins CS []]) (hm : m = H.length) (hn : n = 0 ∨ n = 1 ∨ n = 2) (hQ : Q (.val .non) (H ++ siteL CB CK CS m n)) : d_Site___init__ CB CK CS [.val (.ref m), .val (.int n), .val (.int 5), .val (.tup [.int 0, .int 1, .int 2])] G Q E := by
  subst hG hm
  exact site_eq hn hQ
end
theorem law_den (CB CK CS : Addr) (ns : List Int) (hl : ns.length ≤ 63) : d_law CB CK CS [.scr ns] [] (fun sv _ => sv = .val (.bl true)) fun _ _ => False := by
  have s1 : 1 ≤ sizeLine := szL (by decide)
  have s2 : 2 ≤ sizeLine := szL (by decide)
  have s3 : 3 ≤ sizeLine := szL (by decide)
  unfold d_law d_law_b dDef
  refine ⟨rfl, ?_⟩
  refine seq_in fun N hN => ?_
  simp
  refine row_ok fun i => ?_
  simp [s1]
  refine hN _ _ ?_
  clear hN
  refine seq_in fun N hN => ?_
  have er : rangeP 0 3 = [.int 0, .int 1, .int 2] := rfl
  simp [er, s3]
  refine site_eq' (n := 0) (H := [Cell.lst [PV.int i]]) rfl rfl (.inl rfl) ?_
  have A0 : SiteAt CB CK CS ([Cell.lst [PV.int i]] ++ siteL CB CK CS 1 0) (plN 1 0) (ssN 0) := site_at [Cell.lst [PV.int i]] (by decide)
  have hb0 : ([Cell.lst [PV.int i]] ++ siteL CB CK CS 1 0)[0]? = some (.lst [.int i]) := rfl
  have l0 : ([Cell.lst [PV.int i]] ++ siteL CB CK CS 1 0).length = 16 := rfl
  generalize [Cell.lst [PV.int i]] ++ siteL CB CK CS 1 0 = G1 at *
  refine ⟨rfl, by decide, ?_⟩
  rw [l0]
  refine site_eq' (n := 1) (H := G1) rfl l0.symm (.inr (.inl rfl)) ?_
  have A1 : SiteAt CB CK CS (G1 ++ siteL CB CK CS 16 1) (plN 16 1) (ssN 1) := by
    have := site_at (CB := CB) (CK := CK) (CS := CS) G1 (n := 1) (by decide)
    rwa [l0] at this
  have A0' := A0.app (siteL CB CK CS 16 1)
  have hb1 : (G1 ++ siteL CB CK CS 16 1)[0]? = some (.lst [.int i]) := by
    rw [List.getElem?_append_left (by omega)]
    exact hb0
  have l1 : (G1 ++ siteL CB CK CS 16 1).length = 31 := by rw [List.length_append, l0, siteL_len]
  clear A0 hb0 l0
  generalize G1 ++ siteL CB CK CS 16 1 = G2 at *
  refine ⟨rfl, by decide, ?_⟩
  rw [l1]
  refine site_eq' (n := 2) (H := G2) rfl l1.symm (.inr (.inr rfl)) ?_
  have A2 : SiteAt CB CK CS (G2 ++ siteL CB CK CS 31 2) (plN 31 2) (ssN 2) := by
    have := site_at (CB := CB) (CK := CK) (CS := CS) G2 (n := 2) (by decide)
    rwa [l1] at this
  have X : H3 CB CK CS (G2 ++ siteL CB CK CS 31 2) (plN 1 0) (plN 16 1) (plN 31 2) (ssN 0) (ssN 1) (ssN 2) 0 [.int i] := ⟨A0'.app _, A1.app _, A2, by decide, by decide, by decide, by
    rw [List.getElem?_append_left (by omega)]
    exact hb1, by decide, by decide, by decide⟩
  clear A0' A1 A2 hb1 l1
  generalize G2 ++ siteL CB CK CS 31 2 = h at *
  have p0 : (plN 1 0).n = 1 := rfl
  have p1 : (plN 16 1).n = 16 := rfl
  have p2 : (plN 31 2).n = 31 := rfl
  generalize plN 1 0 = P0 at *
  generalize plN 16 1 = P1 at *
  generalize plN 31 2 = P2 at *
  refine ⟨rfl, by decide, hN _ _ ?_⟩
  clear hN
  have hb : B 0 h := ⟨i, X.ee⟩
  have bt : ∀ {P0 P1 P2 S0 S1 S2 h k}, H3 CB CK CS h P0 P1 P2 S0 S1 S2 0 [.int k] → ∀ q, ∃ k', H3 CB CK CS (PM.pt 0 q h) P0 P1 P2 S0 S1 S2 0 [.int k'] := fun {P0 P1 P2 S0 S1 S2 h k} X q => by
    have lt := (List.getElem?_eq_some_iff.mp X.ee).1
    have f : Fr h (PM.pt 0 q h) [0] := (Fr.refl h [0]).set (.inl (by simp)) _
    refine ⟨bxv 0 h / q, ?_⟩
    have nm : ∀ x ∈ [0], x = 0 := fun x m => List.mem_singleton.mp m
    exact ⟨X.a0.keep f fun x m z => X.e0 (nm x z ▸ m), X.a1.keep f fun x m z => X.e1 (nm x z ▸ m), X.a2.keep f fun x m z => X.e2 (nm x z ▸ m), X.d01, X.d02, X.d12, List.getElem?_set_self lt, X.e0, X.e1, X.e2⟩
  refine seq_in fun N hN => ?_
  have n0 := tk_ge (n := 0) (h := h) (k := 71) (by decide)
  have n1 := tk_lt (n := 0) (h := h) (k := 71) (by decide)
  simp [↓take_eq hb]
  obtain ⟨i1, X1⟩ := bt X 71
  obtain ⟨n, en⟩ : ∃ n : Nat, tk 0 71 h = n := ⟨(tk 0 71 h).toNat, by omega⟩
  rw [en] at n1 ⊢
  generalize PM.pt 0 71 h = h1 at *
  clear X hb n0 en
  refine hN _ _ ?_
  clear hN
  refine seq_in fun N hN => ?_
  refine for_in fun F hF => ?_
  simp
  refine ⟨by omega, hF _ _ _ ?_⟩
  refine forL_inv (fun j env h => ∃ P0 S0, H3 CB CK CS h P0 P1 P2 S0 (ssN 1) (ssN 2) 0 [.int i1] ∧ P0.n = 1 ∧ WS j S0 (ssN 1) (ssN 2) ∧ ∃ e4, env = [some (.scr ns), some (.val (.ref 0)), some (.own [.ref 1, .ref 16, .ref 31]), some (.val (.int n)), e4, none, none, none, none, none, none, none, none, none]) _ 0 _ _ ⟨P0, _, X1, p0, .new, none, rfl⟩ ?_ ?_
  · rintro j x ex env h ⟨P0', S0, X, q0, W, e4, rfl⟩ N' hN'
    obtain ⟨hj, rfl⟩ := rangeP_get ex
    simp at W hN'
    refine ⟨trivial, ?_⟩
    rw [bName_eq, Int.zero_add]
    refine write_step (N := N') (j := j) X W (by omega) q0 fun H P0x S0x X2 q2 W2 => ?_
    exact hN' _ _ _ _ X2 q2 W2 _ rfl
  rintro env h ⟨P0', S0, X, q0, W, e4, rfl⟩
  refine ⟨trivial, hN _ _ ?_⟩
  clear hN hF
  rw [rangeP_len, Nat.zero_add] at W
  have a0 := X.a0.n
  rw [q0] at a0
  refine seq_in fun N hN => ?_
  simp [a0]
  rw [← q0]
  refine fresh_eq X.a0 fun H Bf hf => ⟨rfl, hN _ _ ?_⟩
  clear hN
  rw [q0]
  have X' := X.s0 Bf
  have nd := nds X.a0.nd
  have l0 := X.a0.lts P0'.new (by simp [own])
  rw [W.c0] at hf
  have X2 : H3 CB CK CS H { P0' with new := h.length } P1 P2 { S0 with new := [] } (ssN 1) (ssN 2) P0'.new S0.held := by
    refine ⟨X'.a0, X'.a1, X'.a2, X'.d01, X'.d02, X'.d12, hf, fun m => ?_, X.d01 _ (by simp [own]), X.d02 _ (by simp [own])⟩
    simp only [own, List.mem_cons, List.not_mem_nil, or_false] at m
    rcases m with m | m | m | m | m | m | m | m | m
    · exact nd.new_n m
    · exact nd.new_base m
    · exact nd.new_held m
    · exact nd.new_wait m
    · exact nd.new_kn m
    · exact nd.new_hv m
    · omega
    · exact nd.new_told m
    · exact nd.new_acks m
  have ne0 : P0'.new ≠ 0 := fun z => X.e0 (by rw [← z]; simp [own])
  have hb2 : B 0 H := ⟨i1, X'.ee⟩
  have L : LS n 0 0 0 0 S0.held { S0 with new := [] } (ssN 1) (ssN 2) := ⟨W.ev, W.l, by omega, W.n0, by show S0.v = n; exact W.v0, rfl, W.q0, W.t0, Nat.zero_le _, W.x0, rfl, rfl, rfl, rfl, rfl, Nat.le_refl _, rfl, Nat.zero_le _, rfl, rfl, rfl, rfl, rfl, Nat.le_refl _, Nat.zero_le _, Nat.le_refl _, Nat.zero_le _, Nat.le_refl _, Nat.le_refl _⟩
  have q0' : ({ P0' with new := h.length } : Pl).n = 1 := q0
  have e0' := X'.e0
  have e1' := X'.e1
  have e2' := X'.e2
  have lE := W.l
  have evE := W.ev
  generalize P0'.new = e at *
  generalize ({ P0' with new := h.length } : Pl) = P0x at *
  generalize ({ S0 with new := [] } : Ss) = S0x at *
  generalize S0.held = evs at *
  clear X X' Bf a0 nd l0 W hf X1
  have a0 := X2.a0.n
  rw [q0'] at a0
  have sE : seqC H (.val (.ref e)) = some evs := by simp [seqC_ref, X2.ee]
  have pE : SV.pv H (.val (.ref e)) = some (.lst evs) := by simp [SV.pv, X2.ee]
  have pH : SV.pv H (.val (.ref P0x.held)) = some (.lst evs) := by
    rw [← L.h0]
    simp [SV.pv, X2.a0.held]
  have okE := lst_ok evE
  refine seq_in fun N hN => ?_
  refine if_in fun S1' T1 hS1 hT1 => ?_
  simp [a0, c_MOST_NEWS]
  refine ⟨_, sE, ?_⟩
  rw [lE]
  rw [if_pos rfl]
  refine ⟨_, pH, _, pE, okE, okE, ?_⟩
  rw [if_pos (pyEq_self okE)]
  refine hT1 _ _ ?_
  clear hS1 hT1
  simp
  refine hN _ _ ?_
  clear hN
  refine seq_in fun N hN => ?_
  simp [s2]
  refine hN _ _ ?_
  clear hN
  refine seq_in fun N hN => ?_
  simp [s2]
  refine hN _ _ ?_
  clear hN
  refine seq_in fun N hN => ?_
  refine for_in fun F hF => ?_
  have t0 := tk_ge (n := 0) (h := H) (k := 13) (by decide)
  have t1 := tk_lt (n := 0) (h := H) (k := 13) (by decide)
  simp [↓take_eq hb2]
  have f : Fr H (PM.pt 0 13 H) [0] := (Fr.refl H [0]).set (.inl (by simp)) _
  have X3 := X2.frd f (fun x m z => e0' (List.mem_singleton.mp m ▸ z)) (fun x m z => e1' (List.mem_singleton.mp m ▸ z)) (fun x m z => e2' (List.mem_singleton.mp m ▸ z)) (fun z => ne0 (List.mem_singleton.mp z))
  generalize tk 0 13 H = t at *
  generalize PM.pt 0 13 H = h2 at *
  clear X2 hb2 f sE pE pH a0
  refine ⟨by omega, by omega, hF _ _ _ ?_⟩
  refine forL_inv (fun j env h => ∃ P0 P1 P2 S0 S1 S2 k0 k1 w0 w1 e4 e8 e9 e10 e11 e12, H3 CB CK CS h P0 P1 P2 S0 S1 S2 e evs ∧ LS n k0 k1 w0 w1 evs S0 S1 S2 ∧ S1.new = [] ∧ P0.n = 1 ∧ P1.n = 16 ∧ P2.n = 31 ∧ env = [some (.scr ns), some (.val (.ref 0)), some (.own [.ref (1 : Nat), .ref (16 : Nat), .ref (31 : Nat)]), some (.val (.int n)), e4, some (.val (.ref e)), some (.own [.int (w0 : Nat), .int (w1 : Nat)]), some (.own [.int (k0 : Nat), .int (k1 : Nat)]), e8, e9, e10, e11, e12, none]) _ 0 _ _ ⟨_, _, _, _, _, _, 0, 0, 0, 0, _, _, _, _, _, _, X3, L, rfl, q0', p1, p2, rfl⟩ ?_ ?_
  · rintro j x ex env h ⟨P0, P1, P2, S0, S1, S2, k0, k1, w0, w1, e4, e8, e9, e10, e11, e12, X, L, cn, q0, q1, q2, rfl⟩ N' hN'
    obtain ⟨hj, rfl⟩ := rangeP_get ex
    refine ⟨trivial, ?_⟩
    rw [bName_eq, Int.zero_add]
    exact round_ok (k := j) X L cn q0 q1 q2 fun H P0 P1 P2 S0 S1 S2 k0 k1 w0 w1 e8 e9 e10 e11 e12 X L cn q0 q1 q2 => hN' _ _ ⟨P0, P1, P2, S0, S1, S2, k0, k1, w0, w1, _, e8, e9, e10, e11, e12, X, L, cn, q0, q1, q2, rfl⟩
  rintro env h ⟨P0, P1, P2, S0, S1, S2, k0, k1, w0, w1, e4, e8, e9, e10, e11, e12, X, L, cn, q0, q1, q2, rfl⟩
  refine ⟨trivial, hN _ _ ?_⟩
  clear hN hF X3
  refine seq_in fun N hN => ?_
  refine for_in fun F hF => ?_
  simp
  refine hF _ _ _ ?_
  refine forL_inv (fun j env h => ∃ P0 P1 P2 S0 S1 S2 k0 k1 w0 w1 e4 e6 e7 e8 e9 e10 e11 e12, H3 CB CK CS h P0 P1 P2 S0 S1 S2 e evs ∧ LS n k0 k1 w0 w1 evs S0 S1 S2 ∧ P0.n = 1 ∧ P1.n = 16 ∧ P2.n = 31 ∧ min n (20 * j) ≤ w0 ∧ env = [some (.scr ns), some (.val (.ref 0)), some (.own [.ref (1 : Nat), .ref (16 : Nat), .ref (31 : Nat)]), some (.val (.int n)), e4, some (.val (.ref e)), e6, e7, e8, e9, e10, e11, e12, none]) _ 0 _ _ ⟨_, _, _, _, _, _, _, _, _, _, _, _, _, _, _, _, _, _, X, L, q0, q1, q2, by omega, rfl⟩ ?_ ?_
  · rintro j x ex env h ⟨P0, P1, P2, S0, S1, S2, k0, k1, w0, w1, e4, e6, e7, e8, e9, e10, e11, e12, X, L, q0, q1, q2, hw, rfl⟩ N' hN'
    obtain ⟨hj, rfl⟩ := rangeP_get ex
    refine ⟨trivial, ?_⟩
    rw [bName_eq]
    exact end_ok X L q0 q1 fun H P0 P1 S0 S1 X L q0 q1 => hN' _ _ ⟨P0, P1, _, S0, S1, _, _, _, _, _, _, _, _, _, _, _, _, _, X, L, q0, q1, q2, by omega, rfl⟩
  rintro env h ⟨P0, P1, P2, S0, S1, S2, k0, k1, w0, w1, e4, e6, e7, e8, e9, e10, e11, e12, X, L, q0, q1, q2, hw, rfl⟩
  refine ⟨trivial, hN _ _ ?_⟩
  clear hN hF
  rw [rangeP_len] at hw
  have b0 := L.b0
  have b1 := L.b1
  have n70 := L.n70
  have ew : w0 = n := by omega
  have ek : k0 = n := by omega
  subst ew
  have a0 := X.a0.n
  have a1 := X.a1.n
  rw [q0] at a0
  rw [q1] at a1
  simp [a1]
  have ph : SV.pv h (.val (.ref P1.held)) = some (.lst evs) := by
    have e1 := L.h1
    rw [List.take_of_length_le (by rw [L.ln]; omega)] at e1
    rw [← e1]
    simp [SV.pv, X.a1.held]
  have pE : SV.pv h (.val (.ref e)) = some (.lst evs) := by simp [SV.pv, X.ee]
  refine ⟨_, ph, _, pE, okE, okE, pyEq_self okE, _, a0, by simp, ?_⟩
  rw [← q0]
  refine nw01 X L ?_
  rw [q0, List.drop_eq_nil_of_le (by rw [L.ln]; exact Nat.le_refl _), List.take_nil]
  have ok1 := news_ok (V := w0) (evl_nil 0)
  have okv : okN 63 (vecP S0.v) := by
    unfold vecP
    simp
  refine ⟨_, a0, vecP S0.v, by simp, s3, _, rfl, ok1, ⟨by decide +kernel, okv⟩, ?_⟩
  rw [L.v0]
  exact pyEq_self ok1
end PM

namespace PM
open PySem PySem.Spec L2
open PyProof.Rows hiding St
structure Txt (K : PySem.W.Frag) (mg : Str → Option Value) : Prop where
  n_all : mg "all" = none
  n_enumerate : mg "enumerate" = none
  n_int : mg "int" = none
  n_len : mg "len" = none
  n_max : mg "max" = none
  n_min : mg "min" = none
  n_range : mg "range" = none
  n_sorted : mg "sorted" = none
  n_tuple : mg "tuple" = none
  n_zip : mg "zip" = none
  c_NO_VECTOR : GC K mg "NO_VECTOR" c_NO_VECTOR
  c_ADMIT : GC K mg "ADMIT" c_ADMIT
  c_BEGIN : GC K mg "BEGIN" c_BEGIN
  c_RETIRE : GC K mg "RETIRE" c_RETIRE
  c_ACK : GC K mg "ACK" c_ACK
  c_MOST_NEWS : GC K mg "MOST_NEWS" c_MOST_NEWS
def topS (i : Nat) : Stmt := PySem.Challenge.pw_partmeet_k34_news_come_in_twenties.main.body.getD i (.Pass ⟨0, 0, 0, 0⟩)
def methS (i j : Nat) : Stmt := match topS i with
  | .ClassDef _ _ _ body _ _ _ _ _ _ _ => body.getD j (.Pass ⟨0, 0, 0, 0⟩)
  | _ => .Pass ⟨0, 0, 0, 0⟩
structure ClF_Base (K : PySem.W.Frag) (C : Addr) : Prop where
  cl : Cls K C
  na_counters : NoAttr K C "counters"
  na_height : NoAttr K C "height"
  na_registers : NoAttr K C "registers"
  na_sets : NoAttr K C "sets"
  na_texts : NoAttr K C "texts"
  na_vector : NoAttr K C "vector"
structure ClF_Knowing (K : PySem.W.Frag) (C : Addr) : Prop where
  cl : Cls K C
  na_absent : NoAttr K C "absent"
  na_acks : NoAttr K C "acks"
  na_coming : NoAttr K C "coming"
  na_number : NoAttr K C "number"
  na_over : NoAttr K C "over"
  na_present : NoAttr K C "present"
  na_retiring : NoAttr K C "retiring"
  na_size : NoAttr K C "size"
  na_told : NoAttr K C "told"
structure ClF_Site (K : PySem.W.Frag) (C : Addr) : Prop where
  cl : Cls K C
  na_base : NoAttr K C "base"
  na_heard_vectors : NoAttr K C "heard_vectors"
  na_held : NoAttr K C "held"
  na_knowing : NoAttr K C "knowing"
  na_new_events : NoAttr K C "new_events"
  na_number : NoAttr K C "number"
  na_size : NoAttr K C "size"
  na_vector : NoAttr K C "vector"
  na_waiting : NoAttr K C "waiting"
abbrev s_knows : Stmt := topS 17
abbrev N_knows : List Str := ["vector", "dot"]
theorem sc_knows : FnScope N_knows ["vector", "dot"] (defScope s_knows) := ⟨rfl, rfl, rfl, by decide +kernel, rfl, by decide +kernel, by decide +kernel⟩
abbrev s_covers : Stmt := topS 18
abbrev N_covers : List Str := ["vector", "other", "one", "two"]
theorem sc_covers : FnScope N_covers ["vector", "other"] (defScope s_covers) := ⟨rfl, rfl, rfl, by decide +kernel, rfl, by decide +kernel, by decide +kernel⟩
abbrev s_joined : Stmt := topS 19
abbrev N_joined : List Str := ["vector", "other", "one", "two"]
theorem sc_joined : FnScope N_joined ["vector", "other"] (defScope s_joined) := ⟨rfl, rfl, rfl, by decide +kernel, rfl, by decide +kernel, by decide +kernel⟩
abbrev s_raised : Stmt := topS 21
abbrev N_raised : List Str := ["vector", "dot"]
theorem sc_raised : FnScope N_raised ["vector", "dot"] (defScope s_raised) := ⟨rfl, rfl, rfl, by decide +kernel, rfl, by decide +kernel, by decide +kernel⟩
abbrev s_dot_of : Stmt := topS 29
abbrev N_dot_of : List Str := ["event"]
theorem sc_dot_of : FnScope N_dot_of ["event"] (defScope s_dot_of) := ⟨rfl, rfl, rfl, by decide +kernel, rfl, by decide +kernel, by decide +kernel⟩
abbrev s_Base___init__ : Stmt := methS 56 0
abbrev N_Base___init__ : List Str := ["self"]
theorem sc_Base___init__ : FnScope N_Base___init__ ["self"] (defScope s_Base___init__) := ⟨rfl, rfl, rfl, by decide +kernel, rfl, by decide +kernel, by decide +kernel⟩
abbrev s_with_site : Stmt := topS 73
abbrev N_with_site : List Str := ["sites", "site", "other"]
theorem sc_with_site : FnScope N_with_site ["sites", "site"] (defScope s_with_site) := ⟨rfl, rfl, rfl, by decide +kernel, rfl, by decide +kernel, by decide +kernel⟩
abbrev s_Knowing_names_all : Stmt := methS 74 9
abbrev N_Knowing_names_all : List Str := ["self", "site", "other"]
theorem sc_Knowing_names_all : FnScope N_Knowing_names_all ["self", "site"] (defScope s_Knowing_names_all) := ⟨rfl, rfl, rfl, by decide +kernel, rfl, by decide +kernel, by decide +kernel⟩
abbrev s_Knowing_may_take : Stmt := methS 74 16
abbrev N_Knowing_may_take : List Str := ["self", "event", "heard", "left", "site"]
theorem sc_Knowing_may_take : FnScope N_Knowing_may_take ["self", "event", "heard"] (defScope s_Knowing_may_take) := ⟨rfl, rfl, rfl, by decide +kernel, rfl, by decide +kernel, by decide +kernel⟩
abbrev s_Site_check_writer : Stmt := methS 86 5
abbrev N_Site_check_writer : List Str := ["self"]
theorem sc_Site_check_writer : FnScope N_Site_check_writer ["self"] (defScope s_Site_check_writer) := ⟨rfl, rfl, rfl, by decide +kernel, rfl, by decide +kernel, by decide +kernel⟩
abbrev s_Site_check_place : Stmt := methS 86 6
abbrev N_Site_check_place : List Str := ["self", "op"]
theorem sc_Site_check_place : FnScope N_Site_check_place ["self", "op"] (defScope s_Site_check_place) := ⟨rfl, rfl, rfl, by decide +kernel, rfl, by decide +kernel, by decide +kernel⟩
abbrev s_Site_heard : Stmt := methS 86 16
abbrev N_Site_heard : List Str := ["self", "other"]
theorem sc_Site_heard : FnScope N_Site_heard ["self", "other"] (defScope s_Site_heard) := ⟨rfl, rfl, rfl, by decide +kernel, rfl, by decide +kernel, by decide +kernel⟩
abbrev s_Site_fresh : Stmt := methS 86 21
abbrev N_Site_fresh : List Str := ["self", "found"]
theorem sc_Site_fresh : FnScope N_Site_fresh ["self"] (defScope s_Site_fresh) := ⟨rfl, rfl, rfl, by decide +kernel, rfl, by decide +kernel, by decide +kernel⟩
abbrev s_law_row : Stmt := topS 89
abbrev N_law_row : List Str := ["_law_script", "_law_k", "_law_cell", "_law_first", "_law_second"]
theorem sc_law_row : FnScope N_law_row ["_law_script", "_law_k"] (defScope s_law_row) := ⟨rfl, rfl, rfl, by decide +kernel, rfl, by decide +kernel, by decide +kernel⟩
abbrev s_law_take : Stmt := topS 90
abbrev N_law_take : List Str := ["_law_box", "_law_size", "_law_digit"]
theorem sc_law_take : FnScope N_law_take ["_law_box", "_law_size"] (defScope s_law_take) := ⟨rfl, rfl, rfl, by decide +kernel, rfl, by decide +kernel, by decide +kernel⟩
abbrev s_law_news : Stmt := topS 92
abbrev N_law_news : List Str := ["_law_site", "_law_events", "_law_first"]
theorem sc_law_news : FnScope N_law_news ["_law_site", "_law_events", "_law_first"] (defScope s_law_news) := ⟨rfl, rfl, rfl, by decide +kernel, rfl, by decide +kernel, by decide +kernel⟩
abbrev s_Knowing___init__ : Stmt := methS 74 0
abbrev N_Knowing___init__ : List Str := ["self", "number", "size", "first"]
theorem sc_Knowing___init__ : FnScope N_Knowing___init__ ["self", "number", "size", "first"] (defScope s_Knowing___init__) := ⟨rfl, rfl, rfl, by decide +kernel, rfl, by decide +kernel, by decide +kernel⟩
abbrev s_Knowing_join_told : Stmt := methS 74 1
abbrev N_Knowing_join_told : List Str := ["self", "site", "vector"]
theorem sc_Knowing_join_told : FnScope N_Knowing_join_told ["self", "site", "vector"] (defScope s_Knowing_join_told) := ⟨rfl, rfl, rfl, by decide +kernel, rfl, by decide +kernel, by decide +kernel⟩
abbrev s_Knowing_wants_ack : Stmt := methS 74 15
abbrev N_Knowing_wants_ack : List Str := ["self"]
theorem sc_Knowing_wants_ack : FnScope N_Knowing_wants_ack ["self"] (defScope s_Knowing_wants_ack) := ⟨rfl, rfl, rfl, by decide +kernel, rfl, by decide +kernel, by decide +kernel⟩
abbrev s_Site_hear_of : Stmt := methS 86 2
abbrev N_Site_hear_of : List Str := ["self", "site", "vector"]
theorem sc_Site_hear_of : FnScope N_Site_hear_of ["self", "site", "vector"] (defScope s_Site_hear_of) := ⟨rfl, rfl, rfl, by decide +kernel, rfl, by decide +kernel, by decide +kernel⟩
abbrev s_Site_can_take : Stmt := methS 86 12
abbrev N_Site_can_take : List Str := ["self", "event", "vector"]
theorem sc_Site_can_take : FnScope N_Site_can_take ["self", "event"] (defScope s_Site_can_take) := ⟨rfl, rfl, rfl, by decide +kernel, rfl, by decide +kernel, by decide +kernel⟩
abbrev s_Site_let_wait : Stmt := methS 86 14
abbrev N_Site_let_wait : List Str := ["self", "event", "dot", "other"]
theorem sc_Site_let_wait : FnScope N_Site_let_wait ["self", "event"] (defScope s_Site_let_wait) := ⟨rfl, rfl, rfl, by decide +kernel, rfl, by decide +kernel, by decide +kernel⟩
abbrev s_Site_news_for : Stmt := methS 86 17
abbrev N_Site_news_for : List Str := ["self", "receiver", "known", "events", "event"]
theorem sc_Site_news_for : FnScope N_Site_news_for ["self", "receiver"] (defScope s_Site_news_for) := ⟨rfl, rfl, rfl, by decide +kernel, rfl, by decide +kernel, by decide +kernel⟩
abbrev s_law_op : Stmt := topS 91
abbrev N_law_op : List Str := ["_law_box", "_law_k"]
theorem sc_law_op : FnScope N_law_op ["_law_box", "_law_k"] (defScope s_law_op) := ⟨rfl, rfl, rfl, by decide +kernel, rfl, by decide +kernel, by decide +kernel⟩
abbrev s_Knowing_note : Stmt := methS 74 2
abbrev N_Knowing_note : List Str := ["self", "event", "dot", "word", "mark"]
theorem sc_Knowing_note : FnScope N_Knowing_note ["self", "event"] (defScope s_Knowing_note) := ⟨rfl, rfl, rfl, by decide +kernel, rfl, by decide +kernel, by decide +kernel⟩
abbrev s_Knowing_tell : Stmt := methS 74 10
abbrev N_Knowing_tell : List Str := ["self", "sender", "vector"]
theorem sc_Knowing_tell : FnScope N_Knowing_tell ["self", "sender", "vector"] (defScope s_Knowing_tell) := ⟨rfl, rfl, rfl, by decide +kernel, rfl, by decide +kernel, by decide +kernel⟩
abbrev s_Site_end_step : Stmt := methS 86 4
abbrev N_Site_end_step : List Str := ["self", "event"]
theorem sc_Site_end_step : FnScope N_Site_end_step ["self"] (defScope s_Site_end_step) := ⟨rfl, rfl, rfl, by decide +kernel, rfl, by decide +kernel, by decide +kernel⟩
abbrev s_Site___init__ : Stmt := methS 86 0
abbrev N_Site___init__ : List Str := ["self", "number", "size", "first"]
theorem sc_Site___init__ : FnScope N_Site___init__ ["self", "number", "size", "first"] (defScope s_Site___init__) := ⟨rfl, rfl, rfl, by decide +kernel, rfl, by decide +kernel, by decide +kernel⟩
abbrev s_Site_take : Stmt := methS 86 1
abbrev N_Site_take : List Str := ["self", "event", "mark"]
theorem sc_Site_take : FnScope N_Site_take ["self", "event"] (defScope s_Site_take) := ⟨rfl, rfl, rfl, by decide +kernel, rfl, by decide +kernel, by decide +kernel⟩
abbrev s_Site_make : Stmt := methS 86 3
abbrev N_Site_make : List Str := ["self", "op", "height", "event"]
theorem sc_Site_make : FnScope N_Site_make ["self", "op"] (defScope s_Site_make) := ⟨rfl, rfl, rfl, by decide +kernel, rfl, by decide +kernel, by decide +kernel⟩
abbrev s_Site_take_next : Stmt := methS 86 13
abbrev N_Site_take_next : List Str := ["self", "place", "event"]
theorem sc_Site_take_next : FnScope N_Site_take_next ["self"] (defScope s_Site_take_next) := ⟨rfl, rfl, rfl, by decide +kernel, rfl, by decide +kernel, by decide +kernel⟩
abbrev s_Site_write : Stmt := methS 86 7
abbrev N_Site_write : List Str := ["self", "op", "dot"]
theorem sc_Site_write : FnScope N_Site_write ["self", "op"] (defScope s_Site_write) := ⟨rfl, rfl, rfl, by decide +kernel, rfl, by decide +kernel, by decide +kernel⟩
abbrev s_Site_hear : Stmt := methS 86 15
abbrev N_Site_hear : List Str := ["self", "sender", "news", "event"]
theorem sc_Site_hear : FnScope N_Site_hear ["self", "sender", "news"] (defScope s_Site_hear) := ⟨rfl, rfl, rfl, by decide +kernel, rfl, by decide +kernel, by decide +kernel⟩
abbrev s_law : Stmt := topS 93
abbrev N_law : List Str := ["_law_script", "_law_box", "_law_sites", "_law_count", "_law_k", "_law_events", "_law_heard", "_law_known", "_law_turn", "_law_kind", "_law_news_here", "_law_j", "_law_behind", "_law_number"]
theorem sc_law : FnScope N_law ["_law_script"] (defScope s_law) := ⟨rfl, rfl, rfl, by decide +kernel, rfl, by decide +kernel, by decide +kernel⟩
section
variable {P : Program} {w : World} {K : PySem.W.Frag} {mg : Str → Option Value} {base : Heap}
theorem fa_knows (T : Txt K mg) (D : DefAt K mg "knows" s_knows ["vector", "dot"]) : FnAt P w K mg base 1 "knows" 2 d_knows :=
  FnAt.mk' (N := N_knows) D sc_knows fun f cdv A outer s H E hr =>
  psd_one (psd_ret (pd_cmp cd_le (pd_ix (pd_var 1) pd_int) (pd_ix (pd_var 0) (pd_ix (pd_var 1) pd_int))))
theorem fa_covers (T : Txt K mg) (D : DefAt K mg "covers" s_covers ["vector", "other"]) : FnAt P w K mg base 1 "covers" 2 d_covers :=
  FnAt.mk' (N := N_covers) D sc_covers fun f cdv A outer s H E hr =>
  psd_one (psd_ret (pd_all rfl T.n_all (pad_cons (pd_lc rfl sc_covers.nd (blkOk_by (own := [("one", 2), ("two", 3)]) (N := N_covers) (sc := defScope s_covers) (by decide +kernel)) rfl (pid_zip T.n_zip (pk_var 0) (pk_var 1)) (fun _ _ _ _ _ => pgd_tup2 2 3 rfl sc_covers.nd) (fun _ _ _ _ _ => ptsd_nil) (fun _ _ _ _ _ => pd_cmp cd_ge (pd_var 2) (pd_var 3))) pad_nil)))
theorem fa_joined (T : Txt K mg) (D : DefAt K mg "joined" s_joined ["vector", "other"]) : FnAt P w K mg base 1 "joined" 2 d_joined :=
  FnAt.mk' (N := N_joined) D sc_joined fun f cdv A outer s H E hr =>
  psd_one (psd_ret (pd_tuple T.n_tuple (pad_cons (pd_lc rfl sc_joined.nd (blkOk_by (own := [("one", 2), ("two", 3)]) (N := N_joined) (sc := defScope s_joined) (by decide +kernel)) rfl (pid_zip T.n_zip (pk_var 0) (pk_var 1)) (fun _ _ _ _ _ => pgd_tup2 2 3 rfl sc_joined.nd) (fun _ _ _ _ _ => ptsd_nil) (fun _ _ _ _ _ => pd_max rfl T.n_max (pad_cons (pd_var 2) (pad_cons (pd_var 3) pad_nil)))) pad_nil)))
theorem fa_raised (T : Txt K mg) (D : DefAt K mg "raised" s_raised ["vector", "dot"]) : FnAt P w K mg base 1 "raised" 2 d_raised :=
  FnAt.mk' (N := N_raised) D sc_raised fun f cdv A outer s H E hr =>
  psd_one (psd_ret (pd_add (pd_add (pd_sl (pd_var 0) pod_none (pod_some (pd_ix (pd_var 1) pd_int))) (pd_tup (pad_cons (pd_ix (pd_var 1) pd_int) pad_nil))) (pd_sl (pd_var 0) (pod_some (pd_add (pd_ix (pd_var 1) pd_int) pd_int)) pod_none)))
theorem fa_dot_of (T : Txt K mg) (D : DefAt K mg "dot_of" s_dot_of ["event"]) : FnAt P w K mg base 1 "dot_of" 1 d_dot_of :=
  FnAt.mk' (N := N_dot_of) D sc_dot_of fun f cdv A outer s H E hr =>
  psd_one (psd_ret (pd_sl (pd_var 0) pod_none (pod_some pd_int)))
theorem fa_Base___init__ {C_Base : Addr} (T : Txt K mg) (D : MakeDef K mg "Base" C_Base "Base.__init__" s_Base___init__ ["self"]) (Q_Base : ClF_Base K C_Base) : MakeAt P w K mg base 1 "Base" C_Base 1 (d_Base___init__ C_Base) :=
  MakeAt.mk' (N := N_Base___init__) D sc_Base___init__ fun f cdv A outer s H E hr =>
  psd_cons (psd_fld Q_Base.cl Q_Base.na_vector (pd_var 0) (pd_glob T.c_NO_VECTOR))
  (psd_cons (psd_fld Q_Base.cl Q_Base.na_height (pd_var 0) pd_int)
  (psd_cons (psd_fld Q_Base.cl Q_Base.na_registers (pd_var 0) pd_newK)
  (psd_cons (psd_fld Q_Base.cl Q_Base.na_counters (pd_var 0) pd_newK)
  (psd_cons (psd_fld Q_Base.cl Q_Base.na_sets (pd_var 0) pd_newK)
  (psd_one (psd_fld Q_Base.cl Q_Base.na_texts (pd_var 0) pd_newK))))))
theorem fa_with_site (T : Txt K mg) (D : DefAt K mg "with_site" s_with_site ["sites", "site"]) : FnAt P w K mg base 1 "with_site" 2 d_with_site :=
  FnAt.mk' (N := N_with_site) D sc_with_site fun f cdv A outer s H E hr =>
  psd_one (psd_ret (pd_tuple T.n_tuple (pad_cons (pd_sortc rfl (u90 hr) T.n_sorted sc_with_site.nd (blkOk_by (own := [("other", 2)]) (N := N_with_site) (sc := defScope s_with_site) (by decide +kernel)) rfl (pid_it (pk_e (pd_add (pd_var 0) (pd_tup (pad_cons (pd_var 1) pad_nil))))) (fun _ _ _ _ _ => pgd_name 2 sc_with_site.nd) (fun _ _ _ _ _ => ptsd_nil) (fun _ _ _ _ _ => pd_var 2)) pad_nil)))
theorem fa_Knowing_names_all {C_Knowing : Addr} (T : Txt K mg) (D : MethDef K C_Knowing "names_all" "Knowing.names_all" s_Knowing_names_all ["self", "site"]) (Q_Knowing : ClF_Knowing K C_Knowing) : MethAt P w K mg base 1 C_Knowing "names_all" 2 (d_Knowing_names_all C_Knowing) :=
  MethAt.mk' (N := N_Knowing_names_all) D sc_Knowing_names_all fun f cdv A outer s H E hr =>
  psd_one (psd_ret (pd_all rfl T.n_all (pad_cons (pd_lc rfl sc_Knowing_names_all.nd (blkOk_by (own := [("other", 2)]) (N := N_Knowing_names_all) (sc := defScope s_Knowing_names_all) (by decide +kernel)) rfl (pid_it (pk_e (pd_fld Q_Knowing.cl Q_Knowing.na_retiring (pd_var 0)))) (fun _ _ _ _ _ => pgd_name 2 sc_Knowing_names_all.nd) (fun _ _ _ _ _ => ptsd_nil) (fun _ _ _ _ _ => pd_cmp (cd_in (u65 hr)) (pd_var 2) (pd_ix (pd_fld Q_Knowing.cl Q_Knowing.na_acks (pd_var 0)) (pd_var 1)))) pad_nil)))
theorem fa_Knowing_may_take {C_Knowing : Addr} (T : Txt K mg) (D : MethDef K C_Knowing "may_take" "Knowing.may_take" s_Knowing_may_take ["self", "event", "heard"]) (Q_Knowing : ClF_Knowing K C_Knowing) : MethAt P w K mg base 1 C_Knowing "may_take" 3 (d_Knowing_may_take C_Knowing) :=
  MethAt.mk' (N := N_Knowing_may_take) D sc_Knowing_may_take fun f cdv A outer s H E hr =>
  psd_cons (psd_if (ptd_cmp (cd_notIn (u65 hr)) (pd_ix (pd_var 1) pd_int) (pd_fld Q_Knowing.cl Q_Knowing.na_retiring (pd_var 0))) (psd_one (psd_ret pd_bl)) psd_nil)
  (psd_cons psd_no
  (psd_one psd_no))
theorem fa_Site_check_writer {C_Knowing C_Site : Addr} (T : Txt K mg) (D : MethDef K C_Site "check_writer" "Site.check_writer" s_Site_check_writer ["self"]) (Q_Knowing : ClF_Knowing K C_Knowing) (Q_Site : ClF_Site K C_Site) : MethAt P w K mg base 1 C_Site "check_writer" 1 (d_Site_check_writer C_Knowing C_Site) :=
  MethAt.mk' (N := N_Site_check_writer) D sc_Site_check_writer fun f cdv A outer s H E hr =>
  psd_one (psd_if (ptd_cmp (cd_in (u65 hr)) (pd_fld Q_Site.cl Q_Site.na_number (pd_var 0)) (pd_fld Q_Knowing.cl Q_Knowing.na_retiring (pd_fld Q_Site.cl Q_Site.na_knowing (pd_var 0)))) (psd_one psd_no) psd_nil)
theorem fa_Site_check_place {C_Site : Addr} (T : Txt K mg) (D : MethDef K C_Site "check_place" "Site.check_place" s_Site_check_place ["self", "op"]) : MethAt P w K mg base 1 C_Site "check_place" 2 (d_Site_check_place C_Site) :=
  MethAt.mk' (N := N_Site_check_place) D sc_Site_check_place fun f cdv A outer s H E hr =>
  psd_cons (psd_if (PWd.pt (pwd_or (PWd.pt (pwd_and (ptd_cmp (cd_eq (u65 hr)) (pd_ix (pd_var 1) pd_int) pd_str) (pwd_and1 (ptd_cmp cd_is (pd_ix (pd_var 1) pd_int) pd_non)))) (pwd_or1 (ptd_cmp (cd_notIn (u65 hr)) (pd_ix (pd_var 1) pd_int) (pd_tup (pad_cons pd_str (pad_cons pd_str pad_nil))))))) (psd_one psd_retN) psd_nil)
  (psd_one (psd_if ptd_no (psd_one psd_no) psd_nil))
theorem fa_Site_heard {C_Site : Addr} (T : Txt K mg) (D : MethDef K C_Site "heard" "Site.heard" s_Site_heard ["self", "other"]) (Q_Site : ClF_Site K C_Site) : MethAt P w K mg base 1 C_Site "heard" 2 (d_Site_heard C_Site) :=
  MethAt.mk' (N := N_Site_heard) D sc_Site_heard fun f cdv A outer s H E hr =>
  psd_cons (psd_if (ptd_cmp (cd_eq (u65 hr)) (pd_var 1) (pd_fld Q_Site.cl Q_Site.na_number (pd_var 0))) (psd_one (psd_ret (pd_fld Q_Site.cl Q_Site.na_vector (pd_var 0)))) psd_nil)
  (psd_one (psd_ret (pd_ix (pd_fld Q_Site.cl Q_Site.na_heard_vectors (pd_var 0)) (pd_var 1))))
theorem fa_Site_fresh {C_Site : Addr} (T : Txt K mg) (D : MethDef K C_Site "fresh" "Site.fresh" s_Site_fresh ["self"]) (Q_Site : ClF_Site K C_Site) : MethAt P w K mg base 1 C_Site "fresh" 1 (d_Site_fresh C_Site) :=
  MethAt.mk' (N := N_Site_fresh) D sc_Site_fresh fun f cdv A outer s H E hr =>
  psd_cons (psd_set 1 (pd_fld Q_Site.cl Q_Site.na_new_events (pd_var 0)) sc_Site_fresh.nd)
  (psd_cons (psd_fld Q_Site.cl Q_Site.na_new_events (pd_var 0) (pd_alloc (pd_lst pad_nil)))
  (psd_one (psd_retV 1)))
theorem fa_law_row (T : Txt K mg) (D : DefAt K mg "_law_row" s_law_row ["_law_script", "_law_k"]) : FnAt P w K mg base 1 "_law_row" 2 d_law_row :=
  FnAt.mk' (N := N_law_row) D sc_law_row fun f cdv A outer s H E hr =>
  psd_cons (psd_set 2 pd_int sc_law_row.nd)
  (psd_cons (psd_if (ptd_cmp cd_gt (pd_len T.n_len (pad_cons (pd_var 0) pad_nil)) pd_int) (psd_one (psd_set 2 (pd_ix (pd_var 0) (pd_mod (pd_int1 T.n_int (pad_cons (pd_var 1) pad_nil)) (pd_len T.n_len (pad_cons (pd_var 0) pad_nil)))) sc_law_row.nd)) psd_nil)
  (psd_cons (psd_if (ptd_cmp cd_lt (pd_var 2) pd_int) (psd_one (psd_set 2 (pd_sub pd_int (pd_mulX pd_int (pd_var 2))) sc_law_row.nd)) psd_nil)
  (psd_cons (psd_if (PWd.pt (pwd_and (ptd_cmp cd_ge (pd_var 2) (pd_pow pd_int pd_int)) (pwd_and1 (ptd_cmp cd_lt (pd_var 1) (pd_len T.n_len (pad_cons (pd_var 0) pad_nil)))))) (psd_one (psd_retV 2)) psd_nil)
  (psd_cons (psd_set 3 (pd_mod (pd_int1 T.n_int (pad_cons (pd_add (pd_add (pd_mulX (pd_var 2) pd_int) (pd_mulX (pd_add (pd_var 1) pd_int) pd_int)) (pd_len T.n_len (pad_cons (pd_var 0) pad_nil))) pad_nil)) pd_int) sc_law_row.nd)
  (psd_cons (psd_set 4 (pd_mod (pd_int1 T.n_int (pad_cons (pd_add (pd_add (pd_mulX (pd_var 3) (pd_var 3)) (pd_mulX (pd_var 2) pd_int)) (pd_var 1)) pad_nil)) pd_int) sc_law_row.nd)
  (psd_one (psd_ret (pd_add (pd_mulX (pd_var 4) pd_int) (pd_mod (pd_int1 T.n_int (pad_cons (pd_mulX (pd_var 3) pd_int) pad_nil)) pd_int)))))))))
theorem fa_law_take (T : Txt K mg) (D : DefAt K mg "_law_take" s_law_take ["_law_box", "_law_size"]) : FnAt P w K mg base 1 "_law_take" 2 d_law_take :=
  FnAt.mk' (N := N_law_take) D sc_law_take fun f cdv A outer s H E hr =>
  psd_cons (psd_set 2 (pd_mod (pd_int1 T.n_int (pad_cons (pd_ix (pd_var 0) pd_int) pad_nil)) (pd_var 1)) sc_law_take.nd)
  (psd_cons (psd_setE (pd_var 0) pd_int (pd_fdiv (pd_ix (pd_var 0) pd_int) (pd_var 1)))
  (psd_one (psd_retV 2)))
theorem fa_law_news {C_Site : Addr} (T : Txt K mg) (D : DefAt K mg "_law_news" s_law_news ["_law_site", "_law_events", "_law_first"]) (Q_Site : ClF_Site K C_Site) : FnAt P w K mg base 1 "_law_news" 3 (d_law_news C_Site) :=
  FnAt.mk' (N := N_law_news) D sc_law_news fun f cdv A outer s H E hr =>
  psd_one (psd_ret (pd_tup (pad_cons pd_str (pad_cons (pd_fld Q_Site.cl Q_Site.na_vector (pd_var 0)) (pad_cons (pd_tuple T.n_tuple (pad_cons (pd_sl (pd_var 1) (pod_some (pd_var 2)) (pod_some (pd_add (pd_var 2) pd_int))) pad_nil)) pad_nil)))))
theorem fa_Knowing___init__ {C_Knowing : Addr} (T : Txt K mg) (D : MakeDef K mg "Knowing" C_Knowing "Knowing.__init__" s_Knowing___init__ ["self", "number", "size", "first"]) (Q_Knowing : ClF_Knowing K C_Knowing) (F_with_site : FnAt P w K mg base 1 "with_site" 2 d_with_site) : MakeAt P w K mg base 2 "Knowing" C_Knowing 4 (d_Knowing___init__ C_Knowing) :=
  MakeAt.mk' (N := N_Knowing___init__) D sc_Knowing___init__ fun f cdv A outer s H E hr =>
  psd_cons (psd_fld Q_Knowing.cl Q_Knowing.na_number (pd_var 0) (pd_var 1))
  (psd_cons (psd_fld Q_Knowing.cl Q_Knowing.na_size (pd_var 0) (pd_var 2))
  (psd_cons (psd_fld Q_Knowing.cl Q_Knowing.na_present (pd_var 0) (pd_callF F_with_site hr (by decide) (pad_cons (pd_var 3) (pad_cons (pd_var 1) pad_nil))))
  (psd_cons (psd_fld Q_Knowing.cl Q_Knowing.na_coming (pd_var 0) pd_newK)
  (psd_cons (psd_fld Q_Knowing.cl Q_Knowing.na_told (pd_var 0) (pd_alloc (pd_mulX (pd_lst (pad_cons (pd_glob T.c_NO_VECTOR) pad_nil)) (pd_var 2))))
  (psd_cons (psd_fld Q_Knowing.cl Q_Knowing.na_retiring (pd_var 0) (pd_tup pad_nil))
  (psd_cons (psd_fld Q_Knowing.cl Q_Knowing.na_over (pd_var 0) (pd_tup pad_nil))
  (psd_cons (psd_fld Q_Knowing.cl Q_Knowing.na_acks (pd_var 0) (pd_alloc (pd_mulX (pd_lst (pad_cons (pd_tup pad_nil) pad_nil)) (pd_var 2))))
  (psd_one (psd_fld Q_Knowing.cl Q_Knowing.na_absent (pd_var 0) (pd_alloc (pd_mulX (pd_lst (pad_cons (pd_tup pad_nil) pad_nil)) (pd_var 2))))))))))))
theorem fa_Knowing_join_told {C_Knowing : Addr} (T : Txt K mg) (D : MethDef K C_Knowing "join_told" "Knowing.join_told" s_Knowing_join_told ["self", "site", "vector"]) (Q_Knowing : ClF_Knowing K C_Knowing) (F_joined : FnAt P w K mg base 1 "joined" 2 d_joined) : MethAt P w K mg base 2 C_Knowing "join_told" 3 (d_Knowing_join_told C_Knowing) :=
  MethAt.mk' (N := N_Knowing_join_told) D sc_Knowing_join_told fun f cdv A outer s H E hr =>
  psd_one (psd_setE (pd_fld Q_Knowing.cl Q_Knowing.na_told (pd_var 0)) (pd_var 1) (pd_callF F_joined hr (by decide) (pad_cons (pd_ix (pd_fld Q_Knowing.cl Q_Knowing.na_told (pd_var 0)) (pd_var 1)) (pad_cons (pd_var 2) pad_nil))))
theorem fa_Knowing_wants_ack {C_Knowing : Addr} (T : Txt K mg) (D : MethDef K C_Knowing "wants_ack" "Knowing.wants_ack" s_Knowing_wants_ack ["self"]) (Q_Knowing : ClF_Knowing K C_Knowing) (F_Knowing_names_all : MethAt P w K mg base 1 C_Knowing "names_all" 2 (d_Knowing_names_all C_Knowing)) : MethAt P w K mg base 2 C_Knowing "wants_ack" 1 (d_Knowing_wants_ack C_Knowing) :=
  MethAt.mk' (N := N_Knowing_wants_ack) D sc_Knowing_wants_ack fun f cdv A outer s H E hr =>
  psd_one (psd_ret (pd_and (pd_cmp (cd_notIn (u65 hr)) (pd_fld Q_Knowing.cl Q_Knowing.na_number (pd_var 0)) (pd_fld Q_Knowing.cl Q_Knowing.na_retiring (pd_var 0))) (pd_one (pd_not (pd_meth Q_Knowing.cl F_Knowing_names_all hr (by decide) (pd_var 0) (pad_cons (pd_fld Q_Knowing.cl Q_Knowing.na_number (pd_var 0)) pad_nil))))))
theorem fa_Site_hear_of {C_Site : Addr} (T : Txt K mg) (D : MethDef K C_Site "hear_of" "Site.hear_of" s_Site_hear_of ["self", "site", "vector"]) (Q_Site : ClF_Site K C_Site) (F_joined : FnAt P w K mg base 1 "joined" 2 d_joined) : MethAt P w K mg base 2 C_Site "hear_of" 3 (d_Site_hear_of C_Site) :=
  MethAt.mk' (N := N_Site_hear_of) D sc_Site_hear_of fun f cdv A outer s H E hr =>
  psd_one (psd_setE (pd_fld Q_Site.cl Q_Site.na_heard_vectors (pd_var 0)) (pd_var 1) (pd_callF F_joined hr (by decide) (pad_cons (pd_ix (pd_fld Q_Site.cl Q_Site.na_heard_vectors (pd_var 0)) (pd_var 1)) (pad_cons (pd_var 2) pad_nil))))
theorem fa_Site_can_take {C_Knowing C_Site : Addr} (T : Txt K mg) (D : MethDef K C_Site "can_take" "Site.can_take" s_Site_can_take ["self", "event"]) (Q_Knowing : ClF_Knowing K C_Knowing) (Q_Site : ClF_Site K C_Site) (F_covers : FnAt P w K mg base 1 "covers" 2 d_covers) (F_Knowing_may_take : MethAt P w K mg base 1 C_Knowing "may_take" 3 (d_Knowing_may_take C_Knowing)) : MethAt P w K mg base 2 C_Site "can_take" 2 (d_Site_can_take C_Knowing C_Site) :=
  MethAt.mk' (N := N_Site_can_take) D sc_Site_can_take fun f cdv A outer s H E hr =>
  psd_cons (psd_set 2 (pd_fld Q_Site.cl Q_Site.na_vector (pd_var 0)) sc_Site_can_take.nd)
  (psd_cons (psd_if (PWd.pt (pwd_or (ptd_cmp (cd_ne (u65 hr)) (pd_ix (pd_var 1) pd_int) (pd_add (pd_ix (pd_var 2) (pd_ix (pd_var 1) pd_int)) pd_int)) (pwd_or1 (ptd_not (ptd_tru (pd_callF F_covers hr (by decide) (pad_cons (pd_var 2) (pad_cons (pd_ix (pd_var 1) pd_int) pad_nil)))))))) (psd_one (psd_ret pd_bl)) psd_nil)
  (psd_one (psd_ret (pd_meth Q_Knowing.cl F_Knowing_may_take hr (by decide) (pd_fld Q_Site.cl Q_Site.na_knowing (pd_var 0)) (pad_cons (pd_var 1) (pad_cons (pd_fld Q_Site.cl Q_Site.na_heard_vectors (pd_var 0)) pad_nil))))))
theorem fa_Site_let_wait {C_Knowing C_Site : Addr} (T : Txt K mg) (D : MethDef K C_Site "let_wait" "Site.let_wait" s_Site_let_wait ["self", "event"]) (Q_Knowing : ClF_Knowing K C_Knowing) (Q_Site : ClF_Site K C_Site) (F_knows : FnAt P w K mg base 1 "knows" 2 d_knows) (F_dot_of : FnAt P w K mg base 1 "dot_of" 1 d_dot_of) : MethAt P w K mg base 2 C_Site "let_wait" 2 (d_Site_let_wait C_Knowing C_Site) :=
  MethAt.mk' (N := N_Site_let_wait) D sc_Site_let_wait fun f cdv A outer s H E hr =>
  psd_cons (psd_set 2 (pd_callF F_dot_of hr (by decide) (pad_cons (pd_var 1) pad_nil)) sc_Site_let_wait.nd)
  (psd_cons (psd_if (PWd.pt (pwd_or (ptd_tru (pd_callF F_knows hr (by decide) (pad_cons (pd_fld Q_Site.cl Q_Site.na_vector (pd_var 0)) (pad_cons (pd_var 2) pad_nil)))) (pwd_or1 (ptd_cmp (cd_in (u65 hr)) (pd_ix (pd_var 1) pd_int) (pd_fld Q_Knowing.cl Q_Knowing.na_over (pd_fld Q_Site.cl Q_Site.na_knowing (pd_var 0))))))) (psd_one psd_retN) psd_nil)
  (psd_one (psd_if (ptd_cmp (cd_notIn (u65 hr)) (pd_var 2) (pd_lc rfl sc_Site_let_wait.nd (blkOk_by (own := [("other", 3)]) (N := N_Site_let_wait) (sc := defScope s_Site_let_wait) (by decide +kernel)) rfl (pid_it (pk_e (pd_fld Q_Site.cl Q_Site.na_waiting (pd_var 0)))) (fun _ _ _ _ _ => pgd_name 3 sc_Site_let_wait.nd) (fun _ _ _ _ _ => ptsd_nil) (fun _ _ _ _ _ => pd_callF F_dot_of hr (by decide) (pad_cons (pd_var 3) pad_nil)))) (psd_one (psd_appE (pd_fld Q_Site.cl Q_Site.na_waiting (pd_var 0)) (pd_var 1))) psd_nil)))
theorem fa_Site_news_for {C_Site : Addr} (T : Txt K mg) (D : MethDef K C_Site "news_for" "Site.news_for" s_Site_news_for ["self", "receiver"]) (Q_Site : ClF_Site K C_Site) (F_knows : FnAt P w K mg base 1 "knows" 2 d_knows) (F_dot_of : FnAt P w K mg base 1 "dot_of" 1 d_dot_of) (F_Site_heard : MethAt P w K mg base 1 C_Site "heard" 2 (d_Site_heard C_Site)) : MethAt P w K mg base 2 C_Site "news_for" 2 (d_Site_news_for C_Site) :=
  MethAt.mk' (N := N_Site_news_for) D sc_Site_news_for fun f cdv A outer s H E hr =>
  psd_cons (psd_set 2 (pd_meth Q_Site.cl F_Site_heard hr (by decide) (pd_var 0) (pad_cons (pd_var 1) pad_nil)) sc_Site_news_for.nd)
  (psd_cons (psd_setLc 3 rfl sc_Site_news_for.nd (blkOk_by (own := [("event", 4)]) (N := N_Site_news_for) (sc := defScope s_Site_news_for) (by decide +kernel)) rfl (sw_true rfl rfl rfl (by decide +kernel)) (pid_it (pk_e (pd_fld Q_Site.cl Q_Site.na_held (pd_var 0)))) (fun _ _ _ _ _ => pgd_name 4 sc_Site_news_for.nd) (fun _ _ _ _ _ => ptsd_one (ptd_not (ptd_tru (pd_callF F_knows hr (by decide) (pad_cons (pd_var 2) (pad_cons (pd_callF F_dot_of hr (by decide) (pad_cons (pd_var 4) pad_nil)) pad_nil)))))) (fun _ _ _ _ _ => pd_var 4))
  (psd_one (psd_ret (pd_tup (pad_cons pd_str (pad_cons (pd_fld Q_Site.cl Q_Site.na_vector (pd_var 0)) (pad_cons (pd_tuple T.n_tuple (pad_cons (pd_sl (pd_var 3) pod_none (pod_some (pd_glob T.c_MOST_NEWS))) pad_nil)) pad_nil)))))))
theorem fa_law_op (T : Txt K mg) (D : DefAt K mg "_law_op" s_law_op ["_law_box", "_law_k"]) (F_law_take : FnAt P w K mg base 1 "_law_take" 2 d_law_take) : FnAt P w K mg base 2 "_law_op" 2 d_law_op :=
  FnAt.mk' (N := N_law_op) D sc_law_op fun f cdv A outer s H E hr =>
  psd_one (psd_ret (pd_ix (pd_lst (pad_cons (pd_tup (pad_cons pd_str (pad_cons pd_str (pad_cons (pd_add pd_int (pd_callF F_law_take hr (by decide) (pad_cons (pd_var 0) (pad_cons pd_int pad_nil)))) pad_nil)))) (pad_cons (pd_tup (pad_cons pd_str (pad_cons pd_str (pad_cons (pd_var 1) pad_nil)))) (pad_cons (pd_tup (pad_cons pd_str (pad_cons pd_str (pad_cons pd_non (pad_cons (pd_ix pd_str (pd_mod (pd_var 1) pd_int)) pad_nil))))) pad_nil)))) (pd_callF F_law_take hr (by decide) (pad_cons (pd_var 0) (pad_cons pd_int pad_nil)))))
theorem fa_Knowing_note {C_Knowing : Addr} (T : Txt K mg) (D : MethDef K C_Knowing "note" "Knowing.note" s_Knowing_note ["self", "event"]) (Q_Knowing : ClF_Knowing K C_Knowing) (F_raised : FnAt P w K mg base 1 "raised" 2 d_raised) (F_dot_of : FnAt P w K mg base 1 "dot_of" 1 d_dot_of) (F_Knowing_join_told : MethAt P w K mg base 2 C_Knowing "join_told" 3 (d_Knowing_join_told C_Knowing)) : MethAt P w K mg base 3 C_Knowing "note" 2 (d_Knowing_note C_Knowing) :=
  MethAt.mk' (N := N_Knowing_note) D sc_Knowing_note fun f cdv A outer s H E hr =>
  psd_cons (psd_set 2 (pd_callF F_dot_of hr (by decide) (pad_cons (pd_var 1) pad_nil)) sc_Knowing_note.nd)
  (psd_cons (psd_set 3 (pd_ix (pd_ix (pd_var 1) pd_int) pd_int) sc_Knowing_note.nd)
  (psd_cons (psd_if (ptd_cmp (cd_eq (u65 hr)) (pd_var 3) (pd_glob T.c_ADMIT)) (psd_one psd_no) psd_nil)
  (psd_cons (psd_set 4 (pd_callF F_raised hr (by decide) (pad_cons (pd_ix (pd_var 1) pd_int) (pad_cons (pd_var 2) pad_nil))) sc_Knowing_note.nd)
  (psd_cons (psd_expr (pd_meth Q_Knowing.cl F_Knowing_join_told hr (by decide) (pd_var 0) (pad_cons (pd_ix (pd_var 2) pd_int) (pad_cons (pd_var 4) pad_nil))))
  (psd_cons (psd_expr (pd_meth Q_Knowing.cl F_Knowing_join_told hr (by decide) (pd_var 0) (pad_cons (pd_fld Q_Knowing.cl Q_Knowing.na_number (pd_var 0)) (pad_cons (pd_callF F_raised hr (by decide) (pad_cons (pd_glob T.c_NO_VECTOR) (pad_cons (pd_var 2) pad_nil))) pad_nil))))
  (psd_cons (psd_if (ptd_cmp (cd_eq (u65 hr)) (pd_var 3) (pd_glob T.c_BEGIN)) (psd_one psd_no) psd_nil)
  (psd_cons (psd_if (ptd_cmp (cd_eq (u65 hr)) (pd_var 3) (pd_glob T.c_RETIRE)) (psd_one psd_no) psd_nil)
  (psd_one (psd_if (ptd_cmp (cd_eq (u65 hr)) (pd_var 3) (pd_glob T.c_ACK)) (psd_cons psd_no
  (psd_one psd_no)) psd_nil)))))))))
theorem fa_Knowing_tell {C_Knowing : Addr} (T : Txt K mg) (D : MethDef K C_Knowing "tell" "Knowing.tell" s_Knowing_tell ["self", "sender", "vector"]) (Q_Knowing : ClF_Knowing K C_Knowing) (F_Knowing_join_told : MethAt P w K mg base 2 C_Knowing "join_told" 3 (d_Knowing_join_told C_Knowing)) : MethAt P w K mg base 3 C_Knowing "tell" 3 (d_Knowing_tell C_Knowing) :=
  MethAt.mk' (N := N_Knowing_tell) D sc_Knowing_tell fun f cdv A outer s H E hr =>
  psd_one (psd_if (ptd_cmp cd_le (pd_ix (pd_var 2) (pd_var 1)) (pd_ix (pd_ix (pd_fld Q_Knowing.cl Q_Knowing.na_told (pd_var 0)) (pd_fld Q_Knowing.cl Q_Knowing.na_number (pd_var 0))) (pd_var 1))) (psd_one (psd_expr (pd_meth Q_Knowing.cl F_Knowing_join_told hr (by decide) (pd_var 0) (pad_cons (pd_var 1) (pad_cons (pd_var 2) pad_nil))))) psd_nil)
theorem fa_Site_end_step {C_Knowing C_Site : Addr} (T : Txt K mg) (D : MethDef K C_Site "end_step" "Site.end_step" s_Site_end_step ["self"]) (Q_Knowing : ClF_Knowing K C_Knowing) (Q_Site : ClF_Site K C_Site) (F_Knowing_wants_ack : MethAt P w K mg base 2 C_Knowing "wants_ack" 1 (d_Knowing_wants_ack C_Knowing)) : MethAt P w K mg base 3 C_Site "end_step" 1 (d_Site_end_step C_Knowing C_Site) :=
  MethAt.mk' (N := N_Site_end_step) D sc_Site_end_step fun f cdv A outer s H E hr =>
  psd_cons (psd_if (ptd_tru (pd_meth0 Q_Knowing.cl F_Knowing_wants_ack hr (by decide) (pd_fld Q_Site.cl Q_Site.na_knowing (pd_var 0)))) (psd_one psd_no) psd_nil)
  (psd_one (psd_fld Q_Site.cl Q_Site.na_waiting (pd_var 0) (pd_alloc (pd_lc rfl sc_Site_end_step.nd (blkOk_by (own := [("event", 1)]) (N := N_Site_end_step) (sc := defScope s_Site_end_step) (by decide +kernel)) rfl (pid_it (pk_e (pd_fld Q_Site.cl Q_Site.na_waiting (pd_var 0)))) (fun _ _ _ _ _ => pgd_name 1 sc_Site_end_step.nd) (fun _ _ _ _ _ => ptsd_one (ptd_cmp (cd_notIn (u65 hr)) (pd_ix (pd_var 1) pd_int) (pd_fld Q_Knowing.cl Q_Knowing.na_over (pd_fld Q_Site.cl Q_Site.na_knowing (pd_var 0))))) (fun _ _ _ _ _ => pd_var 1)))))
theorem fa_Site___init__ {C_Base C_Knowing C_Site : Addr} (T : Txt K mg) (D : MakeDef K mg "Site" C_Site "Site.__init__" s_Site___init__ ["self", "number", "size", "first"]) (Q_Site : ClF_Site K C_Site) (F_Base___init__ : MakeAt P w K mg base 1 "Base" C_Base 1 (d_Base___init__ C_Base)) (F_Knowing___init__ : MakeAt P w K mg base 2 "Knowing" C_Knowing 4 (d_Knowing___init__ C_Knowing)) : MakeAt P w K mg base 4 "Site" C_Site 4 (d_Site___init__ C_Base C_Knowing C_Site) :=
  MakeAt.mk' (N := N_Site___init__) D sc_Site___init__ fun f cdv A outer s H E hr =>
  psd_cons (psd_fld Q_Site.cl Q_Site.na_number (pd_var 0) (pd_var 1))
  (psd_cons (psd_fld Q_Site.cl Q_Site.na_size (pd_var 0) (pd_var 2))
  (psd_cons (psd_fld Q_Site.cl Q_Site.na_vector (pd_var 0) (pd_glob T.c_NO_VECTOR))
  (psd_cons (psd_fld Q_Site.cl Q_Site.na_base (pd_var 0) (pd_make0 F_Base___init__ hr (by decide)))
  (psd_cons (psd_fld Q_Site.cl Q_Site.na_held (pd_var 0) (pd_alloc (pd_lst pad_nil)))
  (psd_cons (psd_fld Q_Site.cl Q_Site.na_waiting (pd_var 0) (pd_alloc (pd_lst pad_nil)))
  (psd_cons (psd_fld Q_Site.cl Q_Site.na_knowing (pd_var 0) (pd_make F_Knowing___init__ hr (by decide) (pad_cons (pd_var 1) (pad_cons (pd_var 2) (pad_cons (pd_var 3) pad_nil)))))
  (psd_cons (psd_fld Q_Site.cl Q_Site.na_heard_vectors (pd_var 0) (pd_alloc (pd_mulX (pd_lst (pad_cons (pd_glob T.c_NO_VECTOR) pad_nil)) (pd_var 2))))
  (psd_one (psd_fld Q_Site.cl Q_Site.na_new_events (pd_var 0) (pd_alloc (pd_lst pad_nil)))))))))))
theorem fa_Site_take {C_Knowing C_Site : Addr} (T : Txt K mg) (D : MethDef K C_Site "take" "Site.take" s_Site_take ["self", "event"]) (Q_Knowing : ClF_Knowing K C_Knowing) (Q_Site : ClF_Site K C_Site) (F_raised : FnAt P w K mg base 1 "raised" 2 d_raised) (F_dot_of : FnAt P w K mg base 1 "dot_of" 1 d_dot_of) (F_Knowing_note : MethAt P w K mg base 3 C_Knowing "note" 2 (d_Knowing_note C_Knowing)) (F_Site_hear_of : MethAt P w K mg base 2 C_Site "hear_of" 3 (d_Site_hear_of C_Site)) : MethAt P w K mg base 4 C_Site "take" 2 (d_Site_take C_Knowing C_Site) :=
  MethAt.mk' (N := N_Site_take) D sc_Site_take fun f cdv A outer s H E hr =>
  psd_cons (psd_appE (pd_fld Q_Site.cl Q_Site.na_held (pd_var 0)) (pd_var 1))
  (psd_cons (psd_expr (pd_meth Q_Knowing.cl F_Knowing_note hr (by decide) (pd_fld Q_Site.cl Q_Site.na_knowing (pd_var 0)) (pad_cons (pd_var 1) pad_nil)))
  (psd_cons (psd_fld Q_Site.cl Q_Site.na_vector (pd_var 0) (pd_ix (pd_fld Q_Knowing.cl Q_Knowing.na_told (pd_fld Q_Site.cl Q_Site.na_knowing (pd_var 0))) (pd_fld Q_Site.cl Q_Site.na_number (pd_var 0))))
  (psd_cons (psd_set 2 (pd_callF F_raised hr (by decide) (pad_cons (pd_ix (pd_var 1) pd_int) (pad_cons (pd_callF F_dot_of hr (by decide) (pad_cons (pd_var 1) pad_nil)) pad_nil))) sc_Site_take.nd)
  (psd_cons (psd_expr (pd_meth Q_Site.cl F_Site_hear_of hr (by decide) (pd_var 0) (pad_cons (pd_ix (pd_var 1) pd_int) (pad_cons (pd_var 2) pad_nil))))
  (psd_cons (psd_if (ptd_cmp (cd_eq (u65 hr)) (pd_ix (pd_ix (pd_var 1) pd_int) pd_int) (pd_glob T.c_BEGIN)) (psd_one psd_no) psd_nil)
  (psd_one (psd_setE (pd_fld Q_Site.cl Q_Site.na_heard_vectors (pd_var 0)) (pd_fld Q_Site.cl Q_Site.na_number (pd_var 0)) (pd_fld Q_Site.cl Q_Site.na_vector (pd_var 0)))))))))
theorem fa_Site_make {C_Base C_Knowing C_Site : Addr} (T : Txt K mg) (D : MethDef K C_Site "make" "Site.make" s_Site_make ["self", "op"]) (Q_Base : ClF_Base K C_Base) (Q_Site : ClF_Site K C_Site) (F_dot_of : FnAt P w K mg base 1 "dot_of" 1 d_dot_of) (F_Site_take : MethAt P w K mg base 4 C_Site "take" 2 (d_Site_take C_Knowing C_Site)) : MethAt P w K mg base 5 C_Site "make" 2 (d_Site_make C_Base C_Knowing C_Site) :=
  MethAt.mk' (N := N_Site_make) D sc_Site_make fun f cdv A outer s H E hr =>
  psd_cons (psd_set 2 (pd_add pd_int (pd_max rfl T.n_max (pad_cons (pd_add (pd_lst (pad_cons (pd_fld Q_Base.cl Q_Base.na_height (pd_fld Q_Site.cl Q_Site.na_base (pd_var 0))) pad_nil)) (pd_lc rfl sc_Site_make.nd (blkOk_by (own := [("event", 3)]) (N := N_Site_make) (sc := defScope s_Site_make) (by decide +kernel)) rfl (pid_it (pk_e (pd_fld Q_Site.cl Q_Site.na_held (pd_var 0)))) (fun _ _ _ _ _ => pgd_name 3 sc_Site_make.nd) (fun _ _ _ _ _ => ptsd_nil) (fun _ _ _ _ _ => pd_ix (pd_var 3) pd_int))) pad_nil))) sc_Site_make.nd)
  (psd_cons (psd_frz 2 (psd_set 3 (pd_tup (pad_cons (pd_fld Q_Site.cl Q_Site.na_number (pd_var 0)) (pad_cons (pd_add (pd_ix (pd_fld Q_Site.cl Q_Site.na_vector (pd_var 0)) (pd_fld Q_Site.cl Q_Site.na_number (pd_var 0))) pd_int) (pad_cons (pd_fld Q_Site.cl Q_Site.na_vector (pd_var 0)) (pad_cons (pd_var 2) (pad_cons (pd_var 1) pad_nil)))))) sc_Site_make.nd))
  (psd_cons (psd_expr (pd_meth Q_Site.cl F_Site_take hr (by decide) (pd_var 0) (pad_cons (pd_var 3) pad_nil)))
  (psd_cons (psd_frz 3 (psd_appE (pd_fld Q_Site.cl Q_Site.na_new_events (pd_var 0)) (pd_var 3)))
  (psd_one (psd_ret (pd_callF F_dot_of hr (by decide) (pad_cons (pd_var 3) pad_nil)))))))
theorem fa_Site_take_next {C_Knowing C_Site : Addr} (T : Txt K mg) (D : MethDef K C_Site "take_next" "Site.take_next" s_Site_take_next ["self"]) (Q_Site : ClF_Site K C_Site) (F_Site_take : MethAt P w K mg base 4 C_Site "take" 2 (d_Site_take C_Knowing C_Site)) (F_Site_can_take : MethAt P w K mg base 2 C_Site "can_take" 2 (d_Site_can_take C_Knowing C_Site)) : MethAt P w K mg base 5 C_Site "take_next" 1 (d_Site_take_next C_Knowing C_Site) :=
  MethAt.mk' (N := N_Site_take_next) D sc_Site_take_next fun f cdv A outer s H E hr =>
  psd_cons (psd_for PassesOwn.never rfl (pid_enum T.n_enumerate (pk_e (pd_fld Q_Site.cl Q_Site.na_waiting (pd_var 0)))) (pgd_tup2 1 2 rfl sc_Site_take_next.nd) (psd_one (psd_if (ptd_tru (pd_meth Q_Site.cl F_Site_can_take hr (by decide) (pd_var 0) (pad_cons (pd_var 2) pad_nil))) (psd_cons (psd_fld Q_Site.cl Q_Site.na_waiting (pd_var 0) (pd_alloc (pd_add (pd_sl (pd_fld Q_Site.cl Q_Site.na_waiting (pd_var 0)) pod_none (pod_some (pd_var 1))) (pd_sl (pd_fld Q_Site.cl Q_Site.na_waiting (pd_var 0)) (pod_some (pd_add (pd_var 1) pd_int)) pod_none))))
  (psd_cons (psd_expr (pd_meth Q_Site.cl F_Site_take hr (by decide) (pd_var 0) (pad_cons (pd_var 2) pad_nil)))
  (psd_cons (psd_frz 2 (psd_appE (pd_fld Q_Site.cl Q_Site.na_new_events (pd_var 0)) (pd_var 2)))
  (psd_one (psd_ret pd_bl))))) psd_nil)))
  (psd_one (psd_ret pd_bl))
theorem fa_Site_write {C_Base C_Knowing C_Site : Addr} (T : Txt K mg) (D : MethDef K C_Site "write" "Site.write" s_Site_write ["self", "op"]) (Q_Site : ClF_Site K C_Site) (F_Site_make : MethAt P w K mg base 5 C_Site "make" 2 (d_Site_make C_Base C_Knowing C_Site)) (F_Site_end_step : MethAt P w K mg base 3 C_Site "end_step" 1 (d_Site_end_step C_Knowing C_Site)) (F_Site_check_writer : MethAt P w K mg base 1 C_Site "check_writer" 1 (d_Site_check_writer C_Knowing C_Site)) (F_Site_check_place : MethAt P w K mg base 1 C_Site "check_place" 2 (d_Site_check_place C_Site)) : MethAt P w K mg base 6 C_Site "write" 2 (d_Site_write C_Base C_Knowing C_Site) :=
  MethAt.mk' (N := N_Site_write) D sc_Site_write fun f cdv A outer s H E hr =>
  psd_cons (psd_expr (pd_meth0 Q_Site.cl F_Site_check_writer hr (by decide) (pd_var 0)))
  (psd_cons (psd_expr (pd_meth Q_Site.cl F_Site_check_place hr (by decide) (pd_var 0) (pad_cons (pd_var 1) pad_nil)))
  (psd_cons (psd_set 2 (pd_meth Q_Site.cl F_Site_make hr (by decide) (pd_var 0) (pad_cons (pd_var 1) pad_nil)) sc_Site_write.nd)
  (psd_cons (psd_expr (pd_meth0 Q_Site.cl F_Site_end_step hr (by decide) (pd_var 0)))
  (psd_one (psd_retV 2)))))
theorem fa_Site_hear {C_Knowing C_Site : Addr} (T : Txt K mg) (D : MethDef K C_Site "hear" "Site.hear" s_Site_hear ["self", "sender", "news"]) (Q_Knowing : ClF_Knowing K C_Knowing) (Q_Site : ClF_Site K C_Site) (F_Knowing_tell : MethAt P w K mg base 3 C_Knowing "tell" 3 (d_Knowing_tell C_Knowing)) (F_Site_hear_of : MethAt P w K mg base 2 C_Site "hear_of" 3 (d_Site_hear_of C_Site)) (F_Site_end_step : MethAt P w K mg base 3 C_Site "end_step" 1 (d_Site_end_step C_Knowing C_Site)) (F_Site_take_next : MethAt P w K mg base 5 C_Site "take_next" 1 (d_Site_take_next C_Knowing C_Site)) (F_Site_let_wait : MethAt P w K mg base 2 C_Site "let_wait" 2 (d_Site_let_wait C_Knowing C_Site)) : MethAt P w K mg base 6 C_Site "hear" 3 (d_Site_hear C_Knowing C_Site) :=
  MethAt.mk' (N := N_Site_hear) D sc_Site_hear fun f cdv A outer s H E hr =>
  psd_cons (psd_for PassesOwn.never rfl (pid_it (pk_e (pd_ix (pd_var 2) pd_int))) (pgd_name 3 sc_Site_hear.nd) (psd_one (psd_expr (pd_meth Q_Site.cl F_Site_let_wait hr (by decide) (pd_var 0) (pad_cons (pd_var 3) pad_nil)))))
  (psd_cons (psd_expr (pd_meth Q_Site.cl F_Site_hear_of hr (by decide) (pd_var 0) (pad_cons (pd_var 1) (pad_cons (pd_ix (pd_var 2) pd_int) pad_nil))))
  (psd_cons (psd_while PassesOwn.never (ptd_tru (pd_meth0 Q_Site.cl F_Site_take_next hr (by decide) (pd_var 0))) (psd_one psd_pass))
  (psd_cons (psd_expr (pd_meth Q_Knowing.cl F_Knowing_tell hr (by decide) (pd_fld Q_Site.cl Q_Site.na_knowing (pd_var 0)) (pad_cons (pd_var 1) (pad_cons (pd_ix (pd_var 2) pd_int) pad_nil))))
  (psd_one (psd_expr (pd_meth0 Q_Site.cl F_Site_end_step hr (by decide) (pd_var 0)))))))
theorem fo_law {C_Base C_Knowing C_Site : Addr} {f : Addr} {fd : FuncData} (T : Txt K mg) (F : Fun K "law" "law" s_law f fd) (Q_Site : ClF_Site K C_Site) (F_Site___init__ : MakeAt P w K mg base 4 "Site" C_Site 4 (d_Site___init__ C_Base C_Knowing C_Site)) (F_Site_write : MethAt P w K mg base 6 C_Site "write" 2 (d_Site_write C_Base C_Knowing C_Site)) (F_Site_hear : MethAt P w K mg base 6 C_Site "hear" 3 (d_Site_hear C_Knowing C_Site)) (F_Site_heard : MethAt P w K mg base 1 C_Site "heard" 2 (d_Site_heard C_Site)) (F_Site_news_for : MethAt P w K mg base 2 C_Site "news_for" 2 (d_Site_news_for C_Site)) (F_Site_fresh : MethAt P w K mg base 1 C_Site "fresh" 1 (d_Site_fresh C_Site)) (F_law_row : FnAt P w K mg base 1 "_law_row" 2 d_law_row) (F_law_take : FnAt P w K mg base 1 "_law_take" 2 d_law_take) (F_law_op : FnAt P w K mg base 2 "_law_op" 2 d_law_op) (F_law_news : FnAt P w K mg base 1 "_law_news" 3 (d_law_news C_Site)) : FnOk P w K mg base CX0 7 f fd ["_law_script"] (spD K 1 (d_law C_Base C_Knowing C_Site)) :=
  fnOk_mk (N := N_law) F sc_law fun f cdv A outer s H E hr =>
  psd_cons (psd_set 1 (pd_alloc (pd_lst (pad_cons (pd_callF F_law_row hr (by decide) (pad_cons (pd_var 0) (pad_cons pd_int pad_nil))) pad_nil))) sc_law.nd)
  (psd_cons (psd_setLc 2 rfl sc_law.nd (blkOk_by (own := [("_law_number", 13)]) (N := N_law) (sc := defScope s_law) (by decide +kernel)) rfl (sw_true rfl rfl rfl (by decide +kernel)) (pid_rng1 T.n_range pd_int) (fun _ _ _ _ _ => pgd_name 13 sc_law.nd) (fun _ _ _ _ _ => ptsd_nil) (fun _ _ _ _ _ => pd_make F_Site___init__ hr (by decide) (pad_cons (pd_var 13) (pad_cons pd_int (pad_cons (pd_tup (pad_cons pd_int (pad_cons pd_int (pad_cons pd_int pad_nil)))) pad_nil)))))
  (psd_cons (psd_set 3 (pd_callF F_law_take hr (by decide) (pad_cons (pd_var 1) (pad_cons pd_int pad_nil))) sc_law.nd)
  (psd_cons (psd_for PassesOwn.never rfl (pid_rng1 T.n_range (pd_var 3)) (pgd_name 4 sc_law.nd) (psd_one (psd_if (ptd_cmp (cd_ne (u65 hr)) (pd_meth Q_Site.cl F_Site_write hr (by decide) (pd_ix (pd_var 2) pd_int) (pad_cons (pd_callF F_law_op hr (by decide) (pad_cons (pd_alloc (pd_lst (pad_cons (pd_add (pd_callF F_law_row hr (by decide) (pad_cons (pd_var 0) (pad_cons (pd_add pd_int (pd_mod (pd_var 4) pd_int)) pad_nil))) (pd_mulX pd_int (pd_var 4))) pad_nil))) (pad_cons (pd_var 4) pad_nil))) pad_nil)) (pd_tup (pad_cons pd_int (pad_cons (pd_add (pd_var 4) pd_int) pad_nil)))) (psd_one (psd_ret pd_bl)) psd_nil)))
  (psd_cons (psd_set 5 (pd_meth0 Q_Site.cl F_Site_fresh hr (by decide) (pd_ix (pd_var 2) pd_int)) sc_law.nd)
  (psd_cons (psd_if (PWd.pt (pwd_or (ptd_cmp (cd_ne (u65 hr)) (pd_len T.n_len (pad_cons (pd_var 5) pad_nil)) (pd_var 3)) (pwd_or (ptd_cmp (cd_ne (u65 hr)) (pd_fld Q_Site.cl Q_Site.na_held (pd_ix (pd_var 2) pd_int)) (pd_var 5)) (pwd_or1 (ptd_cmp (cd_ne (u65 hr)) (pd_glob T.c_MOST_NEWS) pd_int))))) (psd_one (psd_ret pd_bl)) psd_nil)
  (psd_cons (psd_set 6 (pd_lst (pad_cons pd_int (pad_cons pd_int pad_nil))) sc_law.nd)
  (psd_cons (psd_set 7 (pd_lst (pad_cons pd_int (pad_cons pd_int pad_nil))) sc_law.nd)
  (psd_cons (psd_for PassesOwn.never rfl (pid_rng1 T.n_range (pd_add pd_int (pd_callF F_law_take hr (by decide) (pad_cons (pd_var 1) (pad_cons pd_int pad_nil))))) (pgd_name 4 sc_law.nd) (psd_cons (psd_set 8 (pd_alloc (pd_lst (pad_cons (pd_callF F_law_row hr (by decide) (pad_cons (pd_var 0) (pad_cons (pd_sub pd_int (pd_var 4)) pad_nil))) pad_nil))) sc_law.nd)
  (psd_cons (psd_set 9 (pd_callF F_law_take hr (by decide) (pad_cons (pd_var 8) (pad_cons pd_int pad_nil))) sc_law.nd)
  (psd_one (psd_if (ptd_cmp cd_lt (pd_var 9) pd_int) (psd_cons (psd_set 10 (pd_meth Q_Site.cl F_Site_news_for hr (by decide) (pd_ix (pd_var 2) pd_int) (pad_cons pd_int pad_nil)) sc_law.nd)
  (psd_cons (psd_if (ptd_cmp (cd_ne (u65 hr)) (pd_var 10) (pd_callF F_law_news hr (by decide) (pad_cons (pd_ix (pd_var 2) pd_int) (pad_cons (pd_var 5) (pad_cons (pd_ix (pd_var 6) pd_int) pad_nil))))) (psd_one (psd_ret pd_bl)) psd_nil)
  (psd_one (psd_for PassesOwn.never rfl (pid_rng1 T.n_range (pd_callF F_law_take hr (by decide) (pad_cons (pd_var 8) (pad_cons pd_int pad_nil)))) (pgd_name 11 sc_law.nd) (psd_cons (psd_expr (pd_meth Q_Site.cl F_Site_hear hr (by decide) (pd_ix (pd_var 2) pd_int) (pad_cons pd_int (pad_cons (pd_var 10) pad_nil))))
  (psd_cons (psd_set 12 (pd_max rfl T.n_max (pad_cons (pd_ix (pd_var 7) pd_int) (pad_cons (pd_min rfl T.n_min (pad_cons (pd_var 3) (pad_cons (pd_add (pd_ix (pd_var 6) pd_int) pd_int) pad_nil))) pad_nil))) sc_law.nd)
  (psd_cons (psd_frz 12 (psd_if (PWd.pt (pwd_or (ptd_cmp (cd_ne (u65 hr)) (pd_meth0 Q_Site.cl F_Site_fresh hr (by decide) (pd_ix (pd_var 2) pd_int)) (pd_sl (pd_var 5) (pod_some (pd_ix (pd_var 7) pd_int)) (pod_some (pd_var 12)))) (pwd_or1 (ptd_cmp (cd_ne (u65 hr)) (pd_fld Q_Site.cl Q_Site.na_vector (pd_ix (pd_var 2) pd_int)) (pd_add (pd_tup (pad_cons (pd_var 12) pad_nil)) (pd_mulX (pd_tup (pad_cons pd_int pad_nil)) pd_int)))))) (psd_one (psd_ret pd_bl)) psd_nil))
  (psd_one (psd_frz 12 (psd_setV 7 pd_int (pd_var 12))))))))))) (psd_one (psd_if (ptd_cmp (cd_eq (u65 hr)) (pd_var 9) pd_int) (psd_cons (psd_set 10 (pd_meth Q_Site.cl F_Site_news_for hr (by decide) (pd_ix (pd_var 2) pd_int) (pad_cons pd_int pad_nil)) sc_law.nd)
  (psd_cons (psd_if (ptd_cmp (cd_ne (u65 hr)) (pd_var 10) (pd_callF F_law_news hr (by decide) (pad_cons (pd_ix (pd_var 2) pd_int) (pad_cons (pd_sl (pd_var 5) pod_none (pod_some (pd_ix (pd_var 7) pd_int))) (pad_cons (pd_ix (pd_var 6) pd_int) pad_nil))))) (psd_one (psd_ret pd_bl)) psd_nil)
  (psd_cons (psd_expr (pd_meth Q_Site.cl F_Site_hear hr (by decide) (pd_ix (pd_var 2) pd_int) (pad_cons pd_int (pad_cons (pd_var 10) pad_nil))))
  (psd_cons (psd_setV 7 pd_int (pd_max rfl T.n_max (pad_cons (pd_ix (pd_var 7) pd_int) (pad_cons (pd_min rfl T.n_min (pad_cons (pd_ix (pd_var 7) pd_int) (pad_cons (pd_add (pd_ix (pd_var 6) pd_int) pd_int) pad_nil))) pad_nil))))
  (psd_one (psd_if (PWd.pt (pwd_or (ptd_cmp (cd_ne (u65 hr)) (pd_fld Q_Site.cl Q_Site.na_held (pd_ix (pd_var 2) pd_int)) (pd_sl (pd_var 5) pod_none (pod_some (pd_ix (pd_var 7) pd_int)))) (pwd_or1 (ptd_cmp (cd_ne (u65 hr)) (pd_fld Q_Site.cl Q_Site.na_waiting (pd_ix (pd_var 2) pd_int)) (pd_lst pad_nil))))) (psd_one (psd_ret pd_bl)) psd_nil)))))) (psd_cons (psd_expr (pd_meth Q_Site.cl F_Site_hear hr (by decide) (pd_ix (pd_var 2) pd_int) (pad_cons pd_int (pad_cons (pd_meth Q_Site.cl F_Site_news_for hr (by decide) (pd_ix (pd_var 2) pd_int) (pad_cons pd_int pad_nil)) pad_nil))))
  (psd_cons (psd_setV 6 pd_int (pd_ix (pd_var 7) pd_int))
  (psd_cons (psd_expr (pd_meth Q_Site.cl F_Site_hear hr (by decide) (pd_ix (pd_var 2) pd_int) (pad_cons pd_int (pad_cons (pd_meth Q_Site.cl F_Site_news_for hr (by decide) (pd_ix (pd_var 2) pd_int) (pad_cons pd_int pad_nil)) pad_nil))))
  (psd_cons (psd_setV 6 pd_int (pd_ix (pd_var 7) pd_int))
  (psd_one (psd_if (PWd.pt (pwd_or (ptd_cmp (cd_ne (u65 hr)) (pd_ix (pd_meth Q_Site.cl F_Site_heard hr (by decide) (pd_ix (pd_var 2) pd_int) (pad_cons pd_int pad_nil)) pd_int) (pd_ix (pd_var 7) pd_int)) (pwd_or1 (ptd_cmp (cd_ne (u65 hr)) (pd_ix (pd_meth Q_Site.cl F_Site_heard hr (by decide) (pd_ix (pd_var 2) pd_int) (pad_cons pd_int pad_nil)) pd_int) (pd_ix (pd_var 7) pd_int))))) (psd_one (psd_ret pd_bl)) psd_nil)))))))))))))
  (psd_cons (psd_for PassesOwn.never rfl (pid_rng1 T.n_range pd_int) (pgd_name 4 sc_law.nd) (psd_cons (psd_expr (pd_meth Q_Site.cl F_Site_hear hr (by decide) (pd_ix (pd_var 2) pd_int) (pad_cons pd_int (pad_cons (pd_meth Q_Site.cl F_Site_news_for hr (by decide) (pd_ix (pd_var 2) pd_int) (pad_cons pd_int pad_nil)) pad_nil))))
  (psd_one (psd_expr (pd_meth Q_Site.cl F_Site_hear hr (by decide) (pd_ix (pd_var 2) pd_int) (pad_cons pd_int (pad_cons (pd_meth Q_Site.cl F_Site_news_for hr (by decide) (pd_ix (pd_var 2) pd_int) (pad_cons pd_int pad_nil)) pad_nil)))))))
  (psd_one (psd_ret (pd_and (pd_cmp (cd_eq (u65 hr)) (pd_fld Q_Site.cl Q_Site.na_held (pd_ix (pd_var 2) pd_int)) (pd_var 5)) (pd_one (pd_cmp (cd_eq (u65 hr)) (pd_meth Q_Site.cl F_Site_news_for hr (by decide) (pd_ix (pd_var 2) pd_int) (pad_cons pd_int pad_nil)) (pd_tup (pad_cons pd_str (pad_cons (pd_fld Q_Site.cl Q_Site.na_vector (pd_ix (pd_var 2) pd_int)) (pad_cons (pd_tup pad_nil) pad_nil))))))))))))))))))
end
section
set_option maxHeartbeats 0 in
theorem all_mk {l : PySem.W.OpenLaw} {w : World} {K : PySem.W.Frag} {h : Heap} {mg : Str → Option Value} {fa : Addr} (X : K.In h) (G : h.Ns mainGlobals mg) (hfa : mg "law" = some (.ref fa))
    {C_Base : Addr} {C_Knowing : Addr} {C_Site : Addr} {f0 : Addr} {od0 an0 : Option Addr} {sl0 : Array (Option Value)} {oc0 kV0 dc0 pm0 cd0 ct0 : Value} {f1 : Addr} {od1 an1 : Option Addr} {sl1 : Array (Option Value)} {oc1 kV1 dc1 pm1 cd1 ct1 : Value} {f2 : Addr} {od2 an2 : Option Addr} {sl2 : Array (Option Value)} {oc2 kV2 dc2 pm2 cd2 ct2 : Value} {f3 : Addr} {od3 an3 : Option Addr} {sl3 : Array (Option Value)} {oc3 kV3 dc3 pm3 cd3 ct3 : Value} {f4 : Addr} {od4 an4 : Option Addr} {sl4 : Array (Option Value)} {oc4 kV4 dc4 pm4 cd4 ct4 : Value} {f5 : Addr} {od5 an5 : Option Addr} {sl5 : Array (Option Value)} {oc5 kV5 dc5 pm5 cd5 ct5 : Value} {f6 : Addr} {od6 an6 : Option Addr} {sl6 : Array (Option Value)} {oc6 kV6 dc6 pm6 cd6 ct6 : Value} {f7 : Addr} {od7 an7 : Option Addr} {sl7 : Array (Option Value)} {oc7 kV7 dc7 pm7 cd7 ct7 : Value} {f8 : Addr} {od8 an8 : Option Addr} {sl8 : Array (Option Value)} {oc8 kV8 dc8 pm8 cd8 ct8 : Value} {f9 : Addr} {od9 an9 : Option Addr} {sl9 : Array (Option Value)} {oc9 kV9 dc9 pm9 cd9 ct9 : Value} {f10 : Addr} {od10 an10 : Option Addr} {sl10 : Array (Option Value)} {oc10 kV10 dc10 pm10 cd10 ct10 : Value} {f11 : Addr} {od11 an11 : Option Addr} {sl11 : Array (Option Value)} {oc11 kV11 dc11 pm11 cd11 ct11 : Value} {f12 : Addr} {od12 an12 : Option Addr} {sl12 : Array (Option Value)} {oc12 kV12 dc12 pm12 cd12 ct12 : Value} {f13 : Addr} {od13 an13 : Option Addr} {sl13 : Array (Option Value)} {oc13 kV13 dc13 pm13 cd13 ct13 : Value} {f14 : Addr} {od14 an14 : Option Addr} {sl14 : Array (Option Value)} {oc14 kV14 dc14 pm14 cd14 ct14 : Value} {f15 : Addr} {od15 an15 : Option Addr} {sl15 : Array (Option Value)} {oc15 kV15 dc15 pm15 cd15 ct15 : Value} {f16 : Addr} {od16 an16 : Option Addr} {sl16 : Array (Option Value)} {oc16 kV16 dc16 pm16 cd16 ct16 : Value} {f17 : Addr} {od17 an17 : Option Addr} {sl17 : Array (Option Value)} {oc17 kV17 dc17 pm17 cd17 ct17 : Value} {f18 : Addr} {od18 an18 : Option Addr} {sl18 : Array (Option Value)} {oc18 kV18 dc18 pm18 cd18 ct18 : Value} {f19 : Addr} {od19 an19 : Option Addr} {sl19 : Array (Option Value)} {oc19 kV19 dc19 pm19 cd19 ct19 : Value} {f20 : Addr} {od20 an20 : Option Addr} {sl20 : Array (Option Value)} {oc20 kV20 dc20 pm20 cd20 ct20 : Value} {f21 : Addr} {od21 an21 : Option Addr} {sl21 : Array (Option Value)} {oc21 kV21 dc21 pm21 cd21 ct21 : Value} {f22 : Addr} {od22 an22 : Option Addr} {sl22 : Array (Option Value)} {oc22 kV22 dc22 pm22 cd22 ct22 : Value} {f23 : Addr} {od23 an23 : Option Addr} {sl23 : Array (Option Value)} {oc23 kV23 dc23 pm23 cd23 ct23 : Value} {f24 : Addr} {od24 an24 : Option Addr} {sl24 : Array (Option Value)} {oc24 kV24 dc24 pm24 cd24 ct24 : Value} {f25 : Addr} {od25 an25 : Option Addr} {sl25 : Array (Option Value)} {oc25 kV25 dc25 pm25 cd25 ct25 : Value} {f26 : Addr} {od26 an26 : Option Addr} {sl26 : Array (Option Value)} {oc26 kV26 dc26 pm26 cd26 ct26 : Value} {f27 : Addr} {od27 an27 : Option Addr} {sl27 : Array (Option Value)} {oc27 kV27 dc27 pm27 cd27 ct27 : Value} {f28 : Addr} {od28 an28 : Option Addr} {sl28 : Array (Option Value)} {oc28 kV28 dc28 pm28 cd28 ct28 : Value} {f29 : Addr} {od29 an29 : Option Addr} {sl29 : Array (Option Value)} {oc29 kV29 dc29 pm29 cd29 ct29 : Value} {f30 : Addr} {od30 an30 : Option Addr} {sl30 : Array (Option Value)} {oc30 kV30 dc30 pm30 cd30 ct30 : Value} {f31 : Addr} {od31 an31 : Option Addr} {sl31 : Array (Option Value)} {oc31 kV31 dc31 pm31 cd31 ct31 : Value} {f32 : Addr} {od32 an32 : Option Addr} {sl32 : Array (Option Value)} {oc32 kV32 dc32 pm32 cd32 ct32 : Value} {f33 : Addr} {od33 an33 : Option Addr} {sl33 : Array (Option Value)} {oc33 kV33 dc33 pm33 cd33 ct33 : Value} {q_NO_VECTOR : Addr} {od_NO_VECTOR : Option Addr} {n_NO_VECTOR : Nat} {sl_NO_VECTOR : Array (Option Value)} {t_NO_VECTOR_0 : Tok} {t_NO_VECTOR_1 : Tok} {t_NO_VECTOR_2 : Tok} {t_NO_VECTOR_3 : Tok} {t_NO_VECTOR_4 : Tok} {t_NO_VECTOR_5 : Tok} {t_NO_VECTOR_6 : Tok} {t_NO_VECTOR_7 : Tok} {t_ADMIT : Tok} {t_BEGIN : Tok} {t_RETIRE : Tok} {t_ACK : Tok} {t_MOST_NEWS : Tok}
    (gC_Base : PySem.W.nsIn K mainGlobals "Base" = some (some (.ref C_Base)))
    (gC_Knowing : PySem.W.nsIn K mainGlobals "Knowing" = some (some (.ref C_Knowing)))
    (gC_Site : PySem.W.nsIn K mainGlobals "Site" = some (some (.ref C_Site)))
    (p1_Base : PySem.W.plainGet K C_Base Str.empty = true)
    (p2_Base : PySem.W.hasDictIn K C_Base = true)
    (p3_Base : PySem.W.plainOver K C_Base = true)
    (p4_Base : PySem.W.findIn K (.ref C_Base) "__setattr__" = some (some (.builtin "object.__setattr__")))
    (na_Base_counters : PySem.W.findIn K (.ref C_Base) "counters" = some none)
    (na_Base_height : PySem.W.findIn K (.ref C_Base) "height" = some none)
    (na_Base_registers : PySem.W.findIn K (.ref C_Base) "registers" = some none)
    (na_Base_sets : PySem.W.findIn K (.ref C_Base) "sets" = some none)
    (na_Base_texts : PySem.W.findIn K (.ref C_Base) "texts" = some none)
    (na_Base_vector : PySem.W.findIn K (.ref C_Base) "vector" = some none)
    (mk1_Base : PySem.W.makesIn K C_Base = true)
    (mk2_Base : PySem.W.keepIn K (.ref C_Base) = true)
    (p1_Knowing : PySem.W.plainGet K C_Knowing Str.empty = true)
    (p2_Knowing : PySem.W.hasDictIn K C_Knowing = true)
    (p3_Knowing : PySem.W.plainOver K C_Knowing = true)
    (p4_Knowing : PySem.W.findIn K (.ref C_Knowing) "__setattr__" = some (some (.builtin "object.__setattr__")))
    (na_Knowing_absent : PySem.W.findIn K (.ref C_Knowing) "absent" = some none)
    (na_Knowing_acks : PySem.W.findIn K (.ref C_Knowing) "acks" = some none)
    (na_Knowing_coming : PySem.W.findIn K (.ref C_Knowing) "coming" = some none)
    (na_Knowing_number : PySem.W.findIn K (.ref C_Knowing) "number" = some none)
    (na_Knowing_over : PySem.W.findIn K (.ref C_Knowing) "over" = some none)
    (na_Knowing_present : PySem.W.findIn K (.ref C_Knowing) "present" = some none)
    (na_Knowing_retiring : PySem.W.findIn K (.ref C_Knowing) "retiring" = some none)
    (na_Knowing_size : PySem.W.findIn K (.ref C_Knowing) "size" = some none)
    (na_Knowing_told : PySem.W.findIn K (.ref C_Knowing) "told" = some none)
    (mk1_Knowing : PySem.W.makesIn K C_Knowing = true)
    (mk2_Knowing : PySem.W.keepIn K (.ref C_Knowing) = true)
    (p1_Site : PySem.W.plainGet K C_Site Str.empty = true)
    (p2_Site : PySem.W.hasDictIn K C_Site = true)
    (p3_Site : PySem.W.plainOver K C_Site = true)
    (p4_Site : PySem.W.findIn K (.ref C_Site) "__setattr__" = some (some (.builtin "object.__setattr__")))
    (na_Site_base : PySem.W.findIn K (.ref C_Site) "base" = some none)
    (na_Site_heard_vectors : PySem.W.findIn K (.ref C_Site) "heard_vectors" = some none)
    (na_Site_held : PySem.W.findIn K (.ref C_Site) "held" = some none)
    (na_Site_knowing : PySem.W.findIn K (.ref C_Site) "knowing" = some none)
    (na_Site_new_events : PySem.W.findIn K (.ref C_Site) "new_events" = some none)
    (na_Site_number : PySem.W.findIn K (.ref C_Site) "number" = some none)
    (na_Site_size : PySem.W.findIn K (.ref C_Site) "size" = some none)
    (na_Site_vector : PySem.W.findIn K (.ref C_Site) "vector" = some none)
    (na_Site_waiting : PySem.W.findIn K (.ref C_Site) "waiting" = some none)
    (mk1_Site : PySem.W.makesIn K C_Site = true)
    (mk2_Site : PySem.W.keepIn K (.ref C_Site) = true)
    (a0 : PySem.W.nsIn K mainGlobals "knows" = some (some (.ref f0)))
    (l0 : K.lookup f0 = some ⟨oc0, od0, .func (PySem.W.fnOf "knows" "knows" (defArgs s_knows) (defBody s_knows) (defScope s_knows) .none kV0 dc0 pm0 an0 cd0 ct0), sl0⟩)
    (c0 : PySem.W.codeIn K cd0 "knows" = true)
    (k0 : PySem.W.keepIn K (.ref f0) = true)
    (a1 : PySem.W.nsIn K mainGlobals "covers" = some (some (.ref f1)))
    (l1 : K.lookup f1 = some ⟨oc1, od1, .func (PySem.W.fnOf "covers" "covers" (defArgs s_covers) (defBody s_covers) (defScope s_covers) .none kV1 dc1 pm1 an1 cd1 ct1), sl1⟩)
    (c1 : PySem.W.codeIn K cd1 "covers" = true)
    (k1 : PySem.W.keepIn K (.ref f1) = true)
    (a2 : PySem.W.nsIn K mainGlobals "joined" = some (some (.ref f2)))
    (l2 : K.lookup f2 = some ⟨oc2, od2, .func (PySem.W.fnOf "joined" "joined" (defArgs s_joined) (defBody s_joined) (defScope s_joined) .none kV2 dc2 pm2 an2 cd2 ct2), sl2⟩)
    (c2 : PySem.W.codeIn K cd2 "joined" = true)
    (k2 : PySem.W.keepIn K (.ref f2) = true)
    (a3 : PySem.W.nsIn K mainGlobals "raised" = some (some (.ref f3)))
    (l3 : K.lookup f3 = some ⟨oc3, od3, .func (PySem.W.fnOf "raised" "raised" (defArgs s_raised) (defBody s_raised) (defScope s_raised) .none kV3 dc3 pm3 an3 cd3 ct3), sl3⟩)
    (c3 : PySem.W.codeIn K cd3 "raised" = true)
    (k3 : PySem.W.keepIn K (.ref f3) = true)
    (a4 : PySem.W.nsIn K mainGlobals "dot_of" = some (some (.ref f4)))
    (l4 : K.lookup f4 = some ⟨oc4, od4, .func (PySem.W.fnOf "dot_of" "dot_of" (defArgs s_dot_of) (defBody s_dot_of) (defScope s_dot_of) .none kV4 dc4 pm4 an4 cd4 ct4), sl4⟩)
    (c4 : PySem.W.codeIn K cd4 "dot_of" = true)
    (k4 : PySem.W.keepIn K (.ref f4) = true)
    (a5 : PySem.W.findIn K (.ref C_Base) "__init__" = some (some (.ref f5)))
    (l5 : K.lookup f5 = some ⟨oc5, od5, .func (PySem.W.fnOf "__init__" "Base.__init__" (defArgs s_Base___init__) (defBody s_Base___init__) (defScope s_Base___init__) .none kV5 dc5 pm5 an5 cd5 ct5), sl5⟩)
    (c5 : PySem.W.codeIn K cd5 "Base.__init__" = true)
    (k5 : PySem.W.keepIn K (.ref f5) = true)
    (n5 : PySem.W.isFn K (.ref f5) = true)
    (a6 : PySem.W.nsIn K mainGlobals "with_site" = some (some (.ref f6)))
    (l6 : K.lookup f6 = some ⟨oc6, od6, .func (PySem.W.fnOf "with_site" "with_site" (defArgs s_with_site) (defBody s_with_site) (defScope s_with_site) .none kV6 dc6 pm6 an6 cd6 ct6), sl6⟩)
    (c6 : PySem.W.codeIn K cd6 "with_site" = true)
    (k6 : PySem.W.keepIn K (.ref f6) = true)
    (a7 : PySem.W.findIn K (.ref C_Knowing) "names_all" = some (some (.ref f7)))
    (l7 : K.lookup f7 = some ⟨oc7, od7, .func (PySem.W.fnOf "names_all" "Knowing.names_all" (defArgs s_Knowing_names_all) (defBody s_Knowing_names_all) (defScope s_Knowing_names_all) .none kV7 dc7 pm7 an7 cd7 ct7), sl7⟩)
    (c7 : PySem.W.codeIn K cd7 "Knowing.names_all" = true)
    (k7 : PySem.W.keepIn K (.ref f7) = true)
    (n7 : PySem.W.isFn K (.ref f7) = true)
    (a8 : PySem.W.findIn K (.ref C_Knowing) "may_take" = some (some (.ref f8)))
    (l8 : K.lookup f8 = some ⟨oc8, od8, .func (PySem.W.fnOf "may_take" "Knowing.may_take" (defArgs s_Knowing_may_take) (defBody s_Knowing_may_take) (defScope s_Knowing_may_take) .none kV8 dc8 pm8 an8 cd8 ct8), sl8⟩)
    (c8 : PySem.W.codeIn K cd8 "Knowing.may_take" = true)
    (k8 : PySem.W.keepIn K (.ref f8) = true)
    (n8 : PySem.W.isFn K (.ref f8) = true)
    (a9 : PySem.W.findIn K (.ref C_Site) "check_writer" = some (some (.ref f9)))
    (l9 : K.lookup f9 = some ⟨oc9, od9, .func (PySem.W.fnOf "check_writer" "Site.check_writer" (defArgs s_Site_check_writer) (defBody s_Site_check_writer) (defScope s_Site_check_writer) .none kV9 dc9 pm9 an9 cd9 ct9), sl9⟩)
    (c9 : PySem.W.codeIn K cd9 "Site.check_writer" = true)
    (k9 : PySem.W.keepIn K (.ref f9) = true)
    (n9 : PySem.W.isFn K (.ref f9) = true)
    (a10 : PySem.W.findIn K (.ref C_Site) "check_place" = some (some (.ref f10)))
    (l10 : K.lookup f10 = some ⟨oc10, od10, .func (PySem.W.fnOf "check_place" "Site.check_place" (defArgs s_Site_check_place) (defBody s_Site_check_place) (defScope s_Site_check_place) .none kV10 dc10 pm10 an10 cd10 ct10), sl10⟩)
    (c10 : PySem.W.codeIn K cd10 "Site.check_place" = true)
    (k10 : PySem.W.keepIn K (.ref f10) = true)
    (n10 : PySem.W.isFn K (.ref f10) = true)
    (a11 : PySem.W.findIn K (.ref C_Site) "heard" = some (some (.ref f11)))
    (l11 : K.lookup f11 = some ⟨oc11, od11, .func (PySem.W.fnOf "heard" "Site.heard" (defArgs s_Site_heard) (defBody s_Site_heard) (defScope s_Site_heard) .none kV11 dc11 pm11 an11 cd11 ct11), sl11⟩)
    (c11 : PySem.W.codeIn K cd11 "Site.heard" = true)
    (k11 : PySem.W.keepIn K (.ref f11) = true)
    (n11 : PySem.W.isFn K (.ref f11) = true)
    (a12 : PySem.W.findIn K (.ref C_Site) "fresh" = some (some (.ref f12)))
    (l12 : K.lookup f12 = some ⟨oc12, od12, .func (PySem.W.fnOf "fresh" "Site.fresh" (defArgs s_Site_fresh) (defBody s_Site_fresh) (defScope s_Site_fresh) .none kV12 dc12 pm12 an12 cd12 ct12), sl12⟩)
    (c12 : PySem.W.codeIn K cd12 "Site.fresh" = true)
    (k12 : PySem.W.keepIn K (.ref f12) = true)
    (n12 : PySem.W.isFn K (.ref f12) = true)
    (a13 : PySem.W.nsIn K mainGlobals "_law_row" = some (some (.ref f13)))
    (l13 : K.lookup f13 = some ⟨oc13, od13, .func (PySem.W.fnOf "_law_row" "_law_row" (defArgs s_law_row) (defBody s_law_row) (defScope s_law_row) .none kV13 dc13 pm13 an13 cd13 ct13), sl13⟩)
    (c13 : PySem.W.codeIn K cd13 "_law_row" = true)
    (k13 : PySem.W.keepIn K (.ref f13) = true)
    (a14 : PySem.W.nsIn K mainGlobals "_law_take" = some (some (.ref f14)))
    (l14 : K.lookup f14 = some ⟨oc14, od14, .func (PySem.W.fnOf "_law_take" "_law_take" (defArgs s_law_take) (defBody s_law_take) (defScope s_law_take) .none kV14 dc14 pm14 an14 cd14 ct14), sl14⟩)
    (c14 : PySem.W.codeIn K cd14 "_law_take" = true)
    (k14 : PySem.W.keepIn K (.ref f14) = true)
    (a15 : PySem.W.nsIn K mainGlobals "_law_news" = some (some (.ref f15)))
    (l15 : K.lookup f15 = some ⟨oc15, od15, .func (PySem.W.fnOf "_law_news" "_law_news" (defArgs s_law_news) (defBody s_law_news) (defScope s_law_news) .none kV15 dc15 pm15 an15 cd15 ct15), sl15⟩)
    (c15 : PySem.W.codeIn K cd15 "_law_news" = true)
    (k15 : PySem.W.keepIn K (.ref f15) = true)
    (a16 : PySem.W.findIn K (.ref C_Knowing) "__init__" = some (some (.ref f16)))
    (l16 : K.lookup f16 = some ⟨oc16, od16, .func (PySem.W.fnOf "__init__" "Knowing.__init__" (defArgs s_Knowing___init__) (defBody s_Knowing___init__) (defScope s_Knowing___init__) .none kV16 dc16 pm16 an16 cd16 ct16), sl16⟩)
    (c16 : PySem.W.codeIn K cd16 "Knowing.__init__" = true)
    (k16 : PySem.W.keepIn K (.ref f16) = true)
    (n16 : PySem.W.isFn K (.ref f16) = true)
    (a17 : PySem.W.findIn K (.ref C_Knowing) "join_told" = some (some (.ref f17)))
    (l17 : K.lookup f17 = some ⟨oc17, od17, .func (PySem.W.fnOf "join_told" "Knowing.join_told" (defArgs s_Knowing_join_told) (defBody s_Knowing_join_told) (defScope s_Knowing_join_told) .none kV17 dc17 pm17 an17 cd17 ct17), sl17⟩)
    (c17 : PySem.W.codeIn K cd17 "Knowing.join_told" = true)
    (k17 : PySem.W.keepIn K (.ref f17) = true)
    (n17 : PySem.W.isFn K (.ref f17) = true)
    (a18 : PySem.W.findIn K (.ref C_Knowing) "wants_ack" = some (some (.ref f18)))
    (l18 : K.lookup f18 = some ⟨oc18, od18, .func (PySem.W.fnOf "wants_ack" "Knowing.wants_ack" (defArgs s_Knowing_wants_ack) (defBody s_Knowing_wants_ack) (defScope s_Knowing_wants_ack) .none kV18 dc18 pm18 an18 cd18 ct18), sl18⟩)
    (c18 : PySem.W.codeIn K cd18 "Knowing.wants_ack" = true)
    (k18 : PySem.W.keepIn K (.ref f18) = true)
    (n18 : PySem.W.isFn K (.ref f18) = true)
    (a19 : PySem.W.findIn K (.ref C_Site) "hear_of" = some (some (.ref f19)))
    (l19 : K.lookup f19 = some ⟨oc19, od19, .func (PySem.W.fnOf "hear_of" "Site.hear_of" (defArgs s_Site_hear_of) (defBody s_Site_hear_of) (defScope s_Site_hear_of) .none kV19 dc19 pm19 an19 cd19 ct19), sl19⟩)
    (c19 : PySem.W.codeIn K cd19 "Site.hear_of" = true)
    (k19 : PySem.W.keepIn K (.ref f19) = true)
    (n19 : PySem.W.isFn K (.ref f19) = true)
    (a20 : PySem.W.findIn K (.ref C_Site) "can_take" = some (some (.ref f20)))
    (l20 : K.lookup f20 = some ⟨oc20, od20, .func (PySem.W.fnOf "can_take" "Site.can_take" (defArgs s_Site_can_take) (defBody s_Site_can_take) (defScope s_Site_can_take) .none kV20 dc20 pm20 an20 cd20 ct20), sl20⟩)
    (c20 : PySem.W.codeIn K cd20 "Site.can_take" = true)
    (k20 : PySem.W.keepIn K (.ref f20) = true)
    (n20 : PySem.W.isFn K (.ref f20) = true)
    (a21 : PySem.W.findIn K (.ref C_Site) "let_wait" = some (some (.ref f21)))
    (l21 : K.lookup f21 = some ⟨oc21, od21, .func (PySem.W.fnOf "let_wait" "Site.let_wait" (defArgs s_Site_let_wait) (defBody s_Site_let_wait) (defScope s_Site_let_wait) .none kV21 dc21 pm21 an21 cd21 ct21), sl21⟩)
    (c21 : PySem.W.codeIn K cd21 "Site.let_wait" = true)
    (k21 : PySem.W.keepIn K (.ref f21) = true)
    (n21 : PySem.W.isFn K (.ref f21) = true)
    (a22 : PySem.W.findIn K (.ref C_Site) "news_for" = some (some (.ref f22)))
    (l22 : K.lookup f22 = some ⟨oc22, od22, .func (PySem.W.fnOf "news_for" "Site.news_for" (defArgs s_Site_news_for) (defBody s_Site_news_for) (defScope s_Site_news_for) .none kV22 dc22 pm22 an22 cd22 ct22), sl22⟩)
    (c22 : PySem.W.codeIn K cd22 "Site.news_for" = true)
    (k22 : PySem.W.keepIn K (.ref f22) = true)
    (n22 : PySem.W.isFn K (.ref f22) = true)
    (a23 : PySem.W.nsIn K mainGlobals "_law_op" = some (some (.ref f23)))
    (l23 : K.lookup f23 = some ⟨oc23, od23, .func (PySem.W.fnOf "_law_op" "_law_op" (defArgs s_law_op) (defBody s_law_op) (defScope s_law_op) .none kV23 dc23 pm23 an23 cd23 ct23), sl23⟩)
    (c23 : PySem.W.codeIn K cd23 "_law_op" = true)
    (k23 : PySem.W.keepIn K (.ref f23) = true)
    (a24 : PySem.W.findIn K (.ref C_Knowing) "note" = some (some (.ref f24)))
    (l24 : K.lookup f24 = some ⟨oc24, od24, .func (PySem.W.fnOf "note" "Knowing.note" (defArgs s_Knowing_note) (defBody s_Knowing_note) (defScope s_Knowing_note) .none kV24 dc24 pm24 an24 cd24 ct24), sl24⟩)
    (c24 : PySem.W.codeIn K cd24 "Knowing.note" = true)
    (k24 : PySem.W.keepIn K (.ref f24) = true)
    (n24 : PySem.W.isFn K (.ref f24) = true)
    (a25 : PySem.W.findIn K (.ref C_Knowing) "tell" = some (some (.ref f25)))
    (l25 : K.lookup f25 = some ⟨oc25, od25, .func (PySem.W.fnOf "tell" "Knowing.tell" (defArgs s_Knowing_tell) (defBody s_Knowing_tell) (defScope s_Knowing_tell) .none kV25 dc25 pm25 an25 cd25 ct25), sl25⟩)
    (c25 : PySem.W.codeIn K cd25 "Knowing.tell" = true)
    (k25 : PySem.W.keepIn K (.ref f25) = true)
    (n25 : PySem.W.isFn K (.ref f25) = true)
    (a26 : PySem.W.findIn K (.ref C_Site) "end_step" = some (some (.ref f26)))
    (l26 : K.lookup f26 = some ⟨oc26, od26, .func (PySem.W.fnOf "end_step" "Site.end_step" (defArgs s_Site_end_step) (defBody s_Site_end_step) (defScope s_Site_end_step) .none kV26 dc26 pm26 an26 cd26 ct26), sl26⟩)
    (c26 : PySem.W.codeIn K cd26 "Site.end_step" = true)
    (k26 : PySem.W.keepIn K (.ref f26) = true)
    (n26 : PySem.W.isFn K (.ref f26) = true)
    (a27 : PySem.W.findIn K (.ref C_Site) "__init__" = some (some (.ref f27)))
    (l27 : K.lookup f27 = some ⟨oc27, od27, .func (PySem.W.fnOf "__init__" "Site.__init__" (defArgs s_Site___init__) (defBody s_Site___init__) (defScope s_Site___init__) .none kV27 dc27 pm27 an27 cd27 ct27), sl27⟩)
    (c27 : PySem.W.codeIn K cd27 "Site.__init__" = true)
    (k27 : PySem.W.keepIn K (.ref f27) = true)
    (n27 : PySem.W.isFn K (.ref f27) = true)
    (a28 : PySem.W.findIn K (.ref C_Site) "take" = some (some (.ref f28)))
    (l28 : K.lookup f28 = some ⟨oc28, od28, .func (PySem.W.fnOf "take" "Site.take" (defArgs s_Site_take) (defBody s_Site_take) (defScope s_Site_take) .none kV28 dc28 pm28 an28 cd28 ct28), sl28⟩)
    (c28 : PySem.W.codeIn K cd28 "Site.take" = true)
    (k28 : PySem.W.keepIn K (.ref f28) = true)
    (n28 : PySem.W.isFn K (.ref f28) = true)
    (a29 : PySem.W.findIn K (.ref C_Site) "make" = some (some (.ref f29)))
    (l29 : K.lookup f29 = some ⟨oc29, od29, .func (PySem.W.fnOf "make" "Site.make" (defArgs s_Site_make) (defBody s_Site_make) (defScope s_Site_make) .none kV29 dc29 pm29 an29 cd29 ct29), sl29⟩)
    (c29 : PySem.W.codeIn K cd29 "Site.make" = true)
    (k29 : PySem.W.keepIn K (.ref f29) = true)
    (n29 : PySem.W.isFn K (.ref f29) = true)
    (a30 : PySem.W.findIn K (.ref C_Site) "take_next" = some (some (.ref f30)))
    (l30 : K.lookup f30 = some ⟨oc30, od30, .func (PySem.W.fnOf "take_next" "Site.take_next" (defArgs s_Site_take_next) (defBody s_Site_take_next) (defScope s_Site_take_next) .none kV30 dc30 pm30 an30 cd30 ct30), sl30⟩)
    (c30 : PySem.W.codeIn K cd30 "Site.take_next" = true)
    (k30 : PySem.W.keepIn K (.ref f30) = true)
    (n30 : PySem.W.isFn K (.ref f30) = true)
    (a31 : PySem.W.findIn K (.ref C_Site) "write" = some (some (.ref f31)))
    (l31 : K.lookup f31 = some ⟨oc31, od31, .func (PySem.W.fnOf "write" "Site.write" (defArgs s_Site_write) (defBody s_Site_write) (defScope s_Site_write) .none kV31 dc31 pm31 an31 cd31 ct31), sl31⟩)
    (c31 : PySem.W.codeIn K cd31 "Site.write" = true)
    (k31 : PySem.W.keepIn K (.ref f31) = true)
    (n31 : PySem.W.isFn K (.ref f31) = true)
    (a32 : PySem.W.findIn K (.ref C_Site) "hear" = some (some (.ref f32)))
    (l32 : K.lookup f32 = some ⟨oc32, od32, .func (PySem.W.fnOf "hear" "Site.hear" (defArgs s_Site_hear) (defBody s_Site_hear) (defScope s_Site_hear) .none kV32 dc32 pm32 an32 cd32 ct32), sl32⟩)
    (c32 : PySem.W.codeIn K cd32 "Site.hear" = true)
    (k32 : PySem.W.keepIn K (.ref f32) = true)
    (n32 : PySem.W.isFn K (.ref f32) = true)
    (a33 : PySem.W.nsIn K mainGlobals "law" = some (some (.ref f33)))
    (l33 : K.lookup f33 = some ⟨oc33, od33, .func (PySem.W.fnOf "law" "law" (defArgs s_law) (defBody s_law) (defScope s_law) .none kV33 dc33 pm33 an33 cd33 ct33), sl33⟩)
    (c33 : PySem.W.codeIn K cd33 "law" = true)
    (k33 : PySem.W.keepIn K (.ref f33) = true)
    (z_all : PySem.W.nsIn K mainGlobals "all" = some none)
    (z_enumerate : PySem.W.nsIn K mainGlobals "enumerate" = some none)
    (z_int : PySem.W.nsIn K mainGlobals "int" = some none)
    (z_len : PySem.W.nsIn K mainGlobals "len" = some none)
    (z_max : PySem.W.nsIn K mainGlobals "max" = some none)
    (z_min : PySem.W.nsIn K mainGlobals "min" = some none)
    (z_range : PySem.W.nsIn K mainGlobals "range" = some none)
    (z_sorted : PySem.W.nsIn K mainGlobals "sorted" = some none)
    (z_tuple : PySem.W.nsIn K mainGlobals "tuple" = some none)
    (z_zip : PySem.W.nsIn K mainGlobals "zip" = some none)
    (g_NO_VECTOR : PySem.W.nsIn K mainGlobals "NO_VECTOR" = some (some (.ref q_NO_VECTOR)))
    (h_NO_VECTOR : K.lookup q_NO_VECTOR = some ⟨.type "tuple", od_NO_VECTOR, .seq #[.int 0 t_NO_VECTOR_0, .int 0 t_NO_VECTOR_1, .int 0 t_NO_VECTOR_2, .int 0 t_NO_VECTOR_3, .int 0 t_NO_VECTOR_4, .int 0 t_NO_VECTOR_5, .int 0 t_NO_VECTOR_6, .int 0 t_NO_VECTOR_7] n_NO_VECTOR, sl_NO_VECTOR⟩)
    (g_ADMIT : PySem.W.nsIn K mainGlobals "ADMIT" = some (some (.str "admit" t_ADMIT)))
    (g_BEGIN : PySem.W.nsIn K mainGlobals "BEGIN" = some (some (.str "begin" t_BEGIN)))
    (g_RETIRE : PySem.W.nsIn K mainGlobals "RETIRE" = some (some (.str "retire" t_RETIRE)))
    (g_ACK : PySem.W.nsIn K mainGlobals "ACK" = some (some (.str "ack" t_ACK)))
    (g_MOST_NEWS : PySem.W.nsIn K mainGlobals "MOST_NEWS" = some (some (.int 20 t_MOST_NEWS))) :
    ∃ fd : FuncData, (∀ (s : Shared) (v : Value), BindsTo s fd ⟨[v], []⟩ [("_law_script", v)]) ∧ ∀ base : Heap, K.In base → base.Ns mainGlobals mg → FnOk l.prog w K mg base CX0 7 fa fd ["_law_script"] (spD K 1 (d_law C_Base C_Knowing C_Site)) := by
  have e := hfa.symm.trans (PySem.W.mg_of X G a33)
  cases e
  have T : Txt K mg := ⟨PySem.W.mg_none_of X G z_all, PySem.W.mg_none_of X G z_enumerate, PySem.W.mg_none_of X G z_int, PySem.W.mg_none_of X G z_len, PySem.W.mg_none_of X G z_max, PySem.W.mg_none_of X G z_min, PySem.W.mg_none_of X G z_range, PySem.W.mg_none_of X G z_sorted, PySem.W.mg_none_of X G z_tuple, PySem.W.mg_none_of X G z_zip, ⟨.ref _, _, PySem.W.mg_of X G g_NO_VECTOR, rfl, fun _ _ _ => .tup (.inr ⟨_, _, _, h_NO_VECTOR, rfl, rfl, (by show 8 ≤ sizeLine; decide), (.cons relInt (.cons relInt (.cons relInt (.cons relInt (.cons relInt (.cons relInt (.cons relInt (.cons relInt .nil))))))))⟩) (.cons (.int _) (.cons (.int _) (.cons (.int _) (.cons (.int _) (.cons (.int _) (.cons (.int _) (.cons (.int _) (.cons (.int _) .nil))))))))⟩, ⟨.str _, _, PySem.W.mg_of X G g_ADMIT, relStr, fun _ _ _ => .str _⟩, ⟨.str _, _, PySem.W.mg_of X G g_BEGIN, relStr, fun _ _ _ => .str _⟩, ⟨.str _, _, PySem.W.mg_of X G g_RETIRE, relStr, fun _ _ _ => .str _⟩, ⟨.str _, _, PySem.W.mg_of X G g_ACK, relStr, fun _ _ _ => .str _⟩, ⟨.int _, _, PySem.W.mg_of X G g_MOST_NEWS, relInt, fun _ _ _ => .int _⟩⟩
  have Q_Base : ClF_Base K C_Base := ⟨⟨p1_Base, p2_Base, p3_Base, p4_Base⟩, na_Base_counters, na_Base_height, na_Base_registers, na_Base_sets, na_Base_texts, na_Base_vector⟩
  have Q_Knowing : ClF_Knowing K C_Knowing := ⟨⟨p1_Knowing, p2_Knowing, p3_Knowing, p4_Knowing⟩, na_Knowing_absent, na_Knowing_acks, na_Knowing_coming, na_Knowing_number, na_Knowing_over, na_Knowing_present, na_Knowing_retiring, na_Knowing_size, na_Knowing_told⟩
  have Q_Site : ClF_Site K C_Site := ⟨⟨p1_Site, p2_Site, p3_Site, p4_Site⟩, na_Site_base, na_Site_heard_vectors, na_Site_held, na_Site_knowing, na_Site_new_events, na_Site_number, na_Site_size, na_Site_vector, na_Site_waiting⟩
  have D_knows : DefAt K mg "knows" s_knows ["vector", "dot"] := ⟨f0, _, fun_mk (st := s_knows) l0 c0 k0, PySem.W.mg_of X G a0, (fun_mk (st := s_knows) l0 c0 k0).binds (ps := ["vector", "dot"]) fun _ _ _ _ _ _ us hl => match us, hl with | [_, _], _ => rfl⟩
  have D_covers : DefAt K mg "covers" s_covers ["vector", "other"] := ⟨f1, _, fun_mk (st := s_covers) l1 c1 k1, PySem.W.mg_of X G a1, (fun_mk (st := s_covers) l1 c1 k1).binds (ps := ["vector", "other"]) fun _ _ _ _ _ _ us hl => match us, hl with | [_, _], _ => rfl⟩
  have D_joined : DefAt K mg "joined" s_joined ["vector", "other"] := ⟨f2, _, fun_mk (st := s_joined) l2 c2 k2, PySem.W.mg_of X G a2, (fun_mk (st := s_joined) l2 c2 k2).binds (ps := ["vector", "other"]) fun _ _ _ _ _ _ us hl => match us, hl with | [_, _], _ => rfl⟩
  have D_raised : DefAt K mg "raised" s_raised ["vector", "dot"] := ⟨f3, _, fun_mk (st := s_raised) l3 c3 k3, PySem.W.mg_of X G a3, (fun_mk (st := s_raised) l3 c3 k3).binds (ps := ["vector", "dot"]) fun _ _ _ _ _ _ us hl => match us, hl with | [_, _], _ => rfl⟩
  have D_dot_of : DefAt K mg "dot_of" s_dot_of ["event"] := ⟨f4, _, fun_mk (st := s_dot_of) l4 c4 k4, PySem.W.mg_of X G a4, (fun_mk (st := s_dot_of) l4 c4 k4).binds (ps := ["event"]) fun _ _ _ _ _ _ us hl => match us, hl with | [_], _ => rfl⟩
  have D_Base___init__ : MakeDef K mg "Base" C_Base "Base.__init__" s_Base___init__ ["self"] := ⟨f5, _, fun_mk (st := s_Base___init__) l5 c5 k5, PySem.W.mg_of X G gC_Base, ⟨mk1_Base, a5, n5, mk2_Base⟩, (fun_mk (st := s_Base___init__) l5 c5 k5).binds (ps := ["self"]) fun _ _ _ _ _ _ us hl => match us, hl with | [_], _ => rfl⟩
  have D_with_site : DefAt K mg "with_site" s_with_site ["sites", "site"] := ⟨f6, _, fun_mk (st := s_with_site) l6 c6 k6, PySem.W.mg_of X G a6, (fun_mk (st := s_with_site) l6 c6 k6).binds (ps := ["sites", "site"]) fun _ _ _ _ _ _ us hl => match us, hl with | [_, _], _ => rfl⟩
  have D_Knowing_names_all : MethDef K C_Knowing "names_all" "Knowing.names_all" s_Knowing_names_all ["self", "site"] := ⟨f7, _, fun_mk (st := s_Knowing_names_all) l7 c7 k7, ⟨a7, n7, k7⟩, (fun_mk (st := s_Knowing_names_all) l7 c7 k7).binds (ps := ["self", "site"]) fun _ _ _ _ _ _ us hl => match us, hl with | [_, _], _ => rfl⟩
  have D_Knowing_may_take : MethDef K C_Knowing "may_take" "Knowing.may_take" s_Knowing_may_take ["self", "event", "heard"] := ⟨f8, _, fun_mk (st := s_Knowing_may_take) l8 c8 k8, ⟨a8, n8, k8⟩, (fun_mk (st := s_Knowing_may_take) l8 c8 k8).binds (ps := ["self", "event", "heard"]) fun _ _ _ _ _ _ us hl => match us, hl with | [_, _, _], _ => rfl⟩
  have D_Site_check_writer : MethDef K C_Site "check_writer" "Site.check_writer" s_Site_check_writer ["self"] := ⟨f9, _, fun_mk (st := s_Site_check_writer) l9 c9 k9, ⟨a9, n9, k9⟩, (fun_mk (st := s_Site_check_writer) l9 c9 k9).binds (ps := ["self"]) fun _ _ _ _ _ _ us hl => match us, hl with | [_], _ => rfl⟩
  have D_Site_check_place : MethDef K C_Site "check_place" "Site.check_place" s_Site_check_place ["self", "op"] := ⟨f10, _, fun_mk (st := s_Site_check_place) l10 c10 k10, ⟨a10, n10, k10⟩, (fun_mk (st := s_Site_check_place) l10 c10 k10).binds (ps := ["self", "op"]) fun _ _ _ _ _ _ us hl => match us, hl with | [_, _], _ => rfl⟩
  have D_Site_heard : MethDef K C_Site "heard" "Site.heard" s_Site_heard ["self", "other"] := ⟨f11, _, fun_mk (st := s_Site_heard) l11 c11 k11, ⟨a11, n11, k11⟩, (fun_mk (st := s_Site_heard) l11 c11 k11).binds (ps := ["self", "other"]) fun _ _ _ _ _ _ us hl => match us, hl with | [_, _], _ => rfl⟩
  have D_Site_fresh : MethDef K C_Site "fresh" "Site.fresh" s_Site_fresh ["self"] := ⟨f12, _, fun_mk (st := s_Site_fresh) l12 c12 k12, ⟨a12, n12, k12⟩, (fun_mk (st := s_Site_fresh) l12 c12 k12).binds (ps := ["self"]) fun _ _ _ _ _ _ us hl => match us, hl with | [_], _ => rfl⟩
  have D_law_row : DefAt K mg "_law_row" s_law_row ["_law_script", "_law_k"] := ⟨f13, _, fun_mk (st := s_law_row) l13 c13 k13, PySem.W.mg_of X G a13, (fun_mk (st := s_law_row) l13 c13 k13).binds (ps := ["_law_script", "_law_k"]) fun _ _ _ _ _ _ us hl => match us, hl with | [_, _], _ => rfl⟩
  have D_law_take : DefAt K mg "_law_take" s_law_take ["_law_box", "_law_size"] := ⟨f14, _, fun_mk (st := s_law_take) l14 c14 k14, PySem.W.mg_of X G a14, (fun_mk (st := s_law_take) l14 c14 k14).binds (ps := ["_law_box", "_law_size"]) fun _ _ _ _ _ _ us hl => match us, hl with | [_, _], _ => rfl⟩
  have D_law_news : DefAt K mg "_law_news" s_law_news ["_law_site", "_law_events", "_law_first"] := ⟨f15, _, fun_mk (st := s_law_news) l15 c15 k15, PySem.W.mg_of X G a15, (fun_mk (st := s_law_news) l15 c15 k15).binds (ps := ["_law_site", "_law_events", "_law_first"]) fun _ _ _ _ _ _ us hl => match us, hl with | [_, _, _], _ => rfl⟩
  have D_Knowing___init__ : MakeDef K mg "Knowing" C_Knowing "Knowing.__init__" s_Knowing___init__ ["self", "number", "size", "first"] := ⟨f16, _, fun_mk (st := s_Knowing___init__) l16 c16 k16, PySem.W.mg_of X G gC_Knowing, ⟨mk1_Knowing, a16, n16, mk2_Knowing⟩, (fun_mk (st := s_Knowing___init__) l16 c16 k16).binds (ps := ["self", "number", "size", "first"]) fun _ _ _ _ _ _ us hl => match us, hl with | [_, _, _, _], _ => rfl⟩
  have D_Knowing_join_told : MethDef K C_Knowing "join_told" "Knowing.join_told" s_Knowing_join_told ["self", "site", "vector"] := ⟨f17, _, fun_mk (st := s_Knowing_join_told) l17 c17 k17, ⟨a17, n17, k17⟩, (fun_mk (st := s_Knowing_join_told) l17 c17 k17).binds (ps := ["self", "site", "vector"]) fun _ _ _ _ _ _ us hl => match us, hl with | [_, _, _], _ => rfl⟩
  have D_Knowing_wants_ack : MethDef K C_Knowing "wants_ack" "Knowing.wants_ack" s_Knowing_wants_ack ["self"] := ⟨f18, _, fun_mk (st := s_Knowing_wants_ack) l18 c18 k18, ⟨a18, n18, k18⟩, (fun_mk (st := s_Knowing_wants_ack) l18 c18 k18).binds (ps := ["self"]) fun _ _ _ _ _ _ us hl => match us, hl with | [_], _ => rfl⟩
  have D_Site_hear_of : MethDef K C_Site "hear_of" "Site.hear_of" s_Site_hear_of ["self", "site", "vector"] := ⟨f19, _, fun_mk (st := s_Site_hear_of) l19 c19 k19, ⟨a19, n19, k19⟩, (fun_mk (st := s_Site_hear_of) l19 c19 k19).binds (ps := ["self", "site", "vector"]) fun _ _ _ _ _ _ us hl => match us, hl with | [_, _, _], _ => rfl⟩
  have D_Site_can_take : MethDef K C_Site "can_take" "Site.can_take" s_Site_can_take ["self", "event"] := ⟨f20, _, fun_mk (st := s_Site_can_take) l20 c20 k20, ⟨a20, n20, k20⟩, (fun_mk (st := s_Site_can_take) l20 c20 k20).binds (ps := ["self", "event"]) fun _ _ _ _ _ _ us hl => match us, hl with | [_, _], _ => rfl⟩
  have D_Site_let_wait : MethDef K C_Site "let_wait" "Site.let_wait" s_Site_let_wait ["self", "event"] := ⟨f21, _, fun_mk (st := s_Site_let_wait) l21 c21 k21, ⟨a21, n21, k21⟩, (fun_mk (st := s_Site_let_wait) l21 c21 k21).binds (ps := ["self", "event"]) fun _ _ _ _ _ _ us hl => match us, hl with | [_, _], _ => rfl⟩
  have D_Site_news_for : MethDef K C_Site "news_for" "Site.news_for" s_Site_news_for ["self", "receiver"] := ⟨f22, _, fun_mk (st := s_Site_news_for) l22 c22 k22, ⟨a22, n22, k22⟩, (fun_mk (st := s_Site_news_for) l22 c22 k22).binds (ps := ["self", "receiver"]) fun _ _ _ _ _ _ us hl => match us, hl with | [_, _], _ => rfl⟩
  have D_law_op : DefAt K mg "_law_op" s_law_op ["_law_box", "_law_k"] := ⟨f23, _, fun_mk (st := s_law_op) l23 c23 k23, PySem.W.mg_of X G a23, (fun_mk (st := s_law_op) l23 c23 k23).binds (ps := ["_law_box", "_law_k"]) fun _ _ _ _ _ _ us hl => match us, hl with | [_, _], _ => rfl⟩
  have D_Knowing_note : MethDef K C_Knowing "note" "Knowing.note" s_Knowing_note ["self", "event"] := ⟨f24, _, fun_mk (st := s_Knowing_note) l24 c24 k24, ⟨a24, n24, k24⟩, (fun_mk (st := s_Knowing_note) l24 c24 k24).binds (ps := ["self", "event"]) fun _ _ _ _ _ _ us hl => match us, hl with | [_, _], _ => rfl⟩
  have D_Knowing_tell : MethDef K C_Knowing "tell" "Knowing.tell" s_Knowing_tell ["self", "sender", "vector"] := ⟨f25, _, fun_mk (st := s_Knowing_tell) l25 c25 k25, ⟨a25, n25, k25⟩, (fun_mk (st := s_Knowing_tell) l25 c25 k25).binds (ps := ["self", "sender", "vector"]) fun _ _ _ _ _ _ us hl => match us, hl with | [_, _, _], _ => rfl⟩
  have D_Site_end_step : MethDef K C_Site "end_step" "Site.end_step" s_Site_end_step ["self"] := ⟨f26, _, fun_mk (st := s_Site_end_step) l26 c26 k26, ⟨a26, n26, k26⟩, (fun_mk (st := s_Site_end_step) l26 c26 k26).binds (ps := ["self"]) fun _ _ _ _ _ _ us hl => match us, hl with | [_], _ => rfl⟩
  have D_Site___init__ : MakeDef K mg "Site" C_Site "Site.__init__" s_Site___init__ ["self", "number", "size", "first"] := ⟨f27, _, fun_mk (st := s_Site___init__) l27 c27 k27, PySem.W.mg_of X G gC_Site, ⟨mk1_Site, a27, n27, mk2_Site⟩, (fun_mk (st := s_Site___init__) l27 c27 k27).binds (ps := ["self", "number", "size", "first"]) fun _ _ _ _ _ _ us hl => match us, hl with | [_, _, _, _], _ => rfl⟩
  have D_Site_take : MethDef K C_Site "take" "Site.take" s_Site_take ["self", "event"] := ⟨f28, _, fun_mk (st := s_Site_take) l28 c28 k28, ⟨a28, n28, k28⟩, (fun_mk (st := s_Site_take) l28 c28 k28).binds (ps := ["self", "event"]) fun _ _ _ _ _ _ us hl => match us, hl with | [_, _], _ => rfl⟩
  have D_Site_make : MethDef K C_Site "make" "Site.make" s_Site_make ["self", "op"] := ⟨f29, _, fun_mk (st := s_Site_make) l29 c29 k29, ⟨a29, n29, k29⟩, (fun_mk (st := s_Site_make) l29 c29 k29).binds (ps := ["self", "op"]) fun _ _ _ _ _ _ us hl => match us, hl with | [_, _], _ => rfl⟩
  have D_Site_take_next : MethDef K C_Site "take_next" "Site.take_next" s_Site_take_next ["self"] := ⟨f30, _, fun_mk (st := s_Site_take_next) l30 c30 k30, ⟨a30, n30, k30⟩, (fun_mk (st := s_Site_take_next) l30 c30 k30).binds (ps := ["self"]) fun _ _ _ _ _ _ us hl => match us, hl with | [_], _ => rfl⟩
  have D_Site_write : MethDef K C_Site "write" "Site.write" s_Site_write ["self", "op"] := ⟨f31, _, fun_mk (st := s_Site_write) l31 c31 k31, ⟨a31, n31, k31⟩, (fun_mk (st := s_Site_write) l31 c31 k31).binds (ps := ["self", "op"]) fun _ _ _ _ _ _ us hl => match us, hl with | [_, _], _ => rfl⟩
  have D_Site_hear : MethDef K C_Site "hear" "Site.hear" s_Site_hear ["self", "sender", "news"] := ⟨f32, _, fun_mk (st := s_Site_hear) l32 c32 k32, ⟨a32, n32, k32⟩, (fun_mk (st := s_Site_hear) l32 c32 k32).binds (ps := ["self", "sender", "news"]) fun _ _ _ _ _ _ us hl => match us, hl with | [_, _, _], _ => rfl⟩
  refine ⟨PySem.W.fnOf "law" "law" (defArgs s_law) (defBody s_law) (defScope s_law) .none kV33 dc33 pm33 an33 cd33 ct33, fun s v => .of_eq rfl, fun base _ _ => ?_⟩
  have F_knows : FnAt l.prog w K mg base 1 "knows" 2 d_knows := fa_knows T D_knows
  have F_covers : FnAt l.prog w K mg base 1 "covers" 2 d_covers := fa_covers T D_covers
  have F_joined : FnAt l.prog w K mg base 1 "joined" 2 d_joined := fa_joined T D_joined
  have F_raised : FnAt l.prog w K mg base 1 "raised" 2 d_raised := fa_raised T D_raised
  have F_dot_of : FnAt l.prog w K mg base 1 "dot_of" 1 d_dot_of := fa_dot_of T D_dot_of
  have F_Base___init__ : MakeAt l.prog w K mg base 1 "Base" C_Base 1 (d_Base___init__ C_Base) := fa_Base___init__ T D_Base___init__ Q_Base
  have F_with_site : FnAt l.prog w K mg base 1 "with_site" 2 d_with_site := fa_with_site T D_with_site
  have F_Knowing_names_all : MethAt l.prog w K mg base 1 C_Knowing "names_all" 2 (d_Knowing_names_all C_Knowing) := fa_Knowing_names_all T D_Knowing_names_all Q_Knowing
  have F_Knowing_may_take : MethAt l.prog w K mg base 1 C_Knowing "may_take" 3 (d_Knowing_may_take C_Knowing) := fa_Knowing_may_take T D_Knowing_may_take Q_Knowing
  have F_Site_check_writer : MethAt l.prog w K mg base 1 C_Site "check_writer" 1 (d_Site_check_writer C_Knowing C_Site) := fa_Site_check_writer T D_Site_check_writer Q_Knowing Q_Site
  have F_Site_check_place : MethAt l.prog w K mg base 1 C_Site "check_place" 2 (d_Site_check_place C_Site) := fa_Site_check_place T D_Site_check_place
  have F_Site_heard : MethAt l.prog w K mg base 1 C_Site "heard" 2 (d_Site_heard C_Site) := fa_Site_heard T D_Site_heard Q_Site
  have F_Site_fresh : MethAt l.prog w K mg base 1 C_Site "fresh" 1 (d_Site_fresh C_Site) := fa_Site_fresh T D_Site_fresh Q_Site
  have F_law_row : FnAt l.prog w K mg base 1 "_law_row" 2 d_law_row := fa_law_row T D_law_row
  have F_law_take : FnAt l.prog w K mg base 1 "_law_take" 2 d_law_take := fa_law_take T D_law_take
  have F_law_news : FnAt l.prog w K mg base 1 "_law_news" 3 (d_law_news C_Site) := fa_law_news T D_law_news Q_Site
  have F_Knowing___init__ : MakeAt l.prog w K mg base 2 "Knowing" C_Knowing 4 (d_Knowing___init__ C_Knowing) := fa_Knowing___init__ T D_Knowing___init__ Q_Knowing F_with_site
  have F_Knowing_join_told : MethAt l.prog w K mg base 2 C_Knowing "join_told" 3 (d_Knowing_join_told C_Knowing) := fa_Knowing_join_told T D_Knowing_join_told Q_Knowing F_joined
  have F_Knowing_wants_ack : MethAt l.prog w K mg base 2 C_Knowing "wants_ack" 1 (d_Knowing_wants_ack C_Knowing) := fa_Knowing_wants_ack T D_Knowing_wants_ack Q_Knowing F_Knowing_names_all
  have F_Site_hear_of : MethAt l.prog w K mg base 2 C_Site "hear_of" 3 (d_Site_hear_of C_Site) := fa_Site_hear_of T D_Site_hear_of Q_Site F_joined
  have F_Site_can_take : MethAt l.prog w K mg base 2 C_Site "can_take" 2 (d_Site_can_take C_Knowing C_Site) := fa_Site_can_take T D_Site_can_take Q_Knowing Q_Site F_covers F_Knowing_may_take
  have F_Site_let_wait : MethAt l.prog w K mg base 2 C_Site "let_wait" 2 (d_Site_let_wait C_Knowing C_Site) := fa_Site_let_wait T D_Site_let_wait Q_Knowing Q_Site F_knows F_dot_of
  have F_Site_news_for : MethAt l.prog w K mg base 2 C_Site "news_for" 2 (d_Site_news_for C_Site) := fa_Site_news_for T D_Site_news_for Q_Site F_knows F_dot_of F_Site_heard
  have F_law_op : FnAt l.prog w K mg base 2 "_law_op" 2 d_law_op := fa_law_op T D_law_op F_law_take
  have F_Knowing_note : MethAt l.prog w K mg base 3 C_Knowing "note" 2 (d_Knowing_note C_Knowing) := fa_Knowing_note T D_Knowing_note Q_Knowing F_raised F_dot_of F_Knowing_join_told
  have F_Knowing_tell : MethAt l.prog w K mg base 3 C_Knowing "tell" 3 (d_Knowing_tell C_Knowing) := fa_Knowing_tell T D_Knowing_tell Q_Knowing F_Knowing_join_told
  have F_Site_end_step : MethAt l.prog w K mg base 3 C_Site "end_step" 1 (d_Site_end_step C_Knowing C_Site) := fa_Site_end_step T D_Site_end_step Q_Knowing Q_Site F_Knowing_wants_ack
  have F_Site___init__ : MakeAt l.prog w K mg base 4 "Site" C_Site 4 (d_Site___init__ C_Base C_Knowing C_Site) := fa_Site___init__ T D_Site___init__ Q_Site F_Base___init__ F_Knowing___init__
  have F_Site_take : MethAt l.prog w K mg base 4 C_Site "take" 2 (d_Site_take C_Knowing C_Site) := fa_Site_take T D_Site_take Q_Knowing Q_Site F_raised F_dot_of F_Knowing_note F_Site_hear_of
  have F_Site_make : MethAt l.prog w K mg base 5 C_Site "make" 2 (d_Site_make C_Base C_Knowing C_Site) := fa_Site_make T D_Site_make Q_Base Q_Site F_dot_of F_Site_take
  have F_Site_take_next : MethAt l.prog w K mg base 5 C_Site "take_next" 1 (d_Site_take_next C_Knowing C_Site) := fa_Site_take_next T D_Site_take_next Q_Site F_Site_take F_Site_can_take
  have F_Site_write : MethAt l.prog w K mg base 6 C_Site "write" 2 (d_Site_write C_Base C_Knowing C_Site) := fa_Site_write T D_Site_write Q_Site F_Site_make F_Site_end_step F_Site_check_writer F_Site_check_place
  have F_Site_hear : MethAt l.prog w K mg base 6 C_Site "hear" 3 (d_Site_hear C_Knowing C_Site) := fa_Site_hear T D_Site_hear Q_Knowing Q_Site F_Knowing_tell F_Site_hear_of F_Site_end_step F_Site_take_next F_Site_let_wait
  exact fo_law T (fun_mk (st := s_law) l33 c33 k33) Q_Site F_Site___init__ F_Site_write F_Site_hear F_Site_heard F_Site_news_for F_Site_fresh F_law_row F_law_take F_law_op F_law_news
end
end PM

open PySem PySem.W PyProof.Rows
set_option maxRecDepth 100000 in
set_option maxHeartbeats 0 in
theorem PySem.Challenge.cw_partmeet_k34_news_come_in_twenties_holds : PySem.Challenge.rw_partmeet_k34_news_come_in_twenties.Holds := by
  w_on; o_law; k_head; (case hw => w_witness2)
  k_fill
  refine PM.walkT (l := PySem.Challenge.rw_partmeet_k34_news_come_in_twenties) (n := 63) (k := 7) (x := "_law_script") rfl (by decide) rfl ⟨rfl, by decide, by decide⟩ (fun w h Y => PySem.W.km_in_of Y) ?F
  case F =>
    intro w mg fa h KX G hmg hT
    refine' PM.lawAt0 (PM.all_mk KX G hmg ?gC_Base ?gC_Knowing ?gC_Site ?p1_Base ?p2_Base ?p3_Base ?p4_Base ?na_Base_counters ?na_Base_height ?na_Base_registers ?na_Base_sets ?na_Base_texts ?na_Base_vector ?mk1_Base ?mk2_Base ?p1_Knowing ?p2_Knowing ?p3_Knowing ?p4_Knowing ?na_Knowing_absent ?na_Knowing_acks ?na_Knowing_coming ?na_Knowing_number ?na_Knowing_over ?na_Knowing_present ?na_Knowing_retiring ?na_Knowing_size ?na_Knowing_told ?mk1_Knowing ?mk2_Knowing ?p1_Site ?p2_Site ?p3_Site ?p4_Site ?na_Site_base ?na_Site_heard_vectors ?na_Site_held ?na_Site_knowing ?na_Site_new_events ?na_Site_number ?na_Site_size ?na_Site_vector ?na_Site_waiting ?mk1_Site ?mk2_Site ?a0 ?l0 ?c0 ?k0 ?a1 ?l1 ?c1 ?k1 ?a2 ?l2 ?c2 ?k2 ?a3 ?l3 ?c3 ?k3 ?a4 ?l4 ?c4 ?k4 ?a5 ?l5 ?c5 ?k5 ?n5 ?a6 ?l6 ?c6 ?k6 ?a7 ?l7 ?c7 ?k7 ?n7 ?a8 ?l8 ?c8 ?k8 ?n8 ?a9 ?l9 ?c9 ?k9 ?n9 ?a10 ?l10 ?c10 ?k10 ?n10 ?a11 ?l11 ?c11 ?k11 ?n11 ?a12 ?l12 ?c12 ?k12 ?n12 ?a13 ?l13 ?c13 ?k13 ?a14 ?l14 ?c14 ?k14 ?a15 ?l15 ?c15 ?k15 ?a16 ?l16 ?c16 ?k16 ?n16 ?a17 ?l17 ?c17 ?k17 ?n17 ?a18 ?l18 ?c18 ?k18 ?n18 ?a19 ?l19 ?c19 ?k19 ?n19 ?a20 ?l20 ?c20 ?k20 ?n20 ?a21 ?l21 ?c21 ?k21 ?n21 ?a22 ?l22 ?c22 ?k22 ?n22 ?a23 ?l23 ?c23 ?k23 ?a24 ?l24 ?c24 ?k24 ?n24 ?a25 ?l25 ?c25 ?k25 ?n25 ?a26 ?l26 ?c26 ?k26 ?n26 ?a27 ?l27 ?c27 ?k27 ?n27 ?a28 ?l28 ?c28 ?k28 ?n28 ?a29 ?l29 ?c29 ?k29 ?n29 ?a30 ?l30 ?c30 ?k30 ?n30 ?a31 ?l31 ?c31 ?k31 ?n31 ?a32 ?l32 ?c32 ?k32 ?n32 ?a33 ?l33 ?c33 ?k33 ?z_all ?z_enumerate ?z_int ?z_len ?z_max ?z_min ?z_range ?z_sorted ?z_tuple ?z_zip ?g_NO_VECTOR ?h_NO_VECTOR ?g_ADMIT ?g_BEGIN ?g_RETIRE ?g_ACK ?g_MOST_NEWS) fun ns hl => PM.law_den _ _ _ ns hl
    (case gC_Base => k_is); (case gC_Knowing => k_is); (case gC_Site => k_is); (case p1_Base => k_is)
    (case p2_Base => k_is); (case p3_Base => k_is); (case p4_Base => k_is); (case na_Base_counters => k_is)
    (case na_Base_height => k_is); (case na_Base_registers => k_is); (case na_Base_sets => k_is); (case na_Base_texts => k_is)
    (case na_Base_vector => k_is); (case mk1_Base => k_is); (case mk2_Base => k_is); (case p1_Knowing => k_is)
    (case p2_Knowing => k_is); (case p3_Knowing => k_is); (case p4_Knowing => k_is); (case na_Knowing_absent => k_is)
    (case na_Knowing_acks => k_is); (case na_Knowing_coming => k_is); (case na_Knowing_number => k_is); (case na_Knowing_over => k_is)
    (case na_Knowing_present => k_is); (case na_Knowing_retiring => k_is); (case na_Knowing_size => k_is); (case na_Knowing_told => k_is)
    (case mk1_Knowing => k_is); (case mk2_Knowing => k_is); (case p1_Site => k_is); (case p2_Site => k_is)
    (case p3_Site => k_is); (case p4_Site => k_is); (case na_Site_base => k_is); (case na_Site_heard_vectors => k_is)
    (case na_Site_held => k_is); (case na_Site_knowing => k_is); (case na_Site_new_events => k_is); (case na_Site_number => k_is)
    (case na_Site_size => k_is); (case na_Site_vector => k_is); (case na_Site_waiting => k_is); (case mk1_Site => k_is)
    (case mk2_Site => k_is); (case a0 => k_is); (case l0 => k_is); (case c0 => k_is)
    (case k0 => k_is); (case a1 => k_is); (case l1 => k_is); (case c1 => k_is)
    (case k1 => k_is); (case a2 => k_is); (case l2 => k_is); (case c2 => k_is)
    (case k2 => k_is); (case a3 => k_is); (case l3 => k_is); (case c3 => k_is)
    (case k3 => k_is); (case a4 => k_is); (case l4 => k_is); (case c4 => k_is)
    (case k4 => k_is); (case a5 => k_is); (case l5 => k_is); (case c5 => k_is)
    (case k5 => k_is); (case n5 => k_is); (case a6 => k_is); (case l6 => k_is)
    (case c6 => k_is); (case k6 => k_is); (case a7 => k_is); (case l7 => k_is)
    (case c7 => k_is); (case k7 => k_is); (case n7 => k_is); (case a8 => k_is)
    (case l8 => k_is); (case c8 => k_is); (case k8 => k_is); (case n8 => k_is)
    (case a9 => k_is); (case l9 => k_is); (case c9 => k_is); (case k9 => k_is)
    (case n9 => k_is); (case a10 => k_is); (case l10 => k_is); (case c10 => k_is)
    (case k10 => k_is); (case n10 => k_is); (case a11 => k_is); (case l11 => k_is)
    (case c11 => k_is); (case k11 => k_is); (case n11 => k_is); (case a12 => k_is)
    (case l12 => k_is); (case c12 => k_is); (case k12 => k_is); (case n12 => k_is)
    (case a13 => k_is); (case l13 => k_is); (case c13 => k_is); (case k13 => k_is)
    (case a14 => k_is); (case l14 => k_is); (case c14 => k_is); (case k14 => k_is)
    (case a15 => k_is); (case l15 => k_is); (case c15 => k_is); (case k15 => k_is)
    (case a16 => k_is); (case l16 => k_is); (case c16 => k_is); (case k16 => k_is)
    (case n16 => k_is); (case a17 => k_is); (case l17 => k_is); (case c17 => k_is)
    (case k17 => k_is); (case n17 => k_is); (case a18 => k_is); (case l18 => k_is)
    (case c18 => k_is); (case k18 => k_is); (case n18 => k_is); (case a19 => k_is)
    (case l19 => k_is); (case c19 => k_is); (case k19 => k_is); (case n19 => k_is)
    (case a20 => k_is); (case l20 => k_is); (case c20 => k_is); (case k20 => k_is)
    (case n20 => k_is); (case a21 => k_is); (case l21 => k_is); (case c21 => k_is)
    (case k21 => k_is); (case n21 => k_is); (case a22 => k_is); (case l22 => k_is)
    (case c22 => k_is); (case k22 => k_is); (case n22 => k_is); (case a23 => k_is)
    (case l23 => k_is); (case c23 => k_is); (case k23 => k_is); (case a24 => k_is)
    (case l24 => k_is); (case c24 => k_is); (case k24 => k_is); (case n24 => k_is)
    (case a25 => k_is); (case l25 => k_is); (case c25 => k_is); (case k25 => k_is)
    (case n25 => k_is); (case a26 => k_is); (case l26 => k_is); (case c26 => k_is)
    (case k26 => k_is); (case n26 => k_is); (case a27 => k_is); (case l27 => k_is)
    (case c27 => k_is); (case k27 => k_is); (case n27 => k_is); (case a28 => k_is)
    (case l28 => k_is); (case c28 => k_is); (case k28 => k_is); (case n28 => k_is)
    (case a29 => k_is); (case l29 => k_is); (case c29 => k_is); (case k29 => k_is)
    (case n29 => k_is); (case a30 => k_is); (case l30 => k_is); (case c30 => k_is)
    (case k30 => k_is); (case n30 => k_is); (case a31 => k_is); (case l31 => k_is)
    (case c31 => k_is); (case k31 => k_is); (case n31 => k_is); (case a32 => k_is)
    (case l32 => k_is); (case c32 => k_is); (case k32 => k_is); (case n32 => k_is)
    (case a33 => k_is); (case l33 => k_is); (case c33 => k_is); (case k33 => k_is)
    (case z_all => k_is); (case z_enumerate => k_is); (case z_int => k_is); (case z_len => k_is)
    (case z_max => k_is); (case z_min => k_is); (case z_range => k_is); (case z_sorted => k_is)
    (case z_tuple => k_is); (case z_zip => k_is); (case g_NO_VECTOR => k_is); (case h_NO_VECTOR => k_is)
    (case g_ADMIT => k_is); (case g_BEGIN => k_is); (case g_RETIRE => k_is); (case g_ACK => k_is)
    (case g_MOST_NEWS => k_is)
