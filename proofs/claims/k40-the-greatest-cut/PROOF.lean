import PyProof.Rows.All
import HandS.ForMost
import HandS.ForExc
import HandS.TupAny
import HandS.Deep
import HandS.IsInst
import HandS.Zip
import HandS.Conv
import HandS.More
import HandS.Flow
import HandS.Style
import HandS.Strs
import HandS.SetKeys
import HandS.TupSets
import HandS.SortKw
import HandS.SortInts
import HandS.Wide
import HandS.TupLe
import HandS.TupMul
import HandS.WordsExc
import PyProof.StrOps2
import PySem.Challenge.RW_partmeet_k40_the_greatest_cut
import Wide.All
import OpenK.AllK
import Wide.FinOn
set_option Elab.async false
set_option linter.all false
set_option maxRecDepth 100000
set_option autoImplicit false
/-! Values without a heap, symbolic cells, and how they lie in the layer's abstract heap. -/
namespace PM
open PySem PySem.Spec L2
open PyProof.Rows hiding St

/-- pure values; a list here never changes any more; ref: a cell of the symbolic heap -/
inductive PV where
  | non | bl (b : Bool) | int (i : Int) | str (x : Str) | tup (xs : List PV) | lst (xs : List PV) | ref (n : Nat)

/-- a cell: what may change -/
inductive Cell where
  | lst (xs : List PV)
  | dK (kvs : List (Key × PV))
  | dT (kvs : List (List Key × PV))
  | ins (C : Addr) (fs : List (Str × PV))

/-- what a name or an expression may hold: a value; a list of its own; a list that is only read; the script -/
inductive SV where
  | val (p : PV) | own (xs : List PV) | brw (xs : List PV) | scr (ns : List Int)
@[simp] def SV.isB : SV → Bool
  | .brw _ => true
  | .scr _ => true
  | _ => false
@[simp] def SV.isOwn : SV → Bool
  | .own _ => true
  | _ => false

abbrev Hs := List Cell
abbrev Env := List (Option SV)
abbrev VQ := SV → Hs → Prop
abbrev XQ := Addr → Hs → Prop
abbrev DE := Env → Hs → VQ → XQ → Prop
abbrev DA := Env → Hs → (List SV → Hs → Prop) → XQ → Prop
abbrev DT := Env → Hs → (Bool → Hs → Prop) → XQ → Prop
structure DEnds where
  nx : Env → Hs → Prop
  rt : VQ
  bk : Env → Hs → Prop := fun _ _ => False
  ct : Env → Hs → Prop := fun _ _ => False
  ex : Addr → Env → Hs → Prop := fun _ _ _ => False
abbrev DS := DEnds → Env → Hs → Prop
abbrev DF := List SV → Hs → VQ → XQ → Prop

/-! ### how values lie -/
abbrev Ad := Addr → Prop
def KTup (K : PySem.W.Frag) (a : Addr) (xs : List V) : Prop :=
  ∃ (o : Obj) (its : Array Value) (n : Nat), K.lookup a = some o ∧ o.cls = .type "tuple" ∧ o.data = .seq its n ∧ its.size ≤ sizeLine ∧ Vals xs its.toList
def TupAt (K : PySem.W.Frag) (Ex : Ad) (H : Hp) (a : Addr) (xs : List V) : Prop := (Rd H a (.tup xs) ∧ ¬ Ex a) ∨ KTup K a xs
def LstAt (Ex : Ad) (H : Hp) (a : Addr) (xs : List V) : Prop := Rd H a (.lst xs) ∧ ¬ Ex a
theorem TupAt.sq {K : PySem.W.Frag} {Ex : Ad} {H : Hp} {a : Addr} {xs : List V} (h : TupAt K Ex H a xs) : SqT K H a xs := h.imp And.left id
theorem LstAt.sq {K : PySem.W.Frag} {Ex : Ad} {H : Hp} {a : Addr} {xs : List V} (h : LstAt Ex H a xs) : SqL K H a xs := .inl h.1

mutual
inductive Rep (K : PySem.W.Frag) (Ex : Ad) (m : List Addr) (H : Hp) : V → PV → Prop
  | non : Rep K Ex m H .non .non
  | bl (b : Bool) : Rep K Ex m H (.bl b) (.bl b)
  | int (i : Int) : Rep K Ex m H (.int i) (.int i)
  | str (x : Str) : Rep K Ex m H (.str x) (.str x)
  | tup {a : Addr} {vs : List V} {xs : List PV} (h : TupAt K Ex H a vs) (r : RepL K Ex m H vs xs) : Rep K Ex m H (.ref a) (.tup xs)
  | lst {a : Addr} {vs : List V} {xs : List PV} (h : LstAt Ex H a vs) (r : RepL K Ex m H vs xs) : Rep K Ex m H (.ref a) (.lst xs)
  | ref {n : Nat} {a : Addr} (h : m[n]? = some a) : Rep K Ex m H (.ref a) (.ref n)
inductive RepL (K : PySem.W.Frag) (Ex : Ad) (m : List Addr) (H : Hp) : List V → List PV → Prop
  | nil : RepL K Ex m H [] []
  | cons {v : V} {p : PV} {vs : List V} {ps : List PV} (h : Rep K Ex m H v p) (r : RepL K Ex m H vs ps) : RepL K Ex m H (v :: vs) (p :: ps)
end

/-- what is known outside Ex stays known outside Ex' -/
def Kp (Ex : Ad) (H : Hp) (Ex' : Ad) (H' : Hp) : Prop := ∀ a o, H a = some o → ¬ Ex a → H' a = some o ∧ ¬ Ex' a
theorem Kp.rd {Ex Ex' : Ad} {H H' : Hp} {a : Addr} {u : HO} (k : Kp Ex H Ex' H') (h : Rd H a u) (n : ¬ Ex a) : Rd H' a u ∧ ¬ Ex' a := by
  rcases h with h | ⟨o, h⟩
  · exact ⟨.inl (k _ _ h n).1, (k _ _ h n).2⟩
  · exact ⟨.inr ⟨o, (k _ _ h n).1⟩, (k _ _ h n).2⟩
section
variable {K : PySem.W.Frag} {Ex Ex' : Ad} {m m' : List Addr} {H H' : Hp}
theorem TupAt.mono {a : Addr} {xs : List V} (h : TupAt K Ex H a xs) (k : Kp Ex H Ex' H') : TupAt K Ex' H' a xs := by
  rcases h with ⟨h, n⟩ | h
  · exact .inl (k.rd h n)
  · exact .inr h
theorem LstAt.mono {a : Addr} {xs : List V} (h : LstAt Ex H a xs) (k : Kp Ex H Ex' H') : LstAt Ex' H' a xs := k.rd h.1 h.2
mutual
theorem Rep.mono {v : V} {p : PV} (k : Kp Ex H Ex' H') (e : ∃ ms, m' = m ++ ms) : Rep K Ex m H v p → Rep K Ex' m' H' v p
  | .non => .non
  | .bl b => .bl b
  | .int i => .int i
  | .str x => .str x
  | .tup h r => .tup (h.mono k) (RepL.mono k e r)
  | .lst h r => .lst (h.mono k) (RepL.mono k e r)
  | .ref h => .ref (by
      obtain ⟨ms, rfl⟩ := e
      exact List.getElem?_append_left (List.getElem?_eq_some_iff.mp h).1 ▸ h)
theorem RepL.mono {vs : List V} {ps : List PV} (k : Kp Ex H Ex' H') (e : ∃ ms, m' = m ++ ms) : RepL K Ex m H vs ps → RepL K Ex' m' H' vs ps
  | .nil => .nil
  | .cons h r => .cons (Rep.mono k e h) (RepL.mono k e r)
end
theorem RepL.length {vs : List V} {ps : List PV} : RepL K Ex m H vs ps → vs.length = ps.length
  | .nil => rfl
  | .cons _ r => by simp [r.length]
theorem RepL.append : ∀ {vs ws : List V} {ps qs : List PV}, RepL K Ex m H vs ps → RepL K Ex m H ws qs → RepL K Ex m H (vs ++ ws) (ps ++ qs)
  | _, _, _, _, .nil, s => s
  | _, _, _, _, .cons h r, s => .cons h (r.append s)
theorem RepL.get : ∀ {vs : List V} {ps : List PV} {i : Nat} {p : PV}, RepL K Ex m H vs ps → ps[i]? = some p → ∃ v, vs[i]? = some v ∧ Rep K Ex m H v p
  | _, _, _, _, .nil, e => by simp at e
  | _, _, 0, _, .cons h _, e => by
    obtain rfl := Option.some.inj e
    exact ⟨_, rfl, h⟩
  | _, _, i + 1, _, .cons _ r, e => r.get (i := i) e
theorem RepL.get' : ∀ {vs : List V} {ps : List PV} {i : Nat} {v : V}, RepL K Ex m H vs ps → vs[i]? = some v → ∃ p, ps[i]? = some p ∧ Rep K Ex m H v p
  | _, _, _, _, .nil, e => by simp at e
  | _, _, 0, _, .cons h _, e => by
    obtain rfl := Option.some.inj e
    exact ⟨_, rfl, h⟩
  | _, _, i + 1, _, .cons _ r, e => r.get' (i := i) e
theorem RepL.set : ∀ {vs : List V} {ps : List PV} {v : V} {p : PV} (i : Nat), RepL K Ex m H vs ps → Rep K Ex m H v p → RepL K Ex m H (vs.set i v) (ps.set i p)
  | _, _, _, _, _, .nil, _ => .nil
  | _, _, _, _, 0, .cons _ r, q => .cons q r
  | _, _, _, _, i + 1, .cons h r, q => .cons h (r.set i q)
theorem RepL.take : ∀ {vs : List V} {ps : List PV} (n : Nat), RepL K Ex m H vs ps → RepL K Ex m H (vs.take n) (ps.take n)
  | _, _, 0, _ => .nil
  | _, _, _ + 1, .nil => .nil
  | _, _, n + 1, .cons h r => .cons h (r.take n)
theorem RepL.drop : ∀ {vs : List V} {ps : List PV} (n : Nat), RepL K Ex m H vs ps → RepL K Ex m H (vs.drop n) (ps.drop n)
  | _, _, 0, r => r
  | _, _, _ + 1, .nil => .nil
  | _, _, n + 1, .cons _ r => r.drop n
theorem RepL.ints : ∀ {vs : List V} {ns : List Int}, RepL K Ex m H vs (ns.map PV.int) → vs = ns.map V.int
  | _, [], .nil => rfl
  | _, n :: ns, .cons h r => by
    cases h
    rw [RepL.ints r]
    rfl
theorem RepL.of_ints : ∀ {ns : List Int}, RepL K Ex m H (ns.map V.int) (ns.map PV.int)
  | [] => .nil
  | n :: ns => .cons (.int n) RepL.of_ints
end

/-! ### names -/
def OwnAt (σ : St) (env : Env) (a : Addr) : Prop := ∃ (i : Nat) (xs : List PV), env[i]? = some (some (SV.own xs)) ∧ σ[i]? = some (some (V.ref a))
/-- the frame of a call: G what stands outside and must not be met, H0, m0 the heap and cells at its beginning, pins: values that are kept beside the names -/
structure Ctx where
  K : PySem.W.Frag
  G : Ad
  T : Ad := fun _ => False
  H0 : Hp
  m0 : List Addr
  pins : List (V × SV) := []
def Ctx.GT (C : Ctx) (a : Addr) : Prop := C.G a ∨ C.T a
def ExOf (C : Ctx) (σ : St) (env : Env) (m : List Addr) : Ad := fun a => C.GT a ∨ OwnAt σ env a ∨ a ∈ m
/-- how a slot's or an expression's value lies; N: what is said of the place of a list of its own -/
def RepS (C : Ctx) (Ex : Ad) (m : List Addr) (N : Ad) (H : Hp) (v : V) : SV → Prop
  | .val p => Rep C.K Ex m H v p
  | .own xs => ∃ a vs, v = .ref a ∧ H a = some (.lst vs) ∧ N a ∧ a ∉ m ∧ RepL C.K (fun b => Ex b ∨ b = a) m H vs xs
  | .brw xs => ∃ a vs, v = .ref a ∧ LstAt (· ∈ m) H a vs ∧ RepL C.K Ex m H vs xs
  | .scr ns => ∃ a, v = .ref a ∧ ((Rd H a (.lst (ns.map V.int)) ∧ a ∉ m) ∨ ∀ H', SqL C.K H' a (ns.map V.int))

def CellR (K : PySem.W.Frag) (Ex : Ad) (m : List Addr) (H : Hp) (a : Addr) : Cell → Prop
  | .lst xs => ∃ vs, H a = some (.lst vs) ∧ RepL K Ex m H vs xs
  | .dK kvs => ∃ vs, H a = some (.dK vs) ∧ vs.map (·.1) = kvs.map (·.1) ∧ RepL K Ex m H (vs.map (·.2)) (kvs.map (·.2))
  | .dT kvs => ∃ vs, H a = some (.dT vs) ∧ vs.map (·.1) = kvs.map (·.1) ∧ RepL K Ex m H (vs.map (·.2)) (kvs.map (·.2))
  | .ins D fs => ∃ dx vs, H a = some (.ins D dx vs) ∧ H dx = some (.own a) ∧ ¬ Ex dx ∧ vs.map (·.1) = fs.map (·.1) ∧ RepL K Ex m H (vs.map (·.2)) (fs.map (·.2))
structure HeapR (K : PySem.W.Frag) (Ex : Ad) (m : List Addr) (H : Hp) (h : Hs) : Prop where
  len : m.length = h.length
  nd : m.Nodup
  at_ : ∀ (n : Nat) (a : Addr) (c : Cell), m[n]? = some a → h[n]? = some c → CellR K Ex m H a c

/-- a list that is read stands apart from the lists of one's own -/
def NB (C : Ctx) (σ : St) (env : Env) (v : V) : SV → Prop
  | .brw _ => ∀ b, v = .ref b → ¬ OwnAt σ env b ∧ ¬ C.T b
  | .scr ns => ∀ b, v = .ref b → (∀ H', SqL C.K H' b (ns.map V.int)) ∨ (¬ OwnAt σ env b ∧ ¬ C.T b)
  | _ => True
def SlotR (C : Ctx) (σ : St) (env : Env) (m : List Addr) (H : Hp) (v : V) (sv : SV) : Prop :=
  RepS C (ExOf C σ env m) m (fun a => C.H0 a = none) H v sv ∧ NB C σ env v sv
structure Rel (C : Ctx) (m : List Addr) (σ : St) (H : Hp) (env : Env) (h : Hs) : Prop where
  len : σ.length = env.length
  slot : ∀ (i : Nat) (sv : SV), env[i]? = some (some sv) → ∃ v, σ[i]? = some (some v) ∧ SlotR C σ env m H v sv
  pin : ∀ p ∈ C.pins, SlotR C σ env m H p.1 p.2 ∧ p.2.isOwn = false
  uniq : ∀ (i j : Nat) (xs ys : List PV) (a : Addr), env[i]? = some (some (SV.own xs)) → env[j]? = some (some (SV.own ys)) → σ[i]? = some (some (V.ref a)) → σ[j]? = some (some (V.ref a)) → i = j
  hm : HeapR C.K (ExOf C σ env m) m H h
  keep : ∀ b o, C.H0 b = some o → b ∉ C.m0 → H b = some o
  dom : ∀ b, C.H0 b ≠ none → H b ≠ none
  pre : ∃ ms, m = C.m0 ++ ms ∧ ∀ b ∈ ms, C.H0 b = none
  gdom : ∀ a, C.GT a → H a ≠ none
  gown : ∀ a, C.GT a → ¬ OwnAt σ env a

/-- a step of an expression: the cells may change, new things may stand -/
structure StE (m : List Addr) (H : Hp) (m' : List Addr) (H' : Hp) : Prop where
  keep : ∀ b o, H b = some o → b ∉ m → H' b = some o
  dom : ∀ b, H b ≠ none → H' b ≠ none
  ext : ∃ ms, m' = m ++ ms ∧ ∀ b ∈ ms, H b = none
theorem StE.refl (m : List Addr) (H : Hp) : StE m H m H := ⟨fun _ _ h _ => h, fun _ h => h, [], by simp, by simp⟩
theorem StE.trans {m m1 m2 : List Addr} {H H1 H2 : Hp} (a : StE m H m1 H1) (b : StE m1 H1 m2 H2) : StE m H m2 H2 := by
  obtain ⟨ms, rfl, n1⟩ := a.ext
  obtain ⟨ns, rfl, n2⟩ := b.ext
  refine ⟨fun c o h n => b.keep c o (a.keep c o h n) fun q => ?_, fun c h => b.dom c (a.dom c h), ms ++ ns, by simp, fun c hc => ?_⟩
  · rcases List.mem_append.mp q with q | q
    · exact n q
    · rw [n1 c q] at h
      cases h
  · rcases List.mem_append.mp hc with q | q
    · exact n1 c q
    · cases e : H c with
      | none => rfl
      | some o => exact absurd (n2 c q) (a.dom c (by rw [e]; simp))
theorem StE.notin {m m' : List Addr} {H H' : Hp} (a : StE m H m' H') {b : Addr} (h : H b ≠ none) (n : b ∉ m) : b ∉ m' := by
  obtain ⟨ms, rfl, n1⟩ := a.ext
  intro q
  rcases List.mem_append.mp q with q | q
  · exact n q
  · exact h (n1 b q)
theorem StE.ex' {m m' : List Addr} {H H' : Hp} (a : StE m H m' H') : ∃ ms, m' = m ++ ms := by
  obtain ⟨ms, e, _⟩ := a.ext
  exact ⟨ms, e⟩
/-- the cells' facts alone -/
theorem StE.kp {m m' : List Addr} {H H' : Hp} (a : StE m H m' H') {Ex Ex' : Ad} (h1 : ∀ b, b ∈ m → Ex b) (h2 : ∀ b, Ex' b → Ex b ∨ b ∈ m') : Kp Ex H Ex' H' := fun b o e n => by
  have nm : b ∉ m := fun q => n (h1 b q)
  exact ⟨a.keep b o e nm, fun q => (h2 b q).elim n (a.notin (by rw [e]; simp) nm)⟩
theorem StE.same {m : List Addr} {H H' : Hp} (s : Same H H') : StE m H m H' where
  keep := fun b o e _ => s b o e
  dom := fun b h q => by
    cases e : H b with
    | none => exact h e
    | some o =>
      rw [s b o e] at q
      cases q
  ext := ⟨[], by simp, by simp⟩
theorem Same.upd {H : Hp} {p : Addr} {o : HO} (n : H p = none) : Same H (upd H p o) := fun b u e => by
  rw [upd_ne (ne_of_none e n)]
  exact e
theorem StE.new {m : List Addr} {H : Hp} {p : Addr} {o : HO} (n : H p = none) : StE m H m (upd H p o) := StE.same (Same.upd n)

section
variable {C : Ctx} {m m' : List Addr} {σ : St} {H H' : Hp} {env : Env} {h h' : Hs}
theorem Rel.ownDom (R : Rel C m σ H env h) {a : Addr} (o : OwnAt σ env a) : ∃ vs, H a = some (.lst vs) ∧ C.H0 a = none ∧ a ∉ m := by
  obtain ⟨i, xs, e, s⟩ := o
  obtain ⟨v, s', ⟨a', vs, rfl, ha, h0, nm, _⟩, _⟩ := R.slot i _ e
  rw [s] at s'
  cases s'
  exact ⟨vs, ha, h0, nm⟩
theorem Rel.mDom (R : Rel C m σ H env h) {a : Addr} (o : a ∈ m) : H a ≠ none := by
  obtain ⟨n, hn, e⟩ := List.getElem_of_mem o
  have e1 : m[n]? = some a := by rw [List.getElem?_eq_getElem hn, e]
  obtain ⟨c, hc⟩ : ∃ c, h[n]? = some c := ⟨h[n]'(by rw [← R.hm.len]; exact hn), List.getElem?_eq_getElem _⟩
  have q := R.hm.at_ n a c e1 hc
  cases c with
  | lst xs => obtain ⟨vs, q, _⟩ := q; rw [q]; simp
  | dK xs => obtain ⟨vs, q, _⟩ := q; rw [q]; simp
  | dT xs => obtain ⟨vs, q, _⟩ := q; rw [q]; simp
  | ins D fs => obtain ⟨dx, vs, q, _⟩ := q; rw [q]; simp
theorem Rel.exDom (R : Rel C m σ H env h) {a : Addr} (o : ExOf C σ env m a) : H a ≠ none := by
  rcases o with g | o | o
  · exact R.gdom a g
  · obtain ⟨vs, e, _⟩ := R.ownDom o
    rw [e]; simp
  · exact R.mDom o
/-- a new place is not met by anything -/
theorem Rel.exNew (R : Rel C m σ H env h) {p : Addr} (n : H p = none) : ¬ ExOf C σ env m p := fun q => R.exDom q n
theorem ExOf.step {b : Addr} (q : ExOf C σ env m' b) : ExOf C σ env m b ∨ b ∈ m' := by
  rcases q with q | q | q
  · exact .inl (.inl q)
  · exact .inl (.inr (.inl q))
  · exact .inr q
theorem Rel.kp (R : Rel C m σ H env h) (S : StE m H m' H') : Kp (ExOf C σ env m) H (ExOf C σ env m') H' :=
  S.kp (fun _ q => .inr (.inr q)) fun _ q => q.step
/-- an expression's value behind a further step -/
theorem RepS.step {N N' : Ad} {v : V} {sv : SV} (r : RepS C (ExOf C σ env m) m N H v sv) (S : StE m H m' H') (hN : ∀ a, N a → N' a) : RepS C (ExOf C σ env m') m' N' H' v sv := by
  have k : Kp (ExOf C σ env m) H (ExOf C σ env m') H' := S.kp (fun _ q => .inr (.inr q)) fun _ q => q.step
  cases sv with
  | val p => exact Rep.mono k S.ex' r
  | own xs =>
    obtain ⟨a, vs, rfl, ha, n, nm, q⟩ := r
    refine ⟨a, vs, rfl, S.keep _ _ ha nm, hN a n, S.notin (by rw [ha]; simp) nm, RepL.mono ?_ S.ex' q⟩
    refine S.kp (fun _ q => .inl (.inr (.inr q))) fun b q => ?_
    rcases q with q | q
    · exact q.step.imp .inl id
    · exact .inl (.inr q)
  | brw xs =>
    obtain ⟨a, vs, rfl, ha, q⟩ := r
    exact ⟨a, vs, rfl, ha.mono (S.kp (fun _ q => q) fun b q => .inr q), RepL.mono k S.ex' q⟩
  | scr ns =>
    obtain ⟨a, rfl, ha⟩ := r
    refine ⟨a, rfl, ha.imp (fun ha => ?_) id⟩
    obtain ⟨h1, h2⟩ := LstAt.mono (Ex := (· ∈ m)) (Ex' := (· ∈ m')) ha (S.kp (fun _ q => q) fun b q => .inr q)
    exact ⟨h1, h2⟩
/-- the names behind a step, if the cells are told anew -/
theorem Rel.step (R : Rel C m σ H env h) (S : StE m H m' H') (hm : HeapR C.K (ExOf C σ env m') m' H' h') : Rel C m' σ H' env h' where
  len := R.len
  slot := fun i sv e => by
    obtain ⟨v, s, r, b⟩ := R.slot i sv e
    exact ⟨v, s, r.step S fun _ q => q, b⟩
  pin := fun p hp => ⟨⟨(R.pin p hp).1.1.step S fun _ q => q, (R.pin p hp).1.2⟩, (R.pin p hp).2⟩
  uniq := R.uniq
  hm := hm
  keep := fun b o e n => by
    obtain ⟨ms, rfl, hn⟩ := R.pre
    refine S.keep b o (R.keep b o e n) fun q => ?_
    rcases List.mem_append.mp q with q | q
    · exact n q
    · rw [hn b q] at e
      cases e
  dom := fun b q => S.dom b (R.dom b q)
  pre := by
    obtain ⟨ms, rfl, hn⟩ := R.pre
    obtain ⟨ns, rfl, hn2⟩ := S.ext
    refine ⟨ms ++ ns, by simp, fun b hb => ?_⟩
    rcases List.mem_append.mp hb with q | q
    · exact hn b q
    · cases e : C.H0 b with
      | none => rfl
      | some o => exact absurd (hn2 b q) (R.dom b (by rw [e]; simp))
  gdom := fun a q => S.dom a (R.gdom a q)
  gown := R.gown
theorem CellR.mono {K : PySem.W.Frag} {Ex Ex' : Ad} {a : Addr} {c : Cell} (r : CellR K Ex m H a c) (k : Kp Ex H Ex' H') (e : ∃ ms, m' = m ++ ms) (s : H' a = H a) : CellR K Ex' m' H' a c := by
  cases c with
  | lst xs =>
    obtain ⟨vs, h, q⟩ := r
    exact ⟨vs, s.trans h, q.mono k e⟩
  | dK xs =>
    obtain ⟨vs, h, z, q⟩ := r
    exact ⟨vs, s.trans h, z, q.mono k e⟩
  | dT xs =>
    obtain ⟨vs, h, z, q⟩ := r
    exact ⟨vs, s.trans h, z, q.mono k e⟩
  | ins D fs =>
    obtain ⟨dx, vs, h, hd, nd, z, q⟩ := r
    exact ⟨dx, vs, s.trans h, (k dx _ hd nd).1, (k dx _ hd nd).2, z, q.mono k e⟩
/-- new things alone -/
theorem Rel.grow (R : Rel C m σ H env h) (s : Same H H') : Rel C m σ H' env h := by
  have S : StE m H m H' := StE.same s
  refine R.step S ⟨R.hm.len, R.hm.nd, fun n a c e f => (R.hm.at_ n a c e f).mono (R.kp S) ⟨[], by simp⟩ ?_⟩
  cases q : H a with
  | none => exact absurd q (R.mDom (List.mem_of_getElem? e))
  | some o => exact s a o q
end
end PM

namespace PM
open PySem PySem.Spec L2
open PyProof.Rows hiding St

/-! ### contexts with temporary lists outside -/
def Ctx.own (C : Ctx) (v : V) : SV → Ctx
  | .own _ => { C with T := fun b => C.T b ∨ V.ref b = v }
  | _ => C
theorem Ctx.own_K (C : Ctx) (v : V) (sv : SV) : (C.own v sv).K = C.K := by cases sv <;> rfl
theorem Ctx.own_H0 (C : Ctx) (v : V) (sv : SV) : (C.own v sv).H0 = C.H0 := by cases sv <;> rfl
theorem Ctx.own_m0 (C : Ctx) (v : V) (sv : SV) : (C.own v sv).m0 = C.m0 := by cases sv <;> rfl
theorem Ctx.own_pins (C : Ctx) (v : V) (sv : SV) : (C.own v sv).pins = C.pins := by cases sv <;> rfl
theorem Ctx.own_T (C : Ctx) (v : V) (sv : SV) {b : Addr} (h : C.T b) : (C.own v sv).T b := by
  cases sv <;> first | exact h | exact .inl h
theorem Ctx.own_GT (C : Ctx) (v : V) (sv : SV) {b : Addr} (h : C.GT b) : (C.own v sv).GT b := h.imp (fun q => by cases sv <;> exact q) (C.own_T v sv)
section
variable {C C' : Ctx} {m m' : List Addr} {σ : St} {H H' : Hp} {env : Env} {h h' : Hs}
theorem ExOf.le (g : ∀ b, C.GT b → C'.GT b) {b : Addr} (q : ExOf C σ env m b) : ExOf C' σ env m b := by
  rcases q with q | q | q
  · exact .inl (g b q)
  · exact .inr (.inl q)
  · exact .inr (.inr q)
theorem Kp.le {Ex Ex' : Ad} (g : ∀ b, Ex' b → Ex b) : Kp Ex H Ex' H := fun a o e n => ⟨e, fun q => n (g a q)⟩
theorem RepS.less {Ex Ex' N N' : Ad} {v : V} {sv : SV} (r : RepS C Ex m N H v sv) (e : C'.K = C.K) (g : ∀ b, Ex' b → Ex b) (n : ∀ b, N b → N' b) : RepS C' Ex' m N' H v sv := by
  cases sv with
  | val p =>
    show Rep C'.K Ex' m H v p
    rw [e]
    exact Rep.mono (Kp.le g) ⟨[], by simp⟩ r
  | own xs =>
    obtain ⟨a, vs, rfl, ha, na, nm, q⟩ := r
    refine ⟨a, vs, rfl, ha, n a na, nm, e ▸ RepL.mono (Kp.le fun b q => ?_) ⟨[], by simp⟩ q⟩
    exact q.imp (g b) id
  | brw xs =>
    obtain ⟨a, vs, rfl, ha, q⟩ := r
    exact ⟨a, vs, rfl, ha, e ▸ RepL.mono (Kp.le g) ⟨[], by simp⟩ q⟩
  | scr ns =>
    obtain ⟨a, rfl, ha⟩ := r
    exact ⟨a, rfl, ha.imp id fun q H' => by rw [e]; exact q H'⟩
theorem NB.less {v : V} {sv : SV} (n : NB C' σ env v sv) (eK : C'.K = C.K) (t : ∀ b, C.T b → C'.T b) : NB C σ env v sv := by
  cases sv with
  | val p => trivial
  | own xs => trivial
  | brw xs => exact fun b e => ⟨(n b e).1, fun q => (n b e).2 (t b q)⟩
  | scr ns =>
    intro b e
    rcases n b e with q | q
    · exact .inl fun H' => by rw [← eK]; exact q H'
    · exact .inr ⟨q.1, fun z => q.2 (t b z)⟩
theorem Rel.less (R : Rel C' m σ H env h) (eK : C'.K = C.K) (e0 : C'.H0 = C.H0) (em : C'.m0 = C.m0) (g : ∀ b, C.GT b → C'.GT b) (t : ∀ b, C.T b → C'.T b) (ep : ∀ p ∈ C.pins, p ∈ C'.pins) : Rel C m σ H env h where
  len := R.len
  slot := fun i sv e => by
    obtain ⟨v, s, r, b⟩ := R.slot i sv e
    exact ⟨v, s, r.less eK.symm (fun b q => q.le g) fun b q => e0 ▸ q, b.less eK t⟩
  pin := fun p hp => ⟨⟨(R.pin p (ep p hp)).1.1.less eK.symm (fun b q => q.le g) fun b q => e0 ▸ q, (R.pin p (ep p hp)).1.2.less eK t⟩, (R.pin p (ep p hp)).2⟩
  uniq := R.uniq
  hm := ⟨R.hm.len, R.hm.nd, fun n a c e f => by
    have q := R.hm.at_ n a c e f
    rw [eK] at q
    exact q.mono (Kp.le fun b q => q.le g) ⟨[], by simp⟩ rfl⟩
  keep := by rw [← e0, ← em]; exact R.keep
  dom := by rw [← e0]; exact R.dom
  pre := by rw [← e0, ← em]; exact R.pre
  gdom := fun a q => R.gdom a (g a q)
  gown := fun a q => R.gown a (g a q)
theorem Rel.drop {v : V} {sv : SV} (R : Rel (C.own v sv) m σ H env h) : Rel C m σ H env h :=
  R.less (C.own_K v sv) (C.own_H0 v sv) (C.own_m0 v sv) (fun _ => C.own_GT v sv) (fun _ => C.own_T v sv) fun _ hp => (C.own_pins v sv).symm ▸ hp
/-- a new thing that nothing meets -/
theorem Rel.fresh (R : Rel C m σ H env h) {p : Addr} {o : HO} (n : H p = none) (xs : List PV) : Rel (C.own (.ref p) (.own xs)) m σ (upd H p o) env h := by
  have k : Kp (ExOf C σ env m) H (ExOf (C.own (.ref p) (.own xs)) σ env m) (upd H p o) := fun b u e q => by
    have nb : b ≠ p := ne_of_none e n
    refine ⟨by rw [upd_ne nb]; exact e, fun z => ?_⟩
    rcases z with z | z | z
    · rcases z with z | z | z
      · exact q (.inl (.inl z))
      · exact q (.inl (.inr z))
      · exact nb (V.ref.inj z)
    · exact q (.inr (.inl z))
    · exact q (.inr (.inr z))
  have up : ∀ b, H b ≠ none → upd H p o b = H b := fun b q => upd_ne fun e => q (by rw [e]; exact n)
  have slots : ∀ v sv, SlotR C σ env m H v sv → SlotR (C.own (.ref p) (.own xs)) σ env m (upd H p o) v sv := fun v sv ⟨r, bb⟩ => by
    refine ⟨?_, ?_⟩
    rotate_left
    · cases sv with
      | val p => trivial
      | own xs => trivial
      | brw ys =>
        obtain ⟨a, vs, rfl, ha, q⟩ := r
        intro b e
        cases e
        refine ⟨(bb a rfl).1, fun z => z.elim (bb a rfl).2 fun z => ?_⟩
        cases z
        rcases ha.1 with z | ⟨_, z⟩
        · rw [n] at z
          cases z
        · rw [n] at z
          cases z
      | scr ns =>
        obtain ⟨a, rfl, ha⟩ := r
        intro b e
        cases e
        rcases bb a rfl with q | q
        · exact .inl q
        · rcases ha with ha | ha
          · refine .inr ⟨q.1, fun z => z.elim q.2 fun z => ?_⟩
            cases z
            rcases ha.1 with z | ⟨_, z⟩
            · rw [n] at z
              cases z
            · rw [n] at z
              cases z
          · exact .inl ha
    cases sv with
    | val p => exact Rep.mono k ⟨[], by simp⟩ r
    | own ys =>
      obtain ⟨a, vs, rfl, ha, na, nm, q⟩ := r
      have nap : a ≠ p := ne_of_none ha n
      refine ⟨a, vs, rfl, by rw [upd_ne nap]; exact ha, na, nm, RepL.mono (fun b u eb nb => ?_) ⟨[], by simp⟩ q⟩
      obtain ⟨k1, k2⟩ := k b u eb fun z => nb (.inl z)
      exact ⟨k1, fun z => z.elim k2 fun z => nb (.inr z)⟩
    | brw ys =>
      obtain ⟨a, vs, rfl, ha, q⟩ := r
      refine ⟨a, vs, rfl, ha.mono fun b u eb nb => ⟨?_, nb⟩, RepL.mono k ⟨[], by simp⟩ q⟩
      rw [upd_ne (ne_of_none eb n)]
      exact eb
    | scr ns =>
      obtain ⟨a, rfl, ha⟩ := r
      refine ⟨a, rfl, ha.imp (fun q => ?_) id⟩
      have q2 : LstAt (· ∈ m) (upd H p o) a (ns.map V.int) := LstAt.mono q fun b u eb nb => ⟨by rw [upd_ne (ne_of_none eb n)]; exact eb, nb⟩
      exact q2
  refine ⟨R.len, fun i sv e => ?_, fun q hq => ⟨slots _ _ (R.pin q hq).1, (R.pin q hq).2⟩, R.uniq, ⟨R.hm.len, R.hm.nd, fun i a c e f => (R.hm.at_ i a c e f).mono k ⟨[], by simp⟩ (up a (R.mDom (List.mem_of_getElem? e)))⟩, fun b u e q => ?_, fun b q => ?_, R.pre, fun b q => ?_, fun b q z => ?_⟩
  · obtain ⟨v, s, r⟩ := R.slot i sv e
    exact ⟨v, s, slots v sv r⟩
  · have z := R.keep b u e q
    rw [upd_ne (ne_of_none z n)]
    exact z
  · rw [up b (R.dom b q)]
    exact R.dom b q
  · rcases q with q | q | q
    · rw [up b (R.gdom b (.inl q))]
      exact R.gdom b (.inl q)
    · rw [up b (R.gdom b (.inr q))]
      exact R.gdom b (.inr q)
    · cases q
      rw [upd_same]
      simp
  · rcases q with q | q | q
    · exact R.gown b (.inl q) z
    · exact R.gown b (.inr q) z
    · cases q
      obtain ⟨vs, e, _⟩ := R.ownDom z
      rw [n] at e
      cases e
end

/-! ### soundness of readings -/
section
variable (K : PySem.W.Frag) (W : WX)
def PostE (C : Ctx) (m : List Addr) (σ : St) (H : Hp) (env : Env) (Q : VQ) (Q' : VK) : Prop :=
  ∀ m' v H' sv h', StE m H m' H' → Rel (C.own v sv) m' σ H' env h' → RepS C (ExOf C σ env m') m' (fun a => H a = none) H' v sv → Q sv h' → Q' v H'
def PostX (C : Ctx) (m : List Addr) (σ : St) (H : Hp) (env : Env) (E : XQ) : Prop :=
  ∀ c m' H' h', StE m H m' H' → Rel C m' σ H' env h' → E c h' → W (.ref c) none σ H'
structure SE (t : TE) (f : DE) : Prop where
  run : ∀ (C : Ctx) (m : List Addr) (σ : St) (H : Hp) (env : Env) (h : Hs) (Q : VQ) (E : XQ) (Q' : VK), C.K = K → Rel C m σ H env h → f env h Q E → PostE C m σ H env Q Q' → PostX W C m σ H env E → t σ H Q'
structure ST (t : TT) (f : DT) : Prop where
  run : ∀ (C : Ctx) (m : List Addr) (σ : St) (H : Hp) (env : Env) (h : Hs) (Q : Bool → Hs → Prop) (E : XQ) (Q' : Bool → Hp → Prop), C.K = K → Rel C m σ H env h → f env h Q E →
    (∀ m' b H' h', StE m H m' H' → Rel C m' σ H' env h' → Q b h' → Q' b H') → PostX W C m σ H env E → t σ H Q'
def Ctx.owns (C : Ctx) : List V → List SV → Ctx
  | v :: vs, sv :: svs => (C.own v sv).owns vs svs
  | _, _ => C
structure SA (t : TA) (f : DA) : Prop where
  run : ∀ (C : Ctx) (m : List Addr) (σ : St) (H : Hp) (env : Env) (h : Hs) (Q : List SV → Hs → Prop) (E : XQ) (Q' : List V → Hp → Prop), C.K = K → Rel C m σ H env h → f env h Q E →
    (∀ m' vs H' svs h', StE m H m' H' → Rel (C.owns vs svs) m' σ H' env h' → Paired (RepS C (ExOf C σ env m') m' (fun a => H a = none) H') vs svs → Q svs h' → Q' vs H') → PostX W C m σ H env E → t σ H Q'
end
section
variable {K : PySem.W.Frag} {W : WX} {C : Ctx} {m m1 : List Addr} {σ : St} {H H1 : Hp} {env : Env} {h : Hs}
theorem PostX.go {E : XQ} (p : PostX W C m σ H env E) (S : StE m H m1 H1) : PostX W C m1 σ H1 env E :=
  fun c m' H' h' S' R e => p c m' H' h' (S.trans S') R e
theorem PostX.own {E : XQ} {v : V} {sv : SV} (p : PostX W C m σ H env E) : PostX W (C.own v sv) m σ H env E :=
  fun c m' H' h' S' R e => p c m' H' h' S' R.drop e
theorem Ctx.owns_K : ∀ (C : Ctx) (vs : List V) (svs : List SV), (C.owns vs svs).K = C.K
  | _, [], _ => rfl
  | _, _ :: _, [] => rfl
  | C, v :: vs, sv :: svs => by rw [Ctx.owns, Ctx.owns_K, Ctx.own_K]
theorem Rel.drops : ∀ {C : Ctx} {vs : List V} {svs : List SV}, Rel (C.owns vs svs) m σ H env h → Rel C m σ H env h
  | _, [], _, R => R
  | _, _ :: _, [], R => R
  | _, v :: vs, sv :: svs, R => Rel.drop (Rel.drops (vs := vs) (svs := svs) R)
theorem stnew (S : StE m H m1 H1) {a : Addr} (n : H1 a = none) : H a = none := by
  cases e : H a with
  | none => rfl
  | some o => exact absurd n (S.dom a (by rw [e]; simp))
end

/-! ### names and constants -/
def dVar (i : Nat) : DE := fun env h Q _ => match env[i]? with
  | some (some (.val p)) => Q (.val p) h
  | some (some (.own xs)) => Q (.brw xs) h
  | some (some (.brw xs)) => Q (.brw xs) h
  | some (some (.scr ns)) => Q (.scr ns) h
  | _ => False
@[simp ↓] theorem dVar_eq (i : Nat) (env : Env) (h : Hs) (Q : VQ) (u0 : XQ) : dVar i env h Q u0 = (match env[i]? with
  | some (some (.val p)) => Q (.val p) h
  | some (some (.own xs)) => Q (.brw xs) h
  | some (some (.brw xs)) => Q (.brw xs) h
  | some (some (.scr ns)) => Q (.scr ns) h
  | _ => False) := id rfl
def dC (p : PV) : DE := fun _ h Q _ => Q (.val p) h
@[simp ↓] theorem dC_eq (p : PV) (u0 : Env) (h : Hs) (Q : VQ) (u1 : XQ) : dC p u0 h Q u1 = (Q (.val p) h) := id rfl
section
variable {K : PySem.W.Frag} {W : WX}
theorem se_var (i : Nat) : SE K W (tVar i) (dVar i) := ⟨fun C m σ H env h Q E Q' eK R hf p _ => by
  unfold dVar at hf
  split at hf
  · rename_i pv e
    obtain ⟨v, s, r, _⟩ := R.slot i _ e
    exact ⟨v, s, p m v H (.val pv) h (.refl m H) R r hf⟩
  · rename_i xs e
    obtain ⟨v, s, ⟨a, vs, rfl, ha, na, nm, r⟩, _⟩ := R.slot i _ e
    exact ⟨_, s, p m _ H (.brw xs) h (.refl m H) R ⟨a, vs, rfl, ⟨.inl ha, nm⟩, RepL.mono (Kp.le fun b q => .inl q) ⟨[], by simp⟩ r⟩ hf⟩
  · rename_i xs e
    obtain ⟨v, s, r, _⟩ := R.slot i _ e
    exact ⟨v, s, p m v H (.brw xs) h (.refl m H) R r hf⟩
  · rename_i ns e
    obtain ⟨v, s, r, _⟩ := R.slot i _ e
    exact ⟨v, s, p m v H (.scr ns) h (.refl m H) R r hf⟩
  · exact hf.elim⟩
theorem se_c {v : V} {pv : PV} (k : ∀ Ex m H, Rep K Ex m H v pv) : SE K W (tC v) (dC pv) := ⟨fun C m σ H env h Q E Q' eK R hf p _ => by
  subst eK
  exact p m v H (.val pv) h (.refl m H) R (k _ _ _) hf⟩
theorem se_int {i : Int} : SE K W (tC (.int i)) (dC (.int i)) := se_c fun _ _ _ => .int i
theorem se_bl {b : Bool} : SE K W (tC (.bl b)) (dC (.bl b)) := se_c fun _ _ _ => .bl b
theorem se_non : SE K W (tC .non) (dC .non) := se_c fun _ _ _ => .non
theorem se_str {x : Str} : SE K W (tC (.str x)) (dC (.str x)) := se_c fun _ _ _ => .str x
end

/-! ### operators on values -/
abbrev G1 := Hs → SV → (SV → Prop) → Prop
abbrev G2 := Hs → SV → SV → (SV → Prop) → Prop
def PostO (C : Ctx) (m : List Addr) (σ : St) (H : Hp) (env : Env) (h : Hs) (q : SV → Prop) (Q' : VK) : Prop :=
  ∀ v H' sv, Same H H' → Rel (C.own v sv) m σ H' env h → RepS C (ExOf C σ env m) m (fun a => H a = none) H' v sv → q sv → Q' v H'
abbrev RepA (C : Ctx) (σ : St) (env : Env) (m : List Addr) (H : Hp) : V → SV → Prop := RepS C (ExOf C σ env m) m (fun _ => True) H
def OpS (K : PySem.W.Frag) (r : R2) (g : G2) : Prop := ∀ (C : Ctx) (m : List Addr) (σ : St) (H : Hp) (env : Env) (h : Hs) (x y : V) (sx sy : SV) (q : SV → Prop) (Q' : VK), C.K = K → Rel C m σ H env h →
  RepA C σ env m H x sx → RepA C σ env m H y sy → g h sx sy q → PostO C m σ H env h q Q' → r x y H Q'
def UnS (K : PySem.W.Frag) (r : V → Hp → VK → Prop) (g : G1) : Prop := ∀ (C : Ctx) (m : List Addr) (σ : St) (H : Hp) (env : Env) (h : Hs) (x : V) (sx : SV) (q : SV → Prop) (Q' : VK), C.K = K → Rel C m σ H env h →
  RepA C σ env m H x sx → g h sx q → PostO C m σ H env h q Q' → r x H Q'
def dOp (g : G2) (a b : DE) : DE := fun env h Q E => a env h (fun x h1 => b env h1 (fun y h2 => g h2 x y fun r => Q r h2) E) E
@[simp ↓] theorem dOp_eq (g : G2) (a b : DE) (env : Env) (h : Hs) (Q : VQ) (E : XQ) : dOp g a b env h Q E = (a env h (fun x h1 => b env h1 (fun y h2 => g h2 x y fun r => Q r h2) E) E) := id rfl
def dUn (g : G1) (a : DE) : DE := fun env h Q E => a env h (fun x h1 => g h1 x fun r => Q r h1) E
@[simp ↓] theorem dUn_eq (g : G1) (a : DE) (env : Env) (h : Hs) (Q : VQ) (E : XQ) : dUn g a env h Q E = (a env h (fun x h1 => g h1 x fun r => Q r h1) E) := id rfl
section
variable {K : PySem.W.Frag} {W : WX} {ta tb : TE} {fa fb : DE}
theorem se_op {r : R2} {g : G2} (o : OpS K r g) (ha : SE K W ta fa) (hb : SE K W tb fb) : SE K W (tOp r ta tb) (dOp g fa fb) := ⟨fun C m σ H env h Q E Q' eK R hf p px => by
  refine ha.run C m σ H env h _ E _ eK R hf (fun m1 x H1 sx h1 S1 R1 r1 q1 => ?_) px
  refine hb.run (C.own x sx) m1 σ H1 env h1 _ E _ ((C.own_K x sx).trans eK) R1 q1 (fun m2 y H2 sy h2 S2 R2 r2 q2 => ?_) (px.go S1).own
  refine o C m2 σ H2 env h2 x y sx sy _ _ eK R2.drop.drop (r1.step S2 fun _ _ => trivial) (r2.less (C.own_K x sx).symm (fun b q => q.le fun _ => C.own_GT x sx) fun _ _ => trivial) q2 fun v H' sv s3 R3 r3 q3 => ?_
  have S : StE m H m2 H2 := S1.trans S2
  have S3 : StE m2 H2 m2 H' := .same s3
  exact p m2 v H' sv h2 (S.trans S3) R3 (r3.less rfl (fun _ q => q) fun a n => stnew S n) q3⟩
theorem se_un {r : V → Hp → VK → Prop} {g : G1} (o : UnS K r g) (ha : SE K W ta fa) : SE K W (tUn r ta) (dUn g fa) := ⟨fun C m σ H env h Q E Q' eK R hf p px => by
  refine ha.run C m σ H env h _ E _ eK R hf (fun m1 x H1 sx h1 S1 R1 r1 q1 => ?_) px
  refine o C m1 σ H1 env h1 x sx _ _ eK R1.drop (r1.less rfl (fun _ q => q) fun _ _ => trivial) q1 fun v H' sv s3 R3 r3 q3 => ?_
  have S3 : StE m1 H1 m1 H' := .same s3
  exact p m1 v H' sv h1 (S1.trans S3) R3 (r3.less rfl (fun _ q => q) fun a n => stnew S1 n) q3⟩
end
end PM

namespace PM
open PySem PySem.Spec L2
open PyProof.Rows hiding St

/-! ### lists and data of slot values -/
def listC (h : Hs) : SV → Option (List PV)
  | .val (.lst xs) => some xs
  | .val (.ref n) => match h[n]? with
    | some (.lst xs) => some xs
    | _ => none
  | .own xs => some xs
  | .brw xs => some xs
  | .scr _ => none
  | _ => none
/-- a list or tuple that is read -/
def seqC (h : Hs) : SV → Option (List PV)
  | .val (.tup xs) => some xs
  | .scr ns => some (ns.map .int)
  | s => listC h s
section
variable {C : Ctx} {m : List Addr} {σ : St} {H : Hp} {env : Env} {h : Hs} {v : V} {sv : SV} {xs : List PV}
theorem Rel.cell (R : Rel C m σ H env h) {n : Nat} {a : Addr} {c : Cell} (e : m[n]? = some a) (f : h[n]? = some c) : CellR C.K (ExOf C σ env m) m H a c := R.hm.at_ n a c e f
theorem Rel.listRd (R : Rel C m σ H env h) (r : RepA C σ env m H v sv) (e : listC h sv = some xs) : ∃ a vs, v = .ref a ∧ Rd H a (.lst vs) ∧ RepL C.K (ExOf C σ env m) m H vs xs := by
  cases sv with
  | own ys =>
    obtain ⟨a, vs, rfl, ha, _, _, q⟩ := r
    cases e
    exact ⟨a, vs, rfl, .inl ha, RepL.mono (Kp.le fun b q => .inl q) ⟨[], by simp⟩ q⟩
  | brw ys =>
    obtain ⟨a, vs, rfl, ha, q⟩ := r
    cases e
    exact ⟨a, vs, rfl, ha.1, q⟩
  | scr ns => cases e
  | val p =>
    cases p with
    | lst ys =>
      cases e
      cases r with
      | lst ha q => exact ⟨_, _, rfl, ha.1, q⟩
    | ref n =>
      cases r with
      | ref hn =>
        have e' : (match h[n]? with | some (.lst xs) => some xs | _ => none) = some xs := e
        split at e'
        · rename_i ys hc
          cases e'
          obtain ⟨vs, q1, q2⟩ := R.cell hn hc
          exact ⟨_, vs, rfl, .inl q1, q2⟩
        · cases e'
    | _ => cases e
theorem Rel.list (R : Rel C m σ H env h) (r : RepA C σ env m H v sv) (e : listC h sv = some xs) : ∃ a vs, v = .ref a ∧ SqL C.K H a vs ∧ RepL C.K (ExOf C σ env m) m H vs xs := by
  obtain ⟨a, vs, e1, e2, e3⟩ := R.listRd r e
  exact ⟨a, vs, e1, .inl e2, e3⟩
theorem Rel.seq (R : Rel C m σ H env h) (r : RepA C σ env m H v sv) (e : seqC h sv = some xs) : ∃ a vs, v = .ref a ∧ (SqL C.K H a vs ∨ SqT C.K H a vs) ∧ RepL C.K (ExOf C σ env m) m H vs xs := by
  have lst : listC h sv = some xs → ∃ a vs, v = .ref a ∧ (SqL C.K H a vs ∨ SqT C.K H a vs) ∧ RepL C.K (ExOf C σ env m) m H vs xs := fun e => by
    obtain ⟨a, vs, e1, e2, e3⟩ := R.list r e
    exact ⟨a, vs, e1, .inl e2, e3⟩
  cases sv with
  | own ys => exact lst e
  | brw ys => exact lst e
  | scr ns =>
    obtain ⟨a, rfl, ha⟩ := r
    cases e
    refine ⟨a, _, rfl, .inl ?_, RepL.of_ints⟩
    rcases ha with ⟨ha, _⟩ | ha
    · exact .inl ha
    · exact ha H
  | val p =>
    cases p with
    | tup ys =>
      cases e
      cases r with
      | tup ha q => exact ⟨_, _, rfl, .inr ha.sq, q⟩
    | _ => exact lst e

/-- results: scalars -/
theorem PostO.at {q : SV → Prop} {Q' : VK} (p : PostO C m σ H env h q Q') (R : Rel C m σ H env h) {v : V} {pv : PV} (r : Rep C.K (ExOf C σ env m) m H v pv) (hq : q (.val pv)) : Q' v H :=
  p v H (.val pv) (Same.refl H) R r hq
theorem PostO.int {q : SV → Prop} {Q' : VK} (p : PostO C m σ H env h q Q') (R : Rel C m σ H env h) {i : Int} (hq : q (.val (.int i))) : Q' (.int i) H := p.at R (.int i) hq
theorem PostO.bl {q : SV → Prop} {Q' : VK} (p : PostO C m σ H env h q Q') (R : Rel C m σ H env h) {i : Bool} (hq : q (.val (.bl i))) : Q' (.bl i) H := p.at R (.bl i) hq
theorem PostO.str {q : SV → Prop} {Q' : VK} (p : PostO C m σ H env h q Q') (R : Rel C m σ H env h) {i : Str} (hq : q (.val (.str i))) : Q' (.str i) H := p.at R (.str i) hq
/-- a new list -/
theorem PostO.newL {q : SV → Prop} {Q' : VK} (p : PostO C m σ H env h q Q') (R : Rel C m σ H env h) {vs : List V} {xs : List PV} (r : RepL C.K (ExOf C σ env m) m H vs xs) (hq : q (.own xs)) {a : Addr} (n : H a = none) : Q' (.ref a) (upd H a (.lst vs)) := by
  have R2 : Rel (C.own (.ref a) (.own xs)) m σ (upd H a (.lst vs)) env h := R.fresh n xs
  refine p _ _ (.own xs) (Same.upd n) R2 ⟨a, vs, rfl, upd_same, n, fun q => R.mDom q n, RepL.mono (fun b u e nb => ?_) ⟨[], by simp⟩ r⟩ hq
  have z : b ≠ a := ne_of_none e n
  exact ⟨by rw [upd_ne z]; exact e, fun q => q.elim nb z⟩
theorem Rel.newTup (R : Rel C m σ H env h) {vs : List V} {xs : List PV} (r : RepL C.K (ExOf C σ env m) m H vs xs) {a : Addr} (n : H a = none) : Rep C.K (ExOf C σ env m) m (upd H a (.tup vs)) (.ref a) (.tup xs) :=
  .tup (.inl ⟨.inl upd_same, R.exNew n⟩) (RepL.mono (fun b u e nb => ⟨by rw [upd_ne (ne_of_none e n)]; exact e, nb⟩) ⟨[], by simp⟩ r)
theorem PostO.newT {q : SV → Prop} {Q' : VK} (p : PostO C m σ H env h q Q') (R : Rel C m σ H env h) {vs : List V} {xs : List PV} (r : RepL C.K (ExOf C σ env m) m H vs xs) (hq : q (.val (.tup xs))) {a : Addr} (n : H a = none) : Q' (.ref a) (upd H a (.tup vs)) :=
  p _ _ (.val (.tup xs)) (Same.upd n) (R.grow (Same.upd n)) (R.newTup r n) hq
end

/-! ### + - * // % ** -/
section
variable {X : Cx}
def rCatL : R2 := fun x y H Q => ∃ l b xs zs, x = .ref l ∧ y = .ref b ∧ Rd H l (.lst xs) ∧ Rd H b (.lst zs) ∧ xs.length + zs.length ≤ sizeLine ∧ ∀ p, H p = none → Q (.ref p) (upd H p (.lst (xs ++ zs)))
theorem op_catL : OpR X (binaryOp .Add) rCatL := by
  intro pins s σ H x y v u Q I rx ry h
  obtain ⟨l, b, xs, zs, rfl, rfl, hH, hB, hz, q⟩ := h
  cases rx
  cases ry
  obtain ⟨z, its, n, r, e⟩ := hH.ok I.hok
  obtain ⟨z2, its2, n2, r2, e2⟩ := hB.ok I.hok
  have hl := r.length
  have hl2 := r2.length
  refine PySem.P.add_list e e2 ?_ (by rw [List.size_toArray, List.size_toArray]; omega)
  have ea : its.toArray ++ its2.toArray = (its ++ its2).toArray := by simp
  rw [ea]
  exact ⟨.ref _, _, I.lnew (t' := s.toks) (r.append r2) (by rw [List.length_append]; omega), rfl, q _ I.fresh⟩
def rAddA (K : PySem.W.Frag) : R2 := fun x y H Q => (∃ i j, x = .int i ∧ y = .int j ∧ Q (.int (i + j)) H) ∨ (∃ i j, x = .str i ∧ y = .str j ∧ i.length + j.length ≤ sizeLine ∧ Q (.str (i ++ j)) H) ∨ rCatA K x y H Q ∨ rCatL x y H Q
theorem op_addA : OpR X (binaryOp .Add) (rAddA X.K) := op_add.or (op_add_str.or (op_catA.or op_catL))
end
def gAdd : G2 := fun h x y q => match x, y with
  | .val (.int i), .val (.int j) => q (.val (.int (i + j)))
  | .val (.str a), .val (.str b) => a.length + b.length ≤ sizeLine ∧ q (.val (.str (a ++ b)))
  | .val (.tup xs), .val (.tup ys) => xs.length + ys.length ≤ sizeLine ∧ q (.val (.tup (xs ++ ys)))
  | x, y => ∃ xs ys, listC h x = some xs ∧ listC h y = some ys ∧ xs.length + ys.length ≤ sizeLine ∧ q (.own (xs ++ ys))
@[simp ↓] theorem gAdd_eq  (h : Hs) (x : SV) (y : SV) (q : SV → Prop) : gAdd  h x y q = (match x, y with
  | .val (.int i), .val (.int j) => q (.val (.int (i + j)))
  | .val (.str a), .val (.str b) => a.length + b.length ≤ sizeLine ∧ q (.val (.str (a ++ b)))
  | .val (.tup xs), .val (.tup ys) => xs.length + ys.length ≤ sizeLine ∧ q (.val (.tup (xs ++ ys)))
  | x, y => ∃ xs ys, listC h x = some xs ∧ listC h y = some ys ∧ xs.length + ys.length ≤ sizeLine ∧ q (.own (xs ++ ys))) := id rfl
theorem os_add {K : PySem.W.Frag} : OpS K (rAddA K) gAdd := fun C m σ H env h x y sx sy q Q' eK R rx ry hg p => by
  subst eK
  unfold gAdd at hg
  split at hg
  · cases rx; cases ry
    exact .inl ⟨_, _, rfl, rfl, p.int R hg⟩
  · cases rx; cases ry
    exact .inr (.inl ⟨_, _, rfl, rfl, hg.1, p.str R hg.2⟩)
  · rename_i xs ys
    cases rx with
    | tup ha qa => cases ry with
      | tup hb qb =>
        refine .inr (.inr (.inl ⟨_, _, _, _, rfl, rfl, ha.sq, hb.sq, by rw [qa.length, qb.length]; exact hg.1, fun e => ?_, fun n e => ?_, fun _ _ a n => ?_⟩))
        · subst e
          cases qa
          exact p.at R (.tup hb qb) (by simpa using hg.2)
        · subst e
          cases qb
          exact p.at R (.tup ha qa) (by simpa using hg.2)
        · exact p.newT R (qa.append qb) hg.2 n
  · obtain ⟨xs, ys, e1, e2, l, hq⟩ := hg
    obtain ⟨a, vs, rfl, h1, q1⟩ := R.listRd rx e1
    obtain ⟨b, ws, rfl, h2, q2⟩ := R.listRd ry e2
    exact .inr (.inr (.inr ⟨a, b, vs, ws, rfl, rfl, h1, h2, by rw [q1.length, q2.length]; exact l, fun c n => p.newL R (q1.append q2) hq n⟩))

/-- an operator of ints -/
def gI (P : Int → Int → Prop) (f : Int → Int → PV) : G2 := fun _ x y q => match x, y with
  | .val (.int i), .val (.int j) => P i j ∧ q (.val (f i j))
  | _, _ => False
@[simp ↓] theorem gI_eq (P : Int → Int → Prop) (f : Int → Int → PV) (u0 : Hs) (x : SV) (y : SV) (q : SV → Prop) : gI P f u0 x y q = (match x, y with
  | .val (.int i), .val (.int j) => P i j ∧ q (.val (f i j))
  | _, _ => False) := id rfl
theorem os_I {K : PySem.W.Frag} {P : Int → Int → Prop} {g : Int → Int → V} {f : Int → Int → PV} (k : ∀ i j Ex m H, Rep K Ex m H (g i j) (f i j)) : OpS K (rI P g) (gI P f) := fun C m σ H env h x y sx sy q Q' eK R rx ry hg p => by
  subst eK
  unfold gI at hg
  split at hg
  · cases rx; cases ry
    exact ⟨_, _, rfl, rfl, hg.1, p.at R (k _ _ _ _ _) hg.2⟩
  · exact hg.elim
def gI0 (f : Int → Int → PV) : G2 := fun _ x y q => match x, y with
  | .val (.int i), .val (.int j) => q (.val (f i j))
  | _, _ => False
@[simp ↓] theorem gI0_eq (f : Int → Int → PV) (u0 : Hs) (x : SV) (y : SV) (q : SV → Prop) : gI0 f u0 x y q = (match x, y with
  | .val (.int i), .val (.int j) => q (.val (f i j))
  | _, _ => False) := id rfl
theorem os_I0 {K : PySem.W.Frag} {g : Int → Int → V} {f : Int → Int → PV} (k : ∀ i j Ex m H, Rep K Ex m H (g i j) (f i j)) : OpS K (rI0 g) (gI0 f) := fun C m σ H env h x y sx sy q Q' eK R rx ry hg p => by
  subst eK
  unfold gI0 at hg
  split at hg
  · cases rx; cases ry
    exact ⟨_, _, rfl, rfl, p.at R (k _ _ _ _ _) hg⟩
  · exact hg.elim
def gSub : G2 := gI0 fun i j => .int (i - j)
@[simp ↓] theorem gSub_eq : gSub = (gI0 fun i j => .int (i - j)) := id rfl
theorem os_sub {K : PySem.W.Frag} : OpS K (rI0 fun i j => .int (i - j)) gSub := os_I0 fun _ _ _ _ _ => .int _
def gMod : G2 := gI (fun _ j => 0 < j) fun i j => .int (i % j)
@[simp ↓] theorem gMod_eq : gMod = (gI (fun _ j => 0 < j) fun i j => .int (i % j)) := id rfl
theorem os_mod {K : PySem.W.Frag} : OpS K (rI (fun _ j => 0 < j) fun i j => .int (i % j)) gMod := os_I fun _ _ _ _ _ => .int _
def gFdiv : G2 := gI CDivW fun i j => .int (i / j)
@[simp ↓] theorem gFdiv_eq : gFdiv = (gI CDivW fun i j => .int (i / j)) := id rfl
theorem os_fdiv {K : PySem.W.Frag} : OpS K (rI CDivW fun i j => .int (i / j)) gFdiv := os_I fun _ _ _ _ _ => .int _
def gPow : G2 := gI CPow fun i j => .int (i ^ j.toNat)
@[simp ↓] theorem gPow_eq : gPow = (gI CPow fun i j => .int (i ^ j.toNat)) := id rfl
theorem os_pow {K : PySem.W.Frag} : OpS K (rI CPow fun i j => .int (i ^ j.toNat)) gPow := os_I fun _ _ _ _ _ => .int _
/-! * of ints (one below 2^64), of a list and an int, of a tuple and an int -/
section
variable {X : Cx}
def rMulA (K : PySem.W.Frag) : R2 := fun x y H Q => rI CMul (fun i j => .int (i * j)) x y H Q ∨ rRep x y H Q ∨ rRepT K x y H Q
theorem op_mulA : OpR X (binaryOp .Mult) (rMulA X.K) := op_mul.or (op_rep.or op_repT)
end
def repN {α : Type} (k : Nat) (xs : List α) : List α := (List.replicate k xs).flatten
theorem RepL.rep {K : PySem.W.Frag} {Ex : Ad} {m : List Addr} {H : Hp} {vs : List V} {xs : List PV} (r : RepL K Ex m H vs xs) : ∀ k, RepL K Ex m H (List.replicate k vs).flatten (repN k xs)
  | 0 => .nil
  | k + 1 => by
    unfold repN
    rw [List.replicate_succ, List.replicate_succ, List.flatten_cons, List.flatten_cons]
    exact r.append (RepL.rep r k)
def gMul : G2 := fun h x y q => match x, y with
  | .val (.int i), .val (.int j) => CMul i j ∧ q (.val (.int (i * j)))
  | .val (.tup xs), .val (.int k) => xs ≠ [] ∧ 2 ≤ k ∧ k ≤ 1000 ∧ xs.length ≤ 1000 ∧ q (.val (.tup (repN k.toNat xs)))
  | .own xs, .val (.int k) => -(2 ^ 63) ≤ k ∧ k < 2 ^ 63 ∧ xs.length * k.toNat ≤ sizeLine ∧ q (.own (repN k.toNat xs))
  | _, _ => False
@[simp ↓] theorem gMul_eq  (h : Hs) (x : SV) (y : SV) (q : SV → Prop) : gMul  h x y q = (match x, y with
  | .val (.int i), .val (.int j) => CMul i j ∧ q (.val (.int (i * j)))
  | .val (.tup xs), .val (.int k) => xs ≠ [] ∧ 2 ≤ k ∧ k ≤ 1000 ∧ xs.length ≤ 1000 ∧ q (.val (.tup (repN k.toNat xs)))
  | .own xs, .val (.int k) => -(2 ^ 63) ≤ k ∧ k < 2 ^ 63 ∧ xs.length * k.toNat ≤ sizeLine ∧ q (.own (repN k.toNat xs))
  | _, _ => False) := id rfl
theorem os_mul {K : PySem.W.Frag} : OpS K (rMulA K) gMul := fun C m σ H env h x y sx sy q Q' eK R rx ry hg p => by
  subst eK
  unfold gMul at hg
  split at hg
  · cases rx; cases ry
    exact .inl ⟨_, _, rfl, rfl, hg.1, p.int R hg.2⟩
  · cases rx with
    | tup ha qa =>
      cases ry
      refine .inr (.inr ⟨_, _, _, rfl, rfl, ha.sq, fun e => hg.1 ?_, hg.2.1, hg.2.2.1, by rw [qa.length]; exact hg.2.2.2.1, fun a n => p.newT R (qa.rep _) hg.2.2.2.2 n⟩)
      subst e
      cases qa
      rfl
  · obtain ⟨a, vs, rfl, ha, _, _, qa⟩ := rx
    cases ry
    have qa' := RepL.mono (Kp.le fun b q => .inl q) ⟨[], (by simp : m = m ++ [])⟩ qa
    exact .inr (.inl ⟨_, _, _, rfl, rfl, ha, hg.1, hg.2.1, by rw [qa.length]; exact hg.2.2.1, fun b n => p.newL R (qa'.rep _) hg.2.2.2 n⟩)
  · exact hg.elim
def gNeg : G1 := fun _ x q => match x with
  | .val (.int i) => q (.val (.int (-i)))
  | _ => False
@[simp ↓] theorem gNeg_eq  (u0 : Hs) (x : SV) (q : SV → Prop) : gNeg  u0 x q = (match x with
  | .val (.int i) => q (.val (.int (-i)))
  | _ => False) := id rfl
theorem us_neg {K : PySem.W.Frag} : UnS K (rU fun i => .int (-i)) gNeg := fun C m σ H env h x sx q Q' eK R rx hg p => by
  subst eK
  unfold gNeg at hg
  split at hg
  · cases rx
    exact ⟨_, rfl, p.int R hg⟩
  · exact hg.elim

/-! ### comparisons -/
def gLt : G2 := gI0 fun i j => .bl (decide (i < j))
@[simp ↓] theorem gLt_eq : gLt = (gI0 fun i j => .bl (decide (i < j))) := id rfl
theorem os_lt {K : PySem.W.Frag} : OpS K (rI0 fun i j => .bl (decide (i < j))) gLt := os_I0 fun _ _ _ _ _ => .bl _
def gLe : G2 := gI0 fun i j => .bl (decide (i ≤ j))
@[simp ↓] theorem gLe_eq : gLe = (gI0 fun i j => .bl (decide (i ≤ j))) := id rfl
theorem os_le {K : PySem.W.Frag} : OpS K (rI0 fun i j => .bl (decide (i ≤ j))) gLe := os_I0 fun _ _ _ _ _ => .bl _
def gGt : G2 := gI0 fun i j => .bl (decide (j < i))
@[simp ↓] theorem gGt_eq : gGt = (gI0 fun i j => .bl (decide (j < i))) := id rfl
theorem os_gt {K : PySem.W.Frag} : OpS K (rI0 fun i j => .bl (decide (j < i))) gGt := os_I0 fun _ _ _ _ _ => .bl _
def gGe : G2 := gI0 fun i j => .bl (decide (j ≤ i))
@[simp ↓] theorem gGe_eq : gGe = (gI0 fun i j => .bl (decide (j ≤ i))) := id rfl
theorem os_ge {K : PySem.W.Frag} : OpS K (rI0 fun i j => .bl (decide (j ≤ i))) gGe := os_I0 fun _ _ _ _ _ => .bl _

/-! ### data -/
mutual
def PV.py : PV → PyData
  | .non => .none
  | .bl b => .bool b
  | .int i => .int i
  | .str x => .str x
  | .tup xs => .tuple (PV.pyL xs)
  | .lst xs => .list (PV.pyL xs)
  | .ref _ => .none
def PV.pyL : List PV → List PyData
  | [] => []
  | x :: xs => x.py :: PV.pyL xs
def PV.noRef : PV → Bool
  | .tup xs => PV.noRefL xs
  | .lst xs => PV.noRefL xs
  | .ref _ => false
  | _ => true
def PV.noRefL : List PV → Bool
  | [] => true
  | x :: xs => x.noRef && PV.noRefL xs
end
theorem PV.pyL_map : ∀ xs : List PV, PV.pyL xs = xs.map PV.py
  | [] => by simp [PV.pyL]
  | x :: xs => by simp [PV.pyL, PV.pyL_map xs]
theorem PV.noRefL_all : ∀ xs : List PV, PV.noRefL xs = xs.all PV.noRef
  | [] => by simp [PV.noRefL]
  | x :: xs => by simp [PV.noRefL, PV.noRefL_all xs]
mutual
theorem Rep.dp {K : PySem.W.Frag} {Ex : Ad} {m : List Addr} {H : Hp} {v : V} : ∀ {p : PV}, Rep K Ex m H v p → p.noRef = true → Dp K H v p.py
  | .non, .non, _ => by unfold PV.py; exact .non
  | .bl b, .bl _, _ => by unfold PV.py; exact .bl b
  | .int i, .int _, _ => by unfold PV.py; exact .int i
  | .str x, .str _, _ => by unfold PV.py; exact .str x
  | .tup xs, .tup h r, n => by unfold PV.py; exact .tup h.sq (RepL.dp r (by unfold PV.noRef at n; exact n))
  | .lst xs, .lst h r, n => by unfold PV.py; exact .lst h.sq (RepL.dp r (by unfold PV.noRef at n; exact n))
  | .ref _, .ref _, n => by unfold PV.noRef at n; cases n
theorem RepL.dp {K : PySem.W.Frag} {Ex : Ad} {m : List Addr} {H : Hp} {vs : List V} : ∀ {ps : List PV}, RepL K Ex m H vs ps → PV.noRefL ps = true → DpAll K H vs (PV.pyL ps)
  | [], .nil, _ => by unfold PV.pyL; exact .nil
  | p :: ps, .cons h r, n => by
    unfold PV.noRefL at n
    rw [Bool.and_eq_true] at n
    unfold PV.pyL
    exact .cons (Rep.dp h n.1) (RepL.dp r n.2)
end
/-- what a slot value says as data; a list that it holds counts by its items -/
def SV.pv (h : Hs) : SV → Option PV
  | .val (.ref n) => match h[n]? with
    | some (.lst xs) => some (.lst xs)
    | _ => none
  | .val p => some p
  | .own xs => some (.lst xs)
  | .brw xs => some (.lst xs)
  | .scr ns => some (.lst (ns.map .int))
def PV.okD (p : PV) : Bool := p.noRef && SeqAt.shaped p.py
theorem noRef_ints (ns : List Int) : PV.noRefL (ns.map .int) = true := by
  rw [PV.noRefL_all]
  simp [PV.noRef]
theorem Rel.dp {C : Ctx} {m : List Addr} {σ : St} {H : Hp} {env : Env} {h : Hs} {v : V} {sv : SV} {p : PV} (R : Rel C m σ H env h) (r : RepA C σ env m H v sv) (e : sv.pv h = some p) (n : p.noRef = true) : Dp C.K H v p.py := by
  have lst : ∀ xs, listC h sv = some xs → PV.noRefL xs = true → Dp C.K H v (PV.lst xs).py := fun xs e n => by
    obtain ⟨a, vs, rfl, h1, q⟩ := R.list r e
    unfold PV.py
    exact .lst h1 (q.dp n)
  cases sv with
  | own xs => cases e; exact lst xs rfl (by unfold PV.noRef at n; exact n)
  | brw xs => cases e; exact lst xs rfl (by unfold PV.noRef at n; exact n)
  | scr ns =>
    cases e
    obtain ⟨a, vs, rfl, h1, q⟩ := R.seq r (xs := ns.map .int) rfl
    obtain ⟨a', ea, ha⟩ := r
    cases ea
    have e2 := q.ints
    subst e2
    have h2 : SqL C.K H a (ns.map V.int) := by
      rcases ha with ⟨ha, _⟩ | ha
      · exact .inl ha
      · exact ha H
    unfold PV.py
    exact .lst h2 (q.dp (noRef_ints ns))
  | val q =>
    cases q with
    | ref k =>
      have e' : (match h[k]? with | some (.lst xs) => some (PV.lst xs) | _ => none) = some p := e
      split at e'
      · rename_i xs hc
        cases e'
        refine lst xs ?_ (by unfold PV.noRef at n; exact n)
        show (match h[k]? with | some (.lst xs) => some xs | _ => none) = some xs
        rw [hc]
      · cases e'
    | _ => cases e; exact Rep.dp r n
def pyEq (p q : PV) : Bool := PyData.eqv p.py q.py
def gEqB (neg : Bool) : G2 := fun h x y q => ∃ a b, x.pv h = some a ∧ y.pv h = some b ∧ a.okD = true ∧ b.okD = true ∧ q (.val (.bl (if neg then !pyEq a b else pyEq a b)))
@[simp ↓] theorem gEqB_eq (neg : Bool) (h : Hs) (x : SV) (y : SV) (q : SV → Prop) : gEqB neg h x y q = (∃ a b, x.pv h = some a ∧ y.pv h = some b ∧ a.okD = true ∧ b.okD = true ∧ q (.val (.bl (if neg then !pyEq a b else pyEq a b)))) := id rfl
def gEq : G2 := gEqB false
@[simp ↓] theorem gEq_eq : gEq = (gEqB false) := id rfl
def gNe : G2 := gEqB true
@[simp ↓] theorem gNe_eq : gNe = (gEqB true) := id rfl
theorem os_eq {K : PySem.W.Frag} : OpS K (rEqD K) gEq := fun C m σ H env h x y sx sy q Q' eK R rx ry hg p => by
  subst eK
  obtain ⟨a, b, e1, e2, o1, o2, hq⟩ := hg
  unfold PV.okD at o1 o2
  rw [Bool.and_eq_true] at o1 o2
  exact ⟨_, _, R.dp rx e1 o1.1, R.dp ry e2 o2.1, o1.2, o2.2, p.bl R hq⟩
theorem os_ne {K : PySem.W.Frag} : OpS K (rNeD K) gNe := fun C m σ H env h x y sx sy q Q' eK R rx ry hg p => by
  subst eK
  obtain ⟨a, b, e1, e2, o1, o2, hq⟩ := hg
  unfold PV.okD at o1 o2
  rw [Bool.and_eq_true] at o1 o2
  exact ⟨_, _, R.dp rx e1 o1.1, R.dp ry e2 o2.1, o1.2, o2.2, p.bl R hq⟩
/-- is None, is not None -/
@[simp] def PV.isN : PV → Bool
  | .non => true
  | _ => false
def gIsN (neg : Bool) : G2 := fun _ x y q => match x, y with
  | .val p, .val .non => q (.val (.bl (if neg then !p.isN else p.isN)))
  | _, _ => False
@[simp ↓] theorem gIsN_eq (neg : Bool) (u0 : Hs) (x : SV) (y : SV) (q : SV → Prop) : gIsN neg u0 x y q = (match x, y with
  | .val p, .val .non => q (.val (.bl (if neg then !p.isN else p.isN)))
  | _, _ => False) := id rfl
theorem Rep.isN {K : PySem.W.Frag} {Ex : Ad} {m : List Addr} {H : Hp} {v : V} {p : PV} (r : Rep K Ex m H v p) : decide (v = .non) = p.isN := by
  cases r <;> rfl
theorem os_isN {K : PySem.W.Frag} : OpS K (fun x y H Q => y = .non ∧ Q (.bl (decide (x = .non))) H) (gIsN false) := fun C m σ H env h x y sx sy q Q' eK R rx ry hg p => by
  subst eK
  unfold gIsN at hg
  split at hg
  · cases ry
    refine ⟨rfl, p.bl R ?_⟩
    rw [Rep.isN rx]
    exact hg
  · exact hg.elim
theorem os_notN {K : PySem.W.Frag} : OpS K (fun x y H Q => y = .non ∧ Q (.bl (!decide (x = .non))) H) (gIsN true) := fun C m σ H env h x y sx sy q Q' eK R rx ry hg p => by
  subst eK
  unfold gIsN at hg
  split at hg
  · cases ry
    refine ⟨rfl, p.bl R ?_⟩
    rw [Rep.isN rx]
    exact hg
  · exact hg.elim
/-! in: one sign in a text; a value in a list or tuple, by == -/
section
variable {X : Cx}
def rInT (K : PySem.W.Frag) (neg : Bool) : R2 := fun x y H Q => ∃ d ds, Dp K H x d ∧ Dp K H y (.tuple ds) ∧ SeqAt.shaped d = true ∧ SeqAt.shaped (.tuple ds) = true ∧ Q (.bl (if neg then !ds.any fun z => PyData.eqv z d else ds.any fun z => PyData.eqv z d)) H
theorem op_inT (hu : X.A.units + 65 < cLine) : OpR X (compareOp .In) (rInT X.K false) := by
  intro pins s σ H x y v u Q I rx ry h
  obtain ⟨d, ds, hd, he, sd, se, q⟩ := h
  obtain ⟨as, r1⟩ := Dp.reads I d x v hd rx
  obtain ⟨bs, r2⟩ := Dp.reads I (.tuple ds) y u he ry
  exact SeqAt.in_tuple_reads r2 r1 (SeqAt.canLay_of_shaped se) (SeqAt.canLay_of_shaped sd) (PyProof.Rows.room_in_shaped sd hu) ⟨.bl _, H, I, rfl, q⟩
theorem op_notInT (hu : X.A.units + 65 < cLine) : OpR X (compareOp .NotIn) (rInT X.K true) := by
  intro pins s σ H x y v u Q I rx ry h
  obtain ⟨d, ds, hd, he, sd, se, q⟩ := h
  obtain ⟨as, r1⟩ := Dp.reads I d x v hd rx
  obtain ⟨bs, r2⟩ := Dp.reads I (.tuple ds) y u he ry
  exact SeqAt.notIn_tuple_reads r2 r1 (SeqAt.canLay_of_shaped se) (SeqAt.canLay_of_shaped sd) (PyProof.Rows.room_in_shaped sd hu) ⟨.bl _, H, I, rfl, q⟩
def rInAll (K : PySem.W.Frag) : R2 := fun x y H Q => (∃ (c : Nat) (z : Str), x = .str ⟨#[c]⟩ ∧ y = .str z ∧ Q (.bl (decide (c ∈ z.cps.toList))) H) ∨ rInD K x y H Q ∨ rInT K false x y H Q
def rNotInAll (K : PySem.W.Frag) : R2 := fun x y H Q => (∃ (c : Nat) (z : Str), x = .str ⟨#[c]⟩ ∧ y = .str z ∧ Q (.bl (!decide (c ∈ z.cps.toList))) H) ∨ rNotInD K x y H Q ∨ rInT K true x y H Q
theorem op_inAll (hu : X.A.units + 65 < cLine) : OpR X (compareOp .In) (rInAll X.K) := op_in_sign.or ((op_inD hu).or (op_inT hu))
theorem op_notInAll (hu : X.A.units + 65 < cLine) : OpR X (compareOp .NotIn) (rNotInAll X.K) := op_notIn_sign.or ((op_notInD hu).or (op_notInT hu))
end
def gInB (neg : Bool) : G2 := fun h x y q => match x, y with
  | .val (.str z), .val (.str w) => ∃ c, z = ⟨#[c]⟩ ∧ q (.val (.bl (if neg then !decide (c ∈ w.cps.toList) else decide (c ∈ w.cps.toList))))
  | x, y => ∃ p xs, x.pv h = some p ∧ ((y.pv h = some (.lst xs)) ∨ (y.pv h = some (.tup xs))) ∧ p.okD = true ∧ (PV.tup xs).okD = true ∧ q (.val (.bl (if neg then !xs.any fun z => pyEq z p else xs.any fun z => pyEq z p)))
@[simp ↓] theorem gInB_eq (neg : Bool) (h : Hs) (x : SV) (y : SV) (q : SV → Prop) : gInB neg h x y q = (match x, y with
  | .val (.str z), .val (.str w) => ∃ c, z = ⟨#[c]⟩ ∧ q (.val (.bl (if neg then !decide (c ∈ w.cps.toList) else decide (c ∈ w.cps.toList))))
  | x, y => ∃ p xs, x.pv h = some p ∧ ((y.pv h = some (.lst xs)) ∨ (y.pv h = some (.tup xs))) ∧ p.okD = true ∧ (PV.tup xs).okD = true ∧ q (.val (.bl (if neg then !xs.any fun z => pyEq z p else xs.any fun z => pyEq z p)))) := id rfl
def gIn : G2 := gInB false
@[simp ↓] theorem gIn_eq : gIn = (gInB false) := id rfl
def gNotIn : G2 := gInB true
@[simp ↓] theorem gNotIn_eq : gNotIn = (gInB true) := id rfl
theorem okD_tl {xs : List PV} (h : (PV.tup xs).okD = true) : PV.noRefL xs = true ∧ SeqAt.shaped (.tuple (PV.pyL xs)) = true ∧ SeqAt.shaped (.list (PV.pyL xs)) = true := by
  unfold PV.okD at h
  rw [Bool.and_eq_true] at h
  obtain ⟨h1, h2⟩ := h
  unfold PV.noRef at h1
  unfold PV.py at h2
  refine ⟨h1, h2, ?_⟩
  unfold SeqAt.shaped at h2 ⊢
  simpa [PyData.canLay0, PyData.depth] using h2
theorem os_inAll {K : PySem.W.Frag} : OpS K (rInAll K) gIn := fun C m σ H env h x y sx sy q Q' eK R rx ry hg p => by
  subst eK
  unfold gIn gInB at hg
  split at hg
  · obtain ⟨c, rfl, hq⟩ := hg
    cases rx; cases ry
    exact .inl ⟨_, _, rfl, rfl, p.bl R hq⟩
  · obtain ⟨a, xs, e1, e2, o1, o2, hq⟩ := hg
    obtain ⟨n2, s2, s3⟩ := okD_tl o2
    unfold PV.okD at o1
    rw [Bool.and_eq_true] at o1
    have ea : (PV.pyL xs).any (fun z => PyData.eqv z a.py) = xs.any fun z => pyEq z a := by
      rw [PV.pyL_map, List.any_map]
      rfl
    have hq' : q (.val (.bl ((PV.pyL xs).any fun z => PyData.eqv z a.py))) := by rw [ea]; exact hq
    rcases e2 with e2 | e2
    · have d2 := R.dp ry e2 (by unfold PV.noRef; exact n2)
      unfold PV.py at d2
      exact .inr (.inl ⟨_, _, R.dp rx e1 o1.1, d2, o1.2, s3, p.bl R hq'⟩)
    · have d2 := R.dp ry e2 (by unfold PV.noRef; exact n2)
      unfold PV.py at d2
      exact .inr (.inr ⟨_, _, R.dp rx e1 o1.1, d2, o1.2, s2, p.bl R hq'⟩)
theorem os_notInAll {K : PySem.W.Frag} : OpS K (rNotInAll K) gNotIn := fun C m σ H env h x y sx sy q Q' eK R rx ry hg p => by
  subst eK
  unfold gNotIn gInB at hg
  split at hg
  · obtain ⟨c, rfl, hq⟩ := hg
    cases rx; cases ry
    exact .inl ⟨_, _, rfl, rfl, p.bl R hq⟩
  · obtain ⟨a, xs, e1, e2, o1, o2, hq⟩ := hg
    obtain ⟨n2, s2, s3⟩ := okD_tl o2
    unfold PV.okD at o1
    rw [Bool.and_eq_true] at o1
    have ea : (PV.pyL xs).any (fun z => PyData.eqv z a.py) = xs.any fun z => pyEq z a := by
      rw [PV.pyL_map, List.any_map]
      rfl
    have hq' : q (.val (.bl (!(PV.pyL xs).any fun z => PyData.eqv z a.py))) := by rw [ea]; exact hq
    rcases e2 with e2 | e2
    · have d2 := R.dp ry e2 (by unfold PV.noRef; exact n2)
      unfold PV.py at d2
      exact .inr (.inl ⟨_, _, R.dp rx e1 o1.1, d2, o1.2, s3, p.bl R hq'⟩)
    · have d2 := R.dp ry e2 (by unfold PV.noRef; exact n2)
      unfold PV.py at d2
      exact .inr (.inr ⟨_, _, R.dp rx e1 o1.1, d2, o1.2, s2, p.bl R hq'⟩)

/-! ### items and slices -/
def gIx : G2 := fun h x y q => match y with
  | .val (.int i) => match x with
    | .val (.str z) => ∃ c, z.length ≤ sizeLine ∧ atI z.cps.toList i = some c ∧ q (.val (.str ⟨#[c]⟩))
    | x => ∃ xs p, seqC h x = some xs ∧ atI xs i = some p ∧ q (.val p)
  | _ => False
@[simp ↓] theorem gIx_eq  (h : Hs) (x : SV) (y : SV) (q : SV → Prop) : gIx  h x y q = (match y with
  | .val (.int i) => match x with
    | .val (.str z) => ∃ c, z.length ≤ sizeLine ∧ atI z.cps.toList i = some c ∧ q (.val (.str ⟨#[c]⟩))
    | x => ∃ xs p, seqC h x = some xs ∧ atI xs i = some p ∧ q (.val p)
  | _ => False) := id rfl
theorem RepL.atI {K : PySem.W.Frag} {Ex : Ad} {m : List Addr} {H : Hp} {vs : List V} {xs : List PV} {i : Int} {p : PV} (r : RepL K Ex m H vs xs) (e : L2.atI xs i = some p) : ∃ v, L2.atI vs i = some v ∧ Rep K Ex m H v p := by
  unfold L2.atI at e ⊢
  rw [r.length]
  cases q : ixN xs.length i with
  | none =>
    rw [q] at e
    cases e
  | some j =>
    rw [q] at e
    exact r.get e
theorem os_ix {K : PySem.W.Frag} : OpS K (rIx K) gIx := fun C m σ H env h x y sx sy q Q' eK R rx ry hg p => by
  subst eK
  unfold gIx at hg
  split at hg
  · cases ry
    split at hg
    · obtain ⟨c, l, e, hq⟩ := hg
      cases rx
      exact .inr (.inr ⟨_, _, c, rfl, rfl, l, e, p.str R hq⟩)
    · obtain ⟨xs, pv, e1, e2, hq⟩ := hg
      obtain ⟨a, vs, rfl, h1, q1⟩ := R.seq rx e1
      obtain ⟨v, e3, r3⟩ := q1.atI e2
      rcases h1 with h1 | h1
      · exact .inl ⟨a, vs, _, v, rfl, rfl, h1, e3, p.at R r3 hq⟩
      · exact .inr (.inl ⟨a, vs, _, v, rfl, rfl, h1, e3, p.at R r3 hq⟩)
  · exact hg.elim
def cutP (xs : List PV) (lo hi : Option Int) : List PV := (xs.drop (HT.sIx xs.length 0 lo)).take (HT.sIx xs.length xs.length hi - HT.sIx xs.length 0 lo)
theorem RepL.cut {K : PySem.W.Frag} {Ex : Ad} {m : List Addr} {H : Hp} {vs : List V} {xs : List PV} (r : RepL K Ex m H vs xs) (lo hi : Option Int) : RepL K Ex m H (cutV vs lo hi) (cutP xs lo hi) := by
  unfold cutV cutP
  rw [r.length]
  exact (r.drop _).take _
def rSlAll (K : PySem.W.Frag) : V → Option Int → Option Int → Hp → VK → Prop := fun x lo hi H Q => rSlL K x lo hi H Q ∨ rSlA K x lo hi H Q ∨ rSlS x lo hi H Q
theorem sl_all {X : Cx} : SlR X (rSlAll X.K) := sl_list.or (sl_tupA.or sl_str)
def gSl (h : Hs) (x : SV) (lo hi : Option Int) (q : SV → Prop) : Prop := match x with
  | .val (.str z) => z.length ≤ sizeLine ∧ q (.val (.str (cutS z lo hi)))
  | .val (.tup xs) => q (.val (.tup (cutP xs lo hi)))
  | x => ∃ xs, listC h x = some xs ∧ q (.own (cutP xs lo hi))
@[simp ↓] theorem gSl_eq (h : Hs) (x : SV) (lo hi : Option Int) (q : SV → Prop) : gSl h x lo hi q = (match x with
  | .val (.str z) => z.length ≤ sizeLine ∧ q (.val (.str (cutS z lo hi)))
  | .val (.tup xs) => q (.val (.tup (cutP xs lo hi)))
  | x => ∃ xs, listC h x = some xs ∧ q (.own (cutP xs lo hi))) := id rfl
def OptI : Option SV → Option (Option Int)
  | none => some none
  | some (.val (.int i)) => some (some i)
  | _ => none
theorem sIx_whole {xs : List PV} {lo hi : Option Int} (h : HT.sIx xs.length 0 lo = 0 ∧ HT.sIx xs.length xs.length hi = xs.length) : cutP xs lo hi = xs := by
  unfold cutP
  rw [h.1, h.2]
  simp
theorem os_sl {C : Ctx} {m : List Addr} {σ : St} {H : Hp} {env : Env} {h : Hs} {x : V} {sx : SV} {lo hi : Option Int} {q : SV → Prop} {Q' : VK} (R : Rel C m σ H env h) (rx : RepA C σ env m H x sx) (hg : gSl h sx lo hi q) (p : PostO C m σ H env h q Q') : rSlAll C.K x lo hi H Q' := by
  unfold gSl at hg
  split at hg
  · cases rx
    exact .inr (.inr ⟨_, rfl, hg.1, p.str R hg.2⟩)
  · cases rx with
    | tup ha qa =>
      refine .inr (.inl ⟨_, _, rfl, ha.sq, fun e => ?_, fun _ a n => p.newT R (qa.cut lo hi) hg n⟩)
      rw [qa.length] at e
      rw [sIx_whole e] at hg
      exact p.at R (.tup ha qa) hg
  · obtain ⟨xs, e, hq⟩ := hg
    obtain ⟨a, vs, rfl, h1, q1⟩ := R.list rx e
    exact .inl ⟨a, vs, rfl, h1, fun b n => p.newL R (q1.cut lo hi) hq n⟩
end PM

namespace PM
open PySem PySem.Spec L2
open PyProof.Rows hiding St

/-! ### arguments and displays -/
def dNil : DA := fun _ h Q _ => Q [] h
@[simp ↓] theorem dNil_eq  (u0 : Env) (h : Hs) (Q : List SV → Hs → Prop) (u1 : XQ) : dNil  u0 h Q u1 = (Q [] h) := id rfl
def dCons (a : DE) (r : DA) : DA := fun env h Q E => a env h (fun x h1 => r env h1 (fun xs h2 => Q (x :: xs) h2) E) E
@[simp ↓] theorem dCons_eq (a : DE) (r : DA) (env : Env) (h : Hs) (Q : List SV → Hs → Prop) (E : XQ) : dCons a r env h Q E = (a env h (fun x h1 => r env h1 (fun xs h2 => Q (x :: xs) h2) E) E) := id rfl
section
variable {K : PySem.W.Frag} {W : WX}
theorem sa_nil : SA K W tNil dNil := ⟨fun C m σ H env h Q E Q' eK R hf p _ => p m [] H [] h (.refl m H) R .nil hf⟩
theorem sa_cons {ta : TE} {fa : DE} {tr : TA} {fr : DA} (ha : SE K W ta fa) (hr : SA K W tr fr) : SA K W (tCons ta tr) (dCons fa fr) := ⟨fun C m σ H env h Q E Q' eK R hf p px => by
  refine ha.run C m σ H env h _ E _ eK R hf (fun m1 x H1 sx h1 S1 R1 r1 q1 => ?_) px
  refine hr.run (C.own x sx) m1 σ H1 env h1 _ E _ ((C.own_K x sx).trans eK) R1 q1 (fun m2 vs H2 svs h2 S2 R2 r2 q2 => ?_) (px.go S1).own
  refine p m2 (x :: vs) H2 (sx :: svs) h2 (S1.trans S2) R2 (.cons (r1.step S2 fun _ q => q) (Paired.mapP r2 fun v sv r => ?_)) q2
  exact r.less (C.own_K x sx).symm (fun b q => q.le fun _ => C.own_GT x sx) fun b n => stnew S1 n⟩
end
/-- a list of one's own that nobody else sees becomes a value -/
@[simp] def SV.toVal : SV → Option PV
  | .val p => some p
  | .own xs => some (.lst xs)
  | _ => none
@[simp] def valsOf : List SV → Option (List PV)
  | [] => some []
  | s :: ss => match s.toVal, valsOf ss with
    | some p, some ps => some (p :: ps)
    | _, _ => none
section
variable {C : Ctx} {m m' : List Addr} {σ : St} {H H' : Hp} {env : Env} {h : Hs}
theorem Rel.toVal (R : Rel C m σ H env h) {v : V} {sv : SV} {p : PV} (r : RepS C (ExOf C σ env m') m' (fun a => H a = none) H' v sv) (e : sv.toVal = some p) : Rep C.K (ExOf C σ env m') m' H' v p := by
  cases sv with
  | val q => cases e; exact r
  | own xs =>
    cases e
    obtain ⟨a, vs, rfl, ha, n, nm, q⟩ := r
    refine .lst ⟨.inl ha, fun z => ?_⟩ (RepL.mono (Kp.le fun b q => .inl q) ⟨[], by simp⟩ q)
    rcases z with z | z | z
    · exact R.gdom a z n
    · obtain ⟨ws, e, _⟩ := R.ownDom z
      rw [n] at e
      cases e
    · exact nm z
  | brw xs => cases e
  | scr ns => cases e
theorem Rel.toVals (R : Rel C m σ H env h) : ∀ {vs : List V} {svs : List SV} {ps : List PV}, Paired (RepS C (ExOf C σ env m') m' (fun a => H a = none) H') vs svs → valsOf svs = some ps → RepL C.K (ExOf C σ env m') m' H' vs ps
  | _, _, _, .nil, e => by
    cases e
    exact .nil
  | _, _, _, .cons r t, e => by
    unfold valsOf at e
    split at e
    · rename_i p ps e1 e2
      cases e
      exact .cons (R.toVal r e1) (R.toVals t e2)
    · cases e
end
def dTup (a : DA) : DE := fun env h Q E => a env h (fun svs h1 => match valsOf svs with
  | some ps => ps.length ≤ sizeLine ∧ Q (.val (.tup ps)) h1
  | none => False) E
@[simp ↓] theorem dTup_eq (a : DA) (env : Env) (h : Hs) (Q : VQ) (E : XQ) : dTup a env h Q E = (a env h (fun svs h1 => match valsOf svs with
  | some ps => ps.length ≤ sizeLine ∧ Q (.val (.tup ps)) h1
  | none => False) E) := id rfl
def dLst (a : DA) : DE := fun env h Q E => a env h (fun svs h1 => match valsOf svs with
  | some ps => ps.length ≤ sizeLine ∧ Q (.own ps) h1
  | none => False) E
@[simp ↓] theorem dLst_eq (a : DA) (env : Env) (h : Hs) (Q : VQ) (E : XQ) : dLst a env h Q E = (a env h (fun svs h1 => match valsOf svs with
  | some ps => ps.length ≤ sizeLine ∧ Q (.own ps) h1
  | none => False) E) := id rfl
section
variable {K : PySem.W.Frag} {W : WX} {ta : TA} {fa : DA}
theorem se_tup (ha : SA K W ta fa) : SE K W (tTup ta) (dTup fa) := ⟨fun C m σ H env h Q E Q' eK R hf p px => by
  refine ha.run C m σ H env h _ E _ eK R hf (fun m1 vs H1 svs h1 S1 R1 r1 q1 => ?_) px
  split at q1
  · rename_i ps e
    have rl := R.toVals r1 e
    have R1' : Rel C m1 σ H1 env h1 := R1.drops
    refine ⟨by rw [rl.length]; exact q1.1, fun a n => ?_⟩
    exact p m1 _ _ (.val (.tup ps)) h1 (S1.trans (.new n)) (R1'.grow (Same.upd n)) (R1'.newTup rl n) q1.2
  · exact q1.elim⟩
theorem se_lst (ha : SA K W ta fa) : SE K W (tLst ta) (dLst fa) := ⟨fun C m σ H env h Q E Q' eK R hf p px => by
  refine ha.run C m σ H env h _ E _ eK R hf (fun m1 vs H1 svs h1 S1 R1 r1 q1 => ?_) px
  split at q1
  · rename_i ps e
    have rl := R.toVals r1 e
    have R1' : Rel C m1 σ H1 env h1 := R1.drops
    refine ⟨by rw [rl.length]; exact q1.1, fun a n => ?_⟩
    refine PostO.newL (C := C) (m := m1) (σ := σ) (H := H1) (env := env) (h := h1) (q := fun r => Q r h1) (fun v H' sv s3 R3 r3 q3 => ?_) R1' rl q1.2 n
    exact p m1 v H' sv h1 (S1.trans (.same s3)) R3 (r3.less rfl (fun _ q => q) fun a n => stnew S1 n) q3
  · exact q1.elim⟩
end

/-! ### slices -/
abbrev DO := Env → Hs → (Option Int → Hs → Prop) → XQ → Prop
structure SO (K : PySem.W.Frag) (W : WX) (t : TO) (f : DO) : Prop where
  run : ∀ (C : Ctx) (m : List Addr) (σ : St) (H : Hp) (env : Env) (h : Hs) (Q : Option Int → Hs → Prop) (E : XQ) (Q' : Option Int → Hp → Prop), C.K = K → Rel C m σ H env h → f env h Q E →
    (∀ m' o H' h', StE m H m' H' → Rel C m' σ H' env h' → Q o h' → Q' o H') → PostX W C m σ H env E → t σ H Q'
def dNoPart : DO := fun _ h Q _ => Q none h
@[simp ↓] theorem dNoPart_eq  (u0 : Env) (h : Hs) (Q : Option Int → Hs → Prop) (u1 : XQ) : dNoPart  u0 h Q u1 = (Q none h) := id rfl
def dPart (a : DE) : DO := fun env h Q E => a env h (fun x h1 => match x with
  | .val (.int i) => Q (some i) h1
  | _ => False) E
@[simp ↓] theorem dPart_eq (a : DE) (env : Env) (h : Hs) (Q : Option Int → Hs → Prop) (E : XQ) : dPart a env h Q E = (a env h (fun x h1 => match x with
  | .val (.int i) => Q (some i) h1
  | _ => False) E) := id rfl
def dSl (a : DE) (lo hi : DO) : DE := fun env h Q E => a env h (fun x h1 => lo env h1 (fun l h2 => hi env h2 (fun u h3 => gSl h3 x l u fun r => Q r h3) E) E) E
@[simp ↓] theorem dSl_eq (a : DE) (lo hi : DO) (env : Env) (h : Hs) (Q : VQ) (E : XQ) : dSl a lo hi env h Q E = (a env h (fun x h1 => lo env h1 (fun l h2 => hi env h2 (fun u h3 => gSl h3 x l u fun r => Q r h3) E) E) E) := id rfl
section
variable {K : PySem.W.Frag} {W : WX}
theorem so_none : SO K W tNoPart dNoPart := ⟨fun C m σ H env h Q E Q' eK R hf p _ => p m none H h (.refl m H) R hf⟩
theorem so_some {ta : TE} {fa : DE} (ha : SE K W ta fa) : SO K W (tPart ta) (dPart fa) := ⟨fun C m σ H env h Q E Q' eK R hf p px => by
  refine ha.run C m σ H env h _ E _ eK R hf (fun m1 x H1 sx h1 S1 R1 r1 q1 => ?_) px
  split at q1
  · cases r1
    exact ⟨_, rfl, p m1 _ H1 h1 S1 R1 q1⟩
  · exact q1.elim⟩
theorem se_sl {ta : TE} {fa : DE} {tl th : TO} {fl fh : DO} (ha : SE K W ta fa) (hl : SO K W tl fl) (hh : SO K W th fh) : SE K W (tSl (rSlAll K) ta tl th) (dSl fa fl fh) := ⟨fun C m σ H env h Q E Q' eK R hf p px => by
  refine ha.run C m σ H env h _ E _ eK R hf (fun m1 x H1 sx h1 S1 R1 r1 q1 => ?_) px
  refine hl.run (C.own x sx) m1 σ H1 env h1 _ E _ ((C.own_K x sx).trans eK) R1 q1 (fun m2 l H2 h2 S2 R2 q2 => ?_) (px.go S1).own
  refine hh.run (C.own x sx) m2 σ H2 env h2 _ E _ ((C.own_K x sx).trans eK) R2 q2 (fun m3 u H3 h3 S3 R3 q3 => ?_) ((px.go S1).go S2).own
  have S : StE m H m3 H3 := (S1.trans S2).trans S3
  have r3 : RepA C σ env m3 H3 x sx := r1.step (S2.trans S3) fun _ _ => trivial
  have z := os_sl (C := C) (Q' := Q') R3.drop r3 q3 (fun v H' sv s3 R4 r4 q4 => p m3 v H' sv h3 (S.trans (.same s3)) R4 (r4.less rfl (fun _ q => q) fun a n => stnew S n) q4)
  rw [eK] at z
  exact z⟩
end

/-! ### tests -/
/-- a value's truth -/
def SV.tru (h : Hs) : SV → Option Bool
  | .val (.bl b) => some b
  | .val (.int i) => some (i != 0)
  | .val .non => some false
  | .val (.tup xs) => some (!xs.isEmpty)
  | .val (.ref n) => match h[n]? with
    | some (.lst xs) => some (!xs.isEmpty)
    | some (.dK xs) => some (!xs.isEmpty)
    | _ => none
  | .val (.lst xs) => some (!xs.isEmpty)
  | .own xs => some (!xs.isEmpty)
  | .brw xs => some (!xs.isEmpty)
  | _ => none
def dTru (a : DE) : DT := fun env h Q E => a env h (fun x h1 => match x.tru h1 with
  | some b => Q b h1
  | none => False) E
@[simp ↓] theorem dTru_eq (a : DE) (env : Env) (h : Hs) (Q : Bool → Hs → Prop) (E : XQ) : dTru a env h Q E = (a env h (fun x h1 => match x.tru h1 with
  | some b => Q b h1
  | none => False) E) := id rfl
/-- a test whose value is a bool by itself -/
def dTst (a : DE) : DT := fun env h Q E => a env h (fun x h1 => match x with
  | .val (.bl b) => Q b h1
  | _ => False) E
@[simp ↓] theorem dTst_eq (a : DE) (env : Env) (h : Hs) (Q : Bool → Hs → Prop) (E : XQ) : dTst a env h Q E = (a env h (fun x h1 => match x with
  | .val (.bl b) => Q b h1
  | _ => False) E) := id rfl
def tTru (K : PySem.W.Frag) (ta : TE) : TT := fun σ H Q => ta σ H fun x H' => ∃ k, TruV K x H' k ∧ Q k H'
section
variable {K : PySem.W.Frag} {W : WX}
theorem RepL.emp {K : PySem.W.Frag} {Ex : Ad} {m : List Addr} {H : Hp} {vs : List V} {xs : List PV} (r : RepL K Ex m H vs xs) : (!xs.isEmpty) = !vs.isEmpty := by
  cases r <;> rfl
theorem Rel.tru {C : Ctx} {m : List Addr} {σ : St} {H : Hp} {env : Env} {h : Hs} {v : V} {sv : SV} {b : Bool} (R : Rel C m σ H env h) (r : RepA C σ env m H v sv) (e : sv.tru h = some b) : TruV C.K v H b := by
  have lst : ∀ xs, listC h sv = some xs → b = !xs.isEmpty → TruV C.K v H b := fun xs e e2 => by
    obtain ⟨a, vs, rfl, h1, q⟩ := R.list r e
    exact .inl ⟨vs, h1, by rw [e2, q.emp]⟩
  cases sv with
  | own xs => cases e; exact lst xs rfl rfl
  | brw xs => cases e; exact lst xs rfl rfl
  | scr ns => cases e
  | val p =>
    cases p with
    | non => cases e; cases r; rfl
    | bl _ => cases e; cases r; rfl
    | int _ => cases e; cases r; rfl
    | str _ => cases e
    | tup xs =>
      cases e
      cases r with
      | tup ha q => exact .inr (.inl ⟨_, ha.sq, q.emp⟩)
    | lst xs => cases e; exact lst xs rfl rfl
    | ref n =>
      have e' : (match h[n]? with | some (.lst xs) => some (!xs.isEmpty) | some (.dK xs) => some (!xs.isEmpty) | _ => none) = some b := e
      split at e'
      · rename_i xs hc
        cases e'
        refine lst xs ?_ rfl
        show (match h[n]? with | some (.lst xs) => some xs | _ => none) = some xs
        rw [hc]
      · rename_i xs hc
        cases e'
        cases r with
        | ref hn =>
          obtain ⟨vs, q1, q2, _⟩ := R.cell hn hc
          refine .inr (.inr ⟨vs, q1, ?_⟩)
          have : xs.length = vs.length := by simpa using (congrArg List.length q2).symm
          cases xs <;> cases vs <;> simp_all
      · cases e'
theorem st_tru {ta : TE} {fa : DE} (ha : SE K W ta fa) : ST K W (tTru K ta) (dTru fa) := ⟨fun C m σ H env h Q E Q' eK R hf p px => by
  refine ha.run C m σ H env h _ E _ eK R hf (fun m1 x H1 sx h1 S1 R1 r1 q1 => ?_) px
  split at q1
  · rename_i b e
    subst eK
    exact ⟨b, R1.drop.tru (r1.less rfl (fun _ q => q) fun _ _ => trivial) e, p m1 b H1 h1 S1 R1.drop q1⟩
  · exact q1.elim⟩
theorem st_tst {ta : TE} {fa : DE} (ha : SE K W ta fa) : ST K W (tTest ta) (dTst fa) := ⟨fun C m σ H env h Q E Q' eK R hf p px => by
  refine ha.run C m σ H env h _ E _ eK R hf (fun m1 x H1 sx h1 S1 R1 r1 q1 => ?_) px
  split at q1
  · cases r1
    exact ⟨_, rfl, p m1 _ H1 h1 S1 R1 q1⟩
  · exact q1.elim⟩
def dAnd (a b : DT) : DT := fun env h Q E => a env h (fun c h1 => if c = true then b env h1 Q E else Q false h1) E
@[simp ↓] theorem dAnd_eq (a b : DT) (env : Env) (h : Hs) (Q : Bool → Hs → Prop) (E : XQ) : dAnd a b env h Q E = (a env h (fun c h1 => if c = true then b env h1 Q E else Q false h1) E) := id rfl
def dOr (a b : DT) : DT := fun env h Q E => a env h (fun c h1 => if c = true then Q true h1 else b env h1 Q E) E
@[simp ↓] theorem dOr_eq (a b : DT) (env : Env) (h : Hs) (Q : Bool → Hs → Prop) (E : XQ) : dOr a b env h Q E = (a env h (fun c h1 => if c = true then Q true h1 else b env h1 Q E) E) := id rfl
def dNot (a : DT) : DT := fun env h Q E => a env h (fun c h1 => Q (!c) h1) E
@[simp ↓] theorem dNot_eq (a : DT) (env : Env) (h : Hs) (Q : Bool → Hs → Prop) (E : XQ) : dNot a env h Q E = (a env h (fun c h1 => Q (!c) h1) E) := id rfl
variable {ta tb : TT} {fa fb : DT}
theorem st_and (ha : ST K W ta fa) (hb : ST K W tb fb) : ST K W (tAnd ta tb) (dAnd fa fb) := ⟨fun C m σ H env h Q E Q' eK R hf p px => by
  refine ha.run C m σ H env h _ E _ eK R hf (fun m1 c H1 h1 S1 R1 q1 => ?_) px
  cases c with
  | true => exact iteT (hb.run C m1 σ H1 env h1 Q E Q' eK R1 (by simpa using q1) (fun m2 b H2 h2 S2 => p m2 b H2 h2 (S1.trans S2)) (px.go S1))
  | false => exact iteF (p m1 false H1 h1 S1 R1 (by simpa using q1))⟩
theorem st_or (ha : ST K W ta fa) (hb : ST K W tb fb) : ST K W (tOr ta tb) (dOr fa fb) := ⟨fun C m σ H env h Q E Q' eK R hf p px => by
  refine ha.run C m σ H env h _ E _ eK R hf (fun m1 c H1 h1 S1 R1 q1 => ?_) px
  cases c with
  | false => exact iteF (hb.run C m1 σ H1 env h1 Q E Q' eK R1 (by simpa using q1) (fun m2 b H2 h2 S2 => p m2 b H2 h2 (S1.trans S2)) (px.go S1))
  | true => exact iteT (p m1 true H1 h1 S1 R1 (by simpa using q1))⟩
theorem st_not (ha : ST K W ta fa) : ST K W (tNot ta) (dNot fa) := ⟨fun C m σ H env h Q E Q' eK R hf p px =>
  ha.run C m σ H env h _ E _ eK R hf (fun m1 c H1 h1 S1 R1 q1 => p m1 (!c) H1 h1 S1 R1 q1) px⟩
end
/-! as values: bools -/
def dAndV (a b : DE) : DE := fun env h Q E => a env h (fun x h1 => match x with
  | .val (.bl c) => if c = true then b env h1 Q E else Q (.val (.bl false)) h1
  | _ => False) E
@[simp ↓] theorem dAndV_eq (a b : DE) (env : Env) (h : Hs) (Q : VQ) (E : XQ) : dAndV a b env h Q E = (a env h (fun x h1 => match x with
  | .val (.bl c) => if c = true then b env h1 Q E else Q (.val (.bl false)) h1
  | _ => False) E) := id rfl
def dOrV (a b : DE) : DE := fun env h Q E => a env h (fun x h1 => match x with
  | .val (.bl c) => if c = true then Q (.val (.bl true)) h1 else b env h1 Q E
  | _ => False) E
@[simp ↓] theorem dOrV_eq (a b : DE) (env : Env) (h : Hs) (Q : VQ) (E : XQ) : dOrV a b env h Q E = (a env h (fun x h1 => match x with
  | .val (.bl c) => if c = true then Q (.val (.bl true)) h1 else b env h1 Q E
  | _ => False) E) := id rfl
def dNotV (a : DE) : DE := fun env h Q E => a env h (fun x h1 => match x with
  | .val (.bl c) => Q (.val (.bl (!c))) h1
  | _ => False) E
@[simp ↓] theorem dNotV_eq (a : DE) (env : Env) (h : Hs) (Q : VQ) (E : XQ) : dNotV a env h Q E = (a env h (fun x h1 => match x with
  | .val (.bl c) => Q (.val (.bl (!c))) h1
  | _ => False) E) := id rfl
section
variable {K : PySem.W.Frag} {W : WX} {ta tb : TE} {fa fb : DE}
theorem PostE.go {C : Ctx} {m m1 : List Addr} {σ : St} {H H1 : Hp} {env : Env} {Q : VQ} {Q' : VK} (p : PostE C m σ H env Q Q') (S : StE m H m1 H1) : PostE C m1 σ H1 env Q Q' :=
  fun m' v H' sv h' S' R r q => p m' v H' sv h' (S.trans S') R (r.less rfl (fun _ q => q) fun a n => stnew S n) q
theorem se_and (ha : SE K W ta fa) (hb : SE K W tb fb) : SE K W (tAndV ta tb) (dAndV fa fb) := ⟨fun C m σ H env h Q E Q' eK R hf p px => by
  refine ha.run C m σ H env h _ E _ eK R hf (fun m1 x H1 sx h1 S1 R1 r1 q1 => ?_) px
  split at q1
  · rename_i c
    cases r1
    refine ⟨c, rfl, ?_⟩
    cases c with
    | true => exact iteT (hb.run C m1 σ H1 env h1 Q E Q' eK R1 (by simpa using q1) (p.go S1) (px.go S1))
    | false => exact iteF (p m1 _ H1 (.val (.bl false)) h1 S1 R1 (.bl false) (by simpa using q1))
  · exact q1.elim⟩
theorem se_or (ha : SE K W ta fa) (hb : SE K W tb fb) : SE K W (tOrV ta tb) (dOrV fa fb) := ⟨fun C m σ H env h Q E Q' eK R hf p px => by
  refine ha.run C m σ H env h _ E _ eK R hf (fun m1 x H1 sx h1 S1 R1 r1 q1 => ?_) px
  split at q1
  · rename_i c
    cases r1
    refine ⟨c, rfl, ?_⟩
    cases c with
    | false => exact iteF (hb.run C m1 σ H1 env h1 Q E Q' eK R1 (by simpa using q1) (p.go S1) (px.go S1))
    | true => exact iteT (p m1 _ H1 (.val (.bl true)) h1 S1 R1 (.bl true) (by simpa using q1))
  · exact q1.elim⟩
theorem se_not (ha : SE K W ta fa) : SE K W (tNotV ta) (dNotV fa) := ⟨fun C m σ H env h Q E Q' eK R hf p px => by
  refine ha.run C m σ H env h _ E _ eK R hf (fun m1 x H1 sx h1 S1 R1 r1 q1 => ?_) px
  split at q1
  · rename_i c
    cases r1
    exact ⟨c, rfl, p m1 _ H1 (.val (.bl (!c))) h1 S1 R1 (.bl _) q1⟩
  · exact q1.elim⟩
/-- a < b < c -/
def dChain (g g' : G2) (a b c : DE) : DE := fun env h Q E => a env h (fun x h1 => b env h1 (fun y h2 => g h2 x y fun z => match z with
  | .val (.bl k) => if k = true then c env h2 (fun w h3 => g' h3 y w fun r => Q r h3) E else Q (.val (.bl false)) h2
  | _ => False) E) E
@[simp ↓] theorem dChain_eq (g g' : G2) (a b c : DE) (env : Env) (h : Hs) (Q : VQ) (E : XQ) : dChain g g' a b c env h Q E = (a env h (fun x h1 => b env h1 (fun y h2 => g h2 x y fun z => match z with
  | .val (.bl k) => if k = true then c env h2 (fun w h3 => g' h3 y w fun r => Q r h3) E else Q (.val (.bl false)) h2
  | _ => False) E) E) := id rfl
theorem se_chain {r r' : R2} {g g' : G2} {tc : TE} {fc : DE} (o : OpS K r g) (o' : OpS K r' g') (ha : SE K W ta fa) (hb : SE K W tb fb) (hc : SE K W tc fc) : SE K W (tChain r r' ta tb tc) (dChain g g' fa fb fc) := ⟨fun C m σ H env h Q E Q' eK R hf p px => by
  refine ha.run C m σ H env h _ E _ eK R hf (fun m1 x H1 sx h1 S1 R1 r1 q1 => ?_) px
  refine hb.run (C.own x sx) m1 σ H1 env h1 _ E _ ((C.own_K x sx).trans eK) R1 q1 (fun m2 y H2 sy h2 S2 R2 r2 q2 => ?_) (px.go S1).own
  have r2' : RepA C σ env m2 H2 y sy := r2.less (C.own_K x sx).symm (fun b q => q.le fun _ => C.own_GT x sx) fun _ _ => trivial
  refine o C m2 σ H2 env h2 x y sx sy _ _ eK R2.drop.drop (r1.step S2 fun _ _ => trivial) r2' q2 fun v H3 sv s3 R3 r3 q3 => ?_
  split at q3
  · rename_i k
    cases r3
    refine ⟨k, rfl, ?_⟩
    have S : StE m H m2 H3 := (S1.trans S2).trans (.same s3)
    cases k with
    | false => exact iteF (p m2 _ H3 (.val (.bl false)) h2 S R3 (.bl false) (by simpa using q3))
    | true =>
      refine iteT (hc.run C m2 σ H3 env h2 _ E _ eK R3 (by simpa using q3) (fun m4 w H4 sw h4 S4 R4 r4 q4 => ?_) (px.go S))
      have ry4 : RepA C σ env m4 H4 y sy := r2'.step ((StE.same s3).trans S4) fun _ _ => trivial
      refine o' C m4 σ H4 env h4 y w sy sw _ _ eK R4.drop ry4 (r4.less rfl (fun _ q => q) fun _ _ => trivial) q4 fun v' H5 sv' s5 R5 r5 q5 => ?_
      have S5 : StE m4 H4 m4 H5 := .same s5
      have SS := S.trans S4
      exact p m4 v' H5 sv' h4 (SS.trans S5) R5 (r5.less rfl (fun _ q => q) fun a n => stnew SS n) q5
  · exact q3.elim⟩
end
end PM

namespace PM
open PySem PySem.Spec L2
open PyProof.Rows hiding St

/-! ### slots change -/
theorem get_set {α : Type} {xs : List α} {i j : Nat} {x y : α} (h : (xs.set i x)[j]? = some y) : (j = i ∧ i < xs.length ∧ y = x) ∨ (j ≠ i ∧ xs[j]? = some y) := by
  rw [List.getElem?_set] at h
  split at h
  · rename_i e
    split at h
    · exact .inl ⟨e.symm, by assumption, (Option.some.inj h).symm⟩
    · cases h
  · rename_i e
    exact .inr ⟨fun z => e z.symm, h⟩
theorem nd_ix {α : Type} {N : List α} (hN : N.Nodup) {i j : Nat} {x : α} (a : N[i]? = some x) (b : N[j]? = some x) : i = j := by
  obtain ⟨hi, ei⟩ := List.getElem?_eq_some_iff.mp a
  obtain ⟨hj, ej⟩ := List.getElem?_eq_some_iff.mp b
  rcases Nat.lt_trichotomy i j with l | l | l
  · exact absurd (ei.trans ej.symm) (List.pairwise_iff_getElem.mp hN i j hi hj l)
  · exact l
  · exact absurd (ej.trans ei.symm) (List.pairwise_iff_getElem.mp hN j i hj hi l)
section
variable {C : Ctx} {m m' : List Addr} {σ : St} {H H' : Hp} {env : Env} {h h' : Hs}
theorem own_set {i : Nat} {v : V} {sv : SV} {b : Addr} (o : OwnAt (σ.set i (some v)) (env.set i (some sv)) b) : OwnAt σ env b ∨ (sv.isOwn = true ∧ v = .ref b) := by
  obtain ⟨j, xs, e, s⟩ := o
  rcases get_set e with ⟨rfl, l, e1⟩ | ⟨n, e1⟩
  · rcases get_set s with ⟨_, _, e2⟩ | ⟨n, _⟩
    · cases e1
      cases e2
      exact .inr ⟨rfl, rfl⟩
    · exact absurd rfl n
  · rcases get_set s with ⟨q, _⟩ | ⟨_, e2⟩
    · exact absurd q n
    · exact .inl ⟨j, xs, e1, e2⟩
theorem own_clear {i : Nat} {x : Option V} {b : Addr} (o : OwnAt (σ.set i x) (env.set i none) b) : OwnAt σ env b := by
  obtain ⟨j, xs, e, s⟩ := o
  rcases get_set e with ⟨rfl, l, e1⟩ | ⟨n, e1⟩
  · cases e1
  · rcases get_set s with ⟨q, _⟩ | ⟨_, e2⟩
    · exact absurd q n
    · exact ⟨j, xs, e1, e2⟩
theorem NB.le {σ' : St} {env' : Env} {C' : Ctx} {v : V} {sv : SV} (n : NB C σ env v sv) (eK : C'.K = C.K) (o : ∀ b, OwnAt σ' env' b → OwnAt σ env b ∨ C.T b) (t : ∀ b, C'.T b → C.T b) : NB C' σ' env' v sv := by
  cases sv with
  | val p => trivial
  | own xs => trivial
  | brw xs => exact fun b e => ⟨fun q => (o b q).elim (n b e).1 (n b e).2, fun q => (n b e).2 (t b q)⟩
  | scr ns =>
    intro b e
    rcases n b e with q | q
    · exact .inl fun H' => by rw [eK]; exact q H'
    · exact .inr ⟨fun z => (o b z).elim q.1 q.2, fun z => q.2 (t b z)⟩
/-- a slot is stored -/
theorem Rel.setSlot {i : Nat} {v : V} {sv : SV} (R : Rel (C.own v sv) m σ H env h) (r : RepS C (ExOf C σ env m) m (fun a => C.H0 a = none) H v sv) (nb : sv.isB = false) (nG : ∀ a, sv.isOwn = true → v = .ref a → ¬ C.GT a) :
    Rel C m (σ.set i (some v)) H (env.set i (some sv)) h := by
  have own : ∀ b, OwnAt (σ.set i (some v)) (env.set i (some sv)) b → OwnAt σ env b ∨ (C.own v sv).T b := fun b o => (own_set o).imp id fun ⟨q, e⟩ => by
    cases sv with
    | own xs => exact .inr e.symm
    | _ => cases q
  have ex : ∀ b, ExOf C (σ.set i (some v)) (env.set i (some sv)) m b → ExOf (C.own v sv) σ env m b := fun b q => by
    rcases q with q | q | q
    · exact .inl (C.own_GT v sv q)
    · rcases own b q with z | z
      · exact .inr (.inl z)
      · exact .inl (.inr z)
    · exact .inr (.inr q)
  have slots : ∀ w sw, SlotR (C.own v sv) σ env m H w sw → SlotR C (σ.set i (some v)) (env.set i (some sv)) m H w sw := fun w sw ⟨r1, b1⟩ =>
    ⟨r1.less (C.own_K v sv).symm ex fun b q => by rw [← C.own_H0 v sv]; exact q, b1.le (C.own_K v sv).symm own fun b q => C.own_T v sv q⟩
  have R0 := R.drop
  refine ⟨by rw [List.length_set, List.length_set]; exact R.len, fun j sw e => ?_, fun p hp => ?_, fun j k xs ys a e1 e2 s1 s2 => ?_, ⟨R.hm.len, R.hm.nd, fun n a c e f => ?_⟩, R0.keep, R0.dom, R0.pre, R0.gdom, fun a g o => ?_⟩
  · rcases get_set e with ⟨rfl, l, e1⟩ | ⟨n, e1⟩
    · cases e1
      refine ⟨v, by rw [List.getElem?_set_self (by rw [R.len]; exact l)], ?_, by cases sv <;> first | trivial | cases nb⟩
      cases sv with
      | own xs =>
        obtain ⟨a, vs, rfl, ha, h0, nm, q⟩ := r
        refine ⟨a, vs, rfl, ha, h0, nm, RepL.mono (Kp.le fun b z => ?_) ⟨[], by simp⟩ q⟩
        rcases z with z | z
        · rcases ex b z with z | z | z
          · rcases z with z | z | z
            · exact .inl (.inl (.inl z))
            · exact .inl (.inl (.inr z))
            · cases z
              exact .inr rfl
          · exact .inl (.inr (.inl z))
          · exact .inl (.inr (.inr z))
        · exact .inr z
      | val p => exact Rep.mono (Kp.le fun b z => ex b z) ⟨[], by simp⟩ r
      | brw xs => cases nb
      | scr ns => cases nb
    · obtain ⟨w, s, r1⟩ := R.slot j sw e1
      exact ⟨w, by rw [List.getElem?_set_ne (Ne.symm n)]; exact s, slots w sw r1⟩
  · have z := R.pin p (by rw [C.own_pins]; exact hp)
    exact ⟨slots _ _ z.1, z.2⟩
  · have fresh : sv.isOwn = true → v = .ref a → ¬ OwnAt σ env a := fun q e o => R.gown a (by
      cases sv with
      | own xs => exact .inr (.inr e.symm)
      | _ => cases q) o
    rcases get_set e1 with ⟨rfl, l, f1⟩ | ⟨n1, f1⟩
    · rcases get_set e2 with ⟨rfl, _, f2⟩ | ⟨n2, f2⟩
      · rfl
      · cases f1
        rcases get_set s1 with ⟨_, _, g1⟩ | ⟨n, _⟩
        · cases g1
          rcases get_set s2 with ⟨q, _⟩ | ⟨_, g2⟩
          · exact absurd q n2
          · exact absurd ⟨k, ys, f2, g2⟩ (fresh rfl rfl)
        · exact absurd rfl n
    · rcases get_set e2 with ⟨rfl, _, f2⟩ | ⟨n2, f2⟩
      · cases f2
        rcases get_set s2 with ⟨_, _, g2⟩ | ⟨n, _⟩
        · cases g2
          rcases get_set s1 with ⟨q, _⟩ | ⟨_, g1⟩
          · exact absurd q n1
          · exact absurd ⟨j, xs, f1, g1⟩ (fresh rfl rfl)
        · exact absurd rfl n
      · rcases get_set s1 with ⟨q, _⟩ | ⟨_, g1⟩
        · exact absurd q n1
        · rcases get_set s2 with ⟨q, _⟩ | ⟨_, g2⟩
          · exact absurd q n2
          · exact R.uniq j k xs ys a f1 f2 g1 g2
  · have z := R.hm.at_ n a c e f
    rw [C.own_K] at z
    exact z.mono (Kp.le ex) ⟨[], by simp⟩ rfl
  · rcases own_set o with q | ⟨q, e⟩
    · exact R0.gown a g q
    · exact nG a q e g
theorem Rel.setVal {i : Nat} {v : V} {p : PV} (R : Rel C m σ H env h) (r : Rep C.K (ExOf C σ env m) m H v p) : Rel C m (σ.set i (some v)) H (env.set i (some (.val p))) h :=
  Rel.setSlot (sv := .val p) R r rfl fun _ q => nomatch q
/-- a slot is forgotten -/
theorem Rel.clear {i : Nat} {x : Option V} (R : Rel C m σ H env h) : Rel C m (σ.set i x) H (env.set i none) h := by
  have ex : ∀ b, ExOf C (σ.set i x) (env.set i none) m b → ExOf C σ env m b := fun b q => by
    rcases q with q | q | q
    · exact .inl q
    · exact .inr (.inl (own_clear q))
    · exact .inr (.inr q)
  have slots : ∀ w sw, SlotR C σ env m H w sw → SlotR C (σ.set i x) (env.set i none) m H w sw := fun w sw ⟨r1, b1⟩ => ⟨r1.less rfl ex fun _ q => q, b1.le rfl (fun b o => .inl (own_clear o)) fun _ q => q⟩
  refine ⟨by rw [List.length_set, List.length_set]; exact R.len, fun j sw e => ?_, fun p hp => ⟨slots _ _ (R.pin p hp).1, (R.pin p hp).2⟩, fun j k xs ys a e1 e2 s1 s2 => ?_, ⟨R.hm.len, R.hm.nd, fun n a c e f => (R.hm.at_ n a c e f).mono (Kp.le ex) ⟨[], by simp⟩ rfl⟩, R.keep, R.dom, R.pre, R.gdom, fun a g o => R.gown a g (own_clear o)⟩
  · rcases get_set e with ⟨rfl, l, e1⟩ | ⟨n, e1⟩
    · cases e1
    · obtain ⟨w, s, r1⟩ := R.slot j sw e1
      exact ⟨w, by rw [List.getElem?_set_ne (Ne.symm n)]; exact s, slots w sw r1⟩
  · rcases get_set e1 with ⟨rfl, l, f1⟩ | ⟨n1, f1⟩
    · cases f1
    · rcases get_set e2 with ⟨rfl, l, f2⟩ | ⟨n2, f2⟩
      · cases f2
      · rcases get_set s1 with ⟨q, _⟩ | ⟨_, g1⟩
        · exact absurd q n1
        · rcases get_set s2 with ⟨q, _⟩ | ⟨_, g2⟩
          · exact absurd q n2
          · exact R.uniq j k xs ys a f1 f2 g1 g2
/-- a list of one's own is locked for ever -/
def frzE (i : Nat) (env : Env) : Env := match env[i]? with
  | some (some (.own xs)) => env.set i (some (.val (.lst xs)))
  | _ => env
@[simp ↓] theorem frzE_eq (i : Nat) (env : Env) : frzE i env = (match env[i]? with
  | some (some (.own xs)) => env.set i (some (.val (.lst xs)))
  | _ => env) := id rfl
theorem own_frz {i : Nat} {xs : List PV} {b : Addr} (o : OwnAt σ (env.set i (some (.val (.lst xs)))) b) : ∃ j ys, j ≠ i ∧ env[j]? = some (some (.own ys)) ∧ σ[j]? = some (some (.ref b)) := by
  obtain ⟨j, ys, e, s⟩ := o
  rcases get_set e with ⟨rfl, l, e1⟩ | ⟨n, e1⟩
  · cases e1
  · exact ⟨j, ys, n, e1, s⟩
theorem Rel.frz {i : Nat} (R : Rel C m σ H env h) : Rel C m σ H (frzE i env) h := by
  unfold frzE
  split
  · rename_i xs e0
    obtain ⟨v0, s0, ⟨a0, vs0, rfl, ha0, h00, nm0, q0⟩, _⟩ := R.slot i _ e0
    have il : i < env.length := (List.getElem?_eq_some_iff.mp e0).1
    have o2 : ∀ b, OwnAt σ (env.set i (some (.val (.lst xs)))) b → OwnAt σ env b ∧ b ≠ a0 := fun b o => by
      obtain ⟨j, ys, n, e, s⟩ := own_frz o
      refine ⟨⟨j, ys, e, s⟩, fun z => ?_⟩
      subst z
      exact n (R.uniq j i ys xs b e e0 s s0)
    have ex : ∀ b, ExOf C σ (env.set i (some (.val (.lst xs)))) m b → ExOf C σ env m b := fun b q => by
      rcases q with q | q | q
      · exact .inl q
      · exact .inr (.inl (o2 b q).1)
      · exact .inr (.inr q)
    have slots : ∀ w sw, SlotR C σ env m H w sw → SlotR C σ (env.set i (some (.val (.lst xs)))) m H w sw := fun w sw ⟨r1, b1⟩ => ⟨r1.less rfl ex fun _ q => q, b1.le rfl (fun b o => .inl (o2 b o).1) fun _ q => q⟩
    refine ⟨by rw [List.length_set]; exact R.len, fun j sw e => ?_, fun p hp => ⟨slots _ _ (R.pin p hp).1, (R.pin p hp).2⟩, fun j k xs ys a e1 e2 s1 s2 => ?_, ⟨R.hm.len, R.hm.nd, fun n a c e f => (R.hm.at_ n a c e f).mono (Kp.le ex) ⟨[], by simp⟩ rfl⟩, R.keep, R.dom, R.pre, R.gdom, fun a g o => R.gown a g (o2 a o).1⟩
    · rcases get_set e with ⟨rfl, l, e1⟩ | ⟨n, e1⟩
      · cases e1
        refine ⟨_, s0, .lst ⟨.inl ha0, fun z => ?_⟩ (RepL.mono (Kp.le fun b z => .inl (ex b z)) ⟨[], by simp⟩ q0), trivial⟩
        rcases z with z | z | z
        · exact R.gown a0 z ⟨_, _, e0, s0⟩
        · exact (o2 a0 z).2 rfl
        · exact nm0 z
      · obtain ⟨w, s, r1⟩ := R.slot j sw e1
        exact ⟨w, s, slots w sw r1⟩
    · rcases get_set e1 with ⟨rfl, l, f1⟩ | ⟨n1, f1⟩
      · cases f1
      · rcases get_set e2 with ⟨rfl, l, f2⟩ | ⟨n2, f2⟩
        · cases f2
        · exact R.uniq j k _ _ a f1 f2 s1 s2
  · exact R
/-- a list of one's own is changed -/
theorem Rel.mutOwn {i : Nat} {a : Addr} {xs ys : List PV} {vs : List V} (R : Rel C m σ H env h) (e0 : env[i]? = some (some (.own xs))) (s0 : σ[i]? = some (some (.ref a))) (r : RepL C.K (ExOf C σ env m) m H vs ys) :
    Rel C m σ (upd H a (.lst vs)) (env.set i (some (.own ys))) h := by
  obtain ⟨v0, s0', ⟨a0, vs0, e00, ha0, h00, nm0, q0⟩, _⟩ := R.slot i _ e0
  rw [s0] at s0'
  cases s0'
  cases e00
  have il : i < env.length := (List.getElem?_eq_some_iff.mp e0).1
  have oa : OwnAt σ env a := ⟨i, xs, e0, s0⟩
  have o2 : ∀ b, OwnAt σ (env.set i (some (.own ys))) b → OwnAt σ env b := fun b ⟨j, zs, e, s⟩ => by
    rcases get_set e with ⟨rfl, l, e1⟩ | ⟨n, e1⟩
    · exact ⟨_, xs, e0, s⟩
    · exact ⟨j, zs, e1, s⟩
  have ex : ∀ b, ExOf C σ (env.set i (some (.own ys))) m b → ExOf C σ env m b := fun b q => by
    rcases q with q | q | q
    · exact .inl q
    · exact .inr (.inl (o2 b q))
    · exact .inr (.inr q)
  have k : Kp (ExOf C σ env m) H (ExOf C σ (env.set i (some (.own ys))) m) (upd H a (.lst vs)) := fun b u e n => by
    have nb : b ≠ a := fun z => n (by rw [z]; exact .inr (.inl oa))
    exact ⟨by rw [upd_ne nb]; exact e, fun q => n (ex b q)⟩
  have am : ∀ b, b ∈ m → b ≠ a := fun b q z => nm0 (z ▸ q)
  have oex : ∀ b, (ExOf C σ env m b ∨ b = a) → ExOf C σ env m b := fun b q => q.elim id fun z => by rw [z]; exact .inr (.inl oa)
  have slots : ∀ w sw, (sw.isOwn = true → w ≠ .ref a) → SlotR C σ env m H w sw → SlotR C σ (env.set i (some (.own ys))) m (upd H a (.lst vs)) w sw := fun w sw no ⟨r1, b1⟩ => by
    refine ⟨?_, b1.le rfl (fun b o => .inl (o2 b o)) fun _ q => q⟩
    cases sw with
    | val p => exact Rep.mono k ⟨[], by simp⟩ r1
    | own zs =>
      obtain ⟨c, ws, rfl, hc, hn, cm, q⟩ := r1
      have nc : c ≠ a := fun z => no rfl (by rw [z])
      refine ⟨c, ws, rfl, by rw [upd_ne nc]; exact hc, hn, cm, RepL.mono (fun b u e n => ?_) ⟨[], by simp⟩ q⟩
      obtain ⟨k1, k2⟩ := k b u e fun z => n (.inl z)
      exact ⟨k1, fun z => z.elim k2 fun z => n (.inr z)⟩
    | brw zs =>
      obtain ⟨c, ws, rfl, hc, q⟩ := r1
      have nc : c ≠ a := fun z => (b1 c rfl).1 (by rw [z]; exact oa)
      refine ⟨c, ws, rfl, ⟨?_, hc.2⟩, RepL.mono k ⟨[], by simp⟩ q⟩
      unfold Rd
      rw [upd_ne nc]
      exact hc.1
    | scr ns =>
      obtain ⟨c, rfl, hc⟩ := r1
      refine ⟨c, rfl, ?_⟩
      rcases b1 c rfl with z | z
      · exact .inr z
      · rcases hc with hc | hc
        · have nc : c ≠ a := fun e => z.1 (by rw [e]; exact oa)
          refine .inl ⟨?_, hc.2⟩
          unfold Rd
          rw [upd_ne nc]
          exact hc.1
        · exact .inr hc
  refine ⟨by rw [List.length_set]; exact R.len, fun j sw e => ?_, fun p hp => ⟨slots _ _ (fun q => by rw [(R.pin p hp).2] at q; cases q) (R.pin p hp).1, (R.pin p hp).2⟩, fun j k' us ws b e1 e2 s1 s2 => ?_, ⟨R.hm.len, R.hm.nd, fun n b c e f => (R.hm.at_ n b c e f).mono k ⟨[], by simp⟩ (upd_ne (am b (List.mem_of_getElem? e)))⟩, fun b u e n => ?_, fun b q => ?_, R.pre, fun b q => ?_, fun b g o => R.gown b g (o2 b o)⟩
  · rcases get_set e with ⟨rfl, l, e1⟩ | ⟨n, e1⟩
    · cases e1
      refine ⟨_, s0, ⟨a, vs, rfl, upd_same, h00, nm0, RepL.mono (fun b u e n => ?_) ⟨[], by simp⟩ r⟩, trivial⟩
      obtain ⟨k1, k2⟩ := k b u e n
      exact ⟨k1, fun z => z.elim k2 fun z => n (by rw [z]; exact .inr (.inl oa))⟩
    · obtain ⟨w, s, r1⟩ := R.slot j sw e1
      refine ⟨w, s, slots w sw (fun q z => ?_) r1⟩
      cases sw with
      | own zs =>
        subst z
        exact n (R.uniq j i zs xs a e1 e0 s s0)
      | _ => cases q
  · have to : ∀ {j : Nat} {us : List PV}, (env.set i (some (.own ys)))[j]? = some (some (.own us)) → ∃ us', env[j]? = some (some (.own us')) := fun {j us} e => by
      rcases get_set e with ⟨rfl, _, _⟩ | ⟨_, e1⟩
      · exact ⟨_, e0⟩
      · exact ⟨_, e1⟩
    obtain ⟨us', f1⟩ := to e1
    obtain ⟨ws', f2⟩ := to e2
    exact R.uniq j k' us' ws' b f1 f2 s1 s2
  · have nb : b ≠ a := fun z => by
      rw [z, h00] at e
      cases e
    rw [upd_ne nb]
    exact R.keep b u e n
  · by_cases z : b = a
    · rw [z, upd_same]
      simp
    · rw [upd_ne z]
      exact R.dom b q
  · by_cases z : b = a
    · rw [z, upd_same]
      simp
    · rw [upd_ne z]
      exact R.gdom b q
/-- a cell is changed -/
theorem Rel.mutCell {n : Nat} {a : Addr} {c' : Cell} {o : HO} (R : Rel C m σ H env h) (e0 : m[n]? = some a) (s0 : n < h.length) (r : CellR C.K (ExOf C σ env m) m (upd H a o) a c') :
    StE m H m (upd H a o) ∧ Rel C m σ (upd H a o) env (h.set n c') := by
  have am : a ∈ m := List.mem_of_getElem? e0
  have S : StE m H m (upd H a o) := ⟨fun b u e n => by rw [upd_ne (fun z => n (by rw [z]; exact am))]; exact e, fun b q => by
    by_cases z : b = a
    · rw [z, upd_same]
      simp
    · rw [upd_ne z]
      exact q, [], by simp, by simp⟩
  refine ⟨S, R.step S ⟨by rw [List.length_set]; exact R.hm.len, R.hm.nd, fun k b c e f => ?_⟩⟩
  rcases get_set f with ⟨rfl, l, f1⟩ | ⟨n', f1⟩
  · rw [e0] at e
    cases e
    cases f1
    exact r
  · have nb : b ≠ a := fun z => by
      subst z
      exact n' (nd_ix R.hm.nd e e0)
    exact (R.hm.at_ k b c e f1).mono (R.kp S) ⟨[], by simp⟩ (upd_ne nb)
/-- a new cell for a list that nobody sees -/
theorem Rel.alloc {a : Addr} {vs : List V} {xs : List PV} (R : Rel (C.own (.ref a) (.own xs)) m σ H env h) (ha : H a = some (.lst vs)) (nm : a ∉ m) (n0 : C.H0 a = none) (nG : ¬ C.GT a) (q : RepL C.K (fun b => ExOf C σ env m b ∨ b = a) m H vs xs) :
    Rel C (m ++ [a]) σ H env (h ++ [.lst xs]) := by
  have R0 := R.drop
  have no : ¬ OwnAt σ env a := R.gown a (.inr (.inr rfl))
  have ex : ∀ b, ExOf C σ env (m ++ [a]) b → ExOf (C.own (.ref a) (.own xs)) σ env m b := fun b z => by
    rcases z with z | z | z
    · exact .inl (C.own_GT _ _ z)
    · exact .inr (.inl z)
    · rcases List.mem_append.mp z with z | z
      · exact .inr (.inr z)
      · rw [List.mem_singleton.mp z]
        exact .inl (.inr (.inr rfl))
  have slots : ∀ w sw, SlotR (C.own (.ref a) (.own xs)) σ env m H w sw → (sw.isOwn = true → w ≠ .ref a) → SlotR C σ env (m ++ [a]) H w sw := fun w sw ⟨r1, b1⟩ no' => by
    refine ⟨?_, b1.le rfl (fun b o => .inl o) fun b q => .inl q⟩
    cases sw with
    | val p => exact Rep.mono (Kp.le ex) ⟨_, rfl⟩ r1
    | own zs =>
      obtain ⟨c, ws, rfl, hc, hn, cm, q⟩ := r1
      refine ⟨c, ws, rfl, hc, hn, fun z => ?_, RepL.mono (Kp.le fun b z => z.imp (ex b) id) ⟨_, rfl⟩ q⟩
      rcases List.mem_append.mp z with z | z
      · exact cm z
      · exact no' rfl (by rw [List.mem_singleton.mp z])
    | brw zs =>
      obtain ⟨c, ws, rfl, hc, q⟩ := r1
      refine ⟨c, ws, rfl, ⟨hc.1, fun z => ?_⟩, RepL.mono (Kp.le ex) ⟨_, rfl⟩ q⟩
      rcases List.mem_append.mp z with z | z
      · exact hc.2 z
      · exact (b1 c rfl).2 (.inr (by rw [List.mem_singleton.mp z]))
    | scr ns =>
      obtain ⟨c, rfl, hc⟩ := r1
      refine ⟨c, rfl, ?_⟩
      rcases b1 c rfl with z | z
      · exact .inr z
      · rcases hc with hc | hc
        · refine .inl ⟨hc.1, fun e => ?_⟩
          rcases List.mem_append.mp e with e | e
          · exact hc.2 e
          · exact z.2 (.inr (by rw [List.mem_singleton.mp e]))
        · exact .inr hc
  refine ⟨R.len, fun j sw e => ?_, fun p hp => ⟨slots _ _ (R.pin p hp).1 (fun q => by rw [(R.pin p hp).2] at q; cases q), (R.pin p hp).2⟩, R.uniq, ⟨by rw [List.length_append, List.length_append, R.hm.len]; rfl, ?_, fun k b c e f => ?_⟩, R0.keep, R0.dom, ?_, R0.gdom, R0.gown⟩
  · obtain ⟨w, s, r1⟩ := R.slot j sw e
    refine ⟨w, s, slots w sw r1 fun q z => ?_⟩
    cases sw with
    | own zs => exact no ⟨j, zs, e, by rw [← z]; exact s⟩
    | _ => cases q
  · rw [List.nodup_append]
    exact ⟨R.hm.nd, by simp, fun x hx y hy => by rw [List.mem_singleton.mp hy]; exact fun z => nm (z ▸ hx)⟩
  · by_cases hk : k < m.length
    · rw [List.getElem?_append_left hk] at e
      rw [List.getElem?_append_left (by rw [← R.hm.len]; exact hk)] at f
      exact (R.hm.at_ k b c e f).mono (Kp.le ex) ⟨_, rfl⟩ rfl
    · rw [List.getElem?_append_right (by omega)] at e
      rw [List.getElem?_append_right (by rw [← R.hm.len]; omega)] at f
      have e1 := List.mem_singleton.mp (List.mem_of_getElem? e)
      have e2 := List.mem_singleton.mp (List.mem_of_getElem? f)
      subst e1 e2
      refine ⟨vs, ha, RepL.mono (Kp.le fun z w => ?_) ⟨_, rfl⟩ q⟩
      rcases ex z w with w | w | w
      · rcases w with w | w | w
        · exact .inl (.inl (.inl w))
        · exact .inl (.inl (.inr w))
        · cases w
          exact .inr rfl
      · exact .inl (.inr (.inl w))
      · exact .inl (.inr (.inr w))
  · obtain ⟨ms, rfl, hn⟩ := R0.pre
    refine ⟨ms ++ [a], by simp, fun b hb => ?_⟩
    rcases List.mem_append.mp hb with z | z
    · exact hn b z
    · rw [List.mem_singleton.mp z]
      exact n0
end
end PM

namespace PM
open PySem PySem.Spec L2
open PyProof.Rows hiding St

/-! ### what is walked -/
/-- J yields the items xs, as long as chk holds -/
def ItOk (C : Ctx) (J : It) (xs : List PV) (chk : Hs → Prop) : Prop :=
  ∀ (C2 : Ctx) (m2 : List Addr) (σ2 : St) (H2 : Hp) (env2 : Env) (h2 : Hs), C2.K = C.K → (∀ p ∈ C.pins, p ∈ C2.pins) → Rel C2 m2 σ2 H2 env2 h2 → chk h2 → ∀ i,
    (∀ p, xs[i]? = some p → J.go i H2 ∧ ∀ x H3, J.yld i H2 x H3 → Same H2 H3 ∧ Rep C2.K (ExOf C2 σ2 env2 m2) m2 H3 x p) ∧ (xs.length ≤ i → J.stop i H2)
/-- C' is C with more pins and more temporary lists outside -/
structure CtxLe (C C' : Ctx) : Prop where
  K : C'.K = C.K
  H0 : C'.H0 = C.H0
  m0 : C'.m0 = C.m0
  gt : ∀ b, C.GT b → C'.GT b
  t : ∀ b, C.T b → C'.T b
  pins : ∀ p ∈ C.pins, p ∈ C'.pins
theorem CtxLe.refl (C : Ctx) : CtxLe C C := ⟨rfl, rfl, rfl, fun _ q => q, fun _ q => q, fun _ q => q⟩
theorem CtxLe.trans {C C1 C2 : Ctx} (a : CtxLe C C1) (b : CtxLe C1 C2) : CtxLe C C2 := ⟨b.K.trans a.K, b.H0.trans a.H0, b.m0.trans a.m0, fun x q => b.gt x (a.gt x q), fun x q => b.t x (a.t x q), fun p q => b.pins p (a.pins p q)⟩
theorem Rel.back {C C' : Ctx} {m : List Addr} {σ : St} {H : Hp} {env : Env} {h : Hs} (R : Rel C' m σ H env h) (l : CtxLe C C') : Rel C m σ H env h := R.less l.K l.H0 l.m0 l.gt l.t l.pins
abbrev DI := Env → Hs → (List PV → (Hs → Prop) → Hs → Prop) → XQ → Prop
structure SI (K : PySem.W.Frag) (W : WX) (t : TI) (f : DI) : Prop where
  run : ∀ (C : Ctx) (m : List Addr) (σ : St) (H : Hp) (env : Env) (h : Hs) (Q : List PV → (Hs → Prop) → Hs → Prop) (E : XQ) (Q' : It → Hp → Prop), C.K = K → Rel C m σ H env h → f env h Q E →
    (∀ C' m' J H' xs chk h', CtxLe C C' → StE m H m' H' → Rel C' m' σ H' env h' → ItOk C' J xs chk → Q xs chk h' → Q' J H') → PostX W C m σ H env E → t σ H Q'

/-- a value is kept beside the names -/
def Ctx.keep (C : Ctx) (v : V) : SV → Ctx
  | .own xs => { C with G := fun b => C.G b ∨ V.ref b = v, pins := (v, .brw xs) :: C.pins }
  | sv => { C with pins := (v, sv) :: C.pins }
theorem Ctx.keep_le (C : Ctx) (v : V) (sv : SV) : CtxLe C (C.keep v sv) := by
  cases sv <;> exact ⟨rfl, rfl, rfl, fun b q => by first | exact q | exact q.imp .inl id, fun b q => q, fun p q => List.mem_cons_of_mem _ q⟩
/-- what the pin says -/
@[simp] def SV.kept : SV → SV
  | .own xs => .brw xs
  | sv => sv
theorem Ctx.keep_in (C : Ctx) (v : V) (sv : SV) : (v, sv.kept) ∈ (C.keep v sv).pins := by
  cases sv <;> exact List.mem_cons_self
section
variable {C : Ctx} {m : List Addr} {σ : St} {H : Hp} {env : Env} {h : Hs}
theorem Rel.pinned (R : Rel C m σ H env h) {v : V} {sv : SV} (r : SlotR C σ env m H v sv) (no : sv.isOwn = false) : Rel { C with pins := (v, sv) :: C.pins } m σ H env h := by
  have slots : ∀ w sw, SlotR C σ env m H w sw → SlotR { C with pins := (v, sv) :: C.pins } σ env m H w sw := fun w sw q => ⟨RepS.less q.1 rfl (fun b q => q) fun _ q => q, q.2.less rfl fun _ q => q⟩
  refine ⟨R.len, fun i sw e => ?_, fun p hp => ?_, R.uniq, R.hm, R.keep, R.dom, R.pre, R.gdom, R.gown⟩
  · obtain ⟨w, s, q⟩ := R.slot i sw e
    exact ⟨w, s, slots w sw q⟩
  · rcases List.mem_cons.mp hp with e | e
    · subst e
      exact ⟨slots _ _ r, no⟩
    · exact ⟨slots _ _ (R.pin p e).1, (R.pin p e).2⟩
/-- the value of an expression that is no name is kept -/
theorem Rel.keepE {m1 : List Addr} {H1 : Hp} {h1 : Hs} (R0 : Rel C m σ H env h) {v : V} {sv : SV} (R : Rel (C.own v sv) m1 σ H1 env h1) (r : RepS C (ExOf C σ env m1) m1 (fun a => H a = none) H1 v sv) (nb : sv.isB = false) : Rel (C.keep v sv) m1 σ H1 env h1 := by
  cases sv with
  | brw xs => cases nb
  | scr ns => cases nb
  | val p => exact R.pinned (v := v) (sv := .val p) ⟨r, trivial⟩ rfl
  | own xs =>
    obtain ⟨a, vs, rfl, ha, na, nm, q⟩ := r
    have R1 : Rel { C with G := fun b => C.G b ∨ V.ref b = V.ref a } m1 σ H1 env h1 := by
      refine R.less rfl rfl rfl (fun b z => ?_) (fun b z => .inl z) fun p z => z
      rcases z with z | z
      · exact z.elim (fun z => .inl z) fun z => .inr (.inr z)
      · exact .inr (.inl z)
    refine R1.pinned (v := .ref a) (sv := .brw xs) ⟨⟨a, vs, rfl, ⟨.inl ha, nm⟩, RepL.mono (Kp.le fun b z => ?_) ⟨[], by simp⟩ q⟩, fun b e => ?_⟩ rfl
    · rcases z with z | z | z
      · rcases z with z | z
        · rcases z with z | z
          · exact .inl (.inl (.inl z))
          · cases z
            exact .inr rfl
        · exact .inl (.inl (.inr z))
      · exact .inl (.inr (.inl z))
      · exact .inl (.inr (.inr z))
    · cases e
      exact ⟨R.gown a (.inr (.inr rfl)), fun z => R0.gdom a (.inr z) na⟩
theorem Rel.seqL {v : V} {sv : SV} {xs : List PV} (R : Rel C m σ H env h) (r : RepA C σ env m H v sv) (e : seqC h sv = some xs) (nt : ∀ ys, sv ≠ .val (.tup ys)) : ∃ a vs, v = .ref a ∧ SqL C.K H a vs ∧ RepL C.K (ExOf C σ env m) m H vs xs := by
  have lst : listC h sv = some xs → ∃ a vs, v = .ref a ∧ SqL C.K H a vs ∧ RepL C.K (ExOf C σ env m) m H vs xs := fun e => R.list r e
  cases sv with
  | own ys => exact lst e
  | brw ys => exact lst e
  | scr ns =>
    obtain ⟨a, rfl, ha⟩ := r
    cases e
    refine ⟨a, _, rfl, ?_, RepL.of_ints⟩
    rcases ha with ⟨ha, _⟩ | ha
    · exact .inl ha
    · exact ha H
  | val p =>
    cases p with
    | tup ys => exact absurd rfl (nt ys)
    | _ => exact lst e
theorem Rel.pinA {v : V} {sv : SV} (R : Rel C m σ H env h) (p : (v, sv) ∈ C.pins) : RepA C σ env m H v sv := (R.pin _ p).1.1.less rfl (fun _ q => q) fun _ _ => trivial
end
theorem RepL.here {K : PySem.W.Frag} {Ex : Ad} {m : List Addr} {H : Hp} {vs : List V} {xs : List PV} {i : Nat} {x : V} {p : PV} (r : RepL K Ex m H vs xs) (e : vs[i]? = some x) (f : xs[i]? = some p) : Rep K Ex m H x p := by
  obtain ⟨q, h1, h2⟩ := r.get' e
  rw [f] at h1
  cases h1
  exact h2
/-- what a kept list says at any later moment -/
theorem itok_list {C : Ctx} {v : V} {sv : SV} {xs : List PV} {a : Addr} (hp : (v, sv) ∈ C.pins) (ev : v = .ref a) (nt : ∀ ys, sv ≠ .val (.tup ys)) : ItOk C (Itl C.K a) xs fun h => seqC h sv = some xs := by
  intro C2 m2 σ2 H2 env2 h2 eK lp R hc i
  obtain ⟨b, vs, e, hs, q⟩ := R.seqL (R.pinA (lp _ hp)) hc nt
  rw [ev] at e
  cases e
  rw [eK] at hs
  refine ⟨fun p f => ?_, fun l => ⟨vs, hs, by rw [q.length]; exact l⟩⟩
  obtain ⟨x, ex, _⟩ := q.get f
  refine ⟨⟨vs, x, hs, ex⟩, fun y H3 ⟨e1, e2⟩ => ?_⟩
  subst e1
  exact ⟨Same.refl _, q.here (e2 _ hs) f⟩
theorem itok_tup {C : Ctx} {v : V} {xs : List PV} {a : Addr} (hp : (v, SV.val (.tup xs)) ∈ C.pins) (ev : v = .ref a) : ItOk C (Itt C.K a) xs fun _ => True := by
  intro C2 m2 σ2 H2 env2 h2 eK lp R _ i
  have r := R.pinA (lp _ hp)
  subst ev
  cases r with
  | tup ha q =>
    rename_i vs
    have hs := ha.sq
    rw [eK] at hs
    refine ⟨fun p f => ?_, fun l => ⟨vs, hs, by rw [q.length]; exact l⟩⟩
    obtain ⟨x, ex, _⟩ := q.get f
    refine ⟨⟨vs, x, hs, ex⟩, fun y H3 ⟨e1, e2⟩ => ?_⟩
    subst e1
    exact ⟨Same.refl _, q.here (e2 _ hs) f⟩
/-- one walked thing: a list, a tuple, the signs of a text -/
def iSeq (K : PySem.W.Frag) (te : TE) : TI := fun σ H R => te σ H fun x H1 => (∃ a, x = .ref a ∧ (∃ xs, SqL K H1 a xs) ∧ R (Itl K a) H1) ∨ (∃ a, x = .ref a ∧ (∃ xs, SqT K H1 a xs) ∧ R (Itt K a) H1) ∨ ∃ z, x = .str z ∧ R (Its z) H1
theorem pi_seq {X : Cx} {tg e : Expr} {te : TE} (he : PE X e te) : PI X tg e (iSeq X.K te) := by
  refine ⟨fun pins s σ H R I h => ?_⟩
  refine thn (he.run pins s σ H _ I h) fun v s1 ⟨x, H1, I1, r1, q1⟩ => ?_
  rcases q1 with ⟨a, e, ⟨xs, hq⟩, q⟩ | ⟨a, e, ⟨xs, hq⟩, q⟩ | ⟨x, ex, q⟩
  · subst e
    cases r1
    obtain ⟨its, rv, p, hz⟩ := I1.list hq
    refine wpAny_pyIter_list p.isList ?_
    refine ⟨s1.heap.objs.size, [s1.heap.objs.size], _, _, H1, rfl, I1.kept (t' := s1.toks) fun b o e => Heap.get?_push_of_some _ e, turn_list a _, ⟨_, Heap.get?_push_size _ rfl, rfl, rfl⟩, fun b hb => ?_, q⟩
    have e : b = s1.heap.objs.size := by simpa using hb
    subst e
    exact I1.fpOk (Nat.le_refl _) (I1.hok.fresh (Nat.le_refl _))
  · subst e
    cases r1
    obtain ⟨its, rv, p, hz⟩ := I1.tuple hq
    refine wpAny_pyIter_tuple (show s1.heap.IsTuple a its.toArray from p) ?_
    refine ⟨s1.heap.objs.size, [s1.heap.objs.size], _, _, H1, rfl, I1.kept (t' := s1.toks) fun b o e => Heap.get?_push_of_some _ e, turn_tuple a _, ⟨_, Heap.get?_push_size _ rfl, rfl, rfl⟩, fun b hb => ?_, q⟩
    have e : b = s1.heap.objs.size := by simpa using hb
    subst e
    exact I1.fpOk (Nat.le_refl _) (I1.hok.fresh (Nat.le_refl _))
  · subst ex
    obtain ⟨t, rfl⟩ := r1
    cases ha : x.cps.all (· < 128)
    · exact wpAny_pyIter_wide ha (pi_one (tk := s1.toks) I1 _ (turn_str _ x t "str_iterator" (.inr rfl)) ⟨_, Heap.get?_push_size _ rfl, rfl, rfl⟩ q)
    · exact wpAny_pyIter_ascii ha (pi_one (tk := s1.toks) I1 _ (turn_str _ x t "str_ascii_iterator" (.inl rfl)) ⟨_, Heap.get?_push_size _ rfl, rfl, rfl⟩ q)
def signs (z : Str) : List PV := z.cps.toList.map fun c => .str ⟨#[c]⟩
theorem itok_str {C : Ctx} {z : Str} : ItOk C (Its z) (signs z) fun _ => True := by
  intro C2 m2 σ2 H2 env2 h2 eK lp R _ i
  have sz : z.cps.size = z.cps.toList.length := by simp
  refine ⟨fun p f => ?_, fun l => ?_⟩
  · unfold signs at f
    rw [List.getElem?_map] at f
    cases g : z.cps.toList[i]? with
    | none =>
      rw [g] at f
      cases f
    | some c =>
      rw [g] at f
      cases f
      have l : i < z.cps.size := by
        rw [sz]
        exact (List.getElem?_eq_some_iff.mp g).1
      refine ⟨l, fun x H3 ⟨e1, d, e2, e3⟩ => ?_⟩
      subst e1 e3
      have : d = c := by
        have e4 : z.cps.toList[i]? = some d := by rw [Array.getElem?_toList]; exact e2
        rw [g] at e4
        exact (Option.some.inj e4).symm
      subst this
      exact ⟨Same.refl _, .str _⟩
  · unfold signs at l
    rw [List.length_map] at l
    show z.cps.size ≤ i
    rw [sz]
    exact l
/-- the walk of a value; fixed: what must stay as it is, a cell's list -/
def walkQ (x : SV) (h1 : Hs) (Q : List PV → (Hs → Prop) → Hs → Prop) : Prop := match x with
  | .val (.str z) => Q (signs z) (fun _ => True) h1
  | .val (.tup xs) => Q xs (fun _ => True) h1
  | x => ∃ xs, seqC h1 x = some xs ∧ Q xs (fun h => seqC h x = some xs) h1
@[simp ↓] theorem walkQ_eq (x : SV) (h1 : Hs) (Q : List PV → (Hs → Prop) → Hs → Prop) : walkQ x h1 Q = (match x with
  | .val (.str z) => Q (signs z) (fun _ => True) h1
  | .val (.tup xs) => Q xs (fun _ => True) h1
  | x => ∃ xs, seqC h1 x = some xs ∧ Q xs (fun h => seqC h x = some xs) h1) := id rfl
/-- the value of an expression, kept -/
def dKE (a : DE) : DE := fun env h Q E => a env h (fun x h1 => x.isB = false ∧ Q x.kept h1) E
@[simp ↓] theorem dKE_eq (a : DE) (env : Env) (h : Hs) (Q : VQ) (E : XQ) : dKE a env h Q E = (a env h (fun x h1 => x.isB = false ∧ Q x.kept h1) E) := id rfl
/-- a name's value, kept: it may be a parameter that is only read -/
def dKV (i : Nat) : DE := fun env h Q _ => match env[i]? with
  | some (some (.own _)) => False
  | some (some sv) => Q sv h
  | _ => False
@[simp ↓] theorem dKV_eq (i : Nat) (env : Env) (h : Hs) (Q : VQ) (u0 : XQ) : dKV i env h Q u0 = (match env[i]? with
  | some (some (.own _)) => False
  | some (some sv) => Q sv h
  | _ => False) := id rfl
structure SKp (K : PySem.W.Frag) (W : WX) (t : TE) (f : DE) : Prop where
  run : ∀ (C : Ctx) (m : List Addr) (σ : St) (H : Hp) (env : Env) (h : Hs) (Q : VQ) (E : XQ) (Q' : VK), C.K = K → Rel C m σ H env h → f env h Q E →
    (∀ C' m' v H' sv h', CtxLe C C' → StE m H m' H' → Rel C' m' σ H' env h' → (v, sv) ∈ C'.pins → Q sv h' → Q' v H') → PostX W C m σ H env E → t σ H Q'
def dIt (a : DE) : DI := fun env h Q E => a env h (fun x h1 => walkQ x h1 Q) E
@[simp ↓] theorem dIt_eq (a : DE) (env : Env) (h : Hs) (Q : List PV → (Hs → Prop) → Hs → Prop) (E : XQ) : dIt a env h Q E = (a env h (fun x h1 => walkQ x h1 Q) E) := id rfl
section
variable {K : PySem.W.Frag} {W : WX}
theorem sk_e {ta : TE} {fa : DE} (ha : SE K W ta fa) : SKp K W ta (dKE fa) := ⟨fun C m σ H env h Q E Q' eK R hf p px => by
  refine ha.run C m σ H env h _ E _ eK R hf (fun m1 x H1 sx h1 S1 R1 r1 ⟨nb, q1⟩ => ?_) px
  exact p (C.keep x sx) m1 x H1 sx.kept h1 (C.keep_le x sx) S1 (R.keepE R1 r1 nb) (C.keep_in x sx) q1⟩
theorem sk_v (i : Nat) : SKp K W (tVar i) (dKV i) := ⟨fun C m σ H env h Q E Q' eK R hf p px => by
  unfold dKV at hf
  split at hf
  · exact hf.elim
  · rename_i sv no e
    obtain ⟨v, s, sl⟩ := R.slot i sv e
    have no' : sv.isOwn = false := by
      cases sv with
      | own xs => exact absurd rfl (no xs)
      | _ => rfl
    have le : CtxLe C { C with pins := (v, sv) :: C.pins } := ⟨rfl, rfl, rfl, fun _ q => q, fun _ q => q, fun _ q => List.mem_cons_of_mem _ q⟩
    exact ⟨v, s, p _ m v H sv h le (.refl m H) (R.pinned sl no') List.mem_cons_self hf⟩
  · exact hf.elim⟩
theorem walk_ok {C' : Ctx} {m1 : List Addr} {σ : St} {H1 : Hp} {env : Env} {h1 : Hs} {v : V} {sv : SV} {Q : List PV → (Hs → Prop) → Hs → Prop} {Q' : It → Hp → Prop} (eK : C'.K = K) (R : Rel C' m1 σ H1 env h1) (hp : (v, sv) ∈ C'.pins) (q : walkQ sv h1 Q)
    (p : ∀ J xs chk, ItOk C' J xs chk → Q xs chk h1 → Q' J H1) :
    (∃ a, v = .ref a ∧ (∃ xs, SqL K H1 a xs) ∧ Q' (Itl K a) H1) ∨ (∃ a, v = .ref a ∧ (∃ xs, SqT K H1 a xs) ∧ Q' (Itt K a) H1) ∨ ∃ z, v = .str z ∧ Q' (Its z) H1 := by
  have r := R.pinA hp
  subst eK
  unfold walkQ at q
  split at q
  · cases r
    exact .inr (.inr ⟨_, rfl, p _ _ _ itok_str q⟩)
  · cases r with
    | tup ha qa => exact .inr (.inl ⟨_, rfl, ⟨_, ha.sq⟩, p _ _ _ (itok_tup hp rfl) q⟩)
  · rename_i nt
    obtain ⟨xs, e, q⟩ := q
    obtain ⟨a, vs, ev, hs, _⟩ := R.seqL r e nt
    exact .inl ⟨a, ev, ⟨vs, hs⟩, p _ _ _ (itok_list hp ev nt) q⟩
theorem si_it {ta : TE} {fa : DE} (ha : SKp K W ta fa) : SI K W (iSeq K ta) (dIt fa) := ⟨fun C m σ H env h Q E Q' eK R hf p px =>
  ha.run C m σ H env h _ E _ eK R hf (fun C1 m1 x H1 sx h1 le S1 R1 hp q1 => walk_ok (le.K.trans eK) R1 hp q1 fun J xs chk ok q => p C1 m1 J H1 xs chk h1 le S1 R1 ok q) px⟩
/-- range(n), range(a, b) -/
def rangeP (lo : Int) (n : Nat) : List PV := (List.range n).map fun k => .int (lo + (k : Nat))
theorem itok_rng {C : Ctx} {lo : Int} {n : Nat} : ItOk C (Itr lo n) (rangeP lo n) fun _ => True := by
  intro C2 m2 σ2 H2 env2 h2 eK lp R _ i
  unfold rangeP
  refine ⟨fun p f => ?_, fun l => by rw [List.length_map, List.length_range] at l; exact l⟩
  rw [List.getElem?_map] at f
  by_cases hi : i < n
  · rw [List.getElem?_range hi] at f
    cases f
    refine ⟨hi, fun x H3 ⟨e1, e2⟩ => ?_⟩
    subst e1 e2
    exact ⟨Same.refl _, .int _⟩
  · rw [List.getElem?_eq_none (by rw [List.length_range]; omega)] at f
    cases f
def dRng1 (a : DE) : DI := fun env h Q E => a env h (fun x h1 => match x with
  | .val (.int j) => -(2 ^ 62) ≤ j ∧ j < 2 ^ 62 ∧ Q (rangeP 0 j.toNat) (fun _ => True) h1
  | _ => False) E
@[simp ↓] theorem dRng1_eq (a : DE) (env : Env) (h : Hs) (Q : List PV → (Hs → Prop) → Hs → Prop) (E : XQ) : dRng1 a env h Q E = (a env h (fun x h1 => match x with
  | .val (.int j) => -(2 ^ 62) ≤ j ∧ j < 2 ^ 62 ∧ Q (rangeP 0 j.toNat) (fun _ => True) h1
  | _ => False) E) := id rfl
def dRng2 (a b : DE) : DI := fun env h Q E => a env h (fun x h1 => b env h1 (fun y h2 => match x, y with
  | .val (.int i), .val (.int j) => (-(2 ^ 62) ≤ i ∧ i < 2 ^ 62 ∧ -(2 ^ 62) ≤ j ∧ j < 2 ^ 62) ∧ Q (rangeP i (j - i).toNat) (fun _ => True) h2
  | _, _ => False) E) E
@[simp ↓] theorem dRng2_eq (a b : DE) (env : Env) (h : Hs) (Q : List PV → (Hs → Prop) → Hs → Prop) (E : XQ) : dRng2 a b env h Q E = (a env h (fun x h1 => b env h1 (fun y h2 => match x, y with
  | .val (.int i), .val (.int j) => (-(2 ^ 62) ≤ i ∧ i < 2 ^ 62 ∧ -(2 ^ 62) ≤ j ∧ j < 2 ^ 62) ∧ Q (rangeP i (j - i).toNat) (fun _ => True) h2
  | _, _ => False) E) E) := id rfl
theorem si_rng1 {ta : TE} {fa : DE} (ha : SE K W ta fa) : SI K W (iRng1 (tCons ta tNil)) (dRng1 fa) := ⟨fun C m σ H env h Q E Q' eK R hf p px => by
  refine ha.run C m σ H env h _ E _ eK R hf (fun m1 x H1 sx h1 S1 R1 r1 q1 => ?_) px
  split at q1
  · cases r1
    exact ⟨_, rfl, q1.1, q1.2.1, p C m1 _ H1 _ _ h1 (.refl C) S1 R1 itok_rng q1.2.2⟩
  · exact q1.elim⟩
theorem si_rng2 {ta tb : TE} {fa fb : DE} (ha : SE K W ta fa) (hb : SE K W tb fb) : SI K W (iRng2 (tCons ta (tCons tb tNil))) (dRng2 fa fb) := ⟨fun C m σ H env h Q E Q' eK R hf p px => by
  refine ha.run C m σ H env h _ E _ eK R hf (fun m1 x H1 sx h1 S1 R1 r1 q1 => ?_) px
  refine hb.run (C.own x sx) m1 σ H1 env h1 _ E _ ((C.own_K x sx).trans eK) R1 q1 (fun m2 y H2 sy h2 S2 R2 r2 q2 => ?_) (px.go S1).own
  split at q2
  · cases r2
    cases r1
    exact ⟨_, _, rfl, q2.1, p C m2 _ H2 _ _ h2 (.refl C) (S1.trans S2) R2 itok_rng q2.2⟩
  · exact q2.elim⟩
/-- zip of two lists or two tuples -/
def pairs (xs ys : List PV) : List PV := List.zipWith (fun x y => .tup [x, y]) xs ys
theorem pairs_get {xs ys : List PV} {i : Nat} {p : PV} (e : (pairs xs ys)[i]? = some p) : ∃ x y, xs[i]? = some x ∧ ys[i]? = some y ∧ p = .tup [x, y] := by
  unfold pairs at e
  rw [List.getElem?_zipWith] at e
  cases ex : xs[i]? with
  | none => rw [ex] at e; cases e
  | some x => cases ey : ys[i]? with
    | none => rw [ex, ey] at e; cases e
    | some y =>
      rw [ex, ey] at e
      cases e
      exact ⟨x, y, rfl, rfl, rfl⟩
@[simp] def SV.isT : SV → Bool
  | .val (.tup _) => true
  | _ => false
theorem newPair {C : Ctx} {m : List Addr} {σ : St} {H : Hp} {env : Env} {h : Hs} {x y : V} {p q : PV} {T : Addr} (R : Rel C m σ H env h) (rx : Rep C.K (ExOf C σ env m) m H x p) (ry : Rep C.K (ExOf C σ env m) m H y q) (n : H T = none) :
    Same H (upd H T (.tup [x, y])) ∧ Rep C.K (ExOf C σ env m) m (upd H T (.tup [x, y])) (.ref T) (.tup [p, q]) := ⟨Same.upd n, R.newTup (.cons rx (.cons ry .nil)) n⟩
theorem itok_zip {C : Ctx} {v w : V} {sv sw : SV} {xs ys : List PV} {a b : Addr} (hp : (v, sv) ∈ C.pins) (hq : (w, sw) ∈ C.pins) (ev : v = .ref a) (ew : w = .ref b) (n1 : ∀ ys, sv ≠ .val (.tup ys)) (n2 : ∀ ys, sw ≠ .val (.tup ys)) :
    ItOk C (Itz C.K a b) (pairs xs ys) fun h => seqC h sv = some xs ∧ seqC h sw = some ys := by
  intro C2 m2 σ2 H2 env2 h2 eK lp R hc i
  obtain ⟨a', vs, e, hs, q⟩ := R.seqL (R.pinA (lp _ hp)) hc.1 n1
  obtain ⟨b', ws, f, ht, r⟩ := R.seqL (R.pinA (lp _ hq)) hc.2 n2
  rw [ev] at e
  rw [ew] at f
  cases e
  cases f
  rw [eK] at hs ht
  refine ⟨fun p g => ?_, fun l => ⟨vs, ws, hs, ht, ?_⟩⟩
  · obtain ⟨x, y, g1, g2, rfl⟩ := pairs_get g
    obtain ⟨x', ex, _⟩ := q.get g1
    obtain ⟨y', ey, _⟩ := r.get g2
    refine ⟨⟨vs, ws, x', y', hs, ht, ex, ey⟩, fun z H3 ⟨T, x1, y1, e1, nT, e2, f1, f2⟩ => ?_⟩
    subst e1 e2
    exact newPair R (q.here (f1 _ hs) g1) (r.here (f2 _ ht) g2) nT
  · unfold pairs at l
    rw [List.length_zipWith] at l
    rw [q.length, r.length]
    omega
theorem itok_zipT {C : Ctx} {v w : V} {xs ys : List PV} {a b : Addr} (hp : (v, SV.val (.tup xs)) ∈ C.pins) (hq : (w, SV.val (.tup ys)) ∈ C.pins) (ev : v = .ref a) (ew : w = .ref b) : ItOk C (RZ.ItzT C.K a b) (pairs xs ys) fun _ => True := by
  intro C2 m2 σ2 H2 env2 h2 eK lp R hc i
  have r1 := R.pinA (lp _ hp)
  have r2 := R.pinA (lp _ hq)
  subst ev ew
  cases r1 with
  | tup ha q => cases r2 with
    | tup hb r =>
      rename_i vs ws
      have hs := ha.sq
      have ht := hb.sq
      rw [eK] at hs ht
      refine ⟨fun p g => ?_, fun l => ⟨vs, ws, hs, ht, ?_⟩⟩
      · obtain ⟨x, y, g1, g2, rfl⟩ := pairs_get g
        obtain ⟨x', ex, _⟩ := q.get g1
        obtain ⟨y', ey, _⟩ := r.get g2
        refine ⟨⟨vs, ws, x', y', hs, ht, ex, ey⟩, fun z H3 ⟨T, x1, y1, e1, nT, e2, f1, f2⟩ => ?_⟩
        subst e1 e2
        exact newPair R (q.here (f1 _ hs) g1) (r.here (f2 _ ht) g2) nT
      · unfold pairs at l
        rw [List.length_zipWith] at l
        rw [q.length, r.length]
        omega
def zipQ (x y : SV) (h2 : Hs) (Q : List PV → (Hs → Prop) → Hs → Prop) : Prop := match x, y with
  | .val (.tup xs), .val (.tup ys) => Q (pairs xs ys) (fun _ => True) h2
  | x, y => x.isT = false ∧ y.isT = false ∧ ∃ xs ys, seqC h2 x = some xs ∧ seqC h2 y = some ys ∧ Q (pairs xs ys) (fun h => seqC h x = some xs ∧ seqC h y = some ys) h2
@[simp ↓] theorem zipQ_eq (x y : SV) (h2 : Hs) (Q : List PV → (Hs → Prop) → Hs → Prop) : zipQ x y h2 Q = (match x, y with
  | .val (.tup xs), .val (.tup ys) => Q (pairs xs ys) (fun _ => True) h2
  | x, y => x.isT = false ∧ y.isT = false ∧ ∃ xs ys, seqC h2 x = some xs ∧ seqC h2 y = some ys ∧ Q (pairs xs ys) (fun h => seqC h x = some xs ∧ seqC h y = some ys) h2) := id rfl
def dZip (a b : DE) : DI := fun env h Q E => a env h (fun x h1 => b env h1 (fun y h2 => zipQ x y h2 Q) E) E
@[simp ↓] theorem dZip_eq (a b : DE) (env : Env) (h : Hs) (Q : List PV → (Hs → Prop) → Hs → Prop) (E : XQ) : dZip a b env h Q E = (a env h (fun x h1 => b env h1 (fun y h2 => zipQ x y h2 Q) E) E) := id rfl
theorem notT {sv : SV} (e : sv.isT = false) : ∀ ys, sv ≠ .val (.tup ys) := fun ys z => by
  subst z
  cases e
theorem PostX.back {C C' : Ctx} {m : List Addr} {σ : St} {H : Hp} {env : Env} {E : XQ} (p : PostX W C m σ H env E) (l : CtxLe C C') : PostX W C' m σ H env E :=
  fun c m' H' h' S' R e => p c m' H' h' S' (R.back l) e
theorem si_zip {ta tb : TE} {fa fb : DE} (ha : SKp K W ta fa) (hb : SKp K W tb fb) : SI K W (RZ.iZipA K (tCons ta (tCons tb tNil))) (dZip fa fb) := ⟨fun C m σ H env h Q E Q' eK R hf p px => by
  refine ha.run C m σ H env h _ E _ eK R hf (fun C1 m1 x H1 sx h1 l1 S1 R1 hp q1 => ?_) px
  refine hb.run C1 m1 σ H1 env h1 _ E _ (l1.K.trans eK) R1 q1 (fun C2 m2 y H2 sy h2 l2 S2 R2 hq q2 => ?_) ((px.go S1).back l1)
  have l := l1.trans l2
  have hp2 := l2.pins _ hp
  have S := S1.trans S2
  have eK2 := l.K.trans eK
  subst eK2
  unfold zipQ at q2
  split at q2
  · have rx := R2.pinA hp2
    have ry := R2.pinA hq
    cases rx with
    | tup ha _ => cases ry with
      | tup hb _ => exact ⟨_, _, _, _, rfl, .inr ⟨ha.sq, hb.sq, p C2 m2 _ H2 _ _ h2 l S R2 (itok_zipT hp2 hq rfl rfl) q2⟩⟩
  · obtain ⟨n1, n2, xs, ys, e1, e2, q⟩ := q2
    obtain ⟨a, vs, ev, hs, _⟩ := R2.seqL (R2.pinA hp2) e1 (notT n1)
    obtain ⟨b, ws, ew, ht, _⟩ := R2.seqL (R2.pinA hq) e2 (notT n2)
    exact ⟨a, b, vs, ws, by rw [ev, ew], .inl ⟨hs, ht, p C2 m2 _ H2 _ _ h2 l S R2 (itok_zip hp2 hq ev ew (notT n1) (notT n2)) q⟩⟩⟩
/-- enumerate of a list -/
def enums : Nat → List PV → List PV
  | _, [] => []
  | k, x :: xs => .tup [.int (k : Nat), x] :: enums (k + 1) xs
theorem enums_get : ∀ {xs : List PV} {k i : Nat} {p : PV}, (enums k xs)[i]? = some p → ∃ x, xs[i]? = some x ∧ p = .tup [.int ((k + i : Nat) : Int), x]
  | [], _, _, _, e => by simp [enums] at e
  | x :: xs, k, 0, p, e => by
    cases e
    exact ⟨x, rfl, rfl⟩
  | x :: xs, k, i + 1, p, e => by
    obtain ⟨y, h1, h2⟩ := enums_get (xs := xs) (k := k + 1) (i := i) e
    exact ⟨y, h1, by rw [h2]; congr 4; omega⟩
theorem enums_len : ∀ (xs : List PV) (k : Nat), (enums k xs).length = xs.length
  | [], _ => rfl
  | x :: xs, k => by simp [enums, enums_len xs]
def dEnum (a : DE) : DI := fun env h Q E => a env h (fun x h1 => x.isT = false ∧ ∃ xs, seqC h1 x = some xs ∧ Q (enums 0 xs) (fun h => seqC h x = some xs) h1) E
@[simp ↓] theorem dEnum_eq (a : DE) (env : Env) (h : Hs) (Q : List PV → (Hs → Prop) → Hs → Prop) (E : XQ) : dEnum a env h Q E = (a env h (fun x h1 => x.isT = false ∧ ∃ xs, seqC h1 x = some xs ∧ Q (enums 0 xs) (fun h => seqC h x = some xs) h1) E) := id rfl
theorem itok_enum {C : Ctx} {v : V} {sv : SV} {xs : List PV} {a : Addr} (hp : (v, sv) ∈ C.pins) (ev : v = .ref a) (nt : ∀ ys, sv ≠ .val (.tup ys)) : ItOk C (Ite C.K a) (enums 0 xs) fun h => seqC h sv = some xs := by
  intro C2 m2 σ2 H2 env2 h2 eK lp R hc i
  obtain ⟨b, vs, e, hs, q⟩ := R.seqL (R.pinA (lp _ hp)) hc nt
  rw [ev] at e
  cases e
  rw [eK] at hs
  refine ⟨fun p f => ?_, fun l => ⟨vs, hs, by rw [enums_len] at l; rw [q.length]; exact l⟩⟩
  obtain ⟨x, g, rfl⟩ := enums_get f
  obtain ⟨x', ex, _⟩ := q.get g
  refine ⟨⟨vs, x', hs, ex⟩, fun y H3 ⟨T, x1, e1, nT, e2, f1⟩ => ?_⟩
  subst e1 e2
  rw [Nat.zero_add]
  exact newPair R (.int _) (q.here (f1 _ hs) g) nT
theorem si_enum {ta : TE} {fa : DE} (ha : SKp K W ta fa) : SI K W (iEnum K (tCons ta tNil)) (dEnum fa) := ⟨fun C m σ H env h Q E Q' eK R hf p px => by
  refine ha.run C m σ H env h _ E _ eK R hf (fun C1 m1 x H1 sx h1 l1 S1 R1 hp q1 => ?_) px
  have eK1 := l1.K.trans eK
  subst eK1
  obtain ⟨nt, xs, e, q⟩ := q1
  obtain ⟨a, vs, ev, hs, _⟩ := R1.seqL (R1.pinA hp) e (notT nt)
  exact ⟨a, vs, by rw [ev], hs, p C1 m1 _ H1 _ _ h1 l1 S1 R1 (itok_enum hp ev (notT nt)) q⟩⟩
end
end PM

namespace PM
open PySem PySem.Spec L2
open PyProof.Rows hiding St

/-! ### targets -/
abbrev DB := PV → Env → (Env → Prop) → Prop
/-- vs: the slots that it stores -/
structure SG (K : PySem.W.Frag) (vs : List Nat) (g : TG) (f : DB) : Prop where
  run : ∀ (C : Ctx) (m : List Addr) (σ : St) (H : Hp) (env : Env) (h : Hs) (x : V) (p : PV) (q : Env → Prop) (Q : St → Hp → Prop), C.K = K → Rel C m σ H env h → Rep C.K (ExOf C σ env m) m H x p → f p env q →
    (∀ σ' env', Rel C m σ' H env' h → σ'.length = σ.length → (∀ k, k ∉ vs → σ'[k]? = σ[k]? ∧ env'[k]? = env[k]?) → q env' → Q σ' H) → g x σ H Q
def bName (i : Nat) : DB := fun p env q => q (env.set i (some (.val p)))
@[simp ↓] theorem bName_eq (i : Nat) (p : PV) (env : Env) (q : Env → Prop) : bName i p env q = (q (env.set i (some (.val p)))) := id rfl
/-- a, b = .. of two names -/
def bTup2 (i j : Nat) : DB := fun p env q => match p with
  | .tup [x, y] => q ((env.set i (some (.val x))).set j (some (.val y)))
  | _ => False
@[simp ↓] theorem bTup2_eq (i j : Nat) (p : PV) (env : Env) (q : Env → Prop) : bTup2 i j p env q = (match p with
  | .tup [x, y] => q ((env.set i (some (.val x))).set j (some (.val y)))
  | _ => False) := id rfl
def bTup3 (i j k : Nat) : DB := fun p env q => match p with
  | .tup [x, y, z] => q (((env.set i (some (.val x))).set j (some (.val y))).set k (some (.val z)))
  | _ => False
@[simp ↓] theorem bTup3_eq (i j k : Nat) (p : PV) (env : Env) (q : Env → Prop) : bTup3 i j k p env q = (match p with
  | .tup [x, y, z] => q (((env.set i (some (.val x))).set j (some (.val y))).set k (some (.val z)))
  | _ => False) := id rfl
theorem ex_val {C : Ctx} {m : List Addr} {σ : St} {env : Env} {i : Nat} {v : V} {p : PV} : ∀ b, ExOf C (σ.set i (some v)) (env.set i (some (.val p))) m b → ExOf C σ env m b := fun b q => by
  rcases q with q | q | q
  · exact .inl q
  · rcases own_set q with z | ⟨z, _⟩
    · exact .inr (.inl z)
    · cases z
  · exact .inr (.inr q)
section
variable {K : PySem.W.Frag}
theorem sg_name (i : Nat) : SG K [i] (gName i) (bName i) := ⟨fun C m σ H env h x p q Q eK R r hf k =>
  k _ _ (R.setVal r) (by rw [List.length_set]) (fun j hj => ⟨List.getElem?_set_ne (fun e => hj (by simp [e])), List.getElem?_set_ne (fun e => hj (by simp [e]))⟩) hf⟩
theorem sg_tup2 (i j : Nat) : SG K [i, j] (gTup K 2 (gCons (gName i) (gCons (gName j) gNil))) (bTup2 i j) := ⟨fun C m σ H env h x p q Q eK R r hf k => by
  subst eK
  unfold bTup2 at hf
  split at hf
  · cases r with
    | tup ha rl =>
      cases rl with
      | cons r1 rl => cases rl with
        | cons r2 rl =>
          cases rl
          refine ⟨_, _, rfl, ha.sq, rfl, _, _, rfl, _, _, rfl, rfl, ?_⟩
          have R1 := R.setVal (i := i) r1
          have R2 := R1.setVal (i := j) (Rep.mono (Kp.le ex_val) ⟨[], by simp⟩ r2)
          refine k _ _ R2 (by rw [List.length_set, List.length_set]) (fun l hl => ?_) hf
          have n1 : i ≠ l := fun e => hl (by simp [e])
          have n2 : j ≠ l := fun e => hl (by simp [e])
          rw [List.getElem?_set_ne n2, List.getElem?_set_ne n1, List.getElem?_set_ne n2, List.getElem?_set_ne n1]
          exact ⟨rfl, rfl⟩
  · exact hf.elim⟩
theorem sg_tup3 (i j l : Nat) : SG K [i, j, l] (gTup K 3 (gCons (gName i) (gCons (gName j) (gCons (gName l) gNil)))) (bTup3 i j l) := ⟨fun C m σ H env h x p q Q eK R r hf k => by
  subst eK
  unfold bTup3 at hf
  split at hf
  · cases r with
    | tup ha rl =>
      cases rl with
      | cons r1 rl => cases rl with
        | cons r2 rl => cases rl with
          | cons r3 rl =>
            cases rl
            refine ⟨_, _, rfl, ha.sq, rfl, _, _, rfl, _, _, rfl, _, _, rfl, rfl, ?_⟩
            have R1 := R.setVal (i := i) r1
            have R2 := R1.setVal (i := j) (Rep.mono (Kp.le ex_val) ⟨[], by simp⟩ r2)
            have R3 := R2.setVal (i := l) (Rep.mono (Kp.le fun b q => ex_val b (ex_val b q)) ⟨[], by simp⟩ r3)
            refine k _ _ R3 (by rw [List.length_set, List.length_set, List.length_set]) (fun z hz => ?_) hf
            have n1 : i ≠ z := fun e => hz (by simp [e])
            have n2 : j ≠ z := fun e => hz (by simp [e])
            have n3 : l ≠ z := fun e => hz (by simp [e])
            rw [List.getElem?_set_ne n3, List.getElem?_set_ne n2, List.getElem?_set_ne n1, List.getElem?_set_ne n3, List.getElem?_set_ne n2, List.getElem?_set_ne n1]
            exact ⟨rfl, rfl⟩
  · exact hf.elim⟩
end

/-! ### comprehensions -/
@[simp] def wipeE (env : Env) : List Nat → Env
  | [] => env
  | v :: vs => (wipeE env vs).set v none
theorem Rel.wipe {C : Ctx} {m : List Addr} {σ : St} {H : Hp} {env : Env} {h : Hs} (R : Rel C m σ H env h) : ∀ vs : List Nat, Rel C m (L2.wipe σ vs) H (wipeE env vs) h
  | [] => R
  | v :: vs => (R.wipe vs).clear
theorem wipe_get (σ : St) (k : Nat) : ∀ vs : List Nat, (wipe σ vs)[k]? = if k ∈ vs ∧ k < σ.length then some none else σ[k]?
  | [] => by simp [wipe]
  | v :: vs => by
    unfold wipe
    rw [List.getElem?_set, wipe_length]
    by_cases e : v = k
    · subst e
      by_cases l : v < σ.length
      · simp [l]
      · rw [if_pos rfl, if_neg l]
        simp [l]
    · rw [if_neg e, wipe_get σ k vs]
      have : (k ∈ v :: vs ∧ k < σ.length) ↔ (k ∈ vs ∧ k < σ.length) := by
        simp only [List.mem_cons]
        constructor
        · rintro ⟨z | z, l⟩
          · exact absurd z.symm e
          · exact ⟨z, l⟩
        · rintro ⟨z, l⟩
          exact ⟨.inr z, l⟩
      simp only [this]
theorem wipe_of {σ σ2 : St} {vs : List Nat} (l : σ2.length = σ.length) (k : ∀ j, j ∉ vs → σ2[j]? = σ[j]?) : wipe σ2 vs = wipe σ vs := by
  apply List.ext_getElem?
  intro j
  rw [wipe_get, wipe_get, l]
  by_cases e : j ∈ vs
  · by_cases z : j < σ.length
    · simp [e, z]
    · simp only [z, and_false, if_false]
      rw [List.getElem?_eq_none (by omega), List.getElem?_eq_none (by omega)]
  · simp only [e, false_and, if_false]
    exact k j e
theorem wipe_wipe (σ : St) (vs : List Nat) : wipe (wipe σ vs) vs = wipe σ vs := wipe_of (wipe_length σ vs) fun j hj => by
  rw [wipe_get]
  simp [hj]
/-- the turns of a comprehension: env is the block's names ahead of each turn -/
def compL (chk : Hs → Prop) (bd : DB) (tt : DT) (te : DE) (env : Env) : List PV → List PV → Hs → (List PV → Hs → Prop) → Prop
  | [], acc, h, Q => chk h ∧ Q acc h
  | x :: xs, acc, h, Q => chk h ∧ bd x env fun env1 => tt env1 h (fun b h1 => if b = true then te env1 h1 (fun y h2 => match y.toVal with
      | some p => acc.length < sizeLine ∧ compL chk bd tt te env xs (acc ++ [p]) h2 Q
      | none => False) (fun _ _ => False) else compL chk bd tt te env xs acc h1 Q) (fun _ _ => False)
@[simp ↓] theorem compL_nil (chk : Hs → Prop) (bd : DB) (tt : DT) (te : DE) (env : Env) (acc : List PV) (h : Hs) (Q : List PV → Hs → Prop) : compL chk bd tt te env [] acc h Q = (chk h ∧ Q acc h) := id rfl
@[simp ↓] theorem compL_cons (chk : Hs → Prop) (bd : DB) (tt : DT) (te : DE) (env : Env) (x : PV) (xs : List PV) (acc : List PV) (h : Hs) (Q : List PV → Hs → Prop) : compL chk bd tt te env (x :: xs) acc h Q = (chk h ∧ bd x env fun env1 => tt env1 h (fun b h1 => if b = true then te env1 h1 (fun y h2 => match y.toVal with
      | some p => acc.length < sizeLine ∧ compL chk bd tt te env xs (acc ++ [p]) h2 Q
      | none => False) (fun _ _ => False) else compL chk bd tt te env xs acc h1 Q) (fun _ _ => False)) := id rfl
def dYes : DT := fun _ h Q _ => Q true h
@[simp ↓] theorem dYes_eq  (u0 : Env) (h : Hs) (Q : Bool → Hs → Prop) (u1 : XQ) : dYes  u0 h Q u1 = (Q true h) := id rfl
/-- none of the slots holds a list of one's own -/
@[simp] def notOwn (env : Env) (vs : List Nat) : Bool := vs.all fun v => match env[v]? with
  | some (some (.own _)) => false
  | _ => true
def dLc (src : DI) (vs : List Nat) (bd : DB) (tt : DT) (te : DE) : DE := fun env h Q E => notOwn env vs = true ∧ src env h (fun xs chk h1 => compL chk bd tt te (wipeE env vs) xs [] h1 fun acc h2 => Q (.own acc) h2) E
@[simp ↓] theorem dLc_eq (src : DI) (vs : List Nat) (bd : DB) (tt : DT) (te : DE) (env : Env) (h : Hs) (Q : VQ) (E : XQ) : dLc src vs bd tt te env h Q E = (notOwn env vs = true ∧ src env h (fun xs chk h1 => compL chk bd tt te (wipeE env vs) xs [] h1 fun acc h2 => Q (.own acc) h2) E) := id rfl
theorem wipeE_get {env : Env} {k : Nat} : ∀ {vs : List Nat}, k ∉ vs → (wipeE env vs)[k]? = env[k]?
  | [], _ => rfl
  | v :: vs, h => by
    unfold wipeE
    rw [List.getElem?_set_ne (fun e => h (by simp [e])), wipeE_get fun z => h (List.mem_cons_of_mem _ z)]
theorem own_wipe {σ : St} {env : Env} {b : Addr} : ∀ {vs : List Nat}, OwnAt (wipe σ vs) (wipeE env vs) b → OwnAt σ env b
  | [], q => q
  | _ :: vs, q => own_wipe (vs := vs) (own_clear q)
theorem CtxLe.own {C C1 : Ctx} (l : CtxLe C C1) (v : V) (sv sw : SV) (e : sv.isOwn = sw.isOwn) : CtxLe (C.own v sv) (C1.own v sw) := by
  cases sv <;> cases sw <;> first | cases e | skip
  all_goals first | exact l | skip
  refine ⟨l.K, l.H0, l.m0, fun b q => ?_, fun b q => q.imp (l.t b) id, l.pins⟩
  rcases q with q | q | q
  · exact (l.gt b (.inl q)).elim .inl fun z => .inr (.inl z)
  · exact (l.gt b (.inr q)).elim .inl fun z => .inr (.inl z)
  · exact .inr (.inr q)
/-- a temporary list is changed -/
theorem Rel.mutTemp {C : Ctx} {m : List Addr} {σ : St} {H : Hp} {env : Env} {h : Hs} {D : Addr} {xs : List PV} {o : HO} (R : Rel (C.own (.ref D) (.own xs)) m σ H env h) (h0 : C.H0 D = none) (nm : D ∉ m) : Rel (C.own (.ref D) (.own xs)) m σ (upd H D o) env h := by
  have k : Kp (ExOf (C.own (.ref D) (.own xs)) σ env m) H (ExOf (C.own (.ref D) (.own xs)) σ env m) (upd H D o) := fun b u e n => by
    have nb : b ≠ D := fun z => n (by rw [z]; exact .inl (.inr (.inr rfl)))
    exact ⟨by rw [upd_ne nb]; exact e, n⟩
  have dm : ∀ b, H b ≠ none → upd H D o b ≠ none := fun b q => by
    by_cases z : b = D
    · rw [z, upd_same]
      simp
    · rw [upd_ne z]
      exact q
  have slots : ∀ w sw, (sw.isOwn = true → w ≠ .ref D) → SlotR (C.own (.ref D) (.own xs)) σ env m H w sw → SlotR (C.own (.ref D) (.own xs)) σ env m (upd H D o) w sw := fun w sw no ⟨r1, b1⟩ => by
    refine ⟨?_, b1⟩
    cases sw with
    | val p => exact Rep.mono k ⟨[], by simp⟩ r1
    | own zs =>
      obtain ⟨c, ws, rfl, hc, hn, cm, q⟩ := r1
      have nc : c ≠ D := fun z => no rfl (by rw [z])
      refine ⟨c, ws, rfl, by rw [upd_ne nc]; exact hc, hn, cm, RepL.mono (fun b u e n => ?_) ⟨[], by simp⟩ q⟩
      obtain ⟨k1, k2⟩ := k b u e fun z => n (.inl z)
      exact ⟨k1, fun z => z.elim k2 fun z => n (.inr z)⟩
    | brw zs =>
      obtain ⟨c, ws, rfl, hc, q⟩ := r1
      have nc : c ≠ D := fun z => (b1 c rfl).2 (.inr (by rw [z]))
      refine ⟨c, ws, rfl, ⟨?_, hc.2⟩, RepL.mono k ⟨[], by simp⟩ q⟩
      unfold Rd
      rw [upd_ne nc]
      exact hc.1
    | scr ns =>
      obtain ⟨c, rfl, hc⟩ := r1
      refine ⟨c, rfl, ?_⟩
      rcases b1 c rfl with z | z
      · exact .inr z
      · rcases hc with hc | hc
        · have nc : c ≠ D := fun e => z.2 (.inr (by rw [e]))
          refine .inl ⟨?_, hc.2⟩
          unfold Rd
          rw [upd_ne nc]
          exact hc.1
        · exact .inr hc
  refine ⟨R.len, fun j sw e => ?_, fun p hp => ⟨slots _ _ (fun q => by rw [(R.pin p hp).2] at q; cases q) (R.pin p hp).1, (R.pin p hp).2⟩, R.uniq, ⟨R.hm.len, R.hm.nd, fun n b c e f => (R.hm.at_ n b c e f).mono k ⟨[], by simp⟩ (upd_ne fun z => nm (by rw [← z]; exact List.mem_of_getElem? e))⟩, fun b u e n => ?_, fun b q => dm b (R.dom b q), R.pre, fun b q => dm b (R.gdom b q), R.gown⟩
  · obtain ⟨w, s, r1⟩ := R.slot j sw e
    refine ⟨w, s, slots w sw (fun q z => ?_) r1⟩
    cases sw with
    | own zs => exact R.gown D (.inr (.inr rfl)) ⟨j, zs, e, by rw [← z]; exact s⟩
    | _ => cases q
  · have z := R.keep b u e n
    have nb : b ≠ D := fun w => by
      rw [w] at e
      have e' : C.H0 D = some u := e
      rw [h0] at e'
      cases e'
    rw [upd_ne nb]
    exact z
section
variable {K : PySem.W.Frag} {W : WX}
theorem st_yes : ST K W tYes dYes := ⟨fun C m σ H env h Q E Q' eK R hf p _ => p m true H h (.refl m H) R hf⟩
theorem se_lc {wi : TI} {g : TG} {tt : TT} {te : TE} {vs : List Nat} {src : DI} {bd : DB} {ft : DT} {fe : DE} (hs : SI K W wi src) (hg : SG K vs g bd) (ht : ST K (fun _ _ _ _ => False) tt ft) (he : SE K (fun _ _ _ _ => False) te fe) :
    SE K W (tLc wi g tt te vs) (dLc src vs bd ft fe) := ⟨fun C m σ H env h Q E Q' eK R hf p px => by
  obtain ⟨hno, hf⟩ := hf
  refine hs.run C m σ H env h _ E _ eK R hf (fun C1 m1 J H1 xs chk h1 le S1 R1 ok q1 => ?_) px
  have eK1 : C1.K = K := le.K.trans eK
  intro D hD
  have h0D : C1.H0 D = none := by
    cases e : C1.H0 D with
    | none => rfl
    | some o => exact absurd hD (R1.dom D (by rw [e]; simp))
  have n0 : (C1.own (.ref D) (.own [])).K = K := (C1.own_K _ _).trans eK1
  have lep : ∀ p ∈ C1.pins, p ∈ (C1.own (.ref D) (.own [])).pins := fun p hp => by rw [C1.own_pins]; exact hp
  -- the state of the loop
  let Inv (i : Nat) (H2 : Hp) : Prop := i ≤ xs.length ∧ ∃ (m2 : List Addr) (h2 : Hs) (acc : List PV) (av : List V), StE m1 H1 m2 H2 ∧ Rel (C1.own (.ref D) (.own [])) m2 σ H2 env h2 ∧ H2 D = some (.lst av) ∧ D ∉ m2 ∧
    RepL C1.K (fun b => ExOf C1 σ env m2 b ∨ b = D) m2 H2 av acc ∧ compL chk bd ft fe (wipeE env vs) (xs.drop i) acc h2 fun acc h2 => Q (.own acc) h2
  refine ⟨fun i n H2 => n = xs.length - i ∧ Inv i H2, ?_, ?_⟩
  · exact ⟨_, rfl, Nat.zero_le _, m1, h1, [], [], .new hD, R1.fresh hD [], upd_same, fun z => R1.mDom z hD, .nil, q1⟩
  · rintro i n H2 ⟨rfl, hi, m2, h2, acc, av, S2, R2, hDa, nD, ra, q2⟩
    by_cases hlt : i < xs.length
    · right
      have ex : xs[i]? = some xs[i] := List.getElem?_eq_getElem hlt
      rw [List.drop_eq_getElem_cons hlt] at q2
      unfold compL at q2
      obtain ⟨hc, q2⟩ := q2
      obtain ⟨go, yld⟩ := (ok _ m2 σ H2 env h2 (C1.own_K _ _) lep R2 hc i).1 _ ex
      refine ⟨go, Inv (i + 1), fun H' hN => ⟨_, by omega, rfl, hN⟩, fun x H3 hy => ?_⟩
      obtain ⟨sm, rx⟩ := yld x H3 hy
      have R3 : Rel (C1.own (.ref D) (.own [])) m2 σ H3 env h2 := R2.grow sm
      have Rw := R3.wipe vs
      have exw : ∀ b, ExOf (C1.own (.ref D) (.own [])) (wipe σ vs) (wipeE env vs) m2 b → ExOf (C1.own (.ref D) (.own [])) σ env m2 b := fun b q => by
        rcases q with q | q | q
        · exact .inl q
        · exact .inr (.inl (own_wipe q))
        · exact .inr (.inr q)
      refine hg.run _ m2 _ H3 _ h2 x _ _ _ n0 Rw (Rep.mono (Kp.le exw) ⟨[], by simp⟩ rx) q2 fun σ' env' R4 l4 k4 q4 => ?_
      refine ⟨(wipe_of (by rw [l4]) fun j hj => (k4 j hj).1).trans (wipe_wipe σ vs), ?_⟩
      -- the outer lists of one's own are there within the turn, too
      have own' : ∀ b, OwnAt σ env b → OwnAt σ' env' b := fun b ⟨j, ys, e, s⟩ => by
        have nj : j ∉ vs := fun z => by
          have w := List.all_eq_true.mp hno j z
          rw [e] at w
          cases w
        refine ⟨j, ys, ?_, ?_⟩
        · rw [(k4 j nj).2, wipeE_get nj]
          exact e
        · rw [(k4 j nj).1, wipe_get]
          simp only [nj, false_and, if_false]
          exact s
      have exo : ∀ {m5 : List Addr} (b : Addr), ExOf (C1.own (.ref D) (.own [])) σ env m5 b → ExOf (C1.own (.ref D) (.own [])) σ' env' m5 b := fun {m5} b w => by
        rcases w with w | w | w
        · exact .inl w
        · exact .inr (.inl (own' b w))
        · exact .inr (.inr w)
      have outer : ∀ {m5 : List Addr} {H5 : Hp} {h5 : Hs}, StE m2 H3 m5 H5 → Rel (C1.own (.ref D) (.own [])) m5 σ' H5 env' h5 → Rel (C1.own (.ref D) (.own [])) m5 σ H5 env h5 := fun {m5 H5 h5} S R5 =>
        R3.step S ⟨R5.hm.len, R5.hm.nd, fun n a c e f => (R5.hm.at_ n a c e f).mono (Kp.le exo) ⟨[], by simp⟩ rfl⟩
      have base : StE m1 H1 m2 H3 := S2.trans (.same sm)
      have hD3 : H3 D = some (.lst av) := sm _ _ hDa
      have ra3 : RepL C1.K (fun b => ExOf C1 σ env m2 b ∨ b = D) m2 H3 av acc := RepL.mono (fun b u e n => ⟨sm _ _ e, n⟩) ⟨[], by simp⟩ ra
      have raS : ∀ {m5 : List Addr} {H5 : Hp}, StE m2 H3 m5 H5 → RepL C1.K (fun b => ExOf C1 σ env m5 b ∨ b = D) m5 H5 av acc := fun {m5 H5} S => RepL.mono (S.kp (fun b q => .inl (.inr (.inr q))) fun b q => by
        rcases q with q | q
        · exact q.step.imp .inl id
        · exact .inl (.inr q)) S.ex' ra3
      have nopx : ∀ {m5 : List Addr} {H5 : Hp}, PostX (fun _ _ _ _ => False) (C1.own (.ref D) (.own [])) m5 σ' H5 env' (fun _ _ => False) := fun c m' H' h' _ _ z => z
      refine ht.run _ m2 σ' H3 env' h2 _ _ _ n0 R4 q4 (fun m5 b H5 h5 S5 R5 q5 => ?_) nopx
      cases b with
      | false =>
        refine iteF ⟨hlt, m5, h5, acc, av, base.trans S5, outer S5 R5, S5.keep _ _ hD3 nD, S5.notin (by rw [hD3]; simp) nD, raS S5, ?_⟩
        simpa using q5
      | true =>
        refine iteT (he.run _ m5 σ' H5 env' h5 _ _ _ n0 R5 (by simpa using q5) (fun m6 y H6 sy h6 S6 R6 r6 q6 => ?_) nopx)
        split at q6
        · rename_i pv ep
          obtain ⟨lz, q6⟩ := q6
          have S := S5.trans S6
          have hD6 : H6 D = some (.lst av) := S.keep _ _ hD3 nD
          have nD6 : D ∉ m6 := S.notin (by rw [hD3]; simp) nD
          have ry := R5.toVal r6 ep
          rw [C1.own_K] at ry
          have ro := outer S R6.drop
          have ra6 := raS S
          have lz' : av.length < sizeLine := by
            rw [ra6.length]
            exact lz
          refine ⟨av, hD6, lz', hlt, m6, h6, acc ++ [pv], av ++ [y], ?_, ro.mutTemp h0D nD6, upd_same, nD6, ?_, q6⟩
          · have B := base.trans S
            exact ⟨fun b o e n => by rw [upd_ne (ne_of_none e hD)]; exact B.keep b o e n, fun b q => by
              by_cases z : b = D
              · rw [z, upd_same]
                simp
              · rw [upd_ne z]
                exact B.dom b q, B.ext⟩
          · have ru : RepL C1.K (fun b => ExOf C1 σ env m6 b ∨ b = D) m6 H6 (av ++ [y]) (acc ++ [pv]) := ra6.append (.cons (Rep.mono (Kp.le fun b q => ?_) ⟨[], by simp⟩ ry) .nil)
            · exact RepL.mono (fun b u e n => ⟨by rw [upd_ne (fun z => n (.inr z))]; exact e, n⟩) ⟨[], by simp⟩ ru
            · rcases q with q | q
              · exact exo b (q.le fun _ => C1.own_GT _ _)
              · rw [q]
                exact .inl (.inr (.inr rfl))
        · exact q6.elim
    · left
      have ei : i = xs.length := by omega
      rw [List.drop_eq_nil_of_le (by omega)] at q2
      obtain ⟨hc, q2⟩ := q2
      refine ⟨(ok _ m2 σ H2 env h2 (C1.own_K _ _) lep R2 hc i).2 (by omega), ?_⟩
      have S := S1.trans S2
      have lo := le.own (.ref D) (.own acc) (.own []) rfl
      refine p m2 (.ref D) H2 (.own acc) h2 S (R2.back lo) ⟨D, av, rfl, hDa, stnew S1 hD, nD, ?_⟩ q2
      rw [← le.K]
      exact RepL.mono (Kp.le fun b q => q.imp (fun q => q.le le.gt) id) ⟨[], by simp⟩ ra⟩
end
end PM

namespace PM
open PySem PySem.Spec L2
open PyProof.Rows hiding St

/-! ### statements -/
structure EndsOk (W : WX) (C : Ctx) (Df : DEnds) (D : Ends) : Prop where
  nx : ∀ m σ H env h, Rel C m σ H env h → Df.nx env h → D.nx σ H
  bk : ∀ m σ H env h, Rel C m σ H env h → Df.bk env h → D.bk σ H
  ct : ∀ m σ H env h, Rel C m σ H env h → Df.ct env h → D.ct σ H
  rt : ∀ m σ H env h v sv, Rel (C.own v sv) m σ H env h → RepS C (ExOf C σ env m) m (fun a => C.H0 a = none) H v sv → (sv.isOwn = true → ∀ a, v = .ref a → ¬ C.GT a) → Df.rt sv h → D.rt v H
  ex : ∀ c m σ H env h, Rel C m σ H env h → Df.ex c env h → W (.ref c) none σ H
structure SS (K : PySem.W.Frag) (W : WX) (t : TS) (f : DS) : Prop where
  run : ∀ (C : Ctx) (m : List Addr) (σ : St) (H : Hp) (env : Env) (h : Hs) (Df : DEnds) (D : Ends), C.K = K → Rel C m σ H env h → f Df env h → EndsOk W C Df D → t D σ H
section
variable {K : PySem.W.Frag} {W : WX} {C : Ctx} {Df : DEnds} {D : Ends}
theorem EndsOk.px (p : EndsOk W C Df D) {m : List Addr} {σ : St} {H : Hp} {env : Env} : PostX W C m σ H env fun c h => Df.ex c env h := fun c m' H' h' _ R e => p.ex c m' σ H' env h' R e
theorem EndsOk.next (p : EndsOk W C Df D) {nx : Env → Hs → Prop} {nx' : St → Hp → Prop} (q : ∀ m σ H env h, Rel C m σ H env h → nx env h → nx' σ H) : EndsOk W C { Df with nx := nx } { D with nx := nx' } := ⟨q, p.bk, p.ct, p.rt, p.ex⟩
def sNil : DS := fun D env h => D.nx env h
@[simp ↓] theorem sNil_eq  (D : DEnds) (env : Env) (h : Hs) : sNil  D env h = (D.nx env h) := id rfl
def sSeq (s t : DS) : DS := fun D env h => s { D with nx := fun env1 h1 => t D env1 h1 } env h
@[simp ↓] theorem sSeq_eq (s t : DS) (D : DEnds) (env : Env) (h : Hs) : sSeq s t D env h = (s { D with nx := fun env1 h1 => t D env1 h1 } env h) := id rfl
theorem ss_nil : SS K W tNext sNil := ⟨fun C m σ H env h Df D eK R hf p => p.nx m σ H env h R hf⟩
theorem ss_seq {t u : TS} {f g : DS} (h1 : SS K W t f) (h2 : SS K W u g) : SS K W (tSeq t u) (sSeq f g) := ⟨fun C m σ H env h Df D eK R hf p =>
  h1.run C m σ H env h _ _ eK R hf (p.next fun m σ H env h R q => h2.run C m σ H env h Df D eK R q p)⟩
/-- a list of one's own is locked ahead of a statement -/
theorem ss_frz {t : TS} {f : DS} (i : Nat) (hs : SS K W t f) : SS K W t (fun D env h => f D (frzE i env) h) := ⟨fun C m σ H env h Df D eK R hf p => hs.run C m σ H _ h Df D eK R.frz hf p⟩
def sFrz (i : Nat) (f : DS) : DS := fun D env h => f D (frzE i env) h
@[simp ↓] theorem sFrz_eq (i : Nat) (f : DS) (D : DEnds) (env : Env) (h : Hs) : sFrz i f D env h = (f D (frzE i env) h) := id rfl
theorem Rel.newOk {m1 : List Addr} {H1 : Hp} {m : List Addr} {σ : St} {H : Hp} {env : Env} {h : Hs} (R : Rel C m σ H env h) {v : V} {sv : SV} (r : RepS C (ExOf C σ env m1) m1 (fun a => H a = none) H1 v sv) :
    RepS C (ExOf C σ env m1) m1 (fun a => C.H0 a = none) H1 v sv ∧ (sv.isOwn = true → ∀ a, v = .ref a → ¬ C.GT a) := by
  have n0 : ∀ a, H a = none → C.H0 a = none := fun a n => by
    cases e : C.H0 a with
    | none => rfl
    | some o => exact absurd n (R.dom a (by rw [e]; simp))
  refine ⟨r.less rfl (fun _ q => q) n0, fun o a e g => ?_⟩
  cases sv with
  | own xs =>
    obtain ⟨b, vs, rfl, _, n, _⟩ := r
    cases e
    exact R.gdom _ g n
  | _ => cases o
/-- x = e -/
def sAsg (i : Nat) (e : DE) : DS := fun D env h => e env h (fun x h1 => x.isB = false ∧ D.nx (env.set i (some x)) h1) fun c h1 => D.ex c env h1
@[simp ↓] theorem sAsg_eq (i : Nat) (e : DE) (D : DEnds) (env : Env) (h : Hs) : sAsg i e D env h = (e env h (fun x h1 => x.isB = false ∧ D.nx (env.set i (some x)) h1) fun c h1 => D.ex c env h1) := id rfl
theorem ss_asg {te : TE} {fe : DE} (i : Nat) (he : SE K W te fe) : SS K W (tAsg te (gName i)) (sAsg i fe) := ⟨fun C m σ H env h Df D eK R hf p => by
  refine he.run C m σ H env h _ _ _ eK R hf (fun m1 x H1 sx h1 S1 R1 r1 ⟨nb, q1⟩ => ?_) p.px
  obtain ⟨r2, ng⟩ := R.newOk r1
  exact p.nx m1 _ H1 _ h1 (R1.setSlot r2 nb fun a o e => ng o a e) q1⟩
/-- a target that takes a value apart; a value that is stored elsewhere -/
def sBind (bd : DB) (e : DE) : DS := fun D env h => e env h (fun x h1 => match x.toVal with
  | some p => bd p env fun env1 => D.nx env1 h1
  | none => False) fun c h1 => D.ex c env h1
@[simp ↓] theorem sBind_eq (bd : DB) (e : DE) (D : DEnds) (env : Env) (h : Hs) : sBind bd e D env h = (e env h (fun x h1 => match x.toVal with
  | some p => bd p env fun env1 => D.nx env1 h1
  | none => False) fun c h1 => D.ex c env h1) := id rfl
theorem ss_bind {te : TE} {fe : DE} {g : TG} {vs : List Nat} {bd : DB} (hg : SG K vs g bd) (he : SE K W te fe) : SS K W (tAsg te g) (sBind bd fe) := ⟨fun C m σ H env h Df D eK R hf p => by
  refine he.run C m σ H env h _ _ _ eK R hf (fun m1 x H1 sx h1 S1 R1 r1 q1 => ?_) p.px
  split at q1
  · rename_i pv ep
    exact hg.run C m1 σ H1 env h1 x pv _ _ eK R1.drop (R.toVal r1 ep) q1 fun σ' env' R' _ _ q => p.nx m1 σ' H1 env' h1 R' q
  · exact q1.elim⟩
def sExpr (e : DE) : DS := fun D env h => e env h (fun _ h1 => D.nx env h1) fun c h1 => D.ex c env h1
@[simp ↓] theorem sExpr_eq (e : DE) (D : DEnds) (env : Env) (h : Hs) : sExpr e D env h = (e env h (fun _ h1 => D.nx env h1) fun c h1 => D.ex c env h1) := id rfl
theorem ss_expr {te : TE} {fe : DE} (he : SE K W te fe) : SS K W (tDrop te) (sExpr fe) := ⟨fun C m σ H env h Df D eK R hf p =>
  he.run C m σ H env h _ _ _ eK R hf (fun m1 x H1 sx h1 S1 R1 r1 q1 => p.nx m1 σ H1 env h1 R1.drop q1) p.px⟩
def sRet (e : DE) : DS := fun D env h => e env h D.rt fun c h1 => D.ex c env h1
@[simp ↓] theorem sRet_eq (e : DE) (D : DEnds) (env : Env) (h : Hs) : sRet e D env h = (e env h D.rt fun c h1 => D.ex c env h1) := id rfl
theorem ss_ret {te : TE} {fe : DE} (he : SE K W te fe) : SS K W (tRet te) (sRet fe) := ⟨fun C m σ H env h Df D eK R hf p => by
  refine he.run C m σ H env h _ _ _ eK R hf (fun m1 x H1 sx h1 S1 R1 r1 q1 => ?_) p.px
  obtain ⟨r2, ng⟩ := R.newOk r1
  exact p.rt m1 σ H1 env h1 x sx R1 r2 ng q1⟩
def sRetN : DS := fun D _ h => D.rt (.val .non) h
@[simp ↓] theorem sRetN_eq  (D : DEnds) (u0 : Env) (h : Hs) : sRetN  D u0 h = (D.rt (.val .non) h) := id rfl
theorem ss_retN : SS K W tRetN sRetN := ⟨fun C m σ H env h Df D eK R hf p => p.rt m σ H env h .non (.val .non) R .non (fun o => nomatch o) hf⟩
/-- a name's list is handed on -/
theorem Rel.take {m : List Addr} {σ : St} {H : Hp} {env : Env} {h : Hs} {i : Nat} {xs : List PV} (R : Rel C m σ H env h) (e0 : env[i]? = some (some (.own xs))) : ∃ a, σ[i]? = some (some (.ref a)) ∧ Rel (C.own (.ref a) (.own xs)) m σ H (env.set i none) h ∧
    RepS C (ExOf C σ (env.set i none) m) m (fun a => C.H0 a = none) H (.ref a) (.own xs) ∧ ¬ C.GT a := by
  obtain ⟨v0, s0, ⟨a, vs, rfl, ha, h0, nm, q⟩, _⟩ := R.slot i _ e0
  have oa : OwnAt σ env a := ⟨i, xs, e0, s0⟩
  have sub : ∀ b, OwnAt σ (env.set i none) b → OwnAt σ env b ∧ b ≠ a := fun b ⟨j, ys, e, s⟩ => by
    rcases get_set e with ⟨rfl, l, e1⟩ | ⟨n, e1⟩
    · cases e1
    · refine ⟨⟨j, ys, e1, s⟩, fun z => ?_⟩
      subst z
      exact n (R.uniq j i ys xs _ e1 e0 s s0)
  have ex : ∀ b, ExOf (C.own (.ref a) (.own xs)) σ (env.set i none) m b → ExOf C σ env m b := fun b q => by
    rcases q with q | q | q
    · rcases q with q | q | q
      · exact .inl (.inl q)
      · exact .inl (.inr q)
      · cases q
        exact .inr (.inl oa)
    · exact .inr (.inl (sub b q).1)
    · exact .inr (.inr q)
  have nGT : ¬ C.GT a := fun g => R.gown a g oa
  have slots : ∀ w sw, (sw.isOwn = true → True) → SlotR C σ env m H w sw → SlotR (C.own (.ref a) (.own xs)) σ (env.set i none) m H w sw := fun w sw _ ⟨r1, b1⟩ => by
    refine ⟨r1.less rfl ex fun _ q => q, ?_⟩
    cases sw with
    | val p => trivial
    | own zs => trivial
    | brw zs => exact fun b e => ⟨fun z => (b1 b e).1 (sub b z).1, fun z => z.elim (b1 b e).2 fun z => (b1 b e).1 (by cases z; exact oa)⟩
    | scr ns =>
      intro b e
      rcases b1 b e with z | z
      · exact .inl z
      · exact .inr ⟨fun w => z.1 (sub b w).1, fun w => w.elim z.2 fun w => z.1 (by cases w; exact oa)⟩
  refine ⟨a, s0, ⟨by rw [List.length_set]; exact R.len, fun j sw e => ?_, fun p hp => ⟨slots _ _ (fun _ => trivial) (R.pin p hp).1, (R.pin p hp).2⟩, fun j k us ws b e1 e2 s1 s2 => ?_, ⟨R.hm.len, R.hm.nd, fun n b c e f => (R.hm.at_ n b c e f).mono (Kp.le ex) ⟨[], by simp⟩ rfl⟩, R.keep, R.dom, R.pre, fun b g => ?_, fun b g o => ?_⟩, ?_, nGT⟩
  · rcases get_set e with ⟨rfl, l, e1⟩ | ⟨n, e1⟩
    · cases e1
    · obtain ⟨w, s, r1⟩ := R.slot j sw e1
      exact ⟨w, s, slots w sw (fun _ => trivial) r1⟩
  · rcases get_set e1 with ⟨rfl, _, f1⟩ | ⟨_, f1⟩
    · cases f1
    · rcases get_set e2 with ⟨rfl, _, f2⟩ | ⟨_, f2⟩
      · cases f2
      · exact R.uniq j k us ws b f1 f2 s1 s2
  · rcases g with g | g | g
    · exact R.gdom b (.inl g)
    · exact R.gdom b (.inr g)
    · cases g
      rw [ha]
      simp
  · obtain ⟨o1, o2⟩ := sub b o
    rcases g with g | g | g
    · exact R.gown b (.inl g) o1
    · exact R.gown b (.inr g) o1
    · cases g
      exact o2 rfl
  · refine ⟨a, vs, rfl, ha, h0, nm, RepL.mono (Kp.le fun b q => ?_) ⟨[], by simp⟩ q⟩
    rcases q with q | q
    · rcases q with q | q | q
      · exact .inl (.inl q)
      · exact .inl (.inr (.inl (sub b q).1))
      · exact .inl (.inr (.inr q))
    · exact .inr q
/-- return x -/
def sRetV (i : Nat) : DS := fun D env h => match env[i]? with
  | some (some (.own xs)) => D.rt (.own xs) h
  | some (some (.val p)) => D.rt (.val p) h
  | _ => False
@[simp ↓] theorem sRetV_eq (i : Nat) (D : DEnds) (env : Env) (h : Hs) : sRetV i D env h = (match env[i]? with
  | some (some (.own xs)) => D.rt (.own xs) h
  | some (some (.val p)) => D.rt (.val p) h
  | _ => False) := id rfl
theorem ss_retV (i : Nat) : SS K W (tRet (tVar i)) (sRetV i) := ⟨fun C m σ H env h Df D eK R hf p => by
  unfold sRetV at hf
  split at hf
  · rename_i xs e0
    obtain ⟨a, s0, R1, r1, nG⟩ := R.take e0
    exact ⟨_, s0, p.rt m σ H _ h _ _ R1 r1 (fun _ b e => by cases e; exact nG) hf⟩
  · rename_i pv e0
    obtain ⟨v, s, r, _⟩ := R.slot i _ e0
    exact ⟨v, s, p.rt m σ H env h v (.val pv) R r (fun o => nomatch o) hf⟩
  · exact hf.elim⟩
def sIf (c : DT) (s t : DS) : DS := fun D env h => c env h (fun b h1 => if b = true then s D env h1 else t D env h1) fun c h1 => D.ex c env h1
@[simp ↓] theorem sIf_eq (c : DT) (s t : DS) (D : DEnds) (env : Env) (h : Hs) : sIf c s t D env h = (c env h (fun b h1 => if b = true then s D env h1 else t D env h1) fun c h1 => D.ex c env h1) := id rfl
theorem ss_if {tc : TT} {t u : TS} {fc : DT} {f g : DS} (hc : ST K W tc fc) (h1 : SS K W t f) (h2 : SS K W u g) : SS K W (tIfS tc t u) (sIf fc f g) := ⟨fun C m σ H env h Df D eK R hf p => by
  refine hc.run C m σ H env h _ _ _ eK R hf (fun m1 b H1 h1' S1 R1 q1 => ?_) p.px
  cases b with
  | true => exact iteT (h1.run C m1 σ H1 env h1' Df D eK R1 (by simpa using q1) p)
  | false => exact iteF (h2.run C m1 σ H1 env h1' Df D eK R1 (by simpa using q1) p)⟩
def sPass : DS := sNil
@[simp ↓] theorem sPass_eq : sPass = (sNil) := id rfl
theorem ss_pass : SS K W tNext sPass := ss_nil
def sBreak : DS := fun D env h => D.bk env h
@[simp ↓] theorem sBreak_eq  (D : DEnds) (env : Env) (h : Hs) : sBreak  D env h = (D.bk env h) := id rfl
theorem ss_break : SS K W tBreak sBreak := ⟨fun C m σ H env h Df D eK R hf p => p.bk m σ H env h R hf⟩
def sCont : DS := fun D env h => D.ct env h
@[simp ↓] theorem sCont_eq  (D : DEnds) (env : Env) (h : Hs) : sCont  D env h = (D.ct env h) := id rfl
theorem ss_cont : SS K W tCont sCont := ⟨fun C m σ H env h Df D eK R hf p => p.ct m σ H env h R hf⟩
/-- while, by an invariant and a number that falls -/
def sWhile (c : DT) (b : DS) : DS := fun D env h => ∃ I : Nat → Env → Hs → Prop, (∃ n, I n env h) ∧ ∀ n env h, I n env h → c env h (fun v h1 => if v = true then b { D with nx := fun env' h' => ∃ n', n' < n ∧ I n' env' h', ct := fun env' h' => ∃ n', n' < n ∧ I n' env' h', bk := D.nx } env h1 else D.nx env h1) fun c h1 => D.ex c env h1
theorem ss_while {tc : TT} {tb : TS} {fc : DT} {f : DS} (hc : ST K W tc fc) (hb : SS K W tb f) : SS K W (tWhile tc tb) (sWhile fc f) := ⟨fun C m σ H env h Df D eK R hf p => by
  obtain ⟨I, ⟨n, i0⟩, step⟩ := hf
  refine ⟨fun n σ H => ∃ m env h, Rel C m σ H env h ∧ I n env h, ⟨n, m, env, h, R, i0⟩, ?_⟩
  rintro n σ H ⟨m, env, h, R, i⟩
  refine hc.run C m σ H env h _ _ _ eK R (step n env h i) (fun m1 b H1 h1 S1 R1 q1 => ?_) p.px
  cases b with
  | false => exact p.nx m1 σ H1 env h1 R1 (by simpa using q1)
  | true =>
    refine ⟨fun σ' H' => ∃ n', n' < n ∧ ∃ m env h, Rel C m σ' H' env h ∧ I n' env h, fun σ' H' q => q, ?_⟩
    have q2 : f { Df with nx := fun env' h' => ∃ n', n' < n ∧ I n' env' h', ct := fun env' h' => ∃ n', n' < n ∧ I n' env' h', bk := Df.nx } env h1 := by simpa using q1
    exact hb.run C m1 σ H1 env h1 _ _ eK R1 q2 ⟨fun m σ H env h R ⟨n', l, q⟩ => ⟨n', l, m, env, h, R, q⟩, p.nx, fun m σ H env h R ⟨n', l, q⟩ => ⟨n', l, m, env, h, R, q⟩, p.rt, p.ex⟩⟩
/-- the turns of a for -/
def forL (chk : Hs → Prop) (bd : DB) (b : DS) (D : DEnds) : List PV → Env → Hs → Prop
  | [], env, h => chk h ∧ D.nx env h
  | x :: xs, env, h => chk h ∧ bd x env fun env1 => b { D with nx := forL chk bd b D xs, ct := forL chk bd b D xs, bk := D.nx } env1 h
@[simp ↓] theorem forL_nil (chk : Hs → Prop) (bd : DB) (b : DS) (D : DEnds) (env : Env) (h : Hs) : forL chk bd b D [] env h = (chk h ∧ D.nx env h) := id rfl
@[simp ↓] theorem forL_cons (chk : Hs → Prop) (bd : DB) (b : DS) (D : DEnds) (x : PV) (xs : List PV) (env : Env) (h : Hs) : forL chk bd b D (x :: xs) env h = (chk h ∧ bd x env fun env1 => b { D with nx := forL chk bd b D xs, ct := forL chk bd b D xs, bk := D.nx } env1 h) := id rfl
def sFor (src : DI) (bd : DB) (b : DS) : DS := fun D env h => src env h (fun xs chk h1 => forL chk bd b D xs env h1) fun c h1 => D.ex c env h1
@[simp ↓] theorem sFor_eq (src : DI) (bd : DB) (b : DS) (D : DEnds) (env : Env) (h : Hs) : sFor src bd b D env h = (src env h (fun xs chk h1 => forL chk bd b D xs env h1) fun c h1 => D.ex c env h1) := id rfl
theorem ss_for {wi : TI} {g : TG} {tb : TS} {src : DI} {vs : List Nat} {bd : DB} {f : DS} (hs : SI K W wi src) (hg : SG K vs g bd) (hb : SS K W tb f) : SS K W (tFor wi g tb) (sFor src bd f) := ⟨fun C m σ H env h Df D eK R hf p => by
  refine hs.run C m σ H env h _ _ _ eK R hf (fun C1 m1 J H1 xs chk h1 le S1 R1 ok q1 => ?_) p.px
  have eK1 : C1.K = K := le.K.trans eK
  let Inv (i : Nat) (σ : St) (H : Hp) : Prop := i ≤ xs.length ∧ ∃ m env h, Rel C1 m σ H env h ∧ forL chk bd f Df (xs.drop i) env h
  refine ⟨fun i n σ H => n = xs.length - i ∧ Inv i σ H, ⟨_, rfl, Nat.zero_le _, m1, env, h1, R1, q1⟩, ?_⟩
  rintro i n σ H ⟨rfl, hi, m, env, h, R, q⟩
  by_cases hlt : i < xs.length
  · right
    have ex : xs[i]? = some xs[i] := List.getElem?_eq_getElem hlt
    rw [List.drop_eq_getElem_cons hlt] at q
    unfold forL at q
    obtain ⟨hc, q⟩ := q
    obtain ⟨go, yld⟩ := (ok C1 m σ H env h rfl (fun _ q => q) R hc i).1 _ ex
    refine ⟨go, Inv (i + 1), fun σ' H' hN => ⟨_, by omega, rfl, hN⟩, fun x H3 hy => ?_⟩
    obtain ⟨sm, rx⟩ := yld x H3 hy
    refine hg.run C1 m σ H3 env h x _ _ _ eK1 (R.grow sm) rx q fun σ' env' R4 _ _ q4 => ?_
    refine hb.run C1 m σ' H3 env' h _ _ eK1 R4 q4 ⟨fun m σ H env h R q => ⟨hlt, m, env, h, R, q⟩, fun m σ H env h R q => p.nx m σ H env h (R.back le) q, fun m σ H env h R q => ⟨hlt, m, env, h, R, q⟩, fun m σ H env h v sv R r ng q => ?_, fun c m σ H env h R q => p.ex c m σ H env h (R.back le) q⟩
    exact p.rt m σ H env h v sv (R.back (le.own v sv sv rfl)) (r.less le.K.symm (fun b q => q.le le.gt) fun b q => by rw [← le.H0]; exact q) (fun o a e g => ng o a e (le.gt a g)) q
  · left
    rw [List.drop_eq_nil_of_le (by omega)] at q
    obtain ⟨hc, q⟩ := q
    exact ⟨(ok C1 m σ H env h rfl (fun _ q => q) R hc i).2 (by omega), p.nx m σ H env h (R.back le) q⟩⟩
end
end PM

namespace PM
open PySem PySem.Spec L2
open PyProof.Rows hiding St

/-! ### defs -/
abbrev W0 : WX := fun _ _ _ _ => False
@[simp] def SV.toArg : SV → SV
  | .own xs => .brw xs
  | sv => sv
theorem RepS.wide {C : Ctx} {Ex Ex' N : Ad} {m m' : List Addr} {H H' : Hp} {v : V} {sv : SV} (r : RepS C Ex m N H v sv) (S : StE m H m' H') (h1 : ∀ b, b ∈ m → Ex b) (h2 : ∀ b, Ex' b → Ex b ∨ b ∈ m' ∨ H b = none) : RepS C Ex' m' N H' v sv := by
  have kp : ∀ {Z Z' : Ad}, (∀ b, b ∈ m → Z b) → (∀ b, Z' b → Z b ∨ b ∈ m' ∨ H b = none) → Kp Z H Z' H' := fun {Z Z'} g1 g2 b u e n => by
    have nm : b ∉ m := fun q => n (g1 b q)
    refine ⟨S.keep b u e nm, fun q => ?_⟩
    rcases g2 b q with q | q | q
    · exact n q
    · exact S.notin (by rw [e]; simp) nm q
    · rw [e] at q
      cases q
  cases sv with
  | val p => exact Rep.mono (kp h1 h2) S.ex' r
  | own xs =>
    obtain ⟨a, vs, rfl, ha, n, nm, q⟩ := r
    exact ⟨a, vs, rfl, S.keep _ _ ha nm, n, S.notin (by rw [ha]; simp) nm, RepL.mono (kp (fun b q => .inl (h1 b q)) fun b q => by
      rcases q with q | q
      · exact (h2 b q).imp .inl id
      · exact .inl (.inr q)) S.ex' q⟩
  | brw xs =>
    obtain ⟨a, vs, rfl, ha, q⟩ := r
    exact ⟨a, vs, rfl, ha.mono (S.kp (fun _ q => q) fun b q => .inr q), RepL.mono (kp h1 h2) S.ex' q⟩
  | scr ns =>
    obtain ⟨a, rfl, ha⟩ := r
    refine ⟨a, rfl, ha.imp (fun ha => ?_) id⟩
    have z : LstAt (· ∈ m') H' a (ns.map V.int) := LstAt.mono ha (S.kp (fun _ q => q) fun b q => .inr q)
    exact z
/-- the names behind a step that hands on a new list -/
theorem Rel.stepOwn {C : Ctx} {m m' : List Addr} {σ : St} {H H' : Hp} {env : Env} {h h' : Hs} {v : V} {sv : SV} (R : Rel C m σ H env h) (S : StE m H m' H') (hm : HeapR C.K (ExOf (C.own v sv) σ env m') m' H' h') (fr : ∀ a, sv.isOwn = true → v = .ref a → H a = none ∧ H' a ≠ none) : Rel (C.own v sv) m' σ H' env h' := by
  have gt : ∀ b, (C.own v sv).GT b → C.GT b ∨ (sv.isOwn = true ∧ v = .ref b) := fun b q => by
    cases sv with
    | own xs =>
      rcases q with q | q | q
      · exact .inl (.inl q)
      · exact .inl (.inr q)
      · exact .inr ⟨rfl, q.symm⟩
    | _ => exact .inl q
  have ex : ∀ b, ExOf (C.own v sv) σ env m' b → ExOf C σ env m b ∨ b ∈ m' ∨ H b = none := fun b q => by
    rcases q with q | q | q
    · rcases gt b q with q | ⟨o, e⟩
      · exact .inl (.inl q)
      · exact .inr (.inr (fr b o e).1)
    · exact .inl (.inr (.inl q))
    · exact .inr (.inl q)
  have R1 : Rel C m' σ H' env h' := R.step S ⟨hm.len, hm.nd, fun n a c e f => by
    have z := hm.at_ n a c e f
    exact z.mono (Kp.le fun b q => q.le fun _ => C.own_GT v sv) ⟨[], by simp⟩ rfl⟩
  have slots : ∀ w sw, SlotR C σ env m H w sw → SlotR (C.own v sv) σ env m' H' w sw := fun w sw ⟨r1, b1⟩ => by
    refine ⟨((r1.wide S (fun b q => .inr (.inr q)) ex).less (C.own_K v sv) (fun _ q => q) fun b q => by rw [C.own_H0]; exact q), ?_⟩
    have tt : ∀ b, H b ≠ none → ¬ C.T b → ¬ (C.own v sv).T b := fun b nb nt z => by
      cases sv with
      | own xs =>
        rcases z with z | z
        · exact nt z
        · exact nb (fr b rfl z.symm).1
      | _ => exact nt z
    cases sw with
    | val p => trivial
    | own xs => trivial
    | brw xs =>
      obtain ⟨c, ws, rfl, hc, _⟩ := r1
      intro b e
      cases e
      refine ⟨(b1 c rfl).1, tt c (fun z => ?_) (b1 c rfl).2⟩
      rcases hc.1 with q | ⟨_, q⟩ <;> (rw [z] at q; cases q)
    | scr ns =>
      obtain ⟨c, rfl, hc⟩ := r1
      intro b e
      cases e
      rcases b1 c rfl with q | q
      · exact .inl fun H' => by rw [C.own_K]; exact q H'
      · rcases hc with hc | hc
        · refine .inr ⟨q.1, tt c (fun z => ?_) q.2⟩
          rcases hc.1 with q | ⟨_, q⟩ <;> (rw [z] at q; cases q)
        · exact .inl fun H' => by rw [C.own_K]; exact hc H'
  refine ⟨R.len, fun i sw e => ?_, fun p hp => ?_, R.uniq, by rw [C.own_K]; exact hm, by rw [C.own_H0, C.own_m0]; exact R1.keep, by rw [C.own_H0]; exact R1.dom, by rw [C.own_H0, C.own_m0]; exact R1.pre, fun b q => ?_, fun b q o => ?_⟩
  · obtain ⟨w, s, r⟩ := R.slot i sw e
    exact ⟨w, s, slots w sw r⟩
  · have z := R.pin p (by rw [C.own_pins] at hp; exact hp)
    exact ⟨slots _ _ z.1, z.2⟩
  · rcases gt b q with q | ⟨o, e⟩
    · exact R1.gdom b q
    · exact (fr b o e).2
  · rcases gt b q with q | ⟨so, e⟩
    · exact R.gown b q o
    · obtain ⟨vs, z, _⟩ := R.ownDom o
      rw [(fr b so e).1] at z
      cases z
def ctxAt (K : PySem.W.Frag) (G : Ad) (m : List Addr) (H : Hp) : Ctx := { K := K, G := G, H0 := H, m0 := m }
/-- what a def promises: its denotation -/
def spD (K : PySem.W.Frag) (n : Nat) (d : DF) : Sp := fun vs H Q _ => vs.length = n ∧ ∃ (G : Ad) (m : List Addr) (h : Hs) (svs : List SV) (Qd : VQ), Rel (ctxAt K G m H) m (vs.map some) H (svs.map some) h ∧ d svs h Qd (fun _ _ => False) ∧
  ∀ m' v H' sv h', StE m H m' H' → HeapR K (ExOf ((ctxAt K G m H).own v sv) [] [] m') m' H' h' → RepS (ctxAt K G m H) (ExOf (ctxAt K G m H) [] [] m') m' (fun a => H a = none) H' v sv → Qd sv h' → Q v H'
theorem own_nil {b : Addr} : ¬ OwnAt [] [] b := fun ⟨i, xs, e, _⟩ => by simp at e
theorem own_rep {σ : St} {env : Env} {k : Nat} {b : Addr} (l : σ.length = env.length) (o : OwnAt (σ ++ List.replicate k none) (env ++ List.replicate k none) b) : OwnAt σ env b := by
  obtain ⟨i, xs, e, s⟩ := o
  by_cases hi : i < env.length
  · rw [List.getElem?_append_left hi] at e
    rw [List.getElem?_append_left (by omega)] at s
    exact ⟨i, xs, e, s⟩
  · rw [List.getElem?_append_right (by omega), List.getElem?_replicate] at e
    split at e <;> cases e
theorem Rel.ext {C : Ctx} {m : List Addr} {σ : St} {H : Hp} {env : Env} {h : Hs} (R : Rel C m σ H env h) (k : Nat) : Rel C m (σ ++ List.replicate k none) H (env ++ List.replicate k none) h := by
  have sub : ∀ b, OwnAt (σ ++ List.replicate k none) (env ++ List.replicate k none) b → OwnAt σ env b := fun b o => own_rep R.len o
  have ex : ∀ b, ExOf C (σ ++ List.replicate k none) (env ++ List.replicate k none) m b → ExOf C σ env m b := fun b q => by
    rcases q with q | q | q
    · exact .inl q
    · exact .inr (.inl (sub b q))
    · exact .inr (.inr q)
  have slots : ∀ w sw, SlotR C σ env m H w sw → SlotR C (σ ++ List.replicate k none) (env ++ List.replicate k none) m H w sw := fun w sw ⟨r1, b1⟩ => ⟨r1.less rfl ex fun _ q => q, b1.le rfl (fun b o => .inl (sub b o)) fun _ q => q⟩
  have left : ∀ {i : Nat} {sv : SV}, (env ++ List.replicate k none)[i]? = some (some sv) → i < env.length ∧ env[i]? = some (some sv) := fun {i sv} e => by
    by_cases hi : i < env.length
    · rw [List.getElem?_append_left hi] at e
      exact ⟨hi, e⟩
    · rw [List.getElem?_append_right (by omega), List.getElem?_replicate] at e
      split at e <;> cases e
  refine ⟨by simp [R.len], fun i sv e => ?_, fun p hp => ⟨slots _ _ (R.pin p hp).1, (R.pin p hp).2⟩, fun i j xs ys a e1 e2 s1 s2 => ?_, ⟨R.hm.len, R.hm.nd, fun n a c e f => (R.hm.at_ n a c e f).mono (Kp.le ex) ⟨[], by simp⟩ rfl⟩, R.keep, R.dom, R.pre, R.gdom, fun a g o => R.gown a g (sub a o)⟩
  · obtain ⟨hi, e⟩ := left e
    obtain ⟨w, s, r⟩ := R.slot i sv e
    exact ⟨w, by rw [List.getElem?_append_left (by rw [R.len]; exact hi)]; exact s, slots w sv r⟩
  · obtain ⟨h1, e1⟩ := left e1
    obtain ⟨h2, e2⟩ := left e2
    rw [List.getElem?_append_left (by rw [R.len]; exact h1)] at s1
    rw [List.getElem?_append_left (by rw [R.len]; exact h2)] at s2
    exact R.uniq i j xs ys a e1 e2 s1 s2
/-- a def: n parameters, k further names -/
def dDef (n k : Nat) (body : DS) : DF := fun svs h Q E => svs.length = n ∧ body { nx := fun _ h' => Q (.val .non) h', rt := Q, ex := fun c _ h' => E c h' } (svs.map some ++ List.replicate k none) h
@[simp ↓] theorem dDef_eq (n k : Nat) (body : DS) (svs : List SV) (h : Hs) (Q : VQ) (E : XQ) : dDef n k body svs h Q E = (svs.length = n ∧ body { nx := fun _ h' => Q (.val .non) h', rt := Q, ex := fun c _ h' => E c h' } (svs.map some ++ List.replicate k none) h) := id rfl
section
variable {P : Program} {w : World} {K : PySem.W.Frag} {mg : Str → Option Value} {base : Heap}
theorem ok_def {x qual : Str} {st : Stmt} {f : Addr} {fd : FuncData} {N ps : List Str} {k : Nat} {body : DS} (F : Fun K x qual st f fd) (S : FnScope N ps (defScope st))
    (hb : ∀ (cdv : Value) (A : Around) (outer : List PySem.Env) (s : Shared) (H : Hp) (E : XK), Room k (A.deeper (envOfC qual (defScope st) s.heap.objs.size f cdv)) → ∃ t, PSs (cxOf CX0 P w K mg base N qual (defScope st) f cdv A outer s H E).nox (defBody st) t ∧ SS K W0 t body) :
    FnOk P w K mg base CX0 (k + 1) f fd ps (spD K ps.length (dDef ps.length (N.length - ps.length) body)) := by
  refine F.ok S (fun vs H Q E h => h.1) (fun cdv A outer s H vs Q E hr h => ?_)
  obtain ⟨t, hp, hs⟩ := hb cdv A outer s H E hr
  obtain ⟨hl, G, m, h, svs, Qd, R, ⟨sl, hd⟩, post⟩ := h
  refine ⟨t, hp, ?_⟩
  have R2 := R.ext (N.length - ps.length)
  have fin : ∀ m' σ H' env h' v sv, Rel ((ctxAt K G m H).own v sv) m' σ H' env h' → RepS (ctxAt K G m H) (ExOf (ctxAt K G m H) σ env m') m' (fun a => H a = none) H' v sv → Qd sv h' → Q v H' := fun m' σ H' env h' v sv R r q => by
    have R0 := R.drop
    have ex : ∀ (C : Ctx) b, ExOf C [] [] m' b → ExOf C σ env m' b := fun C b q => by
      rcases q with q | q | q
      · exact .inl q
      · exact absurd q own_nil
      · exact .inr (.inr q)
    refine post m' v H' sv h' ⟨R0.keep, R0.dom, R0.pre⟩ ⟨R.hm.len, R.hm.nd, fun n a c e f => ?_⟩ (r.less rfl (ex _) fun _ q => q) q
    have z := R.hm.at_ n a c e f
    rw [Ctx.own_K] at z
    exact z.mono (Kp.le (ex _)) ⟨[], by simp⟩ rfl
  have e0 : L2.start N vs = vs.map some ++ List.replicate (N.length - ps.length) none := by
    unfold L2.start
    rw [hl]
  rw [e0]
  refine hs.run (ctxAt K G m H) m _ H _ h _ _ rfl R2 hd ⟨fun m' σ H' env h' R q => fin m' σ H' env h' .non (.val .non) R .non q, fun _ _ _ _ _ _ q => q, fun _ _ _ _ _ _ q => q, fun m' σ H' env h' v sv R r _ q => fin m' σ H' env h' v sv R r q, fun _ _ _ _ _ _ _ q => q⟩
end
/-- f(..) -/
def apA (svs : List SV) (k : List SV → Prop) : Prop := k (svs.map SV.toArg)
@[simp ↓] theorem apA_nil (k : List SV → Prop) : apA [] k = k [] := id rfl
@[simp ↓] theorem apA_val (p : PV) (l : List SV) (k : List SV → Prop) : apA (.val p :: l) k = apA l fun vs => k (.val p :: vs) := id rfl
@[simp ↓] theorem apA_own (p : List PV) (l : List SV) (k : List SV → Prop) : apA (.own p :: l) k = apA l fun vs => k (.brw p :: vs) := id rfl
@[simp ↓] theorem apA_brw (p : List PV) (l : List SV) (k : List SV → Prop) : apA (.brw p :: l) k = apA l fun vs => k (.brw p :: vs) := id rfl
@[simp ↓] theorem apA_scr (p : List Int) (l : List SV) (k : List SV → Prop) : apA (.scr p :: l) k = apA l fun vs => k (.scr p :: vs) := id rfl
def dCall (n : Nat) (d : DF) (a : DA) : DE := fun env h Q E => a env h (fun svs h1 => svs.length = n ∧ apA svs fun vs => d vs h1 Q fun _ _ => False) E
@[simp ↓] theorem dCall_eq (n : Nat) (d : DF) (a : DA) (env : Env) (h : Hs) (Q : VQ) (E : XQ) : dCall n d a env h Q E = (a env h (fun svs h1 => svs.length = n ∧ apA svs fun vs => d vs h1 Q fun _ _ => False) E) := id rfl
theorem paired_get {α β : Type} {R : α → β → Prop} : ∀ {xs : List α} {ys : List β} {i : Nat} {y : β}, Paired R xs ys → ys[i]? = some y → ∃ x, xs[i]? = some x ∧ R x y
  | _, _, _, _, .nil, e => by simp at e
  | _, _, 0, _, .cons r _, e => by
    obtain rfl := Option.some.inj e
    exact ⟨_, rfl, r⟩
  | _, _, i + 1, _, .cons _ t, e => paired_get (i := i) t e
/-- the state at a callee's beginning -/
theorem Rel.enter {C : Ctx} {m : List Addr} {σ : St} {H : Hp} {env : Env} {h : Hs} {N : Ad} {vs : List V} {svs : List SV} (R : Rel C m σ H env h) (r : Paired (RepS C (ExOf C σ env m) m N H) vs svs) :
    Rel (ctxAt C.K (fun a => C.GT a ∨ OwnAt σ env a) m H) m (vs.map some) H ((svs.map SV.toArg).map some) h := by
  have noown : ∀ {b : Addr}, ¬ OwnAt (vs.map some) ((svs.map SV.toArg).map some) b := fun {b} ⟨i, xs, e, _⟩ => by
    rw [List.map_map, List.getElem?_map] at e
    cases g : svs[i]? with
    | none => rw [g] at e; cases e
    | some sv =>
      rw [g] at e
      have e1 : SV.toArg sv = .own xs := by
        have z := Option.some.inj e
        exact Option.some.inj z
      cases sv <;> cases e1
  have exi : ∀ b, ExOf (ctxAt C.K (fun a => C.GT a ∨ OwnAt σ env a) m H) (vs.map some) ((svs.map SV.toArg).map some) m b → ExOf C σ env m b := fun b q => by
    rcases q with q | q | q
    · rcases q with q | q
      · exact q.elim .inl fun q => .inr (.inl q)
      · exact q.elim
    · exact absurd q noown
    · exact .inr (.inr q)
  have len : vs.length = svs.length := Paired.length r
  refine ⟨by simp [len], fun i sv e => ?_, fun p hp => (nomatch hp), fun i j xs ys a e1 _ s1 _ => absurd ⟨i, xs, e1, s1⟩ noown, ⟨R.hm.len, R.hm.nd, fun n a c e f => (R.hm.at_ n a c e f).mono (Kp.le exi) ⟨[], by simp⟩ rfl⟩, fun b o e _ => e, fun b q => q, ⟨[], by simp [ctxAt], by simp⟩, fun a g => ?_, fun a _ o => noown o⟩
  · rw [List.map_map, List.getElem?_map] at e
    cases g : svs[i]? with
    | none => rw [g] at e; cases e
    | some s0 =>
      rw [g] at e
      obtain ⟨v, gv, rv⟩ := paired_get r g
      have e1 : SV.toArg s0 = sv := by
        have z := Option.some.inj e
        exact Option.some.inj z
      subst e1
      refine ⟨v, by rw [List.getElem?_map, gv]; rfl, ?_⟩
      cases s0 with
      | val p => exact ⟨Rep.mono (Kp.le exi) ⟨[], by simp⟩ rv, trivial⟩
      | own xs =>
        obtain ⟨a, ws, rfl, ha, _, nm, q⟩ := rv
        exact ⟨⟨a, ws, rfl, ⟨.inl ha, nm⟩, RepL.mono (Kp.le fun b q => .inl (exi b q)) ⟨[], by simp⟩ q⟩, fun b _ => ⟨noown, fun q => q⟩⟩
      | brw xs =>
        obtain ⟨a, ws, rfl, ha, q⟩ := rv
        exact ⟨⟨a, ws, rfl, ha, RepL.mono (Kp.le exi) ⟨[], by simp⟩ q⟩, fun b _ => ⟨noown, fun q => q⟩⟩
      | scr ns =>
        obtain ⟨a, rfl, ha⟩ := rv
        exact ⟨⟨a, rfl, ha⟩, fun b _ => .inr ⟨noown, fun q => q⟩⟩
  · rcases g with g | g
    · exact g.elim (R.gdom a) fun o => R.exDom (.inr (.inl o))
    · exact g.elim
section
variable {K : PySem.W.Frag} {W : WX}
theorem se_call {ta : TA} {fa : DA} {n : Nat} {d : DF} {E0 : XK} (ha : SA K W ta fa) : SE K W (tCall (spD K n d) [] E0 ta) (dCall n d fa) := ⟨fun C m σ H env h Q E Q' eK R hf p px => by
  refine ha.run C m σ H env h _ E _ eK R hf (fun m1 vs H1 svs h1 S1 R1 r1 ⟨hn, q1⟩ => ?_) px
  have len : vs.length = svs.length := Paired.length r1
  rw [List.append_nil]
  have R1' : Rel C m1 σ H1 env h1 := R1.drops
  have Re := R1'.enter r1
  subst eK
  refine ⟨len.trans hn, _, m1, h1, _, Q, Re, q1, fun m' v H' sv h' S2 hm r2 q2 => ?_⟩
  have ex : ∀ b, ExOf C σ env m' b → ExOf (ctxAt C.K (fun a => C.GT a ∨ OwnAt σ env a) m1 H1) [] [] m' b := fun b q => by
    rcases q with q | q | q
    · exact .inl (.inl (.inl q))
    · exact .inl (.inl (.inr q))
    · exact .inr (.inr q)
  have exo : ∀ b, ExOf (C.own v sv) σ env m' b → ExOf ((ctxAt C.K (fun a => C.GT a ∨ OwnAt σ env a) m1 H1).own v sv) [] [] m' b := fun b q => by
    rcases q with q | q | q
    · cases sv with
      | own xs =>
        rcases q with q | q | q
        · exact .inl (.inl (.inl (.inl q)))
        · exact .inl (.inl (.inl (.inr q)))
        · exact .inl (.inr (.inr q))
      | _ => exact .inl (.inl (.inl q))
    · exact .inl (by
        cases sv with
        | _ => exact .inl (.inr q))
    · exact .inr (.inr q)
  have r3 : RepS C (ExOf C σ env m') m' (fun a => H1 a = none) H' v sv := r2.less rfl ex fun _ q => q
  refine p m' v H' sv h' (S1.trans S2) (R1'.stepOwn S2 ⟨hm.len, hm.nd, fun n a c e f => ?_⟩ fun a o e => ?_) (r3.less rfl (fun _ q => q) fun a q => stnew S1 q) q2
  · exact (hm.at_ n a c e f).mono (Kp.le exo) ⟨[], by simp⟩ rfl
  · cases sv with
    | own xs =>
      obtain ⟨b, ws, rfl, hb, nb, _⟩ := r3
      cases e
      exact ⟨nb, by rw [hb]; simp⟩
    | _ => cases o⟩
end
end PM

namespace PM
open PySem PySem.Spec L2
open PyProof.Rows hiding St

/-! ### calls of built-ins, by values -/
abbrev GL := Hs → List SV → (SV → Prop) → Prop
def CallS (K : PySem.W.Frag) (r : List V → Hp → VK → Prop) (g : GL) : Prop := ∀ (C : Ctx) (m : List Addr) (σ : St) (H : Hp) (env : Env) (h : Hs) (vs : List V) (svs : List SV) (q : SV → Prop) (Q' : VK), C.K = K → Rel C m σ H env h →
  Paired (RepA C σ env m H) vs svs → g h svs q → PostO C m σ H env h q Q' → r vs H Q'
def dB (g : GL) (a : DA) : DE := fun env h Q E => a env h (fun svs h1 => g h1 svs fun r => Q r h1) E
@[simp ↓] theorem dB_eq (g : GL) (a : DA) (env : Env) (h : Hs) (Q : VQ) (E : XQ) : dB g a env h Q E = (a env h (fun svs h1 => g h1 svs fun r => Q r h1) E) := id rfl
section
variable {K : PySem.W.Frag} {W : WX}
theorem se_cb {ta : TA} {fa : DA} {r : List V → Hp → VK → Prop} {g : GL} (o : CallS K r g) (ha : SA K W ta fa) : SE K W (tCB r ta) (dB g fa) := ⟨fun C m σ H env h Q E Q' eK R hf p px => by
  refine ha.run C m σ H env h _ E _ eK R hf (fun m1 vs H1 svs h1 S1 R1 r1 q1 => ?_) px
  refine o C m1 σ H1 env h1 vs svs _ _ eK R1.drops (Paired.mapP r1 fun v sv r => r.less rfl (fun _ q => q) fun _ _ => trivial) q1 fun v H' sv s3 R3 r3 q3 => ?_
  have S3 : StE m1 H1 m1 H' := .same s3
  exact p m1 v H' sv h1 (S1.trans S3) R3 (r3.less rfl (fun _ q => q) fun a n => stnew S1 n) q3⟩
end
/-- one argument -/
def g1 (g : G1) : GL := fun h svs q => match svs with
  | [x] => g h x q
  | _ => False
@[simp ↓] theorem g1_eq (g : G1) (h : Hs) (svs : List SV) (q : SV → Prop) : g1 g h svs q = (match svs with
  | [x] => g h x q
  | _ => False) := id rfl
def CallS1 (K : PySem.W.Frag) (r : V → Hp → VK → Prop) (g : G1) : Prop := UnS K r g
theorem cs_1 {K : PySem.W.Frag} {r : List V → Hp → VK → Prop} {g : G1} (u : UnS K (fun x H Q => r [x] H Q) g) : CallS K r (g1 g) := fun C m σ H env h vs svs q Q' eK R rs hg p => by
  unfold g1 at hg
  split at hg
  · cases rs with
    | cons r1 rs =>
      cases rs
      exact u C m σ H env h _ _ q Q' eK R r1 hg p
  · exact hg.elim
/-- len -/
def gLen : G1 := fun h x q => match x with
  | .val (.str z) => z.length ≤ sizeLine ∧ q (.val (.int z.length))
  | x => ∃ xs, seqC h x = some xs ∧ q (.val (.int xs.length))
@[simp ↓] theorem gLen_eq  (h : Hs) (x : SV) (q : SV → Prop) : gLen  h x q = (match x with
  | .val (.str z) => z.length ≤ sizeLine ∧ q (.val (.int z.length))
  | x => ∃ xs, seqC h x = some xs ∧ q (.val (.int xs.length))) := id rfl
theorem us_len {K : PySem.W.Frag} : UnS K (fun x H Q => ∃ y n, [x] = [y] ∧ LenV K y H n ∧ Q (.int n) H) gLen := fun C m σ H env h x sx q Q' eK R rx hg p => by
  subst eK
  unfold gLen at hg
  split at hg
  · cases rx
    exact ⟨_, _, rfl, ⟨hg.1, rfl⟩, p.int R hg.2⟩
  · obtain ⟨xs, e, hq⟩ := hg
    obtain ⟨a, vs, rfl, h1, q1⟩ := R.seq rx e
    refine ⟨_, vs.length, rfl, h1.imp (fun z => ⟨vs, z, rfl⟩) (fun z => ⟨vs, z, rfl⟩), ?_⟩
    rw [q1.length]
    exact p.int R hq
def gInt1 : G1 := fun _ x q => match x with
  | .val (.int i) => q (.val (.int i))
  | .val (.bl b) => q (.val (.int (if b then 1 else 0)))
  | _ => False
@[simp ↓] theorem gInt1_eq  (u0 : Hs) (x : SV) (q : SV → Prop) : gInt1  u0 x q = (match x with
  | .val (.int i) => q (.val (.int i))
  | .val (.bl b) => q (.val (.int (if b then 1 else 0)))
  | _ => False) := id rfl
theorem us_int1 {K : PySem.W.Frag} : UnS K (fun x H Q => (∃ i, [x] = [V.int i] ∧ Q (.int i) H) ∨ ∃ k, [x] = [V.bl k] ∧ Q (.int (if k then 1 else 0)) H) gInt1 := fun C m σ H env h x sx q Q' eK R rx hg p => by
  subst eK
  unfold gInt1 at hg
  split at hg
  · cases rx
    exact .inl ⟨_, rfl, p.int R hg⟩
  · cases rx
    exact .inr ⟨_, rfl, p.int R hg⟩
  · exact hg.elim
/-- lists of ints, of bools -/
def intsOf : List PV → Option (List Int)
  | [] => some []
  | .int i :: xs => (intsOf xs).map (i :: ·)
  | _ :: _ => none
theorem intsOf_eq : ∀ {xs : List PV} {ns : List Int}, intsOf xs = some ns → xs = ns.map .int
  | [], _, e => by cases e; rfl
  | .int i :: xs, ns, e => by
    unfold intsOf at e
    cases g : intsOf xs with
    | none => rw [g] at e; cases e
    | some ms =>
      rw [g] at e
      cases e
      rw [intsOf_eq g]
      rfl
  | .non :: _, _, e => by cases e
  | .bl _ :: _, _, e => by cases e
  | .str _ :: _, _, e => by cases e
  | .tup _ :: _, _, e => by cases e
  | .lst _ :: _, _, e => by cases e
  | .ref _ :: _, _, e => by cases e
@[simp] theorem intsOf_map (ns : List Int) : intsOf (ns.map .int) = some ns := by
  induction ns with
  | nil => rfl
  | cons n ns ih => simp [intsOf, ih]
def blsOf : List PV → Option (List Bool)
  | [] => some []
  | .bl i :: xs => (blsOf xs).map (i :: ·)
  | _ :: _ => none
theorem blsOf_eq : ∀ {xs : List PV} {ns : List Bool}, blsOf xs = some ns → xs = ns.map .bl
  | [], _, e => by cases e; rfl
  | .bl i :: xs, ns, e => by
    unfold blsOf at e
    cases g : blsOf xs with
    | none => rw [g] at e; cases e
    | some ms =>
      rw [g] at e
      cases e
      rw [blsOf_eq g]
      rfl
  | .non :: _, _, e => by cases e
  | .int _ :: _, _, e => by cases e
  | .str _ :: _, _, e => by cases e
  | .tup _ :: _, _, e => by cases e
  | .lst _ :: _, _, e => by cases e
  | .ref _ :: _, _, e => by cases e
@[simp] theorem blsOf_map (ns : List Bool) : blsOf (ns.map .bl) = some ns := by
  induction ns with
  | nil => rfl
  | cons n ns ih => simp [blsOf, ih]
theorem RepL.bls {K : PySem.W.Frag} {Ex : Ad} {m : List Addr} {H : Hp} : ∀ {vs : List V} {ns : List Bool}, RepL K Ex m H vs (ns.map PV.bl) → vs = ns.map V.bl
  | _, [], .nil => rfl
  | _, n :: ns, .cons h r => by
    cases h
    rw [RepL.bls r]
    rfl
def gInts (f : List Int → (SV → Prop) → Prop) : G1 := fun h x q => match listC h x with
  | some xs => match intsOf xs with
    | some ns => f ns q
    | none => False
  | none => False
@[simp ↓] theorem gInts_eq (f : List Int → (SV → Prop) → Prop) (h : Hs) (x : SV) (q : SV → Prop) : gInts f h x q = (match listC h x with
  | some xs => match intsOf xs with
    | some ns => f ns q
    | none => False
  | none => False) := id rfl
theorem Rel.intsL {C : Ctx} {m : List Addr} {σ : St} {H : Hp} {env : Env} {h : Hs} {x : V} {sx : SV} {f : List Int → (SV → Prop) → Prop} {q : SV → Prop} (R : Rel C m σ H env h) (rx : RepA C σ env m H x sx) (hg : gInts f h sx q) : ∃ a ns, x = .ref a ∧ SqL C.K H a (ns.map V.int) ∧ f ns q := by
  unfold gInts at hg
  split at hg
  · rename_i xs e
    split at hg
    · rename_i ns e2
      obtain ⟨a, vs, rfl, h1, q1⟩ := R.list rx e
      rw [intsOf_eq e2] at q1
      exact ⟨a, ns, rfl, by rw [← q1.ints]; exact h1, hg⟩
    · exact hg.elim
  · exact hg.elim
def gSum : G1 := gInts fun ns q => q (.val (.int ns.sum))
@[simp ↓] theorem gSum_eq : gSum = (gInts fun ns q => q (.val (.int ns.sum))) := id rfl
theorem us_sum {K : PySem.W.Frag} : UnS K (fun x H Q => rSum K [x] H Q) gSum := fun C m σ H env h x sx q Q' eK R rx hg p => by
  subst eK
  obtain ⟨a, ns, rfl, h1, hq⟩ := R.intsL rx hg
  exact ⟨a, ns, rfl, h1, p.int R hq⟩
def maxI : List Int → Int
  | [] => 0
  | [n] => n
  | n :: ns => max n (maxI ns)
def minI : List Int → Int
  | [] => 0
  | [n] => n
  | n :: ns => min n (minI ns)
theorem maxI_spec : ∀ (ns : List Int), ns ≠ [] → maxI ns ∈ ns ∧ ∀ y ∈ ns, y ≤ maxI ns
  | [], h => absurd rfl h
  | [n], _ => by simp [maxI]
  | n :: k :: ns, _ => by
    obtain ⟨h1, h2⟩ := maxI_spec (k :: ns) (by simp)
    have e : maxI (n :: k :: ns) = max n (maxI (k :: ns)) := rfl
    rw [e]
    refine ⟨?_, fun y hy => ?_⟩
    · rcases Int.le_total n (maxI (k :: ns)) with l | l
      · rw [Int.max_eq_right l]
        exact List.mem_cons_of_mem _ h1
      · rw [Int.max_eq_left l]
        exact List.mem_cons_self
    · rcases List.mem_cons.mp hy with z | z
      · subst z
        exact Int.le_max_left _ _
      · exact Int.le_trans (h2 y z) (Int.le_max_right _ _)
theorem minI_spec : ∀ (ns : List Int), ns ≠ [] → minI ns ∈ ns ∧ ∀ y ∈ ns, minI ns ≤ y
  | [], h => absurd rfl h
  | [n], _ => by simp [minI]
  | n :: k :: ns, _ => by
    obtain ⟨h1, h2⟩ := minI_spec (k :: ns) (by simp)
    have e : minI (n :: k :: ns) = min n (minI (k :: ns)) := rfl
    rw [e]
    refine ⟨?_, fun y hy => ?_⟩
    · rcases Int.le_total n (minI (k :: ns)) with l | l
      · rw [Int.min_eq_left l]
        exact List.mem_cons_self
      · rw [Int.min_eq_right l]
        exact List.mem_cons_of_mem _ h1
    · rcases List.mem_cons.mp hy with z | z
      · subst z
        exact Int.min_le_left _ _
      · exact Int.le_trans (Int.min_le_right _ _) (h2 y z)
def gMaxL : G1 := gInts fun ns q => ns ≠ [] ∧ q (.val (.int (maxI ns)))
@[simp ↓] theorem gMaxL_eq : gMaxL = (gInts fun ns q => ns ≠ [] ∧ q (.val (.int (maxI ns)))) := id rfl
def gMinL : G1 := gInts fun ns q => ns ≠ [] ∧ q (.val (.int (minI ns)))
@[simp ↓] theorem gMinL_eq : gMinL = (gInts fun ns q => ns ≠ [] ∧ q (.val (.int (minI ns)))) := id rfl
theorem us_maxL {K : PySem.W.Frag} : UnS K (fun x H Q => rMax K [x] H Q) gMaxL := fun C m σ H env h x sx q Q' eK R rx hg p => by
  subst eK
  obtain ⟨a, ns, rfl, h1, hne, hq⟩ := R.intsL rx hg
  refine ⟨a, ns, rfl, h1, List.length_pos_iff.mpr hne, fun m hm hy => ?_⟩
  obtain ⟨z1, z2⟩ := maxI_spec ns hne
  have e : m = maxI ns := Int.le_antisymm (z2 m hm) (hy _ z1)
  rw [e]
  exact p.int R hq
theorem us_minL {K : PySem.W.Frag} : UnS K (fun x H Q => rMin K [x] H Q) gMinL := fun C m σ H env h x sx q Q' eK R rx hg p => by
  subst eK
  obtain ⟨a, ns, rfl, h1, hne, hq⟩ := R.intsL rx hg
  refine ⟨a, ns, rfl, h1, List.length_pos_iff.mpr hne, fun m hm hy => ?_⟩
  obtain ⟨z1, z2⟩ := minI_spec ns hne
  have e : m = minI ns := Int.le_antisymm (hy _ z1) (z2 m hm)
  rw [e]
  exact p.int R hq
/-- max, min: of two ints, of a list of ints -/
def gMax : GL := fun h svs q => match svs with
  | [x] => gMaxL h x q
  | [.val (.int i), .val (.int j)] => q (.val (.int (max i j)))
  | _ => False
@[simp ↓] theorem gMax_eq  (h : Hs) (svs : List SV) (q : SV → Prop) : gMax  h svs q = (match svs with
  | [x] => gMaxL h x q
  | [.val (.int i), .val (.int j)] => q (.val (.int (max i j)))
  | _ => False) := id rfl
def gMin : GL := fun h svs q => match svs with
  | [x] => gMinL h x q
  | [.val (.int i), .val (.int j)] => q (.val (.int (min i j)))
  | _ => False
@[simp ↓] theorem gMin_eq  (h : Hs) (svs : List SV) (q : SV → Prop) : gMin  h svs q = (match svs with
  | [x] => gMinL h x q
  | [.val (.int i), .val (.int j)] => q (.val (.int (min i j)))
  | _ => False) := id rfl
def rMaxA (K : PySem.W.Frag) : List V → Hp → VK → Prop := fun xs H Q => rMax K xs H Q ∨ ∃ i j, xs = [.int i, .int j] ∧ Q (.int (if j > i then j else i)) H
def rMinA (K : PySem.W.Frag) : List V → Hp → VK → Prop := fun xs H Q => rMin K xs H Q ∨ ∃ i j, xs = [.int i, .int j] ∧ Q (.int (if j < i then j else i)) H
theorem cr_maxA {X : Cx} (hc : X.calm = true) : CallR X (.builtin "max") (rMaxA X.K) := (cr_max hc).or (call_max2 hc)
theorem cr_minA {X : Cx} (hc : X.calm = true) : CallR X (.builtin "min") (rMinA X.K) := (cr_min hc).or (call_min2 hc)
theorem cs_max {K : PySem.W.Frag} : CallS K (rMaxA K) gMax := fun C m σ H env h vs svs q Q' eK R rs hg p => by
  unfold gMax at hg
  split at hg
  · cases rs with
    | cons r1 rs =>
      cases rs
      exact .inl (us_maxL C m σ H env h _ _ q Q' eK R r1 hg p)
  · cases rs with
    | cons r1 rs => cases rs with
      | cons r2 rs =>
        cases rs
        cases r1
        cases r2
        rename_i i j
        refine .inr ⟨i, j, rfl, ?_⟩
        have e : (if j > i then j else i) = max i j := by
          split <;> omega
        rw [e]
        exact p.int R hg
  · exact hg.elim
theorem cs_min {K : PySem.W.Frag} : CallS K (rMinA K) gMin := fun C m σ H env h vs svs q Q' eK R rs hg p => by
  unfold gMin at hg
  split at hg
  · cases rs with
    | cons r1 rs =>
      cases rs
      exact .inl (us_minL C m σ H env h _ _ q Q' eK R r1 hg p)
  · cases rs with
    | cons r1 rs => cases rs with
      | cons r2 rs =>
        cases rs
        cases r1
        cases r2
        rename_i i j
        refine .inr ⟨i, j, rfl, ?_⟩
        have e : (if j < i then j else i) = min i j := by
          split <;> omega
        rw [e]
        exact p.int R hg
  · exact hg.elim
def gBls (f : List Bool → Bool) : G1 := fun h x q => match listC h x with
  | some xs => match blsOf xs with
    | some ns => q (.val (.bl (f ns)))
    | none => False
  | none => False
@[simp ↓] theorem gBls_eq (f : List Bool → Bool) (h : Hs) (x : SV) (q : SV → Prop) : gBls f h x q = (match listC h x with
  | some xs => match blsOf xs with
    | some ns => q (.val (.bl (f ns)))
    | none => False
  | none => False) := id rfl
theorem us_any {K : PySem.W.Frag} : UnS K (fun x H Q => rAny K [x] H Q) (gBls fun bs => bs.any id) := fun C m σ H env h x sx q Q' eK R rx hg p => by
  subst eK
  unfold gBls at hg
  split at hg
  · rename_i xs e
    split at hg
    · rename_i ns e2
      obtain ⟨a, vs, rfl, h1, q1⟩ := R.list rx e
      rw [blsOf_eq e2] at q1
      exact ⟨a, ns, rfl, by rw [← q1.bls]; exact h1, p.bl R hg⟩
    · exact hg.elim
  · exact hg.elim
theorem us_all {K : PySem.W.Frag} : UnS K (fun x H Q => rAll K [x] H Q) (gBls fun bs => bs.all id) := fun C m σ H env h x sx q Q' eK R rx hg p => by
  subst eK
  unfold gBls at hg
  split at hg
  · rename_i xs e
    split at hg
    · rename_i ns e2
      obtain ⟨a, vs, rfl, h1, q1⟩ := R.list rx e
      rw [blsOf_eq e2] at q1
      exact ⟨a, ns, rfl, by rw [← q1.bls]; exact h1, p.bl R hg⟩
    · exact hg.elim
  · exact hg.elim
def gAny : G1 := gBls fun bs => bs.any id
@[simp ↓] theorem gAny_eq : gAny = (gBls fun bs => bs.any id) := id rfl
def gAll : G1 := gBls fun bs => bs.all id
@[simp ↓] theorem gAll_eq : gAll = (gBls fun bs => bs.all id) := id rfl
/-- list(xs), tuple(xs) -/
def gList : G1 := fun h x q => ∃ xs, seqC h x = some xs ∧ q (.own xs)
@[simp ↓] theorem gList_eq  (h : Hs) (x : SV) (q : SV → Prop) : gList  h x q = (∃ xs, seqC h x = some xs ∧ q (.own xs)) := id rfl
theorem us_list {K : PySem.W.Frag} : UnS K (fun x H Q => ∃ p ys, [x] = [V.ref p] ∧ (SqL K H p ys ∨ SqT K H p ys) ∧ ∀ l, H l = none → Q (.ref l) (upd H l (.lst ys))) gList := fun C m σ H env h x sx q Q' eK R rx ⟨xs, e, hq⟩ p => by
  subst eK
  obtain ⟨a, vs, rfl, h1, q1⟩ := R.seq rx e
  exact ⟨a, vs, rfl, h1, fun l n => p.newL R q1 hq n⟩
def gTuple : G1 := fun h x q => ∃ xs, seqC h x = some xs ∧ q (.val (.tup xs))
@[simp ↓] theorem gTuple_eq  (h : Hs) (x : SV) (q : SV → Prop) : gTuple  h x q = (∃ xs, seqC h x = some xs ∧ q (.val (.tup xs))) := id rfl
theorem us_tuple {K : PySem.W.Frag} : UnS K (fun x H Q => ∃ p ys, [x] = [V.ref p] ∧ ((SqL K H p ys ∧ ∀ l, H l = none → Q (.ref l) (upd H l (.tup ys))) ∨ (SqT K H p ys ∧ Q (.ref p) H))) gTuple := fun C m σ H env h x sx q Q' eK R rx ⟨xs, e, hq⟩ p => by
  subst eK
  by_cases t : sx.isT = true
  · cases sx with
    | val pv => cases pv with
      | tup ys =>
        cases e
        cases rx with
        | tup ha qa => exact ⟨_, _, rfl, .inr ⟨ha.sq, p.at R (.tup ha qa) hq⟩⟩
      | _ => cases t
    | _ => cases t
  · obtain ⟨a, vs, rfl, h1, q1⟩ := R.seqL rx e (notT (by simpa using t))
    exact ⟨a, vs, rfl, .inl ⟨h1, fun l n => p.newT R q1 hq n⟩⟩
def gOrd : G1 := fun _ x q => match x with
  | .val (.str z) => z.length = 1 ∧ q (.val (.int (z.cps.getD 0 0 : Nat)))
  | _ => False
@[simp ↓] theorem gOrd_eq  (u0 : Hs) (x : SV) (q : SV → Prop) : gOrd  u0 x q = (match x with
  | .val (.str z) => z.length = 1 ∧ q (.val (.int (z.cps.getD 0 0 : Nat)))
  | _ => False) := id rfl
theorem us_ord {K : PySem.W.Frag} : UnS K (fun x H Q => ∃ z, [x] = [V.str z] ∧ z.length = 1 ∧ Q (.int (z.cps.getD 0 0 : Nat)) H) gOrd := fun C m σ H env h x sx q Q' eK R rx hg p => by
  subst eK
  unfold gOrd at hg
  split at hg
  · cases rx
    exact ⟨_, rfl, hg.1, p.int R hg.2⟩
  · exact hg.elim
/-- isinstance of a value and a built-in type -/
inductive Kd where
  | non | bl | int | str | tup | lst | dict
  deriving DecidableEq
def Kd.name : Kd → String
  | .non => "NoneType" | .bl => "bool" | .int => "int" | .str => "str" | .tup => "tuple" | .lst => "list" | .dict => "dict"
@[simp] def Kd.is (k t : Kd) : Bool := decide (k = t) || (decide (k = .bl) && decide (t = .int))
theorem kd_ok (k t : Kd) (ht : t ≠ .non) : kitB k.name t.name = some (k.is t) := by
  cases k <;> cases t <;> first | exact absurd rfl ht | decide +kernel
def SV.kd (h : Hs) : SV → Option Kd
  | .val .non => some .non
  | .val (.bl _) => some .bl
  | .val (.int _) => some .int
  | .val (.str _) => some .str
  | .val (.tup _) => some .tup
  | .val (.lst _) => some .lst
  | .val (.ref n) => match h[n]? with
    | some (.lst _) => some .lst
    | some (.dK _) => some .dict
    | some (.dT _) => some .dict
    | _ => none
  | .own _ => some .lst
  | .brw _ => some .lst
  | .scr _ => none
def dIsi (t : Kd) (a : DE) : DE := fun env h Q E => a env h (fun x h1 => match x.kd h1 with
  | some k => t ≠ .non ∧ Q (.val (.bl (k.is t))) h1
  | none => False) E
@[simp ↓] theorem dIsi_eq (t : Kd) (a : DE) (env : Env) (h : Hs) (Q : VQ) (E : XQ) : dIsi t a env h Q E = (a env h (fun x h1 => match x.kd h1 with
  | some k => t ≠ .non ∧ Q (.val (.bl (k.is t))) h1
  | none => False) E) := id rfl
theorem tyx_rdL {K : PySem.W.Frag} {H : Hp} {a : Addr} {vs : List V} (h : Rd H a (.lst vs)) : TyX K H (.ref a) (.type "list") := by
  rcases h with h | ⟨o, h⟩
  · exact .base (.lst h)
  · exact .base (.frz h)
theorem Rel.tyx {C : Ctx} {m : List Addr} {σ : St} {H : Hp} {env : Env} {h : Hs} {x : V} {sx : SV} {k : Kd} (R : Rel C m σ H env h) (rx : RepA C σ env m H x sx) (e : sx.kd h = some k) : TyX C.K H x (.type k.name) := by
  cases sx with
  | own xs =>
    obtain ⟨a, vs, rfl, ha, _⟩ := rx
    cases e
    exact .base (.lst ha)
  | brw xs =>
    obtain ⟨a, vs, rfl, ha, _⟩ := rx
    cases e
    exact tyx_rdL ha.1
  | scr ns => cases e
  | val p =>
    cases p with
    | non => cases e; cases rx; exact .base .non
    | bl b => cases e; cases rx; exact .base (.bl _)
    | int i => cases e; cases rx; exact .base (.int _)
    | str z => cases e; cases rx; exact .base (.str _)
    | tup xs =>
      cases e
      cases rx with
      | tup ha _ =>
        rcases ha with ⟨z, _⟩ | ⟨o, its, n, hk, hc, _⟩
        · rcases z with z | ⟨o, z⟩
          · exact .base (.tup z)
          · exact .fTuple z
        · exact .kTuple hk hc
    | lst xs =>
      cases e
      cases rx with
      | lst ha _ => exact tyx_rdL ha.1
    | ref n =>
      cases rx with
      | ref hn =>
        have e' : (match h[n]? with | some (.lst _) => some Kd.lst | some (.dK _) => some Kd.dict | some (.dT _) => some Kd.dict | _ => none) = some k := e
        split at e'
        · rename_i hc
          cases e'
          obtain ⟨vs, q1, _⟩ := R.cell hn hc
          exact .base (.lst q1)
        · rename_i hc
          cases e'
          obtain ⟨vs, q1, _⟩ := R.cell hn hc
          exact .base (.dK q1)
        · rename_i hc
          cases e'
          obtain ⟨vs, q1, _⟩ := R.cell hn hc
          exact .base (.dT q1)
        · cases e'
theorem se_isi {K : PySem.W.Frag} {W : WX} {ta : TE} {fa : DE} {t : Kd} (ha : SE K W ta fa) : SE K W (tCB (rIsi K) (tCons ta (tCons (tC (.ty t.name)) tNil))) (dIsi t fa) := ⟨fun C m σ H env h Q E Q' eK R hf p px => by
  refine ha.run C m σ H env h _ E _ eK R hf (fun m1 x H1 sx h1 S1 R1 r1 q1 => ?_) px
  split at q1
  · rename_i k e
    subst eK
    exact ⟨x, .ty t.name, .type k.name, .type t.name, k.is t, rfl, .ty _, R1.drop.tyx (r1.less rfl (fun _ q => q) fun _ _ => trivial) e, kit_ty (kd_ok k t q1.1), p m1 _ H1 (.val (.bl _)) h1 S1 R1.drop (.bl _) q1.2⟩
  · exact q1.elim⟩

/-! ### lists of one's own and cells change -/
section
variable {K : PySem.W.Frag} {W : WX}
theorem CellR.lstC {C : Ctx} {m : List Addr} {σ : St} {env : Env} {H : Hp} {h : Hs} {n : Nat} {a : Addr} {vs : List V} {ys : List PV} (R : Rel C m σ H env h) (e0 : m[n]? = some a) (r : RepL C.K (ExOf C σ env m) m H vs ys) : CellR C.K (ExOf C σ env m) m (upd H a (.lst vs)) a (.lst ys) := by
  have am : a ∈ m := List.mem_of_getElem? e0
  refine ⟨vs, upd_same, RepL.mono (fun b u e q => ⟨by rw [upd_ne fun z => q (by rw [z]; exact .inr (.inr am))]; exact e, q⟩) ⟨[], by simp⟩ r⟩
theorem Rel.owned {C : Ctx} {m : List Addr} {σ : St} {env : Env} {H : Hp} {h : Hs} {i : Nat} {xs : List PV} (R : Rel C m σ H env h) (e0 : env[i]? = some (some (.own xs))) : ∃ a vs, σ[i]? = some (some (.ref a)) ∧ H a = some (.lst vs) ∧ RepL C.K (ExOf C σ env m) m H vs xs := by
  obtain ⟨v0, s0, ⟨a, vs, rfl, ha, h0, nm, q0⟩, _⟩ := R.slot i _ e0
  exact ⟨a, vs, s0, ha, RepL.mono (Kp.le fun b q => .inl q) ⟨[], by simp⟩ q0⟩
theorem Rel.cellAt {C : Ctx} {m : List Addr} {σ : St} {env : Env} {H : Hp} {h : Hs} {n : Nat} {v : V} {c : Cell} {Ex : Ad} (R : Rel C m σ H env h) (r : Rep C.K Ex m H v (.ref n)) (e : h[n]? = some c) : ∃ a, v = .ref a ∧ m[n]? = some a ∧ CellR C.K (ExOf C σ env m) m H a c := by
  cases r with
  | ref hn => exact ⟨_, rfl, hn, R.hm.at_ n _ c hn e⟩
/-- x.append(e), x a name that holds a list of its own -/
def sAppV (i : Nat) (e : DE) : DS := fun D env h => match env[i]? with
  | some (some (.own xs)) => e env h (fun y h1 => match y.toVal with
      | some p => xs.length < sizeLine ∧ D.nx (env.set i (some (.own (xs ++ [p])))) h1
      | none => False) fun c h1 => D.ex c env h1
  | _ => False
@[simp ↓] theorem sAppV_eq (i : Nat) (e : DE) (D : DEnds) (env : Env) (h : Hs) : sAppV i e D env h = (match env[i]? with
  | some (some (.own xs)) => e env h (fun y h1 => match y.toVal with
      | some p => xs.length < sizeLine ∧ D.nx (env.set i (some (.own (xs ++ [p])))) h1
      | none => False) fun c h1 => D.ex c env h1
  | _ => False) := id rfl
theorem ss_appV {te : TE} {fe : DE} (i : Nat) (he : SE K W te fe) : SS K W (tDrop (tBM K "list" rAppend (tVar i) (tCons te tNil))) (sAppV i fe) := ⟨fun C m σ H env h Df D eK R hf p => by
  unfold sAppV at hf
  split at hf
  · rename_i xs e0
    obtain ⟨a, vs, s0, ha, _⟩ := R.owned e0
    refine ⟨_, s0, .inl ⟨rfl, vs, .inl (.inl ha)⟩, ?_⟩
    refine he.run C m σ H env h _ _ _ eK R hf (fun m1 y H1 sy h1 S1 R1 r1 q1 => ?_) p.px
    split at q1
    · rename_i pv ep
      obtain ⟨l, q1⟩ := q1
      obtain ⟨a1, vs1, s1, ha1, q3⟩ := R1.drop.owned e0
      rw [s0] at s1
      cases s1
      have ry := R.toVal r1 ep
      refine ⟨a, vs1, y, rfl, rfl, ha1, by rw [q3.length]; exact l, ?_⟩
      exact p.nx m1 σ _ _ h1 (R1.drop.mutOwn e0 s0 (q3.append (.cons ry .nil))) q1
    · exact q1.elim
  · exact hf.elim⟩
/-- o.append(e), o a cell -/
def sAppE (o e : DE) : DS := fun D env h => o env h (fun x h1 => match x with
  | .val (.ref n) => (∃ ys, h1[n]? = some (.lst ys)) ∧ e env h1 (fun y h2 => match y.toVal with
      | some p => ∃ xs, h2[n]? = some (.lst xs) ∧ xs.length < sizeLine ∧ D.nx env (h2.set n (.lst (xs ++ [p])))
      | none => False) fun c h2 => D.ex c env h2
  | _ => False) fun c h1 => D.ex c env h1
@[simp ↓] theorem sAppE_eq (o e : DE) (D : DEnds) (env : Env) (h : Hs) : sAppE o e D env h = (o env h (fun x h1 => match x with
  | .val (.ref n) => (∃ ys, h1[n]? = some (.lst ys)) ∧ e env h1 (fun y h2 => match y.toVal with
      | some p => ∃ xs, h2[n]? = some (.lst xs) ∧ xs.length < sizeLine ∧ D.nx env (h2.set n (.lst (xs ++ [p])))
      | none => False) fun c h2 => D.ex c env h2
  | _ => False) fun c h1 => D.ex c env h1) := id rfl
theorem ss_appE {to te : TE} {fo fe : DE} (ho : SE K W to fo) (he : SE K W te fe) : SS K W (tDrop (tBM K "list" rAppend to (tCons te tNil))) (sAppE fo fe) := ⟨fun C m σ H env h Df D eK R hf p => by
  refine ho.run C m σ H env h _ _ _ eK R hf (fun m1 x H1 sx h1 S1 R1 r1 q1 => ?_) p.px
  split at q1
  · rename_i n
    obtain ⟨⟨ys, e0⟩, q1⟩ := q1
    obtain ⟨a, rfl, ea, vs, hv, _⟩ := R1.cellAt r1 e0
    refine ⟨.inl ⟨rfl, vs, .inl (.inl hv)⟩, ?_⟩
    refine he.run C m1 σ H1 env h1 _ _ _ eK R1 q1 (fun m2 y H2 sy h2 S2 R2 r2 q2 => ?_) p.px
    split at q2
    · rename_i pv ep
      obtain ⟨xs, e2, l, q2⟩ := q2
      have ea2 : m2[n]? = some a := by
        obtain ⟨ms, rfl, _⟩ := S2.ext
        rw [List.getElem?_append_left (List.getElem?_eq_some_iff.mp ea).1]
        exact ea
      obtain ⟨vs2, hv2, rl⟩ := R2.drop.hm.at_ n a _ ea2 e2
      have ry := R1.toVal r2 ep
      obtain ⟨_, R3⟩ := R2.drop.mutCell ea2 (List.getElem?_eq_some_iff.mp e2).1 (CellR.lstC R2.drop ea2 (rl.append (.cons ry .nil)))
      exact ⟨a, vs2, y, rfl, rfl, hv2, by rw [rl.length]; exact l, p.nx m2 σ _ env _ R3 q2⟩
    · exact q2.elim
  · exact q1.elim⟩
/-- x[i] = e, x a name that holds a list of its own -/
def sSetV (k : Nat) (i e : DE) : DS := fun D env h => e env h (fun y h1 => match y.toVal with
  | some p => match env[k]? with
    | some (some (.own xs)) => i env h1 (fun j h2 => match j with
        | .val (.int z) => ∃ n, ixN xs.length z = some n ∧ D.nx (env.set k (some (.own (xs.set n p)))) h2
        | _ => False) fun c h2 => D.ex c env h2
    | _ => False
  | none => False) fun c h1 => D.ex c env h1
@[simp ↓] theorem sSetV_eq (k : Nat) (i e : DE) (D : DEnds) (env : Env) (h : Hs) : sSetV k i e D env h = (e env h (fun y h1 => match y.toVal with
  | some p => match env[k]? with
    | some (some (.own xs)) => i env h1 (fun j h2 => match j with
        | .val (.int z) => ∃ n, ixN xs.length z = some n ∧ D.nx (env.set k (some (.own (xs.set n p)))) h2
        | _ => False) fun c h2 => D.ex c env h2
    | _ => False
  | none => False) fun c h1 => D.ex c env h1) := id rfl
theorem ss_setV {ti te : TE} {fi fe : DE} (k : Nat) (hi : SE K W ti fi) (he : SE K W te fe) : SS K W (tAsg te (L2.gSub (tVar k) ti rSetL)) (sSetV k fi fe) := ⟨fun C m σ H env h Df D eK R hf p => by
  refine he.run C m σ H env h _ _ _ eK R hf (fun m1 y H1 sy h1 S1 R1 r1 q1 => ?_) p.px
  split at q1
  · rename_i pv ep
    split at q1
    · rename_i xs e0
      obtain ⟨a, vs, s0, ha, _⟩ := R1.drop.owned e0
      have ry := R.toVal r1 ep
      refine ⟨_, s0, ?_⟩
      refine hi.run C m1 σ H1 env h1 _ _ _ eK R1.drop q1 (fun m2 j H2 sj h2 S2 R2 r2 q2 => ?_) p.px
      split at q2
      · obtain ⟨n, en, q2⟩ := q2
        cases r2
        obtain ⟨a2, vs2, s2, ha2, rl⟩ := R2.drop.owned e0
        rw [s0] at s2
        cases s2
        have ry2 : Rep C.K (ExOf C σ env m2) m2 H2 y pv := Rep.mono (R1.drop.kp S2) S2.ex' ry
        refine ⟨a, vs2, _, n, rfl, rfl, ha2, by rw [rl.length]; exact en, ?_⟩
        exact p.nx m2 σ _ _ h2 (R2.drop.mutOwn e0 s0 (rl.set n ry2)) q2
      · exact q2.elim
    · exact q1.elim
  · exact q1.elim⟩
/-- o[i] = e, o a cell -/
def sSetE (o i e : DE) : DS := fun D env h => e env h (fun y h1 => match y.toVal with
  | some p => o env h1 (fun x h2 => match x with
      | .val (.ref n) => i env h2 (fun j h3 => match j with
          | .val (.int z) => ∃ xs k, h3[n]? = some (.lst xs) ∧ ixN xs.length z = some k ∧ D.nx env (h3.set n (.lst (xs.set k p)))
          | _ => False) fun c h3 => D.ex c env h3
      | _ => False) fun c h2 => D.ex c env h2
  | none => False) fun c h1 => D.ex c env h1
@[simp ↓] theorem sSetE_eq (o i e : DE) (D : DEnds) (env : Env) (h : Hs) : sSetE o i e D env h = (e env h (fun y h1 => match y.toVal with
  | some p => o env h1 (fun x h2 => match x with
      | .val (.ref n) => i env h2 (fun j h3 => match j with
          | .val (.int z) => ∃ xs k, h3[n]? = some (.lst xs) ∧ ixN xs.length z = some k ∧ D.nx env (h3.set n (.lst (xs.set k p)))
          | _ => False) fun c h3 => D.ex c env h3
      | _ => False) fun c h2 => D.ex c env h2
  | none => False) fun c h1 => D.ex c env h1) := id rfl
theorem ss_setE {to ti te : TE} {fo fi fe : DE} (ho : SE K W to fo) (hi : SE K W ti fi) (he : SE K W te fe) : SS K W (tAsg te (L2.gSub to ti rSetL)) (sSetE fo fi fe) := ⟨fun C m σ H env h Df D eK R hf p => by
  refine he.run C m σ H env h _ _ _ eK R hf (fun m1 y H1 sy h1 S1 R1 r1 q1 => ?_) p.px
  split at q1
  · rename_i pv ep
    have ry := R.toVal r1 ep
    refine ho.run C m1 σ H1 env h1 _ _ _ eK R1.drop q1 (fun m2 x H2 sx h2 S2 R2 r2 q2 => ?_) p.px
    split at q2
    · rename_i n
      refine hi.run C m2 σ H2 env h2 _ _ _ eK R2 q2 (fun m3 j H3 sj h3 S3 R3 r3 q3 => ?_) p.px
      split at q3
      · obtain ⟨xs, k, e3, ek, q3⟩ := q3
        cases r3
        have rx : Rep C.K (ExOf C σ env m3) m3 H3 x (.ref n) := Rep.mono (R2.kp S3) S3.ex' r2
        obtain ⟨a, rfl, ea, vs, hv, rl⟩ := R3.cellAt rx e3
        have ry3 : Rep C.K (ExOf C σ env m3) m3 H3 y pv := Rep.mono (R1.drop.kp (S2.trans S3)) (S2.trans S3).ex' ry
        obtain ⟨_, R4⟩ := R3.mutCell ea (List.getElem?_eq_some_iff.mp e3).1 (CellR.lstC R3 ea (rl.set k ry3))
        exact ⟨a, vs, _, k, rfl, rfl, hv, by rw [rl.length]; exact ek, p.nx m3 σ _ env _ R4 q3⟩
      · exact q3.elim
    · exact q2.elim
  · exact q1.elim⟩
/-- a new list goes into a cell -/
def dAlloc (a : DE) : DE := fun env h Q E => a env h (fun x h1 => match x with
  | .own xs => Q (.val (.ref h1.length)) (h1 ++ [.lst xs])
  | _ => False) E
@[simp ↓] theorem dAlloc_eq (a : DE) (env : Env) (h : Hs) (Q : VQ) (E : XQ) : dAlloc a env h Q E = (a env h (fun x h1 => match x with
  | .own xs => Q (.val (.ref h1.length)) (h1 ++ [.lst xs])
  | _ => False) E) := id rfl
theorem se_alloc {ta : TE} {fa : DE} (ha : SE K W ta fa) : SE K W ta (dAlloc fa) := ⟨fun C m σ H env h Q E Q' eK R hf p px => by
  refine ha.run C m σ H env h _ E _ eK R hf (fun m1 x H1 sx h1 S1 R1 r1 q1 => ?_) px
  split at q1
  · rename_i xs
    obtain ⟨a, vs, rfl, hv, na, nm, q⟩ := r1
    have n0 : C.H0 a = none := by
      cases e : C.H0 a with
      | none => rfl
      | some o => exact absurd na (R.dom a (by rw [e]; simp))
    have R2 := R1.alloc hv nm n0 (fun g => R.gdom a g na) q
    refine p (m1 ++ [a]) _ H1 (.val (.ref h1.length)) _ ⟨S1.keep, S1.dom, ?_⟩ R2 (.ref ?_) q1
    · obtain ⟨ms, rfl, hn⟩ := S1.ext
      refine ⟨ms ++ [a], by simp, fun b hb => ?_⟩
      rcases List.mem_append.mp hb with z | z
      · exact hn b z
      · rw [List.mem_singleton.mp z]
        exact na
    · rw [← R1.hm.len]
      simp
  · exact q1.elim⟩
/-- a new list becomes a value -/
def dFrz (a : DE) : DE := fun env h Q E => a env h (fun x h1 => match x.toVal with
  | some p => Q (.val p) h1
  | none => False) E
@[simp ↓] theorem dFrz_eq (a : DE) (env : Env) (h : Hs) (Q : VQ) (E : XQ) : dFrz a env h Q E = (a env h (fun x h1 => match x.toVal with
  | some p => Q (.val p) h1
  | none => False) E) := id rfl
theorem se_frz {ta : TE} {fa : DE} (ha : SE K W ta fa) : SE K W ta (dFrz fa) := ⟨fun C m σ H env h Q E Q' eK R hf p px => by
  refine ha.run C m σ H env h _ E _ eK R hf (fun m1 x H1 sx h1 S1 R1 r1 q1 => ?_) px
  split at q1
  · rename_i pv ep
    exact p m1 x H1 (.val pv) h1 S1 R1.drop (R.toVal r1 ep) q1
  · exact q1.elim⟩
end
section
variable (h : Hs) (b : Bool) (i : Int) (z : Str) (xs : List PV) (ns : List Int) (n : Nat)
@[simp] theorem kd_non : (SV.val .non).kd h = some .non := rfl
@[simp] theorem kd_bl : (SV.val (.bl b)).kd h = some .bl := rfl
@[simp] theorem kd_int : (SV.val (.int i)).kd h = some .int := rfl
@[simp] theorem kd_str : (SV.val (.str z)).kd h = some .str := rfl
@[simp] theorem kd_tup : (SV.val (.tup xs)).kd h = some .tup := rfl
@[simp] theorem kd_lst : (SV.val (.lst xs)).kd h = some .lst := rfl
@[simp] theorem kd_own : (SV.own xs).kd h = some .lst := rfl
@[simp] theorem kd_brw : (SV.brw xs).kd h = some .lst := rfl
@[simp] theorem tru_non : (SV.val .non).tru h = some false := rfl
@[simp] theorem tru_bl : (SV.val (.bl b)).tru h = some b := rfl
@[simp] theorem tru_int : (SV.val (.int i)).tru h = some (i != 0) := rfl
@[simp] theorem tru_tup : (SV.val (.tup xs)).tru h = some (!xs.isEmpty) := rfl
@[simp] theorem tru_lst : (SV.val (.lst xs)).tru h = some (!xs.isEmpty) := rfl
@[simp] theorem tru_own : (SV.own xs).tru h = some (!xs.isEmpty) := rfl
@[simp] theorem tru_brw : (SV.brw xs).tru h = some (!xs.isEmpty) := rfl
@[simp] theorem listC_lst : listC h (.val (.lst xs)) = some xs := rfl
@[simp] theorem listC_own : listC h (.own xs) = some xs := rfl
@[simp] theorem listC_brw : listC h (.brw xs) = some xs := rfl
@[simp] theorem listC_tup : listC h (.val (.tup xs)) = none := rfl
@[simp] theorem listC_int : listC h (.val (.int i)) = none := rfl
theorem listC_ref {c : List PV} (e : h[n]? = some (.lst c)) : listC h (.val (.ref n)) = some c := by simp [listC, e]
@[simp] theorem seqC_lst : seqC h (.val (.lst xs)) = some xs := rfl
@[simp] theorem seqC_own : seqC h (.own xs) = some xs := rfl
@[simp] theorem seqC_brw : seqC h (.brw xs) = some xs := rfl
@[simp] theorem seqC_tup : seqC h (.val (.tup xs)) = some xs := rfl
@[simp] theorem seqC_scr : seqC h (.scr ns) = some (ns.map .int) := rfl
theorem seqC_ref {c : List PV} (e : h[n]? = some (.lst c)) : seqC h (.val (.ref n)) = some c := by simp [seqC, listC, e]
@[simp] theorem pv_non : (SV.val .non).pv h = some .non := rfl
@[simp] theorem pv_bl : (SV.val (.bl b)).pv h = some (.bl b) := rfl
@[simp] theorem pv_int : (SV.val (.int i)).pv h = some (.int i) := rfl
@[simp] theorem pv_str : (SV.val (.str z)).pv h = some (.str z) := rfl
@[simp] theorem pv_tup : (SV.val (.tup xs)).pv h = some (.tup xs) := rfl
@[simp] theorem pv_lst : (SV.val (.lst xs)).pv h = some (.lst xs) := rfl
@[simp] theorem pv_own : (SV.own xs).pv h = some (.lst xs) := rfl
@[simp] theorem pv_brw : (SV.brw xs).pv h = some (.lst xs) := rfl
end
end PM

namespace PM
open PySem PySem.Spec L2
open PyProof.Rows hiding St

/-! ### a piece of syntax and its denotation -/
section
variable (K : PySem.W.Frag) (W : WX)
def tE (f : DE) : TE := fun σ H Q' => ∃ (C : Ctx) (m : List Addr) (env : Env) (h : Hs) (Q : VQ) (E : XQ), C.K = K ∧ Rel C m σ H env h ∧ f env h Q E ∧ PostE C m σ H env Q Q' ∧ PostX W C m σ H env E
def tT (f : DT) : TT := fun σ H Q' => ∃ (C : Ctx) (m : List Addr) (env : Env) (h : Hs) (Q : Bool → Hs → Prop) (E : XQ), C.K = K ∧ Rel C m σ H env h ∧ f env h Q E ∧ (∀ m' b H' h', StE m H m' H' → Rel C m' σ H' env h' → Q b h' → Q' b H') ∧ PostX W C m σ H env E
def tA (f : DA) : TA := fun σ H Q' => ∃ (C : Ctx) (m : List Addr) (env : Env) (h : Hs) (Q : List SV → Hs → Prop) (E : XQ), C.K = K ∧ Rel C m σ H env h ∧ f env h Q E ∧
  (∀ m' vs H' svs h', StE m H m' H' → Rel (C.owns vs svs) m' σ H' env h' → Paired (RepS C (ExOf C σ env m') m' (fun a => H a = none) H') vs svs → Q svs h' → Q' vs H') ∧ PostX W C m σ H env E
def tI (f : DI) : TI := fun σ H Q' => ∃ (C : Ctx) (m : List Addr) (env : Env) (h : Hs) (Q : List PV → (Hs → Prop) → Hs → Prop) (E : XQ), C.K = K ∧ Rel C m σ H env h ∧ f env h Q E ∧
  (∀ C' m' J H' xs chk h', CtxLe C C' → StE m H m' H' → Rel C' m' σ H' env h' → ItOk C' J xs chk → Q xs chk h' → Q' J H') ∧ PostX W C m σ H env E
def tK (f : DE) : TE := fun σ H Q' => ∃ (C : Ctx) (m : List Addr) (env : Env) (h : Hs) (Q : VQ) (E : XQ), C.K = K ∧ Rel C m σ H env h ∧ f env h Q E ∧
  (∀ C' m' v H' sv h', CtxLe C C' → StE m H m' H' → Rel C' m' σ H' env h' → (v, sv) ∈ C'.pins → Q sv h' → Q' v H') ∧ PostX W C m σ H env E
def tO (f : DO) : TO := fun σ H Q' => ∃ (C : Ctx) (m : List Addr) (env : Env) (h : Hs) (Q : Option Int → Hs → Prop) (E : XQ), C.K = K ∧ Rel C m σ H env h ∧ f env h Q E ∧ (∀ m' o H' h', StE m H m' H' → Rel C m' σ H' env h' → Q o h' → Q' o H') ∧ PostX W C m σ H env E
def tS (f : DS) : TS := fun D σ H => ∃ (C : Ctx) (m : List Addr) (env : Env) (h : Hs) (Df : DEnds), C.K = K ∧ Rel C m σ H env h ∧ f Df env h ∧ EndsOk W C Df D
end
section
variable {K : PySem.W.Frag} {W : WX}
theorem seE {f : DE} : SE K W (tE K W f) f := ⟨fun C m σ H env h Q E Q' eK R hf p px => ⟨C, m, env, h, Q, E, eK, R, hf, p, px⟩⟩
theorem stT {f : DT} : ST K W (tT K W f) f := ⟨fun C m σ H env h Q E Q' eK R hf p px => ⟨C, m, env, h, Q, E, eK, R, hf, p, px⟩⟩
theorem saA {f : DA} : SA K W (tA K W f) f := ⟨fun C m σ H env h Q E Q' eK R hf p px => ⟨C, m, env, h, Q, E, eK, R, hf, p, px⟩⟩
theorem siI {f : DI} : SI K W (tI K W f) f := ⟨fun C m σ H env h Q E Q' eK R hf p px => ⟨C, m, env, h, Q, E, eK, R, hf, p, px⟩⟩
theorem skK {f : DE} : SKp K W (tK K W f) f := ⟨fun C m σ H env h Q E Q' eK R hf p px => ⟨C, m, env, h, Q, E, eK, R, hf, p, px⟩⟩
theorem soO {f : DO} : SO K W (tO K W f) f := ⟨fun C m σ H env h Q E Q' eK R hf p px => ⟨C, m, env, h, Q, E, eK, R, hf, p, px⟩⟩
theorem ssS {f : DS} : SS K W (tS K W f) f := ⟨fun C m σ H env h Df D eK R hf p => ⟨C, m, env, h, Df, eK, R, hf, p⟩⟩
end
section
variable (X : Cx) (W : WX)
def PEd (e : Expr) (f : DE) : Prop := PE X e (tE X.K W f)
def PTd (e : Expr) (f : DT) : Prop := PT X e (tT X.K W f)
def PWd (e : Expr) (f : DT) : Prop := PW X e (tT X.K W f)
def PTsd (es : List Expr) (f : DT) : Prop := PTs X es (tT X.K W f)
def PAd (es : List Expr) (f : DA) : Prop := PA X es (tA X.K W f)
def PId (tg e : Expr) (f : DI) : Prop := PI X tg e (tI X.K W f)
def PKd (e : Expr) (f : DE) : Prop := PE X e (tK X.K W f)
def POd (e : Option Expr) (f : DO) : Prop := PO X e (tO X.K W f)
def PSd (s : Stmt) (f : DS) : Prop := PS X s (tS X.K W f)
def PSsd (s : List Stmt) (f : DS) : Prop := PSs X s (tS X.K W f)
end
section
variable {X : Cx} {W : WX} {e : Expr} {t : TE} {f : DE}
theorem PEd.of (h : PE X e t) (s : SE X.K W t f) : PEd X W e f := ⟨fun pins st σ H Q I ⟨C, m, env, h', Qd, E, eK, R, hf, p, px⟩ => h.run pins st σ H Q I (s.run C m σ H env h' Qd E Q eK R hf p px)⟩
theorem PKd.of (h : PE X e t) (s : SKp X.K W t f) : PKd X W e f := ⟨fun pins st σ H Q I ⟨C, m, env, h', Qd, E, eK, R, hf, p, px⟩ => h.run pins st σ H Q I (s.run C m σ H env h' Qd E Q eK R hf p px)⟩
theorem PTd.of {t : TT} {f : DT} (h : PT X e t) (s : ST X.K W t f) : PTd X W e f := ⟨fun pins st σ H Q I ⟨C, m, env, h', Qd, E, eK, R, hf, p, px⟩ => h.run pins st σ H Q I (s.run C m σ H env h' Qd E Q eK R hf p px)⟩
theorem PWd.of {t : TT} {f : DT} (h : PW X e t) (s : ST X.K W t f) : PWd X W e f := ⟨fun wh pins st σ H Q I ⟨C, m, env, h', Qd, E, eK, R, hf, p, px⟩ => h.run wh pins st σ H Q I (s.run C m σ H env h' Qd E Q eK R hf p px)⟩
theorem PTsd.of {es : List Expr} {t : TT} {f : DT} (h : PTs X es t) (s : ST X.K W t f) : PTsd X W es f := ⟨fun pins st σ H Q I ⟨C, m, env, h', Qd, E, eK, R, hf, p, px⟩ => h.run pins st σ H Q I (s.run C m σ H env h' Qd E Q eK R hf p px)⟩
theorem PAd.of {es : List Expr} {t : TA} {f : DA} (h : PA X es t) (s : SA X.K W t f) : PAd X W es f := ⟨fun pos pins st σ H Q I ⟨C, m, env, h', Qd, E, eK, R, hf, p, px⟩ => h.run pos pins st σ H Q I (s.run C m σ H env h' Qd E Q eK R hf p px)⟩
theorem PId.of {tg : Expr} {t : TI} {f : DI} (h : PI X tg e t) (s : SI X.K W t f) : PId X W tg e f := ⟨fun pins st σ H Q I ⟨C, m, env, h', Qd, E, eK, R, hf, p, px⟩ => h.run pins st σ H Q I (s.run C m σ H env h' Qd E Q eK R hf p px)⟩
theorem POd.of {e : Option Expr} {t : TO} {f : DO} (h : PO X e t) (s : SO X.K W t f) : POd X W e f := ⟨fun pins st σ H Q I ⟨C, m, env, h', Qd, E, eK, R, hf, p, px⟩ => h.run pins st σ H Q I (s.run C m σ H env h' Qd E Q eK R hf p px)⟩
theorem PSd.of {st : Stmt} {t : TS} {f : DS} (h : PS X st t) (s : SS X.K W t f) : PSd X W st f := ⟨fun pins s' σ H D I ⟨C, m, env, h', Df, eK, R, hf, p⟩ => h.run pins s' σ H D I (s.run C m σ H env h' Df D eK R hf p)⟩
theorem PSsd.of {st : List Stmt} {t : TS} {f : DS} (h : PSs X st t) (s : SS X.K W t f) : PSsd X W st f := ⟨fun pins s' σ H D I ⟨C, m, env, h', Df, eK, R, hf, p⟩ => h.run pins s' σ H D I (s.run C m σ H env h' Df D eK R hf p)⟩
end

/-! ### the rules -/
section
variable {X : Cx} {W : WX} {a b c e : Expr} {fa fb fc fe : DE} {pos : Pos}
theorem pd_var (i : Nat) {x : Str} (hN : X.N[i]? = some x := by rfl) (hv : Vis X.env.scope x := by first | exact Or.inl rfl | exact Or.inr (Or.inl rfl) | exact Or.inr (Or.inr rfl)) (hd : (x == ("__debug__" : Str)) = false := by decide)
    (hcd : (x == ("__classdict__" : Str)) = false := by decide) : PEd X W (.Name x pos) (dVar i) := .of (pe_var hN hv hd hcd) (se_var i)
theorem pk_var (i : Nat) {x : Str} (hN : X.N[i]? = some x := by rfl) (hv : Vis X.env.scope x := by first | exact Or.inl rfl | exact Or.inr (Or.inl rfl) | exact Or.inr (Or.inr rfl)) (hd : (x == ("__debug__" : Str)) = false := by decide)
    (hcd : (x == ("__classdict__" : Str)) = false := by decide) : PKd X W (.Name x pos) (dKV i) := .of (pe_var hN hv hd hcd) (sk_v i)
theorem pk_e (h : PEd X W e fe) : PKd X W e (dKE fe) := .of h (sk_e seE)
theorem pd_int {i : Int} {j} : PEd X W (.Constant (.int i) j pos) (dC (.int i)) := .of pe_int se_int
theorem pd_bl {i : Bool} {j} : PEd X W (.Constant (.bool i) j pos) (dC (.bl i)) := .of pe_bl se_bl
theorem pd_non {j} : PEd X W (.Constant .none j pos) (dC .non) := .of pe_non se_non
theorem pd_str {i : Str} {j} : PEd X W (.Constant (.str i) j pos) (dC (.str i)) := .of pe_str se_str
/-- a constant of the module -/
structure GC (K : PySem.W.Frag) (mg : Str → Option Value) (x : Str) (p : PV) : Prop where
  at_ : ∃ (v : V) (u : Value), mg x = some u ∧ RelV v u ∧ ∀ Ex m H, Rep K Ex m H v p
theorem pd_glob {x : Str} {p : PV} (G : GC X.K X.mg x p) (hg : Gl X x := by rfl) (hd : (x == ("__debug__" : Str)) = false := by decide) : PEd X W (.Name x pos) (dC p) := by
  obtain ⟨v, u, hm, r, k⟩ := G.at_
  exact .of (pe_glob hg hm r hd) (se_c k)
theorem pd_add (ha : PEd X W a fa) (hb : PEd X W b fb) : PEd X W (.BinOp a .Add b pos) (dOp gAdd fa fb) := .of (pe_op op_addA ha hb) (se_op os_add seE seE)
theorem pd_sub (ha : PEd X W a fa) (hb : PEd X W b fb) : PEd X W (.BinOp a .Sub b pos) (dOp gSub fa fb) := .of (pe_op op_sub ha hb) (se_op os_sub seE seE)
theorem pd_mul (ha : PEd X W a fa) (hb : PEd X W b fb) : PEd X W (.BinOp a .Mult b pos) (dOp gMul fa fb) := .of (pe_op op_mulA ha hb) (se_op os_mul seE seE)
theorem pd_fdiv (ha : PEd X W a fa) (hb : PEd X W b fb) : PEd X W (.BinOp a .FloorDiv b pos) (dOp gFdiv fa fb) := .of (pe_op op_fdivW ha hb) (se_op os_fdiv seE seE)
theorem pd_mod (ha : PEd X W a fa) (hb : PEd X W b fb) : PEd X W (.BinOp a .Mod b pos) (dOp gMod fa fb) := .of (pe_op op_mod ha hb) (se_op os_mod seE seE)
theorem pd_pow (ha : PEd X W a fa) (hb : PEd X W b fb) : PEd X W (.BinOp a .Pow b pos) (dOp gPow fa fb) := .of (pe_op op_pow ha hb) (se_op os_pow seE seE)
theorem pd_neg (ha : PEd X W a fa) : PEd X W (.UnaryOp .USub a pos) (dUn gNeg fa) := .of (pe_un un_neg ha) (se_un us_neg seE)
/-! comparisons: the operator's pair -/
structure CmpD (X : Cx) (op : CmpOp) (g : G2) : Prop where
  ok : ∃ r, OpR X (compareOp op) r ∧ OpS X.K r g
theorem cd_lt : CmpD X .Lt gLt := ⟨_, op_lt, os_lt⟩
theorem cd_le : CmpD X .LtE gLe := ⟨_, op_le, os_le⟩
theorem cd_gt : CmpD X .Gt gGt := ⟨_, op_gt, os_gt⟩
theorem cd_ge : CmpD X .GtE gGe := ⟨_, op_ge, os_ge⟩
theorem cd_eq (hu : X.A.units + 65 < cLine) : CmpD X .Eq gEq := ⟨_, op_eqD (by omega), os_eq⟩
theorem cd_ne (hu : X.A.units + 65 < cLine) : CmpD X .NotEq gNe := ⟨_, op_neD (by omega), os_ne⟩
theorem cd_in (hu : X.A.units + 65 < cLine) : CmpD X .In gIn := ⟨_, op_inAll hu, os_inAll⟩
theorem cd_notIn (hu : X.A.units + 65 < cLine) : CmpD X .NotIn gNotIn := ⟨_, op_notInAll hu, os_notInAll⟩
theorem cd_is : CmpD X .Is (gIsN false) := ⟨_, op_isN, os_isN⟩
theorem cd_isNot : CmpD X .IsNot (gIsN true) := ⟨_, op_notN, os_notN⟩
theorem pd_cmp {op : CmpOp} {g : G2} (o : CmpD X op g) (ha : PEd X W a fa) (hb : PEd X W b fb) (hm : behindInMarks op b = false := by first | exact nobehind _ (by decide) (by decide) | rfl | with_unfolding_all rfl) : PEd X W (.Compare a [op] [b] pos) (dOp g fa fb) := by
  obtain ⟨r, h1, h2⟩ := o.ok
  exact .of (pe_cmpR h1 ha hb hm) (se_op h2 seE seE)
theorem ptd_cmp {op : CmpOp} {g : G2} (o : CmpD X op g) (ha : PEd X W a fa) (hb : PEd X W b fb) (hm : behindInMarks op b = false := by first | exact nobehind _ (by decide) (by decide) | rfl | with_unfolding_all rfl) : PTd X W (.Compare a [op] [b] pos) (dTst (dOp g fa fb)) := by
  obtain ⟨r, h1, h2⟩ := o.ok
  exact .of (pt_cmpR h1 ha hb hm) (st_tst (se_op h2 seE seE))
theorem pd_chain {op op' : CmpOp} {g g' : G2} (o : CmpD X op g) (o' : CmpD X op' g') (ha : PEd X W a fa) (hb : PEd X W b fb) (hc : PEd X W c fc) (hm : lastMarks [op, op'] [b, c] = false := by with_unfolding_all rfl) : PEd X W (.Compare a [op, op'] [b, c] pos) (dChain g g' fa fb fc) := by
  obtain ⟨r, h1, h2⟩ := o.ok
  obtain ⟨r', h1', h2'⟩ := o'.ok
  exact .of (pe_chain h1 h1' ha hb hc hm) (se_chain h2 h2' seE seE seE)
theorem ptd_chain {op op' : CmpOp} {g g' : G2} (o : CmpD X op g) (o' : CmpD X op' g') (ha : PEd X W a fa) (hb : PEd X W b fb) (hc : PEd X W c fc) (hm : lastMarks [op, op'] [b, c] = false := by with_unfolding_all rfl) : PTd X W (.Compare a [op, op'] [b, c] pos) (dTst (dChain g g' fa fb fc)) := by
  obtain ⟨r, h1, h2⟩ := o.ok
  obtain ⟨r', h1', h2'⟩ := o'.ok
  exact .of (pt_chain h1 h1' ha hb hc hm) (st_tst (se_chain h2 h2' seE seE seE))
/-! tests -/
theorem ptd_tru (h : PEd X W e fe) (he : ∀ whole, isTrue e X.env whole = (do let v ← whole; standAt e.pos; holding [v] (truthy v)) := by intro _; rfl) : PTd X W e (dTru fe) := .of (pt_truth h he) (st_tru seE)
variable {ta tb : DT} {rest : List Expr}
theorem pwd_and1 (ha : PTd X W a ta) : PWd X W (.BoolOp .And [a] pos) ta := .of (pw_and1 ha) stT
theorem pwd_or1 (ha : PTd X W a ta) : PWd X W (.BoolOp .Or [a] pos) ta := .of (pw_or1 ha) stT
theorem pwd_and (ha : PTd X W a ta) (hb : PWd X W (.BoolOp .And (b :: rest) pos) tb) : PWd X W (.BoolOp .And (a :: b :: rest) pos) (dAnd ta tb) := .of (pw_and ha hb) (st_and stT stT)
theorem pwd_or (ha : PTd X W a ta) (hb : PWd X W (.BoolOp .Or (b :: rest) pos) tb) : PWd X W (.BoolOp .Or (a :: b :: rest) pos) (dOr ta tb) := .of (pw_or ha hb) (st_or stT stT)
theorem PWd.pt (h : PWd X W e ta) : PTd X W e ta := PW.pt h
theorem ptd_not (ha : PTd X W a ta) : PTd X W (.UnaryOp .Not a pos) (dNot ta) := .of (pt_not ha) (st_not stT)
/-! .. as values -/
theorem pd_one {op} (h : PEd X W a fa) : PEd X W (.BoolOp op [a] pos) fa := .of (pe_one h) seE
theorem pd_and (ha : PEd X W a fa) (hb : PEd X W (.BoolOp .And (b :: rest) pos) fb) : PEd X W (.BoolOp .And (a :: b :: rest) pos) (dAndV fa fb) := .of (pe_and ha hb) (se_and seE seE)
theorem pd_or (ha : PEd X W a fa) (hb : PEd X W (.BoolOp .Or (b :: rest) pos) fb) : PEd X W (.BoolOp .Or (a :: b :: rest) pos) (dOrV fa fb) := .of (pe_or ha hb) (se_or seE seE)
theorem pd_not (ha : PEd X W a fa) : PEd X W (.UnaryOp .Not a pos) (dNotV fa) := .of (pe_not ha) (se_not seE)
/-! displays, items, slices -/
variable {es : List Expr} {fs : DA}
theorem pad_nil : PAd X W [] dNil := .of pa_nil sa_nil
theorem pad_cons (ha : PEd X W e fe) (hr : PAd X W es fs) (hs : starEach (e :: es) X.env = (false, eval e X.env) :: starEach es X.env := by rfl) : PAd X W (e :: es) (dCons fe fs) := .of (pa_cons ha hr hs) (sa_cons seE saA)
theorem pd_tup {x1} (h : PAd X W es fs) : PEd X W (.Tuple es x1 pos) (dTup fs) := .of (pe_tup h) (se_tup saA)
theorem pd_lst (h : PAd X W es fs) : PEd X W (.List es pos) (dLst fs) := .of (pe_lst h) (se_lst saA)
theorem pd_ix (ha : PEd X W a fa) (hb : PEd X W b fb) (hs : PlainIx b := by exact fun _ _ => rfl) : PEd X W (.Subscript a b pos) (dOp gIx fa fb) := .of (pe_ix ix_seq ha hb hs) (se_op os_ix seE seE)
variable {lo hi : Option Expr} {fl fh : DO} {p2 : Pos}
theorem pod_none : POd X W none dNoPart := .of po_none so_none
theorem pod_some (h : PEd X W e fe) : POd X W (some e) (dPart fe) := .of (po_some h) (so_some seE)
theorem pd_sl (he : PEd X W e fe) (hl : POd X W lo fl) (hh : POd X W hi fh) : PEd X W (.Subscript e (.Slice lo hi none p2) pos) (dSl fe fl fh) := .of (pe_slice sl_all he hl hh) (se_sl seE soO soO)
theorem pd_alloc (h : PEd X W e fe) : PEd X W e (dAlloc fe) := .of h (se_alloc seE)
theorem pd_frz (h : PEd X W e fe) : PEd X W e (dFrz fe) := .of h (se_frz seE)
/-! what is walked -/
variable {tg : Expr}
theorem pid_it (h : PKd X W e fe) : PId X W tg e (dIt fe) := .of (pi_seq h) (si_it skK)
theorem pid_rng1 {p : Pos} (hm : X.mg "range" = none) (ha : PEd X W a fa) (hg : Gl X "range" := by rfl) (hs : starEach [a] X.env = [(false, eval a X.env)] := by rfl) : PId X W tg (.Call (.Name "range" p) [a] [] pos) (dRng1 fa) :=
  .of (pi_range1 hg hm (pa_cons ha pa_nil hs) hs) (si_rng1 seE)
theorem pid_rng2 {p : Pos} (hm : X.mg "range" = none) (ha : PEd X W a fa) (hb : PEd X W b fb) (hg : Gl X "range" := by rfl) (hs : starEach [a, b] X.env = [(false, eval a X.env), (false, eval b X.env)] := by rfl) (hs2 : starEach [b] X.env = [(false, eval b X.env)] := by rfl) :
    PId X W tg (.Call (.Name "range" p) [a, b] [] pos) (dRng2 fa fb) := .of (pi_range2 hg hm (pa_cons ha (pa_cons hb pa_nil hs2) (by rw [hs, hs2])) hs hs2) (si_rng2 seE seE)
theorem pid_zip {p tpos : Pos} {elts : List Expr} {kk : Nat} (hm : X.mg "zip" = none) (ha : PKd X W a fa) (hb : PKd X W b fb) (hg : Gl X "zip" := by rfl) (hs : starEach [a, b] X.env = (false, eval a X.env) :: starEach [b] X.env := by rfl) (hs2 : starEach [b] X.env = (false, eval b X.env) :: starEach [] X.env := by rfl)
    (hpl : (backTo pos (starEach [b] X.env)).any (·.1) = false := by rfl) : PId X W (.Tuple elts kk tpos) (.Call (.Name "zip" p) [a, b] [] pos) (dZip fa fb) := .of (RZ.pi_zipA hg hm (pa_cons ha (pa_cons hb pa_nil hs2) hs) hs hpl) (si_zip skK skK)
theorem pid_enum {p tpos : Pos} {elts : List Expr} {kk : Nat} (hm : X.mg "enumerate" = none) (ha : PKd X W a fa) (hg : Gl X "enumerate" := by rfl) (hs : starEach [a] X.env = [(false, eval a X.env)] := by rfl) :
    PId X W (.Tuple elts kk tpos) (.Call (.Name "enumerate" p) [a] [] pos) (dEnum fa) := .of (pi_enum hg hm (pa_cons ha pa_nil hs) hs) (si_enum skK)
/-! comprehensions -/
structure PGd (X : Cx) (vs : List Nat) (tg : Expr) (f : DB) : Prop where
  ok : ∃ g, PG X tg g ∧ SG X.K vs g f
theorem pgd_name (i : Nat) {x : Str} (hN : X.N.Nodup) (hi : X.N[i]? = some x := by rfl) (hx : Loc X.env.scope x := by first | exact .inl rfl | exact .inr rfl) (hf : X.fn x = true ∨ X.env.scope.names.lookup x = some .local := by first | exact .inl rfl | exact .inr rfl | assumption) : PGd X [i] (.Name x pos) (bName i) :=
  ⟨_, pg_name hN hi hx hf, sg_name i⟩
theorem pgd_tup2 (i j : Nat) {x y : Str} {p q : Pos} {k : Nat} (hc : X.calm = true) (hN : X.N.Nodup) (hi : X.N[i]? = some x := by rfl) (hj : X.N[j]? = some y := by rfl) (hx : Loc X.env.scope x := by first | exact .inl rfl | exact .inr rfl) (hy : Loc X.env.scope y := by first | exact .inl rfl | exact .inr rfl)
    (hf : X.fn x = true ∨ X.env.scope.names.lookup x = some .local := by first | exact .inl rfl | exact .inr rfl | assumption) (hf2 : X.fn y = true ∨ X.env.scope.names.lookup y = some .local := by first | exact .inl rfl | exact .inr rfl | assumption) :
    PGd X [i, j] (.Tuple [.Name x p, .Name y q] k pos) (bTup2 i j) := ⟨_, pg_tup hc (pgs_cons (pg_name hN hi hx hf) (pgs_cons (pg_name hN hj hy hf2) pgs_nil)), sg_tup2 i j⟩
theorem pgd_tup3 (i j l : Nat) {x y z : Str} {p q r : Pos} {k : Nat} (hc : X.calm = true) (hN : X.N.Nodup) (hi : X.N[i]? = some x := by rfl) (hj : X.N[j]? = some y := by rfl) (hl : X.N[l]? = some z := by rfl) (hx : Loc X.env.scope x := by first | exact .inl rfl | exact .inr rfl) (hy : Loc X.env.scope y := by first | exact .inl rfl | exact .inr rfl) (hz : Loc X.env.scope z := by first | exact .inl rfl | exact .inr rfl)
    (hf : X.fn x = true ∨ X.env.scope.names.lookup x = some .local := by first | exact .inl rfl | exact .inr rfl | assumption) (hf2 : X.fn y = true ∨ X.env.scope.names.lookup y = some .local := by first | exact .inl rfl | exact .inr rfl | assumption) (hf3 : X.fn z = true ∨ X.env.scope.names.lookup z = some .local := by first | exact .inl rfl | exact .inr rfl | assumption) :
    PGd X [i, j, l] (.Tuple [.Name x p, .Name y q, .Name z r] k pos) (bTup3 i j l) := ⟨_, pg_tup hc (pgs_cons (pg_name hN hi hx hf) (pgs_cons (pg_name hN hj hy hf2) (pgs_cons (pg_name hN hl hz hf3) pgs_nil))), sg_tup3 i j l⟩
theorem ptsd_nil : PTsd X W [] dYes := .of pts_nil st_yes
theorem ptsd_one {t : DT} (h : PTd X W e t) : PTsd X W [e] t := .of (pts_one h) stT
/-- the rules of a block hold whatever the block's beginning: the context's parts of a block -/
abbrev BlkAll (X : Cx) (scope : Scope) (P : Cx → Prop) : Prop := ∀ (s : Shared) (H : Hp) (C : Addr) (cl : List (Str × Addr)) (fp : List Addr), P (X.blk s H scope (compEnvC scope cl C X.env) fp)
theorem PGd.all {scope : Scope} {tg : Expr} {vs : List Nat} {bd : DB} (h : BlkAll X scope fun Y => PGd Y vs tg bd) : ∃ g, (BlkAll X scope fun Y => PG Y tg g) ∧ SG X.K vs g bd := by
  refine ⟨fun x σ H Q => ∀ (s : Shared) (H0 : Hp) (C : Addr) (cl : List (Str × Addr)) (fp : List Addr), Classical.choose (h s H0 C cl fp).ok x σ H Q, fun s H0 C cl fp => ?_, ⟨fun C m σ H env h' x p q Q eK R r hf k s H0 C' cl fp => ?_⟩⟩
  · have z := (Classical.choose_spec (h s H0 C cl fp).ok).1
    exact ⟨fun pins s' σ H x u Q I r q => z.run pins s' σ H x u Q I r (q s H0 C cl fp)⟩
  · exact (Classical.choose_spec (h s H0 C' cl fp).ok).2.run C m σ H env h' x p q Q eK R r hf k
theorem pd_lc {elt iter : Expr} {ifs : List Expr} {scope : Scope} {own : List (Str × Nat)} {vs : List Nat} {fi : DI} {bd : DB} {ft : DT} (hc : X.calm = true) (hN : X.N.Nodup) (ok : BlkOk X.N X.env.scope scope own) (ev : own.map (·.2) = vs) (hi : PId X W tg iter fi)
    (hg : BlkAll X scope fun Y => PGd Y vs tg bd) (ht : BlkAll X scope fun Y => PTsd Y W0 ifs ft) (he : BlkAll X scope fun Y => PEd Y W0 elt fe) (hs : ∀ x, foldedSetIterable iter X.env x = pure x := by intro _; rfl) :
    PEd X W (.ListComp elt [⟨tg, iter, ifs, 0⟩] scope pos) (dLc fi vs bd ft fe) := by
  subst ev
  obtain ⟨g, h1, h2⟩ := PGd.all hg
  exact .of (pe_lc (tt := tT X.K W0 ft) (te := tE X.K W0 fe) hc hN hi ok h1 ht he hs) (se_lc siI h2 stT seE)
/-! calls -/
variable {x : Str} {p : Pos}
theorem pd_call {n k : Nat} {d : DF} {f : Addr} {fd : FuncData} {ps : List Str} (F : FnOk X.prog X.w X.K X.mg X.base CX0 k f fd ps (spD X.K n d)) (hr : Room k X.A) (hm : X.mg x = some (.ref f)) (hk : PySem.W.keepIn X.K (.ref f) = true) (hb : Binds X.K fd ps []) (ha : PAd X W (e :: es) fs)
    (hg : Gl X x := by rfl) (hdb : (x == ("__debug__" : Str)) = false := by decide) (he : starEach (e :: es) X.env = (false, eval e X.env) :: starEach es X.env := by rfl) (hpl : (backTo pos (starEach es X.env)).any (·.1) = false := by rfl) : PEd X W (.Call (.Name x p) (e :: es) [] pos) (dCall n d fs) :=
  .of (pe_call F hr hg hm hk hb .nil pass0 ha hdb he hpl) (se_call saA)
theorem pd_call0 {k : Nat} {d : DF} {f : Addr} {fd : FuncData} {ps : List Str} (F : FnOk X.prog X.w X.K X.mg X.base CX0 k f fd ps (spD X.K 0 d)) (hr : Room k X.A) (hm : X.mg x = some (.ref f)) (hk : PySem.W.keepIn X.K (.ref f) = true) (hb : Binds X.K fd ps [])
    (hg : Gl X x := by rfl) (hdb : (x == ("__debug__" : Str)) = false := by decide) : PEd X W (.Call (.Name x p) [] [] pos) (dCall 0 d dNil) :=
  .of (pe_call0 F hr hg hm hk hb .nil pass0 hdb) (se_call sa_nil)
/-- a built-in that is called by its name -/
theorem pd_cb {id : String} {r : List V → Hp → VK → Prop} {g : GL} (cr : CallR X (.builtin id) r) (cs : CallS X.K r g) (hv : bootBuiltins x = some (.builtin id)) (hm : X.mg x = none) (ha : PAd X W (e :: es) fs) (hg : Gl X x := by rfl) (hn : x ≠ "__name__" := by decide) (hdb : (x == ("__debug__" : Str)) = false := by decide)
    (he : starEach (e :: es) X.env = (false, eval e X.env) :: starEach es X.env := by rfl) (hpl : (backTo pos (starEach es X.env)).any (·.1) = false := by rfl) : PEd X W (.Call (.Name x p) (e :: es) [] pos) (dB g fs) := .of (pe_callB cr hg hm hv ha hn hdb he hpl) (se_cb cs saA)
theorem pd_ct {id : String} {r : List V → Hp → VK → Prop} {g : GL} (cr : CallR X (.type id) r) (cs : CallS X.K r g) (hv : bootBuiltins x = some (.type id)) (hm : X.mg x = none) (ha : PAd X W (e :: es) fs) (hg : Gl X x := by rfl) (hn : x ≠ "__name__" := by decide) (hdb : (x == ("__debug__" : Str)) = false := by decide)
    (he : starEach (e :: es) X.env = (false, eval e X.env) :: starEach es X.env := by rfl) (hpl : (backTo pos (starEach es X.env)).any (·.1) = false := by rfl) : PEd X W (.Call (.Name x p) (e :: es) [] pos) (dB g fs) := .of (pe_callTy cr hg hm hv ha hn hdb he hpl) (se_cb cs saA)
theorem boot_isi : bootBuiltins "isinstance" = some (.builtin "isinstance") := by decide +kernel
theorem pd_isi {t : Kd} {y : Str} {q : Pos} (hm : X.mg "isinstance" = none) (hv : bootBuiltins y = some (.type t.name)) (hm2 : X.mg y = none) (ha : PEd X W a fa) (hg : Gl X "isinstance" := by rfl) (hg2 : Gl X y := by rfl) (hn2 : y ≠ "__name__" := by decide) (hdb2 : (y == ("__debug__" : Str)) = false := by decide)
    (he : starEach [a, .Name y q] X.env = (false, eval a X.env) :: starEach [.Name y q] X.env := by rfl) (hpl : (backTo pos (starEach [.Name y q] X.env)).any (·.1) = false := by rfl) (hs2 : starEach [.Name y q] X.env = (false, eval (.Name y q) X.env) :: starEach [] X.env := by rfl) :
    PEd X W (.Call (.Name "isinstance" p) [a, .Name y q] [] pos) (dIsi t fa) := .of (pe_callB call_isi hg hm boot_isi (pa_cons ha (pa_cons (pe_bltn (v := .ty t.name) hg2 hm2 hv rfl hn2 hdb2) pa_nil hs2) he) (by decide) (by decide) he hpl) (se_isi seE)
end
/-! ### statements -/
section
variable {X : Cx} {W : WX} {a b c e o : Expr} {fa fb fc fe fo : DE} {pos : Pos} {st : Stmt} {rest : List Stmt} {f g : DS}
theorem psd_nil : PSsd X W [] sNil := .of pss_nil ss_nil
theorem psd_cons (h1 : PSd X W st f) (h2 : PSsd X W rest g) : PSsd X W (st :: rest) (sSeq f g) := .of (pss_cons h1 h2) (ss_seq ssS ssS)
theorem psd_one (h1 : PSd X W st f) : PSsd X W [st] f := .of (pss_one h1) ssS
theorem psd_frz (i : Nat) (h : PSd X W st f) : PSd X W st (sFrz i f) := .of h (ss_frz i ssS)
theorem psd_set (i : Nat) {x : Str} {pos' : Pos} (he : PEd X W e fe) (hN : X.N.Nodup) (hi : X.N[i]? = some x := by rfl) (hx : Loc X.env.scope x := by first | exact .inl rfl | exact .inr rfl) (hs : swapsWith e (some (.Name x pos')) pos.line X.env = pure false := by rfl)
    (hf : X.fn x = true ∨ X.env.scope.names.lookup x = some .local := by first | exact .inl rfl | exact .inr rfl | assumption) : PSd X W (.Assign [.Name x pos'] e pos) (sAsg i fe) := .of (ps_set hN hi hx he hs hf) (ss_asg i seE)
theorem psd_bind {tg : Expr} {vs : List Nat} {bd : DB} (hg : PGd X vs tg bd) (he : PEd X W e fe) (hs : swapsWithSole [tg] e pos.line X.env = pure false := by rfl) (hw : swappedStores [tg] e X.env = pure none := by rfl) (ha : (assignEach [tg] X.env).map (·.2) = [assign tg X.env] := by rfl) : PSd X W (.Assign [tg] e pos) (sBind bd fe) := by
  obtain ⟨g, h1, h2⟩ := hg.ok
  exact .of (ps_asg he h1 hs hw ha) (ss_bind h2 seE)
/-- y = [..] -/
theorem psd_setLc (i : Nat) {y : Str} {py : Pos} {elt tg iter : Expr} {ifs : List Expr} {scope : Scope} {own : List (Str × Nat)} {vs : List Nat} {spos : Pos} {fi : DI} {bd : DB} {ft : DT} (hc : X.calm = true) (hN : X.N.Nodup) (ok : BlkOk X.N X.env.scope scope own) (ev : own.map (·.2) = vs)
    (hsw : swapsWith (.ListComp elt [⟨tg, iter, ifs, 0⟩] scope pos) (some (.Name y py)) spos.line X.env = pure true) (hi : PId X W tg iter fi)
    (hg : BlkAll X scope fun Y => PGd Y vs tg bd) (ht : BlkAll X scope fun Y => PTsd Y W0 ifs ft) (he : BlkAll X scope fun Y => PEd Y W0 elt fe) (hy : X.N[i]? = some y := by rfl) (hyl : X.env.scope.names.lookup y = some .local := by rfl) (hs : ∀ x, foldedSetIterable iter X.env x = pure x := by intro _; rfl) :
    PSd X W (.Assign [.Name y py] (.ListComp elt [⟨tg, iter, ifs, 0⟩] scope pos) spos) (sAsg i (dLc fi vs bd ft fe)) := by
  subst ev
  obtain ⟨g, h1, h2⟩ := PGd.all hg
  exact .of (ps_setLc (tt := tT X.K W0 ft) (te := tE X.K W0 fe) hc hN hy hyl hsw hi ok h1 ht he hs) (ss_asg i (se_lc siI h2 stT seE))
theorem psd_expr (he : PEd X W e fe) (hs : swapsWith e none pos.line X.env = pure false := by rfl) : PSd X W (.Expr e pos) (sExpr fe) := .of (ps_expr he hs) (ss_expr seE)
theorem psd_ret (he : PEd X W e fe) : PSd X W (.Return (some e) pos) (sRet fe) := .of (ps_ret he) (ss_ret seE)
theorem psd_retN : PSd X W (.Return none pos) sRetN := .of ps_retN ss_retN
theorem psd_retV (i : Nat) {x : Str} {pos' : Pos} (hN : X.N[i]? = some x := by rfl) (hv : Vis X.env.scope x := by first | exact Or.inl rfl | exact Or.inr (Or.inl rfl) | exact Or.inr (Or.inr rfl)) (hd : (x == ("__debug__" : Str)) = false := by decide)
    (hcd : (x == ("__classdict__" : Str)) = false := by decide) : PSd X W (.Return (some (.Name x pos')) pos) (sRetV i) := .of (ps_ret (pe_var hN hv hd hcd)) (ss_retV i)
variable {fc' : DT} {s1 s2 : List Stmt}
theorem psd_if (hc : PTd X W c fc') (h1 : PSsd X W s1 f) (h2 : PSsd X W s2 g) : PSd X W (.If c s1 s2 pos) (sIf fc' f g) := .of (ps_if hc h1 h2) (ss_if stT ssS ssS)
theorem psd_pass : PSd X W (.Pass pos) sPass := .of ps_pass ss_pass
theorem psd_break : PSd X W (.Break pos) sBreak := .of ps_break ss_break
theorem psd_cont : PSd X W (.Continue pos) sCont := .of ps_continue ss_cont
theorem psd_while (hp : PassesOwn (model X.prog X.w) X.A X.env X.xe) (hc : PTd X W c fc') (hb : PSsd X W s1 f) : PSd X W (.While c s1 [] pos) (sWhile fc' f) := .of (ps_while hp hc hb) (ss_while stT ssS)
theorem psd_for {tg iter : Expr} {vs : List Nat} {bd : DB} {fi : DI} (hp : PassesOwn (model X.prog X.w) X.A X.env X.xe) (hc : X.calm = true) (hi : PId X W tg iter fi) (hg : PGd X vs tg bd) (hb : PSsd X W s1 f) (hs : ∀ x, foldedSetIterable iter X.env x = pure x := by intro _; rfl) : PSd X W (.For tg iter s1 [] pos) (sFor fi bd f) := by
  obtain ⟨g, h1, h2⟩ := hg.ok
  exact .of (ps_for hp hc hi h1 hb hs) (ss_for siI h2 ssS)
/-! lists change -/
variable {apos cpos : Pos}
theorem pe_app {to : TE} {t : TA} (ho : PE X o to) (ha : PA X [e] t) (hbase : attributeBase o "append" X.env (eval o X.env) = eval o X.env := by rfl)
    (hfew : ((backTo cpos (starEach [e] X.env)).all (fun x => !x.1) && (backToKw cpos (keywordEach [] X.env)).all (fun x => x.1.isSome) && decide (([e] : List Expr).length + ([] : List Keyword).length + (if ([] : List Keyword).isEmpty then 0 else 1) < 30)) = true := by rfl)
    (hline : (apos.endLine == cpos.line) = true := by rfl) (hs : starEach [e] X.env = (false, eval e X.env) :: starEach [] X.env := by rfl) (hplain : (backTo cpos (starEach [] X.env)).any (·.1) = false := by rfl) :
    PE X (.Call (.Attribute o "append" apos) [e] [] cpos) (tBM X.K "list" rAppend to t) := pe_bm PySem.F.plainAttrs_list PySem.F.slot_list_append PySem.F.type_list_append mt_append ho ha hbase hfew hline hs hplain
theorem psd_appV (i : Nat) {x : Str} {p : Pos} (he : PEd X W e fe) (hN : X.N[i]? = some x := by rfl) (hv : Vis X.env.scope x := by first | exact Or.inl rfl | exact Or.inr (Or.inl rfl) | exact Or.inr (Or.inr rfl)) (hd : (x == ("__debug__" : Str)) = false := by decide) (hcd : (x == ("__classdict__" : Str)) = false := by decide)
    (hbase : attributeBase (.Name x p) "append" X.env (eval (.Name x p) X.env) = eval (.Name x p) X.env := by rfl)
    (hfew : ((backTo cpos (starEach [e] X.env)).all (fun x => !x.1) && (backToKw cpos (keywordEach [] X.env)).all (fun x => x.1.isSome) && decide (([e] : List Expr).length + ([] : List Keyword).length + (if ([] : List Keyword).isEmpty then 0 else 1) < 30)) = true := by rfl)
    (hline : (apos.endLine == cpos.line) = true := by rfl) (hs : starEach [e] X.env = (false, eval e X.env) :: starEach [] X.env := by rfl) (hplain : (backTo cpos (starEach [] X.env)).any (·.1) = false := by rfl)
    (hsw : swapsWith (.Call (.Attribute (.Name x p) "append" apos) [e] [] cpos) none pos.line X.env = pure false := by rfl) :
    PSd X W (.Expr (.Call (.Attribute (.Name x p) "append" apos) [e] [] cpos) pos) (sAppV i fe) := .of (ps_expr (pe_app (pe_var hN hv hd hcd) (pa_cons he pa_nil hs) hbase hfew hline hs hplain) hsw) (ss_appV i seE)
theorem psd_appE (ho : PEd X W o fo) (he : PEd X W e fe) (hbase : attributeBase o "append" X.env (eval o X.env) = eval o X.env := by rfl)
    (hfew : ((backTo cpos (starEach [e] X.env)).all (fun x => !x.1) && (backToKw cpos (keywordEach [] X.env)).all (fun x => x.1.isSome) && decide (([e] : List Expr).length + ([] : List Keyword).length + (if ([] : List Keyword).isEmpty then 0 else 1) < 30)) = true := by rfl)
    (hline : (apos.endLine == cpos.line) = true := by rfl) (hs : starEach [e] X.env = (false, eval e X.env) :: starEach [] X.env := by rfl) (hplain : (backTo cpos (starEach [] X.env)).any (·.1) = false := by rfl)
    (hsw : swapsWith (.Call (.Attribute o "append" apos) [e] [] cpos) none pos.line X.env = pure false := by rfl) :
    PSd X W (.Expr (.Call (.Attribute o "append" apos) [e] [] cpos) pos) (sAppE fo fe) := .of (ps_expr (pe_app ho (pa_cons he pa_nil hs) hbase hfew hline hs hplain) hsw) (ss_appE seE seE)
variable {i : Expr} {fi : DE}
theorem psd_setV (k : Nat) {x : Str} {p tpos : Pos} (hi : PEd X W i fi) (he : PEd X W e fe) (hN : X.N[k]? = some x := by rfl) (hv : Vis X.env.scope x := by first | exact Or.inl rfl | exact Or.inr (Or.inl rfl) | exact Or.inr (Or.inr rfl)) (hd : (x == ("__debug__" : Str)) = false := by decide) (hcd : (x == ("__classdict__" : Str)) = false := by decide)
    (hs : swapsWithSole [.Subscript (.Name x p) i tpos] e pos.line X.env = pure false := by rfl) (hw : swappedStores [.Subscript (.Name x p) i tpos] e X.env = pure none := by rfl)
    (ha : ∀ v, assign (.Subscript (.Name x p) i tpos) X.env v = (do
      let ov ← holding [v] (eval (.Name x p) X.env)
      let iv ← holding [v, ov] (eval i X.env)
      standAt tpos
      holding [v, ov, iv] (setItem ov iv v)
      release [v, ov, iv] []) := by intro _; rfl) (ha1 : (assignEach [.Subscript (.Name x p) i tpos] X.env).map (·.2) = [assign (.Subscript (.Name x p) i tpos) X.env] := by rfl) :
    PSd X W (.Assign [.Subscript (.Name x p) i tpos] e pos) (sSetV k fi fe) := .of (ps_asg he (pg_sub (pe_var hN hv hd hcd) hi set_list ha) hs hw ha1) (ss_setV k seE seE)
theorem psd_setE {tpos : Pos} (ho : PEd X W o fo) (hi : PEd X W i fi) (he : PEd X W e fe) (hs : swapsWithSole [.Subscript o i tpos] e pos.line X.env = pure false := by rfl) (hw : swappedStores [.Subscript o i tpos] e X.env = pure none := by rfl)
    (ha : ∀ v, assign (.Subscript o i tpos) X.env v = (do
      let ov ← holding [v] (eval o X.env)
      let iv ← holding [v, ov] (eval i X.env)
      standAt tpos
      holding [v, ov, iv] (setItem ov iv v)
      release [v, ov, iv] []) := by intro _; rfl) (ha1 : (assignEach [.Subscript o i tpos] X.env).map (·.2) = [assign (.Subscript o i tpos) X.env] := by rfl) :
    PSd X W (.Assign [.Subscript o i tpos] e pos) (sSetE fo fi fe) := .of (ps_asg he (pg_sub ho hi set_list ha) hs hw ha1) (ss_setE seE seE seE)
end
section
variable {P : Program} {w : World} {K : PySem.W.Frag} {mg : Str → Option Value} {base : Heap}
/-- a def's promise from its body's denotation -/
theorem ok_defD {x qual : Str} {st : Stmt} {f : Addr} {fd : FuncData} {N ps : List Str} {k : Nat} {body : DS} (F : Fun K x qual st f fd) (S : FnScope N ps (defScope st))
    (hb : ∀ (X : Cx), X.prog = P → X.w = w → X.K = K → X.mg = mg → X.base = base → X.N = N → X.calm = true → Room k X.A → (∃ (cdv : Value) (A : Around) (outer : List PySem.Env) (s : Shared) (H : Hp) (E : XK), X = (cxOf CX0 P w K mg base N qual (defScope st) f cdv A outer s H E).nox) → PSsd X W0 (defBody st) body) :
    FnOk P w K mg base CX0 (k + 1) f fd ps (spD K ps.length (dDef ps.length (N.length - ps.length) body)) :=
  ok_def F S fun cdv A outer s H E hr => ⟨_, hb _ rfl rfl rfl rfl rfl rfl rfl hr ⟨cdv, A, outer, s, H, E, rfl⟩, ssS⟩
end
end PM

namespace PM
open PySem PySem.Spec L2
open PyProof.Rows hiding St

/-! ### a def that stands at a name of the module -/
structure DefAt (K : PySem.W.Frag) (mg : Str → Option Value) (x : Str) (st : Stmt) (ps : List Str) : Prop where
  at_ : ∃ (f : Addr) (fd : FuncData), Fun K x x st f fd ∧ mg x = some (.ref f) ∧ Binds K fd ps []
structure FnAt (P : Program) (w : World) (K : PySem.W.Frag) (mg : Str → Option Value) (base : Heap) (k : Nat) (x : Str) (n : Nat) (d : DF) : Prop where
  at_ : ∃ (f : Addr) (fd : FuncData) (ps : List Str), mg x = some (.ref f) ∧ PySem.W.keepIn K (.ref f) = true ∧ Binds K fd ps [] ∧ FnOk P w K mg base CX0 k f fd ps (spD K n d)
theorem u65 {k : Nat} {A : Around} (r : Room k A) : A.units + 65 < cLine := by
  have := r.un
  omega
section
variable {P : Program} {w : World} {K : PySem.W.Frag} {mg : Str → Option Value} {base : Heap}
theorem FnAt.mk' {x : Str} {st : Stmt} {N ps : List Str} {k : Nat} {body : DS} (D : DefAt K mg x st ps) (S : FnScope N ps (defScope st))
    (hb : ∀ (f : Addr) (cdv : Value) (A : Around) (outer : List PySem.Env) (s : Shared) (H : Hp) (E : XK), Room k (A.deeper (envOfC x (defScope st) s.heap.objs.size f cdv)) → PSsd (cxOf CX0 P w K mg base N x (defScope st) f cdv A outer s H E).nox W0 (defBody st) body) :
    FnAt P w K mg base (k + 1) x ps.length (dDef ps.length (N.length - ps.length) body) := by
  obtain ⟨f, fd, F, hm, hb'⟩ := D.at_
  exact ⟨f, fd, ps, hm, F.kp, hb', ok_def F S fun cdv A outer s H E hr => ⟨_, hb f cdv A outer s H E hr, ssS⟩⟩
theorem fnOk_mk {x : Str} {st : Stmt} {f : Addr} {fd : FuncData} {N ps : List Str} {k : Nat} {body : DS} (F : Fun K x x st f fd) (S : FnScope N ps (defScope st))
    (hb : ∀ (f : Addr) (cdv : Value) (A : Around) (outer : List PySem.Env) (s : Shared) (H : Hp) (E : XK), Room k (A.deeper (envOfC x (defScope st) s.heap.objs.size f cdv)) → PSsd (cxOf CX0 P w K mg base N x (defScope st) f cdv A outer s H E).nox W0 (defBody st) body) :
    FnOk P w K mg base CX0 (k + 1) f fd ps (spD K ps.length (dDef ps.length (N.length - ps.length) body)) := ok_def F S fun cdv A outer s H E hr => ⟨_, hb f cdv A outer s H E hr, ssS⟩
theorem relInt {i : Int} {t : Tok} : RelV (.int i) (.int i t) := ⟨t, rfl⟩
theorem relStr {z : Str} {t : Tok} : RelV (.str z) (.str z t) := ⟨t, rfl⟩
/-- the law's beginning: the script alone -/
theorem law_start {H : Hp} {a : Addr} {ns : List Int} {d : DF} {E : XK} (hS : SqL K H a (ns.map V.int)) (hd : d [.scr ns] [] (fun sv _ => sv = .val (.bl true)) fun _ _ => False) : spD K 1 d [.ref a] H (fun v _ => v = .bl true) E := by
  have no : ∀ {b : Addr}, ¬ OwnAt [some (V.ref a)] [some (SV.scr ns)] b := fun {b} ⟨i, xs, e, _⟩ => by
    cases i with
    | zero => cases e
    | succ i => simp at e
  refine ⟨rfl, fun _ => False, [], [], [.scr ns], _, ⟨rfl, fun i sv e => ?_, fun p hp => (nomatch hp), fun i j xs ys a e1 _ s1 _ => absurd ⟨i, xs, e1, s1⟩ no, ⟨rfl, List.nodup_nil, fun n a c e _ => by simp at e⟩, fun b o e _ => e, fun b q => q, ⟨[], rfl, by simp⟩, fun b q => q.elim False.elim False.elim, fun b q => q.elim False.elim False.elim⟩, hd, fun m' v H' sv h' _ _ r q => ?_⟩
  · cases i with
    | zero =>
      cases e
      refine ⟨.ref a, rfl, ⟨a, rfl, ?_⟩, fun b _ => .inr ⟨no, fun q => q⟩⟩
      rcases hS with hS | hS
      · exact .inl ⟨hS, by simp⟩
      · exact .inr fun H' => .inr hS
    | succ i => simp at e
  · subst q
    cases r
    rfl
end
section
variable {X : Cx} {W : WX} {e : Expr} {es : List Expr} {fs : DA} {pos p : Pos} {x : Str}
theorem pd_callF {n k k' : Nat} {d : DF} (F : FnAt X.prog X.w X.K X.mg X.base k x n d) (hr : Room k' X.A) (hk : k ≤ k') (ha : PAd X W (e :: es) fs)
    (hg : Gl X x := by rfl) (hdb : (x == ("__debug__" : Str)) = false := by decide) (he : starEach (e :: es) X.env = (false, eval e X.env) :: starEach es X.env := by rfl) (hpl : (backTo pos (starEach es X.env)).any (·.1) = false := by rfl) : PEd X W (.Call (.Name x p) (e :: es) [] pos) (dCall n d fs) := by
  obtain ⟨f, fd, ps, hm, kp, hb, G⟩ := F.at_
  exact pd_call G (hr.mono hk) hm kp hb ha hg hdb he hpl
theorem pd_callF0 {k k' : Nat} {d : DF} (F : FnAt X.prog X.w X.K X.mg X.base k x 0 d) (hr : Room k' X.A) (hk : k ≤ k') (hg : Gl X x := by rfl) (hdb : (x == ("__debug__" : Str)) = false := by decide) : PEd X W (.Call (.Name x p) [] [] pos) (dCall 0 d dNil) := by
  obtain ⟨f, fd, ps, hm, kp, hb, G⟩ := F.at_
  exact pd_call0 G (hr.mono hk) hm kp hb hg hdb
/-! the built-ins -/
abbrev BNone (X : Cx) (x : Str) : Prop := X.mg x = none
theorem bt_len : bootBuiltins "len" = some (.builtin "len") := by decide +kernel
theorem bt_max : bootBuiltins "max" = some (.builtin "max") := by decide +kernel
theorem bt_min : bootBuiltins "min" = some (.builtin "min") := by decide +kernel
theorem bt_sum : bootBuiltins "sum" = some (.builtin "sum") := by decide +kernel
theorem bt_all : bootBuiltins "all" = some (.builtin "all") := by decide +kernel
theorem bt_any : bootBuiltins "any" = some (.builtin "any") := by decide +kernel
theorem bt_ord : bootBuiltins "ord" = some (.builtin "ord") := by decide +kernel
theorem bt_int : bootBuiltins "int" = some (.type "int") := by decide +kernel
theorem bt_str : bootBuiltins "str" = some (.type "str") := by decide +kernel
theorem bt_bool : bootBuiltins "bool" = some (.type "bool") := by decide +kernel
theorem bt_list : bootBuiltins "list" = some (.type "list") := by decide +kernel
theorem bt_tuple : bootBuiltins "tuple" = some (.type "tuple") := by decide +kernel
theorem bt_dict : bootBuiltins "dict" = some (.type "dict") := by decide +kernel
variable (hm : X.mg x = none)
theorem pd_len (hm : X.mg "len" = none) (ha : PAd X W (e :: es) fs) (hg : Gl X "len" := by rfl) (he : starEach (e :: es) X.env = (false, eval e X.env) :: starEach es X.env := by rfl) (hpl : (backTo pos (starEach es X.env)).any (·.1) = false := by rfl) : PEd X W (.Call (.Name "len" p) (e :: es) [] pos) (dB (g1 gLen) fs) :=
  pd_cb call_len (cs_1 us_len) bt_len hm ha hg (by decide) (by decide) he hpl
theorem pd_max (hc : X.calm = true) (hm : X.mg "max" = none) (ha : PAd X W (e :: es) fs) (hg : Gl X "max" := by rfl) (he : starEach (e :: es) X.env = (false, eval e X.env) :: starEach es X.env := by rfl) (hpl : (backTo pos (starEach es X.env)).any (·.1) = false := by rfl) : PEd X W (.Call (.Name "max" p) (e :: es) [] pos) (dB gMax fs) :=
  pd_cb (cr_maxA hc) cs_max bt_max hm ha hg (by decide) (by decide) he hpl
theorem pd_min (hc : X.calm = true) (hm : X.mg "min" = none) (ha : PAd X W (e :: es) fs) (hg : Gl X "min" := by rfl) (he : starEach (e :: es) X.env = (false, eval e X.env) :: starEach es X.env := by rfl) (hpl : (backTo pos (starEach es X.env)).any (·.1) = false := by rfl) : PEd X W (.Call (.Name "min" p) (e :: es) [] pos) (dB gMin fs) :=
  pd_cb (cr_minA hc) cs_min bt_min hm ha hg (by decide) (by decide) he hpl
theorem pd_sum (hc : X.calm = true) (hm : X.mg "sum" = none) (ha : PAd X W (e :: es) fs) (hg : Gl X "sum" := by rfl) (he : starEach (e :: es) X.env = (false, eval e X.env) :: starEach es X.env := by rfl) (hpl : (backTo pos (starEach es X.env)).any (·.1) = false := by rfl) : PEd X W (.Call (.Name "sum" p) (e :: es) [] pos) (dB (g1 gSum) fs) :=
  pd_cb (cr_sum hc) (cs_1 us_sum) bt_sum hm ha hg (by decide) (by decide) he hpl
theorem pd_all (hc : X.calm = true) (hm : X.mg "all" = none) (ha : PAd X W (e :: es) fs) (hg : Gl X "all" := by rfl) (he : starEach (e :: es) X.env = (false, eval e X.env) :: starEach es X.env := by rfl) (hpl : (backTo pos (starEach es X.env)).any (·.1) = false := by rfl) : PEd X W (.Call (.Name "all" p) (e :: es) [] pos) (dB (g1 gAll) fs) :=
  pd_cb (cr_all hc) (cs_1 us_all) bt_all hm ha hg (by decide) (by decide) he hpl
theorem pd_any (hc : X.calm = true) (hm : X.mg "any" = none) (ha : PAd X W (e :: es) fs) (hg : Gl X "any" := by rfl) (he : starEach (e :: es) X.env = (false, eval e X.env) :: starEach es X.env := by rfl) (hpl : (backTo pos (starEach es X.env)).any (·.1) = false := by rfl) : PEd X W (.Call (.Name "any" p) (e :: es) [] pos) (dB (g1 gAny) fs) :=
  pd_cb (cr_any hc) (cs_1 us_any) bt_any hm ha hg (by decide) (by decide) he hpl
theorem pd_ord (hm : X.mg "ord" = none) (ha : PAd X W (e :: es) fs) (hg : Gl X "ord" := by rfl) (he : starEach (e :: es) X.env = (false, eval e X.env) :: starEach es X.env := by rfl) (hpl : (backTo pos (starEach es X.env)).any (·.1) = false := by rfl) : PEd X W (.Call (.Name "ord" p) (e :: es) [] pos) (dB (g1 gOrd) fs) :=
  pd_cb call_ord (cs_1 us_ord) bt_ord hm ha hg (by decide) (by decide) he hpl
theorem pd_int1 (hm : X.mg "int" = none) (ha : PAd X W (e :: es) fs) (hg : Gl X "int" := by rfl) (he : starEach (e :: es) X.env = (false, eval e X.env) :: starEach es X.env := by rfl) (hpl : (backTo pos (starEach es X.env)).any (·.1) = false := by rfl) : PEd X W (.Call (.Name "int" p) (e :: es) [] pos) (dB (g1 gInt1) fs) :=
  pd_ct call_int1 (cs_1 us_int1) bt_int hm ha hg (by decide) (by decide) he hpl
theorem pd_list (hm : X.mg "list" = none) (ha : PAd X W (e :: es) fs) (hg : Gl X "list" := by rfl) (he : starEach (e :: es) X.env = (false, eval e X.env) :: starEach es X.env := by rfl) (hpl : (backTo pos (starEach es X.env)).any (·.1) = false := by rfl) : PEd X W (.Call (.Name "list" p) (e :: es) [] pos) (dB (g1 gList) fs) :=
  pd_ct call_list_of (cs_1 us_list) bt_list hm ha hg (by decide) (by decide) he hpl
theorem pd_tuple (hm : X.mg "tuple" = none) (ha : PAd X W (e :: es) fs) (hg : Gl X "tuple" := by rfl) (he : starEach (e :: es) X.env = (false, eval e X.env) :: starEach es X.env := by rfl) (hpl : (backTo pos (starEach es X.env)).any (·.1) = false := by rfl) : PEd X W (.Call (.Name "tuple" p) (e :: es) [] pos) (dB (g1 gTuple) fs) :=
  pd_ct call_tuple_of (cs_1 us_tuple) bt_tuple hm ha hg (by decide) (by decide) he hpl
end
end PM

namespace PM
open PySem PySem.Spec L2
open PyProof.Rows hiding St
section
variable {K : PySem.W.Frag} {W : WX}
def rIns : V → List V → Hp → VK → Prop := fun x vs H Q => ∃ (l : Addr) (xs : List V) (i : Int) (y : V), x = .ref l ∧ vs = [.int i, y] ∧ H l = some (.lst xs) ∧ xs.length < sizeLine ∧ 0 ≤ i ∧ i < 2 ^ 63 ∧
    Q .non (upd H l (.lst (xs.take i.toNat ++ [y] ++ xs.drop i.toNat)))
/-- x.insert(j, e), x a name that holds a list of its own -/
def sInsV (i : Nat) (fj e : DE) : DS := fun D env h => match env[i]? with
  | some (some (.own xs)) => fj env h (fun j h1 => match j with
      | .val (.int k) => e env h1 (fun y h2 => match y.toVal with
          | some p => xs.length < sizeLine ∧ 0 ≤ k ∧ k < 2 ^ 63 ∧ D.nx (env.set i (some (.own (xs.take k.toNat ++ [p] ++ xs.drop k.toNat)))) h2
          | none => False) fun c h2 => D.ex c env h2
      | _ => False) fun c h1 => D.ex c env h1
  | _ => False
@[simp ↓] theorem sInsV_eq (i : Nat) (fj e : DE) (D : DEnds) (env : Env) (h : Hs) : sInsV i fj e D env h = (match env[i]? with
  | some (some (.own xs)) => fj env h (fun j h1 => match j with
      | .val (.int k) => e env h1 (fun y h2 => match y.toVal with
          | some p => xs.length < sizeLine ∧ 0 ≤ k ∧ k < 2 ^ 63 ∧ D.nx (env.set i (some (.own (xs.take k.toNat ++ [p] ++ xs.drop k.toNat)))) h2
          | none => False) fun c h2 => D.ex c env h2
      | _ => False) fun c h1 => D.ex c env h1
  | _ => False) := id rfl
theorem ss_insV {tj te : TE} {fj fe : DE} (i : Nat) (hj : SE K W tj fj) (he : SE K W te fe) : SS K W (tDrop (tBM K "list" rIns (tVar i) (tCons tj (tCons te tNil)))) (sInsV i fj fe) := ⟨fun C m σ H env h Df D eK R hf p => by
  unfold sInsV at hf
  split at hf
  · rename_i xs e0
    obtain ⟨a, vs, s0, ha, _⟩ := R.owned e0
    refine ⟨_, s0, .inl ⟨rfl, vs, .inl (.inl ha)⟩, ?_⟩
    refine hj.run C m σ H env h _ _ _ eK R hf (fun m0 j H0 sj h0 S0 R0 r0 q0 => ?_) p.px
    split at q0
    · rename_i k
      cases r0
      refine he.run C m0 σ H0 env h0 _ _ _ eK R0.drop q0 (fun m1 y H1 sy h1 S1 R1 r1 q1 => ?_) p.px
      split at q1
      · rename_i pv ep
        obtain ⟨l, k0, k1, q1⟩ := q1
        obtain ⟨a1, vs1, s1, ha1, q3⟩ := R1.drop.owned e0
        rw [s0] at s1
        cases s1
        have ry := R0.drop.toVal r1 ep
        refine ⟨a, vs1, k, y, rfl, rfl, ha1, by rw [q3.length]; exact l, k0, k1, ?_⟩
        exact p.nx m1 σ _ _ h1 (R1.drop.mutOwn e0 s0 (((q3.take _).append (.cons ry .nil)).append (q3.drop _))) q1
      · exact q1.elim
    · exact q0.elim
  · exact hf.elim⟩
end
section
variable {X : Cx} {W : WX} {e j : Expr} {fe fj : DE} {apos cpos pos : Pos}
theorem pe_ins {to : TE} {o : Expr} {t : TA} (ho : PE X o to) (ha : PA X [j, e] t) (hbase : attributeBase o "insert" X.env (eval o X.env) = eval o X.env := by rfl)
    (hfew : ((backTo cpos (starEach [j, e] X.env)).all (fun x => !x.1) && (backToKw cpos (keywordEach [] X.env)).all (fun x => x.1.isSome) && decide (([j, e] : List Expr).length + ([] : List Keyword).length + (if ([] : List Keyword).isEmpty then 0 else 1) < 30)) = true := by rfl)
    (hline : (apos.endLine == cpos.line) = true := by rfl) (hs : starEach [j, e] X.env = (false, eval j X.env) :: starEach [e] X.env := by rfl) (hplain : (backTo cpos (starEach [e] X.env)).any (·.1) = false := by rfl) :
    PE X (.Call (.Attribute o "insert" apos) [j, e] [] cpos) (tBM X.K "list" rIns to t) := pe_bm PySem.F.plainAttrs_list PySem.F.slot_list_insert PySem.F.type_list_insert mt_insert ho ha hbase hfew hline hs hplain
theorem psd_insV (i : Nat) {x : Str} {p : Pos} (hj : PEd X W j fj) (he : PEd X W e fe) (hN : X.N[i]? = some x := by rfl) (hv : Vis X.env.scope x := by first | exact Or.inl rfl | exact Or.inr (Or.inl rfl) | exact Or.inr (Or.inr rfl)) (hd : (x == ("__debug__" : Str)) = false := by decide) (hcd : (x == ("__classdict__" : Str)) = false := by decide)
    (hbase : attributeBase (.Name x p) "insert" X.env (eval (.Name x p) X.env) = eval (.Name x p) X.env := by rfl)
    (hfew : ((backTo cpos (starEach [j, e] X.env)).all (fun x => !x.1) && (backToKw cpos (keywordEach [] X.env)).all (fun x => x.1.isSome) && decide (([j, e] : List Expr).length + ([] : List Keyword).length + (if ([] : List Keyword).isEmpty then 0 else 1) < 30)) = true := by rfl)
    (hline : (apos.endLine == cpos.line) = true := by rfl) (hs : starEach [j, e] X.env = (false, eval j X.env) :: starEach [e] X.env := by rfl) (hplain : (backTo cpos (starEach [e] X.env)).any (·.1) = false := by rfl)
    (hs1 : starEach [e] X.env = (false, eval e X.env) :: starEach [] X.env := by rfl)
    (hsw : swapsWith (.Call (.Attribute (.Name x p) "insert" apos) [j, e] [] cpos) none pos.line X.env = pure false := by rfl) :
    PSd X W (.Expr (.Call (.Attribute (.Name x p) "insert" apos) [j, e] [] cpos) pos) (sInsV i fj fe) := .of (ps_expr (pe_ins (pe_var hN hv hd hcd) (pa_cons hj (pa_cons he pa_nil hs1) hs) hbase hfew hline hs hplain) hsw) (ss_insV i seE seE)
end
end PM

namespace PM
open PySem PySem.Spec L2
open PyProof.Rows hiding St
theorem tuple_mul0 (l : Addr) (items : Array Value) (n : Nat) (dd : Option Addr) (sl : Array (Option Value)) (u : Tok) (c1 : items.isEmpty = false) :
    Meets (Builtin.«tuple.__mul__» ⟨[.ref l, .int 0 u], []⟩) (fun _ R s => s.heap.get? l = some { cls := .type "tuple", dict := dd, data := .seq items n, slots := sl } ∧
      R (.ok (.ret (Value.ref s.heap.objs.size))) { s with heap := s.heap.push { cls := Value.type "tuple", data := Data.seq #[] }, toks := s.toks }) :=
  .of_wp fun prog w A R s h => by
    obtain ⟨hp, g, d, tk, os⟩ := s
    obtain ⟨hl, h⟩ := h
    have f1 := AutoSeq1.idx_int
    have c0 : (decide ((0 : Int) < -(2 ^ 63)) || decide ((0 : Int) ≥ 2 ^ 63)) = false := by decide
    have c2 : (items.isEmpty || (0 : Int) == 1) = false := by rw [c1]; rfl
    wp_walk using wpAny_loadPart' hl
    repeat (first
      | (refine wpAny_ite_false (decide_eq_false (by rw [c0]; exact Bool.false_ne_true)) ?_; wp_walk using wpAny_loadPart' hl)
      | (refine wpAny_ite_false (decide_eq_false (by rw [c2]; exact Bool.false_ne_true)) ?_; wp_walk using wpAny_loadPart' hl)
      | (refine wpAny_ite_true (decide_eq_true (by rfl)) ?_; wp_walk using wpAny_loadPart' hl))
    exact ⟨_, rfl, h⟩
theorem tuple_mul1 (l : Addr) (items : Array Value) (n : Nat) (dd : Option Addr) (sl : Array (Option Value)) (u : Tok) :
    Meets (Builtin.«tuple.__mul__» ⟨[.ref l, .int 1 u], []⟩) (fun _ R s => s.heap.get? l = some { cls := .type "tuple", dict := dd, data := .seq items n, slots := sl } ∧
      R (.ok (.ret (Value.ref l))) s) :=
  .of_wp fun prog w A R s h => by
    obtain ⟨hp, g, d, tk, os⟩ := s
    obtain ⟨hl, h⟩ := h
    have f1 := AutoSeq1.idx_int
    have c0 : (decide ((1 : Int) < -(2 ^ 63)) || decide ((1 : Int) ≥ 2 ^ 63)) = false := by decide
    have c2 : (items.isEmpty || (1 : Int) == 1) = true := by cases items.isEmpty <;> rfl
    wp_walk using wpAny_loadPart' hl
    repeat (first
      | (refine wpAny_ite_false (decide_eq_false (by rw [c0]; exact Bool.false_ne_true)) ?_; wp_walk using wpAny_loadPart' hl)
      | (refine wpAny_ite_true (decide_eq_true c2) ?_; wp_walk using wpAny_loadPart' hl)
      | (refine wpAny_ite_true (decide_eq_true (by rfl)) ?_; wp_walk using wpAny_loadPart' hl))
    exact ⟨_, rfl, h⟩
section
variable {X : Cx}
def rRepT0 (K : PySem.W.Frag) : R2 := fun x y H Q => ∃ l xs, x = .ref l ∧ y = .int 0 ∧ SqT K H l xs ∧ xs ≠ [] ∧ ∀ p, H p = none → Q (.ref p) (upd H p (.tup []))
def rRepT1 (K : PySem.W.Frag) : R2 := fun x y H Q => ∃ l xs, x = .ref l ∧ y = .int 1 ∧ SqT K H l xs ∧ Q (.ref l) H
theorem op_repT0 : OpR X (binaryOp .Mult) (rRepT0 X.K) := by
  intro pins s σ H x y v u Q I rx ry h
  obtain ⟨l, xs, rfl, rfl, hT, hne, q⟩ := h
  cases rx
  obtain ⟨t, rfl⟩ := ry
  obtain ⟨its, r, ⟨⟨cls, dd, data, sl⟩, ho, hc, n, hd⟩, hs⟩ := I.tuple hT
  simp only at hc hd
  subst hc hd
  have hle : its.length = xs.length := r.length.symm
  have hn : its ≠ [] := fun e => hne (by
    rw [e] at hle
    exact List.eq_nil_of_length_eq_zero hle.symm)
  have hi : its.toArray.isEmpty = false := by
    cases its with
    | nil => exact absurd rfl hn
    | cons a b => rfl
  refine wpAny_binaryOp_repeat_ref (T := "tuple") (U := "int") (by decide) ⟨_, ho, rfl⟩ (fun s' => typeIs_int s' 0 t) noFill_tuple_mul F.fills_int_mul F.slot_int_rmul repeat_tuple F.slot_int_index.lookup
    (call_meets F.slot_int_rmul (typeIs_int s 0 t) F.entry_int_rmul (F.args_int_rmul_2 _ _) (int_rmul_tuple 0 t l its.toArray n dd sl)
      ⟨ho, rfl, ⟨_, ho, rfl⟩, call_meets F.slot_tuple_mul ⟨_, ho, rfl⟩ F.entry_tuple_mul (F.args_tuple_mul_2 _ _) (tuple_mul0 l its.toArray n dd sl t hi) ⟨ho, ?_⟩⟩)
  refine ⟨.ref s.heap.objs.size, _, I.laid (t' := s.toks) (o := .tup []) (fun b ob q => Heap.get?_push_of_some _ q) (Nat.le_refl _) ?_, rfl, q _ (I.hok.fresh (Nat.le_refl _))⟩
  exact ⟨Nat.zero_le _, [], .nil, IsTup.new _ _⟩
theorem op_repT1 : OpR X (binaryOp .Mult) (rRepT1 X.K) := by
  intro pins s σ H x y v u Q I rx ry h
  obtain ⟨l, xs, rfl, rfl, hT, q⟩ := h
  cases rx
  obtain ⟨t, rfl⟩ := ry
  obtain ⟨its, r, ⟨⟨cls, dd, data, sl⟩, ho, hc, n, hd⟩, hs⟩ := I.tuple hT
  simp only at hc hd
  subst hc hd
  exact wpAny_binaryOp_repeat_ref (T := "tuple") (U := "int") (by decide) ⟨_, ho, rfl⟩ (fun s' => typeIs_int s' 1 t) noFill_tuple_mul F.fills_int_mul F.slot_int_rmul repeat_tuple F.slot_int_index.lookup
    (call_meets F.slot_int_rmul (typeIs_int s 1 t) F.entry_int_rmul (F.args_int_rmul_2 _ _) (int_rmul_tuple 1 t l its.toArray n dd sl)
      ⟨ho, rfl, ⟨_, ho, rfl⟩, call_meets F.slot_tuple_mul ⟨_, ho, rfl⟩ F.entry_tuple_mul (F.args_tuple_mul_2 _ _) (tuple_mul1 l its.toArray n dd sl t) ⟨ho, ⟨.ref l, H, I, rfl, q⟩⟩⟩)
def repS (k : Nat) (z : Str) : Str := ⟨(List.replicate k z.cps).foldl (· ++ ·) #[]⟩
def rRepS : R2 := fun x y H Q => ∃ z k, x = .str z ∧ y = .int k ∧ 2 ≤ k ∧ k ≤ 1000 ∧ 0 < z.length ∧ z.length ≤ 1000 ∧ Q (.str (repS k.toNat z)) H
theorem op_repS : OpR X (binaryOp .Mult) rRepS := by
  intro pins s σ H x y v u Q I rx ry h
  obtain ⟨z, k, rfl, rfl, h1, h2, h3, hz, q⟩ := h
  obtain ⟨t0, rfl⟩ := rx
  obtain ⟨t, rfl⟩ := ry
  have e1 : ¬ k < 1 := by omega
  have e2 : (k == 1 || z.length == 0) = false := by
    rw [beq_eq_false_iff_ne.mpr (by omega : k ≠ 1), beq_eq_false_iff_ne.mpr (by omega : z.length ≠ 0)]
    rfl
  refine PySem.P.mul_str (by rw [decide_eq_false (by omega), decide_eq_false (by omega)]; rfl) (fun _ _ => ?_) (fun _ _ => ?_) ?_
  · have a0 : ((z.length : Nat) : Int) * k ≤ 1000 * k := Int.mul_le_mul_of_nonneg_right (by omega) (by omega)
    have : ((z.length : Nat) : Int) ≤ (2 ^ 63 - 1) / k := Int.le_ediv_of_mul_le (by omega) (by omega)
    omega
  · unfold Builtin.Str.tooLong
    have a1 : z.length * k.toNat ≤ 1000 * 1000 := Nat.mul_le_mul hz (by omega)
    rw [sizeLine_eq]
    exact decide_eq_false (by omega)
  · rw [if_neg e1, e2, if_neg (by decide)]
    refine ⟨?_, ?_⟩
    · have e : (List.foldl (fun x1 x2 => x1 ++ x2) #[] (List.replicate k.toNat z.cps)).size = k.toNat * z.length := by
        have g : ∀ (n : Nat) (a acc : Array Nat), (List.foldl (fun x1 x2 => x1 ++ x2) acc (List.replicate n a)).size = acc.size + n * a.size := fun n a => by
          induction n with
          | zero => intro acc; simp
          | succ n ih => intro acc; rw [List.replicate_succ, List.foldl_cons, ih, Array.size_append, Nat.succ_mul]; omega
        have := g k.toNat z.cps #[]
        rw [this]
        simp [Str.length]
      show (List.foldl (fun x1 x2 => x1 ++ x2) #[] (List.replicate k.toNat z.cps)).size ≤ sizeLine
      have a1 : k.toNat * z.length ≤ 1000 * 1000 := Nat.mul_le_mul (by omega) hz
      rw [e, sizeLine_eq]
      omega
    · exact ⟨.str (repS k.toNat z), H, I.tok _, ⟨_, rfl⟩, q⟩
def rMulX (K : PySem.W.Frag) : R2 := fun x y H Q => rMulA K x y H Q ∨ rRepT0 K x y H Q ∨ rRepT1 K x y H Q ∨ rRepS x y H Q
theorem op_mulX2 : OpR X (binaryOp .Mult) (rMulX X.K) := op_mulA.or (op_repT0.or (op_repT1.or op_repS))
end
/-- * : ints, a tuple and an int not below 0, a list and an int, a text and an int above 1 -/
def gMulX : G2 := fun h x y q => match x, y with
  | .val (.int i), .val (.int j) => CMul i j ∧ q (.val (.int (i * j)))
  | .val (.str z), .val (.int k) => 2 ≤ k ∧ k ≤ 1000 ∧ 0 < z.length ∧ z.length ≤ 1000 ∧ q (.val (.str (repS k.toNat z)))
  | .val (.tup xs), .val (.int k) => xs ≠ [] ∧ 0 ≤ k ∧ k ≤ 1000 ∧ xs.length ≤ 1000 ∧ q (.val (.tup (repN k.toNat xs)))
  | .own xs, .val (.int k) => -(2 ^ 63) ≤ k ∧ k < 2 ^ 63 ∧ xs.length * k.toNat ≤ sizeLine ∧ q (.own (repN k.toNat xs))
  | _, _ => False
@[simp ↓] theorem gMulX_eq (h : Hs) (x y : SV) (q : SV → Prop) : gMulX h x y q = (match x, y with
  | .val (.int i), .val (.int j) => CMul i j ∧ q (.val (.int (i * j)))
  | .val (.str z), .val (.int k) => 2 ≤ k ∧ k ≤ 1000 ∧ 0 < z.length ∧ z.length ≤ 1000 ∧ q (.val (.str (repS k.toNat z)))
  | .val (.tup xs), .val (.int k) => xs ≠ [] ∧ 0 ≤ k ∧ k ≤ 1000 ∧ xs.length ≤ 1000 ∧ q (.val (.tup (repN k.toNat xs)))
  | .own xs, .val (.int k) => -(2 ^ 63) ≤ k ∧ k < 2 ^ 63 ∧ xs.length * k.toNat ≤ sizeLine ∧ q (.own (repN k.toNat xs))
  | _, _ => False) := id rfl
theorem os_mulX {K : PySem.W.Frag} : OpS K (rMulX K) gMulX := fun C m σ H env h x y sx sy q Q' eK R rx ry hg p => by
  have base := os_mul C m σ H env h x y sx sy q Q' eK R rx ry
  subst eK
  unfold gMulX at hg
  split at hg
  · exact .inl (base hg p)
  · cases rx; cases ry
    exact .inr (.inr (.inr ⟨_, _, rfl, rfl, hg.1, hg.2.1, hg.2.2.1, hg.2.2.2.1, p.str R hg.2.2.2.2⟩))
  · rename_i xs k
    obtain ⟨hne, h0, h1, h2, hq⟩ := hg
    by_cases k2 : 2 ≤ k
    · exact .inl (base ⟨hne, k2, h1, h2, hq⟩ p)
    · cases rx with
      | tup ha qa =>
        cases ry
        have hn : ∀ vs, RepL C.K (ExOf C σ env m) m H vs xs → vs ≠ [] := fun vs r e => hne (by subst e; cases r; rfl)
        by_cases k1 : k = 1
        · subst k1
          rw [show repN (1 : Int).toNat xs = xs by simp [repN]] at hq
          exact .inr (.inr (.inl ⟨_, _, rfl, rfl, ha.sq, p.at R (.tup ha qa) hq⟩))
        · obtain rfl : k = 0 := by omega
          rw [show repN (0 : Int).toNat xs = [] by simp [repN]] at hq
          exact .inr (.inl ⟨_, _, rfl, rfl, ha.sq, hn _ qa, fun a n => p.newT R .nil hq n⟩)
  · exact .inl (base hg p)
  · exact hg.elim
section
variable {X : Cx} {W : WX} {a b : Expr} {fa fb : DE} {pos : Pos}
theorem pd_mulX (ha : PEd X W a fa) (hb : PEd X W b fb) : PEd X W (.BinOp a .Mult b pos) (dOp gMulX fa fb) := .of (pe_op op_mulX2 ha hb) (se_op os_mulX seE seE)
end
/-! abs -/
def gAbs : G1 := fun _ x q => match x with
  | .val (.int i) => q (.val (.int (if i < 0 then -i else i)))
  | _ => False
@[simp ↓] theorem gAbs_eq (h : Hs) (x : SV) (q : SV → Prop) : gAbs h x q = (match x with
  | .val (.int i) => q (.val (.int (if i < 0 then -i else i)))
  | _ => False) := id rfl
theorem us_abs {K : PySem.W.Frag} : UnS K (fun x H Q => ∃ i, [x] = [V.int i] ∧ Q (.int (if i < 0 then -i else i)) H) gAbs := fun C m σ H env h x sx q Q' eK R rx hg p => by
  subst eK
  unfold gAbs at hg
  split at hg
  · cases rx
    exact ⟨_, rfl, p.int R hg⟩
  · exact hg.elim
theorem bt_abs : bootBuiltins "abs" = some (.builtin "abs") := by decide +kernel
section
variable {X : Cx} {W : WX} {e : Expr} {es : List Expr} {fs : DA} {p pos : Pos}
theorem pd_abs (hm : X.mg "abs" = none) (ha : PAd X W (e :: es) fs) (hg : Gl X "abs" := by rfl) (he : starEach (e :: es) X.env = (false, eval e X.env) :: starEach es X.env := by rfl) (hpl : (backTo pos (starEach es X.env)).any (·.1) = false := by rfl) : PEd X W (.Call (.Name "abs" p) (e :: es) [] pos) (dB (g1 gAbs) fs) :=
  pd_cb call_abs (cs_1 us_abs) bt_abs hm ha hg (by decide) (by decide) he hpl
end
end PM


namespace PM
open PySem PySem.Spec L2
open PyProof.Rows hiding St

/-! ### words for evaluation -/
@[simp] theorem blsOf_mapf {α : Type} (l : List α) (f : α → Bool) : blsOf (l.map fun a => .bl (f a)) = some (l.map f) := by
  induction l with
  | nil => rfl
  | cons a l ih => simp [blsOf, ih]
@[simp] theorem intsOf_mapf {α : Type} (l : List α) (f : α → Int) : intsOf (l.map fun a => .int (f a)) = some (l.map f) := by
  induction l with
  | nil => rfl
  | cons a l ih => simp [intsOf, ih]
section
variable {chk : Hs → Prop} {bd : DB} {tt : DT} {te : DE} {env : Env} {h : Hs} {Q : List PV → Hs → Prop}
/-- a comprehension that changes nothing -/
theorem compL_eq {α : Type} (e1 : α → Env) (sv : α → SV) (f g : α → PV) (hc : chk h) (hsv : ∀ a, (sv a).toVal = some (g a)) : ∀ (l : List α) (acc : List PV), (∀ a ∈ l, ∀ q, bd (f a) env q = q (e1 a)) → (∀ a ∈ l, ∀ Q E, te (e1 a) h Q E = Q (sv a) h) → acc.length + l.length ≤ sizeLine →
    compL chk bd dYes te env (l.map f) acc h Q = Q (acc ++ l.map g) h
  | [], acc, _, _, _ => by simp [hc]
  | a :: l, acc, hb, he, hl => by
    have ih := compL_eq e1 sv f g hc hsv l (acc ++ [g a]) (fun b m => hb b (List.mem_cons_of_mem _ m)) (fun b m => he b (List.mem_cons_of_mem _ m)) (by simp at hl ⊢; omega)
    have l1 : acc.length < sizeLine := by simp at hl; omega
    rw [List.map_cons, compL, hb a List.mem_cons_self]
    simp only [dYes, if_true, he a List.mem_cons_self, hsv, hc, l1, true_and, ih]
    simp
/-- .. with a test -/
theorem compL_feq {α : Type} (e1 : α → Env) (sv : α → SV) (f g : α → PV) (p : α → Bool) (hc : chk h) (hsv : ∀ a, (sv a).toVal = some (g a)) : ∀ (l : List α) (acc : List PV), (∀ a ∈ l, ∀ q, bd (f a) env q = q (e1 a)) → (∀ a ∈ l, ∀ Q E, tt (e1 a) h Q E = Q (p a) h) → (∀ a ∈ l, p a = true → ∀ Q E, te (e1 a) h Q E = Q (sv a) h) → acc.length + l.length ≤ sizeLine →
    compL chk bd tt te env (l.map f) acc h Q = Q (acc ++ (l.filter p).map g) h
  | [], acc, _, _, _, _ => by simp [hc]
  | a :: l, acc, hb, ht, he, hl => by
    have l1 : acc.length < sizeLine := by simp at hl; omega
    rw [List.map_cons, compL, hb a List.mem_cons_self]
    simp only [ht a List.mem_cons_self, hc, true_and]
    by_cases pa : p a = true
    · have ih := compL_feq e1 sv f g p hc hsv l (acc ++ [g a]) (fun b m => hb b (List.mem_cons_of_mem _ m)) (fun b m => ht b (List.mem_cons_of_mem _ m)) (fun b m => he b (List.mem_cons_of_mem _ m)) (by simp at hl ⊢; omega)
      simp only [pa, if_true, he a List.mem_cons_self pa, hsv, l1, true_and, ih]
      simp [List.filter_cons, pa]
    · have ih := compL_feq e1 sv f g p hc hsv l acc (fun b m => hb b (List.mem_cons_of_mem _ m)) (fun b m => ht b (List.mem_cons_of_mem _ m)) (fun b m => he b (List.mem_cons_of_mem _ m)) (by simp at hl ⊢; omega)
      simp only [pa, if_false, ih]
      simp [List.filter_cons, pa]
theorem compL_id (e1 : PV → Env) (sv : PV → SV) (g : PV → PV) (hc : chk h) (hsv : ∀ a, (sv a).toVal = some (g a)) (l : List PV) (hb : ∀ a ∈ l, ∀ q, bd a env q = q (e1 a)) (he : ∀ a ∈ l, ∀ Q E, te (e1 a) h Q E = Q (sv a) h) (hl : l.length ≤ sizeLine) :
    compL chk bd dYes te env l [] h Q = Q (l.map g) h := by
  have := compL_eq (Q := Q) e1 sv (fun x => x) g hc hsv l [] hb he (by simpa using hl)
  simpa using this
theorem compL_fid (e1 : PV → Env) (sv : PV → SV) (g : PV → PV) (p : PV → Bool) (hc : chk h) (hsv : ∀ a, (sv a).toVal = some (g a)) (l : List PV) (hb : ∀ a ∈ l, ∀ q, bd a env q = q (e1 a)) (ht : ∀ a ∈ l, ∀ Q E, tt (e1 a) h Q E = Q (p a) h) (he : ∀ a ∈ l, p a = true → ∀ Q E, te (e1 a) h Q E = Q (sv a) h) (hl : l.length ≤ sizeLine) :
    compL chk bd tt te env l [] h Q = Q ((l.filter p).map g) h := by
  have := compL_feq (Q := Q) e1 sv (fun x => x) g p hc hsv l [] hb ht he (by simpa using hl)
  simpa using this
/-- any comprehension, by what holds after each turn -/
theorem compL_inv (I : Nat → List PV → Hs → Prop) : ∀ (xs : List PV) (j : Nat) (acc : List PV) (h : Hs), I j acc h →
    (∀ i x, xs[i]? = some x → ∀ acc h, I (j + i) acc h → ∀ N : List PV → Hs → Prop, (∀ acc' h', I (j + i + 1) acc' h' → N acc' h') → chk h ∧ bd x env fun env1 => tt env1 h (fun b h1 => if b = true then te env1 h1 (fun y h2 => match y.toVal with
      | some p => acc.length < sizeLine ∧ N (acc ++ [p]) h2
      | none => False) (fun _ _ => False) else N acc h1) (fun _ _ => False)) →
    (∀ acc h, I (j + xs.length) acc h → chk h ∧ Q acc h) → compL chk bd tt te env xs acc h Q
  | [], j, acc, h, i0, _, he => he acc h i0
  | x :: xs, j, acc, h, i0, hs, he => by
    rw [compL]
    exact hs 0 x rfl acc h i0 _ fun acc' h' i1 => compL_inv I xs (j + 1) acc' h' i1 (fun i y e acc h q N hN => hs (i + 1) y e acc h (by rw [show j + (i + 1) = j + 1 + i by omega]; exact q) N fun a b c => hN a b (by rw [show j + 1 + i + 1 = j + (i + 1) + 1 by omega]; exact c)) fun acc h q => he acc h (by rw [List.length_cons, show j + (xs.length + 1) = j + 1 + xs.length by omega]; exact q)
/-- a for, by what holds after each turn -/
theorem forL_inv {b : DS} {D : DEnds} (I : Nat → Env → Hs → Prop) : ∀ (xs : List PV) (j : Nat) (env : Env) (h : Hs), I j env h →
    (∀ i x, xs[i]? = some x → ∀ env h, I (j + i) env h → ∀ N : Env → Hs → Prop, (∀ env' h', I (j + i + 1) env' h' → N env' h') → chk h ∧ bd x env fun env1 => b { D with nx := N, ct := N, bk := D.nx } env1 h) →
    (∀ env h, I (j + xs.length) env h → chk h ∧ D.nx env h) → forL chk bd b D xs env h
  | [], j, env, h, i0, _, he => he env h i0
  | x :: xs, j, env, h, i0, hs, he => by
    rw [forL]
    exact hs 0 x rfl env h i0 _ fun env' h' i1 => forL_inv I xs (j + 1) env' h' i1 (fun i y e env h q N hN => hs (i + 1) y e env h (by rw [show j + (i + 1) = j + 1 + i by omega]; exact q) N fun a b c => hN a b (by rw [show j + 1 + i + 1 = j + (i + 1) + 1 by omega]; exact c)) fun env h q => he env h (by rw [List.length_cons, show j + (xs.length + 1) = j + 1 + xs.length by omega]; exact q)
end
/-- one statement at a time: what follows is kept shut -/
theorem seq_in {s t : DS} {D : DEnds} {env : Env} {h : Hs} (p : ∀ N : Env → Hs → Prop, (∀ e1 h1, t D e1 h1 → N e1 h1) → s { D with nx := N } env h) : sSeq s t D env h := p _ fun _ _ q => q
/-- the test first: the branches are kept shut -/
theorem if_in {c : DT} {s t : DS} {D : DEnds} {env : Env} {h : Hs} (p : ∀ S T : Env → Hs → Prop, (∀ e1 h1, s D e1 h1 → S e1 h1) → (∀ e1 h1, t D e1 h1 → T e1 h1) → c env h (fun b h1 => if b = true then S env h1 else T env h1) fun x h1 => D.ex x env h1) : sIf c s t D env h := p _ _ (fun _ _ q => q) (fun _ _ q => q)
/-! items -/
theorem atI_pos {α : Type} {xs : List α} {i : Int} (h0 : 0 ≤ i) : atI xs i = xs[i.toNat]? := by
  unfold atI ixN
  rw [if_pos h0]
  split
  · rfl
  · rw [List.getElem?_eq_none (by omega)]
    rfl
theorem atI_nat' {α : Type} {xs : List α} {n : Nat} : atI xs (n : Int) = xs[n]? := by
  rw [atI_pos (by omega)]
  simp
theorem cdivW {i j : Int} (h0 : 0 < j) (h1 : j < 2 ^ 200) : CDivW i j := by
  have h2 : j.natAbs < 2 ^ 200 := by omega
  refine ⟨h0, ?_⟩
  have := (Nat.log2_lt (n := j.natAbs) (k := 200) (by omega)).mpr h2
  omega
@[simp] theorem atI_map {α β : Type} (f : α → β) (xs : List α) (i : Int) : atI (xs.map f) i = (atI xs i).map f := by
  unfold atI
  rw [List.length_map]
  cases ixN xs.length i with
  | none => rfl
  | some j => simp
theorem atI_some {α : Type} {xs : List α} {i : Int} (h0 : 0 ≤ i) (h1 : i < xs.length) : ∃ c, atI xs i = some c := by
  rw [atI_pos h0, List.getElem?_eq_getElem (by omega)]
  exact ⟨_, rfl⟩
theorem atI_mem {α : Type} {xs : List α} {i : Int} {c : α} (e : atI xs i = some c) : c ∈ xs := by
  unfold atI at e
  cases q : ixN xs.length i with
  | none => simp [q] at e
  | some j => exact List.mem_of_getElem? (by simpa [q] using e)
theorem ixN_some {n : Nat} {i : Int} (h0 : 0 ≤ i) (h1 : i < n) : ixN n i = some i.toNat := by
  unfold ixN
  rw [if_pos h0, if_pos (by omega)]
@[simp] theorem atI_0 {α : Type} (a : α) (l : List α) : atI (a :: l) 0 = some a := by rw [atI_pos (by decide)]; rfl
@[simp] theorem atI_1 {α : Type} (a b : α) (l : List α) : atI (a :: b :: l) 1 = some b := by rw [atI_pos (by decide)]; rfl
@[simp] theorem atI_2 {α : Type} (a b c : α) (l : List α) : atI (a :: b :: c :: l) 2 = some c := by rw [atI_pos (by decide)]; rfl
@[simp] theorem atI_3 {α : Type} (a b c d : α) (l : List α) : atI (a :: b :: c :: d :: l) 3 = some d := by rw [atI_pos (by decide)]; rfl
@[simp] theorem atI_4 {α : Type} (a b c d e : α) (l : List α) : atI (a :: b :: c :: d :: e :: l) 4 = some e := by rw [atI_pos (by decide)]; rfl
/-- the number at an index -/
def gd (v : List Int) (k : Nat) : Int := v.getD k 0
theorem atI_getD {v : List Int} {k : Nat} (h : k < v.length) : atI v (k : Int) = some (gd v k) := by
  unfold gd
  rw [atI_nat', List.getElem?_eq_getElem h]
  simp [List.getD, h]
theorem cmulR {i j : Int} (h : j.natAbs < 2 ^ 64) : CMul i j := Or.inr (by omega)
theorem cmulL {i j : Int} (h : i.natAbs < 2 ^ 64) : CMul i j := Or.inl (by omega)
@[simp] theorem cpow_lit {i j : Int} : CPow i j ↔ (0 ≤ j ∧ j ≤ 1000000 ∧ i.natAbs < 2 ^ 64) := Iff.rfl
theorem szL {n : Nat} (h : n ≤ 8192) : n ≤ sizeLine := Nat.le_trans h (by show 8192 ≤ sizeLine; decide)
theorem szLt {n : Nat} (h : n < 8192) : n < sizeLine := Nat.lt_of_lt_of_le h (szL (by omega))
theorem rangeP_map (lo : Int) (n : Nat) : rangeP lo n = (List.range n).map fun k => .int (lo + (k : Nat)) := rfl
theorem rangeP_get {lo : Int} {n i : Nat} {x : PV} (e : (rangeP lo n)[i]? = some x) : i < n ∧ x = .int (lo + i) := by
  unfold rangeP at e
  rw [List.getElem?_map] at e
  by_cases hi : i < n
  · rw [List.getElem?_range hi] at e
    cases e
    exact ⟨hi, rfl⟩
  · rw [List.getElem?_eq_none (by rw [List.length_range]; omega)] at e
    cases e
theorem rangeP_succ (lo : Int) (n : Nat) : rangeP lo (n + 1) = .int lo :: rangeP (lo + 1) n := by
  unfold rangeP
  rw [List.range_succ_eq_map, List.map_cons, List.map_map]
  congr 1
  · simp
  · apply List.map_congr_left
    intro k _
    simp
    omega
theorem rangeP_len (lo : Int) (n : Nat) : (rangeP lo n).length = n := by simp [rangeP]
theorem pairs_ints (xs ys : List Int) : pairs (xs.map .int) (ys.map .int) = (xs.zip ys).map fun p => .tup [.int p.1, .int p.2] := by
  induction xs generalizing ys with
  | nil => simp [pairs]
  | cons x xs ih => cases ys with
    | nil => simp [pairs]
    | cons y ys => simpa [pairs] using ih ys
/-- a box: a cell with one int -/
def B (n : Nat) (h : Hs) : Prop := ∃ b : Int, h[n]? = some (.lst [.int b])
def bxv (n : Nat) (h : Hs) : Int := match h[n]? with
  | some (.lst [.int b]) => b
  | _ => 0
/-- the digit taken, and what it leaves -/
def tk (n : Nat) (k : Int) (h : Hs) : Int := bxv n h % k
def pt (n : Nat) (k : Int) (h : Hs) : Hs := h.set n (.lst [.int (bxv n h / k)])
theorem B.lt {n : Nat} {h : Hs} (hb : B n h) : n < h.length := by
  obtain ⟨b, hb⟩ := hb
  rcases Nat.lt_or_ge n h.length with l | l
  · exact l
  · rw [List.getElem?_eq_none l] at hb
    cases hb
theorem B.get {n : Nat} {h : Hs} (hb : B n h) : h[n]? = some (.lst [.int (bxv n h)]) := by
  obtain ⟨b, hb⟩ := hb
  rw [bxv, hb]
theorem B.pt {n : Nat} {h : Hs} {k : Int} (hb : B n h) : B n (PM.pt n k h) := ⟨bxv n h / k, by simp [PM.pt, hb.lt]⟩
theorem B.pt2 {n m : Nat} {h : Hs} {k : Int} (hb : B n h) (hm : B m h) : B m (PM.pt n k h) := by
  by_cases e : n = m
  · subst e
    exact hb.pt
  · obtain ⟨b, hm⟩ := hm
    exact ⟨b, by simp [PM.pt, List.getElem?_set, e, hm]⟩
theorem B_new {h : Hs} {b : Int} : B h.length (h ++ [.lst [.int b]]) := ⟨b, by simp⟩
theorem B.push {n : Nat} {h : Hs} {c : Cell} (hb : B n h) : B n (h ++ [c]) := by
  have l := hb.lt
  obtain ⟨b, q⟩ := hb
  exact ⟨b, by rw [List.getElem?_append_left l]; exact q⟩
theorem tk_ge {n : Nat} {h : Hs} {k : Int} (k0 : 0 < k) : 0 ≤ tk n k h := Int.emod_nonneg _ (by omega)
theorem tk_lt {n : Nat} {h : Hs} {k : Int} (k0 : 0 < k) : tk n k h < k := Int.emod_lt_of_pos _ k0
@[simp] theorem okD_int (i : Int) : (PV.int i).okD = true := by simp [PV.okD, PV.noRef, PV.py, SeqAt.shaped, PyData.canLay0, PyData.depth]
@[simp] theorem okD_bl (i : Bool) : (PV.bl i).okD = true := by simp [PV.okD, PV.noRef, PV.py, SeqAt.shaped, PyData.canLay0, PyData.depth]
@[simp] theorem okD_non : PV.non.okD = true := by simp [PV.okD, PV.noRef, PV.py, SeqAt.shaped, PyData.canLay0, PyData.depth]
@[simp] theorem pyEq_int (i j : Int) : pyEq (.int i) (.int j) = decide (i = j) := by simp [pyEq, PV.py, PyData.eqv, Bool.beq_eq_decide_eq]
@[simp] theorem pyEq_bl (i j : Bool) : pyEq (.bl i) (.bl j) = decide (i = j) := by cases i <;> cases j <;> simp [pyEq, PV.py, PyData.eqv]
/-- data with no reference, no deeper than n -/
def okN (n : Nat) (p : PV) : Prop := p.noRef = true ∧ p.py.canLay0 = true ∧ p.py.depth ≤ n
theorem okD_okN {p : PV} : p.okD = true ↔ okN 64 p := by
  unfold PV.okD SeqAt.shaped okN
  rw [Bool.and_eq_true, Bool.and_eq_true, decide_eq_true_eq]
@[simp] theorem okN_int {n : Nat} (i : Int) : okN n (.int i) ↔ True := by simp [okN, PV.noRef, PV.py, PyData.canLay0, PyData.depth]
@[simp] theorem okN_bl {n : Nat} (i : Bool) : okN n (.bl i) ↔ True := by simp [okN, PV.noRef, PV.py, PyData.canLay0, PyData.depth]
@[simp] theorem okN_non {n : Nat} : okN n .non ↔ True := by simp [okN, PV.noRef, PV.py, PyData.canLay0, PyData.depth]
@[simp] theorem okN_str {n : Nat} (x : Str) : okN n (.str x) ↔ PyData.strOk x = true := by simp [okN, PV.noRef, PV.py, PyData.canLay0, PyData.depth]
theorem okN_all {n : Nat} : ∀ xs : List PV, (PV.noRefL xs = true ∧ PyData.canLayAll0 (PV.pyL xs) = true ∧ PyData.depthAll (PV.pyL xs) ≤ n) ↔ ∀ x ∈ xs, okN n x
  | [] => by simp [PV.noRefL, PV.pyL, PyData.canLayAll0, PyData.depthAll]
  | x :: xs => by
    have ih := okN_all (n := n) xs
    rw [List.forall_mem_cons, ← ih]
    simp only [PV.noRefL, PV.pyL, PyData.canLayAll0, PyData.depthAll, Bool.and_eq_true, Nat.max_le, okN]
    constructor
    · rintro ⟨⟨a, b⟩, ⟨c, d⟩, e, f⟩
      exact ⟨⟨a, c, e⟩, b, d, f⟩
    · rintro ⟨⟨a, c, e⟩, b, d, f⟩
      exact ⟨⟨a, b⟩, ⟨c, d⟩, e, f⟩
@[simp] theorem okN_tup {n : Nat} (xs : List PV) : okN (n + 1) (.tup xs) ↔ ∀ x ∈ xs, okN n x := by
  rw [← okN_all]
  simp [okN, PV.noRef, PV.py, PyData.canLay0, PyData.depth]
@[simp] theorem okN_lst {n : Nat} (xs : List PV) : okN (n + 1) (.lst xs) ↔ ∀ x ∈ xs, okN n x := by
  rw [← okN_all]
  simp [okN, PV.noRef, PV.py, PyData.canLay0, PyData.depth]
@[simp] theorem okD_tup (xs : List PV) : (PV.tup xs).okD = true ↔ ∀ x ∈ xs, okN 63 x := by rw [okD_okN, okN_tup]
@[simp] theorem okD_lst (xs : List PV) : (PV.lst xs).okD = true ↔ ∀ x ∈ xs, okN 63 x := by rw [okD_okN, okN_lst]
@[simp] theorem okD_str (x : Str) : (PV.str x).okD = true ↔ PyData.strOk x = true := by rw [okD_okN, okN_str]
theorem pyEq_self {p : PV} (h : p.okD = true) : pyEq p p = true := PySem.SeqAt.eqv_refl _ (okD_okN.mp h).2.1
@[simp] theorem pyEq_tupc (x y : PV) (xs ys : List PV) : pyEq (.tup (x :: xs)) (.tup (y :: ys)) = (pyEq x y && pyEq (.tup xs) (.tup ys)) := by simp [pyEq, PV.py, PV.pyL, PyData.eqv, PyData.eqvAll]
@[simp] theorem pyEq_tup0 : pyEq (.tup []) (.tup []) = true := by simp [pyEq, PV.py, PV.pyL, PyData.eqv, PyData.eqvAll]
@[simp] theorem pyEq_tup1 (x : PV) (xs : List PV) : pyEq (.tup (x :: xs)) (.tup []) = false := by simp [pyEq, PV.py, PV.pyL, PyData.eqv, PyData.eqvAll]
@[simp] theorem pyEq_tup2 (x : PV) (xs : List PV) : pyEq (.tup []) (.tup (x :: xs)) = false := by simp [pyEq, PV.py, PV.pyL, PyData.eqv, PyData.eqvAll]
@[simp] theorem pyEq_lstc (x y : PV) (xs ys : List PV) : pyEq (.lst (x :: xs)) (.lst (y :: ys)) = (pyEq x y && pyEq (.lst xs) (.lst ys)) := by simp [pyEq, PV.py, PV.pyL, PyData.eqv, PyData.eqvAll]
@[simp] theorem pyEq_lst0 : pyEq (.lst []) (.lst []) = true := by simp [pyEq, PV.py, PV.pyL, PyData.eqv, PyData.eqvAll]
@[simp] theorem pyEq_lst1 (x : PV) (xs : List PV) : pyEq (.lst (x :: xs)) (.lst []) = false := by simp [pyEq, PV.py, PV.pyL, PyData.eqv, PyData.eqvAll]
@[simp] theorem pyEq_lst2 (x : PV) (xs : List PV) : pyEq (.lst []) (.lst (x :: xs)) = false := by simp [pyEq, PV.py, PV.pyL, PyData.eqv, PyData.eqvAll]
@[simp] theorem pyEq_str (x y : Str) : pyEq (.str x) (.str y) = decide (x = y) := by simp [pyEq, PV.py, PyData.eqv, Bool.beq_eq_decide_eq]
@[simp] theorem pyEq_nn : pyEq .non .non = true := by simp [pyEq, PV.py, PyData.eqv]
@[simp] theorem okD_vec (v : List Int) : (PV.tup (v.map .int)).okD = true := by
  unfold PV.okD PV.noRef PV.py SeqAt.shaped
  rw [noRef_ints]
  have e1 : ∀ w : List Int, PyData.canLayAll0 (PV.pyL (w.map PV.int)) = true := fun w => by
    induction w with
    | nil => simp [PV.pyL, PyData.canLayAll0]
    | cons x w ih => simp [PV.pyL, PV.py, PyData.canLayAll0, PyData.canLay0, ih]
  have e2 : ∀ w : List Int, PyData.depthAll (PV.pyL (w.map PV.int)) = 0 := fun w => by
    induction w with
    | nil => simp [PV.pyL, PyData.depthAll]
    | cons x w ih => simp [PV.pyL, PV.py, PyData.depthAll, PyData.depth, ih]
  simp [PyData.canLay0, PyData.depth, e1, e2]
@[simp] theorem pyEq_vec (v w : List Int) : pyEq (.tup (v.map .int)) (.tup (w.map .int)) = decide (v = w) := by
  have e : ∀ v w : List Int, PyData.eqvAll (PV.pyL (v.map PV.int)) (PV.pyL (w.map PV.int)) = decide (v = w) := fun v => by
    induction v with
    | nil => intro w; cases w <;> simp [PV.pyL, PyData.eqvAll]
    | cons x v ih => intro w; cases w <;> simp [PV.pyL, PV.py, PyData.eqvAll, PyData.eqv, ih, Bool.beq_eq_decide_eq]
  unfold pyEq PV.py
  rw [PyData.eqv, e]
theorem cutP_len (xs : List PV) (lo hi : Option Int) : (cutP xs lo hi).length ≤ xs.length := by
  unfold cutP
  rw [List.length_take, List.length_drop]
  omega
theorem cutP_from (xs : List PV) (k : Nat) : cutP xs (some (k : Int)) none = xs.drop k := by
  unfold cutP
  rw [HT.sIx_nat, HT.sIx_none, List.take_of_length_le (by rw [List.length_drop]; omega)]
  rcases Nat.le_total k xs.length with l | l
  · rw [Nat.min_eq_left l]
  · rw [Nat.min_eq_right l, List.drop_length, List.drop_eq_nil_of_le l]
theorem cutP_from1 (xs : List PV) : cutP xs (some 1) none = xs.drop 1 := cutP_from xs 1
theorem cutP_to (xs : List PV) (k : Nat) : cutP xs none (some (k : Int)) = xs.take k := by
  unfold cutP
  rw [HT.sIx_nat, HT.sIx_none, List.drop_zero]
  rcases Nat.le_total k xs.length with l | l
  · rw [Nat.min_eq_left l, Nat.sub_zero]
  · rw [Nat.min_eq_right l, Nat.sub_zero, List.take_length, List.take_of_length_le l]
theorem cutP_mem {xs : List PV} {lo hi : Option Int} {x : PV} (m : x ∈ cutP xs lo hi) : x ∈ xs := List.mem_of_mem_drop (List.mem_of_mem_take m)
@[simp] theorem pairs_cons (x y : PV) (xs ys : List PV) : pairs (x :: xs) (y :: ys) = .tup [x, y] :: pairs xs ys := rfl
@[simp] theorem pairs_nil (ys : List PV) : pairs [] ys = [] := rfl
@[simp] theorem blsOf_nil : blsOf [] = some [] := rfl
@[simp] theorem blsOf_cons (b : Bool) (xs : List PV) : blsOf (.bl b :: xs) = (blsOf xs).map (b :: ·) := rfl
@[simp] theorem intsOf_nil : intsOf [] = some [] := rfl
@[simp] theorem intsOf_cons (b : Int) (xs : List PV) : intsOf (.int b :: xs) = (intsOf xs).map (b :: ·) := rfl
/-- plain data: no reference, no bool, no list, no deeper than n -/
def Cl : Nat → PV → Prop
  | _, .non => True
  | _, .int _ => True
  | _, .str x => PyData.strOk x = true ∧ x.length ≤ 8192
  | n + 1, .tup xs => ∀ x ∈ xs, Cl n x
  | _, _ => False
@[simp] theorem Cl_non {n : Nat} : Cl n .non ↔ True := by cases n <;> simp [Cl]
@[simp] theorem Cl_int {n : Nat} (i : Int) : Cl n (.int i) ↔ True := by cases n <;> simp [Cl]
@[simp] theorem Cl_str {n : Nat} (x : Str) : Cl n (.str x) ↔ (PyData.strOk x = true ∧ x.length ≤ 8192) := by cases n <;> simp [Cl]
@[simp] theorem Cl_tup {n : Nat} (xs : List PV) : Cl (n + 1) (.tup xs) ↔ ∀ x ∈ xs, Cl n x := by simp [Cl]
@[simp] theorem Cl_bl {n : Nat} (b : Bool) : Cl n (.bl b) ↔ False := by cases n <;> simp [Cl]
@[simp] theorem Cl_ref {n m : Nat} : Cl n (.ref m) ↔ False := by cases n <;> simp [Cl]
@[simp] theorem Cl_lst {n : Nat} (xs : List PV) : Cl n (.lst xs) ↔ False := by cases n <;> simp [Cl]
theorem Cl.okN {n : Nat} : ∀ {p : PV}, Cl n p → PM.okN n p := by
  induction n with
  | zero => intro p h; cases p <;> simp_all [Cl]
  | succ n ih =>
    intro p h
    cases p with
    | tup xs => exact (okN_tup xs).mpr fun x m => ih ((Cl_tup xs).mp h x m)
    | _ => simp_all
theorem okN_mono {n m : Nat} (l : n ≤ m) {p : PV} (h : okN n p) : okN m p := ⟨h.1, h.2.1, Nat.le_trans h.2.2 l⟩
theorem Cl.okD {n : Nat} {p : PV} (h : Cl n p) (l : n ≤ 64 := by decide) : p.okD = true := okD_okN.mpr (okN_mono l h.okN)
theorem Cl.pv {n : Nat} {p : PV} (h : Cl n p) (H : Hs) : (SV.val p).pv H = some p := by
  cases p <;> first | rfl | (simp at h; done)
theorem Cl.succ {n : Nat} : ∀ {p : PV}, Cl n p → Cl (n + 1) p := by
  induction n with
  | zero => intro p h; cases p <;> simp_all [Cl]
  | succ n ih =>
    intro p h
    cases p with
    | tup xs => exact (Cl_tup xs).mpr fun x m => ih ((Cl_tup xs).mp h x m)
    | _ => simp_all
theorem Cl.mono {n m : Nat} (l : n ≤ m) {p : PV} (h : Cl n p) : Cl m p := by
  induction l with
  | refl => exact h
  | step _ ih => exact ih.succ
/-- no reference -/
def nr : PV → Bool
  | .ref _ => false
  | _ => true
/-- no reference, nor one in it -/
def fl2 : PV → Bool
  | .ref _ => false
  | .tup xs => xs.all nr
  | _ => true
theorem pick {l : List PV} {i : Int} {R : PV → Prop} (h0 : 0 ≤ i) (h1 : i < l.length) (hl : ∀ x ∈ l, fl2 x = true) (hR : ∀ p, fl2 p = true → R p) : ∃ x, atI l i = some x ∧ R x := by
  obtain ⟨c, hc⟩ := atI_some h0 h1
  exact ⟨c, hc, hR c (hl c (atI_mem hc))⟩
theorem cutP_nr (v : List Int) (lo hi : Option Int) : (cutP (v.map .int) lo hi).all nr = true := List.all_eq_true.mpr fun x m => by
  obtain ⟨i, _, rfl⟩ := List.mem_map.mp (cutP_mem m)
  rfl
theorem map_nr (v : List Int) : (v.map PV.int).all nr = true := List.all_eq_true.mpr fun x m => by
  obtain ⟨i, _, rfl⟩ := List.mem_map.mp m
  rfl
theorem len8 {v : List Int} (h : v.length = 8) : ∃ a0 a1 a2 a3 a4 a5 a6 a7, v = [a0, a1, a2, a3, a4, a5, a6, a7] := by
  match v, h with
  | [a0, a1, a2, a3, a4, a5, a6, a7], _ => exact ⟨_, _, _, _, _, _, _, _, rfl⟩
theorem rangeP8 : rangeP 0 8 = [.int 0, .int 1, .int 2, .int 3, .int 4, .int 5, .int 6, .int 7] := rfl
end PM

namespace PM
open PySem PySem.Spec L2
open PyProof.Rows hiding St
def c_SITES : PV := (.int 8)
/-! knows(vector, dot): 0 vector, 1 dot -/
def d_knows_b : DS :=
  sRet (dOp gLe (dOp gIx (dVar 1) (dC (.int 1))) (dOp gIx (dVar 0) (dOp gIx (dVar 1) (dC (.int 0)))))
def d_knows : DF := dDef 2 0 d_knows_b
/-! covers(vector, other): 0 vector, 1 other, 2 one, 3 two -/
def d_covers_b : DS :=
  sRet (dB (g1 gAll) (dCons (dLc (dZip (dKV 0) (dKV 1)) [2, 3] (bTup2 2 3) dYes (dOp gGe (dVar 2) (dVar 3))) dNil))
def d_covers : DF := dDef 2 2 d_covers_b
/-! least(vectors): 0 vectors, 1 site, 2 vector -/
def d_least_b : DS :=
  sRet (dB (g1 gTuple) (dCons (dLc (dRng1 (dC c_SITES)) [1] (bName 1) dYes (dB gMin (dCons (dLc (dIt (dKV 0)) [2] (bName 2) dYes (dOp gIx (dVar 2) (dVar 1))) dNil))) dNil))
def d_least : DF := dDef 1 2 d_least_b
/-! dot_of(event): 0 event -/
def d_dot_of_b : DS :=
  sRet (dSl (dVar 0) dNoPart (dPart (dC (.int 2))))
def d_dot_of : DF := dDef 1 0 d_dot_of_b
/-! cut_of(stable, held): 0 stable, 1 held, 2 cut, 3 going, 4 event -/
def d_cut_of_b : DS :=
  sSeq (sAsg 2 (dVar 0))
  (sSeq (sAsg 3 (dC (.bl true)))
  (sSeq (sWhile (dTru (dVar 3)) (sSeq (sAsg 3 (dC (.bl false)))
  (sFor (dIt (dKV 1)) (bName 4) (sIf (dAnd (dNot (dTru (dCall 2 d_knows (dCons (dVar 2) (dCons (dCall 1 d_dot_of (dCons (dVar 4) dNil)) dNil))))) (dNot (dTru (dCall 2 d_covers (dCons (dOp gIx (dVar 4) (dC (.int 2))) (dCons (dVar 2) dNil)))))) (sSeq (sFrz 2 (sAsg 2 (dCall 1 d_least (dCons (dLst (dCons (dVar 2) (dCons (dOp gIx (dVar 4) (dC (.int 2))) dNil))) dNil))))
  (sAsg 3 (dC (.bl true)))) sNil))))
  (sRetV 2)))
def d_cut_of : DF := dDef 2 3 d_cut_of_b
/-! _law_number(_law_script, _law_k): 0 _law_script, 1 _law_k, 2 _law_cell, 3 _law_first, 4 _law_second -/
def d_law_number_b : DS :=
  sSeq (sAsg 2 (dC (.int 0)))
  (sSeq (sIf (dTst (dOp gGt (dB (g1 gLen) (dCons (dVar 0) dNil)) (dC (.int 0)))) (sAsg 2 (dOp gIx (dVar 0) (dOp gMod (dB (g1 gInt1) (dCons (dVar 1) dNil)) (dB (g1 gLen) (dCons (dVar 0) dNil))))) sNil)
  (sSeq (sIf (dTst (dOp gLt (dVar 2) (dC (.int 0)))) (sAsg 2 (dOp gSub (dC (.int 1)) (dOp gMulX (dC (.int 2)) (dVar 2)))) sNil)
  (sSeq (sIf (dAnd (dTst (dOp gGe (dVar 2) (dOp gPow (dC (.int 10)) (dC (.int 9))))) (dTst (dOp gLt (dVar 1) (dB (g1 gLen) (dCons (dVar 0) dNil))))) (sRetV 2) sNil)
  (sSeq (sAsg 3 (dOp gMod (dB (g1 gInt1) (dCons (dOp gAdd (dOp gMulX (dOp gAdd (dVar 2) (dC (.int 7))) (dC (.int 48271))) (dOp gMulX (dOp gAdd (dVar 1) (dC (.int 3))) (dC (.int 69621)))) dNil)) (dC (.int 2147483647))))
  (sSeq (sAsg 4 (dOp gMod (dB (g1 gInt1) (dCons (dOp gAdd (dOp gAdd (dOp gMulX (dOp gAdd (dVar 3) (dC (.int 11))) (dC (.int 16807))) (dOp gMulX (dOp gAdd (dVar 2) (dC (.int 1))) (dC (.int 40692)))) (dVar 1)) dNil)) (dC (.int 2147483399))))
  (sRet (dOp gMod (dB (g1 gInt1) (dCons (dOp gAdd (dOp gAdd (dOp gMulX (dVar 3) (dC (.int 2147483399))) (dOp gMulX (dVar 4) (dC (.int 31)))) (dVar 2)) dNil)) (dC (.int 4611686014132420609)))))))))
def d_law_number : DF := dDef 2 3 d_law_number_b
/-! _law_take(_law_box, _law_size): 0 _law_box, 1 _law_size, 2 _law_digit -/
def d_law_take_b : DS :=
  sSeq (sAsg 2 (dOp gMod (dB (g1 gInt1) (dCons (dOp gIx (dVar 0) (dC (.int 0))) dNil)) (dVar 1)))
  (sSeq (sSetE (dVar 0) (dC (.int 0)) (dOp gFdiv (dOp gIx (dVar 0) (dC (.int 0))) (dVar 1)))
  (sRetV 2))
def d_law_take : DF := dDef 2 1 d_law_take_b
/-! _law_join(_law_one, _law_two): 0 _law_one, 1 _law_two, 2 _law_k -/
def d_law_join_b : DS :=
  sRet (dB (g1 gTuple) (dCons (dLc (dRng1 (dC (.int 8))) [2] (bName 2) dYes (dB gMax (dCons (dOp gIx (dVar 0) (dVar 2)) (dCons (dOp gIx (dVar 1) (dVar 2)) dNil)))) dNil))
def d_law_join : DF := dDef 2 1 d_law_join_b
/-! _law_covers(_law_one, _law_two): 0 _law_one, 1 _law_two, 2 _law_k -/
def d_law_covers_b : DS :=
  sRet (dOp gGe (dB gMin (dCons (dLc (dRng1 (dC (.int 8))) [2] (bName 2) dYes (dOp gSub (dOp gIx (dVar 0) (dVar 2)) (dOp gIx (dVar 1) (dVar 2)))) dNil)) (dC (.int 0)))
def d_law_covers : DF := dDef 2 1 d_law_covers_b
/-! _law_has(_law_vector, _law_event): 0 _law_vector, 1 _law_event -/
def d_law_has_b : DS :=
  sRet (dOp gLe (dOp gIx (dVar 1) (dC (.int 1))) (dOp gIx (dVar 0) (dOp gIx (dVar 1) (dC (.int 0)))))
def d_law_has : DF := dDef 2 0 d_law_has_b
/-! _law_op(_law_box, _law_site, _law_n): 0 _law_box, 1 _law_site, 2 _law_n, 3 _law_key, 4 _law_ops -/
def d_law_op_b : DS :=
  sSeq (sAsg 3 (dOp gIx (dC (.str "ab")) (dCall 2 d_law_take (dCons (dVar 0) (dCons (dC (.int 2)) dNil)))))
  (sSeq (sFrz 3 (sAsg 4 (dLst (dCons (dTup (dCons (dC (.str "set")) (dCons (dVar 3) (dCons (dVar 2) dNil)))) (dCons (dTup (dCons (dC (.str "inc")) (dCons (dVar 3) (dCons (dOp gAdd (dC (.int 1)) (dVar 1)) dNil)))) (dCons (dTup (dCons (dC (.str "add")) (dCons (dVar 3) (dCons (dOp gFdiv (dVar 2) (dC (.int 2))) dNil)))) (dCons (dTup (dCons (dC (.str "remove")) (dCons (dVar 3) (dCons (dOp gFdiv (dVar 2) (dC (.int 2))) dNil)))) dNil)))))))
  (sRet (dOp gIx (dVar 4) (dCall 2 d_law_take (dCons (dVar 0) (dCons (dC (.int 4)) dNil))))))
def d_law_op : DF := dDef 3 2 d_law_op_b
/-! _law_history(_law_script, _law_at, _law_writers, _law_count): 0 _law_script, 1 _law_at, 2 _law_writers, 3 _law_count, 4 _law_events, 5 _law_vectors, 6 _law_heights, 7 _law_marks, 8 _law_k, 9 _law_box, 10 _law_site, 11 _law_n, 12 _law_mark -/
def d_law_history_b : DS :=
  sSeq (sAsg 4 (dLst dNil))
  (sSeq (sAsg 5 (dOp gMulX (dLst (dCons (dOp gMulX (dTup (dCons (dC (.int 0)) dNil)) (dC (.int 8))) dNil)) (dVar 2)))
  (sSeq (sAsg 6 (dOp gMulX (dLst (dCons (dC (.int 0)) dNil)) (dVar 2)))
  (sSeq (sAsg 7 (dLst dNil))
  (sSeq (sFor (dRng1 (dVar 3)) (bName 8) (sSeq (sAsg 9 (dAlloc (dLst (dCons (dCall 2 d_law_number (dCons (dVar 0) (dCons (dOp gAdd (dVar 1) (dVar 8)) dNil))) dNil))))
  (sSeq (sAsg 10 (dCall 2 d_law_take (dCons (dVar 9) (dCons (dVar 2) dNil))))
  (sIf (dOr (dTst (dOp gLt (dCall 2 d_law_take (dCons (dVar 9) (dCons (dC (.int 5)) dNil))) (dC (.int 3)))) (dTst (dOp gEq (dB (g1 gLen) (dCons (dVar 7) dNil)) (dC (.int 0))))) (sSeq (sAsg 11 (dOp gAdd (dOp gIx (dOp gIx (dVar 5) (dVar 10)) (dVar 10)) (dC (.int 1))))
  (sSeq (sSetV 6 (dVar 10) (dOp gAdd (dOp gIx (dVar 6) (dVar 10)) (dC (.int 1))))
  (sSeq (sFrz 11 (sFrz 10 (sAppV 4 (dTup (dCons (dVar 10) (dCons (dVar 11) (dCons (dOp gIx (dVar 5) (dVar 10)) (dCons (dOp gIx (dVar 6) (dVar 10)) (dCons (dCall 3 d_law_op (dCons (dVar 9) (dCons (dVar 10) (dCons (dVar 11) dNil)))) dNil)))))))))
  (sSeq (sFrz 11 (sSetV 5 (dVar 10) (dOp gAdd (dOp gAdd (dSl (dOp gIx (dVar 5) (dVar 10)) dNoPart (dPart (dVar 10))) (dTup (dCons (dVar 11) dNil))) (dSl (dOp gIx (dVar 5) (dVar 10)) (dPart (dOp gAdd (dVar 10) (dC (.int 1)))) dNoPart))))
  (sAppV 7 (dTup (dCons (dOp gIx (dVar 5) (dVar 10)) (dCons (dOp gIx (dVar 6) (dVar 10)) dNil)))))))) (sSeq (sAsg 12 (dOp gIx (dVar 7) (dB gMax (dCons (dC (.int 0)) (dCons (dOp gSub (dOp gSub (dB (g1 gLen) (dCons (dVar 7) dNil)) (dC (.int 1))) (dCall 2 d_law_take (dCons (dVar 9) (dCons (dC (.int 6)) dNil)))) dNil)))))
  (sSeq (sSetV 5 (dVar 10) (dCall 2 d_law_join (dCons (dOp gIx (dVar 5) (dVar 10)) (dCons (dOp gIx (dVar 12) (dC (.int 0))) dNil))))
  (sSetV 6 (dVar 10) (dB gMax (dCons (dOp gIx (dVar 6) (dVar 10)) (dCons (dOp gIx (dVar 12) (dC (.int 1))) dNil))))))))))
  (sFrz 7 (sFrz 5 (sFrz 4 (sRet (dLst (dCons (dVar 4) (dCons (dVar 5) (dCons (dLc (dIt (dKV 7)) [12] (bName 12) dYes (dOp gIx (dVar 12) (dC (.int 0)))) dNil))))))))))))
def d_law_history : DF := dDef 4 9 d_law_history_b
/-! _law_fits(_law_cut, _law_held): 0 _law_cut, 1 _law_held, 2 _law_event -/
def d_law_fits_b : DS :=
  sSeq (sFor (dIt (dKV 1)) (bName 2) (sIf (dAnd (dNot (dTru (dCall 2 d_law_has (dCons (dVar 0) (dCons (dVar 2) dNil))))) (dNot (dTru (dCall 2 d_law_covers (dCons (dOp gIx (dVar 2) (dC (.int 2))) (dCons (dVar 0) dNil)))))) (sRet (dC (.bl false))) sNil))
  (sRet (dC (.bl true)))
def d_law_fits : DF := dDef 2 1 d_law_fits_b
/-! _law_below(_law_stable): 0 _law_stable, 1 _law_found, 2 _law_number_here, 3 _law_more, 4 _law_row, 5 _law_k -/
def d_law_below_b : DS :=
  sSeq (sAsg 1 (dLst (dCons (dTup dNil) dNil)))
  (sSeq (sFor (dIt (dKV 0)) (bName 2) (sSeq (sAsg 3 (dLst dNil))
  (sSeq (sFrz 1 (sFor (dIt (dKV 1)) (bName 4) (sFor (dRng1 (dOp gAdd (dVar 2) (dC (.int 1)))) (bName 5) (sFrz 5 (sAppV 3 (dOp gAdd (dVar 4) (dTup (dCons (dVar 5) dNil))))))))
  (sFrz 3 (sAsg 1 (dVar 3))))))
  (sRetV 1))
def d_law_below : DF := dDef 1 5 d_law_below_b
/-! _law_mixed(_law_events, _law_box): 0 _law_events, 1 _law_box, 2 _law_found, 3 _law_event -/
def d_law_mixed_b : DS :=
  sSeq (sAsg 2 (dLst dNil))
  (sSeq (sFor (dIt (dKV 0)) (bName 3) (sFrz 3 (sInsV 2 (dCall 2 d_law_take (dCons (dVar 1) (dCons (dOp gAdd (dB (g1 gLen) (dCons (dVar 2) dNil)) (dC (.int 1))) dNil))) (dVar 3))))
  (sRetV 2))
def d_law_mixed : DF := dDef 2 2 d_law_mixed_b
/-! law(_law_script): 0 _law_script, 1 _law_box, 2 _law_writers, 3 _law_made, 4 _law_vector, 5 _law_other, 6 _law_stable, 7 _law_k, 8 _law_mark, 9 _law_known, 10 _law_base, 11 _law_held, 12 _law_passed, 13 _law_given, 14 _law_told, 15 _law_fits_here, 16 _law_cut, 17 _law_j, 18 _law_number_here, 19 _law_event -/
def d_law_b : DS :=
  sSeq (sAsg 1 (dAlloc (dLst (dCons (dCall 2 d_law_number (dCons (dVar 0) (dCons (dC (.int 0)) dNil))) dNil))))
  (sSeq (sAsg 2 (dOp gAdd (dC (.int 1)) (dCall 2 d_law_take (dCons (dVar 1) (dCons (dC (.int 3)) dNil)))))
  (sSeq (sAsg 3 (dCall 4 d_law_history (dCons (dVar 0) (dCons (dC (.int 1)) (dCons (dVar 2) (dCons (dCall 2 d_law_take (dCons (dVar 1) (dCons (dC (.int 15)) dNil))) dNil))))))
  (sSeq (sAsg 4 (dOp gIx (dOp gIx (dVar 3) (dC (.int 1))) (dCall 2 d_law_take (dCons (dVar 1) (dCons (dVar 2) dNil)))))
  (sSeq (sIf (dTst (dOp gEq (dCall 2 d_law_take (dCons (dVar 1) (dCons (dC (.int 3)) dNil))) (dC (.int 0)))) (sFor (dIt (dKE (dOp gIx (dVar 3) (dC (.int 1))))) (bName 5) (sAsg 4 (dCall 2 d_law_join (dCons (dVar 4) (dCons (dVar 5) dNil))))) sNil)
  (sSeq (sFrz 4 (sAsg 6 (dVar 4)))
  (sSeq (sFor (dRng1 (dOp gAdd (dC (.int 1)) (dCall 2 d_law_take (dCons (dVar 1) (dCons (dC (.int 3)) dNil))))) (bName 7) (sIf (dTst (dOp gGt (dB (g1 gLen) (dCons (dOp gIx (dVar 3) (dC (.int 2))) dNil)) (dC (.int 0)))) (sSeq (sAsg 8 (dOp gIx (dOp gIx (dVar 3) (dC (.int 2))) (dCall 2 d_law_take (dCons (dVar 1) (dCons (dB (g1 gLen) (dCons (dOp gIx (dVar 3) (dC (.int 2))) dNil)) dNil)))))
  (sAsg 6 (dB (g1 gTuple) (dCons (dLc (dRng1 (dC (.int 8))) [17] (bName 17) dYes (dB gMin (dCons (dOp gIx (dVar 6) (dVar 17)) (dCons (dOp gIx (dVar 8) (dVar 17)) dNil)))) dNil)))) sNil))
  (sSeq (sIf (dTst (dOp gEq (dCall 2 d_law_take (dCons (dVar 1) (dCons (dC (.int 3)) dNil))) (dC (.int 0)))) (sFrz 4 (sAsg 6 (dB (g1 gTuple) (dCons (dLc (dIt (dKV 4)) [18] (bName 18) dYes (dB gMax (dCons (dC (.int 0)) (dCons (dOp gSub (dVar 18) (dCall 2 d_law_take (dCons (dVar 1) (dCons (dC (.int 3)) dNil)))) dNil)))) dNil)))) sNil)
  (sSeq (sAsg 9 (dLc (dIt (dKE (dOp gIx (dVar 3) (dC (.int 0))))) [19] (bName 19) (dTru (dCall 2 d_law_has (dCons (dVar 4) (dCons (dVar 19) dNil)))) (dVar 19)))
  (sSeq (sFrz 6 (sAsg 10 (dCall 2 d_cut_of (dCons (dB (g1 gTuple) (dCons (dLc (dIt (dKV 6)) [18] (bName 18) dYes (dOp gFdiv (dVar 18) (dC (.int 2)))) dNil)) (dCons (dB (g1 gList) (dCons (dVar 9) dNil)) dNil)))))
  (sSeq (sFrz 9 (sAsg 11 (dLc (dIt (dKV 9)) [19] (bName 19) (dNot (dTru (dCall 2 d_law_has (dCons (dVar 10) (dCons (dVar 19) dNil))))) (dVar 19))))
  (sSeq (sAsg 12 (dCall 2 d_law_mixed (dCons (dVar 11) (dCons (dAlloc (dLst (dCons (dCall 2 d_law_number (dCons (dVar 0) (dCons (dC (.int 20)) dNil))) dNil))) dNil))))
  (sSeq (sAsg 13 (dB (g1 gList) (dCons (dVar 12) dNil)))
  (sSeq (sAsg 14 (dCall 2 d_cut_of (dCons (dVar 6) (dCons (dVar 12) dNil))))
  (sSeq (sIf (dOr (dNot (dTru (dIsi .tup (dVar 14)))) (dOr (dTst (dOp gNe (dVar 12) (dVar 13))) (dNot (dTru (dCall 2 d_law_covers (dCons (dVar 14) (dCons (dVar 10) dNil))))))) (sRet (dC (.bl false))) sNil)
  (sSeq (sFrz 16 (sAsg 15 (dLc (dIt (dKE (dCall 1 d_law_below (dCons (dVar 6) dNil)))) [16] (bName 16) (dTru (dCall 2 d_law_fits (dCons (dVar 16) (dCons (dVar 11) dNil)))) (dVar 16))))
  (sSeq (sIf (dOr (dTst (dOp gNotIn (dVar 14) (dVar 15))) (dTst (dOp gNe (dCall 2 d_cut_of (dCons (dVar 6) (dCons (dVar 11) dNil))) (dVar 14)))) (sRet (dC (.bl false))) sNil)
  (sSeq (sFrz 15 (sFor (dIt (dKV 15)) (bName 16) (sIf (dNot (dTru (dCall 2 d_law_covers (dCons (dVar 14) (dCons (dVar 16) dNil))))) (sRet (dC (.bl false))) sNil)))
  (sRet (dC (.bl true))))))))))))))))))))
def d_law : DF := dDef 1 19 d_law_b
end PM

namespace PM
open PySem PySem.Spec L2
open PyProof.Rows hiding St
theorem take_eq {n : Nat} {h : Hs} {k : Int} {Q : VQ} {E : XQ} (hb : B n h) (h0 : 0 < k) (h1 : k < 2 ^ 200) : d_law_take [.val (.ref n), .val (.int k)] h Q E = Q (.val (.int (tk n k h))) (pt n k h) := by
  have hg := hb.get
  have hl := hb.lt
  simp [d_law_take, d_law_take_b, seqC_ref, hg, atI, ixN, cdivW h0 h1, h0]
  rfl
theorem take_ok {n : Nat} {h : Hs} {k : Int} {Q : VQ} {E : XQ} (hb : B n h) (h0 : 0 < k) (h1 : k < 2 ^ 200) (hQ : ∀ d h', 0 ≤ d → d < k → B n h' → Q (.val (.int d)) h') : d_law_take [.val (.ref n), .val (.int k)] h Q E := by
  rw [take_eq hb h0 h1]
  exact hQ _ _ (tk_ge h0) (tk_lt h0) hb.pt
theorem number_ok {h : Hs} {Q : VQ} {E : XQ} {ns : List Int} {k : Int} (hQ : ∀ i, Q (.val (.int i)) h) : d_law_number [.scr ns, .val (.int k)] h Q E := by
  cases ns with
  | nil => simp [d_law_number, d_law_number_b, hQ, cmulR]
  | cons n0 ns =>
    obtain ⟨c, hc⟩ := atI_some (xs := n0 :: ns) (i := k % ((ns.length : Int) + 1)) (Int.emod_nonneg k (by omega)) (by simpa using Int.emod_lt_of_pos k (b := (ns.length : Int) + 1) (by omega))
    have hc' : atI (PV.int n0 :: List.map PV.int ns) (k % (↑ns.length + 1)) = some (.int c) := by
      rw [← List.map_cons, atI_map, hc]
      rfl
    simp [d_law_number, d_law_number_b, hQ, hc', cmulR, cmulL]
abbrev VP (v : List Int) : SV := .val (.tup (v.map .int))
theorem covers_eq (h : Hs) (Q : VQ) (E : XQ) (v w : List Int) (hv : v.length = 8) : d_covers [VP v, VP w] h Q E = Q (.val (.bl ((v.zip w).all fun p => decide (p.2 ≤ p.1)))) h := by
  have l : (v.zip w).length ≤ sizeLine := szL (by rw [List.length_zip]; omega)
  simp [VP, d_covers, d_covers_b, pairs_ints]
  rw [compL_eq (fun p => [some (VP v), some (VP w), some (.val (.int p.1)), some (.val (.int p.2))]) (fun p => .val (.bl (decide (p.2 ≤ p.1)))) _ (fun p => .bl (decide (p.2 ≤ p.1))) trivial (fun _ => rfl) _ _ (fun _ _ _ => by simp [VP]) (fun _ _ _ _ => by simp) (by simpa using l)]
  simp
theorem knows_eq (h : Hs) (Q : VQ) (E : XQ) (v : List Int) (s c : Int) (hv : v.length = 8) (h0 : 0 ≤ s) (h1 : s < 8) : d_knows [VP v, .val (.tup [.int s, .int c])] h Q E = Q (.val (.bl (decide (c ≤ gd v s.toNat)))) h := by
  obtain ⟨n, rfl⟩ := Int.eq_ofNat_of_zero_le h0
  have e1 : atI [PV.int n, PV.int c] 1 = some (.int c) := rfl
  have e0 : atI [PV.int n, PV.int c] 0 = some (.int n) := rfl
  simp [VP, d_knows, d_knows_b, e0, e1, atI_getD (show n < v.length by omega)]
theorem least_eq (h : Hs) (Q : VQ) (E : XQ) (vs : List (List Int)) (hn : vs ≠ []) (hv : ∀ v ∈ vs, v.length = 8) (hl : vs.length ≤ 8192) : d_least [.brw (vs.map fun v => .tup (v.map .int))] h Q E = Q (VP ((List.range 8).map fun k => minI (vs.map fun v => gd v k))) h := by
  simp [d_least, d_least_b, c_SITES]
  rw [show rangeP 0 8 = (List.range 8).map fun k => .int (0 + (k : Nat)) from rfl, compL_eq (fun k => [some (.brw (vs.map fun v => .tup (v.map .int))), some (.val (.int (k : Nat))), none]) (fun k => .val (.int (minI (vs.map fun v => gd v k)))) _ (fun k => .int (minI (vs.map fun v => gd v k))) trivial (fun _ => rfl) _ _ (fun _ _ _ => by simp) ?_ (szL (by simp))]
  · simp [VP]
    rfl
  · intro k hk Q E
    have k8 : k < 8 := by simpa using hk
    simp
    rw [compL_eq (fun v => [some (.brw (vs.map fun v => .tup (v.map .int))), some (.val (.int (k : Nat))), some (VP v)]) (fun v => .val (.int (gd v k))) _ (fun v => .int (gd v k)) trivial (fun _ => rfl) _ _ (fun _ _ _ => by simp [VP]) ?_ (szL (by simpa using hl))]
    · simp [hn]
    · intro v hm Q E
      simp [VP, atI_getD (show k < v.length by rw [hv v hm]; exact k8)]
theorem r8 : rangeP 0 8 = (List.range 8).map fun k => .int (0 + (k : Nat)) := rfl
section
variable {v w : List Int} (lv : v.length = 8) (lw : w.length = 8)
include lv lw
theorem min_zip : decide (0 ≤ minI ((List.range 8).map fun k => gd v k - gd w k)) = (v.zip w).all fun p => decide (p.2 ≤ p.1) := by
  obtain ⟨a0, a1, a2, a3, a4, a5, a6, a7, rfl⟩ := len8 lv
  obtain ⟨b0, b1, b2, b3, b4, b5, b6, b7, rfl⟩ := len8 lw
  rw [Bool.eq_iff_iff]
  simp [List.range, List.range.loop, minI, gd]
  omega
omit lv lw in
theorem min_le : minI ((List.range 8).map fun k => gd v k - gd w k) ≥ 0 ↔ ∀ i, i < 8 → gd w i ≤ gd v i := by
  obtain ⟨z1, z2⟩ := minI_spec ((List.range 8).map fun k => gd v k - gd w k) (by simp)
  constructor
  · intro h i hi
    have := z2 _ (List.mem_map.mpr ⟨i, List.mem_range.mpr hi, rfl⟩)
    omega
  · intro h
    obtain ⟨i, hi, e⟩ := List.mem_map.mp z1
    have := h i (List.mem_range.mp hi)
    omega
end
/-- below, site by site -/
def vle (v w : List Int) : Prop := ∀ i, i < 8 → gd v i ≤ gd w i
instance (v w : List Int) : Decidable (vle v w) := inferInstanceAs (Decidable (∀ i, i < 8 → gd v i ≤ gd w i))
theorem zip_vle {v w : List Int} (lv : v.length = 8) (lw : w.length = 8) : ((v.zip w).all fun p => decide (p.2 ≤ p.1)) = decide (vle w v) := by
  rw [← min_zip lv lw, Bool.eq_iff_iff, decide_eq_true_eq, decide_eq_true_eq]
  exact min_le
structure Ev where
  s : Nat
  n : Int
  past : List Int
  ht : Int
  op : PV
def evP (e : Ev) : PV := .tup [.int e.s, .int e.n, .tup (e.past.map .int), .int e.ht, e.op]
structure EvOk (e : Ev) : Prop where
  s : e.s < 8
  l : e.past.length = 8
  p : ∀ i, i < 8 → 0 ≤ gd e.past i
abbrev has (c : List Int) (e : Ev) : Prop := e.n ≤ gd c e.s
def fits (c : List Int) (es : List Ev) : Prop := ∀ e ∈ es, has c e ∨ vle c e.past
def vmin (v w : List Int) : List Int := (List.range 8).map fun k => min (gd v k) (gd w k)
theorem gd_range (f : Nat → Int) {i : Nat} (h : i < 8) : gd ((List.range 8).map f) i = f i := by
  simp [gd, h]
def vsum (v : List Int) : Int := gd v 0 + gd v 1 + gd v 2 + gd v 3 + gd v 4 + gd v 5 + gd v 6 + gd v 7
theorem vmin_gd (v w : List Int) {i : Nat} (h : i < 8) : gd (vmin v w) i = min (gd v i) (gd w i) := gd_range _ h
theorem vmin_len (v w : List Int) : (vmin v w).length = 8 := by simp [vmin]
theorem vsum_lt {v w : List Int} (h : ¬ vle v w) : vsum (vmin v w) < vsum v := by
  have : ∃ i, i < 8 ∧ gd w i < gd v i := by
    have : ∃ i, ¬ (i < 8 → gd v i ≤ gd w i) := Classical.not_forall.mp h
    obtain ⟨i, q⟩ := this
    exact ⟨i, by omega⟩
  obtain ⟨i, hi, q⟩ := this
  have le : ∀ k, k < 8 → gd (vmin v w) k ≤ gd v k := fun k hk => by
    rw [vmin_gd _ _ hk]
    exact Int.min_le_left _ _
  have lt : gd (vmin v w) i < gd v i := by
    rw [vmin_gd _ _ hi]
    omega
  have h0 := le 0 (by omega)
  have h1 := le 1 (by omega)
  have h2 := le 2 (by omega)
  have h3 := le 3 (by omega)
  have h4 := le 4 (by omega)
  have h5 := le 5 (by omega)
  have h6 := le 6 (by omega)
  have h7 := le 7 (by omega)
  unfold vsum
  have : i = 0 ∨ i = 1 ∨ i = 2 ∨ i = 3 ∨ i = 4 ∨ i = 5 ∨ i = 6 ∨ i = 7 := by omega
  rcases this with rfl | rfl | rfl | rfl | rfl | rfl | rfl | rfl <;> omega
theorem vsum_nn {v : List Int} (h : ∀ i, i < 8 → 0 ≤ gd v i) : 0 ≤ vsum v := by
  have h0 := h 0 (by omega)
  have h1 := h 1 (by omega)
  have h2 := h 2 (by omega)
  have h3 := h 3 (by omega)
  have h4 := h 4 (by omega)
  have h5 := h 5 (by omega)
  have h6 := h 6 (by omega)
  have h7 := h 7 (by omega)
  unfold vsum
  omega
/-- the cut that is told -/
structure Cut (st : List Int) (es : List Ev) (c : List Int) : Prop where
  l : c.length = 8
  nn : ∀ i, i < 8 → 0 ≤ gd c i
  le : vle c st
  top : ∀ c', c'.length = 8 → vle c' st → fits c' es → vle c' c
def CutI (st : List Int) (es : List Ev) (h0 : Hs) (m : Nat) (env : Env) (h' : Hs) : Prop := ∃ (cut : List Int) (going : Bool) (ev : Option SV), env = [some (VP st), some (.brw (es.map evP)), some (VP cut), some (.val (.bl going)), ev] ∧ h' = h0 ∧ Cut st es cut ∧ (going = false → fits cut es) ∧ m = (vsum cut).toNat * 2 + (if going = true then 1 else 0)
theorem Cut.step {st : List Int} {es : List Ev} {c : List Int} {e : Ev} (C : Cut st es c) (m : e ∈ es) (eo : EvOk e) (hh : ¬ has c e) : Cut st es (vmin c e.past) := by
  refine ⟨vmin_len _ _, fun i hi => ?_, fun i hi => ?_, fun c' l' le' f' i hi => ?_⟩
  · rw [vmin_gd _ _ hi]
    have := C.nn i hi
    have := eo.p i hi
    omega
  · rw [vmin_gd _ _ hi]
    have := C.le i hi
    omega
  · rw [vmin_gd _ _ hi]
    have a := C.top c' l' le' f'
    have b : vle c' e.past := by
      rcases f' e m with q | q
      · exact absurd (Int.le_trans q (a e.s eo.s)) hh
      · exact q
    have := a i hi
    have := b i hi
    omega
theorem cut_of_ok {st : List Int} {es : List Ev} {h : Hs} {Q : VQ} {E : XQ} (ls : st.length = 8) (ns : ∀ i, i < 8 → 0 ≤ gd st i) (he : ∀ e ∈ es, EvOk e) (hQ : ∀ c, Cut st es c → fits c es → Q (VP c) h) : d_cut_of [VP st, .brw (es.map evP)] h Q E := by
  unfold d_cut_of d_cut_of_b dDef
  refine ⟨rfl, ?_⟩
  refine seq_in fun N hN => ?_
  simp
  refine hN _ _ ?_
  clear hN
  refine seq_in fun N hN => ?_
  simp
  refine hN _ _ ?_
  clear hN
  refine seq_in fun N hN => ?_
  refine ⟨CutI st es h, ⟨_, st, true, none, rfl, rfl, ⟨ls, ns, fun _ _ => Int.le_refl _, fun c' _ l _ => l⟩, by simp, rfl⟩, ?_⟩
  rintro m env h' ⟨cut, going, ev, rfl, rfl, C, hf, rfl⟩
  simp
  cases going with
  | false =>
    simp
    refine hN _ _ ?_
    simp
    exact hQ cut C (hf rfl)
  | true =>
    simp
    refine forL_inv (fun j env h2 => ∃ (cut' : List Int) (going : Bool) (ev : Option SV), env = [some (VP st), some (.brw (es.map evP)), some (VP cut'), some (.val (.bl going)), ev] ∧ h2 = h' ∧ Cut st es cut' ∧ (going = false → cut' = cut ∧ ∀ i e, i < j → es[i]? = some e → has cut e ∨ vle cut e.past) ∧ (going = true → vsum cut' < vsum cut)) _ 0 _ _ ⟨cut, false, ev, rfl, rfl, C, fun _ => ⟨rfl, fun i e l => by omega⟩, by simp⟩ ?_ ?_
    · rintro i x e env h2 ⟨cut', going, ev, rfl, rfl, C', h0, h1⟩ M hM
      rw [List.getElem?_map] at e
      cases e2 : es[i]? with
      | none => rw [e2] at e; cases e
      | some ev0 =>
        rw [e2] at e
        cases e
        have eo := he _ (List.mem_of_getElem? e2)
        have c2 : cutP [PV.int ev0.s, .int ev0.n, .tup (ev0.past.map .int), .int ev0.ht, ev0.op] none (some 2) = [.int ev0.s, .int ev0.n] := rfl
        simp [evP, d_dot_of, d_dot_of_b, c2, ↓knows_eq _ _ _ cut' (ev0.s : Int) ev0.n C'.l (by omega) (by have := eo.s; omega), ↓covers_eq _ _ _ ev0.past cut' eo.l, zip_vle eo.l C'.l, szL]
        have mm : ev0 ∈ es := List.mem_of_getElem? e2
        have nxt : ∀ (i' : Nat) (e : Ev), (has cut ev0 ∨ vle cut ev0.past) → (∀ i e', i < 0 + i' → es[i]? = some e' → has cut e' ∨ vle cut e'.past) → i' = i → ∀ j e', j < 0 + i' + 1 → es[j]? = some e' → has cut e' ∨ vle cut e'.past := by
          rintro i' e q old rfl j e' jl e3
          by_cases ji : j < i'
          · exact old j e' (by omega) e3
          · obtain rfl : j = i' := by omega
            rw [e2] at e3
            cases e3
            exact q
        split
        · rename_i q
          exact hM _ _ ⟨cut', going, _, rfl, rfl, C', fun g => ⟨(h0 g).1, nxt i ev0 (.inl (by have := (h0 g).1; subst this; exact q)) (h0 g).2 rfl⟩, h1⟩
        split
        · rename_i q _ q2
          exact hM _ _ ⟨cut', going, _, rfl, rfl, C', fun g => ⟨(h0 g).1, nxt i ev0 (.inr (by have := (h0 g).1; subst this; exact q2)) (h0 g).2 rfl⟩, h1⟩
        · rename_i q q2
          rw [show [PV.tup (List.map PV.int cut'), PV.tup (List.map PV.int ev0.past)] = [cut', ev0.past].map (fun v => .tup (v.map .int)) from rfl, least_eq _ _ _ _ (by simp) (by simp [C'.l, eo.l]) (by simp)]
          simp
          refine hM _ _ ⟨vmin cut' ev0.past, true, _, rfl, rfl, C'.step mm eo q, by simp, fun _ => ?_⟩
          have a := vsum_lt q2
          cases going with
          | false => obtain ⟨rfl, _⟩ := h0 rfl; exact a
          | true => have := h1 rfl; omega
    · rintro env h2 ⟨cut', going, ev, rfl, rfl, C', h0, h1⟩
      refine ⟨trivial, _, ?_, cut', going, ev, rfl, rfl, C', ?_, rfl⟩
      · have n1 := vsum_nn C.nn
        have n2 := vsum_nn C'.nn
        cases going with
        | false => obtain ⟨rfl, _⟩ := h0 rfl; simp
        | true => have := h1 rfl; simp; omega
      · rintro rfl
        obtain ⟨rfl, q⟩ := h0 rfl
        intro e m
        obtain ⟨i, hi⟩ := List.mem_iff_getElem?.mp m
        exact q i e (by rw [List.length_map]; have := (List.getElem?_eq_some_iff.mp hi).1; omega) hi
end PM

namespace PM
open PySem PySem.Spec L2
open PyProof.Rows hiding St
section
variable {h : Hs} {Q : VQ} {E : XQ} {v w : List Int} (lv : v.length = 8) (lw : w.length = 8)
def vmax (v w : List Int) : List Int := (List.range 8).map fun k => max (gd v k) (gd w k)
theorem vmax_gd (v w : List Int) {i : Nat} (h : i < 8) : gd (vmax v w) i = max (gd v i) (gd w i) := gd_range _ h
theorem vmax_len (v w : List Int) : (vmax v w).length = 8 := by simp [vmax]
include lv lw
theorem join_eq : d_law_join [VP v, VP w] h Q E = Q (VP (vmax v w)) h := by
  simp [d_law_join, d_law_join_b]
  rw [r8, compL_eq (fun k => [some (VP v), some (VP w), some (.val (.int (k : Nat)))]) (fun k => .val (.int (max (gd v k) (gd w k)))) _ (fun k => .int (max (gd v k) (gd w k))) trivial (fun _ => rfl) _ _ (fun _ _ _ => by simp) ?_ (szL (by simp))]
  · simp [vmax]
    rfl
  · intro k hk Q E
    have k8 : k < 8 := by simpa using hk
    simp [atI_getD (show k < v.length by omega), atI_getD (show k < w.length by omega)]
theorem lcov_eq : d_law_covers [VP v, VP w] h Q E = Q (.val (.bl (decide (vle w v)))) h := by
  simp [d_law_covers, d_law_covers_b]
  rw [r8, compL_eq (fun k => [some (VP v), some (VP w), some (.val (.int (k : Nat)))]) (fun k => .val (.int (gd v k - gd w k))) _ (fun k => .int (gd v k - gd w k)) trivial (fun _ => rfl) _ _ (fun _ _ _ => by simp) ?_ (szL (by simp))]
  · have e : decide (0 ≤ minI ((List.range 8).map fun k => gd v k - gd w k)) = decide (vle w v) := by
      rw [Bool.eq_iff_iff, decide_eq_true_eq, decide_eq_true_eq]
      exact min_le
    simp [e]
  · intro k hk Q E
    have k8 : k < 8 := by simpa using hk
    simp [atI_getD (show k < v.length by omega), atI_getD (show k < w.length by omega)]
omit lw in
theorem has_eq (e : Ev) (he : e.s < 8) : d_law_has [VP v, .val (evP e)] h Q E = Q (.val (.bl (decide (has v e)))) h := by
  simp [d_law_has, d_law_has_b, evP, atI_getD (show e.s < v.length by omega)]
omit lw in
theorem fits_loop {xs : List PV} {D : DEnds} : ∀ {es : List Ev} (w0 : Option SV), (∀ e ∈ es, EvOk e) →
    forL (fun _ => True) (bName 2) (sIf (dAnd (dNot (dTru (dCall 2 d_law_has (dCons (dVar 0) (dCons (dVar 2) dNil))))) (dNot (dTru (dCall 2 d_law_covers (dCons (dOp gIx (dVar 2) (dC (.int 2))) (dCons (dVar 0) dNil)))))) (sRet (dC (.bl false))) sNil)
      { nx := fun _ h1 => Q (.val (.bl true)) h1, rt := Q, ex := fun c _ h' => E c h' } (es.map evP) [some (VP v), some (.brw xs), w0] h = Q (.val (.bl (es.all fun e => decide (e.n ≤ gd v e.s) || decide (vle v e.past)))) h
  | [], w0, he => by simp
  | e :: es, w0, he => by
    have ih := fun w0 => fits_loop (xs := xs) (D := D) (es := es) w0 fun e m => he e (List.mem_cons_of_mem _ m)
    have eo := he e List.mem_cons_self
    have hq := fun (Q : VQ) (E : XQ) => has_eq (h := h) (Q := Q) (E := E) lv e eo.s
    simp only [evP] at hq
    rw [List.map_cons]
    simp [evP, ↓hq, ↓lcov_eq eo.l lv]
    by_cases a : e.n ≤ gd v e.s
    · simp [a, ih, show ¬ gd v e.s < e.n by omega]
    · by_cases b : vle v e.past
      · simp [a, b, ih]
      · simp [a, b]
omit lw in
theorem fits_eq {es : List Ev} (he : ∀ e ∈ es, EvOk e) : d_law_fits [VP v, .brw (es.map evP)] h Q E = Q (.val (.bl (es.all fun e => decide (e.n ≤ gd v e.s) || decide (vle v e.past)))) h := by
  have := fits_loop (h := h) (Q := Q) (E := E) (D := ⟨fun _ _ => False, fun _ _ => False, fun _ _ => False, fun _ _ => False, fun _ _ _ => False⟩) lv (xs := es.map evP) none he
  simp [d_law_fits, d_law_fits_b]
  rw [this]
end
theorem mem_ins {fs : List Ev} {k : Nat} {e x : Ev} : x ∈ fs.take k ++ [e] ++ fs.drop k ↔ x ∈ fs ∨ x = e := by
  have : x ∈ fs ↔ x ∈ fs.take k ∨ x ∈ fs.drop k := by
    rw [← List.mem_append, List.take_append_drop]
  rw [this]
  simp only [List.mem_append, List.mem_singleton]
  constructor
  · rintro ((a | a) | a)
    · exact .inl (.inl a)
    · exact .inr a
    · exact .inl (.inr a)
  · rintro ((a | a) | a)
    · exact .inl (.inl a)
    · exact .inr a
    · exact .inl (.inr a)
theorem mixed_ok {h : Hs} {Q : VQ} {E : XQ} {n : Nat} {es : List Ev} (hl : es.length ≤ 4000) (hb : B n h) (hQ : ∀ (fs : List Ev) h', (∀ e, e ∈ fs ↔ e ∈ es) → fs.length = es.length → B n h' → Q (.own (fs.map evP)) h') : d_law_mixed [.brw (es.map evP), .val (.ref n)] h Q E := by
  unfold d_law_mixed d_law_mixed_b dDef
  refine ⟨rfl, ?_⟩
  refine seq_in fun N hN => ?_
  simp [szL]
  refine hN _ _ ?_
  clear hN
  refine seq_in fun N hN => ?_
  simp
  refine forL_inv (fun j env h => B n h ∧ ∃ (fs : List Ev) (w : Option SV), env = [some (.brw (es.map evP)), some (.val (.ref n)), some (.own (fs.map evP)), w] ∧ fs.length = j ∧ ∀ e, e ∈ fs ↔ e ∈ es.take j) _ 0 _ _ ⟨hb, [], none, rfl, rfl, by simp⟩ ?_ ?_
  · rintro i x e env h ⟨hb, fs, w, rfl, fl, fm⟩ M hM
    rw [List.getElem?_map] at e
    cases e2 : es[i]? with
    | none => rw [e2] at e; cases e
    | some ev0 =>
      rw [e2] at e
      cases e
      have il : i < es.length := (List.getElem?_eq_some_iff.mp e2).1
      have k0 : (0 : Int) < (fs.length : Int) + 1 := by omega
      have k1 : (fs.length : Int) + 1 < 2 ^ 200 := by
        have : (4001 : Int) < 2 ^ 200 := by decide
        omega
      have t0 := tk_ge (n := n) (h := h) k0
      have t1 := tk_lt (n := n) (h := h) k0
      have e1 : ∀ (Q : VQ) (E : XQ), d_law_take [.val (.ref n), .val (.int ((fs.length : Int) + 1))] h Q E = Q (.val (.int (tk n ((fs.length : Int) + 1) h))) (pt n ((fs.length : Int) + 1) h) := fun Q E => take_eq hb k0 k1
      simp [↓e1]
      refine ⟨szLt (by omega), t0, by omega, ?_⟩
      generalize tk n ((fs.length : Int) + 1) h = t at *
      have key : List.take t.toNat (fs.map evP) ++ evP ev0 :: List.drop t.toNat (fs.map evP) = (fs.take t.toNat ++ [ev0] ++ fs.drop t.toNat).map evP := by simp [List.map_take, List.map_drop]
      rw [key]
      refine hM _ _ ⟨hb.pt, fs.take t.toNat ++ [ev0] ++ fs.drop t.toNat, _, rfl, ?_, fun x => ?_⟩
      · rw [List.length_append, List.length_append, List.length_take, List.length_drop, List.length_singleton]
        omega
      · rw [mem_ins, fm x, Nat.zero_add, show i + 1 = i + 1 from rfl, List.take_succ, e2]
        simp
  · rintro env h ⟨hb, fs, w, rfl, fl, fm⟩
    refine ⟨trivial, hN _ _ ?_⟩
    simp
    refine hQ fs h (fun e => ?_) ?_ hb
    · rw [fm e, List.length_map, Nat.zero_add, List.take_length]
    · rw [fl, List.length_map, Nat.zero_add]
end PM

namespace PM
open PySem PySem.Spec L2
open PyProof.Rows hiding St
/-- all vectors below, the way the reference builds them -/
def bstep (found : List (List Int)) (s : Int) : List (List Int) := found.flatMap fun row => (List.range (s + 1).toNat).map fun (k : Nat) => row ++ [Int.ofNat k]
def belowL (xs : List Int) : List (List Int) := xs.foldl bstep [[]]
theorem bstep_mem {found : List (List Int)} {s : Int} {w : List Int} : w ∈ bstep found s ↔ ∃ row k, row ∈ found ∧ w = row ++ [k] ∧ 0 ≤ k ∧ k ≤ s := by
  unfold bstep
  rw [List.mem_flatMap]
  constructor
  · rintro ⟨row, m, q⟩
    obtain ⟨k, hk, rfl⟩ := List.mem_map.mp q
    have := List.mem_range.mp hk
    exact ⟨row, Int.ofNat k, m, rfl, Int.natCast_nonneg k, by show (k : Int) ≤ s; omega⟩
  · rintro ⟨row, k, m, rfl, k0, k1⟩
    refine ⟨row, m, List.mem_map.mpr ⟨k.toNat, List.mem_range.mpr (by omega), ?_⟩⟩
    show row ++ [((k.toNat : Nat) : Int)] = row ++ [k]
    rw [Int.toNat_of_nonneg k0]
theorem below_mem : ∀ (xs : List Int) (found : List (List Int)) (w : List Int), w ∈ xs.foldl bstep found ↔ ∃ row r, row ∈ found ∧ w = row ++ r ∧ r.length = xs.length ∧ ∀ i, i < xs.length → 0 ≤ gd r i ∧ gd r i ≤ gd xs i
  | [], found, w => by
    constructor
    · intro m
      exact ⟨w, [], m, by simp, rfl, by simp⟩
    · rintro ⟨row, r, m, rfl, l, _⟩
      obtain rfl := List.eq_nil_of_length_eq_zero l
      simpa using m
  | s :: xs, found, w => by
    rw [List.foldl_cons, below_mem xs]
    constructor
    · rintro ⟨row, r, m, rfl, l, h⟩
      obtain ⟨row0, k, m0, rfl, k0, k1⟩ := bstep_mem.mp m
      refine ⟨row0, k :: r, m0, by simp, by simp [l], fun i hi => ?_⟩
      cases i with
      | zero => exact ⟨k0, k1⟩
      | succ i => exact h i (by simpa using hi)
    · rintro ⟨row, r, m, rfl, l, h⟩
      cases r with
      | nil => simp at l
      | cons k r =>
        have h0 := h 0 (by simp)
        refine ⟨row ++ [k], r, bstep_mem.mpr ⟨row, k, m, rfl, h0.1, h0.2⟩, by simp, by simpa using l, fun i hi => h (i + 1) (by simpa using hi)⟩
theorem belowL_mem {xs w : List Int} (lx : xs.length = 8) : w ∈ belowL xs ↔ w.length = 8 ∧ (∀ i, i < 8 → 0 ≤ gd w i) ∧ vle w xs := by
  unfold belowL
  rw [below_mem]
  constructor
  · rintro ⟨row, r, m, rfl, l, h⟩
    obtain rfl := List.mem_singleton.mp m
    simp only [List.nil_append]
    exact ⟨by omega, fun i hi => (h i (by omega)).1, fun i hi => (h i (by omega)).2⟩
  · rintro ⟨l, h0, h1⟩
    exact ⟨[], w, by simp, by simp, by omega, fun i hi => ⟨h0 i (by omega), h1 i (by omega)⟩⟩
theorem bstep_len {found : List (List Int)} {s : Int} (s0 : 0 ≤ s) : (bstep found s).length = found.length * (s + 1).toNat := by
  unfold bstep
  rw [List.length_flatMap]
  induction found with
  | nil => simp
  | cons a l ih => simp at ih ⊢; rw [ih, Nat.add_mul]; omega
abbrev tP (v : List Int) : PV := .tup (v.map .int)
theorem bstep_take {found : List (List Int)} {s : Int} {j : Nat} {row : List Int} (e : found[j]? = some row) : bstep (found.take (j + 1)) s = bstep (found.take j) s ++ (List.range (s + 1).toNat).map fun (k : Nat) => row ++ [Int.ofNat k] := by
  unfold bstep
  rw [List.take_succ, e, List.flatMap_append]
  simp
theorem below_turn {h : Hs} {D : DEnds} {found : List (List Int)} {s : Int} {w0 w4 w5 : Option SV} (s0 : 0 ≤ s) (s1 : s ≤ 1000) (fl : ∀ r ∈ found, r.length ≤ 100) (hl : found.length * (s + 1).toNat ≤ 8000)
    (hD : ∀ w4 w5, D.nx [w0, some (.val (.lst (found.map tP))), some (.val (.int s)), some (.own ((bstep found s).map tP)), w4, w5] h) :
    forL (fun _ => True) (bName 4) (sFor (dRng1 (dOp gAdd (dVar 2) (dC (.int 1)))) (bName 5) (sFrz 5 (sAppV 3 (dOp gAdd (dVar 4) (dTup (dCons (dVar 5) dNil)))))) D (found.map tP) [w0, some (.val (.lst (found.map tP))), some (.val (.int s)), some (.own []), w4, w5] h := by
  refine forL_inv (fun j env h' => h' = h ∧ ∃ w4 w5, env = [w0, some (.val (.lst (found.map tP))), some (.val (.int s)), some (.own ((bstep (found.take j) s).map tP)), w4, w5]) _ 0 _ _ ⟨rfl, w4, w5, rfl⟩ ?_ ?_
  · rintro i x e env h' ⟨rfl, w4, w5, rfl⟩ M hM
    rw [List.getElem?_map] at e
    cases e2 : found[i]? with
    | none => rw [e2] at e; cases e
    | some row =>
      rw [e2] at e
      cases e
      have il : i < found.length := (List.getElem?_eq_some_iff.mp e2).1
      have rl := fl row (List.mem_of_getElem? e2)
      have bl : (bstep (found.take i) s).length + (s + 1).toNat ≤ 8000 := by
        rw [bstep_len s0, List.length_take, Nat.min_eq_left (by omega), ← Nat.succ_mul]
        exact Nat.le_trans (Nat.mul_le_mul_right _ il) hl
      simp
      refine ⟨by omega, by omega, ?_⟩
      refine forL_inv (fun j env h2 => h2 = h' ∧ ∃ w5, env = [w0, some (.val (.lst (found.map tP))), some (.val (.int s)), some (.own ((bstep (found.take i) s ++ (List.range j).map fun (k : Nat) => row ++ [Int.ofNat k]).map tP)), some (.val (tP row)), w5]) _ 0 _ _ ⟨rfl, w5, by simp⟩ ?_ ?_
      · rintro j x e env h2 ⟨rfl, w5, rfl⟩ M2 hM2
        obtain ⟨hj, rfl⟩ := rangeP_get e
        simp [szL, szLt]
        refine ⟨szL (by omega), szLt (by omega), ?_⟩
        have key : List.map tP (bstep (List.take i found) s) ++ (List.map (tP ∘ fun (k : Nat) => row ++ [(k : Int)]) (List.range j) ++ [PV.tup (List.map PV.int row ++ [PV.int (j : Int)])]) = (bstep (found.take i) s ++ (List.range (j + 1)).map fun (k : Nat) => row ++ [Int.ofNat k]).map tP := by
          rw [List.range_succ]
          simp
        rw [key]
        refine hM2 _ _ ⟨rfl, some (.val (.int (j : Int))), ?_⟩
        rw [Nat.zero_add]
      · rintro env h2 ⟨rfl, w5, rfl⟩
        refine ⟨trivial, hM _ _ ⟨rfl, some (.val (tP row)), w5, ?_⟩⟩
        rw [Nat.zero_add, Nat.zero_add, bstep_take e2, rangeP_len]
  · rintro env h' ⟨rfl, w4, w5, rfl⟩
    rw [Nat.zero_add, List.length_map, List.take_length]
    exact ⟨trivial, hD _ _⟩
def prodN : List Int → Nat
  | [] => 1
  | x :: xs => (x + 1).toNat * prodN xs
theorem prodN_pos {xs : List Int} (h : ∀ x ∈ xs, 0 ≤ x) : 1 ≤ prodN xs := by
  induction xs with
  | nil => exact Nat.le_refl _
  | cons x xs ih =>
    have := ih fun y m => h y (List.mem_cons_of_mem _ m)
    have := h x List.mem_cons_self
    exact Nat.mul_pos (by omega) (by omega)
theorem bstep_row {found : List (List Int)} {s : Int} {n : Nat} (h : ∀ r ∈ found, r.length ≤ n) : ∀ r ∈ bstep found s, r.length ≤ n + 1 := fun r m => by
  obtain ⟨row, k, mr, rfl, _⟩ := bstep_mem.mp m
  have := h row mr
  simp
  exact this
theorem below_loop {h : Hs} {D : DEnds} {w0 : Option SV} : ∀ (xs : List Int) (found : List (List Int)) (n : Nat) (sv : SV) (w2 w3 w4 w5 : Option SV), (sv = .own (found.map tP) ∨ sv = .val (.lst (found.map tP))) → (∀ x ∈ xs, 0 ≤ x ∧ x ≤ 1000) → (∀ r ∈ found, r.length ≤ n) → n + xs.length ≤ 100 → found.length * prodN xs ≤ 8000 →
    (∀ sv w2 w3 w4 w5, (sv = .own ((xs.foldl bstep found).map tP) ∨ sv = .val (.lst ((xs.foldl bstep found).map tP))) → D.nx [w0, some sv, w2, w3, w4, w5] h) →
    forL (fun _ => True) (bName 2) (sSeq (sAsg 3 (dLst dNil)) (sSeq (sFrz 1 (sFor (dIt (dKV 1)) (bName 4) (sFor (dRng1 (dOp gAdd (dVar 2) (dC (.int 1)))) (bName 5) (sFrz 5 (sAppV 3 (dOp gAdd (dVar 4) (dTup (dCons (dVar 5) dNil)))))))) (sFrz 3 (sAsg 1 (dVar 3))))) D (xs.map .int) [w0, some sv, w2, w3, w4, w5] h
  | [], found, n, sv, w2, w3, w4, w5, hs, _, _, _, _, hD => by
    refine ⟨trivial, hD sv _ _ _ _ ?_⟩
    rcases hs with rfl | rfl
    · exact .inl rfl
    · exact .inr rfl
  | s :: xs, found, n, sv, w2, w3, w4, w5, hs, hx, hr, hn, hp, hD => by
    have s01 := hx s List.mem_cons_self
    have pp : 1 ≤ prodN xs := prodN_pos fun y m => (hx y (List.mem_cons_of_mem _ m)).1
    have hp' : found.length * (s + 1).toNat * prodN xs ≤ 8000 := by
      rw [Nat.mul_assoc]
      exact hp
    have h8 : found.length * (s + 1).toNat ≤ 8000 := Nat.le_trans (Nat.le_mul_of_pos_right _ pp) hp'
    have hn' : n + 1 + xs.length ≤ 100 := by simp at hn; omega
    have ih := below_loop (h := h) (D := D) (w0 := w0) xs (bstep found s) (n + 1)
    rw [List.map_cons, forL_cons]
    refine ⟨trivial, ?_⟩
    rw [bName_eq]
    refine seq_in fun N hN => ?_
    simp
    refine hN _ _ ?_
    clear hN
    refine seq_in fun N hN => ?_
    have fz : ∀ w3 w4 w5 : Option SV, frzE 1 [w0, some sv, some (.val (.int s)), w3, w4, w5] = [w0, some (.val (.lst (found.map tP))), some (.val (.int s)), w3, w4, w5] := fun w3 w4 w5 => by
      rcases hs with rfl | rfl <;> simp
    rw [sFrz_eq, fz, sFor_eq, dIt_eq, dKV_eq]
    simp only [List.getElem?_cons_succ, List.getElem?_cons_zero, walkQ_eq, seqC, listC]
    refine ⟨_, rfl, ?_⟩
    have ch : (fun h' : Hs => some (found.map tP) = some (found.map tP)) = fun _ => True := by simp
    simp only [ch]
    refine below_turn s01.1 s01.2 (fun r m => by have := hr r m; simp at hn; omega) h8 fun w4 w5 => hN _ _ ?_
    clear hN
    simp only [sFrz_eq, frzE_eq, sAsg_eq, dVar_eq, List.getElem?_cons_succ, List.getElem?_cons_zero, List.set_cons_succ, List.set_cons_zero, SV.isB, true_and]
    refine ih _ _ _ _ _ (.inr rfl) (fun y m => hx y (List.mem_cons_of_mem _ m)) (bstep_row hr) hn' (by rw [bstep_len s01.1]; exact hp') fun sv w2 w3 w4 w5 q => hD sv w2 w3 w4 w5 q
/-- small and nothing from the third site on -/
structure Wk (v : List Int) : Prop where
  l : v.length = 8
  nn : ∀ i, i < 8 → 0 ≤ gd v i
  b : ∀ i, i < 8 → gd v i ≤ 15
  z : ∀ i, i < 8 → 3 ≤ i → gd v i = 0
theorem prod_wk {v : List Int} (h : Wk v) : prodN v ≤ 4096 := by
  obtain ⟨a0, a1, a2, a3, a4, a5, a6, a7, rfl⟩ := len8 h.l
  have n0 := h.nn 0 (by omega)
  have n1 := h.nn 1 (by omega)
  have n2 := h.nn 2 (by omega)
  have b0 := h.b 0 (by omega)
  have b1 := h.b 1 (by omega)
  have b2 := h.b 2 (by omega)
  have z3 := h.z 3 (by omega) (by omega)
  have z4 := h.z 4 (by omega) (by omega)
  have z5 := h.z 5 (by omega) (by omega)
  have z6 := h.z 6 (by omega) (by omega)
  have z7 := h.z 7 (by omega) (by omega)
  simp [gd] at n0 n1 n2 b0 b1 b2 z3 z4 z5 z6 z7
  subst z3 z4 z5 z6 z7
  simp [prodN]
  have m1 : (a1 + 1).toNat * (a2 + 1).toNat ≤ 16 * 16 := Nat.mul_le_mul (by omega) (by omega)
  exact Nat.mul_le_mul (by omega : (a0 + 1).toNat ≤ 16) m1
theorem below_ok {h : Hs} {Q : VQ} {E : XQ} {st : List Int} (hw : Wk st) (hQ : ∀ sv, (sv = .own ((belowL st).map tP) ∨ sv = .val (.lst ((belowL st).map tP))) → Q sv h) : d_law_below [VP st] h Q E := by
  unfold d_law_below d_law_below_b dDef
  refine ⟨rfl, ?_⟩
  refine seq_in fun N hN => ?_
  simp [szL]
  refine hN _ _ ?_
  clear hN
  refine seq_in fun N hN => ?_
  have hx : ∀ x ∈ st, 0 ≤ x ∧ x ≤ 1000 := fun x m => by
    obtain ⟨i, hi⟩ := List.mem_iff_getElem?.mp m
    have il : i < 8 := by
      have := (List.getElem?_eq_some_iff.mp hi).1
      have := hw.l
      omega
    have e : gd st i = x := by simp [gd, hi]
    have := hw.nn i il
    have := hw.b i il
    omega
  have key := below_loop (h := h) (D := { nx := N, rt := Q, ex := fun c _ h' => E c h' }) (w0 := some (VP st)) st [[]] 0 (.own [tP []]) none none none none (.inl rfl) hx (by simp) (by have := hw.l; omega) (by have := prod_wk hw; simp; omega)
  simp only [sFor_eq, dIt_eq, dKV_eq, walkQ_eq, List.getElem?_cons_zero]
  refine key fun sv w2 w3 w4 w5 q => hN _ _ ?_
  rcases q with rfl | rfl
  · simp
    exact hQ _ (.inl rfl)
  · simp
    exact hQ _ (.inr rfl)
end PM

namespace PM
open PySem PySem.Spec L2
open PyProof.Rows hiding St
theorem pickP {l : List PV} {i : Int} {P R : PV → Prop} (h0 : 0 ≤ i) (h1 : i < l.length) (hl : ∀ x ∈ l, P x) (hR : ∀ p, P p → R p) : ∃ x, atI l i = some x ∧ R x := by
  obtain ⟨c, hc⟩ := atI_some h0 h1
  exact ⟨c, hc, hR c (hl c (atI_mem hc))⟩
theorem op_ok {n : Nat} {h : Hs} {Q : VQ} {E : XQ} {site m : Int} (hb : B n h) (hQ : ∀ p h', Cl 1 p → (∀ m, B m h → B m h') → Q (.val p) h') : d_law_op [.val (.ref n), .val (.int site), .val (.int m)] h Q E := by
  have k0 := tk_ge (n := n) (h := h) (k := 2) (by decide)
  have k1 := tk_lt (n := n) (h := h) (k := 2) (by decide)
  have ab : ∃ c, atI (Str.ofString "ab").cps.toList (tk n 2 h) = some c ∧ PyData.strOk ⟨#[c]⟩ = true := by
    generalize tk n 2 h = t at *
    have : t = 0 ∨ t = 1 := by omega
    rcases this with rfl | rfl
    · exact ⟨97, by decide +kernel, by decide +kernel⟩
    · exact ⟨98, by decide +kernel, by decide +kernel⟩
  obtain ⟨c, hc, ok⟩ := ab
  have sl : (Str.ofString "ab").length ≤ sizeLine := szL (by decide +kernel)
  simp [d_law_op, d_law_op_b, ↓take_eq hb, ↓take_eq hb.pt, hc, sl, szL, cdivW]
  have w1 : ∀ s : String, (PyData.strOk (s : Str) && decide ((s : Str).length ≤ 8192)) = true → Cl 0 (.str (s : Str)) := fun s e => (Cl_str _).mpr (by simpa using e)
  have w2 : Cl 0 (.str ⟨#[c]⟩) := (Cl_str _).mpr ⟨ok, by show 1 ≤ 8192; omega⟩
  refine pickP (P := Cl 1) (tk_ge (by decide)) (by simp; exact tk_lt (by decide)) (fun x q => ?_) fun p hp => hQ p _ hp fun m q => hb.pt.pt2 (hb.pt2 q)
  simp only [List.mem_cons, List.not_mem_nil, or_false] at q
  rcases q with rfl | rfl | rfl | rfl
  all_goals
    rw [Cl_tup]
    simp only [List.forall_mem_cons, List.not_mem_nil, false_imp_iff, implies_true, and_true]
    exact ⟨w1 _ (by decide +kernel), w2, (Cl_int _).mpr trivial⟩
/-- a vector after j turns -/
structure Wj (j : Nat) (v : List Int) : Prop where
  l : v.length = 8
  nn : ∀ i, i < 8 → 0 ≤ gd v i
  b : ∀ i, i < 8 → gd v i ≤ j
  z : ∀ i, i < 8 → 3 ≤ i → gd v i = 0
theorem Wj.succ {j : Nat} {v : List Int} (h : Wj j v) : Wj (j + 1) v := ⟨h.l, h.nn, fun i hi => by have := h.b i hi; omega, h.z⟩
theorem Wj.wk {j : Nat} {v : List Int} (h : Wj j v) (l : j ≤ 15) : Wk v := ⟨h.l, h.nn, fun i hi => by have := h.b i hi; omega, h.z⟩
theorem Wj.max {j : Nat} {v w : List Int} (h : Wj j v) (g : Wj j w) : Wj j (vmax v w) := ⟨vmax_len _ _, fun i hi => by
    rw [vmax_gd _ _ hi]; have := h.nn i hi; omega, fun i hi => by
    rw [vmax_gd _ _ hi]; have := h.b i hi; have := g.b i hi; omega, fun i hi h3 => by
    rw [vmax_gd _ _ hi, h.z i hi h3, g.z i hi h3]; rfl⟩
theorem gd_set {v : List Int} {s i : Nat} {c : Int} (hs : s < v.length) : gd (v.set s c) i = if s = i then c else gd v i := by
  unfold gd
  by_cases e : s = i
  · subst e
    simp [hs]
  · simp [List.getElem?_set, e]
theorem Wj.set {j : Nat} {v : List Int} (h : Wj j v) {s : Nat} (hs : s < 3) : Wj (j + 1) (v.set s (gd v s + 1)) := ⟨by rw [List.length_set]; exact h.l, fun i hi => by
    rw [gd_set (by have := h.l; omega)]
    split
    · have := h.nn s (by omega); omega
    · exact h.nn i hi, fun i hi => by
    rw [gd_set (by have := h.l; omega)]
    split
    · have := h.b s (by omega); omega
    · have := h.b i hi; omega, fun i hi h3 => by
    rw [gd_set (by have := h.l; omega), if_neg (by omega)]
    exact h.z i hi h3⟩
theorem Wj.zero : Wj 0 [0, 0, 0, 0, 0, 0, 0, 0] := by
  refine ⟨rfl, ?_, ?_, ?_⟩ <;> intro i hi <;> have : i = 0 ∨ i = 1 ∨ i = 2 ∨ i = 3 ∨ i = 4 ∨ i = 5 ∨ i = 6 ∨ i = 7 := by omega
  all_goals rcases this with rfl | rfl | rfl | rfl | rfl | rfl | rfl | rfl <;> simp [gd]
abbrev mkP (m : List Int × Int) : PV := .tup [tP m.1, .int m.2]
def HistI (ns : List Int) (at0 wr cnt : Int) (h0 : Hs) (j : Nat) (env : Env) (h : Hs) : Prop :=
  ∃ (es : List Ev) (vs : List (List Int)) (hs : List Int) (ms : List (List Int × Int)) (w8 w9 w10 w11 w12 : Option SV),
    env = [some (.scr ns), some (.val (.int at0)), some (.val (.int wr)), some (.val (.int cnt)), some (.own (es.map evP)), some (.own (vs.map tP)), some (.own (hs.map .int)), some (.own (ms.map mkP)), w8, w9, w10, w11, w12] ∧
    (∀ m, B m h0 → B m h) ∧ es.length ≤ j ∧ (∀ e ∈ es, EvOk e ∧ Cl 1 e.op) ∧ (vs.length : Int) = wr ∧ (∀ v ∈ vs, Wj j v) ∧ (hs.length : Int) = wr ∧ ms.length ≤ j ∧ (∀ m ∈ ms, Wj j m.1) ∧ (w12 = none ∨ ∃ p, w12 = some (.val p))
end PM

namespace PM
open PySem PySem.Spec L2
open PyProof.Rows hiding St
theorem repN_one {α : Type} (k : Nat) (x : α) : repN k [x] = List.replicate k x := by
  unfold repN
  induction k with
  | zero => rfl
  | succ k ih => rw [List.replicate_succ, List.flatten_cons, ih, List.replicate_succ]; rfl
theorem history_ok {ns : List Int} {at0 wr cnt : Int} {h0 : Hs} {Q : VQ} {E : XQ} (w1 : 1 ≤ wr) (w3 : wr ≤ 3) (c0 : 0 ≤ cnt) (c14 : cnt ≤ 14)
    (hQ : ∀ (es : List Ev) (vs mv : List (List Int)) h', (∀ e ∈ es, EvOk e ∧ Cl 1 e.op) → (vs.length : Int) = wr → (∀ v ∈ vs, Wk v) → (∀ v ∈ mv, Wk v) → es.length ≤ 14 → mv.length ≤ 14 → (∀ m, B m h0 → B m h') → Q (.own [.lst (es.map evP), .lst (vs.map tP), .lst (mv.map tP)]) h') :
    d_law_history [.scr ns, .val (.int at0), .val (.int wr), .val (.int cnt)] h0 Q E := by
  unfold d_law_history d_law_history_b dDef
  refine ⟨rfl, ?_⟩
  refine seq_in fun N hN => ?_
  simp [szL]
  refine hN _ _ ?_
  clear hN
  refine seq_in fun N hN => ?_
  have z8 : repN 8 [PV.int 0] = [.int 0, .int 0, .int 0, .int 0, .int 0, .int 0, .int 0, .int 0] := rfl
  simp [szL, z8]
  have sz : (3 : Int) ≤ ((sizeLine : Nat) : Int) := by
    have : 3 ≤ sizeLine := szL (by omega)
    omega
  refine ⟨by omega, by omega, by omega, hN _ _ ?_⟩
  clear hN
  refine seq_in fun N hN => ?_
  simp [szL]
  refine ⟨by omega, by omega, by omega, hN _ _ ?_⟩
  clear hN
  refine seq_in fun N hN => ?_
  simp [szL]
  refine hN _ _ ?_
  clear hN
  refine seq_in fun N hN => ?_
  simp [repN_one]
  refine ⟨by omega, by omega, ?_⟩
  refine forL_inv (HistI ns at0 wr cnt h0) _ 0 _ _ ⟨[], List.replicate wr.toNat [0, 0, 0, 0, 0, 0, 0, 0], List.replicate wr.toNat 0, [], none, none, none, none, none, by simp, fun _ q => q, by simp, by simp, by simp; omega, fun v m => by rw [List.eq_of_mem_replicate m]; exact Wj.zero, by simp; omega, by simp, by simp, .inl rfl⟩ ?_ ?_
  · rintro j x e env h ⟨es, vs, hs, ms, w8, w9, w10, w11, w12, rfl, hB, el, he, vl, hv, hl, ml, hm, n12⟩ M hM
    obtain ⟨hj, rfl⟩ := rangeP_get e
    refine ⟨trivial, ?_⟩
    simp only [bName_eq, List.set_cons_succ, List.set_cons_zero]
    refine seq_in fun N2 hN2 => ?_
    simp
    refine number_ok fun i1 => ?_
    simp [szL]
    refine hN2 _ _ ?_
    clear hN2
    have hb : B h.length (h ++ [Cell.lst [.int i1]]) := B_new
    have hB1 : ∀ m, B m h0 → B m (h ++ [Cell.lst [.int i1]]) := fun m q => (hB m q).push
    generalize h ++ [Cell.lst [.int i1]] = h1 at *
    generalize h.length = n at *
    refine seq_in fun N2 hN2 => ?_
    have wr2 : wr < 2 ^ 200 := by
      have : (3 : Int) < 2 ^ 200 := by decide
      omega
    simp [↓take_eq hb (show 0 < wr by omega) wr2]
    refine hN2 _ _ ?_
    clear hN2
    have s0 := tk_ge (n := n) (h := h1) (k := wr) (by omega)
    have s1 := tk_lt (n := n) (h := h1) (k := wr) (by omega)
    have hB2 : ∀ m, B m h0 → B m (pt n wr h1) := fun m q => hb.pt2 (hB1 m q)
    have hb := hb.pt (k := wr)
    generalize tk n wr h1 = site at *
    generalize pt n wr h1 = h2 at *
    obtain ⟨sn, rfl⟩ := Int.eq_ofNat_of_zero_le s0
    refine if_in fun S T hS hT => ?_
    obtain ⟨v, ev⟩ : ∃ v, vs[sn]? = some v := ⟨_, List.getElem?_eq_getElem (by omega)⟩
    obtain ⟨x, ex⟩ : ∃ x, hs[sn]? = some x := ⟨_, List.getElem?_eq_getElem (by omega)⟩
    have sn3 : sn < 3 := by omega
    have vj : Wj (0 + j) v := hv v (List.mem_of_getElem? ev)
    have av : atI vs (sn : Int) = some v := by rw [atI_nat', ev]
    have ax : atI hs (sn : Int) = some x := by rw [atI_nat', ex]
    have avs : atI v (sn : Int) = some (gd v sn) := atI_getD (by have := vj.l; omega)
    have ls : sn < vs.length := (List.getElem?_eq_some_iff.mp ev).1
    have lh : sn < hs.length := (List.getElem?_eq_some_iff.mp ex).1
    have sS : S [some (.scr ns), some (.val (.int at0)), some (.val (.int wr)), some (.val (.int cnt)), some (.own (es.map evP)), some (.own (vs.map tP)), some (.own (hs.map .int)), some (.own (ms.map mkP)), some (.val (.int j)), some (.val (.ref n)), some (.val (.int sn)), w11, w12] (pt n 5 h2) := by
      refine hS _ _ ?_
      clear hS hT
      refine seq_in fun N2 hN2 => ?_
      simp [av, avs]
      refine hN2 _ _ ?_
      clear hN2
      refine seq_in fun N2 hN2 => ?_
      simp [ax, ixN_some s0 (by simpa using lh)]
      refine hN2 _ _ ?_
      clear hN2
      refine seq_in fun N2 hN2 => ?_
      have aset : atI ((hs.map PV.int).set sn (.int (x + 1))) (sn : Int) = some (.int (x + 1)) := by rw [atI_nat', List.getElem?_set_self (by simpa using lh)]
      simp [av, aset]
      refine op_ok hb.pt fun p h3 hp hB3 => ?_
      simp [szL]
      refine ⟨szLt (by omega), hN2 _ _ ?_⟩
      clear hN2
      refine seq_in fun N2 hN2 => ?_
      have c1 : cutP (v.map PV.int) none (some (sn : Int)) = (v.map PV.int).take sn := cutP_to _ _
      have c2 : cutP (v.map PV.int) (some ((sn : Int) + 1)) none = (v.map PV.int).drop (sn + 1) := cutP_from _ (sn + 1)
      have c3 : (v.map PV.int).take sn ++ PV.int (gd v sn + 1) :: (v.map PV.int).drop (sn + 1) = (v.set sn (gd v sn + 1)).map PV.int := by
        rw [List.map_set, List.set_eq_take_append_cons_drop, if_pos (by rw [List.length_map]; have := vj.l; omega)]
      have vl8 := vj.l
      simp [av, aset]
      rw [c1, c2, c3]
      refine ⟨szL (by omega), szL (by rw [List.length_take, List.length_map]; omega), szL (by rw [List.length_take, List.length_drop, List.length_map]; omega), sn, ixN_some s0 (by omega), hN2 _ _ ?_⟩
      clear hN2
      have bset : atI ((vs.map tP).set sn (.tup ((v.map PV.int).set sn (.int (gd v sn + 1))))) (sn : Int) = some (.tup ((v.map PV.int).set sn (.int (gd v sn + 1)))) := by rw [atI_nat', List.getElem?_set_self (by simpa using ls)]
      simp [aset, bset, szL]
      refine ⟨szLt (by omega), hM _ _ ⟨es ++ [⟨sn, gd v sn + 1, v, x + 1, p⟩], vs.set sn (v.set sn (gd v sn + 1)), hs.set sn (x + 1), ms ++ [(v.set sn (gd v sn + 1), x + 1)], _, _, _, _, _, by simp [evP, mkP, tP, List.map_set]; exact ⟨rfl, rfl, rfl, rfl⟩, fun m q => hB3 m (hb.pt2 (hB2 m q)), by simp; omega, fun e m => ?_, by simpa using vl, fun w m => ?_, by simpa using hl, by simp; omega, fun w m => ?_, n12⟩⟩
      · rcases List.mem_append.mp m with m | m
        · exact he e m
        · obtain rfl := List.mem_singleton.mp m
          exact ⟨⟨show sn < 8 by omega, vj.l, vj.nn⟩, hp⟩
      · rcases List.mem_or_eq_of_mem_set m with m | rfl
        · exact (hv w m).succ
        · exact vj.set sn3
      · rcases List.mem_append.mp m with m | m
        · exact (hm w m).succ
        · obtain rfl := List.mem_singleton.mp m
          exact vj.set sn3
    have sT : ms ≠ [] → T [some (.scr ns), some (.val (.int at0)), some (.val (.int wr)), some (.val (.int cnt)), some (.own (es.map evP)), some (.own (vs.map tP)), some (.own (hs.map .int)), some (.own (ms.map mkP)), some (.val (.int j)), some (.val (.ref n)), some (.val (.int sn)), w11, w12] (pt n 5 h2) := fun ne => by
      refine hT _ _ ?_
      clear hS hT
      refine seq_in fun N2 hN2 => ?_
      have ml0 : 0 < ms.length := List.length_pos_iff.mpr ne
      simp [↓take_eq hb.pt]
      obtain ⟨mk, em⟩ : ∃ mk, atI ms (max 0 ((ms.length : Int) - 1 - tk n 6 (pt n 5 h2))) = some mk := by
        have := tk_ge (n := n) (h := pt n 5 h2) (k := 6) (by decide)
        exact atI_some (by omega) (by omega)
      simp [em]
      refine ⟨mkP mk, ⟨mk.1, mk.2, rfl, rfl⟩, ?_⟩
      refine hN2 _ _ ?_
      clear hN2
      refine seq_in fun N2 hN2 => ?_
      have mj := hm mk (atI_mem em)
      simp [av, ↓join_eq vj.l mj.l, ixN_some s0 (show (sn : Int) < vs.length by omega)]
      refine hN2 _ _ ?_
      clear hN2
      simp [ax, ixN_some s0 (show (sn : Int) < hs.length by omega)]
      refine hM _ _ ⟨es, vs.set sn (vmax v mk.1), hs.set sn (max x mk.2), ms, _, _, _, _, _, by simp [tP, List.map_set]; exact ⟨rfl, rfl, rfl, rfl, rfl⟩, fun m q => hb.pt.pt2 (hb.pt2 (hB2 m q)), by omega, he, by simpa using vl, fun w m => ?_, by simpa using hl, by omega, fun w m => (hm w m).succ, .inr ⟨_, rfl⟩⟩
      rcases List.mem_or_eq_of_mem_set m with m | rfl
      · exact (hv w m).succ
      · exact (vj.max mj).succ
    simp [↓take_eq hb]
    by_cases q : tk n 5 h2 < 3
    · rw [if_pos q]
      exact sS
    · rw [if_neg q]
      by_cases q2 : ms = []
      · rw [if_pos q2]
        exact sS
      · rw [if_neg q2]
        exact sT q2
  · rintro env h ⟨es, vs, hs, ms, w8, w9, w10, w11, w12, rfl, hB, el, he, vl, hv, hl, ml, hm, n12⟩
    refine ⟨trivial, hN _ _ ?_⟩
    rw [rangeP_len] at *
    simp
    rw [compL_eq (fun mk => [some (.scr ns), some (.val (.int at0)), some (.val (.int wr)), some (.val (.int cnt)), some (.val (.lst (es.map evP))), some (.val (.lst (vs.map tP))), some (.own (hs.map .int)), some (.val (.lst (ms.map mkP))), w8, w9, w10, w11, some (.val (mkP mk))]) (fun mk => .val (tP mk.1)) _ (fun mk => tP mk.1) trivial (fun _ => rfl) _ _ (fun _ _ _ => by simp) (fun mk _ _ _ => by simp) (szL (by simp; omega))]
    have no12 : (match w12 with | some (.own xs) => false | _ => true) = true := by rcases n12 with rfl | ⟨p, rfl⟩ <;> rfl
    simp [szL]
    refine ⟨by rcases n12 with rfl | ⟨p, rfl⟩ <;> rfl, ?_⟩
    have := hQ es vs (ms.map (·.1)) h he vl (fun v m => (hv v m).wk (by omega)) (fun v m => ?_) (by omega) (by simp; omega) hB
    · simpa [Function.comp_def] using this
    · obtain ⟨mk, mm, rfl⟩ := List.mem_map.mp m
      exact (hm mk mm).wk (by omega)
end PM

namespace PM
open PySem PySem.Spec L2
open PyProof.Rows hiding St
theorem Wk.max {v w : List Int} (h : Wk v) (g : Wk w) : Wk (vmax v w) := ⟨vmax_len _ _, fun i hi => by
    rw [vmax_gd _ _ hi]; have := h.nn i hi; omega, fun i hi => by
    rw [vmax_gd _ _ hi]; have := h.b i hi; have := g.b i hi; omega, fun i hi h3 => by
    rw [vmax_gd _ _ hi, h.z i hi h3, g.z i hi h3]; rfl⟩
theorem Wk.min {v w : List Int} (h : Wk v) (g : Wk w) : Wk (vmin v w) := ⟨vmin_len _ _, fun i hi => by
    rw [vmin_gd _ _ hi]; have := h.nn i hi; have := g.nn i hi; omega, fun i hi => by
    rw [vmin_gd _ _ hi]; have := h.b i hi; have := g.b i hi; omega, fun i hi h3 => by
    rw [vmin_gd _ _ hi, h.z i hi h3, g.z i hi h3]; rfl⟩
theorem below_len : ∀ (xs : List Int) (found : List (List Int)), (∀ x ∈ xs, 0 ≤ x) → (xs.foldl bstep found).length = found.length * prodN xs
  | [], found, _ => by simp [prodN]
  | x :: xs, found, h => by
    rw [List.foldl_cons, below_len xs _ fun y m => h y (List.mem_cons_of_mem _ m), bstep_len (h x List.mem_cons_self), Nat.mul_assoc]
    rfl
theorem belowL_len {st : List Int} (h : Wk st) : (belowL st).length ≤ 4096 := by
  unfold belowL
  rw [below_len]
  · have := prod_wk h
    simpa using this
  · intro x m
    obtain ⟨i, hi⟩ := List.mem_iff_getElem?.mp m
    have := h.nn i (by have := (List.getElem?_eq_some_iff.mp hi).1; have := h.l; omega)
    simpa [gd, hi] using this
theorem fitsB {c : List Int} {es : List Ev} : (es.all fun e => decide (e.n ≤ gd c e.s) || decide (vle c e.past)) = true ↔ fits c es := by
  simp [fits]
theorem vle_eq {v w : List Int} (lv : v.length = 8) (lw : w.length = 8) (a : vle v w) (b : vle w v) : v = w := by
  apply List.ext_getElem
  · omega
  · intro i h1 h2
    have x := a i (by omega)
    have y := b i (by omega)
    simp [gd, h1, h2] at x y
    omega
theorem cut_uniq {st c c' : List Int} {es es' : List Ev} (h : Cut st es c) (f : fits c es) (h' : Cut st es' c') (f' : fits c' es') (m : ∀ e, e ∈ es ↔ e ∈ es') : c' = c :=
  vle_eq h'.l h.l (h.top c' h'.l h'.le fun e q => f' e ((m e).mp q)) (h'.top c h.l h.le fun e q => f e ((m e).mpr q))
theorem law_den (ns : List Int) (hl : ns.length ≤ 63) : d_law [.scr ns] [] (fun sv _ => sv = .val (.bl true)) fun _ _ => False := by
  unfold d_law d_law_b dDef
  refine ⟨rfl, ?_⟩
  refine seq_in fun N hN => ?_
  simp
  refine number_ok fun i1 => ?_
  simp [szL]
  refine hN _ _ ?_
  clear hN
  have hb : B 0 [Cell.lst [.int i1]] := ⟨i1, rfl⟩
  generalize [Cell.lst [.int i1]] = h at *
  refine seq_in fun N hN => ?_
  simp [↓take_eq hb]
  refine hN _ _ ?_
  clear hN
  have w0 := tk_ge (n := 0) (h := h) (k := 3) (by decide)
  have w1 := tk_lt (n := 0) (h := h) (k := 3) (by decide)
  have hb := hb.pt (k := 3)
  generalize pt 0 3 h = h at *
  generalize tk 0 3 _ = wr at *
  refine seq_in fun N hN => ?_
  simp [↓take_eq hb]
  have c0 := tk_ge (n := 0) (h := h) (k := 15) (by decide)
  have c1 := tk_lt (n := 0) (h := h) (k := 15) (by decide)
  refine history_ok (by omega) (by omega) c0 (by omega) fun es vs mv h2 he vl hv hm el ml hB => ?_
  simp
  refine hN _ _ ?_
  clear hN
  have hb := hB 0 hb.pt
  clear hB c0 c1
  refine seq_in fun N hN => ?_
  have wk : 1 + wr < 2 ^ 200 := by
    have : (3 : Int) < 2 ^ 200 := by decide
    omega
  have t0 := tk_ge (n := 0) (h := h2) (k := 1 + wr) (by omega)
  have t1 := tk_lt (n := 0) (h := h2) (k := 1 + wr) (by omega)
  obtain ⟨v, ev⟩ : ∃ v, atI vs (tk 0 (1 + wr) h2) = some v := atI_some t0 (by omega)
  have hvv := hv v (atI_mem ev)
  simp [↓take_eq hb (show 0 < 1 + wr by omega) wk]
  refine ⟨tP v, ⟨v, ev, rfl⟩, hN _ _ ?_⟩
  clear hN ev t0 t1
  have hb := hb.pt (k := 1 + wr)
  generalize pt 0 (1 + wr) h2 = h3 at *
  refine seq_in fun N hN => ?_
  have step : ∀ v w5 h4, (w5 = none ∨ ∃ p, w5 = some (.val p)) → Wk v → B 0 h4 → N [some (.scr ns), some (.val (.ref 0)), some (.val (.int (1 + wr))), some (.own [.lst (es.map evP), .lst (vs.map tP), .lst (mv.map tP)]), some (.val (tP v)), w5, none, none, none, none, none, none, none, none, none, none, none, none, none, none] h4 := by
    intro v w5 h n5 hvv hb
    have n5' : ∀ xs, w5 ≠ some (.own xs) := by rcases n5 with rfl | ⟨p, rfl⟩ <;> simp
    refine hN _ _ ?_
    clear hN
    refine seq_in fun N hN => ?_
    simp
    refine hN _ _ ?_
    clear hN
    refine seq_in fun N hN => ?_
    have t0 := tk_ge (n := 0) (h := h) (k := 3) (by decide)
    have t1 := tk_lt (n := 0) (h := h) (k := 3) (by decide)
    simp [↓take_eq hb]
    refine ⟨by omega, by omega, ?_⟩
    refine forL_inv (fun j env h4 => ∃ st w7 w8, env = [some (.scr ns), some (.val (.ref 0)), some (.val (.int (1 + wr))), some (.own [.lst (es.map evP), .lst (vs.map tP), .lst (mv.map tP)]), some (.val (tP v)), w5, some (.val (tP st)), w7, w8, none, none, none, none, none, none, none, none, none, none, none] ∧ Wk st ∧ B 0 h4) _ 0 _ _ ⟨v, none, none, rfl, hvv, hb.pt⟩ ?_ ?_
    · rintro j x e env h4 ⟨st, w7, w8, rfl, hst, hb⟩ M hM
      obtain ⟨hj, rfl⟩ := rangeP_get e
      refine ⟨trivial, ?_⟩
      refine if_in fun S T hS hT => ?_
      simp
      by_cases l0 : 0 < mv.length
      rotate_left
      · rw [if_neg l0]
        refine hT _ _ ?_
        simp
        exact hM _ _ ⟨st, _, _, rfl, hst, hb⟩
      · rw [if_pos l0]
        refine hS _ _ ?_
        have lk : (mv.length : Int) < 2 ^ 200 := by
          have : (14 : Int) < 2 ^ 200 := by decide
          omega
        obtain ⟨mk, em⟩ : ∃ mk, atI mv (tk 0 (mv.length : Int) h4) = some mk := atI_some (tk_ge (by omega)) (tk_lt (by omega))
        have hmk := hm mk (atI_mem em)
        refine seq_in fun N2 hN2 => ?_
        simp [↓take_eq hb (show 0 < (mv.length : Int) by omega) lk]
        refine ⟨tP mk, ⟨mk, em, rfl⟩, hN2 _ _ ?_⟩
        clear hN2
        simp
        rw [r8, compL_eq (fun k => [some (.scr ns), some (.val (.ref 0)), some (.val (.int (1 + wr))), some (.own [.lst (es.map evP), .lst (vs.map tP), .lst (mv.map tP)]), some (.val (tP v)), w5, some (.val (tP st)), some (.val (.int j)), some (.val (tP mk)), none, none, none, none, none, none, none, none, some (.val (.int (k : Nat))), none, none]) (fun k => .val (.int (min (gd st k) (gd mk k)))) _ (fun k => .int (min (gd st k) (gd mk k))) trivial (fun _ => rfl) _ _ (fun _ _ _ => by simp) ?_ (szL (by simp))]
        · have := hM [some (.scr ns), some (.val (.ref 0)), some (.val (.int (1 + wr))), some (.own [.lst (es.map evP), .lst (vs.map tP), .lst (mv.map tP)]), some (.val (tP v)), w5, some (.val (tP (vmin st mk))), some (.val (.int j)), some (.val (tP mk)), none, none, none, none, none, none, none, none, none, none, none] _ ⟨vmin st mk, _, _, rfl, hst.min hmk, hb.pt (k := (mv.length : Int))⟩
          simpa [vmin, Function.comp_def, tP] using this
        · intro k hk Q E
          have k8 : k < 8 := by simpa using hk
          simp [atI_getD (show k < st.length by have := hst.l; omega), atI_getD (show k < mk.length by have := hmk.l; omega)]
    · rintro env h4 ⟨st, w7, w8, rfl, hst, hb⟩
      refine ⟨trivial, hN _ _ ?_⟩
      clear hN
      refine seq_in fun N hN => ?_
      have step2 : ∀ st h5, Wk st → B 0 h5 → N [some (.scr ns), some (.val (.ref 0)), some (.val (.int (1 + wr))), some (.own [.lst (es.map evP), .lst (vs.map tP), .lst (mv.map tP)]), some (.val (tP v)), w5, some (.val (tP st)), w7, w8, none, none, none, none, none, none, none, none, none, none, none] h5 := by
        intro st h hst hb
        refine hN _ _ ?_
        clear hN
        refine seq_in fun N hN => ?_
        have hh : ∀ e ∈ es, ∀ (w : List Int) (lw : w.length = 8) (h : Hs) (Q : VQ) (E : XQ), d_law_has [VP w, .val (evP e)] h Q E = Q (.val (.bl (decide (has w e)))) h := fun e m w lw h Q E => has_eq lw e (he e m).1.s
        simp
        rw [compL_feq (fun e => [some (.scr ns), some (.val (.ref 0)), some (.val (.int (1 + wr))), some (.own [.lst (es.map evP), .lst (vs.map tP), .lst (mv.map tP)]), some (.val (tP v)), w5, some (.val (tP st)), w7, w8, none, none, none, none, none, none, none, none, none, none, some (.val (evP e))]) (fun e => .val (evP e)) _ evP (fun e => decide (has v e)) trivial (fun _ => rfl) _ _ (fun _ _ _ => by simp) (fun e m Q E => by simp; rw [hh e m v hvv.l]; simp) (fun e m p Q E => by simp) (szL (by simp; omega))]
        simp
        refine hN _ _ ?_
        clear hN
        have hk : ∀ e ∈ es.filter fun e => decide (has v e), EvOk e ∧ Cl 1 e.op := fun e m => he e (List.mem_filter.mp m).1
        have kl : (es.filter fun e => decide (has v e)).length ≤ 14 := Nat.le_trans (List.length_filter_le _ _) el
        generalize (es.filter fun e => decide (has v e)) = kn at *
        refine seq_in fun N hN => ?_
        have sl8 := hst.l
        simp
        rw [compL_eq (fun (a : Int) => [some (.scr ns), some (.val (.ref 0)), some (.val (.int (1 + wr))), some (.own [.lst (es.map evP), .lst (vs.map tP), .lst (mv.map tP)]), some (.val (tP v)), w5, some (.val (tP st)), w7, w8, some (.own (kn.map evP)), none, none, none, none, none, none, none, none, some (.val (.int a)), none]) (fun a => .val (.int (a / 2))) _ (fun a => .int (a / 2)) trivial (fun _ => rfl) _ _ (fun _ _ _ => by simp) (fun a m Q E => by simp [cdivW]) (szL (by simp; omega))]
        simp
        have half : ∀ i, i < 8 → gd (st.map (· / 2)) i = gd st i / 2 := fun i hi => by
          unfold gd
          rw [List.getD_eq_getElem?_getD, List.getD_eq_getElem?_getD, List.getElem?_map, List.getElem?_eq_getElem (by omega)]
          rfl
        have eqh : (st.map fun a => PV.int (a / 2)) = (st.map (· / 2)).map .int := by simp [Function.comp_def]
        rw [eqh]
        refine cut_of_ok (st := st.map (· / 2)) (es := kn) (by simpa using sl8) (fun i hi => by rw [half i hi]; have := hst.nn i hi; omega) (fun e m => (hk e m).1) fun base hbase fbase => ?_
        simp
        refine hN _ _ ?_
        clear hN
        refine seq_in fun N hN => ?_
        have hhk : ∀ e ∈ kn, ∀ (w : List Int) (lw : w.length = 8) (h : Hs) (Q : VQ) (E : XQ), d_law_has [VP w, .val (evP e)] h Q E = Q (.val (.bl (decide (has w e)))) h := fun e m w lw h Q E => has_eq lw e (hk e m).1.s
        simp
        rw [compL_feq (fun e => [some (.scr ns), some (.val (.ref 0)), some (.val (.int (1 + wr))), some (.own [.lst (es.map evP), .lst (vs.map tP), .lst (mv.map tP)]), some (.val (tP v)), w5, some (.val (tP st)), w7, w8, some (.val (.lst (kn.map evP))), some (VP base), none, none, none, none, none, none, none, none, some (.val (evP e))]) (fun e => .val (evP e)) _ evP (fun e => !decide (has base e)) trivial (fun _ => rfl) _ _ (fun _ _ _ => by simp) (fun e m Q E => by simp; rw [hhk e m base hbase.l]; simp) (fun e m p Q E => by simp) (szL (by simp; omega))]
        simp
        refine hN _ _ ?_
        clear hN
        have heq : ∀ e ∈ kn.filter fun e => !decide (has base e), e ∈ kn ∧ ¬ has base e := fun e m => by simpa using m
        have hl2 : (kn.filter fun e => !decide (has base e)).length ≤ 14 := Nat.le_trans (List.length_filter_le _ _) kl
        generalize (kn.filter fun e => !decide (has base e)) = hd at *
        refine seq_in fun N hN => ?_
        simp
        refine number_ok fun i2 => ?_
        simp [szL]
        refine mixed_ok (n := h.length) (by omega) B_new fun ps h8 hps lps _ => ?_
        simp
        refine hN _ _ ?_
        clear hN
        have pmem : ∀ e ∈ ps, e ∈ kn ∧ ¬ has base e := fun e m => heq e ((hps e).mp m)
        have epk : ∀ e ∈ ps, EvOk e := fun e m => (hk e (pmem e m).1).1
        have edk : ∀ e ∈ hd, EvOk e := fun e m => (hk e (heq e m).1).1
        refine seq_in fun N hN => ?_
        simp
        refine hN _ _ ?_
        clear hN
        refine seq_in fun N hN => ?_
        simp
        refine cut_of_ok (st := st) (es := ps) sl8 hst.nn epk fun told htold ftold => ?_
        simp
        refine hN _ _ ?_
        clear hN
        have leb : vle base told := htold.top base hbase.l (fun i hi => by have := hbase.le i hi; rw [half i hi] at this; have := hst.nn i hi; omega) fun e m => .inr ((fbase e (pmem e m).1).resolve_left (pmem e m).2)
        have okE : ∀ e ∈ ps, okN 63 (evP e) := fun e m => okN_mono (show 2 ≤ 63 by decide) (Cl.okN (by
          have := (hk e (pmem e m).1).2
          simp [evP]
          exact this))
        refine seq_in fun N hN => ?_
        have okPs : (PV.lst (ps.map evP)).okD = true := by
          rw [okD_lst]
          intro x m
          obtain ⟨e, m2, rfl⟩ := List.mem_map.mp m
          exact okE e m2
        simp [SV.kd, SV.pv, okPs, pyEq_self okPs, ↓lcov_eq htold.l hbase.l, leb]
        refine hN _ _ ?_
        clear hN
        refine seq_in fun N hN => ?_
        simp
        refine below_ok hst fun sv hsv => ?_
        have cont : N [some (.scr ns), some (.val (.ref 0)), some (.val (.int (1 + wr))), some (.own [.lst (es.map evP), .lst (vs.map tP), .lst (mv.map tP)]), some (.val (tP v)), w5, some (.val (tP st)), w7, w8, some (.val (.lst (kn.map evP))), some (VP base), some (.own (hd.map evP)), some (.own (ps.map evP)), some (.own (ps.map evP)), some (VP told), some (.own (((belowL st).filter fun c => hd.all fun e => decide (e.n ≤ gd c e.s) || decide (vle c e.past)).map tP)), none, none, none, none] h8 := by
          refine hN _ _ ?_
          clear hN
          refine seq_in fun N hN => ?_
          have okT : (PV.tup ((((belowL st).filter fun c => hd.all fun e => decide (e.n ≤ gd c e.s) || decide (vle c e.past))).map tP)).okD = true := by
            rw [okD_tup]
            intro x m
            obtain ⟨c, _, rfl⟩ := List.mem_map.mp m
            exact (okN_tup (n := 62) _).mpr fun y m => by
              obtain ⟨i, _, rfl⟩ := List.mem_map.mp m
              exact (okN_int i).mpr trivial
          have inb : ((((belowL st).filter fun c => hd.all fun e => decide (e.n ≤ gd c e.s) || decide (vle c e.past))).map tP).any (fun z => pyEq z ((.tup (told.map .int)))) = true := by
            rw [List.any_eq_true]
            refine ⟨tP told, List.mem_map.mpr ⟨told, List.mem_filter.mpr ⟨(belowL_mem sl8).mpr ⟨htold.l, htold.nn, htold.le⟩, fitsB.mpr fun e m => ftold e ((hps e).mpr m)⟩, rfl⟩, by simp [tP]⟩
          have same : ∀ (Q : VQ) (E : XQ), (Q (VP told) h8) → d_cut_of [VP st, .brw (hd.map evP)] h8 Q E := fun Q E q =>
            cut_of_ok sl8 hst.nn edk fun c hc fc => by
              rw [cut_uniq htold ftold hc fc hps]
              exact q
          simp
          refine ⟨by simpa using okT, ⟨tP told, ⟨told, by simpa using inb, rfl⟩, by simp [tP]⟩, same _ _ ⟨.tup (told.map .int), rfl, by simp, by simp, hN _ _ ?_⟩⟩
          clear hN
          refine seq_in fun N hN => ?_
          simp
          refine forL_inv (fun j env h9 => ∃ w16, env = [some (.scr ns), some (.val (.ref 0)), some (.val (.int (1 + wr))), some (.own [.lst (es.map evP), .lst (vs.map tP), .lst (mv.map tP)]), some (.val (tP v)), w5, some (.val (tP st)), w7, w8, some (.val (.lst (kn.map evP))), some (VP base), some (.own (hd.map evP)), some (.own (ps.map evP)), some (.own (ps.map evP)), some (VP told), some (.val (.lst (((belowL st).filter fun c => hd.all fun e => decide (e.n ≤ gd c e.s) || decide (vle c e.past)).map tP))), w16, none, none, none]) _ 0 _ _ ⟨none, rfl⟩ ?_ ?_
          · rintro i x e env h9 ⟨w16, rfl⟩ M hM
            obtain ⟨c, mc, rfl⟩ := List.mem_map.mp (List.mem_of_getElem? e)
            obtain ⟨mb, fb⟩ := List.mem_filter.mp mc
            obtain ⟨lc, nc, bc⟩ := (belowL_mem sl8).mp mb
            have lec : vle c told := htold.top c lc bc fun e m => (fitsB.mp fb) e ((hps e).mp m)
            simp [↓lcov_eq htold.l lc, lec]
            exact hM _ _ ⟨_, rfl⟩
          · rintro env h9 ⟨w16, rfl⟩
            refine ⟨trivial, hN _ _ ?_⟩
            simp
        rcases hsv with rfl | rfl <;> simp
        · rw [compL_feq (fun c => [some (.scr ns), some (.val (.ref 0)), some (.val (.int (1 + wr))), some (.own [.lst (es.map evP), .lst (vs.map tP), .lst (mv.map tP)]), some (.val (tP v)), w5, some (.val (tP st)), w7, w8, some (.val (.lst (kn.map evP))), some (VP base), some (.own (hd.map evP)), some (.own (ps.map evP)), some (.own (ps.map evP)), some (VP told), none, some (VP c), none, none, none]) (fun c => VP c) _ tP (fun c => hd.all fun e => decide (e.n ≤ gd c e.s) || decide (vle c e.past)) trivial (fun _ => rfl) _ _ (fun _ _ _ => by simp [tP]) (fun c m Q E => by simp; rw [fits_eq ((belowL_mem sl8).mp m).1 edk]; simp) (fun e m p Q E => by simp) (szL (by have := belowL_len hst; simp; omega))]
          simpa using cont
        · rw [compL_feq (fun c => [some (.scr ns), some (.val (.ref 0)), some (.val (.int (1 + wr))), some (.own [.lst (es.map evP), .lst (vs.map tP), .lst (mv.map tP)]), some (.val (tP v)), w5, some (.val (tP st)), w7, w8, some (.val (.lst (kn.map evP))), some (VP base), some (.own (hd.map evP)), some (.own (ps.map evP)), some (.own (ps.map evP)), some (VP told), none, some (VP c), none, none, none]) (fun c => VP c) _ tP (fun c => hd.all fun e => decide (e.n ≤ gd c e.s) || decide (vle c e.past)) trivial (fun _ => rfl) _ _ (fun _ _ _ => by simp [tP]) (fun c m Q E => by simp; rw [fits_eq ((belowL_mem sl8).mp m).1 edk]; simp) (fun e m p Q E => by simp) (szL (by have := belowL_len hst; simp; omega))]
          simpa using cont
      refine if_in fun S T hS hT => ?_
      simp [↓take_eq hb]
      by_cases q : tk 0 3 h4 = 0
      rotate_left
      · rw [if_neg q]
        refine hT _ _ ?_
        simp
        exact step2 st _ hst hb.pt
      · rw [if_pos q]
        refine hS _ _ ?_
        simp
        have vl8 := hvv.l
        refine compL_inv (fun j acc h => ∃ ws : List Int, acc = ws.map .int ∧ ws.length = j ∧ (∀ i, i < j → 0 ≤ gd ws i ∧ gd ws i ≤ gd v i) ∧ B 0 h) _ 0 _ _ ⟨[], rfl, rfl, fun i hi => by omega, hb.pt⟩ ?_ ?_
        · rintro i x e acc h6 ⟨ws, rfl, wl, wh, hb⟩ M hM
          rw [List.getElem?_map] at e
          cases e2 : v[i]? with
          | none => rw [e2] at e; cases e
          | some a =>
            rw [e2] at e
            cases e
            have ga : gd v i = a := by simp [gd, e2]
            have il : i < 8 := by have := (List.getElem?_eq_some_iff.mp e2).1; omega
            have an := hvv.nn i il
            simp [↓take_eq hb]
            have t0 := tk_ge (n := 0) (h := h6) (k := 3) (by decide)
            have t1 := tk_lt (n := 0) (h := h6) (k := 3) (by decide)
            refine ⟨szLt (by omega), hM _ _ ⟨ws ++ [max 0 (a - tk 0 3 h6)], by simp, by simp; omega, fun k hk => ?_, hb.pt⟩⟩
            by_cases e3 : k < ws.length
            · have : gd (ws ++ [max 0 (a - tk 0 3 h6)]) k = gd ws k := by
                unfold gd
                rw [List.getD_eq_getElem?_getD, List.getD_eq_getElem?_getD, List.getElem?_append_left e3]
              rw [this]
              exact wh k (by omega)
            · have ek : k = i := by omega
              have : gd (ws ++ [max 0 (a - tk 0 3 h6)]) k = max 0 (a - tk 0 3 h6) := by
                unfold gd
                rw [List.getD_eq_getElem?_getD, List.getElem?_append_right (by omega), show k - ws.length = 0 by omega]
                rfl
              rw [this, ek, ga]
              omega
        · rintro acc h6 ⟨ws, rfl, wl, wh, hb⟩
          simp at wl wh
          simp
          rw [vl8] at wl
          exact step2 ws _ ⟨wl, fun i hi => (wh i (by omega)).1, fun i hi => by have := (wh i (by omega)).2; have := hvv.b i hi; omega, fun i hi h3 => by have := wh i (by omega); have := hvv.z i hi h3; omega⟩ hb
  refine if_in fun S T hS hT => ?_
  simp [↓take_eq hb]
  by_cases q : tk 0 3 h3 = 0
  · rw [if_pos q]
    refine hS _ _ ?_
    simp
    refine forL_inv (fun j env h4 => ∃ v w5, env = [some (.scr ns), some (.val (.ref 0)), some (.val (.int (1 + wr))), some (.own [.lst (es.map evP), .lst (vs.map tP), .lst (mv.map tP)]), some (.val (tP v)), w5, none, none, none, none, none, none, none, none, none, none, none, none, none, none] ∧ (w5 = none ∨ ∃ p, w5 = some (.val p)) ∧ Wk v ∧ h4 = pt 0 3 h3) _ 0 _ _ ⟨v, none, rfl, .inl rfl, hvv, rfl⟩ ?_ ?_
    · rintro j x e env h4 ⟨v, w5, rfl, _, hvv, rfl⟩ M hM
      rw [List.getElem?_map] at e
      cases e2 : vs[j]? with
      | none => rw [e2] at e; cases e
      | some w =>
        rw [e2] at e
        cases e
        have hw := hv w (List.mem_of_getElem? e2)
        simp [↓join_eq hvv.l hw.l]
        exact hM _ _ ⟨vmax v w, _, rfl, .inr ⟨_, rfl⟩, hvv.max hw, rfl⟩
    · rintro env h4 ⟨v, w5, rfl, n5, hvv, rfl⟩
      refine ⟨trivial, ?_⟩
      exact step v _ _ n5 hvv hb.pt
  · rw [if_neg q]
    refine hT _ _ ?_
    simp
    exact step v _ _ (.inl rfl) hvv hb.pt
end PM

namespace PM
open PySem PySem.Spec L2
open PyProof.Rows hiding St
structure Txt (K : PySem.W.Frag) (mg : Str → Option Value) : Prop where
  n_all : mg "all" = none
  n_int : mg "int" = none
  n_isinstance : mg "isinstance" = none
  n_len : mg "len" = none
  n_list : mg "list" = none
  n_max : mg "max" = none
  n_min : mg "min" = none
  n_range : mg "range" = none
  n_tuple : mg "tuple" = none
  n_zip : mg "zip" = none
  c_SITES : GC K mg "SITES" c_SITES
def topS (i : Nat) : Stmt := PySem.Challenge.pw_partmeet_k40_the_greatest_cut.main.body.getD i (.Pass ⟨0, 0, 0, 0⟩)
abbrev s_knows : Stmt := topS 2
abbrev N_knows : List Str := ["vector", "dot"]
theorem sc_knows : FnScope N_knows ["vector", "dot"] (defScope s_knows) := ⟨rfl, rfl, rfl, by decide +kernel, rfl, by decide +kernel, by decide +kernel⟩
abbrev s_covers : Stmt := topS 3
abbrev N_covers : List Str := ["vector", "other", "one", "two"]
theorem sc_covers : FnScope N_covers ["vector", "other"] (defScope s_covers) := ⟨rfl, rfl, rfl, by decide +kernel, rfl, by decide +kernel, by decide +kernel⟩
abbrev s_least : Stmt := topS 4
abbrev N_least : List Str := ["vectors", "site", "vector"]
theorem sc_least : FnScope N_least ["vectors"] (defScope s_least) := ⟨rfl, rfl, rfl, by decide +kernel, rfl, by decide +kernel, by decide +kernel⟩
abbrev s_dot_of : Stmt := topS 6
abbrev N_dot_of : List Str := ["event"]
theorem sc_dot_of : FnScope N_dot_of ["event"] (defScope s_dot_of) := ⟨rfl, rfl, rfl, by decide +kernel, rfl, by decide +kernel, by decide +kernel⟩
abbrev s_cut_of : Stmt := topS 8
abbrev N_cut_of : List Str := ["stable", "held", "cut", "going", "event"]
theorem sc_cut_of : FnScope N_cut_of ["stable", "held"] (defScope s_cut_of) := ⟨rfl, rfl, rfl, by decide +kernel, rfl, by decide +kernel, by decide +kernel⟩
abbrev s_law_number : Stmt := topS 10
abbrev N_law_number : List Str := ["_law_script", "_law_k", "_law_cell", "_law_first", "_law_second"]
theorem sc_law_number : FnScope N_law_number ["_law_script", "_law_k"] (defScope s_law_number) := ⟨rfl, rfl, rfl, by decide +kernel, rfl, by decide +kernel, by decide +kernel⟩
abbrev s_law_take : Stmt := topS 11
abbrev N_law_take : List Str := ["_law_box", "_law_size", "_law_digit"]
theorem sc_law_take : FnScope N_law_take ["_law_box", "_law_size"] (defScope s_law_take) := ⟨rfl, rfl, rfl, by decide +kernel, rfl, by decide +kernel, by decide +kernel⟩
abbrev s_law_join : Stmt := topS 12
abbrev N_law_join : List Str := ["_law_one", "_law_two", "_law_k"]
theorem sc_law_join : FnScope N_law_join ["_law_one", "_law_two"] (defScope s_law_join) := ⟨rfl, rfl, rfl, by decide +kernel, rfl, by decide +kernel, by decide +kernel⟩
abbrev s_law_covers : Stmt := topS 13
abbrev N_law_covers : List Str := ["_law_one", "_law_two", "_law_k"]
theorem sc_law_covers : FnScope N_law_covers ["_law_one", "_law_two"] (defScope s_law_covers) := ⟨rfl, rfl, rfl, by decide +kernel, rfl, by decide +kernel, by decide +kernel⟩
abbrev s_law_has : Stmt := topS 14
abbrev N_law_has : List Str := ["_law_vector", "_law_event"]
theorem sc_law_has : FnScope N_law_has ["_law_vector", "_law_event"] (defScope s_law_has) := ⟨rfl, rfl, rfl, by decide +kernel, rfl, by decide +kernel, by decide +kernel⟩
abbrev s_law_op : Stmt := topS 15
abbrev N_law_op : List Str := ["_law_box", "_law_site", "_law_n", "_law_key", "_law_ops"]
theorem sc_law_op : FnScope N_law_op ["_law_box", "_law_site", "_law_n"] (defScope s_law_op) := ⟨rfl, rfl, rfl, by decide +kernel, rfl, by decide +kernel, by decide +kernel⟩
abbrev s_law_history : Stmt := topS 16
abbrev N_law_history : List Str := ["_law_script", "_law_at", "_law_writers", "_law_count", "_law_events", "_law_vectors", "_law_heights", "_law_marks", "_law_k", "_law_box", "_law_site", "_law_n", "_law_mark"]
theorem sc_law_history : FnScope N_law_history ["_law_script", "_law_at", "_law_writers", "_law_count"] (defScope s_law_history) := ⟨rfl, rfl, rfl, by decide +kernel, rfl, by decide +kernel, by decide +kernel⟩
abbrev s_law_fits : Stmt := topS 17
abbrev N_law_fits : List Str := ["_law_cut", "_law_held", "_law_event"]
theorem sc_law_fits : FnScope N_law_fits ["_law_cut", "_law_held"] (defScope s_law_fits) := ⟨rfl, rfl, rfl, by decide +kernel, rfl, by decide +kernel, by decide +kernel⟩
abbrev s_law_below : Stmt := topS 18
abbrev N_law_below : List Str := ["_law_stable", "_law_found", "_law_number_here", "_law_more", "_law_row", "_law_k"]
theorem sc_law_below : FnScope N_law_below ["_law_stable"] (defScope s_law_below) := ⟨rfl, rfl, rfl, by decide +kernel, rfl, by decide +kernel, by decide +kernel⟩
abbrev s_law_mixed : Stmt := topS 19
abbrev N_law_mixed : List Str := ["_law_events", "_law_box", "_law_found", "_law_event"]
theorem sc_law_mixed : FnScope N_law_mixed ["_law_events", "_law_box"] (defScope s_law_mixed) := ⟨rfl, rfl, rfl, by decide +kernel, rfl, by decide +kernel, by decide +kernel⟩
abbrev s_law : Stmt := topS 20
abbrev N_law : List Str := ["_law_script", "_law_box", "_law_writers", "_law_made", "_law_vector", "_law_other", "_law_stable", "_law_k", "_law_mark", "_law_known", "_law_base", "_law_held", "_law_passed", "_law_given", "_law_told", "_law_fits_here", "_law_cut", "_law_j", "_law_number_here", "_law_event"]
theorem sc_law : FnScope N_law ["_law_script"] (defScope s_law) := ⟨rfl, rfl, rfl, by decide +kernel, rfl, by decide +kernel, by decide +kernel⟩
section
variable {P : Program} {w : World} {K : PySem.W.Frag} {mg : Str → Option Value} {base : Heap}
theorem fa_knows (T : Txt K mg) (D : DefAt K mg "knows" s_knows ["vector", "dot"]) : FnAt P w K mg base 1 "knows" 2 d_knows :=
  FnAt.mk' (N := N_knows) D sc_knows fun f cdv A outer s H E hr =>
  psd_one (psd_ret (pd_cmp cd_le (pd_ix (pd_var 1) pd_int) (pd_ix (pd_var 0) (pd_ix (pd_var 1) pd_int))))
theorem fa_covers (T : Txt K mg) (D : DefAt K mg "covers" s_covers ["vector", "other"]) : FnAt P w K mg base 1 "covers" 2 d_covers :=
  FnAt.mk' (N := N_covers) D sc_covers fun f cdv A outer s H E hr =>
  psd_one (psd_ret (pd_all rfl T.n_all (pad_cons (pd_lc rfl sc_covers.nd (blkOk_by (own := [("one", 2), ("two", 3)]) (N := N_covers) (sc := defScope s_covers) (by decide +kernel)) rfl (pid_zip T.n_zip (pk_var 0) (pk_var 1)) (fun _ _ _ _ _ => pgd_tup2 2 3 rfl sc_covers.nd) (fun _ _ _ _ _ => ptsd_nil) (fun _ _ _ _ _ => pd_cmp cd_ge (pd_var 2) (pd_var 3))) pad_nil)))
theorem fa_least (T : Txt K mg) (D : DefAt K mg "least" s_least ["vectors"]) : FnAt P w K mg base 1 "least" 1 d_least :=
  FnAt.mk' (N := N_least) D sc_least fun f cdv A outer s H E hr =>
  psd_one (psd_ret (pd_tuple T.n_tuple (pad_cons (pd_lc rfl sc_least.nd (blkOk_by (own := [("site", 1)]) (N := N_least) (sc := defScope s_least) (by decide +kernel)) rfl (pid_rng1 T.n_range (pd_glob T.c_SITES)) (fun _ _ _ _ _ => pgd_name 1 sc_least.nd) (fun _ _ _ _ _ => ptsd_nil) (fun _ _ _ _ _ => pd_min rfl T.n_min (pad_cons (pd_lc rfl sc_least.nd (blkOk_by (own := [("vector", 2)]) (N := N_least) (sc := relS _ (defScope s_least)) (by decide +kernel)) rfl (pid_it (pk_var 0)) (fun _ _ _ _ _ => pgd_name 2 sc_least.nd) (fun _ _ _ _ _ => ptsd_nil) (fun _ _ _ _ _ => pd_ix (pd_var 2) (pd_var 1))) pad_nil))) pad_nil)))
theorem fa_dot_of (T : Txt K mg) (D : DefAt K mg "dot_of" s_dot_of ["event"]) : FnAt P w K mg base 1 "dot_of" 1 d_dot_of :=
  FnAt.mk' (N := N_dot_of) D sc_dot_of fun f cdv A outer s H E hr =>
  psd_one (psd_ret (pd_sl (pd_var 0) pod_none (pod_some pd_int)))
theorem fa_cut_of (T : Txt K mg) (D : DefAt K mg "cut_of" s_cut_of ["stable", "held"]) (F_knows : FnAt P w K mg base 1 "knows" 2 d_knows) (F_covers : FnAt P w K mg base 1 "covers" 2 d_covers) (F_least : FnAt P w K mg base 1 "least" 1 d_least) (F_dot_of : FnAt P w K mg base 1 "dot_of" 1 d_dot_of) : FnAt P w K mg base 2 "cut_of" 2 d_cut_of :=
  FnAt.mk' (N := N_cut_of) D sc_cut_of fun f cdv A outer s H E hr =>
  psd_cons (psd_set 2 (pd_var 0) sc_cut_of.nd)
  (psd_cons (psd_set 3 pd_bl sc_cut_of.nd)
  (psd_cons (psd_while PassesOwn.never (ptd_tru (pd_var 3)) (psd_cons (psd_set 3 pd_bl sc_cut_of.nd)
  (psd_one (psd_for PassesOwn.never rfl (pid_it (pk_var 1)) (pgd_name 4 sc_cut_of.nd) (psd_one (psd_if (PWd.pt (pwd_and (ptd_not (ptd_tru (pd_callF F_knows hr (by decide) (pad_cons (pd_var 2) (pad_cons (pd_callF F_dot_of hr (by decide) (pad_cons (pd_var 4) pad_nil)) pad_nil))))) (pwd_and1 (ptd_not (ptd_tru (pd_callF F_covers hr (by decide) (pad_cons (pd_ix (pd_var 4) pd_int) (pad_cons (pd_var 2) pad_nil)))))))) (psd_cons (psd_frz 2 (psd_set 2 (pd_callF F_least hr (by decide) (pad_cons (pd_lst (pad_cons (pd_var 2) (pad_cons (pd_ix (pd_var 4) pd_int) pad_nil))) pad_nil)) sc_cut_of.nd))
  (psd_one (psd_set 3 pd_bl sc_cut_of.nd))) psd_nil))))))
  (psd_one (psd_retV 2))))
theorem fa_law_number (T : Txt K mg) (D : DefAt K mg "_law_number" s_law_number ["_law_script", "_law_k"]) : FnAt P w K mg base 1 "_law_number" 2 d_law_number :=
  FnAt.mk' (N := N_law_number) D sc_law_number fun f cdv A outer s H E hr =>
  psd_cons (psd_set 2 pd_int sc_law_number.nd)
  (psd_cons (psd_if (ptd_cmp cd_gt (pd_len T.n_len (pad_cons (pd_var 0) pad_nil)) pd_int) (psd_one (psd_set 2 (pd_ix (pd_var 0) (pd_mod (pd_int1 T.n_int (pad_cons (pd_var 1) pad_nil)) (pd_len T.n_len (pad_cons (pd_var 0) pad_nil)))) sc_law_number.nd)) psd_nil)
  (psd_cons (psd_if (ptd_cmp cd_lt (pd_var 2) pd_int) (psd_one (psd_set 2 (pd_sub pd_int (pd_mulX pd_int (pd_var 2))) sc_law_number.nd)) psd_nil)
  (psd_cons (psd_if (PWd.pt (pwd_and (ptd_cmp cd_ge (pd_var 2) (pd_pow pd_int pd_int)) (pwd_and1 (ptd_cmp cd_lt (pd_var 1) (pd_len T.n_len (pad_cons (pd_var 0) pad_nil)))))) (psd_one (psd_retV 2)) psd_nil)
  (psd_cons (psd_set 3 (pd_mod (pd_int1 T.n_int (pad_cons (pd_add (pd_mulX (pd_add (pd_var 2) pd_int) pd_int) (pd_mulX (pd_add (pd_var 1) pd_int) pd_int)) pad_nil)) pd_int) sc_law_number.nd)
  (psd_cons (psd_set 4 (pd_mod (pd_int1 T.n_int (pad_cons (pd_add (pd_add (pd_mulX (pd_add (pd_var 3) pd_int) pd_int) (pd_mulX (pd_add (pd_var 2) pd_int) pd_int)) (pd_var 1)) pad_nil)) pd_int) sc_law_number.nd)
  (psd_one (psd_ret (pd_mod (pd_int1 T.n_int (pad_cons (pd_add (pd_add (pd_mulX (pd_var 3) pd_int) (pd_mulX (pd_var 4) pd_int)) (pd_var 2)) pad_nil)) pd_int))))))))
theorem fa_law_take (T : Txt K mg) (D : DefAt K mg "_law_take" s_law_take ["_law_box", "_law_size"]) : FnAt P w K mg base 1 "_law_take" 2 d_law_take :=
  FnAt.mk' (N := N_law_take) D sc_law_take fun f cdv A outer s H E hr =>
  psd_cons (psd_set 2 (pd_mod (pd_int1 T.n_int (pad_cons (pd_ix (pd_var 0) pd_int) pad_nil)) (pd_var 1)) sc_law_take.nd)
  (psd_cons (psd_setE (pd_var 0) pd_int (pd_fdiv (pd_ix (pd_var 0) pd_int) (pd_var 1)))
  (psd_one (psd_retV 2)))
theorem fa_law_join (T : Txt K mg) (D : DefAt K mg "_law_join" s_law_join ["_law_one", "_law_two"]) : FnAt P w K mg base 1 "_law_join" 2 d_law_join :=
  FnAt.mk' (N := N_law_join) D sc_law_join fun f cdv A outer s H E hr =>
  psd_one (psd_ret (pd_tuple T.n_tuple (pad_cons (pd_lc rfl sc_law_join.nd (blkOk_by (own := [("_law_k", 2)]) (N := N_law_join) (sc := defScope s_law_join) (by decide +kernel)) rfl (pid_rng1 T.n_range pd_int) (fun _ _ _ _ _ => pgd_name 2 sc_law_join.nd) (fun _ _ _ _ _ => ptsd_nil) (fun _ _ _ _ _ => pd_max rfl T.n_max (pad_cons (pd_ix (pd_var 0) (pd_var 2)) (pad_cons (pd_ix (pd_var 1) (pd_var 2)) pad_nil)))) pad_nil)))
theorem fa_law_covers (T : Txt K mg) (D : DefAt K mg "_law_covers" s_law_covers ["_law_one", "_law_two"]) : FnAt P w K mg base 1 "_law_covers" 2 d_law_covers :=
  FnAt.mk' (N := N_law_covers) D sc_law_covers fun f cdv A outer s H E hr =>
  psd_one (psd_ret (pd_cmp cd_ge (pd_min rfl T.n_min (pad_cons (pd_lc rfl sc_law_covers.nd (blkOk_by (own := [("_law_k", 2)]) (N := N_law_covers) (sc := defScope s_law_covers) (by decide +kernel)) rfl (pid_rng1 T.n_range pd_int) (fun _ _ _ _ _ => pgd_name 2 sc_law_covers.nd) (fun _ _ _ _ _ => ptsd_nil) (fun _ _ _ _ _ => pd_sub (pd_ix (pd_var 0) (pd_var 2)) (pd_ix (pd_var 1) (pd_var 2)))) pad_nil)) pd_int))
theorem fa_law_has (T : Txt K mg) (D : DefAt K mg "_law_has" s_law_has ["_law_vector", "_law_event"]) : FnAt P w K mg base 1 "_law_has" 2 d_law_has :=
  FnAt.mk' (N := N_law_has) D sc_law_has fun f cdv A outer s H E hr =>
  psd_one (psd_ret (pd_cmp cd_le (pd_ix (pd_var 1) pd_int) (pd_ix (pd_var 0) (pd_ix (pd_var 1) pd_int))))
theorem fa_law_op (T : Txt K mg) (D : DefAt K mg "_law_op" s_law_op ["_law_box", "_law_site", "_law_n"]) (F_law_take : FnAt P w K mg base 1 "_law_take" 2 d_law_take) : FnAt P w K mg base 2 "_law_op" 3 d_law_op :=
  FnAt.mk' (N := N_law_op) D sc_law_op fun f cdv A outer s H E hr =>
  psd_cons (psd_set 3 (pd_ix pd_str (pd_callF F_law_take hr (by decide) (pad_cons (pd_var 0) (pad_cons pd_int pad_nil)))) sc_law_op.nd)
  (psd_cons (psd_frz 3 (psd_set 4 (pd_lst (pad_cons (pd_tup (pad_cons pd_str (pad_cons (pd_var 3) (pad_cons (pd_var 2) pad_nil)))) (pad_cons (pd_tup (pad_cons pd_str (pad_cons (pd_var 3) (pad_cons (pd_add pd_int (pd_var 1)) pad_nil)))) (pad_cons (pd_tup (pad_cons pd_str (pad_cons (pd_var 3) (pad_cons (pd_fdiv (pd_var 2) pd_int) pad_nil)))) (pad_cons (pd_tup (pad_cons pd_str (pad_cons (pd_var 3) (pad_cons (pd_fdiv (pd_var 2) pd_int) pad_nil)))) pad_nil))))) sc_law_op.nd))
  (psd_one (psd_ret (pd_ix (pd_var 4) (pd_callF F_law_take hr (by decide) (pad_cons (pd_var 0) (pad_cons pd_int pad_nil)))))))
theorem fa_law_history (T : Txt K mg) (D : DefAt K mg "_law_history" s_law_history ["_law_script", "_law_at", "_law_writers", "_law_count"]) (F_law_number : FnAt P w K mg base 1 "_law_number" 2 d_law_number) (F_law_take : FnAt P w K mg base 1 "_law_take" 2 d_law_take) (F_law_join : FnAt P w K mg base 1 "_law_join" 2 d_law_join) (F_law_op : FnAt P w K mg base 2 "_law_op" 3 d_law_op) : FnAt P w K mg base 3 "_law_history" 4 d_law_history :=
  FnAt.mk' (N := N_law_history) D sc_law_history fun f cdv A outer s H E hr =>
  psd_cons (psd_set 4 (pd_lst pad_nil) sc_law_history.nd)
  (psd_cons (psd_set 5 (pd_mulX (pd_lst (pad_cons (pd_mulX (pd_tup (pad_cons pd_int pad_nil)) pd_int) pad_nil)) (pd_var 2)) sc_law_history.nd)
  (psd_cons (psd_set 6 (pd_mulX (pd_lst (pad_cons pd_int pad_nil)) (pd_var 2)) sc_law_history.nd)
  (psd_cons (psd_set 7 (pd_lst pad_nil) sc_law_history.nd)
  (psd_cons (psd_for PassesOwn.never rfl (pid_rng1 T.n_range (pd_var 3)) (pgd_name 8 sc_law_history.nd) (psd_cons (psd_set 9 (pd_alloc (pd_lst (pad_cons (pd_callF F_law_number hr (by decide) (pad_cons (pd_var 0) (pad_cons (pd_add (pd_var 1) (pd_var 8)) pad_nil))) pad_nil))) sc_law_history.nd)
  (psd_cons (psd_set 10 (pd_callF F_law_take hr (by decide) (pad_cons (pd_var 9) (pad_cons (pd_var 2) pad_nil))) sc_law_history.nd)
  (psd_one (psd_if (PWd.pt (pwd_or (ptd_cmp cd_lt (pd_callF F_law_take hr (by decide) (pad_cons (pd_var 9) (pad_cons pd_int pad_nil))) pd_int) (pwd_or1 (ptd_cmp (cd_eq (u65 hr)) (pd_len T.n_len (pad_cons (pd_var 7) pad_nil)) pd_int)))) (psd_cons (psd_set 11 (pd_add (pd_ix (pd_ix (pd_var 5) (pd_var 10)) (pd_var 10)) pd_int) sc_law_history.nd)
  (psd_cons (psd_setV 6 (pd_var 10) (pd_add (pd_ix (pd_var 6) (pd_var 10)) pd_int))
  (psd_cons (psd_frz 11 (psd_frz 10 (psd_appV 4 (pd_tup (pad_cons (pd_var 10) (pad_cons (pd_var 11) (pad_cons (pd_ix (pd_var 5) (pd_var 10)) (pad_cons (pd_ix (pd_var 6) (pd_var 10)) (pad_cons (pd_callF F_law_op hr (by decide) (pad_cons (pd_var 9) (pad_cons (pd_var 10) (pad_cons (pd_var 11) pad_nil)))) pad_nil)))))))))
  (psd_cons (psd_frz 11 (psd_setV 5 (pd_var 10) (pd_add (pd_add (pd_sl (pd_ix (pd_var 5) (pd_var 10)) pod_none (pod_some (pd_var 10))) (pd_tup (pad_cons (pd_var 11) pad_nil))) (pd_sl (pd_ix (pd_var 5) (pd_var 10)) (pod_some (pd_add (pd_var 10) pd_int)) pod_none))))
  (psd_one (psd_appV 7 (pd_tup (pad_cons (pd_ix (pd_var 5) (pd_var 10)) (pad_cons (pd_ix (pd_var 6) (pd_var 10)) pad_nil))))))))) (psd_cons (psd_set 12 (pd_ix (pd_var 7) (pd_max rfl T.n_max (pad_cons pd_int (pad_cons (pd_sub (pd_sub (pd_len T.n_len (pad_cons (pd_var 7) pad_nil)) pd_int) (pd_callF F_law_take hr (by decide) (pad_cons (pd_var 9) (pad_cons pd_int pad_nil)))) pad_nil)))) sc_law_history.nd)
  (psd_cons (psd_setV 5 (pd_var 10) (pd_callF F_law_join hr (by decide) (pad_cons (pd_ix (pd_var 5) (pd_var 10)) (pad_cons (pd_ix (pd_var 12) pd_int) pad_nil))))
  (psd_one (psd_setV 6 (pd_var 10) (pd_max rfl T.n_max (pad_cons (pd_ix (pd_var 6) (pd_var 10)) (pad_cons (pd_ix (pd_var 12) pd_int) pad_nil))))))))))))
  (psd_one (psd_frz 7 (psd_frz 5 (psd_frz 4 (psd_ret (pd_lst (pad_cons (pd_var 4) (pad_cons (pd_var 5) (pad_cons (pd_lc rfl sc_law_history.nd (blkOk_by (own := [("_law_mark", 12)]) (N := N_law_history) (sc := defScope s_law_history) (by decide +kernel)) rfl (pid_it (pk_var 7)) (fun _ _ _ _ _ => pgd_name 12 sc_law_history.nd) (fun _ _ _ _ _ => ptsd_nil) (fun _ _ _ _ _ => pd_ix (pd_var 12) pd_int)) pad_nil)))))))))))))
theorem fa_law_fits (T : Txt K mg) (D : DefAt K mg "_law_fits" s_law_fits ["_law_cut", "_law_held"]) (F_law_covers : FnAt P w K mg base 1 "_law_covers" 2 d_law_covers) (F_law_has : FnAt P w K mg base 1 "_law_has" 2 d_law_has) : FnAt P w K mg base 2 "_law_fits" 2 d_law_fits :=
  FnAt.mk' (N := N_law_fits) D sc_law_fits fun f cdv A outer s H E hr =>
  psd_cons (psd_for PassesOwn.never rfl (pid_it (pk_var 1)) (pgd_name 2 sc_law_fits.nd) (psd_one (psd_if (PWd.pt (pwd_and (ptd_not (ptd_tru (pd_callF F_law_has hr (by decide) (pad_cons (pd_var 0) (pad_cons (pd_var 2) pad_nil))))) (pwd_and1 (ptd_not (ptd_tru (pd_callF F_law_covers hr (by decide) (pad_cons (pd_ix (pd_var 2) pd_int) (pad_cons (pd_var 0) pad_nil)))))))) (psd_one (psd_ret pd_bl)) psd_nil)))
  (psd_one (psd_ret pd_bl))
theorem fa_law_below (T : Txt K mg) (D : DefAt K mg "_law_below" s_law_below ["_law_stable"]) : FnAt P w K mg base 1 "_law_below" 1 d_law_below :=
  FnAt.mk' (N := N_law_below) D sc_law_below fun f cdv A outer s H E hr =>
  psd_cons (psd_set 1 (pd_lst (pad_cons (pd_tup pad_nil) pad_nil)) sc_law_below.nd)
  (psd_cons (psd_for PassesOwn.never rfl (pid_it (pk_var 0)) (pgd_name 2 sc_law_below.nd) (psd_cons (psd_set 3 (pd_lst pad_nil) sc_law_below.nd)
  (psd_cons (psd_frz 1 (psd_for PassesOwn.never rfl (pid_it (pk_var 1)) (pgd_name 4 sc_law_below.nd) (psd_one (psd_for PassesOwn.never rfl (pid_rng1 T.n_range (pd_add (pd_var 2) pd_int)) (pgd_name 5 sc_law_below.nd) (psd_one (psd_frz 5 (psd_appV 3 (pd_add (pd_var 4) (pd_tup (pad_cons (pd_var 5) pad_nil))))))))))
  (psd_one (psd_frz 3 (psd_set 1 (pd_var 3) sc_law_below.nd))))))
  (psd_one (psd_retV 1)))
theorem fa_law_mixed (T : Txt K mg) (D : DefAt K mg "_law_mixed" s_law_mixed ["_law_events", "_law_box"]) (F_law_take : FnAt P w K mg base 1 "_law_take" 2 d_law_take) : FnAt P w K mg base 2 "_law_mixed" 2 d_law_mixed :=
  FnAt.mk' (N := N_law_mixed) D sc_law_mixed fun f cdv A outer s H E hr =>
  psd_cons (psd_set 2 (pd_lst pad_nil) sc_law_mixed.nd)
  (psd_cons (psd_for PassesOwn.never rfl (pid_it (pk_var 0)) (pgd_name 3 sc_law_mixed.nd) (psd_one (psd_frz 3 (psd_insV 2 (pd_callF F_law_take hr (by decide) (pad_cons (pd_var 1) (pad_cons (pd_add (pd_len T.n_len (pad_cons (pd_var 2) pad_nil)) pd_int) pad_nil))) (pd_var 3)))))
  (psd_one (psd_retV 2)))
theorem fo_law {f : Addr} {fd : FuncData} (T : Txt K mg) (F : Fun K "law" "law" s_law f fd) (F_cut_of : FnAt P w K mg base 2 "cut_of" 2 d_cut_of) (F_law_number : FnAt P w K mg base 1 "_law_number" 2 d_law_number) (F_law_take : FnAt P w K mg base 1 "_law_take" 2 d_law_take) (F_law_join : FnAt P w K mg base 1 "_law_join" 2 d_law_join) (F_law_covers : FnAt P w K mg base 1 "_law_covers" 2 d_law_covers) (F_law_has : FnAt P w K mg base 1 "_law_has" 2 d_law_has) (F_law_history : FnAt P w K mg base 3 "_law_history" 4 d_law_history) (F_law_fits : FnAt P w K mg base 2 "_law_fits" 2 d_law_fits) (F_law_below : FnAt P w K mg base 1 "_law_below" 1 d_law_below) (F_law_mixed : FnAt P w K mg base 2 "_law_mixed" 2 d_law_mixed) : FnOk P w K mg base CX0 4 f fd ["_law_script"] (spD K 1 d_law) :=
  fnOk_mk (N := N_law) F sc_law fun f cdv A outer s H E hr =>
  psd_cons (psd_set 1 (pd_alloc (pd_lst (pad_cons (pd_callF F_law_number hr (by decide) (pad_cons (pd_var 0) (pad_cons pd_int pad_nil))) pad_nil))) sc_law.nd)
  (psd_cons (psd_set 2 (pd_add pd_int (pd_callF F_law_take hr (by decide) (pad_cons (pd_var 1) (pad_cons pd_int pad_nil)))) sc_law.nd)
  (psd_cons (psd_set 3 (pd_callF F_law_history hr (by decide) (pad_cons (pd_var 0) (pad_cons pd_int (pad_cons (pd_var 2) (pad_cons (pd_callF F_law_take hr (by decide) (pad_cons (pd_var 1) (pad_cons pd_int pad_nil))) pad_nil))))) sc_law.nd)
  (psd_cons (psd_set 4 (pd_ix (pd_ix (pd_var 3) pd_int) (pd_callF F_law_take hr (by decide) (pad_cons (pd_var 1) (pad_cons (pd_var 2) pad_nil)))) sc_law.nd)
  (psd_cons (psd_if (ptd_cmp (cd_eq (u65 hr)) (pd_callF F_law_take hr (by decide) (pad_cons (pd_var 1) (pad_cons pd_int pad_nil))) pd_int) (psd_one (psd_for PassesOwn.never rfl (pid_it (pk_e (pd_ix (pd_var 3) pd_int))) (pgd_name 5 sc_law.nd) (psd_one (psd_set 4 (pd_callF F_law_join hr (by decide) (pad_cons (pd_var 4) (pad_cons (pd_var 5) pad_nil))) sc_law.nd)))) psd_nil)
  (psd_cons (psd_frz 4 (psd_set 6 (pd_var 4) sc_law.nd))
  (psd_cons (psd_for PassesOwn.never rfl (pid_rng1 T.n_range (pd_add pd_int (pd_callF F_law_take hr (by decide) (pad_cons (pd_var 1) (pad_cons pd_int pad_nil))))) (pgd_name 7 sc_law.nd) (psd_one (psd_if (ptd_cmp cd_gt (pd_len T.n_len (pad_cons (pd_ix (pd_var 3) pd_int) pad_nil)) pd_int) (psd_cons (psd_set 8 (pd_ix (pd_ix (pd_var 3) pd_int) (pd_callF F_law_take hr (by decide) (pad_cons (pd_var 1) (pad_cons (pd_len T.n_len (pad_cons (pd_ix (pd_var 3) pd_int) pad_nil)) pad_nil)))) sc_law.nd)
  (psd_one (psd_set 6 (pd_tuple T.n_tuple (pad_cons (pd_lc rfl sc_law.nd (blkOk_by (own := [("_law_j", 17)]) (N := N_law) (sc := defScope s_law) (by decide +kernel)) rfl (pid_rng1 T.n_range pd_int) (fun _ _ _ _ _ => pgd_name 17 sc_law.nd) (fun _ _ _ _ _ => ptsd_nil) (fun _ _ _ _ _ => pd_min rfl T.n_min (pad_cons (pd_ix (pd_var 6) (pd_var 17)) (pad_cons (pd_ix (pd_var 8) (pd_var 17)) pad_nil)))) pad_nil)) sc_law.nd))) psd_nil)))
  (psd_cons (psd_if (ptd_cmp (cd_eq (u65 hr)) (pd_callF F_law_take hr (by decide) (pad_cons (pd_var 1) (pad_cons pd_int pad_nil))) pd_int) (psd_one (psd_frz 4 (psd_set 6 (pd_tuple T.n_tuple (pad_cons (pd_lc rfl sc_law.nd (blkOk_by (own := [("_law_number_here", 18)]) (N := N_law) (sc := defScope s_law) (by decide +kernel)) rfl (pid_it (pk_var 4)) (fun _ _ _ _ _ => pgd_name 18 sc_law.nd) (fun _ _ _ _ _ => ptsd_nil) (fun _ _ _ _ _ => pd_max rfl T.n_max (pad_cons pd_int (pad_cons (pd_sub (pd_var 18) (pd_callF F_law_take hr (by decide) (pad_cons (pd_var 1) (pad_cons pd_int pad_nil)))) pad_nil)))) pad_nil)) sc_law.nd))) psd_nil)
  (psd_cons (psd_setLc 9 rfl sc_law.nd (blkOk_by (own := [("_law_event", 19)]) (N := N_law) (sc := defScope s_law) (by decide +kernel)) rfl (sw_true rfl rfl rfl (by decide +kernel)) (pid_it (pk_e (pd_ix (pd_var 3) pd_int))) (fun _ _ _ _ _ => pgd_name 19 sc_law.nd) (fun _ _ _ _ _ => ptsd_one (ptd_tru (pd_callF F_law_has hr (by decide) (pad_cons (pd_var 4) (pad_cons (pd_var 19) pad_nil))))) (fun _ _ _ _ _ => pd_var 19))
  (psd_cons (psd_frz 6 (psd_set 10 (pd_callF F_cut_of hr (by decide) (pad_cons (pd_tuple T.n_tuple (pad_cons (pd_lc rfl sc_law.nd (blkOk_by (own := [("_law_number_here", 18)]) (N := N_law) (sc := defScope s_law) (by decide +kernel)) rfl (pid_it (pk_var 6)) (fun _ _ _ _ _ => pgd_name 18 sc_law.nd) (fun _ _ _ _ _ => ptsd_nil) (fun _ _ _ _ _ => pd_fdiv (pd_var 18) pd_int)) pad_nil)) (pad_cons (pd_list T.n_list (pad_cons (pd_var 9) pad_nil)) pad_nil))) sc_law.nd))
  (psd_cons (psd_frz 9 (psd_set 11 (pd_lc rfl sc_law.nd (blkOk_by (own := [("_law_event", 19)]) (N := N_law) (sc := defScope s_law) (by decide +kernel)) rfl (pid_it (pk_var 9)) (fun _ _ _ _ _ => pgd_name 19 sc_law.nd) (fun _ _ _ _ _ => ptsd_one (ptd_not (ptd_tru (pd_callF F_law_has hr (by decide) (pad_cons (pd_var 10) (pad_cons (pd_var 19) pad_nil)))))) (fun _ _ _ _ _ => pd_var 19)) sc_law.nd))
  (psd_cons (psd_set 12 (pd_callF F_law_mixed hr (by decide) (pad_cons (pd_var 11) (pad_cons (pd_alloc (pd_lst (pad_cons (pd_callF F_law_number hr (by decide) (pad_cons (pd_var 0) (pad_cons pd_int pad_nil))) pad_nil))) pad_nil))) sc_law.nd)
  (psd_cons (psd_set 13 (pd_list T.n_list (pad_cons (pd_var 12) pad_nil)) sc_law.nd)
  (psd_cons (psd_set 14 (pd_callF F_cut_of hr (by decide) (pad_cons (pd_var 6) (pad_cons (pd_var 12) pad_nil))) sc_law.nd)
  (psd_cons (psd_if (PWd.pt (pwd_or (ptd_not (ptd_tru (pd_isi (t := .tup) T.n_isinstance bt_tuple T.n_tuple (pd_var 14)))) (pwd_or (ptd_cmp (cd_ne (u65 hr)) (pd_var 12) (pd_var 13)) (pwd_or1 (ptd_not (ptd_tru (pd_callF F_law_covers hr (by decide) (pad_cons (pd_var 14) (pad_cons (pd_var 10) pad_nil))))))))) (psd_one (psd_ret pd_bl)) psd_nil)
  (psd_cons (psd_frz 16 (psd_setLc 15 rfl sc_law.nd (blkOk_by (own := [("_law_cut", 16)]) (N := N_law) (sc := defScope s_law) (by decide +kernel)) rfl (sw_true rfl rfl rfl (by decide +kernel)) (pid_it (pk_e (pd_callF F_law_below hr (by decide) (pad_cons (pd_var 6) pad_nil)))) (fun _ _ _ _ _ => pgd_name 16 sc_law.nd) (fun _ _ _ _ _ => ptsd_one (ptd_tru (pd_callF F_law_fits hr (by decide) (pad_cons (pd_var 16) (pad_cons (pd_var 11) pad_nil))))) (fun _ _ _ _ _ => pd_var 16)))
  (psd_cons (psd_if (PWd.pt (pwd_or (ptd_cmp (cd_notIn (u65 hr)) (pd_var 14) (pd_var 15)) (pwd_or1 (ptd_cmp (cd_ne (u65 hr)) (pd_callF F_cut_of hr (by decide) (pad_cons (pd_var 6) (pad_cons (pd_var 11) pad_nil))) (pd_var 14))))) (psd_one (psd_ret pd_bl)) psd_nil)
  (psd_cons (psd_frz 15 (psd_for PassesOwn.never rfl (pid_it (pk_var 15)) (pgd_name 16 sc_law.nd) (psd_one (psd_if (ptd_not (ptd_tru (pd_callF F_law_covers hr (by decide) (pad_cons (pd_var 14) (pad_cons (pd_var 16) pad_nil))))) (psd_one (psd_ret pd_bl)) psd_nil))))
  (psd_one (psd_ret pd_bl)))))))))))))))))))
end
section
theorem all_mk {l : PySem.W.OpenLaw} {w : World} {K : PySem.W.Frag} {h : Heap} {mg : Str → Option Value} {fa : Addr} (X : K.In h) (G : h.Ns mainGlobals mg) (hfa : mg "law" = some (.ref fa))
    {f0 : Addr} {od0 an0 : Option Addr} {sl0 : Array (Option Value)} {oc0 kV0 dc0 pm0 cd0 ct0 : Value} {f1 : Addr} {od1 an1 : Option Addr} {sl1 : Array (Option Value)} {oc1 kV1 dc1 pm1 cd1 ct1 : Value} {f2 : Addr} {od2 an2 : Option Addr} {sl2 : Array (Option Value)} {oc2 kV2 dc2 pm2 cd2 ct2 : Value} {f3 : Addr} {od3 an3 : Option Addr} {sl3 : Array (Option Value)} {oc3 kV3 dc3 pm3 cd3 ct3 : Value} {f4 : Addr} {od4 an4 : Option Addr} {sl4 : Array (Option Value)} {oc4 kV4 dc4 pm4 cd4 ct4 : Value} {f5 : Addr} {od5 an5 : Option Addr} {sl5 : Array (Option Value)} {oc5 kV5 dc5 pm5 cd5 ct5 : Value} {f6 : Addr} {od6 an6 : Option Addr} {sl6 : Array (Option Value)} {oc6 kV6 dc6 pm6 cd6 ct6 : Value} {f7 : Addr} {od7 an7 : Option Addr} {sl7 : Array (Option Value)} {oc7 kV7 dc7 pm7 cd7 ct7 : Value} {f8 : Addr} {od8 an8 : Option Addr} {sl8 : Array (Option Value)} {oc8 kV8 dc8 pm8 cd8 ct8 : Value} {f9 : Addr} {od9 an9 : Option Addr} {sl9 : Array (Option Value)} {oc9 kV9 dc9 pm9 cd9 ct9 : Value} {f10 : Addr} {od10 an10 : Option Addr} {sl10 : Array (Option Value)} {oc10 kV10 dc10 pm10 cd10 ct10 : Value} {f11 : Addr} {od11 an11 : Option Addr} {sl11 : Array (Option Value)} {oc11 kV11 dc11 pm11 cd11 ct11 : Value} {f12 : Addr} {od12 an12 : Option Addr} {sl12 : Array (Option Value)} {oc12 kV12 dc12 pm12 cd12 ct12 : Value} {f13 : Addr} {od13 an13 : Option Addr} {sl13 : Array (Option Value)} {oc13 kV13 dc13 pm13 cd13 ct13 : Value} {f14 : Addr} {od14 an14 : Option Addr} {sl14 : Array (Option Value)} {oc14 kV14 dc14 pm14 cd14 ct14 : Value} {f15 : Addr} {od15 an15 : Option Addr} {sl15 : Array (Option Value)} {oc15 kV15 dc15 pm15 cd15 ct15 : Value} {t_SITES : Tok}
    (a0 : PySem.W.nsIn K mainGlobals "knows" = some (some (.ref f0)))
    (l0 : K.lookup f0 = some ⟨oc0, od0, .func (PySem.W.fnOf "knows" "knows" (defArgs s_knows) (defBody s_knows) (defScope s_knows) .none kV0 dc0 pm0 an0 cd0 ct0), sl0⟩)
    (c0 : PySem.W.codeIn K cd0 "knows" = true)
    (k0 : PySem.W.keepIn K (.ref f0) = true)
    (a1 : PySem.W.nsIn K mainGlobals "covers" = some (some (.ref f1)))
    (l1 : K.lookup f1 = some ⟨oc1, od1, .func (PySem.W.fnOf "covers" "covers" (defArgs s_covers) (defBody s_covers) (defScope s_covers) .none kV1 dc1 pm1 an1 cd1 ct1), sl1⟩)
    (c1 : PySem.W.codeIn K cd1 "covers" = true)
    (k1 : PySem.W.keepIn K (.ref f1) = true)
    (a2 : PySem.W.nsIn K mainGlobals "least" = some (some (.ref f2)))
    (l2 : K.lookup f2 = some ⟨oc2, od2, .func (PySem.W.fnOf "least" "least" (defArgs s_least) (defBody s_least) (defScope s_least) .none kV2 dc2 pm2 an2 cd2 ct2), sl2⟩)
    (c2 : PySem.W.codeIn K cd2 "least" = true)
    (k2 : PySem.W.keepIn K (.ref f2) = true)
    (a3 : PySem.W.nsIn K mainGlobals "dot_of" = some (some (.ref f3)))
    (l3 : K.lookup f3 = some ⟨oc3, od3, .func (PySem.W.fnOf "dot_of" "dot_of" (defArgs s_dot_of) (defBody s_dot_of) (defScope s_dot_of) .none kV3 dc3 pm3 an3 cd3 ct3), sl3⟩)
    (c3 : PySem.W.codeIn K cd3 "dot_of" = true)
    (k3 : PySem.W.keepIn K (.ref f3) = true)
    (a4 : PySem.W.nsIn K mainGlobals "cut_of" = some (some (.ref f4)))
    (l4 : K.lookup f4 = some ⟨oc4, od4, .func (PySem.W.fnOf "cut_of" "cut_of" (defArgs s_cut_of) (defBody s_cut_of) (defScope s_cut_of) .none kV4 dc4 pm4 an4 cd4 ct4), sl4⟩)
    (c4 : PySem.W.codeIn K cd4 "cut_of" = true)
    (k4 : PySem.W.keepIn K (.ref f4) = true)
    (a5 : PySem.W.nsIn K mainGlobals "_law_number" = some (some (.ref f5)))
    (l5 : K.lookup f5 = some ⟨oc5, od5, .func (PySem.W.fnOf "_law_number" "_law_number" (defArgs s_law_number) (defBody s_law_number) (defScope s_law_number) .none kV5 dc5 pm5 an5 cd5 ct5), sl5⟩)
    (c5 : PySem.W.codeIn K cd5 "_law_number" = true)
    (k5 : PySem.W.keepIn K (.ref f5) = true)
    (a6 : PySem.W.nsIn K mainGlobals "_law_take" = some (some (.ref f6)))
    (l6 : K.lookup f6 = some ⟨oc6, od6, .func (PySem.W.fnOf "_law_take" "_law_take" (defArgs s_law_take) (defBody s_law_take) (defScope s_law_take) .none kV6 dc6 pm6 an6 cd6 ct6), sl6⟩)
    (c6 : PySem.W.codeIn K cd6 "_law_take" = true)
    (k6 : PySem.W.keepIn K (.ref f6) = true)
    (a7 : PySem.W.nsIn K mainGlobals "_law_join" = some (some (.ref f7)))
    (l7 : K.lookup f7 = some ⟨oc7, od7, .func (PySem.W.fnOf "_law_join" "_law_join" (defArgs s_law_join) (defBody s_law_join) (defScope s_law_join) .none kV7 dc7 pm7 an7 cd7 ct7), sl7⟩)
    (c7 : PySem.W.codeIn K cd7 "_law_join" = true)
    (k7 : PySem.W.keepIn K (.ref f7) = true)
    (a8 : PySem.W.nsIn K mainGlobals "_law_covers" = some (some (.ref f8)))
    (l8 : K.lookup f8 = some ⟨oc8, od8, .func (PySem.W.fnOf "_law_covers" "_law_covers" (defArgs s_law_covers) (defBody s_law_covers) (defScope s_law_covers) .none kV8 dc8 pm8 an8 cd8 ct8), sl8⟩)
    (c8 : PySem.W.codeIn K cd8 "_law_covers" = true)
    (k8 : PySem.W.keepIn K (.ref f8) = true)
    (a9 : PySem.W.nsIn K mainGlobals "_law_has" = some (some (.ref f9)))
    (l9 : K.lookup f9 = some ⟨oc9, od9, .func (PySem.W.fnOf "_law_has" "_law_has" (defArgs s_law_has) (defBody s_law_has) (defScope s_law_has) .none kV9 dc9 pm9 an9 cd9 ct9), sl9⟩)
    (c9 : PySem.W.codeIn K cd9 "_law_has" = true)
    (k9 : PySem.W.keepIn K (.ref f9) = true)
    (a10 : PySem.W.nsIn K mainGlobals "_law_op" = some (some (.ref f10)))
    (l10 : K.lookup f10 = some ⟨oc10, od10, .func (PySem.W.fnOf "_law_op" "_law_op" (defArgs s_law_op) (defBody s_law_op) (defScope s_law_op) .none kV10 dc10 pm10 an10 cd10 ct10), sl10⟩)
    (c10 : PySem.W.codeIn K cd10 "_law_op" = true)
    (k10 : PySem.W.keepIn K (.ref f10) = true)
    (a11 : PySem.W.nsIn K mainGlobals "_law_history" = some (some (.ref f11)))
    (l11 : K.lookup f11 = some ⟨oc11, od11, .func (PySem.W.fnOf "_law_history" "_law_history" (defArgs s_law_history) (defBody s_law_history) (defScope s_law_history) .none kV11 dc11 pm11 an11 cd11 ct11), sl11⟩)
    (c11 : PySem.W.codeIn K cd11 "_law_history" = true)
    (k11 : PySem.W.keepIn K (.ref f11) = true)
    (a12 : PySem.W.nsIn K mainGlobals "_law_fits" = some (some (.ref f12)))
    (l12 : K.lookup f12 = some ⟨oc12, od12, .func (PySem.W.fnOf "_law_fits" "_law_fits" (defArgs s_law_fits) (defBody s_law_fits) (defScope s_law_fits) .none kV12 dc12 pm12 an12 cd12 ct12), sl12⟩)
    (c12 : PySem.W.codeIn K cd12 "_law_fits" = true)
    (k12 : PySem.W.keepIn K (.ref f12) = true)
    (a13 : PySem.W.nsIn K mainGlobals "_law_below" = some (some (.ref f13)))
    (l13 : K.lookup f13 = some ⟨oc13, od13, .func (PySem.W.fnOf "_law_below" "_law_below" (defArgs s_law_below) (defBody s_law_below) (defScope s_law_below) .none kV13 dc13 pm13 an13 cd13 ct13), sl13⟩)
    (c13 : PySem.W.codeIn K cd13 "_law_below" = true)
    (k13 : PySem.W.keepIn K (.ref f13) = true)
    (a14 : PySem.W.nsIn K mainGlobals "_law_mixed" = some (some (.ref f14)))
    (l14 : K.lookup f14 = some ⟨oc14, od14, .func (PySem.W.fnOf "_law_mixed" "_law_mixed" (defArgs s_law_mixed) (defBody s_law_mixed) (defScope s_law_mixed) .none kV14 dc14 pm14 an14 cd14 ct14), sl14⟩)
    (c14 : PySem.W.codeIn K cd14 "_law_mixed" = true)
    (k14 : PySem.W.keepIn K (.ref f14) = true)
    (a15 : PySem.W.nsIn K mainGlobals "law" = some (some (.ref f15)))
    (l15 : K.lookup f15 = some ⟨oc15, od15, .func (PySem.W.fnOf "law" "law" (defArgs s_law) (defBody s_law) (defScope s_law) .none kV15 dc15 pm15 an15 cd15 ct15), sl15⟩)
    (c15 : PySem.W.codeIn K cd15 "law" = true)
    (k15 : PySem.W.keepIn K (.ref f15) = true)
    (z_all : PySem.W.nsIn K mainGlobals "all" = some none)
    (z_int : PySem.W.nsIn K mainGlobals "int" = some none)
    (z_isinstance : PySem.W.nsIn K mainGlobals "isinstance" = some none)
    (z_len : PySem.W.nsIn K mainGlobals "len" = some none)
    (z_list : PySem.W.nsIn K mainGlobals "list" = some none)
    (z_max : PySem.W.nsIn K mainGlobals "max" = some none)
    (z_min : PySem.W.nsIn K mainGlobals "min" = some none)
    (z_range : PySem.W.nsIn K mainGlobals "range" = some none)
    (z_tuple : PySem.W.nsIn K mainGlobals "tuple" = some none)
    (z_zip : PySem.W.nsIn K mainGlobals "zip" = some none)
    (g_SITES : PySem.W.nsIn K mainGlobals "SITES" = some (some (.int 8 t_SITES))) :
    ∃ fd : FuncData, (∀ (s : Shared) (v : Value), BindsTo s fd ⟨[v], []⟩ [("_law_script", v)]) ∧ ∀ base : Heap, K.In base → base.Ns mainGlobals mg → FnOk l.prog w K mg base CX0 4 fa fd ["_law_script"] (spD K 1 d_law) := by
  have e := hfa.symm.trans (PySem.W.mg_of X G a15)
  cases e
  have T : Txt K mg := ⟨PySem.W.mg_none_of X G z_all, PySem.W.mg_none_of X G z_int, PySem.W.mg_none_of X G z_isinstance, PySem.W.mg_none_of X G z_len, PySem.W.mg_none_of X G z_list, PySem.W.mg_none_of X G z_max, PySem.W.mg_none_of X G z_min, PySem.W.mg_none_of X G z_range, PySem.W.mg_none_of X G z_tuple, PySem.W.mg_none_of X G z_zip, ⟨.int _, _, PySem.W.mg_of X G g_SITES, relInt, fun _ _ _ => .int _⟩⟩
  have D_knows : DefAt K mg "knows" s_knows ["vector", "dot"] := ⟨f0, _, fun_mk (st := s_knows) l0 c0 k0, PySem.W.mg_of X G a0, (fun_mk (st := s_knows) l0 c0 k0).binds (ps := ["vector", "dot"]) fun _ _ _ _ _ _ us hl => match us, hl with | [_, _], _ => rfl⟩
  have D_covers : DefAt K mg "covers" s_covers ["vector", "other"] := ⟨f1, _, fun_mk (st := s_covers) l1 c1 k1, PySem.W.mg_of X G a1, (fun_mk (st := s_covers) l1 c1 k1).binds (ps := ["vector", "other"]) fun _ _ _ _ _ _ us hl => match us, hl with | [_, _], _ => rfl⟩
  have D_least : DefAt K mg "least" s_least ["vectors"] := ⟨f2, _, fun_mk (st := s_least) l2 c2 k2, PySem.W.mg_of X G a2, (fun_mk (st := s_least) l2 c2 k2).binds (ps := ["vectors"]) fun _ _ _ _ _ _ us hl => match us, hl with | [_], _ => rfl⟩
  have D_dot_of : DefAt K mg "dot_of" s_dot_of ["event"] := ⟨f3, _, fun_mk (st := s_dot_of) l3 c3 k3, PySem.W.mg_of X G a3, (fun_mk (st := s_dot_of) l3 c3 k3).binds (ps := ["event"]) fun _ _ _ _ _ _ us hl => match us, hl with | [_], _ => rfl⟩
  have D_cut_of : DefAt K mg "cut_of" s_cut_of ["stable", "held"] := ⟨f4, _, fun_mk (st := s_cut_of) l4 c4 k4, PySem.W.mg_of X G a4, (fun_mk (st := s_cut_of) l4 c4 k4).binds (ps := ["stable", "held"]) fun _ _ _ _ _ _ us hl => match us, hl with | [_, _], _ => rfl⟩
  have D_law_number : DefAt K mg "_law_number" s_law_number ["_law_script", "_law_k"] := ⟨f5, _, fun_mk (st := s_law_number) l5 c5 k5, PySem.W.mg_of X G a5, (fun_mk (st := s_law_number) l5 c5 k5).binds (ps := ["_law_script", "_law_k"]) fun _ _ _ _ _ _ us hl => match us, hl with | [_, _], _ => rfl⟩
  have D_law_take : DefAt K mg "_law_take" s_law_take ["_law_box", "_law_size"] := ⟨f6, _, fun_mk (st := s_law_take) l6 c6 k6, PySem.W.mg_of X G a6, (fun_mk (st := s_law_take) l6 c6 k6).binds (ps := ["_law_box", "_law_size"]) fun _ _ _ _ _ _ us hl => match us, hl with | [_, _], _ => rfl⟩
  have D_law_join : DefAt K mg "_law_join" s_law_join ["_law_one", "_law_two"] := ⟨f7, _, fun_mk (st := s_law_join) l7 c7 k7, PySem.W.mg_of X G a7, (fun_mk (st := s_law_join) l7 c7 k7).binds (ps := ["_law_one", "_law_two"]) fun _ _ _ _ _ _ us hl => match us, hl with | [_, _], _ => rfl⟩
  have D_law_covers : DefAt K mg "_law_covers" s_law_covers ["_law_one", "_law_two"] := ⟨f8, _, fun_mk (st := s_law_covers) l8 c8 k8, PySem.W.mg_of X G a8, (fun_mk (st := s_law_covers) l8 c8 k8).binds (ps := ["_law_one", "_law_two"]) fun _ _ _ _ _ _ us hl => match us, hl with | [_, _], _ => rfl⟩
  have D_law_has : DefAt K mg "_law_has" s_law_has ["_law_vector", "_law_event"] := ⟨f9, _, fun_mk (st := s_law_has) l9 c9 k9, PySem.W.mg_of X G a9, (fun_mk (st := s_law_has) l9 c9 k9).binds (ps := ["_law_vector", "_law_event"]) fun _ _ _ _ _ _ us hl => match us, hl with | [_, _], _ => rfl⟩
  have D_law_op : DefAt K mg "_law_op" s_law_op ["_law_box", "_law_site", "_law_n"] := ⟨f10, _, fun_mk (st := s_law_op) l10 c10 k10, PySem.W.mg_of X G a10, (fun_mk (st := s_law_op) l10 c10 k10).binds (ps := ["_law_box", "_law_site", "_law_n"]) fun _ _ _ _ _ _ us hl => match us, hl with | [_, _, _], _ => rfl⟩
  have D_law_history : DefAt K mg "_law_history" s_law_history ["_law_script", "_law_at", "_law_writers", "_law_count"] := ⟨f11, _, fun_mk (st := s_law_history) l11 c11 k11, PySem.W.mg_of X G a11, (fun_mk (st := s_law_history) l11 c11 k11).binds (ps := ["_law_script", "_law_at", "_law_writers", "_law_count"]) fun _ _ _ _ _ _ us hl => match us, hl with | [_, _, _, _], _ => rfl⟩
  have D_law_fits : DefAt K mg "_law_fits" s_law_fits ["_law_cut", "_law_held"] := ⟨f12, _, fun_mk (st := s_law_fits) l12 c12 k12, PySem.W.mg_of X G a12, (fun_mk (st := s_law_fits) l12 c12 k12).binds (ps := ["_law_cut", "_law_held"]) fun _ _ _ _ _ _ us hl => match us, hl with | [_, _], _ => rfl⟩
  have D_law_below : DefAt K mg "_law_below" s_law_below ["_law_stable"] := ⟨f13, _, fun_mk (st := s_law_below) l13 c13 k13, PySem.W.mg_of X G a13, (fun_mk (st := s_law_below) l13 c13 k13).binds (ps := ["_law_stable"]) fun _ _ _ _ _ _ us hl => match us, hl with | [_], _ => rfl⟩
  have D_law_mixed : DefAt K mg "_law_mixed" s_law_mixed ["_law_events", "_law_box"] := ⟨f14, _, fun_mk (st := s_law_mixed) l14 c14 k14, PySem.W.mg_of X G a14, (fun_mk (st := s_law_mixed) l14 c14 k14).binds (ps := ["_law_events", "_law_box"]) fun _ _ _ _ _ _ us hl => match us, hl with | [_, _], _ => rfl⟩
  refine ⟨PySem.W.fnOf "law" "law" (defArgs s_law) (defBody s_law) (defScope s_law) .none kV15 dc15 pm15 an15 cd15 ct15, fun s v => .of_eq rfl, fun base _ _ => ?_⟩
  have F_knows : FnAt l.prog w K mg base 1 "knows" 2 d_knows := fa_knows T D_knows
  have F_covers : FnAt l.prog w K mg base 1 "covers" 2 d_covers := fa_covers T D_covers
  have F_least : FnAt l.prog w K mg base 1 "least" 1 d_least := fa_least T D_least
  have F_dot_of : FnAt l.prog w K mg base 1 "dot_of" 1 d_dot_of := fa_dot_of T D_dot_of
  have F_cut_of : FnAt l.prog w K mg base 2 "cut_of" 2 d_cut_of := fa_cut_of T D_cut_of F_knows F_covers F_least F_dot_of
  have F_law_number : FnAt l.prog w K mg base 1 "_law_number" 2 d_law_number := fa_law_number T D_law_number
  have F_law_take : FnAt l.prog w K mg base 1 "_law_take" 2 d_law_take := fa_law_take T D_law_take
  have F_law_join : FnAt l.prog w K mg base 1 "_law_join" 2 d_law_join := fa_law_join T D_law_join
  have F_law_covers : FnAt l.prog w K mg base 1 "_law_covers" 2 d_law_covers := fa_law_covers T D_law_covers
  have F_law_has : FnAt l.prog w K mg base 1 "_law_has" 2 d_law_has := fa_law_has T D_law_has
  have F_law_op : FnAt l.prog w K mg base 2 "_law_op" 3 d_law_op := fa_law_op T D_law_op F_law_take
  have F_law_history : FnAt l.prog w K mg base 3 "_law_history" 4 d_law_history := fa_law_history T D_law_history F_law_number F_law_take F_law_join F_law_op
  have F_law_fits : FnAt l.prog w K mg base 2 "_law_fits" 2 d_law_fits := fa_law_fits T D_law_fits F_law_covers F_law_has
  have F_law_below : FnAt l.prog w K mg base 1 "_law_below" 1 d_law_below := fa_law_below T D_law_below
  have F_law_mixed : FnAt l.prog w K mg base 2 "_law_mixed" 2 d_law_mixed := fa_law_mixed T D_law_mixed F_law_take
  exact fo_law T (fun_mk (st := s_law) l15 c15 k15) F_cut_of F_law_number F_law_take F_law_join F_law_covers F_law_has F_law_history F_law_fits F_law_below F_law_mixed
end
end PM

open PySem PySem.W PyProof.Rows
set_option maxRecDepth 100000 in
set_option maxHeartbeats 0 in
theorem PySem.Challenge.cw_partmeet_k40_the_greatest_cut_holds : PySem.Challenge.rw_partmeet_k40_the_greatest_cut.Holds := by
  w_on; o_law; k_head; (case hw => w_witness2)
  k_fill
  refine L2.walk_of (l := PySem.Challenge.rw_partmeet_k40_the_greatest_cut) (n := 63) (k := 4) (x := "_law_script") (CX := fun _ => L2.CX0) (sp := fun w => PM.spD _ 1 PM.d_law) rfl (by decide) rfl ⟨rfl, by decide, by decide⟩ (fun w h Y => PySem.W.kIn_of Y) ?F (fun _ _ a ns hl _ hS => PM.law_start hS (PM.law_den ns hl)) (fun _ _ _ _ _ h => h)
  case F =>
    intro w mg fa h KX G hmg
    refine' PM.all_mk KX G hmg ?a0 ?l0 ?c0 ?k0 ?a1 ?l1 ?c1 ?k1 ?a2 ?l2 ?c2 ?k2 ?a3 ?l3 ?c3 ?k3 ?a4 ?l4 ?c4 ?k4 ?a5 ?l5 ?c5 ?k5 ?a6 ?l6 ?c6 ?k6 ?a7 ?l7 ?c7 ?k7 ?a8 ?l8 ?c8 ?k8 ?a9 ?l9 ?c9 ?k9 ?a10 ?l10 ?c10 ?k10 ?a11 ?l11 ?c11 ?k11 ?a12 ?l12 ?c12 ?k12 ?a13 ?l13 ?c13 ?k13 ?a14 ?l14 ?c14 ?k14 ?a15 ?l15 ?c15 ?k15 ?z_all ?z_int ?z_isinstance ?z_len ?z_list ?z_max ?z_min ?z_range ?z_tuple ?z_zip ?g_SITES
    (case a0 => k_is); (case l0 => k_is); (case c0 => k_is); (case k0 => k_is)
    (case a1 => k_is); (case l1 => k_is); (case c1 => k_is); (case k1 => k_is)
    (case a2 => k_is); (case l2 => k_is); (case c2 => k_is); (case k2 => k_is)
    (case a3 => k_is); (case l3 => k_is); (case c3 => k_is); (case k3 => k_is)
    (case a4 => k_is); (case l4 => k_is); (case c4 => k_is); (case k4 => k_is)
    (case a5 => k_is); (case l5 => k_is); (case c5 => k_is); (case k5 => k_is)
    (case a6 => k_is); (case l6 => k_is); (case c6 => k_is); (case k6 => k_is)
    (case a7 => k_is); (case l7 => k_is); (case c7 => k_is); (case k7 => k_is)
    (case a8 => k_is); (case l8 => k_is); (case c8 => k_is); (case k8 => k_is)
    (case a9 => k_is); (case l9 => k_is); (case c9 => k_is); (case k9 => k_is)
    (case a10 => k_is); (case l10 => k_is); (case c10 => k_is); (case k10 => k_is)
    (case a11 => k_is); (case l11 => k_is); (case c11 => k_is); (case k11 => k_is)
    (case a12 => k_is); (case l12 => k_is); (case c12 => k_is); (case k12 => k_is)
    (case a13 => k_is); (case l13 => k_is); (case c13 => k_is); (case k13 => k_is)
    (case a14 => k_is); (case l14 => k_is); (case c14 => k_is); (case k14 => k_is)
    (case a15 => k_is); (case l15 => k_is); (case c15 => k_is); (case k15 => k_is)
    (case z_all => k_is); (case z_int => k_is); (case z_isinstance => k_is); (case z_len => k_is)
    (case z_list => k_is); (case z_max => k_is); (case z_min => k_is); (case z_range => k_is)
    (case z_tuple => k_is); (case z_zip => k_is); (case g_SITES => k_is)
