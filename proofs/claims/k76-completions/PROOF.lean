import PyProof.Rows.All
import Wide.FinOn
import OpenK.AllK
import Wide.All
import HandS.ForMost
import HandS.TupAny
import HandS.TupMul
import HandS.Deep
import HandS.Wide
import HandS.WideBits
import HandS.IsInst
import HandS.Zip
import KE.KDictKeyed
import PyProof.StrOps2
import HandS.Text
import HandS.Words
import KE.SortData
import KE.LtData
import KE.SortCalls
import HandS.SortKw
import HandS.Slots
import HandS.Exc
import KE.SortKeyHeap
import HandS.Defaults
import HandS.Head0
import HandS.Head1
import HandS.Head2
import HandS.HeadEnd
import HandS.HeadHook1
import HandS.HeadHook2
import PySem.Challenge.RW_heldstanding_k76_completions
set_option Elab.async false
set_option linter.all false
set_option maxRecDepth 100000
set_option autoImplicit false
/-! The layer's base: deep data, worlds, what stands for what. -/
namespace HS
open PySem L2

/-- deep data; ref: a mutable object of the store; fn: a def or a class by its name; ty: a built-in class -/
inductive D where
  | non | bl (b : Bool) | int (i : Int) | str (x : Str)
  | tup (xs : List D) | lst (xs : List D) | scr (xs : List D) | dic (kvs : List (D × D))
  | ins (c : String) (fs : List (Str × D))
  | ref (i : Nat) | fn (n : String) | ty (n : String)
instance : Inhabited D := ⟨.non⟩

structure Cf where
  P : Program
  w : World
  K : PySem.W.Frag
  fa : String → Option Addr

/-- a world: the addresses of the store's objects, the addresses that inline data must not use, the abstract heap -/
structure Wd where
  mu : List Addr
  L : List Addr
  H : Hp
/-- what inline data does not use -/
abbrev Wd.F (w : Wd) : List Addr := w.mu ++ w.L

def keyD : D → Option Key
  | .int i => some (.inl i)
  | .str x => some (.inr x)
  | _ => none
mutual
def nkD : D → Option NestedKey
  | .int i => some (.num i)
  | .str x => some (.text x)
  | .non => some .none
  | .tup xs => (nkAll xs).map .tup
  | _ => none
def nkAll : List D → Option (List NestedKey)
  | [] => some []
  | x :: xs => (nkD x).bind fun k => (nkAll xs).map fun ks => k :: ks
end

/-- a dict with keys that are tuples, by its raw entries: (the key, the address of its tuple), the value -/
def nDict (C : Cf) (p : Addr) (m : List ((NestedKey × Addr) × V)) : HO := .ext fun h =>
  (p == sysModules) = false ∧ ∃ xs : List (NestedKey × Addr × Value), Paired (fun (a : (NestedKey × Addr) × V) (q : NestedKey × Addr × Value) => a.1 = (q.1, q.2.1) ∧ RelV a.2 q.2.2) m xs ∧
    ∃ o es ep, h.get? p = some o ∧ o.ExactDict ∧ o.data = .dict es ep ∧ es.toList = xs.map (entryOfKey (nestedKind C.P C.w)) ∧ (xs.map (·.1)).Nodup

/-- a list of the written part -/
def LstK (K : PySem.W.Frag) (p : Addr) (vs : List V) : Prop :=
  ∃ (o : Obj) (its : Array Value) (n : Nat), K.lookup p = some o ∧ o.cls = .type "list" ∧ o.dict = none ∧ o.data = .seq its n ∧ its.size ≤ sizeLine ∧ Vals vs its.toList
/-- a tuple of the written part -/
def TupK (K : PySem.W.Frag) (p : Addr) (vs : List V) : Prop :=
  ∃ (o : Obj) (its : Array Value) (n : Nat), K.lookup p = some o ∧ o.cls = .type "tuple" ∧ o.data = .seq its n ∧ its.size ≤ sizeLine ∧ Vals vs its.toList

mutual
inductive Rep (C : Cf) (w : Wd) : D → V → Prop
  | non : Rep C w .non .non
  | bl (b : Bool) : Rep C w (.bl b) (.bl b)
  | int (i : Int) : Rep C w (.int i) (.int i)
  | str (x : Str) : Rep C w (.str x) (.str x)
  | ty (n : String) : Rep C w (.ty n) (.ty n)
  | fn {n : String} {a : Addr} : C.fa n = some a → Rep C w (.fn n) (.ref a)
  | ref {i : Nat} {p : Addr} : w.mu[i]? = some p → Rep C w (.ref i) (.ref p)
  | tup {p : Addr} {vs : List V} {ds : List D} : w.H p = some (.tup vs) → p ∉ w.F → RepL C w ds vs → Rep C w (.tup ds) (.ref p)
  | tupK {p : Addr} {vs : List V} {ds : List D} : TupK C.K p vs → RepL C w ds vs → Rep C w (.tup ds) (.ref p)
  | lst {p : Addr} {vs : List V} {ds : List D} : w.H p = some (.lst vs) → p ∉ w.F → RepL C w ds vs → Rep C w (.lst ds) (.ref p)
  | frz {p : Addr} {o : Obj} {vs : List V} {ds : List D} : w.H p = some (.frz o (.lst vs)) → p ∉ w.F → RepL C w ds vs → Rep C w (.scr ds) (.ref p)
  | scrK {p : Addr} {vs : List V} {ds : List D} : LstK C.K p vs → RepL C w ds vs → Rep C w (.scr ds) (.ref p)
  | dicK {p : Addr} {kvs : List (D × D)} (m : List (Key × V)) : w.H p = some (.dK m) → p ∉ w.F → (kvs.map fun x => keyD x.1) = (m.map fun x => some x.1) →
      RepL C w (kvs.map (·.2)) (m.map (·.2)) → Rep C w (.dic kvs) (.ref p)
  | dicT {p : Addr} {kvs : List (D × D)} (m : List ((NestedKey × Addr) × V)) : w.H p = some (nDict C p m) → p ∉ w.F → (kvs.map fun x => nkD x.1) = (m.map fun x => some x.1.1) →
      RepL C w (kvs.map (·.1)) (m.map fun x => V.ref x.1.2) → RepL C w (kvs.map (·.2)) (m.map (·.2)) → Rep C w (.dic kvs) (.ref p)
  | ins {p a dx : Addr} {c : String} {fs : List (Str × D)} {vs : List (Str × V)} : w.H p = some (.ins a dx vs) → p ∉ w.F → C.fa c = some a → fs.map (·.1) = vs.map (·.1) →
      RepL C w (fs.map (·.2)) (vs.map (·.2)) → Rep C w (.ins c fs) (.ref p)
inductive RepL (C : Cf) (w : Wd) : List D → List V → Prop
  | nil : RepL C w [] []
  | cons {d : D} {v : V} {ds : List D} {vs : List V} : Rep C w d v → RepL C w ds vs → RepL C w (d :: ds) (v :: vs)
end

/-- the object at p holds the container d -/
def ObjRep (C : Cf) (w : Wd) (p : Addr) : D → Prop
  | .lst ds => ∃ vs, w.H p = some (.lst vs) ∧ RepL C w ds vs
  | .dic kvs => (∃ m : List (Key × V), w.H p = some (.dK m) ∧ (kvs.map fun x => keyD x.1) = (m.map fun x => some x.1) ∧ RepL C w (kvs.map (·.2)) (m.map (·.2))) ∨
      ∃ m : List ((NestedKey × Addr) × V), w.H p = some (nDict C p m) ∧ (kvs.map fun x => nkD x.1) = (m.map fun x => some x.1.1) ∧ RepL C w (kvs.map (·.1)) (m.map fun x => V.ref x.1.2) ∧ RepL C w (kvs.map (·.2)) (m.map (·.2))
  | .ins c fs => ∃ a dx vs, w.H p = some (.ins a dx vs) ∧ C.fa c = some a ∧ fs.map (·.1) = vs.map (·.1) ∧ RepL C w (fs.map (·.2)) (vs.map (·.2))
  | _ => False

theorem ObjRep.rep {C : Cf} {w : Wd} {p : Addr} {d : D} (h : ObjRep C w p d) (hp : p ∉ w.F) : Rep C w d (.ref p) := by
  cases d with
  | lst ds => obtain ⟨vs, e, r⟩ := h; exact .lst e hp r
  | dic kvs =>
    rcases h with ⟨m, e, k, r⟩ | ⟨m, e, k, r1, r2⟩
    · exact .dicK m e hp k r
    · exact .dicT m e hp k r1 r2
  | ins c fs => obtain ⟨a, dx, vs, e, f, n, r⟩ := h; exact .ins e hp f n r
  | _ => exact h.elim

/-- the order of worlds for what is inline -/
structure LeF (w w' : Wd) : Prop where
  mu : ∀ (i : Nat) (p : Addr), w.mu[i]? = some p → w'.mu[i]? = some p
  F : ∀ q ∈ w'.F, q ∈ w.F ∨ w.H q = none
  keep : ∀ p o, w.H p = some o → p ∉ w.F → w'.H p = some o
  dom : ∀ q, w'.H q = none → w.H q = none
/-- the order of worlds: what stands, stands (but the store's objects); new addresses are new -/
structure Le (w w' : Wd) : Prop where
  mu : ∀ (i : Nat) (p : Addr), w.mu[i]? = some p → w'.mu[i]? = some p
  new : ∀ q ∈ w'.mu, q ∈ w.mu ∨ w.H q = none
  F : ∀ q ∈ w'.F, q ∈ w.F ∨ w.H q = none
  keep : ∀ p o, w.H p = some o → p ∉ w.mu → w'.H p = some o
  dom : ∀ q, w'.H q = none → w.H q = none
  hold : ∀ q ∈ w.L, q ∈ w'.L
theorem Le.f {w w' : Wd} (e : Le w w') : LeF w w' := ⟨e.mu, e.F, fun p o h hp => e.keep p o h fun z => hp (List.mem_append_left _ z), e.dom⟩
theorem Le.refl (w : Wd) : Le w w := ⟨fun _ _ h => h, fun _ h => .inl h, fun _ h => .inl h, fun _ _ h _ => h, fun _ h => h, fun _ h => h⟩
theorem LeF.refl (w : Wd) : LeF w w := (Le.refl w).f
theorem LeF.notF {w w' : Wd} (e : LeF w w') {p : Addr} {o : HO} (h : w.H p = some o) (hp : p ∉ w.F) : p ∉ w'.F := fun z => by
  rcases e.F p z with q | q
  · exact hp q
  · rw [h] at q; cases q
theorem Le.notmu {w w' : Wd} (e : Le w w') {p : Addr} {o : HO} (h : w.H p = some o) (hp : p ∉ w.mu) : p ∉ w'.mu := fun z => by
  rcases e.new p z with q | q
  · exact hp q
  · rw [h] at q; cases q
theorem LeF.trans {w w1 w2 : Wd} (a : LeF w w1) (b : LeF w1 w2) : LeF w w2 :=
  ⟨fun i p h => b.mu i p (a.mu i p h), fun q hq => by
    rcases b.F q hq with z | z
    · exact a.F q z
    · exact .inr (a.dom q z), fun p o h hp => b.keep p o (a.keep p o h hp) (a.notF h hp), fun q h => a.dom q (b.dom q h)⟩
theorem Le.trans {w w1 w2 : Wd} (a : Le w w1) (b : Le w1 w2) : Le w w2 :=
  ⟨fun i p h => b.mu i p (a.mu i p h), fun q hq => by
    rcases b.new q hq with z | z
    · exact a.new q z
    · exact .inr (a.dom q z), fun q hq => by
    rcases b.F q hq with z | z
    · exact a.F q z
    · exact .inr (a.dom q z), fun p o h hp => b.keep p o (a.keep p o h hp) (a.notmu h hp), fun q h => a.dom q (b.dom q h), fun q h => b.hold q (a.hold q h)⟩

theorem Rep.mono {C : Cf} {w w' : Wd} (e : LeF w w') {d : D} {v : V} (h : Rep C w d v) : Rep C w' d v :=
  Rep.rec (motive_1 := fun d v _ => Rep C w' d v) (motive_2 := fun ds vs _ => RepL C w' ds vs)
    .non (fun b => .bl b) (fun i => .int i) (fun x => .str x) (fun n => .ty n) (fun h => .fn h) (fun h => .ref (e.mu _ _ h))
    (fun h hp _ r => .tup (e.keep _ _ h hp) (e.notF h hp) r) (fun h _ r => .tupK h r) (fun h hp _ r => .lst (e.keep _ _ h hp) (e.notF h hp) r) (fun h hp _ r => .frz (e.keep _ _ h hp) (e.notF h hp) r) (fun h _ r => .scrK h r)
    (fun m h hp k _ r => .dicK m (e.keep _ _ h hp) (e.notF h hp) k r) (fun m h hp k _ _ r1 r2 => .dicT m (e.keep _ _ h hp) (e.notF h hp) k r1 r2) (fun h hp f n _ r => .ins (e.keep _ _ h hp) (e.notF h hp) f n r)
    .nil (fun _ _ r rs => .cons r rs) h
theorem RepL.mono {C : Cf} {w w' : Wd} (e : LeF w w') : ∀ {ds : List D} {vs : List V}, RepL C w ds vs → RepL C w' ds vs
  | _, _, .nil => .nil
  | _, _, .cons r rs => .cons (r.mono e) (RepL.mono e rs)
theorem RepL.length {C : Cf} {w : Wd} : ∀ {ds : List D} {vs : List V}, RepL C w ds vs → ds.length = vs.length
  | _, _, .nil => rfl
  | _, _, .cons _ rs => by rw [List.length_cons, List.length_cons, RepL.length rs]
theorem RepL.get {C : Cf} {w : Wd} : ∀ {ds : List D} {vs : List V} {i : Nat} {d : D}, RepL C w ds vs → ds[i]? = some d → ∃ v, vs[i]? = some v ∧ Rep C w d v
  | _, _, _, _, .nil, e => by simp at e
  | _, _, 0, _, .cons r _, e => by simp at e; subst e; exact ⟨_, rfl, r⟩
  | _, _, i + 1, d, .cons _ t, e => by
    obtain ⟨u, h1, h2⟩ := RepL.get (i := i) (d := d) t (by simpa using e)
    exact ⟨u, by simpa using h1, h2⟩
theorem RepL.getV {C : Cf} {w : Wd} : ∀ {ds : List D} {vs : List V} {i : Nat} {v : V}, RepL C w ds vs → vs[i]? = some v → ∃ d, ds[i]? = some d ∧ Rep C w d v
  | _, _, _, _, .nil, e => by simp at e
  | _, _, 0, _, .cons r _, e => by simp at e; subst e; exact ⟨_, rfl, r⟩
  | _, _, i + 1, d, .cons _ t, e => by
    obtain ⟨u, h1, h2⟩ := RepL.getV (i := i) (v := d) t (by simpa using e)
    exact ⟨u, by simpa using h1, h2⟩
theorem RepL.append {C : Cf} {w : Wd} : ∀ {ds es : List D} {vs us : List V}, RepL C w ds vs → RepL C w es us → RepL C w (ds ++ es) (vs ++ us)
  | _, _, _, _, .nil, s => s
  | _, _, _, _, .cons r t, s => .cons r (RepL.append t s)
theorem RepL.snoc {C : Cf} {w : Wd} {ds : List D} {vs : List V} {d : D} {v : V} (a : RepL C w ds vs) (b : Rep C w d v) : RepL C w (ds ++ [d]) (vs ++ [v]) := a.append (.cons b .nil)
theorem RepL.set {C : Cf} {w : Wd} {d : D} {v : V} (r : Rep C w d v) : ∀ {ds : List D} {vs : List V} (i : Nat), RepL C w ds vs → RepL C w (ds.set i d) (vs.set i v)
  | _, _, _, .nil => .nil
  | _, _, 0, .cons _ t => .cons r t
  | _, _, i + 1, .cons q t => .cons q (RepL.set r i t)
theorem RepL.take {C : Cf} {w : Wd} : ∀ {ds : List D} {vs : List V} (n : Nat), RepL C w ds vs → RepL C w (ds.take n) (vs.take n)
  | _, _, 0, _ => .nil
  | _, _, _ + 1, .nil => .nil
  | _, _, n + 1, .cons r t => .cons r (RepL.take n t)
theorem RepL.drop {C : Cf} {w : Wd} : ∀ {ds : List D} {vs : List V} (n : Nat), RepL C w ds vs → RepL C w (ds.drop n) (vs.drop n)
  | _, _, 0, r => r
  | _, _, _ + 1, .nil => .nil
  | _, _, n + 1, .cons _ t => RepL.drop n t
theorem RepL.reverse {C : Cf} {w : Wd} : ∀ {ds : List D} {vs : List V}, RepL C w ds vs → RepL C w ds.reverse vs.reverse
  | _, _, .nil => .nil
  | _, _, .cons r t => by
    rw [List.reverse_cons, List.reverse_cons]
    exact (RepL.reverse t).snoc r
theorem RepL.eraseIdx {C : Cf} {w : Wd} : ∀ {ds : List D} {vs : List V} (n : Nat), RepL C w ds vs → RepL C w (ds.eraseIdx n) (vs.eraseIdx n)
  | _, _, _, .nil => .nil
  | _, _, 0, .cons _ t => t
  | _, _, n + 1, .cons r t => .cons r (RepL.eraseIdx n t)
theorem RepL.dropLast {C : Cf} {w : Wd} {ds : List D} {vs : List V} (r : RepL C w ds vs) : RepL C w ds.dropLast vs.dropLast := by
  rw [List.dropLast_eq_take, List.dropLast_eq_take, r.length]
  exact r.take _
theorem ObjRep.mono {C : Cf} {w w' : Wd} (e : LeF w w') {p : Addr} {d : D} (h : ObjRep C w p d) (hp : ∀ o, w.H p = some o → w'.H p = some o) : ObjRep C w' p d := by
  cases d with
  | lst ds => obtain ⟨vs, q, r⟩ := h; exact ⟨vs, hp _ q, r.mono e⟩
  | dic kvs =>
    rcases h with ⟨m, q, k, r⟩ | ⟨m, q, k, r1, r2⟩
    · exact .inl ⟨m, hp _ q, k, r.mono e⟩
    · exact .inr ⟨m, hp _ q, k, r1.mono e, r2.mono e⟩
  | ins c fs => obtain ⟨a, dx, vs, q, f, n, r⟩ := h; exact ⟨a, dx, vs, hp _ q, f, n, r.mono e⟩
  | _ => exact h.elim

abbrev Sto := List D
abbrev Env := List (Option D)
/-- the store stands in the world -/
structure Sim (C : Cf) (w : Wd) (S : Sto) : Prop where
  len : w.mu.length = S.length
  nd : w.mu.Nodup
  trk : ∀ q ∈ w.F, ∃ o, w.H q = some o
  obj : ∀ (i : Nat) (p : Addr) (d : D), w.mu[i]? = some p → S[i]? = some d → ObjRep C w p d
def RepE (C : Cf) (w : Wd) (η : Env) (σ : L2.St) : Prop := η.length = σ.length ∧ ∀ (i : Nat) (d : D), η[i]? = some (some d) → ∃ v, σ[i]? = some (some v) ∧ Rep C w d v
theorem RepE.mono {C : Cf} {w w' : Wd} (e : LeF w w') {η : Env} {σ : L2.St} (h : RepE C w η σ) : RepE C w' η σ :=
  ⟨h.1, fun i d q => let ⟨v, a, b⟩ := h.2 i d q; ⟨v, a, b.mono e⟩⟩
theorem RepE.set {C : Cf} {w : Wd} {η : Env} {σ : L2.St} {i : Nat} {d : D} {v : V} (h : RepE C w η σ) (r : Rep C w d v) : RepE C w (η.set i (some d)) (σ.set i (some v)) := by
  refine ⟨by rw [List.length_set, List.length_set]; exact h.1, fun j d' e => ?_⟩
  by_cases hj : i = j
  · subst hj
    by_cases hi : i < η.length
    · rw [List.getElem?_set_self hi] at e
      have e2 : d = d' := Option.some.inj (Option.some.inj e)
      subst e2
      exact ⟨v, List.getElem?_set_self (by rw [← h.1]; exact hi), r⟩
    · rw [List.getElem?_eq_none (by simpa using hi)] at e; cases e
  · rw [List.getElem?_set_ne hj] at e ⊢
    exact h.2 j d' e
theorem Sim.fresh {C : Cf} {w : Wd} {S : Sto} (s : Sim C w S) {p : Addr} (hp : w.H p = none) : p ∉ w.F := fun z => by
  obtain ⟨o, e⟩ := s.trk p z
  rw [hp] at e; cases e
theorem Sim.freshm {C : Cf} {w : Wd} {S : Sto} (s : Sim C w S) {p : Addr} (hp : w.H p = none) : p ∉ w.mu := fun z => s.fresh hp (List.mem_append_left _ z)
/-- a new object stands at p, not used by anything -/
theorem Le.new' {w : Wd} {p : Addr} {o : HO} (hp : w.H p = none) : Le w ⟨w.mu, w.L, upd w.H p o⟩ :=
  ⟨fun _ _ h => h, fun _ h => .inl h, fun _ h => .inl h, fun q u h _ => by show upd w.H p o q = some u; rw [upd_ne (ne_of_none h hp)]; exact h, fun q h => by
    by_cases e : q = p
    · subst e; exact hp
    · have h : upd w.H p o q = none := h
      rw [upd_ne e] at h; exact h, fun _ h => h⟩
theorem Le.newL {w : Wd} {p : Addr} {o : HO} (hp : w.H p = none) : Le w ⟨w.mu, p :: w.L, upd w.H p o⟩ :=
  ⟨fun _ _ h => h, fun _ h => .inl h, fun q h => by
    rcases List.mem_append.mp h with e | h
    · exact .inl (List.mem_append_left _ e)
    · rcases List.mem_cons.mp h with e | h
      · subst e; exact .inr hp
      · exact .inl (List.mem_append_right _ h), (Le.new' hp).keep, (Le.new' hp).dom, fun q h => List.mem_cons_of_mem _ h⟩
theorem Sim.new {C : Cf} {w : Wd} {S : Sto} (s : Sim C w S) {p : Addr} {o : HO} (hp : w.H p = none) : Sim C ⟨w.mu, w.L, upd w.H p o⟩ S := by
  have kp : ∀ q u, w.H q = some u → upd w.H p o q = some u := fun q u h => by rw [upd_ne (ne_of_none h hp)]; exact h
  exact ⟨s.len, s.nd, fun q hq => let ⟨u, e⟩ := s.trk q hq; ⟨u, kp q u e⟩, fun i q d h1 h2 => (s.obj i q d h1 h2).mono (Le.new' hp).f fun u e => kp q u e⟩
theorem Sim.newL {C : Cf} {w : Wd} {S : Sto} (s : Sim C w S) {p : Addr} {o : HO} (hp : w.H p = none) : Sim C ⟨w.mu, p :: w.L, upd w.H p o⟩ S := by
  have kp : ∀ q u, w.H q = some u → upd w.H p o q = some u := fun q u h => by rw [upd_ne (ne_of_none h hp)]; exact h
  refine ⟨s.len, s.nd, fun q hq => ?_, fun i q d h1 h2 => (s.obj i q d h1 h2).mono (Le.newL hp).f fun u e => kp q u e⟩
  rcases List.mem_append.mp hq with e | hq
  · obtain ⟨u, e⟩ := s.trk q (List.mem_append_left _ e); exact ⟨u, kp q u e⟩
  · rcases List.mem_cons.mp hq with e | hq
    · subst e; exact ⟨o, upd_same⟩
    · obtain ⟨u, e⟩ := s.trk q (List.mem_append_right _ hq); exact ⟨u, kp q u e⟩
/-- less is forbidden -/
theorem LeF.less {w : Wd} {L' : List Addr} (h : ∀ q ∈ L', q ∈ w.L) : LeF w ⟨w.mu, L', w.H⟩ := ⟨fun _ _ h => h, fun q hq => .inl ((List.mem_append.mp hq).elim (List.mem_append_left _) fun z => List.mem_append_right _ (h q z)), fun _ _ h _ => h, fun _ h => h⟩
abbrev outL (L : List Addr) (p : Addr) : List Addr := L.filter fun q => decide (q ≠ p)
theorem outL_sub {L : List Addr} {p : Addr} : ∀ q ∈ outL L p, q ∈ L := fun q hq => (List.mem_filter.mp hq).1
theorem outL_not {L : List Addr} {p : Addr} : p ∉ outL L p := fun z => by
  have := (List.mem_filter.mp z).2
  simp at this
theorem Le.drop {w0 w : Wd} {p : Addr} (e : Le w0 w) (hp : p ∉ w0.L) : Le w0 ⟨w.mu, outL w.L p, w.H⟩ :=
  ⟨e.mu, e.new, fun q hq => by
    rcases (LeF.less (w := w) (L' := outL w.L p) outL_sub).F q hq with z | z
    · exact e.F q z
    · exact .inr (e.dom q z), e.keep, e.dom, fun q hq => List.mem_filter.mpr ⟨e.hold q hq, decide_eq_true (by rintro rfl; exact hp hq)⟩⟩
theorem Sim.less {C : Cf} {w : Wd} {S : Sto} (s : Sim C w S) {L' : List Addr} (h : ∀ q ∈ L', q ∈ w.L) : Sim C ⟨w.mu, L', w.H⟩ S :=
  ⟨s.len, s.nd, fun q hq => s.trk q ((List.mem_append.mp hq).elim (List.mem_append_left _) fun z => List.mem_append_right _ (h q z)), fun i q d h1 h2 => (s.obj i q d h1 h2).mono (LeF.less h) fun _ e => e⟩
/-- an object that only L knows becomes the store's next one -/
theorem LeF.grow {w : Wd} {p : Addr} (hl : p ∈ w.L) : LeF w ⟨w.mu ++ [p], w.L, w.H⟩ := ⟨fun i q h => by
  show (w.mu ++ [p])[i]? = some q
  rw [List.getElem?_append_left (List.getElem?_eq_some_iff.mp h).1]; exact h, fun q hq => .inl (by
    rcases List.mem_append.mp hq with z | z
    · rcases List.mem_append.mp z with z | z
      · exact List.mem_append_left _ z
      · have : q = p := by simpa using z
        subst this; exact List.mem_append_right _ hl
    · exact List.mem_append_right _ z), fun _ _ h _ => h, fun _ h => h⟩
theorem Le.grow {w0 w : Wd} {p : Addr} (e : Le w0 w) (hn : w0.H p = none) (hl : p ∈ w.L) : Le w0 ⟨w.mu ++ [p], w.L, w.H⟩ :=
  ⟨fun i q h => (LeF.grow hl).mu i q (e.mu i q h), fun q hq => by
    rcases List.mem_append.mp hq with z | z
    · exact e.new q z
    · have : q = p := by simpa using z
      subst this; exact .inr hn, fun q hq => by
    rcases (LeF.grow hl).F q hq with z | z
    · exact e.F q z
    · exact .inr (e.dom q z), e.keep, e.dom, e.hold⟩
theorem Sim.grow {C : Cf} {w : Wd} {S : Sto} (s : Sim C w S) {p : Addr} {d : D} (hp : p ∉ w.mu) (hl : p ∈ w.L) (o : ObjRep C w p d) : Sim C ⟨w.mu ++ [p], w.L, w.H⟩ (S ++ [d]) := by
  refine ⟨by simp [s.len], ?_, fun q hq => ?_, fun i q d' h1 h2 => ?_⟩
  · rw [List.nodup_append]
    exact ⟨s.nd, by simp, fun a ha b hb => by
      have : b = p := by simpa using hb
      subst this; rintro rfl; exact hp ha⟩
  · have h : q ∈ w.F := by
      rcases List.mem_append.mp hq with z | z
      · rcases List.mem_append.mp z with z | z
        · exact List.mem_append_left _ z
        · have : q = p := by simpa using z
          subst this; exact List.mem_append_right _ hl
      · exact List.mem_append_right _ z
    exact s.trk q h
  · have h1 : (w.mu ++ [p])[i]? = some q := h1
    by_cases hi : i < w.mu.length
    · rw [List.getElem?_append_left hi] at h1
      rw [List.getElem?_append_left (by rw [← s.len]; exact hi)] at h2
      exact (s.obj i q d' h1 h2).mono (LeF.grow hl) fun _ e => e
    · have e : i = w.mu.length := by
        have := (List.getElem?_eq_some_iff.mp h1).1
        simp at this; omega
      subst e
      rw [List.getElem?_append_right (Nat.le_refl _)] at h1
      rw [s.len, List.getElem?_append_right (Nat.le_refl _)] at h2
      simp at h1 h2
      subst h1; subst h2
      exact o.mono (LeF.grow hl) fun _ e => e
/-- an object that inline data does not use is changed -/
theorem LeF.chg {w : Wd} {p : Addr} {o u : HO} (hl : p ∈ w.F) (hu : w.H p = some u) : LeF w ⟨w.mu, w.L, upd w.H p o⟩ :=
  ⟨fun _ _ h => h, fun _ h => .inl h, fun q u h hq => by
    show upd w.H p o q = some u
    rw [upd_ne (by rintro rfl; exact hq hl)]; exact h, fun q h => by
    have h : upd w.H p o q = none := h
    by_cases e : q = p
    · subst e; rw [upd_same] at h; cases h
    · rw [upd_ne e] at h; exact h⟩
theorem Le.chg {w0 w : Wd} {p : Addr} {o : HO} (e : Le w0 w) (hn : w0.H p = none) : Le w0 ⟨w.mu, w.L, upd w.H p o⟩ :=
  ⟨e.mu, e.new, e.F, fun q u h hq => by
    show upd w.H p o q = some u
    rw [upd_ne (by rintro rfl; rw [hn] at h; cases h)]; exact e.keep q u h hq, fun q h => by
    have h : upd w.H p o q = none := h
    by_cases e' : q = p
    · subst e'; exact hn
    · rw [upd_ne e'] at h; exact e.dom q h, e.hold⟩
theorem Sim.chg {C : Cf} {w : Wd} {S : Sto} (s : Sim C w S) {p : Addr} {o u : HO} (hl : p ∈ w.L) (hm : p ∉ w.mu) (hu : w.H p = some u) : Sim C ⟨w.mu, w.L, upd w.H p o⟩ S := by
  refine ⟨s.len, s.nd, fun q hq => ?_, fun i q d h1 h2 => (s.obj i q d h1 h2).mono (LeF.chg (List.mem_append_right _ hl) hu) fun u e => ?_⟩
  · show ∃ u, upd w.H p o q = some u
    by_cases e : q = p
    · subst e; exact ⟨_, upd_same⟩
    · rw [upd_ne e]; exact s.trk q hq
  · show upd w.H p o q = some u
    rw [upd_ne]
    · exact e
    · rintro rfl; exact hm (List.mem_of_getElem? h1)
/-- the object of the store's i-th place is changed -/
theorem Le.put {w : Wd} {p : Addr} {o o' : HO} (hl : p ∈ w.mu) (hp : w.H p = some o) : Le w ⟨w.mu, w.L, upd w.H p o'⟩ :=
  ⟨fun _ _ h => h, fun _ h => .inl h, fun _ h => .inl h, fun q u h hq => by
    show upd w.H p o' q = some u
    rw [upd_ne (by rintro rfl; exact hq hl)]; exact h, fun q h => by
    have h : upd w.H p o' q = none := h
    by_cases e : q = p
    · subst e; rw [upd_same] at h; cases h
    · rw [upd_ne e] at h; exact h, fun _ h => h⟩
theorem Sim.put {C : Cf} {w : Wd} {S : Sto} (s : Sim C w S) {i : Nat} {p : Addr} {o o' : HO} {d : D} (hi : w.mu[i]? = some p) (hp : w.H p = some o) (ob : ObjRep C ⟨w.mu, w.L, upd w.H p o'⟩ p d) :
    Sim C ⟨w.mu, w.L, upd w.H p o'⟩ (S.set i d) := by
  have hl : p ∈ w.mu := List.mem_of_getElem? hi
  refine ⟨by simp [s.len], s.nd, fun q hq => ?_, fun j q d' h1 h2 => ?_⟩
  · show ∃ u, upd w.H p o' q = some u
    by_cases e : q = p
    · subst e; exact ⟨_, upd_same⟩
    · rw [upd_ne e]; exact s.trk q hq
  · have h1 : w.mu[j]? = some q := h1
    by_cases hj : i = j
    · subst hj
      rw [hi] at h1; cases h1
      have hlt : i < S.length := by rw [← s.len]; exact (List.getElem?_eq_some_iff.mp hi).1
      rw [List.getElem?_set_self hlt] at h2
      cases h2
      exact ob
    · rw [List.getElem?_set_ne hj] at h2
      refine (s.obj j q d' h1 h2).mono (Le.put hl hp).f fun u e => ?_
      show upd w.H p o' q = some u
      rw [upd_ne]
      · exact e
      · rintro rfl
        exact hj ((List.getElem_inj s.nd).mp ((List.getElem?_eq_some_iff.mp hi).2.trans (List.getElem?_eq_some_iff.mp h1).2.symm))
end HS
set_option Elab.async false
set_option linter.all false
set_option maxRecDepth 100000
set_option autoImplicit false
/-! The judgements over HandS's, names, constants, operators, comparisons, tests. -/
namespace HS
open PySem L2

abbrev cf (fa : String → Option Addr) (X : Cx) : Cf := ⟨X.prog, X.w, X.K, fa⟩
abbrev Ev := Env → Sto → Option (D × Sto)
abbrev EvA := Env → Sto → Option (List D × Sto)
abbrev EvB := Env → Sto → Option (Bool × Sto)
def SZ : Nat := 100000
theorem sz {n : Nat} (h : n ≤ SZ) : n ≤ sizeLine := Nat.le_trans h (by decide)
theorem sz_lt {n : Nat} (h : n < SZ) : n < sizeLine := Nat.lt_of_lt_of_le h (by decide)

/-- what is wanted of a value and a world -/
abbrev PM := Cf → Wd → D → Sto → VK → Prop
def Post : PM := fun C w d S Q => ∀ v w', Le w w' → Sim C w' S → Rep C w' d v → Q v w'.H
/-- .. of a new container that nothing else knows -/
def PostO : PM := fun C w d S Q => ∀ p w', Le w w' → Sim C w' S → w.H p = none → p ∈ w'.L → p ∉ w'.mu → ObjRep C w' p d → Q (.ref p) w'.H
class PmOk (M : PM) : Prop where
  mono : ∀ {C : Cf} {w w' : Wd} {d : D} {S : Sto} {Q : VK}, Le w w' → M C w d S Q → M C w' d S Q
instance : PmOk Post := ⟨fun e h v w' e' => h v w' (e.trans e')⟩
instance : PmOk PostO := ⟨fun e h p w' e' s n => h p w' (e.trans e') s (e.dom _ n)⟩
theorem Post.here {C : Cf} {w : Wd} {d : D} {S : Sto} {Q : VK} {v : V} (h : Post C w d S Q) (s : Sim C w S) (r : Rep C w d v) : Q v w.H := h v w (Le.refl w) s r
theorem Post.newTup {C : Cf} {w : Wd} {ds : List D} {vs : List V} {S : Sto} {Q : VK} {p : Addr} (h : Post C w (.tup ds) S Q) (s : Sim C w S) (r : RepL C w ds vs) (hp : w.H p = none) : Q (.ref p) (upd w.H p (.tup vs)) :=
  h (.ref p) ⟨w.mu, w.L, upd w.H p (.tup vs)⟩ (Le.new' hp) (s.new hp) (.tup upd_same (s.fresh hp) (r.mono (Le.new' hp).f))
theorem Post.newLst {C : Cf} {w : Wd} {ds : List D} {vs : List V} {S : Sto} {Q : VK} {p : Addr} (h : Post C w (.lst ds) S Q) (s : Sim C w S) (r : RepL C w ds vs) (hp : w.H p = none) : Q (.ref p) (upd w.H p (.lst vs)) :=
  h (.ref p) ⟨w.mu, w.L, upd w.H p (.lst vs)⟩ (Le.new' hp) (s.new hp) (.lst upd_same (s.fresh hp) (r.mono (Le.new' hp).f))
theorem PostO.newLst {C : Cf} {w : Wd} {ds : List D} {vs : List V} {S : Sto} {Q : VK} {p : Addr} (h : PostO C w (.lst ds) S Q) (s : Sim C w S) (r : RepL C w ds vs) (hp : w.H p = none) : Q (.ref p) (upd w.H p (.lst vs)) :=
  h p ⟨w.mu, p :: w.L, upd w.H p (.lst vs)⟩ (Le.newL hp) (s.newL hp) hp List.mem_cons_self (s.freshm hp) ⟨vs, upd_same, r.mono (Le.newL hp).f⟩
/-- a list made here: inline, or to be owned -/
class PmList (M : PM) : Prop extends PmOk M where
  newLst : ∀ {C : Cf} {w : Wd} {ds : List D} {vs : List V} {S : Sto} {Q : VK} {p : Addr}, M C w (.lst ds) S Q → Sim C w S → RepL C w ds vs → w.H p = none → Q (.ref p) (upd w.H p (.lst vs))
instance : PmList Post := ⟨Post.newLst⟩
instance : PmList PostO := ⟨PostO.newLst⟩

structure SEm (fa : String → Option Addr) (M : PM) (X : Cx) (e : Expr) (f : Ev) : Prop where
  ex : ∃ t, PE X e t ∧ ∀ w σ η S d S', RepE (cf fa X) w η σ → Sim (cf fa X) w S → f η S = some (d, S') → ∀ Q : VK, M (cf fa X) w d S' Q → t σ w.H Q
abbrev SE (fa : String → Option Addr) := SEm fa Post
abbrev SO (fa : String → Option Addr) := SEm fa PostO
structure SA (fa : String → Option Addr) (X : Cx) (es : List Expr) (f : EvA) : Prop where
  ex : ∃ t, PA X es t ∧ ∀ w σ η S ds S', RepE (cf fa X) w η σ → Sim (cf fa X) w S → f η S = some (ds, S') → ∀ Q : List V → Hp → Prop, (∀ vs w', Le w w' → Sim (cf fa X) w' S' → RepL (cf fa X) w' ds vs → Q vs w'.H) → t σ w.H Q
structure ST (fa : String → Option Addr) (X : Cx) (e : Expr) (f : EvB) : Prop where
  ex : ∃ t, PT X e t ∧ ∀ w σ η S b S', RepE (cf fa X) w η σ → Sim (cf fa X) w S → f η S = some (b, S') → ∀ Q : Bool → Hp → Prop, (∀ w', Le w w' → Sim (cf fa X) w' S' → Q b w'.H) → t σ w.H Q
structure STw (fa : String → Option Addr) (X : Cx) (e : Expr) (f : EvB) : Prop where
  ex : ∃ t, PW X e t ∧ ∀ w σ η S b S', RepE (cf fa X) w η σ → Sim (cf fa X) w S → f η S = some (b, S') → ∀ Q : Bool → Hp → Prop, (∀ w', Le w w' → Sim (cf fa X) w' S' → Q b w'.H) → t σ w.H Q

section
variable {fa : String → Option Addr} {X : Cx} {M : PM} {a b e : Expr} {es : List Expr} {pos : Pos} {f g : Ev}
theorem bsome {α β : Type} {o : Option α} {k : α → Option β} {y : β} (h : o.bind k = some y) : ∃ x, o = some x ∧ k x = some y := Option.bind_eq_some_iff.mp h

/-- an own container, frozen -/
theorem SEm.fz (h : SO fa X e f) : SE fa X e f := by
  obtain ⟨t, p, h⟩ := h.ex
  refine ⟨t, p, fun w σ η S d S' hη hS hf Q hQ => h w σ η S d S' hη hS hf Q fun p w' le s n hl hm o => ?_⟩
  refine hQ (.ref p) ⟨w'.mu, outL w'.L p, w'.H⟩ (le.drop fun z => hS.fresh n (List.mem_append_right _ z)) (s.less outL_sub) ((o.mono (LeF.less outL_sub) fun _ e => e).rep fun z => ?_)
  rcases List.mem_append.mp z with z | z
  · exact hm z
  · exact outL_not z
/-- an own container, put into the store -/
def eAl (f : Ev) : Ev := fun η S => (f η S).bind fun p => some (.ref p.2.length, p.2 ++ [p.1])
theorem SEm.al (h : SO fa X e f) : SE fa X e (eAl f) := by
  obtain ⟨t, p, h⟩ := h.ex
  refine ⟨t, p, fun w σ η S d S' hη hS hf Q hQ => ?_⟩
  obtain ⟨⟨d1, S1⟩, h1, h2⟩ := bsome hf
  cases h2
  refine h w σ η S d1 S1 hη hS h1 Q fun p w' le s n hl hm o => ?_
  refine hQ (.ref p) ⟨w'.mu ++ [p], w'.L, w'.H⟩ (le.grow n hl) (s.grow hm hl o) (.ref ?_)
  show (w'.mu ++ [p])[S1.length]? = some p
  rw [← s.len, List.getElem?_append_right (Nat.le_refl _)]
  simp

/-! names, constants -/
def eVar (i : Nat) : Ev := fun η S => match η[i]? with
  | some (some d) => some (d, S)
  | _ => none
theorem se_var {i : Nat} (h : PE X e (tVar i)) : SE fa X e (eVar i) := ⟨tVar i, h, fun w σ η S d S' hη hS hf Q hQ => by
  unfold eVar at hf
  split at hf
  · rename_i d1 h1
    cases hf
    obtain ⟨v, h2, r⟩ := hη.2 i _ h1
    exact ⟨v, h2, hQ.here hS r⟩
  · cases hf⟩
theorem sv (i : Nat) {x : Str} {pos : Pos} (hN : X.N[i]? = some x := by rfl) (hv : Vis X.env.scope x := by first | exact Or.inl rfl | exact Or.inr (Or.inl rfl) | exact Or.inr (Or.inr rfl)) (hd : (x == ("__debug__" : Str)) = false := by decide)
    (hcd : (x == ("__classdict__" : Str)) = false := by decide) : SE fa X (.Name x pos) (eVar i) := se_var (pe_var hN hv hd hcd)
def eC (d : D) : Ev := fun _ S => some (d, S)
theorem se_c {d : D} {v : V} (h : PE X e (tC v)) (r : ∀ w, Rep (cf fa X) w d v) : SE fa X e (eC d) := ⟨tC v, h, fun w σ η S d' S' hη hS hf Q hQ => by
  cases hf
  exact hQ.here hS (r w)⟩
theorem se_int {i j pos} : SE fa X (.Constant (.int i) j pos) (eC (.int i)) := se_c pe_int fun _ => .int _
theorem se_bl {b j pos} : SE fa X (.Constant (.bool b) j pos) (eC (.bl b)) := se_c pe_bl fun _ => .bl _
theorem se_non {j pos} : SE fa X (.Constant .none j pos) (eC .non) := se_c pe_non fun _ => .non
theorem se_str {x j pos} : SE fa X (.Constant (.str x) j pos) (eC (.str x)) := se_c pe_str fun _ => .str _
/-- a def or a class, as a value -/
theorem se_fn {n : String} {x : Str} {a : Addr} (hg : Gl X x) (hm : X.mg x = some (.ref a)) (hf : fa n = some a) (hd : (x == ("__debug__" : Str)) = false := by decide) : SE fa X (.Name x pos) (eC (.fn n)) := se_c (pe_glob (v := .ref a) hg hm rfl hd) fun _ => .fn hf
/-- a built-in class, as a value -/
theorem se_ty {n : String} {x : Str} (hg : Gl X x) (hm : X.mg x = none) (hv : bootBuiltins x = some (.type n)) (hn : x ≠ "__name__" := by decide) (hd : (x == ("__debug__" : Str)) = false := by decide) : SE fa X (.Name x pos) (eC (.ty n)) :=
  se_c (pe_bltn (v := .ty n) hg hm hv rfl hn hd) fun _ => .ty n
/-- a constant of the module -/
theorem se_kstr {x y : Str} {t : Tok} (hg : Gl X x) (hm : X.mg x = some (.str y t)) (hd : (x == ("__debug__" : Str)) = false := by decide) : SE fa X (.Name x pos) (eC (.str y)) := se_c (pe_glob (v := .str y) hg hm ⟨t, rfl⟩ hd) fun _ => .str y

/-! arguments -/
def aNil : EvA := fun _ S => some ([], S)
def aCons (f : Ev) (g : EvA) : EvA := fun η S => (f η S).bind fun p => (g η p.2).bind fun q => some (p.1 :: q.1, q.2)
theorem sa_nil : SA fa X [] aNil := ⟨tNil, pa_nil, fun w σ η S ds S' hη hS hf Q hQ => by
  cases hf
  exact hQ [] w (Le.refl w) hS .nil⟩
theorem sa_cons {h : EvA} (ha : SE fa X e f) (hr : SA fa X es h) (hs : starEach (e :: es) X.env = (false, eval e X.env) :: starEach es X.env := by rfl) : SA fa X (e :: es) (aCons f h) := by
  obtain ⟨t, p, ha⟩ := ha.ex
  obtain ⟨u, q, hr⟩ := hr.ex
  refine ⟨tCons t u, pa_cons p q hs, fun w σ η S ds S' hη hS hf Q hQ => ?_⟩
  obtain ⟨⟨d, S1⟩, h1, hf⟩ := bsome hf
  obtain ⟨⟨ds', S2⟩, h2, hf⟩ := bsome hf
  cases hf
  exact ha w σ η S d S1 hη hS h1 _ fun v w1 e1 s1 r1 => hr w1 σ η S1 ds' S2 (hη.mono e1.f) s1 h2 _ fun vs w2 e2 s2 r2 => hQ (v :: vs) w2 (e1.trans e2) s2 (.cons (r1.mono e2.f) r2)

/-! displays -/
def eTup (f : EvA) : Ev := fun η S => (f η S).bind fun p => some (.tup p.1, p.2)
def eLst (f : EvA) : Ev := fun η S => (f η S).bind fun p => some (.lst p.1, p.2)
def eTupG (f : EvA) : Ev := fun η S => (f η S).bind fun p => if p.1.length ≤ SZ then some (.tup p.1, p.2) else none
theorem SA.len {h : EvA} (ha : SA fa X es h) : True := trivial
theorem se_tup {h : EvA} {k : Nat} (ha : SA fa X es h) (hl : ∀ η S ds S', h η S = some (ds, S') → ds.length ≤ SZ) : SE fa X (.Tuple es k pos) (eTup h) := by
  obtain ⟨t, p, ha⟩ := ha.ex
  refine ⟨tTup t, pe_tup p, fun w σ η S d S' hη hS hf Q hQ => ?_⟩
  obtain ⟨⟨ds, S1⟩, h1, hf⟩ := bsome hf
  cases hf
  exact ha w σ η S ds S1 hη hS h1 _ fun vs w1 e1 s1 r1 => ⟨by rw [← r1.length]; exact sz (hl _ _ _ _ h1), fun p hp => (PmOk.mono e1 hQ : Post _ _ _ _ _).newTup s1 r1 hp⟩
theorem se_lst [PmList M] {h : EvA} (ha : SA fa X es h) (hl : ∀ η S ds S', h η S = some (ds, S') → ds.length ≤ SZ) : SEm fa M X (.List es pos) (eLst h) := by
  obtain ⟨t, p, ha⟩ := ha.ex
  refine ⟨tLst t, pe_lst p, fun w σ η S d S' hη hS hf Q hQ => ?_⟩
  obtain ⟨⟨ds, S1⟩, h1, hf⟩ := bsome hf
  cases hf
  exact ha w σ η S ds S1 hη hS h1 _ fun vs w1 e1 s1 r1 => ⟨by rw [← r1.length]; exact sz (hl _ _ _ _ h1), fun p hp => PmList.newLst (PmOk.mono e1 hQ) s1 r1 hp⟩
theorem al_nil {n : Nat} : ∀ η S ds S', aNil η S = some (ds, S') → ds.length ≤ n := fun η S ds S' h => by cases h; exact Nat.zero_le _
theorem al_cons {n : Nat} {f : Ev} {g : EvA} (h : ∀ η S ds S', g η S = some (ds, S') → ds.length ≤ n) : ∀ η S ds S', aCons f g η S = some (ds, S') → ds.length ≤ n + 1 := fun η S ds S' hf => by
  obtain ⟨⟨d, S1⟩, h1, hf⟩ := bsome hf
  obtain ⟨⟨ds', S2⟩, h2, hf⟩ := bsome hf
  cases hf
  exact Nat.succ_le_succ (h _ _ _ _ h2)
theorem al_sz {n : Nat} {g : EvA} (hn : n ≤ SZ) (h : ∀ η S ds S', g η S = some (ds, S') → ds.length ≤ n) : ∀ η S ds S', g η S = some (ds, S') → ds.length ≤ SZ := fun η S ds S' hf => Nat.le_trans (h _ _ _ _ hf) hn

/-! operators by data -/
abbrev RD := D → D → Sto → Option (D × Sto)
def OpSem (M : PM) (C : Cf) (r : R2) (rD : RD) : Prop := ∀ w S a b x y d S', Sim C w S → Rep C w a x → Rep C w b y → rD a b S = some (d, S') → ∀ Q : VK, M C w d S' Q → r x y w.H Q
def eBin (rD : RD) (f g : Ev) : Ev := fun η S => (f η S).bind fun p => (g η p.2).bind fun q => rD p.1 q.1 q.2
theorem op_core [PmOk M] {r : R2} {rD : RD} {ta tb : TE} (sem : OpSem M (cf fa X) r rD)
    (ha : ∀ w σ η S d S', RepE (cf fa X) w η σ → Sim (cf fa X) w S → f η S = some (d, S') → ∀ Q : VK, Post (cf fa X) w d S' Q → ta σ w.H Q)
    (hb : ∀ w σ η S d S', RepE (cf fa X) w η σ → Sim (cf fa X) w S → g η S = some (d, S') → ∀ Q : VK, Post (cf fa X) w d S' Q → tb σ w.H Q) :
    ∀ w σ η S d S', RepE (cf fa X) w η σ → Sim (cf fa X) w S → eBin rD f g η S = some (d, S') → ∀ Q : VK, M (cf fa X) w d S' Q → tOp r ta tb σ w.H Q := by
  intro w σ η S d S' hη hS hf Q hQ
  obtain ⟨⟨d1, S1⟩, h1, hf⟩ := bsome hf
  obtain ⟨⟨d2, S2⟩, h2, hf⟩ := bsome hf
  exact ha w σ η S d1 S1 hη hS h1 _ fun x w1 e1 s1 r1 => hb w1 σ η S1 d2 S2 (hη.mono e1.f) s1 h2 _ fun y w2 e2 s2 r2 => sem w2 S2 d1 d2 x y d S' s2 (r1.mono e2.f) r2 hf Q (PmOk.mono (e1.trans e2) hQ)
theorem se_op [PmOk M] {op : Operator} {r : R2} {rD : RD} (ho : OpR X (binaryOp op) r) (sem : OpSem M (cf fa X) r rD) (ha : SE fa X a f) (hb : SE fa X b g) : SEm fa M X (.BinOp a op b pos) (eBin rD f g) := by
  obtain ⟨ta, pa, ha⟩ := ha.ex
  obtain ⟨tb, pb, hb⟩ := hb.ex
  exact ⟨tOp r ta tb, pe_op ho pa pb, op_core sem ha hb⟩
theorem se_cmp {op : CmpOp} {r : R2} {rD : RD} (ho : OpR X (compareOp op) r) (sem : OpSem Post (cf fa X) r rD) (ha : SE fa X a f) (hb : SE fa X b g) (hm : behindInMarks op b = false) : SE fa X (.Compare a [op] [b] pos) (eBin rD f g) := by
  obtain ⟨ta, pa, ha⟩ := ha.ex
  obtain ⟨tb, pb, hb⟩ := hb.ex
  exact ⟨tOp r ta tb, pe_cmpR ho pa pb hm, op_core sem ha hb⟩
/-- a value that is a bool, as a test -/
def tB (f : Ev) : EvB := fun η S => (f η S).bind fun p => match p.1 with
  | .bl b => some (b, p.2)
  | _ => none
theorem st_cmp {op : CmpOp} {r : R2} {rD : RD} (ho : OpR X (compareOp op) r) (sem : OpSem Post (cf fa X) r rD) (ha : SE fa X a f) (hb : SE fa X b g) (hm : behindInMarks op b = false) : ST fa X (.Compare a [op] [b] pos) (tB (eBin rD f g)) := by
  obtain ⟨ta, pa, ha⟩ := ha.ex
  obtain ⟨tb, pb, hb⟩ := hb.ex
  refine ⟨tTest (tOp r ta tb), pt_cmpR ho pa pb hm, fun w σ η S d S' hη hS hf Q hQ => ?_⟩
  obtain ⟨⟨d1, S1⟩, h1, hf⟩ := bsome hf
  cases d1 with
  | bl k =>
    cases hf
    exact op_core sem ha hb w σ η S _ _ hη hS h1 _ fun v w' e s r => by
      cases r
      exact ⟨_, rfl, hQ w' e s⟩
  | _ => cases hf
theorem st_val (h : SE fa X e f) (he : ∀ whole, isTrue e X.env whole = (do let v ← whole; standAt e.pos; holding [v] (truthy v)) := by intro _; rfl) : ST fa X e (tB f) := by
  obtain ⟨t, p, h⟩ := h.ex
  refine ⟨L2.tB t, pt_val p he, fun w σ η S d S' hη hS hf Q hQ => ?_⟩
  obtain ⟨⟨d1, S1⟩, h1, hf⟩ := bsome hf
  cases d1 with
  | bl k =>
    cases hf
    exact h w σ η S _ _ hη hS h1 _ fun v w' e s r => by
      cases r
      exact ⟨_, rfl, hQ w' e s⟩
  | _ => cases hf
/-! and, or, not as tests -/
variable {tf tg : EvB} {rest : List Expr}
def tAndE (f g : EvB) : EvB := fun η S => (f η S).bind fun p => if p.1 then g η p.2 else some (false, p.2)
def tOrE (f g : EvB) : EvB := fun η S => (f η S).bind fun p => if p.1 then some (true, p.2) else g η p.2
def tNotE (f : EvB) : EvB := fun η S => (f η S).bind fun p => some (!p.1, p.2)
theorem STw.st (h : STw fa X e tf) : ST fa X e tf := let ⟨t, p, h⟩ := h.ex; ⟨t, p.pt, h⟩
theorem sw_and1 (ha : ST fa X a tf) : STw fa X (.BoolOp .And [a] pos) tf := let ⟨t, p, h⟩ := ha.ex; ⟨t, pw_and1 p, h⟩
theorem sw_or1 (ha : ST fa X a tf) : STw fa X (.BoolOp .Or [a] pos) tf := let ⟨t, p, h⟩ := ha.ex; ⟨t, pw_or1 p, h⟩
theorem sw_and (ha : ST fa X a tf) (hb : STw fa X (.BoolOp .And (b :: rest) pos) tg) : STw fa X (.BoolOp .And (a :: b :: rest) pos) (tAndE tf tg) := by
  obtain ⟨t, p, ha⟩ := ha.ex
  obtain ⟨u, q, hb⟩ := hb.ex
  refine ⟨tAnd t u, pw_and p q, fun w σ η S d S' hη hS hf Q hQ => ?_⟩
  obtain ⟨⟨k, S1⟩, h1, hf⟩ := bsome hf
  refine ha w σ η S k S1 hη hS h1 _ fun w1 e1 s1 => ?_
  cases k with
  | true => exact hb w1 σ η S1 d S' (hη.mono e1.f) s1 (by simpa using hf) Q fun w2 e2 s2 => hQ w2 (e1.trans e2) s2
  | false =>
    simp only [Bool.false_eq_true, if_false] at hf ⊢
    cases hf
    exact hQ w1 e1 s1
theorem sw_or (ha : ST fa X a tf) (hb : STw fa X (.BoolOp .Or (b :: rest) pos) tg) : STw fa X (.BoolOp .Or (a :: b :: rest) pos) (tOrE tf tg) := by
  obtain ⟨t, p, ha⟩ := ha.ex
  obtain ⟨u, q, hb⟩ := hb.ex
  refine ⟨tOr t u, pw_or p q, fun w σ η S d S' hη hS hf Q hQ => ?_⟩
  obtain ⟨⟨k, S1⟩, h1, hf⟩ := bsome hf
  refine ha w σ η S k S1 hη hS h1 _ fun w1 e1 s1 => ?_
  cases k with
  | false => exact hb w1 σ η S1 d S' (hη.mono e1.f) s1 (by simpa using hf) Q fun w2 e2 s2 => hQ w2 (e1.trans e2) s2
  | true =>
    simp only [if_true] at hf ⊢
    cases hf
    exact hQ w1 e1 s1
theorem st_not (ha : ST fa X a tf) : ST fa X (.UnaryOp .Not a pos) (tNotE tf) := by
  obtain ⟨t, p, ha⟩ := ha.ex
  refine ⟨tNot t, pt_not p, fun w σ η S d S' hη hS hf Q hQ => ?_⟩
  obtain ⟨⟨k, S1⟩, h1, hf⟩ := bsome hf
  cases hf
  exact ha w σ η S k S1 hη hS h1 _ fun w1 e1 s1 => hQ w1 e1 s1
/-! and, or, not of bools as values -/
def eAnd (f g : Ev) : Ev := fun η S => (f η S).bind fun p => match p.1 with
  | .bl true => g η p.2
  | .bl false => some (.bl false, p.2)
  | _ => none
def eOr (f g : Ev) : Ev := fun η S => (f η S).bind fun p => match p.1 with
  | .bl false => g η p.2
  | .bl true => some (.bl true, p.2)
  | _ => none
def eNot (f : Ev) : Ev := fun η S => (f η S).bind fun p => match p.1 with
  | .bl b => some (.bl (!b), p.2)
  | _ => none
theorem se_one {op} (h : SE fa X a f) : SE fa X (.BoolOp op [a] pos) f := let ⟨t, p, h⟩ := h.ex; ⟨t, pe_one p, h⟩
theorem se_and (ha : SE fa X a f) (hb : SE fa X (.BoolOp .And (b :: rest) pos) g) : SE fa X (.BoolOp .And (a :: b :: rest) pos) (eAnd f g) := by
  obtain ⟨t, p, ha⟩ := ha.ex
  obtain ⟨u, q, hb⟩ := hb.ex
  refine ⟨tAndV t u, pe_and p q, fun w σ η S d S' hη hS hf Q hQ => ?_⟩
  obtain ⟨⟨k, S1⟩, h1, hf⟩ := bsome hf
  refine ha w σ η S k S1 hη hS h1 _ fun v w1 e1 s1 r1 => ?_
  cases k with
  | bl k =>
    cases r1
    cases k with
    | true => exact ⟨_, rfl, by rw [if_pos rfl]; exact hb w1 σ η S1 d S' (hη.mono e1.f) s1 hf Q (PmOk.mono e1 hQ)⟩
    | false =>
      cases hf
      exact ⟨_, rfl, by rw [if_neg (by decide)]; exact hQ _ w1 e1 s1 (.bl false)⟩
  | _ => cases hf
theorem se_or (ha : SE fa X a f) (hb : SE fa X (.BoolOp .Or (b :: rest) pos) g) : SE fa X (.BoolOp .Or (a :: b :: rest) pos) (eOr f g) := by
  obtain ⟨t, p, ha⟩ := ha.ex
  obtain ⟨u, q, hb⟩ := hb.ex
  refine ⟨tOrV t u, pe_or p q, fun w σ η S d S' hη hS hf Q hQ => ?_⟩
  obtain ⟨⟨k, S1⟩, h1, hf⟩ := bsome hf
  refine ha w σ η S k S1 hη hS h1 _ fun v w1 e1 s1 r1 => ?_
  cases k with
  | bl k =>
    cases r1
    cases k with
    | false => exact ⟨_, rfl, by rw [if_neg (by decide)]; exact hb w1 σ η S1 d S' (hη.mono e1.f) s1 hf Q (PmOk.mono e1 hQ)⟩
    | true =>
      cases hf
      exact ⟨_, rfl, by rw [if_pos rfl]; exact hQ _ w1 e1 s1 (.bl true)⟩
  | _ => cases hf
theorem se_not (ha : SE fa X a f) : SE fa X (.UnaryOp .Not a pos) (eNot f) := by
  obtain ⟨t, p, ha⟩ := ha.ex
  refine ⟨tNotV t, pe_not p, fun w σ η S d S' hη hS hf Q hQ => ?_⟩
  obtain ⟨⟨k, S1⟩, h1, hf⟩ := bsome hf
  refine ha w σ η S k S1 hη hS h1 _ fun v w1 e1 s1 r1 => ?_
  cases k with
  | bl k =>
    cases r1
    cases hf
    exact ⟨_, rfl, hQ _ w1 e1 s1 (.bl _)⟩
  | _ => cases hf
def eIf (c : EvB) (f g : Ev) : Ev := fun η S => (c η S).bind fun p => if p.1 then f η p.2 else g η p.2
theorem se_if [PmOk M] {c : Expr} (hc : ST fa X c tf) (ha : SEm fa M X a f) (hb : SEm fa M X b g) : SEm fa M X (.IfExp c a b pos) (eIf tf f g) := by
  obtain ⟨t, p, hc⟩ := hc.ex
  obtain ⟨ta, pa, ha⟩ := ha.ex
  obtain ⟨tb, pb, hb⟩ := hb.ex
  refine ⟨tIf t ta tb, pe_ifExp p pa pb, fun w σ η S d S' hη hS hf Q hQ => ?_⟩
  obtain ⟨⟨k, S1⟩, h1, hf⟩ := bsome hf
  refine hc w σ η S k S1 hη hS h1 _ fun w1 e1 s1 => ?_
  cases k with
  | true => exact ha w1 σ η S1 d S' (hη.mono e1.f) s1 (by simpa using hf) Q (PmOk.mono e1 hQ)
  | false => exact hb w1 σ η S1 d S' (hη.mono e1.f) s1 (by simpa using hf) Q (PmOk.mono e1 hQ)
end

theorem OpR.or {X : Cx} {f : Value → Value → Sem Value} {r r' : R2} (h : OpR X f r) (h' : OpR X f r') : OpR X f (fun x y H Q => r x y H Q ∨ r' x y H Q) := by
  intro pins s σ H x y v u Q I rx ry q
  rcases q with q | q
  · exact h pins s σ H x y v u Q I rx ry q
  · exact h' pins s σ H x y v u Q I rx ry q
end HS
set_option Elab.async false
set_option linter.all false
set_option maxRecDepth 100000
set_option autoImplicit false
/-! Operators: ints, texts, tuples, lists; equality and membership of data. -/
namespace HS
open PySem L2

/-! what a datum is, read through the store -/
def lstOf (S : Sto) : D → Option (List D)
  | .lst xs => some xs
  | .ref i => match S[i]? with
    | some (.lst xs) => some xs
    | _ => none
  | _ => none
def seqOf (S : Sto) : D → Option (List D)
  | .tup xs => some xs
  | .scr xs => some xs
  | d => lstOf S d
section
variable {C : Cf} {w : Wd} {S : Sto} {d : D} {v : V} {xs : List D}
theorem Rep.lstH (s : Sim C w S) (r : Rep C w d v) (h : lstOf S d = some xs) : ∃ p vs, v = .ref p ∧ w.H p = some (.lst vs) ∧ RepL C w xs vs := by
  cases d with
  | lst ys =>
    cases h
    cases r with
    | lst e hp r => exact ⟨_, _, rfl, e, r⟩
  | ref i =>
    cases r with
    | ref hi =>
      simp only [lstOf] at h
      split at h
      · rename_i ys hy
        cases h
        obtain ⟨vs, e, r⟩ := s.obj i _ _ hi hy
        exact ⟨_, vs, rfl, e, r⟩
      · cases h
  | _ => cases h
/-- a list or a tuple, however it stands -/
theorem Rep.seqH (s : Sim C w S) (r : Rep C w d v) (h : seqOf S d = some xs) : ∃ p vs, v = .ref p ∧ (SqL C.K w.H p vs ∨ SqT C.K w.H p vs) ∧ RepL C w xs vs := by
  cases d with
  | tup ys =>
    cases h
    cases r with
    | tup e hp r => exact ⟨_, _, rfl, .inr (.inl (.inl e)), r⟩
    | tupK e r => exact ⟨_, _, rfl, .inr (.inr e), r⟩
  | scr ys =>
    cases h
    cases r with
    | frz e hp r => exact ⟨_, _, rfl, .inl (.inl (.inr ⟨_, e⟩)), r⟩
    | scrK e r => exact ⟨_, _, rfl, .inl (.inr e), r⟩
  | lst ys =>
    obtain ⟨p, vs, e, h1, r⟩ := r.lstH s h
    exact ⟨p, vs, e, .inl (.inl (.inl h1)), r⟩
  | ref i =>
    obtain ⟨p, vs, e, h1, r⟩ := r.lstH s h
    exact ⟨p, vs, e, .inl (.inl (.inl h1)), r⟩
  | _ => cases h
theorem Rep.tupH (r : Rep C w (.tup xs) v) : ∃ p vs, v = .ref p ∧ SqT C.K w.H p vs ∧ RepL C w xs vs := by
  cases r with
  | tup e hp r => exact ⟨_, _, rfl, .inl (.inl e), r⟩
  | tupK e r => exact ⟨_, _, rfl, .inr e, r⟩
end

/-! ints -/
def oI (g : Int → Int → Option D) : RD := fun a b S => match a, b with
  | .int i, .int j => (g i j).bind fun d => some (d, S)
  | _, _ => none
section
variable {C : Cf} {S S' : Sto} {d : D}
theorem oI_some {g : Int → Int → Option D} {a b : D} (h : oI g a b S = some (d, S')) : ∃ i j, a = .int i ∧ b = .int j ∧ g i j = some d ∧ S = S' := by
  unfold oI at h
  split at h
  · obtain ⟨x, h1, h2⟩ := bsome h
    cases h2
    exact ⟨_, _, rfl, rfl, h1, rfl⟩
  · cases h
theorem sem_I0 {g : Int → Int → V} {gd : Int → Int → D} (h : ∀ w i j, Rep C w (gd i j) (g i j)) : OpSem Post C (rI0 g) (oI fun i j => some (gd i j)) := by
  intro w S a b x y d S' hS ra rb hf Q hQ
  obtain ⟨i, j, rfl, rfl, h1, rfl⟩ := oI_some hf
  cases ra; cases rb; cases h1
  exact ⟨i, j, rfl, rfl, hQ.here hS (h w i j)⟩
theorem sem_I {Cn : Int → Int → Prop} {g : Int → Int → V} {gd : Int → Int → Option D} (h : ∀ w i j d, gd i j = some d → Cn i j ∧ Rep C w d (g i j)) : OpSem Post C (rI Cn g) (oI gd) := by
  intro w S a b x y d S' hS ra rb hf Q hQ
  obtain ⟨i, j, rfl, rfl, h1, rfl⟩ := oI_some hf
  cases ra; cases rb
  obtain ⟨c, r⟩ := h w i j d h1
  exact ⟨i, j, rfl, rfl, c, hQ.here hS r⟩
end
def smallI (i : Int) : Bool := decide (-(2 ^ 64) < i) && decide (i < 2 ^ 64)
def mulI (i j : Int) : Option D := if smallI i || smallI j || decide (i.natAbs.log2 + j.natAbs.log2 < 1000000) then some (.int (i * j)) else none
def modI (i j : Int) : Option D := if 0 < j then some (.int (i % j)) else none
def fdivI (i j : Int) : Option D := if 0 < j ∧ (j < 1073741824 ∨ j.natAbs.log2 < 9000) then some (.int (i / j)) else none
def powI (i j : Int) : Option D := if 0 ≤ j ∧ j ≤ 1000000 ∧ i.natAbs < 2 ^ 64 then some (.int (i ^ j.toNat)) else none
def shlI (i j : Int) : Option D := if 0 ≤ j ∧ (Builtin.Int.intBits i : Int) + j ≤ 2 ^ 27 then some (.int (i * 2 ^ j.toNat)) else none
def shrI (i j : Int) : Option D := if 0 ≤ j then some (.int (i / 2 ^ j.toNat)) else none

section
variable {fa : String → Option Addr} {X : Cx} {M : PM} {a b e : Expr} {es : List Expr} {pos : Pos} {f g : Ev}
def oSub : RD := oI fun i j => some (.int (i - j))
def oMod : RD := oI modI
def oFdiv : RD := oI fdivI
def oPow : RD := oI powI
def oShl : RD := oI shlI
def oShr : RD := oI shrI
def oBand : RD := oI fun i j => some (.int (Builtin.bitAnd i j))
def oBor : RD := oI fun i j => some (.int (Builtin.bitOr i j))
def oBxor : RD := oI fun i j => some (.int (Builtin.bitXor i j))
def oLt : RD := oI fun i j => some (.bl (decide (i < j)))
def oLe : RD := oI fun i j => some (.bl (decide (i ≤ j)))
def oGt : RD := oI fun i j => some (.bl (decide (j < i)))
def oGe : RD := oI fun i j => some (.bl (decide (j ≤ i)))
theorem se_sub (ha : SE fa X a f) (hb : SE fa X b g) : SE fa X (.BinOp a .Sub b pos) (eBin oSub f g) := se_op op_sub (sem_I0 fun _ _ _ => .int _) ha hb
theorem se_mod (ha : SE fa X a f) (hb : SE fa X b g) : SE fa X (.BinOp a .Mod b pos) (eBin oMod f g) := se_op op_mod (sem_I fun w i j d h => by
  unfold modI at h
  split at h
  · cases h; exact ⟨by assumption, .int _⟩
  · cases h) ha hb
theorem se_fdiv (ha : SE fa X a f) (hb : SE fa X b g) : SE fa X (.BinOp a .FloorDiv b pos) (eBin oFdiv f g) := by
  refine se_op (OpR.or op_fdiv op_fdivW) (fun w S a b x y d S' hS ra rb hf Q hQ => ?_) ha hb
  obtain ⟨i, j, rfl, rfl, h1, rfl⟩ := oI_some hf
  cases ra; cases rb
  unfold fdivI at h1
  split at h1
  · rename_i h2
    cases h1
    rcases h2.2 with h3 | h3
    · exact .inl ⟨i, j, rfl, rfl, ⟨h2.1, h3⟩, hQ.here hS (.int _)⟩
    · exact .inr ⟨i, j, rfl, rfl, ⟨h2.1, h3⟩, hQ.here hS (.int _)⟩
  · cases h1
theorem se_pow (ha : SE fa X a f) (hb : SE fa X b g) : SE fa X (.BinOp a .Pow b pos) (eBin oPow f g) := se_op op_pow (sem_I fun w i j d h => by
  unfold powI at h
  split at h
  · cases h; exact ⟨by assumption, .int _⟩
  · cases h) ha hb
theorem se_shl (ha : SE fa X a f) (hb : SE fa X b g) : SE fa X (.BinOp a .LShift b pos) (eBin oShl f g) := se_op op_shlW (sem_I fun w i j d h => by
  unfold shlI at h
  split at h
  · cases h; exact ⟨by assumption, .int _⟩
  · cases h) ha hb
theorem se_shr (ha : SE fa X a f) (hb : SE fa X b g) : SE fa X (.BinOp a .RShift b pos) (eBin oShr f g) := se_op op_shr (sem_I fun w i j d h => by
  unfold shrI at h
  split at h
  · cases h; exact ⟨by assumption, .int _⟩
  · cases h) ha hb
theorem se_band (ha : SE fa X a f) (hb : SE fa X b g) : SE fa X (.BinOp a .BitAnd b pos) (eBin oBand f g) := se_op op_and (sem_I0 fun _ _ _ => .int _) ha hb
theorem se_bor (ha : SE fa X a f) (hb : SE fa X b g) : SE fa X (.BinOp a .BitOr b pos) (eBin oBor f g) := se_op op_or (sem_I0 fun _ _ _ => .int _) ha hb
theorem se_bxor (ha : SE fa X a f) (hb : SE fa X b g) : SE fa X (.BinOp a .BitXor b pos) (eBin oBxor f g) := se_op op_xor (sem_I0 fun _ _ _ => .int _) ha hb
theorem se_lt (ha : SE fa X a f) (hb : SE fa X b g) : SE fa X (.Compare a [.Lt] [b] pos) (eBin oLt f g) := se_cmp op_lt (sem_I0 fun _ _ _ => .bl _) ha hb (nomark _)
theorem se_le (ha : SE fa X a f) (hb : SE fa X b g) : SE fa X (.Compare a [.LtE] [b] pos) (eBin oLe f g) := se_cmp op_le (sem_I0 fun _ _ _ => .bl _) ha hb (nomark _)
theorem se_gt (ha : SE fa X a f) (hb : SE fa X b g) : SE fa X (.Compare a [.Gt] [b] pos) (eBin oGt f g) := se_cmp op_gt (sem_I0 fun _ _ _ => .bl _) ha hb (nomark _)
theorem se_ge (ha : SE fa X a f) (hb : SE fa X b g) : SE fa X (.Compare a [.GtE] [b] pos) (eBin oGe f g) := se_cmp op_ge (sem_I0 fun _ _ _ => .bl _) ha hb (nomark _)
theorem st_lt (ha : SE fa X a f) (hb : SE fa X b g) : ST fa X (.Compare a [.Lt] [b] pos) (tB (eBin oLt f g)) := st_cmp op_lt (sem_I0 fun _ _ _ => .bl _) ha hb (nomark _)
theorem st_le (ha : SE fa X a f) (hb : SE fa X b g) : ST fa X (.Compare a [.LtE] [b] pos) (tB (eBin oLe f g)) := st_cmp op_le (sem_I0 fun _ _ _ => .bl _) ha hb (nomark _)
theorem st_gt (ha : SE fa X a f) (hb : SE fa X b g) : ST fa X (.Compare a [.Gt] [b] pos) (tB (eBin oGt f g)) := st_cmp op_gt (sem_I0 fun _ _ _ => .bl _) ha hb (nomark _)
theorem st_ge (ha : SE fa X a f) (hb : SE fa X b g) : ST fa X (.Compare a [.GtE] [b] pos) (tB (eBin oGe f g)) := st_cmp op_ge (sem_I0 fun _ _ _ => .bl _) ha hb (nomark _)

/-! - and ~ -/
def eUn (g : Int → Int) (f : Ev) : Ev := fun η S => (f η S).bind fun p => match p.1 with
  | .int i => some (.int (g i), p.2)
  | _ => none
theorem se_un {op : UnaryOp} {h : Int → Int} (ho : UnR X (unaryOp op) (rU fun i => .int (h i))) (ha : SE fa X a f) : SE fa X (.UnaryOp op a pos) (eUn h f) := by
  obtain ⟨t, p, ha⟩ := ha.ex
  refine ⟨tUn _ t, pe_un ho p, fun w σ η S d S' hη hS hf Q hQ => ?_⟩
  obtain ⟨⟨k, S1⟩, h1, hf⟩ := bsome hf
  refine ha w σ η S k S1 hη hS h1 _ fun v w1 e1 s1 r1 => ?_
  cases k with
  | int i =>
    cases r1
    cases hf
    exact ⟨i, rfl, hQ _ w1 e1 s1 (.int _)⟩
  | _ => cases hf
theorem se_neg (ha : SE fa X a f) : SE fa X (.UnaryOp .USub a pos) (eUn (fun i => -i) f) := se_un un_neg ha
theorem se_inv (ha : SE fa X a f) : SE fa X (.UnaryOp .Invert a pos) (eUn Builtin.bitNot f) := se_un un_inv ha

/-! a + b: ints, texts, tuples; lists -/
def catL (S : Sto) (a b : D) : Option (List D) := (lstOf S a).bind fun xs => (lstOf S b).bind fun ys => if xs.length + ys.length ≤ SZ then some (xs ++ ys) else none
def oCat : RD := fun a b S => (catL S a b).bind fun zs => some (.lst zs, S)
def oAdd : RD := fun a b S => match a, b with
  | .int i, .int j => some (.int (i + j), S)
  | .str x, .str y => if x.length + y.length ≤ SZ then some (.str (x ++ y), S) else none
  | .tup xs, .tup ys => if xs.length + ys.length ≤ SZ then some (.tup (xs ++ ys), S) else none
  | _, _ => oCat a b S
theorem sem_cat [PmList M] {C : Cf} : OpSem M C rCat oCat := by
  intro w S a b x y d S' hS ra rb hf Q hQ
  obtain ⟨zs, h0, h2⟩ := bsome hf
  cases h2
  obtain ⟨xs, h1, h5⟩ := bsome h0
  obtain ⟨ys, h2, h3⟩ := bsome h5
  split at h3
  · rename_i hz
    cases h3
    obtain ⟨p, vs, rfl, e1, r1⟩ := ra.lstH hS h1
    obtain ⟨q, us, rfl, e2, r2⟩ := rb.lstH hS h2
    exact ⟨p, q, vs, us, rfl, rfl, e1, e2, by rw [← r1.length, ← r2.length]; exact sz hz, fun l hl => PmList.newLst hQ hS (r1.append r2) hl⟩
  · cases h3
theorem se_cat [PmList M] (ha : SE fa X a f) (hb : SE fa X b g) : SEm fa M X (.BinOp a .Add b pos) (eBin oCat f g) := se_op op_cat sem_cat ha hb
theorem se_add (ha : SE fa X a f) (hb : SE fa X b g) : SE fa X (.BinOp a .Add b pos) (eBin oAdd f g) := by
  refine se_op (OpR.or op_add (OpR.or op_add_str (OpR.or op_catA op_cat))) (fun w S a b x y d S' hS ra rb hf Q hQ => ?_) ha hb
  unfold oAdd at hf
  split at hf
  · cases hf; cases ra; cases rb
    exact .inl ⟨_, _, rfl, rfl, hQ.here hS (.int _)⟩
  · split at hf
    · rename_i hz
      cases hf; cases ra; cases rb
      exact .inr (.inl ⟨_, _, rfl, rfl, sz hz, hQ.here hS (.str _)⟩)
    · cases hf
  · split at hf
    · rename_i hz
      cases hf
      obtain ⟨p, vs, rfl, e1, r1⟩ := ra.tupH
      obtain ⟨q, us, rfl, e2, r2⟩ := rb.tupH
      refine .inr (.inr (.inl ⟨p, q, vs, us, rfl, rfl, e1, e2, by rw [← r1.length, ← r2.length]; exact sz hz, fun hv => ?_, fun hv hu => ?_, fun hv hu l hl => Post.newTup hQ hS (r1.append r2) hl⟩))
      · subst hv
        cases r1
        exact hQ.here hS rb
      · subst hu
        cases r2
        rw [List.append_nil] at hQ
        exact hQ.here hS ra
    · cases hf
  · exact .inr (.inr (.inr (sem_cat (M := Post) w S a b x y d S' hS ra rb hf Q hQ)))

/-! a * b: ints; text * int, tuple * int, list * int -/
def repS (x : Str) (n : Nat) : Str := ⟨(List.replicate n x.cps.toList).flatten.toArray⟩
theorem foldl_app (xs : Array Nat) : ∀ (m : Nat) (acc : List Nat), (List.replicate m xs).foldl (· ++ ·) acc.toArray = (acc ++ (List.replicate m xs.toList).flatten).toArray
  | 0, acc => by simp
  | m + 1, acc => by
    rw [List.replicate_succ, List.foldl_cons, List.replicate_succ, List.flatten_cons]
    have e : acc.toArray ++ xs = (acc ++ xs.toList).toArray := by simp
    rw [e, foldl_app xs m]
    simp
theorem op_mulS : OpR X (binaryOp .Mult) (fun x y H Q => ∃ (z : Str) (n : Int), x = .str z ∧ y = .int n ∧ 1 ≤ z.length ∧ z.length ≤ 1000 ∧ 2 ≤ n ∧ n ≤ 1000 ∧ Q (.str (repS z n.toNat)) H) := by
  intro pins s σ H x y v u Q I rx ry h
  obtain ⟨z, n, rfl, rfl, h0, h1, h2, h3, q⟩ := h
  obtain ⟨t, rfl⟩ := rx
  obtain ⟨t', rfl⟩ := ry
  have hd : (2 : Int) ^ 63 - 1 = 9223372036854775807 := by decide
  have hp : (2 : Int) ^ 63 = 9223372036854775808 := by decide
  have hl : z.length * n.toNat ≤ 1000 * 1000 := Nat.mul_le_mul h1 (by omega)
  have hnb : (n == 1 || z.length == 0) = false := by
    rw [Bool.or_eq_false_iff]
    exact ⟨beq_eq_false_iff_ne.mpr (by omega), beq_eq_false_iff_ne.mpr (by omega)⟩
  have htl : Builtin.Str.tooLong (z.length * n.toNat) = false := by
    have h6 : z.length * n.toNat ≤ sizeLine := Nat.le_trans hl (by decide)
    unfold Builtin.Str.tooLong
    rw [decide_eq_false_iff_not]
    omega
  refine P.mul_str ?_ (fun _ _ => ?_) (fun _ _ => htl) ?_
  · rw [Bool.or_eq_false_iff]
    exact ⟨decide_eq_false (by omega), decide_eq_false (by omega)⟩
  · rw [hd]
    have h5 : (1000 : Int) ≤ 9223372036854775807 / n := by
      rw [Int.le_ediv_iff_mul_le (by omega)]
      omega
    omega
  · rw [if_neg (by omega), if_neg (by rw [hnb]; decide)]
    have e : (⟨(List.replicate n.toNat z.cps).foldl (· ++ ·) #[]⟩ : Str) = repS z n.toNat := by
      unfold repS
      have := foldl_app z.cps n.toNat []
      rw [List.nil_append] at this
      exact congrArg Str.mk this
    rw [e]
    refine ⟨?_, .str (repS z n.toNat), H, I.tok _, ⟨_, rfl⟩, q⟩
    have : (repS z n.toNat).length = z.length * n.toNat := by
      unfold repS
      show ((List.replicate n.toNat z.cps.toList).flatten.toArray).size = _
      simp [List.length_flatten]
      exact Nat.mul_comm _ _
    rw [this]
    exact Nat.le_trans hl (by decide)
end
end HS
set_option Elab.async false
set_option linter.all false
set_option maxRecDepth 100000
set_option autoImplicit false
/-! Products, equality and membership, calls of built-ins, methods, subscripts, slices. -/
namespace HS
open PySem L2
section
variable {fa : String → Option Addr} {X : Cx} {M : PM} {a b e : Expr} {es : List Expr} {pos : Pos} {f g : Ev}
def oRep : RD := fun a b S => match b with
  | .int k => (lstOf S a).bind fun xs => if -(2 ^ 63) ≤ k ∧ k < 2 ^ 63 ∧ xs.length * k.toNat ≤ SZ then some (.lst (List.replicate k.toNat xs).flatten, S) else none
  | _ => none
def oMul : RD := fun a b S => match a, b with
  | .int i, .int j => (mulI i j).bind fun d => some (d, S)
  | .str x, .int n => if 1 ≤ x.length ∧ x.length ≤ 1000 ∧ 2 ≤ n ∧ n ≤ 1000 then some (.str (repS x n.toNat), S) else none
  | .tup xs, .int n => if xs ≠ [] ∧ 2 ≤ n ∧ n ≤ 1000 ∧ xs.length ≤ 1000 then some (.tup (List.replicate n.toNat xs).flatten, S) else none
  | _, _ => oRep a b S
theorem RepL.rep {C : Cf} {w : Wd} {ds : List D} {vs : List V} (r : RepL C w ds vs) : ∀ n : Nat, RepL C w (List.replicate n ds).flatten (List.replicate n vs).flatten
  | 0 => .nil
  | n + 1 => by
    rw [List.replicate_succ, List.replicate_succ, List.flatten_cons, List.flatten_cons]
    exact r.append (RepL.rep r n)
theorem sem_rep [PmList M] {C : Cf} : OpSem M C rRep oRep := by
  intro w S a b x y d S' hS ra rb hf Q hQ
  unfold oRep at hf
  split at hf
  · obtain ⟨xs, h1, h2⟩ := bsome hf
    split at h2
    · rename_i h3
      cases h2
      obtain ⟨p, vs, rfl, e1, r1⟩ := ra.lstH hS h1
      cases rb
      exact ⟨p, _, vs, rfl, rfl, e1, h3.1, h3.2.1, by rw [← r1.length]; exact sz h3.2.2, fun l hl => PmList.newLst hQ hS (r1.rep _) hl⟩
    · cases h2
  · cases hf
theorem se_rep [PmList M] (ha : SE fa X a f) (hb : SE fa X b g) : SEm fa M X (.BinOp a .Mult b pos) (eBin oRep f g) := se_op op_rep sem_rep ha hb
theorem se_mul (ha : SE fa X a f) (hb : SE fa X b g) : SE fa X (.BinOp a .Mult b pos) (eBin oMul f g) := by
  refine se_op (OpR.or (OpR.or op_mul op_mulW) (OpR.or op_mulS (OpR.or op_repT op_rep))) (fun w S a b x y d S' hS ra rb hf Q hQ => ?_) ha hb
  unfold oMul at hf
  split at hf
  · obtain ⟨z, h1, h2⟩ := bsome hf
    cases h2; cases ra; cases rb
    unfold mulI at h1
    split at h1
    · rename_i h3
      cases h1
      unfold smallI at h3
      simp only [Bool.or_eq_true, Bool.and_eq_true, decide_eq_true_eq] at h3
      rcases h3 with (h3 | h3) | h3
      · exact .inl (.inl ⟨_, _, rfl, rfl, .inl h3, hQ.here hS (.int _)⟩)
      · exact .inl (.inl ⟨_, _, rfl, rfl, .inr h3, hQ.here hS (.int _)⟩)
      · exact .inl (.inr ⟨_, _, rfl, rfl, h3, hQ.here hS (.int _)⟩)
    · cases h1
  · split at hf
    · rename_i h3
      cases hf; cases ra; cases rb
      exact .inr (.inl ⟨_, _, rfl, rfl, h3.1, h3.2.1, h3.2.2.1, h3.2.2.2, hQ.here hS (.str _)⟩)
    · cases hf
  · split at hf
    · rename_i h3
      cases hf; cases rb
      obtain ⟨p, vs, rfl, e1, r1⟩ := ra.tupH
      refine .inr (.inr (.inl ⟨p, _, vs, rfl, rfl, e1, fun z => ?_, h3.2.1, h3.2.2.1, by rw [← r1.length]; exact h3.2.2.2, fun l hl => Post.newTup hQ hS (r1.rep _) hl⟩))
      subst z
      cases r1
      exact h3.1 rfl
    · cases hf
  · exact .inr (.inr (.inr (sem_rep (M := Post) w S a b x y d S' hS ra rb hf Q hQ)))

/-! == and in, by what is read -/
mutual
def pyD (S : Sto) : D → Option PyData
  | .non => some .none
  | .bl b => some (.bool b)
  | .int i => some (.int i)
  | .str x => some (.str x)
  | .tup xs => (pyAll S xs).map .tuple
  | .lst xs => (pyAll S xs).map .list
  | _ => none
def pyAll (S : Sto) : List D → Option (List PyData)
  | [] => some []
  | x :: xs => (pyD S x).bind fun d => (pyAll S xs).map fun ds => d :: ds
end
/-- .. where a mutable list of data is read as one -/
def pyR (S : Sto) (d : D) : Option PyData := match d with
  | .ref i => match S[i]? with
    | some (.lst xs) => pyD S (.lst xs)
    | _ => none
  | d => pyD S d
theorem repL_dp {C : Cf} {w : Wd} {S : Sto} : ∀ {ds : List D} {vs : List V} {ps : List PyData}, (∀ d ∈ ds, ∀ v p, Rep C w d v → pyD S d = some p → Dp C.K w.H v p) → RepL C w ds vs → pyAll S ds = some ps → DpAll C.K w.H vs ps
  | [], _, _, _, .nil, h => by
    rw [pyAll] at h
    cases h
    exact .nil
  | d :: ds, _, _, ih, .cons r rs, h => by
    rw [pyAll] at h
    obtain ⟨p, h1, h2⟩ := bsome h
    obtain ⟨qs, h3, h4⟩ := Option.map_eq_some_iff.mp h2
    cases h4
    exact .cons (ih d List.mem_cons_self _ _ r h1) (repL_dp (fun d' hd => ih d' (List.mem_cons_of_mem _ hd)) rs h3)
theorem rep_dp {C : Cf} {w : Wd} {S : Sto} : ∀ (d : D) (v : V) (p : PyData), Rep C w d v → pyD S d = some p → Dp C.K w.H v p
  | .non, _, _, r, h => by cases r; rw [pyD] at h; cases h; exact .non
  | .bl _, _, _, r, h => by cases r; rw [pyD] at h; cases h; exact .bl _
  | .int _, _, _, r, h => by cases r; rw [pyD] at h; cases h; exact .int _
  | .str _, _, _, r, h => by cases r; rw [pyD] at h; cases h; exact .str _
  | .tup xs, _, _, r, h => by
    rw [pyD] at h
    obtain ⟨qs, h1, h2⟩ := Option.map_eq_some_iff.mp h
    cases h2
    obtain ⟨p, vs, rfl, hs, r⟩ := r.tupH
    exact .tup hs (repL_dp (fun d hd v p r h => rep_dp d v p r h) r h1)
  | .lst xs, _, _, r, h => by
    rw [pyD] at h
    obtain ⟨qs, h1, h2⟩ := Option.map_eq_some_iff.mp h
    cases h2
    cases r with
    | lst e hp r => exact .lst (.inl (.inl e)) (repL_dp (fun d hd v p r h => rep_dp d v p r h) r h1)
  | .scr _, _, _, _, h => by simp [pyD] at h
  | .dic _, _, _, _, h => by simp [pyD] at h
  | .ins _ _, _, _, _, h => by simp [pyD] at h
  | .ref _, _, _, _, h => by simp [pyD] at h
  | .fn _, _, _, _, h => by simp [pyD] at h
  | .ty _, _, _, _, h => by simp [pyD] at h
theorem Rep.dp {C : Cf} {w : Wd} {S : Sto} {d : D} {v : V} {p : PyData} (s : Sim C w S) (r : Rep C w d v) (h : pyR S d = some p) : Dp C.K w.H v p := by
  unfold pyR at h
  split at h
  · rename_i i
    cases r with
    | ref hi =>
      split at h
      · rename_i xs hx
        rw [pyD] at h
        obtain ⟨qs, h1, h2⟩ := Option.map_eq_some_iff.mp h
        cases h2
        obtain ⟨vs, e, r⟩ := s.obj i _ _ hi hx
        exact .lst (.inl (.inl e)) (repL_dp (fun d hd v p r h => rep_dp d v p r h) r h1)
      · cases h
  · exact rep_dp _ _ _ r h
def eqP (S : Sto) (a b : D) : Option Bool := (pyR S a).bind fun p => (pyR S b).bind fun q => if SeqAt.shaped p && SeqAt.shaped q then some (PyData.eqv p q) else none
def oEq : RD := fun a b S => (eqP S a b).bind fun k => some (.bl k, S)
def oNe : RD := fun a b S => (eqP S a b).bind fun k => some (.bl (!k), S)
theorem sem_eq {C : Cf} : OpSem Post C (rEqD C.K) oEq := by
  intro w S a b x y d S' hS ra rb hf Q hQ
  obtain ⟨k, h0, h2⟩ := bsome hf
  cases h2
  obtain ⟨p, h1, h2⟩ := bsome h0
  obtain ⟨q, h3, h4⟩ := bsome h2
  split at h4
  · rename_i h5
    cases h4
    rw [Bool.and_eq_true] at h5
    exact ⟨p, q, ra.dp hS h1, rb.dp hS h3, h5.1, h5.2, hQ.here hS (.bl _)⟩
  · cases h4
theorem sem_ne {C : Cf} : OpSem Post C (rNeD C.K) oNe := by
  intro w S a b x y d S' hS ra rb hf Q hQ
  obtain ⟨k, h0, h2⟩ := bsome hf
  cases h2
  obtain ⟨p, h1, h2⟩ := bsome h0
  obtain ⟨q, h3, h4⟩ := bsome h2
  split at h4
  · rename_i h5
    cases h4
    rw [Bool.and_eq_true] at h5
    exact ⟨p, q, ra.dp hS h1, rb.dp hS h3, h5.1, h5.2, hQ.here hS (.bl _)⟩
  · cases h4
theorem room64 {k : Nat} {A : Around} (hr : Room k A) : A.units + 64 < cLine := by have := hr.un; omega
theorem room65 {k : Nat} {A : Around} (hr : Room k A) : A.units + 65 < cLine := by have := hr.un; omega
variable {k : Nat} (hr : Room k X.A)
include hr
theorem se_eq (ha : SE fa X a f) (hb : SE fa X b g) : SE fa X (.Compare a [.Eq] [b] pos) (eBin oEq f g) := se_cmp (op_eqD (room64 hr)) sem_eq ha hb (nomark _)
theorem se_ne (ha : SE fa X a f) (hb : SE fa X b g) : SE fa X (.Compare a [.NotEq] [b] pos) (eBin oNe f g) := se_cmp (op_neD (room64 hr)) sem_ne ha hb (nomark _)
theorem st_eq (ha : SE fa X a f) (hb : SE fa X b g) : ST fa X (.Compare a [.Eq] [b] pos) (tB (eBin oEq f g)) := st_cmp (op_eqD (room64 hr)) sem_eq ha hb (nomark _)
theorem st_ne (ha : SE fa X a f) (hb : SE fa X b g) : ST fa X (.Compare a [.NotEq] [b] pos) (tB (eBin oNe f g)) := st_cmp (op_neD (room64 hr)) sem_ne ha hb (nomark _)
omit hr
def rInT (K : PySem.W.Frag) : R2 := fun x y H Q => ∃ d ds, Dp K H x d ∧ Dp K H y (.tuple ds) ∧ SeqAt.shaped d = true ∧ SeqAt.shaped (.tuple ds) = true ∧ Q (.bl (ds.any fun z => PyData.eqv z d)) H
def rNotInT (K : PySem.W.Frag) : R2 := fun x y H Q => ∃ d ds, Dp K H x d ∧ Dp K H y (.tuple ds) ∧ SeqAt.shaped d = true ∧ SeqAt.shaped (.tuple ds) = true ∧ Q (.bl (!ds.any fun z => PyData.eqv z d)) H
theorem op_inT (hu : X.A.units + 65 < cLine) : OpR X (compareOp .In) (rInT X.K) := by
  intro pins s σ H x y v u Q I rx ry h
  obtain ⟨d, ds, hd, he, sd, se, q⟩ := h
  obtain ⟨as, r1⟩ := Dp.reads I d x v hd rx
  obtain ⟨bs, r2⟩ := Dp.reads I (.tuple ds) y u he ry
  exact SeqAt.in_tuple_reads r2 r1 (SeqAt.canLay_of_shaped se) (SeqAt.canLay_of_shaped sd) (PyProof.Rows.room_in_shaped sd hu) ⟨.bl _, H, I, rfl, q⟩
theorem op_notInT (hu : X.A.units + 65 < cLine) : OpR X (compareOp .NotIn) (rNotInT X.K) := by
  intro pins s σ H x y v u Q I rx ry h
  obtain ⟨d, ds, hd, he, sd, se, q⟩ := h
  obtain ⟨as, r1⟩ := Dp.reads I d x v hd rx
  obtain ⟨bs, r2⟩ := Dp.reads I (.tuple ds) y u he ry
  exact SeqAt.notIn_tuple_reads r2 r1 (SeqAt.canLay_of_shaped se) (SeqAt.canLay_of_shaped sd) (PyProof.Rows.room_in_shaped sd hu) ⟨.bl _, H, I, rfl, q⟩
def inP (S : Sto) (a b : D) : Option Bool := (pyR S a).bind fun d => (pyR S b).bind fun q => match q with
  | .list ds => if SeqAt.shaped d && SeqAt.shaped (.list ds) then some (ds.any fun z => PyData.eqv z d) else none
  | .tuple ds => if SeqAt.shaped d && SeqAt.shaped (.tuple ds) then some (ds.any fun z => PyData.eqv z d) else none
  | _ => none
def oIn : RD := fun a b S => (inP S a b).bind fun k => some (.bl k, S)
def oNotIn : RD := fun a b S => (inP S a b).bind fun k => some (.bl (!k), S)
theorem sem_in {C : Cf} : OpSem Post C (fun x y H Q => rInD C.K x y H Q ∨ rInT C.K x y H Q) oIn := by
  intro w S a b x y d S' hS ra rb hf Q hQ
  obtain ⟨k, h0, h2⟩ := bsome hf
  cases h2
  obtain ⟨p, h1, h2⟩ := bsome h0
  obtain ⟨q, h3, h4⟩ := bsome h2
  split at h4
  · split at h4
    · rename_i h5
      cases h4
      rw [Bool.and_eq_true] at h5
      exact .inl ⟨p, _, ra.dp hS h1, rb.dp hS h3, h5.1, h5.2, hQ.here hS (.bl _)⟩
    · cases h4
  · split at h4
    · rename_i h5
      cases h4
      rw [Bool.and_eq_true] at h5
      exact .inr ⟨p, _, ra.dp hS h1, rb.dp hS h3, h5.1, h5.2, hQ.here hS (.bl _)⟩
    · cases h4
  · cases h4
theorem sem_notIn {C : Cf} : OpSem Post C (fun x y H Q => rNotInD C.K x y H Q ∨ rNotInT C.K x y H Q) oNotIn := by
  intro w S a b x y d S' hS ra rb hf Q hQ
  obtain ⟨k, h0, h2⟩ := bsome hf
  cases h2
  obtain ⟨p, h1, h2⟩ := bsome h0
  obtain ⟨q, h3, h4⟩ := bsome h2
  split at h4
  · split at h4
    · rename_i h5
      cases h4
      rw [Bool.and_eq_true] at h5
      exact .inl ⟨p, _, ra.dp hS h1, rb.dp hS h3, h5.1, h5.2, hQ.here hS (.bl _)⟩
    · cases h4
  · split at h4
    · rename_i h5
      cases h4
      rw [Bool.and_eq_true] at h5
      exact .inr ⟨p, _, ra.dp hS h1, rb.dp hS h3, h5.1, h5.2, hQ.here hS (.bl _)⟩
    · cases h4
  · cases h4
include hr
theorem se_in (ha : SE fa X a f) (hb : SE fa X b g) (hm : behindInMarks .In b = false := by rfl) : SE fa X (.Compare a [.In] [b] pos) (eBin oIn f g) := se_cmp (OpR.or (op_inD (room65 hr)) (op_inT (room65 hr))) sem_in ha hb hm
theorem se_notIn (ha : SE fa X a f) (hb : SE fa X b g) (hm : behindInMarks .NotIn b = false := by rfl) : SE fa X (.Compare a [.NotIn] [b] pos) (eBin oNotIn f g) := se_cmp (OpR.or (op_notInD (room65 hr)) (op_notInT (room65 hr))) sem_notIn ha hb hm
theorem st_in (ha : SE fa X a f) (hb : SE fa X b g) (hm : behindInMarks .In b = false := by rfl) : ST fa X (.Compare a [.In] [b] pos) (tB (eBin oIn f g)) := st_cmp (OpR.or (op_inD (room65 hr)) (op_inT (room65 hr))) sem_in ha hb hm
theorem st_notIn (ha : SE fa X a f) (hb : SE fa X b g) (hm : behindInMarks .NotIn b = false := by rfl) : ST fa X (.Compare a [.NotIn] [b] pos) (tB (eBin oNotIn f g)) := st_cmp (OpR.or (op_notInD (room65 hr)) (op_notInT (room65 hr))) sem_notIn ha hb hm
omit hr

/-! is None -/
def isNon : D → Bool
  | .non => true
  | _ => false
theorem Rep.isNon {C : Cf} {w : Wd} {d : D} {v : V} (r : Rep C w d v) : decide (v = .non) = HS.isNon d := by
  cases r <;> simp [HS.isNon]
def oIs : RD := fun a b S => match b with
  | .non => some (.bl (isNon a), S)
  | _ => none
def oIsNot : RD := fun a b S => match b with
  | .non => some (.bl (!isNon a), S)
  | _ => none
theorem se_is (ha : SE fa X a f) (hb : SE fa X b g) : SE fa X (.Compare a [.Is] [b] pos) (eBin oIs f g) := se_cmp op_isN (fun w S a b x y d S' hS ra rb hf Q hQ => by
  unfold oIs at hf
  split at hf
  · cases hf; cases rb
    exact ⟨rfl, by rw [ra.isNon]; exact hQ.here hS (.bl _)⟩
  · cases hf) ha hb (nomark _)
theorem se_isNot (ha : SE fa X a f) (hb : SE fa X b g) : SE fa X (.Compare a [.IsNot] [b] pos) (eBin oIsNot f g) := se_cmp op_notN (fun w S a b x y d S' hS ra rb hf Q hQ => by
  unfold oIsNot at hf
  split at hf
  · cases hf; cases rb
    exact ⟨rfl, by rw [ra.isNon]; exact hQ.here hS (.bl _)⟩
  · cases hf) ha hb (nomark _)

/-! subscripts -/
def oIx : RD := fun a b S => match a, b with
  | .str x, .int i => if x.length ≤ SZ then (atI x.cps.toList i).bind fun c => some (.str ⟨#[c]⟩, S) else none
  | a, .int i => (seqOf S a).bind fun xs => (atI xs i).bind fun d => some (d, S)
  | _, _ => none
theorem RepL.atI {C : Cf} {w : Wd} {ds : List D} {vs : List V} {i : Int} {d : D} (r : RepL C w ds vs) (h : L2.atI ds i = some d) : ∃ v, L2.atI vs i = some v ∧ Rep C w d v := by
  unfold L2.atI at h ⊢
  obtain ⟨j, h1, h2⟩ := bsome h
  obtain ⟨v, h3, h4⟩ := r.get h2
  refine ⟨v, ?_, h4⟩
  rw [← r.length, h1]
  exact h3
theorem sem_ix {C : Cf} : OpSem Post C (rIx C.K) oIx := by
  intro w S a b x y d S' hS ra rb hf Q hQ
  have gen : ∀ i xs, b = .int i → seqOf S a = some xs → L2.atI xs i = some d → S = S' → rIx C.K x y w.H Q := fun i xs hb h1 h2 h3 => by
    subst hb; subst h3
    cases rb
    obtain ⟨p, vs, rfl, e1, r1⟩ := ra.seqH hS h1
    obtain ⟨v, h4, r4⟩ := r1.atI h2
    rcases e1 with e1 | e1
    · exact .inl ⟨p, vs, i, v, rfl, rfl, e1, h4, hQ.here hS r4⟩
    · exact .inr (.inl ⟨p, vs, i, v, rfl, rfl, e1, h4, hQ.here hS r4⟩)
  unfold oIx at hf
  split at hf
  · split at hf
    · rename_i x i h2
      obtain ⟨c, h3, h4⟩ := bsome hf
      cases h4
      cases ra; cases rb
      exact .inr (.inr ⟨_, _, c, rfl, rfl, sz h2, h3, hQ.here hS (.str _)⟩)
    · cases hf
  · obtain ⟨xs, h1, h2⟩ := bsome hf
    obtain ⟨z, h3, h4⟩ := bsome h2
    cases h4
    exact gen _ xs rfl h1 h3 rfl
  · cases hf
theorem se_ix (ha : SE fa X a f) (hb : SE fa X b g) (hs : PlainIx b := by exact fun _ _ => rfl) : SE fa X (.Subscript a b pos) (eBin oIx f g) := by
  obtain ⟨ta, pa, ha⟩ := ha.ex
  obtain ⟨tb, pb, hb⟩ := hb.ex
  exact ⟨tOp (rIx X.K) ta tb, pe_ix ix_seq pa pb hs, op_core sem_ix ha hb⟩
end
end HS
set_option Elab.async false
set_option linter.all false
set_option maxRecDepth 100000
set_option autoImplicit false
/-! Calls of built-ins, methods of built-in types, slices. -/
namespace HS
open PySem L2
section
variable {fa : String → Option Addr} {X : Cx} {M : PM} {a b e : Expr} {es : List Expr} {pos p : Pos} {f g : Ev} {fs : EvA} {x : Str}
abbrev RDs := List D → Sto → Option (D × Sto)
def CallSem (M : PM) (C : Cf) (r : List V → Hp → VK → Prop) (rD : RDs) : Prop := ∀ w S ds vs d S', Sim C w S → RepL C w ds vs → rD ds S = some (d, S') → ∀ Q : VK, M C w d S' Q → r vs w.H Q
def eB (rD : RDs) (fs : EvA) : Ev := fun η S => (fs η S).bind fun p => rD p.1 p.2
theorem se_callB [PmOk M] {r : List V → Hp → VK → Prop} {rD : RDs} {id : String} (hc : CallR X (.builtin id) r) (sem : CallSem M (cf fa X) r rD) (hg : Gl X x) (hm : X.mg x = none) (hv : bootBuiltins x = some (.builtin id)) (ha : SA fa X (e :: es) fs)
    (hn : x ≠ "__name__" := by decide) (hdb : (x == ("__debug__" : Str)) = false := by decide) (he : starEach (e :: es) X.env = (false, eval e X.env) :: starEach es X.env := by rfl) (hpl : (backTo pos (starEach es X.env)).any (·.1) = false := by rfl) :
    SEm fa M X (.Call (.Name x p) (e :: es) [] pos) (eB rD fs) := by
  obtain ⟨t, q, ha⟩ := ha.ex
  refine ⟨tCB r t, pe_callB hc hg hm hv q hn hdb he hpl, fun w σ η S d S' hη hS hf Q hQ => ?_⟩
  obtain ⟨⟨ds, S1⟩, h1, hf⟩ := bsome hf
  exact ha w σ η S ds S1 hη hS h1 _ fun vs w1 e1 s1 r1 => sem w1 S1 ds vs d S' s1 r1 hf Q (PmOk.mono e1 hQ)
theorem se_callTy [PmOk M] {r : List V → Hp → VK → Prop} {rD : RDs} {T : String} (hc : CallR X (.type T) r) (sem : CallSem M (cf fa X) r rD) (hg : Gl X x) (hm : X.mg x = none) (hv : bootBuiltins x = some (.type T)) (ha : SA fa X (e :: es) fs)
    (hn : x ≠ "__name__" := by decide) (hdb : (x == ("__debug__" : Str)) = false := by decide) (he : starEach (e :: es) X.env = (false, eval e X.env) :: starEach es X.env := by rfl) (hpl : (backTo pos (starEach es X.env)).any (·.1) = false := by rfl) :
    SEm fa M X (.Call (.Name x p) (e :: es) [] pos) (eB rD fs) := by
  obtain ⟨t, q, ha⟩ := ha.ex
  refine ⟨tCB r t, pe_callTy hc hg hm hv q hn hdb he hpl, fun w σ η S d S' hη hS hf Q hQ => ?_⟩
  obtain ⟨⟨ds, S1⟩, h1, hf⟩ := bsome hf
  exact ha w σ η S ds S1 hη hS h1 _ fun vs w1 e1 s1 r1 => sem w1 S1 ds vs d S' s1 r1 hf Q (PmOk.mono e1 hQ)
theorem RepL.inv1 {C : Cf} {w : Wd} {d : D} {vs : List V} (r : RepL C w [d] vs) : ∃ v, vs = [v] ∧ Rep C w d v := by
  cases r with
  | cons r t => cases t; exact ⟨_, rfl, r⟩
theorem RepL.inv2 {C : Cf} {w : Wd} {d e : D} {vs : List V} (r : RepL C w [d, e] vs) : ∃ v u, vs = [v, u] ∧ Rep C w d v ∧ Rep C w e u := by
  cases r with
  | cons r t => cases t with
    | cons r2 t => cases t; exact ⟨_, _, rfl, r, r2⟩

/-! len -/
def bLen : RDs := fun ds S => match ds with
  | [.str x] => if x.length ≤ SZ then some (.int x.length, S) else none
  | [d] => (seqOf S d).bind fun xs => some (.int xs.length, S)
  | _ => none
theorem sem_len {C : Cf} : CallSem Post C (fun xs H Q => ∃ x n, xs = [x] ∧ LenV C.K x H n ∧ Q (.int n) H) bLen := by
  intro w S ds vs d S' hS r hf Q hQ
  unfold bLen at hf
  split at hf
  · split at hf
    · rename_i h
      cases hf
      obtain ⟨v, rfl, r1⟩ := r.inv1
      cases r1
      exact ⟨.str _, _, rfl, (show _ ∧ _ from ⟨sz h, rfl⟩), hQ.here hS (.int _)⟩
    · cases hf
  · obtain ⟨xs, h1, h2⟩ := bsome hf
    cases h2
    obtain ⟨v, rfl, r1⟩ := r.inv1
    obtain ⟨p, us, rfl, e, r2⟩ := r1.seqH hS h1
    refine ⟨_, us.length, rfl, ?_, by rw [← r2.length]; exact hQ.here hS (.int _)⟩
    rcases e with e | e
    · exact .inl ⟨us, e, rfl⟩
    · exact .inr ⟨us, e, rfl⟩
  · cases hf
/-! int -/
def bInt : RDs := fun ds S => match ds with
  | [.int i] => some (.int i, S)
  | [.bl b] => some (.int (if b then 1 else 0), S)
  | _ => none
theorem sem_int {C : Cf} : CallSem Post C (fun xs H Q => (∃ i, xs = [.int i] ∧ Q (.int i) H) ∨ ∃ k, xs = [.bl k] ∧ Q (.int (if k then 1 else 0)) H) bInt := by
  intro w S ds vs d S' hS r hf Q hQ
  unfold bInt at hf
  split at hf
  · cases hf
    obtain ⟨v, rfl, r1⟩ := r.inv1
    cases r1
    exact .inl ⟨_, rfl, hQ.here hS (.int _)⟩
  · cases hf
    obtain ⟨v, rfl, r1⟩ := r.inv1
    cases r1
    exact .inr ⟨_, rfl, hQ.here hS (.int _)⟩
  · cases hf
/-! list, tuple -/
def bList : RDs := fun ds S => match ds with
  | [d] => (seqOf S d).bind fun xs => some (.lst xs, S)
  | _ => none
theorem sem_list [PmList M] {C : Cf} : CallSem M C (fun xs H Q => ∃ p ys, xs = [.ref p] ∧ (SqL C.K H p ys ∨ SqT C.K H p ys) ∧ ∀ l, H l = none → Q (.ref l) (upd H l (.lst ys))) bList := by
  intro w S ds vs d S' hS r hf Q hQ
  unfold bList at hf
  split at hf
  · obtain ⟨xs, h1, h2⟩ := bsome hf
    cases h2
    obtain ⟨v, rfl, r1⟩ := r.inv1
    obtain ⟨p, us, rfl, e, r2⟩ := r1.seqH hS h1
    exact ⟨p, us, rfl, e, fun l hl => PmList.newLst hQ hS r2 hl⟩
  · cases hf
def bTuple : RDs := fun ds S => match ds with
  | [.tup xs] => some (.tup xs, S)
  | [d] => (lstOf S d).bind fun xs => some (.tup xs, S)
  | _ => none
theorem sem_tuple {C : Cf} : CallSem Post C (fun xs H Q => ∃ p ys, xs = [.ref p] ∧ ((SqL C.K H p ys ∧ ∀ l, H l = none → Q (.ref l) (upd H l (.tup ys))) ∨ (SqT C.K H p ys ∧ Q (.ref p) H))) bTuple := by
  intro w S ds vs d S' hS r hf Q hQ
  unfold bTuple at hf
  split at hf
  · cases hf
    obtain ⟨v, rfl, r1⟩ := r.inv1
    obtain ⟨p, us, rfl, e, r2⟩ := id r1.tupH
    exact ⟨p, us, rfl, .inr ⟨e, hQ.here hS r1⟩⟩
  · obtain ⟨xs, h1, h2⟩ := bsome hf
    cases h2
    obtain ⟨v, rfl, r1⟩ := r.inv1
    obtain ⟨p, us, rfl, e, r2⟩ := r1.lstH hS h1
    exact ⟨p, us, rfl, .inl ⟨.inl (.inl e), fun l hl => Post.newTup hQ hS r2 hl⟩⟩
  · cases hf
/-! lists of ints, of bools, of texts -/
def intsOf : List D → Option (List Int)
  | [] => some []
  | .int i :: ds => (intsOf ds).map fun is => i :: is
  | _ => none
def bolsOf : List D → Option (List Bool)
  | [] => some []
  | .bl i :: ds => (bolsOf ds).map fun is => i :: is
  | _ => none
def strsOf : List D → Option (List Str)
  | [] => some []
  | .str i :: ds => (strsOf ds).map fun is => i :: is
  | _ => none
theorem rep_ints {C : Cf} {w : Wd} : ∀ {ds : List D} {vs : List V} {is : List Int}, intsOf ds = some is → RepL C w ds vs → vs = is.map V.int
  | [], _, _, h, .nil => by cases h; rfl
  | d :: ds, _, _, h, .cons r rs => by
    cases d with
    | int i =>
      obtain ⟨js, h1, h2⟩ := Option.map_eq_some_iff.mp h
      cases h2; cases r
      rw [rep_ints h1 rs]; rfl
    | _ => cases h
theorem rep_bols {C : Cf} {w : Wd} : ∀ {ds : List D} {vs : List V} {is : List Bool}, bolsOf ds = some is → RepL C w ds vs → vs = is.map V.bl
  | [], _, _, h, .nil => by cases h; rfl
  | d :: ds, _, _, h, .cons r rs => by
    cases d with
    | bl i =>
      obtain ⟨js, h1, h2⟩ := Option.map_eq_some_iff.mp h
      cases h2; cases r
      rw [rep_bols h1 rs]; rfl
    | _ => cases h
theorem rep_strs {C : Cf} {w : Wd} : ∀ {ds : List D} {vs : List V} {is : List Str}, strsOf ds = some is → RepL C w ds vs → vs = is.map V.str
  | [], _, _, h, .nil => by cases h; rfl
  | d :: ds, _, _, h, .cons r rs => by
    cases d with
    | str i =>
      obtain ⟨js, h1, h2⟩ := Option.map_eq_some_iff.mp h
      cases h2; cases r
      rw [rep_strs h1 rs]; rfl
    | _ => cases h
theorem ints_rep {C : Cf} {w : Wd} : ∀ (is : List Int), RepL C w (is.map D.int) (is.map V.int)
  | [] => .nil
  | i :: is => .cons (.int i) (ints_rep is)
theorem intsOf_map : ∀ is : List Int, intsOf (is.map D.int) = some is
  | [] => rfl
  | i :: is => by simp [intsOf, intsOf_map is]
theorem bolsOf_map : ∀ is : List Bool, bolsOf (is.map D.bl) = some is
  | [] => rfl
  | i :: is => by simp [bolsOf, bolsOf_map is]
theorem strsOf_map : ∀ is : List Str, strsOf (is.map D.str) = some is
  | [] => rfl
  | i :: is => by simp [strsOf, strsOf_map is]
/-! max, min of a list of ints; of two; sum; any, all -/
def mxI : List Int → Int
  | [] => 0
  | [x] => x
  | x :: y :: r => let m := mxI (y :: r); if x < m then m else x
def mnI : List Int → Int
  | [] => 0
  | [x] => x
  | x :: y :: r => let m := mnI (y :: r); if m < x then m else x
theorem mxI_mem : ∀ {l : List Int}, 0 < l.length → mxI l ∈ l
  | [x], _ => by simp [mxI]
  | x :: y :: r, _ => by
    have h := mxI_mem (l := y :: r) (by simp)
    simp only [mxI]
    split
    · exact List.mem_cons_of_mem _ h
    · exact List.mem_cons_self
theorem mxI_ge : ∀ {l : List Int} {z : Int}, z ∈ l → z ≤ mxI l
  | [x], z, h => by simp at h; simp [mxI, h]
  | x :: y :: r, z, h => by
    have ih := @mxI_ge (y :: r)
    simp only [mxI]
    rcases List.mem_cons.mp h with rfl | h
    · split <;> omega
    · have := ih h
      split <;> omega
theorem mnI_mem : ∀ {l : List Int}, 0 < l.length → mnI l ∈ l
  | [x], _ => by simp [mnI]
  | x :: y :: r, _ => by
    have h := mnI_mem (l := y :: r) (by simp)
    simp only [mnI]
    split
    · exact List.mem_cons_of_mem _ h
    · exact List.mem_cons_self
theorem mnI_le : ∀ {l : List Int} {z : Int}, z ∈ l → mnI l ≤ z
  | [x], z, h => by simp at h; simp [mnI, h]
  | x :: y :: r, z, h => by
    have ih := @mnI_le (y :: r)
    simp only [mnI]
    rcases List.mem_cons.mp h with rfl | h
    · split <;> omega
    · have := ih h
      split <;> omega
def bOnInts (g : List Int → Option D) : RDs := fun ds S => match ds with
  | [d] => (lstOf S d).bind fun xs => (intsOf xs).bind fun is => (g is).bind fun r => some (r, S)
  | _ => none
def bMax : RDs := bOnInts fun is => if is = [] then none else some (.int (mxI is))
def bMin : RDs := bOnInts fun is => if is = [] then none else some (.int (mnI is))
def bSum : RDs := bOnInts fun is => some (.int is.sum)
theorem bOnInts_some {C : Cf} {w : Wd} {S S' : Sto} {g : List Int → Option D} {ds : List D} {vs : List V} {d : D} (hS : Sim C w S) (r : RepL C w ds vs) (h : bOnInts g ds S = some (d, S')) : ∃ p is, vs = [.ref p] ∧ SqL C.K w.H p (is.map V.int) ∧ g is = some d ∧ S = S' := by
  unfold bOnInts at h
  split at h
  · obtain ⟨xs, h1, h2⟩ := bsome h
    obtain ⟨is, h3, h4⟩ := bsome h2
    obtain ⟨z, h5, h6⟩ := bsome h4
    cases h6
    obtain ⟨v, rfl, r1⟩ := r.inv1
    obtain ⟨p, us, rfl, e, r2⟩ := r1.lstH hS h1
    have e2 := rep_ints h3 r2
    subst e2
    exact ⟨p, is, rfl, .inl (.inl e), h5, rfl⟩
  · cases h
theorem sem_max {C : Cf} : CallSem Post C (rMax C.K) bMax := by
  intro w S ds vs d S' hS r hf Q hQ
  obtain ⟨p, is, rfl, e, h1, rfl⟩ := bOnInts_some hS r hf
  split at h1
  · cases h1
  · rename_i h2
    cases h1
    have hl : 0 < is.length := List.length_pos_iff.mpr h2
    refine ⟨p, is, rfl, e, hl, fun m hm hx => ?_⟩
    have e3 : m = mxI is := by
      have h3 := hx _ (mxI_mem hl)
      have h4 := mxI_ge hm
      omega
    subst e3
    exact hQ.here hS (.int _)
theorem sem_min {C : Cf} : CallSem Post C (rMin C.K) bMin := by
  intro w S ds vs d S' hS r hf Q hQ
  obtain ⟨p, is, rfl, e, h1, rfl⟩ := bOnInts_some hS r hf
  split at h1
  · cases h1
  · rename_i h2
    cases h1
    have hl : 0 < is.length := List.length_pos_iff.mpr h2
    refine ⟨p, is, rfl, e, hl, fun m hm hx => ?_⟩
    have e3 : m = mnI is := by
      have h3 := hx _ (mnI_mem hl)
      have h4 := mnI_le hm
      omega
    subst e3
    exact hQ.here hS (.int _)
theorem sem_sum {C : Cf} : CallSem Post C (rSum C.K) bSum := by
  intro w S ds vs d S' hS r hf Q hQ
  obtain ⟨p, is, rfl, e, h1, rfl⟩ := bOnInts_some hS r hf
  cases h1
  exact ⟨p, is, rfl, e, hQ.here hS (.int _)⟩
def bOnBols (g : List Bool → Bool) : RDs := fun ds S => match ds with
  | [d] => (lstOf S d).bind fun xs => (bolsOf xs).bind fun is => some (.bl (g is), S)
  | _ => none
def bAny : RDs := bOnBols fun bs => bs.any id
def bAll : RDs := bOnBols fun bs => bs.all id
theorem bOnBols_some {C : Cf} {w : Wd} {S S' : Sto} {g : List Bool → Bool} {ds : List D} {vs : List V} {d : D} (hS : Sim C w S) (r : RepL C w ds vs) (h : bOnBols g ds S = some (d, S')) : ∃ p is, vs = [.ref p] ∧ SqL C.K w.H p (is.map V.bl) ∧ d = .bl (g is) ∧ S = S' := by
  unfold bOnBols at h
  split at h
  · obtain ⟨xs, h1, h2⟩ := bsome h
    obtain ⟨is, h3, h4⟩ := bsome h2
    cases h4
    obtain ⟨v, rfl, r1⟩ := r.inv1
    obtain ⟨p, us, rfl, e, r2⟩ := r1.lstH hS h1
    have e2 := rep_bols h3 r2
    subst e2
    exact ⟨p, is, rfl, .inl (.inl e), rfl, rfl⟩
  · cases h
theorem sem_any {C : Cf} : CallSem Post C (rAny C.K) bAny := by
  intro w S ds vs d S' hS r hf Q hQ
  obtain ⟨p, is, rfl, e, rfl, rfl⟩ := bOnBols_some hS r hf
  exact ⟨p, is, rfl, e, hQ.here hS (.bl _)⟩
theorem sem_all {C : Cf} : CallSem Post C (rAll C.K) bAll := by
  intro w S ds vs d S' hS r hf Q hQ
  obtain ⟨p, is, rfl, e, rfl, rfl⟩ := bOnBols_some hS r hf
  exact ⟨p, is, rfl, e, hQ.here hS (.bl _)⟩
def bMax2 : RDs := fun ds S => match ds with
  | [.int i, .int j] => some (.int (if j > i then j else i), S)
  | _ => none
def bMin2 : RDs := fun ds S => match ds with
  | [.int i, .int j] => some (.int (if j < i then j else i), S)
  | _ => none
theorem sem_max2 {C : Cf} : CallSem Post C (fun xs H Q => ∃ i j, xs = [.int i, .int j] ∧ Q (.int (if j > i then j else i)) H) bMax2 := by
  intro w S ds vs d S' hS r hf Q hQ
  unfold bMax2 at hf
  split at hf
  · cases hf
    obtain ⟨v, u, rfl, r1, r2⟩ := r.inv2
    cases r1; cases r2
    exact ⟨_, _, rfl, hQ.here hS (.int _)⟩
  · cases hf
theorem sem_min2 {C : Cf} : CallSem Post C (fun xs H Q => ∃ i j, xs = [.int i, .int j] ∧ Q (.int (if j < i then j else i)) H) bMin2 := by
  intro w S ds vs d S' hS r hf Q hQ
  unfold bMin2 at hf
  split at hf
  · cases hf
    obtain ⟨v, u, rfl, r1, r2⟩ := r.inv2
    cases r1; cases r2
    exact ⟨_, _, rfl, hQ.here hS (.int _)⟩
  · cases hf
/-! isinstance -/
def tyN (S : Sto) : D → Option String
  | .non => some "NoneType"
  | .bl _ => some "bool"
  | .int _ => some "int"
  | .str _ => some "str"
  | .tup _ => some "tuple"
  | .lst _ => some "list"
  | .ref i => match S[i]? with
    | some (.lst _) => some "list"
    | _ => none
  | _ => none
theorem Rep.tyN {C : Cf} {w : Wd} {S : Sto} {d : D} {v : V} {n : String} (s : Sim C w S) (r : Rep C w d v) (h : HS.tyN S d = some n) : TyX C.K w.H v (.type n) := by
  cases d with
  | non => cases h; cases r; exact .base .non
  | bl b => cases h; cases r; exact .base (.bl b)
  | int i => cases h; cases r; exact .base (.int i)
  | str i => cases h; cases r; exact .base (.str i)
  | tup xs =>
    cases h
    cases r with
    | tup e hp r => exact .base (.tup e)
    | tupK e r =>
      obtain ⟨o, its, m, h1, h2, _⟩ := e
      exact .kTuple h1 h2
  | lst xs =>
    cases h
    cases r with
    | lst e hp r => exact .base (.lst e)
  | ref i =>
    cases r with
    | ref hi =>
      simp only [HS.tyN] at h
      split at h
      · rename_i ys hy
        cases h
        obtain ⟨vs, e, r⟩ := s.obj i _ _ hi hy
        exact .base (.lst e)
      · cases h
  | _ => cases h
def tysL : List String := ["NoneType", "bool", "int", "str", "tuple", "list"]
def clsL : List String := ["bool", "int", "str", "tuple", "list"]
def subT (t c : String) : Option Bool := if t ∈ tysL ∧ c ∈ clsL then some (decide (t = c) || (decide (t = "bool") && decide (c = "int"))) else none
theorem kitB_all : (tysL.all fun t => clsL.all fun c => decide (kitB t c = some (decide (t = c) || (decide (t = "bool") && decide (c = "int"))))) = true := by decide +kernel
theorem subT_kit {K : PySem.W.Frag} {t c : String} {b : Bool} (h : subT t c = some b) : PySem.W.kitOne K (.type t) (.type c) = some b := by
  unfold subT at h
  split at h
  · rename_i hm
    cases h
    have h1 := List.all_eq_true.mp kitB_all t hm.1
    have h2 := List.all_eq_true.mp h1 c hm.2
    exact kit_ty (of_decide_eq_true h2)
  · cases h
def tysOf : List D → Option (List String)
  | [] => some []
  | .ty c :: cs => (tysOf cs).map fun ns => c :: ns
  | _ => none
def subTs (t : String) : List String → Option Bool
  | [] => some false
  | c :: cs => match subT t c with
    | some true => some true
    | some false => subTs t cs
    | none => none
theorem subTs_kit {K : PySem.W.Frag} {t : String} : ∀ {cs : List String} {b : Bool}, subTs t cs = some b → PySem.W.kitAny K (.type t) (cs.map Value.type) = some b
  | [], _, h => by cases h; rfl
  | c :: cs, b, h => by
    unfold subTs at h
    split at h
    · rename_i h1
      cases h
      exact kitAny_cons (subT_kit h1) (fun z => nomatch z) fun _ => rfl
    · rename_i h1
      exact kitAny_cons (subT_kit h1) (fun _ => subTs_kit h) fun z => nomatch z
    · cases h
theorem tys_cls {C : Cf} {w : Wd} : ∀ {cs : List D} {vs : List V} {ns : List String}, tysOf cs = some ns → RepL C w cs vs → vs = ns.map V.ty ∧ Paired ClsV vs (ns.map Value.type)
  | [], _, _, h, .nil => by cases h; exact ⟨rfl, .nil⟩
  | c :: cs, _, _, h, .cons r rs => by
    cases c with
    | ty n =>
      obtain ⟨ms, h1, h2⟩ := Option.map_eq_some_iff.mp h
      cases h2; cases r
      obtain ⟨e, q⟩ := tys_cls h1 rs
      subst e
      exact ⟨rfl, .cons (.ty n) q⟩
    | _ => cases h
def bIsi : RDs := fun ds S => match ds with
  | [d, .ty c] => (tyN S d).bind fun t => (subT t c).bind fun b => some (.bl b, S)
  | [d, .tup cs] => (tyN S d).bind fun t => (tysOf cs).bind fun ns => (subTs t ns).bind fun b => some (.bl b, S)
  | _ => none
theorem vals_ty : ∀ {ns : List String} {us : List Value}, Vals (ns.map V.ty) us → us = ns.map Value.type
  | [], _, h => by cases h; rfl
  | n :: ns, _, h => by
    cases h with
    | cons r t =>
      rw [vals_ty t]
      have e : _ = Value.type n := r
      rw [e]; rfl
theorem sem_isi {C : Cf} : CallSem Post C (fun xs H Q => rIsi C.K xs H Q ∨ (rIsiT C.K xs H Q ∨ rIsiK C.K xs H Q)) bIsi := by
  intro w S ds vs d S' hS r hf Q hQ
  unfold bIsi at hf
  split at hf
  · obtain ⟨t, h1, h2⟩ := bsome hf
    obtain ⟨b, h3, h4⟩ := bsome h2
    cases h4
    obtain ⟨v, u, rfl, r1, r2⟩ := r.inv2
    cases r2
    exact .inl ⟨v, _, _, _, b, rfl, .ty _, r1.tyN hS h1, subT_kit h3, hQ.here hS (.bl _)⟩
  · obtain ⟨t, h1, h2⟩ := bsome hf
    obtain ⟨ns, h3, h4⟩ := bsome h2
    obtain ⟨b, h5, h6⟩ := bsome h4
    cases h6
    obtain ⟨v, u, rfl, r1, r2⟩ := r.inv2
    cases r2 with
    | tup e hp r5 =>
      obtain ⟨e2, q⟩ := tys_cls h3 r5
      exact .inr (.inl ⟨v, _, _, _, _, b, rfl, e, q, r1.tyN hS h1, subTs_kit h5, hQ.here hS (.bl _)⟩)
    | tupK e r5 =>
      obtain ⟨e2, q⟩ := tys_cls h3 r5
      subst e2
      obtain ⟨⟨oc, od, dt, sl⟩, its, n, h7, h8, h9, h10, h11⟩ := e
      simp only at h8 h9
      subst h8 h9
      have e3 := vals_ty h11
      refine .inr (.inr ⟨v, _, od, ns.map Value.type, n, sl, _, b, rfl, ?_, r1.tyN hS h1, subTs_kit h5, hQ.here hS (.bl _)⟩)
      rw [h7, ← e3]
  · cases hf
theorem cr_isi : CallR X (.builtin "isinstance") (fun xs H Q => rIsi X.K xs H Q ∨ (rIsiT X.K xs H Q ∨ rIsiK X.K xs H Q)) := CallR.or call_isi (CallR.or call_isiT call_isiK)

/-! methods of built-in types -/
abbrev RM := D → List D → Sto → Option (D × Sto)
def MSem (M : PM) (C : Cf) (r : V → List V → Hp → VK → Prop) (rD : RM) : Prop := ∀ w S a ds v vs d S', Sim C w S → Rep C w a v → RepL C w ds vs → rD a ds S = some (d, S') → ∀ Q : VK, M C w d S' Q → r v vs w.H Q
/-- the receiver is of the built-in type -/
def isT (T : String) (S : Sto) (d : D) : Bool := match d with
  | .str _ => decide (T = "str")
  | .int _ => decide (T = "int")
  | d => decide (T = "list") && (lstOf S d).isSome
theorem Rep.tyV {C : Cf} {w : Wd} {S : Sto} {T : String} {d : D} {v : V} (s : Sim C w S) (r : Rep C w d v) (h : isT T S d = true) : L2.tyV C.K T v w.H := by
  have gen : ∀ xs, lstOf S d = some xs → T = "list" → L2.tyV C.K T v w.H := fun xs h1 h2 => by
    obtain ⟨p, vs, rfl, e, _⟩ := r.lstH s h1
    exact .inl ⟨h2, vs, .inl (.inl e)⟩
  unfold isT at h
  split at h
  · cases r
    have h2 := of_decide_eq_true h
    exact h2
  · cases r
    have h2 := of_decide_eq_true h
    exact h2
  · rw [Bool.and_eq_true] at h
    obtain ⟨xs, hx⟩ := Option.isSome_iff_exists.mp h.2
    exact gen xs hx (of_decide_eq_true h.1)
def eM (T : String) (rD : RM) (f : Ev) (fs : EvA) : Ev := fun η S => (f η S).bind fun p => if isT T p.2 p.1 then (fs η p.2).bind fun q => rD p.1 q.1 q.2 else none
def eM0 (T : String) (rD : RM) (f : Ev) : Ev := fun η S => (f η S).bind fun p => if isT T p.2 p.1 then rD p.1 [] p.2 else none
variable {o : Expr} {name : Str} {apos cpos : Pos} {T id : String} {r : V → List V → Hp → VK → Prop} {rD : RM}
theorem se_bm [PmOk M] (pa : PlainAttrs T) (slot : Slot T name id) (hty : typeOf (.builtin id) = pure (.type "method_descriptor")) (hm : MtR X id r) (sem : MSem M (cf fa X) r rD) (ho : SE fa X o f) (ha : SA fa X (e :: es) fs)
    (hbase : attributeBase o name X.env (eval o X.env) = eval o X.env := by rfl)
    (hfew : ((backTo cpos (starEach (e :: es) X.env)).all (fun x => !x.1) && (backToKw cpos (keywordEach [] X.env)).all (fun x => x.1.isSome)
      && decide ((e :: es).length + ([] : List Keyword).length + (if ([] : List Keyword).isEmpty then 0 else 1) < 30)) = true := by rfl)
    (hline : (apos.endLine == cpos.line) = true := by rfl) (hs : starEach (e :: es) X.env = (false, eval e X.env) :: starEach es X.env := by rfl) (hplain : (backTo cpos (starEach es X.env)).any (·.1) = false := by rfl) :
    SEm fa M X (.Call (.Attribute o name apos) (e :: es) [] cpos) (eM T rD f fs) := by
  obtain ⟨t, q, ho⟩ := ho.ex
  obtain ⟨u, q2, ha⟩ := ha.ex
  refine ⟨tBM X.K T r t u, pe_bm pa slot hty hm q q2 hbase hfew hline hs hplain, fun w σ η S d S' hη hS hf Q hQ => ?_⟩
  obtain ⟨⟨d1, S1⟩, h1, hf⟩ := bsome hf
  split at hf
  · rename_i hT
    obtain ⟨⟨ds, S2⟩, h2, hf⟩ := bsome hf
    exact ho w σ η S d1 S1 hη hS h1 _ fun v w1 e1 s1 r1 => ⟨r1.tyV s1 hT, ha w1 σ η S1 ds S2 (hη.mono e1.f) s1 h2 _ fun vs w2 e2 s2 r2 => sem w2 S2 d1 ds v vs d S' s2 (r1.mono e2.f) r2 hf Q (PmOk.mono (e1.trans e2) hQ)⟩
  · cases hf
theorem se_bm0 [PmOk M] (pa : PlainAttrs T) (slot : Slot T name id) (hty : typeOf (.builtin id) = pure (.type "method_descriptor")) (hm : MtR X id r) (sem : MSem M (cf fa X) r rD) (ho : SE fa X o f)
    (hbase : attributeBase o name X.env (eval o X.env) = eval o X.env := by rfl) (hline : (apos.endLine == cpos.line) = true := by rfl) :
    SEm fa M X (.Call (.Attribute o name apos) [] [] cpos) (eM0 T rD f) := by
  obtain ⟨t, q, ho⟩ := ho.ex
  refine ⟨tBM0 X.K T r t, pe_bm0 pa slot hty hm q hbase hline, fun w σ η S d S' hη hS hf Q hQ => ?_⟩
  obtain ⟨⟨d1, S1⟩, h1, hf⟩ := bsome hf
  split at hf
  · rename_i hT
    exact ho w σ η S d1 S1 hη hS h1 _ fun v w1 e1 s1 r1 => ⟨r1.tyV s1 hT, sem w1 S1 d1 [] v [] d S' s1 r1 .nil hf Q (PmOk.mono e1 hQ)⟩
  · cases hf
/-! a mutable list changes -/
def stL (S : Sto) (d : D) : Option (Nat × List D) := match d with
  | .ref i => match S[i]? with
    | some (.lst xs) => some (i, xs)
    | _ => none
  | _ => none
theorem Rep.stL {C : Cf} {w : Wd} {S : Sto} {d : D} {v : V} {i : Nat} {xs : List D} (s : Sim C w S) (r : Rep C w d v) (h : HS.stL S d = some (i, xs)) : ∃ p vs, v = .ref p ∧ w.mu[i]? = some p ∧ w.H p = some (.lst vs) ∧ RepL C w xs vs := by
  unfold HS.stL at h
  split at h
  · rename_i j
    split at h
    · rename_i ys hy
      cases h
      cases r with
      | ref hi =>
        obtain ⟨vs, e, r⟩ := s.obj _ _ _ hi hy
        exact ⟨_, vs, rfl, hi, e, r⟩
    · cases h
  · cases h
theorem Post.setL {C : Cf} {w : Wd} {S : Sto} {d : D} {Q : VK} {i : Nat} {p : Addr} {vs us : List V} {ys : List D} {v : V} (hQ : Post C w d (S.set i (.lst ys)) Q) (s : Sim C w S) (hi : w.mu[i]? = some p) (e : w.H p = some (.lst vs)) (r : RepL C w ys us) (rv : Rep C w d v) : Q v (upd w.H p (.lst us)) := by
  have le : Le w ⟨w.mu, w.L, upd w.H p (.lst us)⟩ := Le.put (List.mem_of_getElem? hi) e
  exact hQ v ⟨w.mu, w.L, upd w.H p (.lst us)⟩ le (s.put hi e ⟨us, upd_same, r.mono le.f⟩) (rv.mono le.f)
def mAppend : RM := fun a ds S => match ds with
  | [d] => (stL S a).bind fun q => if q.2.length < SZ then some (.non, S.set q.1 (.lst (q.2 ++ [d]))) else none
  | _ => none
theorem sem_append {C : Cf} : MSem Post C rAppend mAppend := by
  intro w S a ds v vs d S' hS ra rs hf Q hQ
  unfold mAppend at hf
  split at hf
  · obtain ⟨⟨i, xs⟩, h1, h2⟩ := bsome hf
    split at h2
    · rename_i hz
      cases h2
      obtain ⟨u, rfl, r1⟩ := rs.inv1
      obtain ⟨p, us, rfl, hi, e, r2⟩ := ra.stL hS h1
      exact ⟨p, us, u, rfl, rfl, e, by rw [← r2.length]; exact sz_lt hz, Post.setL hQ hS hi e (r2.snoc r1) .non⟩
    · cases h2
  · cases hf
def mPop : RM := fun a ds S => match ds with
  | [] => (stL S a).bind fun q => (q.2[q.2.length - 1]?).bind fun y => some (y, S.set q.1 (.lst q.2.dropLast))
  | _ => none
theorem sem_pop {C : Cf} : MSem Post C rPop mPop := by
  intro w S a ds v vs d S' hS ra rs hf Q hQ
  unfold mPop at hf
  split at hf
  · obtain ⟨⟨i, xs⟩, h1, h2⟩ := bsome hf
    obtain ⟨y, h3, h4⟩ := bsome h2
    cases h4; cases rs
    obtain ⟨p, us, rfl, hi, e, r2⟩ := ra.stL hS h1
    obtain ⟨z, h5, h6⟩ := r2.get h3
    exact ⟨p, us, z, rfl, rfl, e, by rw [← r2.length]; exact h5, Post.setL hQ hS hi e r2.dropLast h6⟩
  · cases hf
def mPopAt : RM := fun a ds S => match ds with
  | [.int k] => (stL S a).bind fun q => if -(2 ^ 63) ≤ k ∧ k < 2 ^ 63 then (seqIndex? k q.2.length).bind fun j => (q.2[j]?).bind fun y => some (y, S.set q.1 (.lst (q.2.eraseIdx j))) else none
  | _ => none
theorem sem_popAt {C : Cf} : MSem Post C rPopAt mPopAt := by
  intro w S a ds v vs d S' hS ra rs hf Q hQ
  unfold mPopAt at hf
  split at hf
  · obtain ⟨⟨i, xs⟩, h1, h2⟩ := bsome hf
    split at h2
    · rename_i hz
      obtain ⟨j, h3, h4⟩ := bsome h2
      obtain ⟨y, h5, h6⟩ := bsome h4
      cases h6
      obtain ⟨u, rfl, r1⟩ := rs.inv1
      cases r1
      obtain ⟨p, us, rfl, hi, e, r2⟩ := ra.stL hS h1
      obtain ⟨z, h7, h8⟩ := r2.get h5
      exact ⟨p, us, _, j, z, rfl, rfl, e, hz.1, hz.2, by rw [← r2.length]; exact h3, h7, Post.setL hQ hS hi e (r2.eraseIdx _) h8⟩
    · cases h2
  · cases hf
def mReverse : RM := fun a ds S => match ds with
  | [] => (stL S a).bind fun q => some (.non, S.set q.1 (.lst q.2.reverse))
  | _ => none
theorem sem_reverse {C : Cf} : MSem Post C rReverse mReverse := by
  intro w S a ds v vs d S' hS ra rs hf Q hQ
  unfold mReverse at hf
  split at hf
  · obtain ⟨⟨i, xs⟩, h1, h2⟩ := bsome hf
    cases h2; cases rs
    obtain ⟨p, us, rfl, hi, e, r2⟩ := ra.stL hS h1
    exact ⟨p, us, rfl, rfl, e, Post.setL hQ hS hi e r2.reverse .non⟩
  · cases hf
/-! join -/
def mJoin : RM := fun a ds S => match a, ds with
  | .str y, [d] => (lstOf S d).bind fun xs => (strsOf xs).bind fun zs => if (zs.map (·.length)).sum + zs.length * y.length ≤ SZ then some (.str (Txt.join y zs), S) else none
  | _, _ => none
theorem sem_join {C : Cf} : MSem Post C (fun x xs H Q => ∃ a p, ∃ ys : List Str, x = .str a ∧ xs = [.ref p] ∧ (SqL C.K H p (ys.map V.str) ∨ SqT C.K H p (ys.map V.str)) ∧ (ys.map (·.length)).sum + ys.length * a.length ≤ 16777216 ∧ Q (.str (Txt.join a ys)) H) mJoin := by
  intro w S a ds v vs d S' hS ra rs hf Q hQ
  unfold mJoin at hf
  split at hf
  · obtain ⟨xs, h1, h2⟩ := bsome hf
    obtain ⟨zs, h3, h4⟩ := bsome h2
    split at h4
    · rename_i hz
      cases h4; cases ra
      obtain ⟨u, rfl, r1⟩ := rs.inv1
      obtain ⟨p, us, rfl, e, r2⟩ := r1.lstH hS h1
      have e2 := rep_strs h3 r2
      subst e2
      exact ⟨_, p, zs, rfl, rfl, .inl (.inl (.inl e)), Nat.le_trans hz (by decide), hQ.here hS (.str _)⟩
    · cases h4
  · cases hf
end
end HS
set_option Elab.async false
set_option linter.all false
set_option maxRecDepth 100000
set_option autoImplicit false
/-! What is walked, targets, statements, loops. -/
namespace HS
open PySem L2

/-- an iterator that yields these things one by one, while chk holds of the store -/
structure ItOk (C : Cf) (w : Wd) (J : It) (xs : List D) (chk : Sto → Prop) : Prop where
  go : ∀ i w1 S1, LeF w w1 → Sim C w1 S1 → chk S1 → i < xs.length → J.go i w1.H
  yld : ∀ i w1 S1 x H', LeF w w1 → Sim C w1 S1 → chk S1 → i < xs.length → J.yld i w1.H x H' → ∃ w2 d, w2.H = H' ∧ Le w1 w2 ∧ Sim C w2 S1 ∧ w2.mu = w1.mu ∧ w2.L = w1.L ∧ xs[i]? = some d ∧ Rep C w2 d x
  stop : ∀ w1 S1, LeF w w1 → Sim C w1 S1 → chk S1 → J.stop xs.length w1.H
structure Iter where
  xs : List D
  chk : Sto → Prop
abbrev EvI := Env → Sto → Option (Iter × Sto)
structure SI (fa : String → Option Addr) (X : Cx) (tg iter : Expr) (f : EvI) : Prop where
  ex : ∃ wi, PI X tg iter wi ∧ ∀ w σ η S I S', RepE (cf fa X) w η σ → Sim (cf fa X) w S → f η S = some (I, S') → ∀ R : It → Hp → Prop, (∀ J w', Le w w' → Sim (cf fa X) w' S' → ItOk (cf fa X) w' J I.xs I.chk → R J w'.H) → wi σ w.H R

section
variable {C : Cf} {w : Wd}
theorem sql_mono {w' : Wd} {p : Addr} {vs : List V} (e : LeF w w') (hp : p ∉ w.F) (h : Rd w.H p (.lst vs)) : Rd w'.H p (.lst vs) := by
  rcases h with h | ⟨o, h⟩
  · exact .inl (e.keep _ _ h hp)
  · exact .inr ⟨o, e.keep _ _ h hp⟩
/-- a list or tuple that stays as it is, in each later world -/
theorem seq_at {S : Sto} {d : D} {v : V} {xs : List D} (r : Rep C w d v) {w1 : Wd} {S1 : Sto} (e : Le w w1) (s : Sim C w1 S1) (h : seqOf S1 d = some xs) : ∃ p vs, v = .ref p ∧ (SqL C.K w1.H p vs ∨ SqT C.K w1.H p vs) ∧ RepL C w1 xs vs := (r.mono e.f).seqH s h
end
theorem Sql_inj {K : PySem.W.Frag} {H : Hp} {a : Addr} {xs ys : List V} (h : H a = some (.lst xs)) (h' : Rd H a (.lst ys)) : xs = ys := by
  rcases h' with h' | ⟨o, h'⟩
  · rw [h] at h'; cases h'; rfl
  · rw [h] at h'; cases h'

/-- a list, a tuple -/
def iSeq (K : PySem.W.Frag) (tl : TE) : TI := fun σ H R => tl σ H fun x H1 => ∃ a, x = .ref a ∧ (((∃ xs, SqL K H1 a xs) ∧ R (Itl K a) H1) ∨ ((∃ xs, SqT K H1 a xs) ∧ R (Itt K a) H1))
theorem pi_seq {X : Cx} {tg l : Expr} {tl : TE} (hl : PE X l tl) : PI X tg l (iSeq X.K tl) := by
  refine ⟨fun pins s σ H R I h => ?_⟩
  refine thn (hl.run pins s σ H _ I h) fun v s1 ⟨x, H1, I1, r1, q1⟩ => ?_
  obtain ⟨a, e, q⟩ := q1
  subst e
  cases r1
  rcases q with ⟨⟨xs, hq⟩, q⟩ | ⟨⟨xs, hq⟩, q⟩
  · obtain ⟨its, rv, p, hz⟩ := I1.list hq
    refine wpAny_pyIter_list p.isList ?_
    refine ⟨s1.heap.objs.size, [s1.heap.objs.size], _, _, H1, rfl, I1.kept (t' := s1.toks) fun b o e => Heap.get?_push_of_some _ e, turn_list a _, ⟨_, Heap.get?_push_size _ rfl, rfl, rfl⟩, fun b hb => ?_, q⟩
    have e : b = s1.heap.objs.size := by simpa using hb
    subst e
    exact I1.fpOk (Nat.le_refl _) (I1.hok.fresh (Nat.le_refl _))
  · obtain ⟨its, rv, p, hz⟩ := I1.tuple hq
    refine wpAny_pyIter_tuple (show s1.heap.IsTuple a its.toArray from p) ?_
    refine ⟨s1.heap.objs.size, [s1.heap.objs.size], _, _, H1, rfl, I1.kept (t' := s1.toks) fun b o e => Heap.get?_push_of_some _ e, turn_tuple a _, ⟨_, Heap.get?_push_size _ rfl, rfl, rfl⟩, fun b hb => ?_, q⟩
    have e : b = s1.heap.objs.size := by simpa using hb
    subst e
    exact I1.fpOk (Nat.le_refl _) (I1.hok.fresh (Nat.le_refl _))
/-- one meaning of what a list's address reads as -/
structure SqlU (K : PySem.W.Frag) (H : Hp) (a : Addr) (xs : List V) : Prop where
  is : SqL K H a xs
/-- the datum's list or tuple as HandS's iterators see it -/
theorem itl_ok {C : Cf} {w : Wd} {p : Addr} {d : D} {xs : List D} (r : Rep C w d (.ref p)) (hl : ∀ w1 S1, LeF w w1 → Sim C w1 S1 → seqOf S1 d = some xs → ∃ vs, SqL C.K w1.H p vs ∧ RepL C w1 xs vs) : ItOk C w (Itl C.K p) xs (fun S => seqOf S d = some xs) where
  go := fun i w1 S1 e s hc hi => by
    obtain ⟨vs, hv, rv⟩ := hl w1 S1 e s hc
    obtain ⟨v, h1, _⟩ := rv.get (List.getElem?_eq_getElem hi)
    exact ⟨vs, v, hv, h1⟩
  yld := fun i w1 S1 x H' e s hc _ ⟨h1, h2⟩ => by
    obtain ⟨vs, hv, rv⟩ := hl w1 S1 e s hc
    obtain ⟨d', h3, h4⟩ := rv.getV (h2 vs hv)
    exact ⟨w1, d', h1.symm, Le.refl _, s, rfl, rfl, h3, h4⟩
  stop := fun w1 S1 e s hc => by
    obtain ⟨vs, hv, rv⟩ := hl w1 S1 e s hc
    exact ⟨vs, hv, by rw [rv.length]; exact Nat.le_refl _⟩
theorem itt_ok {C : Cf} {w : Wd} {p : Addr} {d : D} {xs : List D} (r : Rep C w d (.ref p)) (hl : ∀ w1 S1, LeF w w1 → Sim C w1 S1 → seqOf S1 d = some xs → ∃ vs, SqT C.K w1.H p vs ∧ RepL C w1 xs vs) : ItOk C w (Itt C.K p) xs (fun S => seqOf S d = some xs) where
  go := fun i w1 S1 e s hc hi => by
    obtain ⟨vs, hv, rv⟩ := hl w1 S1 e s hc
    obtain ⟨v, h1, _⟩ := rv.get (List.getElem?_eq_getElem hi)
    exact ⟨vs, v, hv, h1⟩
  yld := fun i w1 S1 x H' e s hc _ ⟨h1, h2⟩ => by
    obtain ⟨vs, hv, rv⟩ := hl w1 S1 e s hc
    obtain ⟨d', h3, h4⟩ := rv.getV (h2 vs hv)
    exact ⟨w1, d', h1.symm, Le.refl _, s, rfl, rfl, h3, h4⟩
  stop := fun w1 S1 e s hc => by
    obtain ⟨vs, hv, rv⟩ := hl w1 S1 e s hc
    exact ⟨vs, hv, by rw [rv.length]; exact Nat.le_refl _⟩
/-- is it a tuple? (a list else) -/
def isTup : D → Bool
  | .tup _ => true
  | _ => false
theorem Rep.seqL {C : Cf} {w : Wd} {S : Sto} {d : D} {p : Addr} {xs : List D} (s : Sim C w S) (r : Rep C w d (.ref p)) (h : seqOf S d = some xs) (ht : isTup d = false) : ∃ vs, SqL C.K w.H p vs ∧ RepL C w xs vs := by
  cases d with
  | tup ys => cases ht
  | scr ys =>
    cases h
    cases r with
    | frz e hp r => exact ⟨_, .inl (.inr ⟨_, e⟩), r⟩
    | scrK e r => exact ⟨_, .inr e, r⟩
  | lst ys =>
    obtain ⟨q, vs, e, h1, r⟩ := r.lstH s h
    cases e
    exact ⟨vs, .inl (.inl h1), r⟩
  | ref i =>
    obtain ⟨q, vs, e, h1, r⟩ := r.lstH s h
    cases e
    exact ⟨vs, .inl (.inl h1), r⟩
  | _ => cases h
theorem Rep.seqT {C : Cf} {w : Wd} {S : Sto} {d : D} {p : Addr} {xs : List D} (r : Rep C w d (.ref p)) (h : seqOf S d = some xs) (ht : isTup d = true) : ∃ vs, SqT C.K w.H p vs ∧ RepL C w xs vs := by
  cases d with
  | tup ys =>
    cases h
    obtain ⟨q, vs, e, h1, r⟩ := r.tupH
    cases e
    exact ⟨vs, h1, r⟩
  | _ => cases ht
def iE (f : Ev) : EvI := fun η S => (f η S).bind fun p => (seqOf p.2 p.1).bind fun xs => some (⟨xs, fun S => seqOf S p.1 = some xs⟩, p.2)
section
variable {fa : String → Option Addr} {X : Cx} {tg e : Expr} {f : Ev} {pos p : Pos}
theorem si_seq (h : SE fa X e f) : SI fa X tg e (iE f) := by
  obtain ⟨t, q, h⟩ := h.ex
  refine ⟨iSeq X.K t, pi_seq q, fun w σ η S I S' hη hS hf R hR => ?_⟩
  obtain ⟨⟨d, S1⟩, h1, hf⟩ := bsome hf
  obtain ⟨xs, h2, hf⟩ := bsome hf
  cases hf
  refine h w σ η S d S1 hη hS h1 _ fun v w1 e1 s1 r1 => ?_
  obtain ⟨a, vs, rfl, _, _⟩ := r1.seqH s1 h2
  refine ⟨a, rfl, ?_⟩
  cases ht : isTup d with
  | false =>
    obtain ⟨vs, hv, _⟩ := r1.seqL s1 h2 ht
    exact .inl ⟨⟨vs, hv⟩, hR _ w1 e1 s1 (itl_ok r1 fun w2 S2 e2 s2 h => (r1.mono e2).seqL s2 h ht)⟩
  | true =>
    obtain ⟨vs, hv, _⟩ := r1.seqT h2 ht
    exact .inr ⟨⟨vs, hv⟩, hR _ w1 e1 s1 (itt_ok r1 fun w2 S2 e2 s2 h => (r1.mono e2).seqT h ht)⟩
/-! ranges -/
def rangeD (lo : Int) (n : Nat) : List D := (List.range n).map fun i => .int (lo + (i : Nat))
def iRange1 (fs : EvA) : EvI := fun η S => (fs η S).bind fun q => match q.1 with
  | [.int j] => if -(2 ^ 62) ≤ j ∧ j < 2 ^ 62 then some (⟨rangeD 0 j.toNat, fun _ => True⟩, q.2) else none
  | _ => none
def iRange2 (fs : EvA) : EvI := fun η S => (fs η S).bind fun q => match q.1 with
  | [.int i, .int j] => if -(2 ^ 62) ≤ i ∧ i < 2 ^ 62 ∧ -(2 ^ 62) ≤ j ∧ j < 2 ^ 62 then some (⟨rangeD i (j - i).toNat, fun _ => True⟩, q.2) else none
  | _ => none
theorem itr_ok {C : Cf} {w : Wd} {lo : Int} {n : Nat} : ItOk C w (Itr lo n) (rangeD lo n) (fun _ => True) where
  go := fun i w1 S1 e s hc hi => by
    have : i < n := by simpa [rangeD] using hi
    exact this
  yld := fun i w1 S1 x H' e s hc hi ⟨h1, h2⟩ => by
    have hn : i < n := by simpa [rangeD] using hi
    exact ⟨w1, .int (lo + (i : Nat)), h1.symm, Le.refl _, s, rfl, rfl, by simp [rangeD, hn], by rw [h2]; exact .int _⟩
  stop := fun w1 S1 e s hc => by
    show n ≤ (rangeD lo n).length
    simp [rangeD]
theorem si_range1 {a : Expr} {fs : EvA} (hg : Gl X "range") (hm : X.mg "range" = none) (ha : SA fa X [a] fs) (hs : starEach [a] X.env = [(false, eval a X.env)] := by rfl) : SI fa X tg (.Call (.Name "range" p) [a] [] pos) (iRange1 fs) := by
  obtain ⟨t, q, h⟩ := ha.ex
  refine ⟨_, pi_range1 hg hm q hs, fun w σ η S I S' hη hS hf R hR => ?_⟩
  obtain ⟨⟨ds, S1⟩, h1, hf⟩ := bsome hf
  refine h w σ η S ds S1 hη hS h1 _ fun vs w1 e1 s1 r1 => ?_
  simp only at hf
  split at hf
  · split at hf
    · rename_i hz
      cases hf
      obtain ⟨v, rfl, r⟩ := r1.inv1
      cases r
      exact ⟨_, rfl, hz.1, hz.2, hR _ w1 e1 s1 itr_ok⟩
    · cases hf
  · cases hf
theorem si_range2 {a b : Expr} {fs : EvA} (hg : Gl X "range") (hm : X.mg "range" = none) (ha : SA fa X [a, b] fs) (hs : starEach [a, b] X.env = [(false, eval a X.env), (false, eval b X.env)] := by rfl) (hs2 : starEach [b] X.env = [(false, eval b X.env)] := by rfl) :
    SI fa X tg (.Call (.Name "range" p) [a, b] [] pos) (iRange2 fs) := by
  obtain ⟨t, q, h⟩ := ha.ex
  refine ⟨_, pi_range2 hg hm q hs hs2, fun w σ η S I S' hη hS hf R hR => ?_⟩
  obtain ⟨⟨ds, S1⟩, h1, hf⟩ := bsome hf
  refine h w σ η S ds S1 hη hS h1 _ fun vs w1 e1 s1 r1 => ?_
  simp only at hf
  split at hf
  · split at hf
    · rename_i hz
      cases hf
      obtain ⟨v, u, rfl, r, r2⟩ := r1.inv2
      cases r; cases r2
      exact ⟨_, _, rfl, hz, hR _ w1 e1 s1 itr_ok⟩
    · cases hf
  · cases hf
/-! zip of two lists, of two tuples -/
def zipD (xs ys : List D) : List D := (xs.zip ys).map fun p => .tup [p.1, p.2]
def iZip (fs : EvA) : EvI := fun η S => (fs η S).bind fun q => match q.1 with
  | [a, b] => if isTup a = isTup b then (seqOf q.2 a).bind fun xs => (seqOf q.2 b).bind fun ys => some (⟨zipD xs ys, fun S => seqOf S a = some xs ∧ seqOf S b = some ys⟩, q.2) else none
  | _ => none
theorem zipD_get {xs ys : List D} {i : Nat} {x y : D} (h1 : xs[i]? = some x) (h2 : ys[i]? = some y) : (zipD xs ys)[i]? = some (.tup [x, y]) := by
  unfold zipD
  rw [List.getElem?_map]
  have : (xs.zip ys)[i]? = some (x, y) := by rw [List.getElem?_zip_eq_some]; exact ⟨h1, h2⟩
  rw [this]; rfl
theorem zipD_len {xs ys : List D} : (zipD xs ys).length = min xs.length ys.length := by simp [zipD]
theorem itz_ok {C : Cf} {w : Wd} {a b : Addr} {d e : D} {xs ys : List D} (hl : ∀ w1 S1, LeF w w1 → Sim C w1 S1 → seqOf S1 d = some xs → ∃ vs, SqL C.K w1.H a vs ∧ RepL C w1 xs vs) (hr : ∀ w1 S1, LeF w w1 → Sim C w1 S1 → seqOf S1 e = some ys → ∃ vs, SqL C.K w1.H b vs ∧ RepL C w1 ys vs) :
    ItOk C w (Itz C.K a b) (zipD xs ys) (fun S => seqOf S d = some xs ∧ seqOf S e = some ys) where
  go := fun i w1 S1 le s ⟨c1, c2⟩ hi => by
    rw [zipD_len] at hi
    obtain ⟨vs, hv, rv⟩ := hl w1 S1 le s c1
    obtain ⟨us, hu, ru⟩ := hr w1 S1 le s c2
    obtain ⟨v, h1, _⟩ := rv.get (List.getElem?_eq_getElem (show i < xs.length by omega))
    obtain ⟨u, h2, _⟩ := ru.get (List.getElem?_eq_getElem (show i < ys.length by omega))
    exact ⟨vs, us, v, u, hv, hu, h1, h2⟩
  yld := fun i w1 S1 x H' le s ⟨c1, c2⟩ hi ⟨T, v, u, ex, hT, eH, h1, h2⟩ => by
    obtain ⟨vs, hv, rv⟩ := hl w1 S1 le s c1
    obtain ⟨us, hu, ru⟩ := hr w1 S1 le s c2
    obtain ⟨d1, h3, h4⟩ := rv.getV (h1 vs hv)
    obtain ⟨d2, h5, h6⟩ := ru.getV (h2 us hu)
    subst ex
    exact ⟨⟨w1.mu, w1.L, upd w1.H T (.tup [v, u])⟩, .tup [d1, d2], eH.symm, Le.new' hT, s.new hT, rfl, rfl, zipD_get h3 h5, .tup upd_same (s.fresh hT) (.cons (h4.mono (Le.new' hT).f) (.cons (h6.mono (Le.new' hT).f) .nil))⟩
  stop := fun w1 S1 le s ⟨c1, c2⟩ => by
    obtain ⟨vs, hv, rv⟩ := hl w1 S1 le s c1
    obtain ⟨us, hu, ru⟩ := hr w1 S1 le s c2
    refine ⟨vs, us, hv, hu, ?_⟩
    rw [zipD_len, ← rv.length, ← ru.length]
    omega
theorem itzt_ok {C : Cf} {w : Wd} {a b : Addr} {d e : D} {xs ys : List D} (hl : ∀ w1 S1, LeF w w1 → Sim C w1 S1 → seqOf S1 d = some xs → ∃ vs, SqT C.K w1.H a vs ∧ RepL C w1 xs vs) (hr : ∀ w1 S1, LeF w w1 → Sim C w1 S1 → seqOf S1 e = some ys → ∃ vs, SqT C.K w1.H b vs ∧ RepL C w1 ys vs) :
    ItOk C w (RZ.ItzT C.K a b) (zipD xs ys) (fun S => seqOf S d = some xs ∧ seqOf S e = some ys) where
  go := fun i w1 S1 le s ⟨c1, c2⟩ hi => by
    rw [zipD_len] at hi
    obtain ⟨vs, hv, rv⟩ := hl w1 S1 le s c1
    obtain ⟨us, hu, ru⟩ := hr w1 S1 le s c2
    obtain ⟨v, h1, _⟩ := rv.get (List.getElem?_eq_getElem (show i < xs.length by omega))
    obtain ⟨u, h2, _⟩ := ru.get (List.getElem?_eq_getElem (show i < ys.length by omega))
    exact ⟨vs, us, v, u, hv, hu, h1, h2⟩
  yld := fun i w1 S1 x H' le s ⟨c1, c2⟩ hi ⟨T, v, u, ex, hT, eH, h1, h2⟩ => by
    obtain ⟨vs, hv, rv⟩ := hl w1 S1 le s c1
    obtain ⟨us, hu, ru⟩ := hr w1 S1 le s c2
    obtain ⟨d1, h3, h4⟩ := rv.getV (h1 vs hv)
    obtain ⟨d2, h5, h6⟩ := ru.getV (h2 us hu)
    subst ex
    exact ⟨⟨w1.mu, w1.L, upd w1.H T (.tup [v, u])⟩, .tup [d1, d2], eH.symm, Le.new' hT, s.new hT, rfl, rfl, zipD_get h3 h5, .tup upd_same (s.fresh hT) (.cons (h4.mono (Le.new' hT).f) (.cons (h6.mono (Le.new' hT).f) .nil))⟩
  stop := fun w1 S1 le s ⟨c1, c2⟩ => by
    obtain ⟨vs, hv, rv⟩ := hl w1 S1 le s c1
    obtain ⟨us, hu, ru⟩ := hr w1 S1 le s c2
    refine ⟨vs, us, hv, hu, ?_⟩
    rw [zipD_len, ← rv.length, ← ru.length]
    omega
theorem si_zip {e e2 : Expr} {fs : EvA} {tpos : Pos} {elts : List Expr} {kk : Nat} (hg : Gl X "zip") (hm : X.mg "zip" = none) (ha : SA fa X [e, e2] fs)
    (hs : starEach [e, e2] X.env = (false, eval e X.env) :: starEach [e2] X.env := by rfl) (hpl : (backTo pos (starEach [e2] X.env)).any (·.1) = false := by rfl) : SI fa X (.Tuple elts kk tpos) (.Call (.Name "zip" p) [e, e2] [] pos) (iZip fs) := by
  obtain ⟨t, q, h⟩ := ha.ex
  refine ⟨_, RZ.pi_zipA hg hm q hs hpl, fun w σ η S I S' hη hS hf R hR => ?_⟩
  obtain ⟨⟨ds, S1⟩, h1, hf⟩ := bsome hf
  refine h w σ η S ds S1 hη hS h1 _ fun vs w1 e1 s1 r1 => ?_
  simp only at hf
  split at hf
  · split at hf
    · rename_i a b ht
      obtain ⟨xs, h2, hf⟩ := bsome hf
      obtain ⟨ys, h3, hf⟩ := bsome hf
      cases hf
      obtain ⟨v, u, rfl, r, r2⟩ := r1.inv2
      obtain ⟨pa, va, rfl, _, _⟩ := r.seqH s1 h2
      obtain ⟨pb, vb, rfl, _, _⟩ := r2.seqH s1 h3
      cases hta : isTup a with
      | false =>
        have htb : isTup b = false := by rw [← ht]; exact hta
        obtain ⟨vs, hv, _⟩ := r.seqL s1 h2 hta
        obtain ⟨us, hu, _⟩ := r2.seqL s1 h3 htb
        exact ⟨pa, pb, vs, us, rfl, .inl ⟨hv, hu, hR _ w1 e1 s1 (itz_ok (fun w2 S2 e2 s2 h => (r.mono e2).seqL s2 h hta) fun w2 S2 e2 s2 h => (r2.mono e2).seqL s2 h htb)⟩⟩
      | true =>
        have htb : isTup b = true := by rw [← ht]; exact hta
        obtain ⟨vs, hv, _⟩ := r.seqT h2 hta
        obtain ⟨us, hu, _⟩ := r2.seqT h3 htb
        exact ⟨pa, pb, vs, us, rfl, .inr ⟨hv, hu, hR _ w1 e1 s1 (itzt_ok (fun w2 S2 e2 s2 h => (r.mono e2).seqT h hta) fun w2 S2 e2 s2 h => (r2.mono e2).seqT h htb)⟩⟩
    · cases hf
  · cases hf
end

/-! ### targets: names, tuples of targets; the slots that they set -/
abbrev Tg := D → Env → Option Env
structure SG (fa : String → Option Addr) (X : Cx) (tg : Expr) (f : Tg) (ts : List Nat) : Prop where
  ex : ∃ g, PG X tg g ∧ ∀ w σ η S d v η', RepE (cf fa X) w η σ → Sim (cf fa X) w S → Rep (cf fa X) w d v → f d η = some η' →
    ∀ Q : L2.St → Hp → Prop, (∀ σ', RepE (cf fa X) w η' σ' → σ'.length = σ.length → (∀ j, j ∉ ts → σ'[j]? = σ[j]?) → Q σ' w.H) → g v σ w.H Q
structure SGs (fa : String → Option Addr) (X : Cx) (tgs : List Expr) (f : List D → Env → Option Env) (ts : List Nat) : Prop where
  ex : ∃ g, PGs X tgs g ∧ ∀ w σ η S ds vs η', RepE (cf fa X) w η σ → Sim (cf fa X) w S → RepL (cf fa X) w ds vs → f ds η = some η' →
    ∀ Q : L2.St → Hp → Prop, (∀ σ', RepE (cf fa X) w η' σ' → σ'.length = σ.length → (∀ j, j ∉ ts → σ'[j]? = σ[j]?) → Q σ' w.H) → g vs σ w.H Q
def gN (i : Nat) : Tg := fun d η => some (η.set i (some d))
def gNil : List D → Env → Option Env := fun ds η => match ds with
  | [] => some η
  | _ => none
def gCons (f : Tg) (g : List D → Env → Option Env) : List D → Env → Option Env := fun ds η => match ds with
  | d :: ds => (f d η).bind fun η' => g ds η'
  | _ => none
def gT (n : Nat) (f : List D → Env → Option Env) : Tg := fun d η => match d with
  | .tup ds => if ds.length = n then f ds η else none
  | _ => none
section
variable {fa : String → Option Addr} {X : Cx} {pos : Pos}
theorem sg_name {i : Nat} {x : Str} (hN : X.N.Nodup) (hi : X.N[i]? = some x) (hx : Loc X.env.scope x) (hf : X.fn x = true ∨ X.env.scope.names.lookup x = some .local := by first | exact .inl rfl | exact .inr rfl | assumption) : SG fa X (.Name x pos) (gN i) [i] :=
  ⟨gName i, pg_name hN hi hx hf, fun w σ η S d v η' hη hS r h Q hQ => by
    cases h
    exact hQ _ (hη.set r) List.length_set fun j hj => List.getElem?_set_ne (by rintro rfl; exact hj (by simp))⟩
theorem sgs_nil : SGs fa X [] gNil [] := ⟨L2.gNil, pgs_nil, fun w σ η S ds vs η' hη hS r h Q hQ => by
  cases r with
  | nil =>
    cases h
    exact ⟨rfl, hQ σ hη rfl fun _ _ => rfl⟩
  | cons => cases h⟩
theorem sgs_cons {e : Expr} {es : List Expr} {f : Tg} {g : List D → Env → Option Env} {ts us : List Nat} (h1 : SG fa X e f ts) (h2 : SGs fa X es g us)
    (hs : (assignEach (e :: es) X.env).map (·.2) = assign e X.env :: (assignEach es X.env).map (·.2) := by rfl) : SGs fa X (e :: es) (gCons f g) (ts ++ us) := by
  obtain ⟨t, p, h1⟩ := h1.ex
  obtain ⟨u, q, h2⟩ := h2.ex
  refine ⟨L2.gCons t u, pgs_cons p q hs, fun w σ η S ds vs η' hη hS r h Q hQ => ?_⟩
  cases r with
  | nil => cases h
  | cons r rs =>
    obtain ⟨η1, h3, h4⟩ := bsome h
    refine ⟨_, _, rfl, h1 w σ η S _ _ η1 hη hS r h3 _ fun σ1 hη1 l1 k1 => h2 w σ1 η1 S _ _ η' hη1 hS rs h4 Q fun σ2 hη2 l2 k2 => hQ σ2 hη2 (l2.trans l1) fun j hj => ?_⟩
    rw [k2 j (fun z => hj (List.mem_append_right _ z)), k1 j (fun z => hj (List.mem_append_left _ z))]
theorem sg_tup {es : List Expr} {k : Nat} {f : List D → Env → Option Env} {n : Nat} {ts : List Nat} (hc : X.calm = true) (h : SGs fa X es f ts)
    (hn : (assignEach es X.env).length = n := by rfl) (hst : (assignEach es X.env).findIdx? (·.1) = none := by rfl) : SG fa X (.Tuple es k pos) (gT n f) ts := by
  obtain ⟨t, p, h⟩ := h.ex
  refine ⟨gTup X.K n t, pg_tup hc p hn hst, fun w σ η S d v η' hη hS r hf Q hQ => ?_⟩
  unfold gT at hf
  split at hf
  · split at hf
    · rename_i hl
      obtain ⟨q, vs, rfl, hv, rv⟩ := r.tupH
      exact ⟨q, vs, rfl, hv, by rw [← rv.length]; exact hl, h w σ η S _ vs η' hη hS rv hf Q hQ⟩
    · cases hf
  · cases hf
end

/-! ### statements -/
inductive Fl where
  | nx | bk | ct | ret (d : D)
abbrev Sv := Env → Sto → Option (Fl × Env × Sto)
def SPost (C : Cf) (w : Wd) (fl : Fl) (η : Env) (S : Sto) (Dn : Ends) : Prop := match fl with
  | .nx => ∀ σ' w', Le w w' → Sim C w' S → RepE C w' η σ' → Dn.nx σ' w'.H
  | .bk => ∀ σ' w', Le w w' → Sim C w' S → RepE C w' η σ' → Dn.bk σ' w'.H
  | .ct => ∀ σ' w', Le w w' → Sim C w' S → RepE C w' η σ' → Dn.ct σ' w'.H
  | .ret d => ∀ v w', Le w w' → Sim C w' S → Rep C w' d v → Dn.rt v w'.H
theorem SPost.mono {C : Cf} {w w' : Wd} {fl : Fl} {η : Env} {S : Sto} {Dn : Ends} (e : Le w w') (h : SPost C w fl η S Dn) : SPost C w' fl η S Dn := by
  cases fl with
  | nx => exact fun σ w2 e2 => h σ w2 (e.trans e2)
  | bk => exact fun σ w2 e2 => h σ w2 (e.trans e2)
  | ct => exact fun σ w2 e2 => h σ w2 (e.trans e2)
  | ret d => exact fun v w2 e2 => h v w2 (e.trans e2)
structure SS (fa : String → Option Addr) (X : Cx) (st : Stmt) (g : Sv) : Prop where
  ex : ∃ t, PS X st t ∧ ∀ w σ η S fl η' S', RepE (cf fa X) w η σ → Sim (cf fa X) w S → g η S = some (fl, η', S') → ∀ Dn : Ends, SPost (cf fa X) w fl η' S' Dn → t Dn σ w.H
structure SSs (fa : String → Option Addr) (X : Cx) (st : List Stmt) (g : Sv) : Prop where
  ex : ∃ t, PSs X st t ∧ ∀ w σ η S fl η' S', RepE (cf fa X) w η σ → Sim (cf fa X) w S → g η S = some (fl, η', S') → ∀ Dn : Ends, SPost (cf fa X) w fl η' S' Dn → t Dn σ w.H
def sNil : Sv := fun η S => some (.nx, η, S)
def sSeq (f g : Sv) : Sv := fun η S => (f η S).bind fun p => match p.1 with
  | .nx => g p.2.1 p.2.2
  | _ => some p
section
variable {fa : String → Option Addr} {X : Cx} {M : PM} {st : Stmt} {sts : List Stmt} {f g : Sv} {e : Expr} {fe : Ev} {pos : Pos}
theorem sss_nil : SSs fa X [] sNil := ⟨tNext, pss_nil, fun w σ η S fl η' S' hη hS hf Dn hD => by
  cases hf
  exact hD σ w (Le.refl w) hS hη⟩
theorem sss_cons (h1 : SS fa X st f) (h2 : SSs fa X sts g) : SSs fa X (st :: sts) (sSeq f g) := by
  obtain ⟨t, p, h1⟩ := h1.ex
  obtain ⟨u, q, h2⟩ := h2.ex
  refine ⟨tSeq t u, pss_cons p q, fun w σ η S fl η' S' hη hS hf Dn hD => ?_⟩
  obtain ⟨⟨fl1, η1, S1⟩, h3, hf⟩ := bsome hf
  refine h1 w σ η S fl1 η1 S1 hη hS h3 _ ?_
  cases fl1 with
  | nx => exact fun σ' w' e s hη' => h2 w' σ' η1 S1 fl η' S' hη' s hf Dn (hD.mono e)
  | bk => cases hf; exact hD
  | ct => cases hf; exact hD
  | ret d => cases hf; exact hD
theorem sss_one (h1 : SS fa X st f) : SSs fa X [st] f := let ⟨t, p, h⟩ := h1.ex; ⟨t, pss_one p, h⟩
def sRet (f : Ev) : Sv := fun η S => (f η S).bind fun p => some (.ret p.1, η, p.2)
theorem ss_ret (h : SE fa X e fe) : SS fa X (.Return (some e) pos) (sRet fe) := by
  obtain ⟨t, p, h⟩ := h.ex
  refine ⟨tRet t, ps_ret p, fun w σ η S fl η' S' hη hS hf Dn hD => ?_⟩
  obtain ⟨⟨d, S1⟩, h3, hf⟩ := bsome hf
  cases hf
  exact h w σ η S d S1 hη hS h3 _ hD
def sRetN : Sv := fun η S => some (.ret .non, η, S)
theorem ss_retN : SS fa X (.Return none pos) sRetN := ⟨tRetN, ps_retN, fun w σ η S fl η' S' hη hS hf Dn hD => by
  cases hf
  exact hD .non w (Le.refl w) hS .non⟩
def sBk : Sv := fun η S => some (.bk, η, S)
def sCt : Sv := fun η S => some (.ct, η, S)
theorem ss_break : SS fa X (.Break pos) sBk := ⟨tBreak, ps_break, fun w σ η S fl η' S' hη hS hf Dn hD => by
  cases hf
  exact hD σ w (Le.refl w) hS hη⟩
theorem ss_cont : SS fa X (.Continue pos) sCt := ⟨tCont, ps_continue, fun w σ η S fl η' S' hη hS hf Dn hD => by
  cases hf
  exact hD σ w (Le.refl w) hS hη⟩
theorem ss_pass : SS fa X (.Pass pos) sNil := ⟨tNext, ps_pass, fun w σ η S fl η' S' hη hS hf Dn hD => by
  cases hf
  exact hD σ w (Le.refl w) hS hη⟩
def sExp (f : Ev) : Sv := fun η S => (f η S).bind fun p => some (.nx, η, p.2)
theorem ss_expr (h : SE fa X e fe) (hs : swapsWith e none pos.line X.env = pure false := by rfl) : SS fa X (.Expr e pos) (sExp fe) := by
  obtain ⟨t, p, h⟩ := h.ex
  refine ⟨tDrop t, ps_expr p hs, fun w σ η S fl η' S' hη hS hf Dn hD => ?_⟩
  obtain ⟨⟨d, S1⟩, h3, hf⟩ := bsome hf
  cases hf
  exact h w σ η S d S1 hη hS h3 _ fun v w' e s r => hD σ w' e s (hη.mono e.f)
def sIf (c : EvB) (f g : Sv) : Sv := fun η S => (c η S).bind fun p => if p.1 then f η p.2 else g η p.2
theorem ss_if {c : Expr} {tc : EvB} {a b : List Stmt} (hc : ST fa X c tc) (ha : SSs fa X a f) (hb : SSs fa X b g) : SS fa X (.If c a b pos) (sIf tc f g) := by
  obtain ⟨t, p, hc⟩ := hc.ex
  obtain ⟨ta, pa, ha⟩ := ha.ex
  obtain ⟨tb, pb, hb⟩ := hb.ex
  refine ⟨tIfS t ta tb, ps_if p pa pb, fun w σ η S fl η' S' hη hS hf Dn hD => ?_⟩
  obtain ⟨⟨k, S1⟩, h1, hf⟩ := bsome hf
  refine hc w σ η S k S1 hη hS h1 _ fun w1 e1 s1 => ?_
  cases k with
  | true => exact ha w1 σ η S1 fl η' S' (hη.mono e1.f) s1 (by simpa using hf) Dn (hD.mono e1)
  | false => exact hb w1 σ η S1 fl η' S' (hη.mono e1.f) s1 (by simpa using hf) Dn (hD.mono e1)
/-- name = e -/
def sSet (i : Nat) (f : Ev) : Sv := fun η S => (f η S).bind fun p => some (.nx, η.set i (some p.1), p.2)
theorem ss_set {i : Nat} {x : Str} {pos' : Pos} (hN : X.N.Nodup) (hi : X.N[i]? = some x) (hx : Loc X.env.scope x) (he : SE fa X e fe) (hs : swapsWith e (some (.Name x pos')) pos.line X.env = pure false := by rfl) (hf : X.fn x = true ∨ X.env.scope.names.lookup x = some .local := by first | exact .inl rfl | exact .inr rfl | assumption) :
    SS fa X (.Assign [.Name x pos'] e pos) (sSet i fe) := by
  obtain ⟨t, p, h⟩ := he.ex
  refine ⟨_, ps_set hN hi hx p hs hf, fun w σ η S fl η' S' hη hS hf Dn hD => ?_⟩
  obtain ⟨⟨d, S1⟩, h3, hf⟩ := bsome hf
  cases hf
  exact h w σ η S d S1 hη hS h3 _ fun v w' e s r => hD _ w' e s ((hη.mono e.f).set r)
/-- a target = e -/
def sAsg (g : Tg) (f : Ev) : Sv := fun η S => (f η S).bind fun p => (g p.1 η).bind fun η' => some (.nx, η', p.2)
theorem ss_asg {tg : Expr} {ts : List Nat} {gf : Tg} (he : SE fa X e fe) (hg : SG fa X tg gf ts) (hs : swapsWithSole [tg] e pos.line X.env = pure false := by rfl) (hw : swappedStores [tg] e X.env = pure none := by rfl)
    (h1 : (assignEach [tg] X.env).map (·.2) = [assign tg X.env] := by rfl) : SS fa X (.Assign [tg] e pos) (sAsg gf fe) := by
  obtain ⟨t, p, h⟩ := he.ex
  obtain ⟨u, q, hg⟩ := hg.ex
  refine ⟨tAsg t u, ps_asg p q hs hw h1, fun w σ η S fl η' S' hη hS hf Dn hD => ?_⟩
  obtain ⟨⟨d, S1⟩, h3, hf⟩ := bsome hf
  obtain ⟨η1, h4, hf⟩ := bsome hf
  cases hf
  exact h w σ η S d S1 hη hS h3 _ fun v w' e s r => hg w' σ η _ d v _ (hη.mono e.f) s r h4 _ fun σ' hη' _ _ => hD σ' w' e s hη'
/-- a, b = x, y -/
def sPar (i j : Nat) (fs : EvA) : Sv := fun η S => (fs η S).bind fun p => match p.1 with
  | [a, b] => some (.nx, (η.set i (some a)).set j (some b), p.2)
  | _ => none
theorem ss_par {i j : Nat} {x y : Str} {a b : Expr} {fs : EvA} {px py pt : Pos} {kt k2 pt2} (hc : X.calm = true) (hN : X.N.Nodup) (hi : X.N[i]? = some x) (hj : X.N[j]? = some y) (hij : i ≠ j)
    (hx : X.env.scope.names.lookup x = some .local) (hy : X.env.scope.names.lookup y = some .local) (ha : SA fa X [a, b] fs)
    (hw : swappedStores [.Tuple [.Name x px, .Name y py] kt pt] (.Tuple [a, b] k2 pt2) X.env = pure (some [x, y]))
    (hs : swapsWithSole [.Tuple [.Name x px, .Name y py] kt pt] (.Tuple [a, b] k2 pt2) pos.line X.env = pure false := by rfl) :
    SS fa X (.Assign [.Tuple [.Name x px, .Name y py] kt pt] (.Tuple [a, b] k2 pt2) pos) (sPar i j fs) := by
  obtain ⟨t, p, h⟩ := ha.ex
  refine ⟨tPar i j t, ps_par hc hN hi hj hij hx hy p hw hs, fun w σ η S fl η' S' hη hS hf Dn hD => ?_⟩
  obtain ⟨⟨ds, S1⟩, h3, hf⟩ := bsome hf
  refine h w σ η S ds S1 hη hS h3 _ fun vs w' e s r => ?_
  simp only at hf
  split at hf
  · cases hf
    obtain ⟨v, u, rfl, r1, r2⟩ := r.inv2
    exact ⟨v, u, rfl, hD _ w' e s (((hη.mono e.f).set r1).set r2)⟩
  · cases hf
/-! for -/
open Classical in
noncomputable def forR (chk : Sto → Prop) (tg : Tg) (body : Sv) : List D → Env → Sto → Option (Fl × Env × Sto)
  | [], η, S => if chk S then some (.nx, η, S) else none
  | x :: xs, η, S => if chk S then (tg x η).bind fun η1 => (body η1 S).bind fun p => match p.1 with
    | .nx => forR chk tg body xs p.2.1 p.2.2
    | .ct => forR chk tg body xs p.2.1 p.2.2
    | .bk => some (.nx, p.2)
    | .ret d => some (.ret d, p.2) else none
noncomputable def sFor (it : EvI) (tg : Tg) (body : Sv) : Sv := fun η S => (it η S).bind fun p => forR p.1.chk tg body p.1.xs η p.2
theorem ss_for {tg iter : Expr} {body : List Stmt} {it : EvI} {gf : Tg} {ts : List Nat} (hp : PassesOwn (model X.prog X.w) X.A X.env X.xe) (hc : X.calm = true) (hi : SI fa X tg iter it) (hg : SG fa X tg gf ts) (hb : SSs fa X body f)
    (hs : ∀ x, foldedSetIterable iter X.env x = pure x := by intro _; rfl) : SS fa X (.For tg iter body [] pos) (sFor it gf f) := by
  obtain ⟨wi, q, hi⟩ := hi.ex
  obtain ⟨u, q2, hg⟩ := hg.ex
  obtain ⟨tb, q3, hb⟩ := hb.ex
  refine ⟨tFor wi u tb, ps_for hp hc q q2 q3 hs, fun w σ η S fl η' S' hη hS hf Dn hD => ?_⟩
  obtain ⟨⟨⟨xs, chk⟩, S1⟩, h3, hf⟩ := bsome hf
  refine hi w σ η S _ S1 hη hS h3 _ fun J w1 e1 s1 hJ => ?_
  have hJ : ItOk (cf fa X) w1 J xs chk := hJ
  have hf : forR chk gf f xs η S1 = some (fl, η', S') := hf
  refine ⟨fun i m σ H => ∃ w2 S2 η2, w2.H = H ∧ Le w1 w2 ∧ Sim (cf fa X) w2 S2 ∧ RepE (cf fa X) w2 η2 σ ∧ forR chk gf f (xs.drop i) η2 S2 = some (fl, η', S') ∧ i ≤ xs.length ∧ m = xs.length - i,
    ⟨xs.length, w1, S1, η, rfl, Le.refl _, s1, hη.mono e1.f, hf, Nat.zero_le _, rfl⟩, ?_⟩
  rintro i m σ2 H ⟨w2, S2, η2, rfl, e2, s2, hη2, hr, hi, rfl⟩
  by_cases hlt : i < xs.length
  · refine .inr ?_
    rw [List.drop_eq_getElem_cons hlt] at hr
    unfold forR at hr
    split at hr
    · rename_i hck
      obtain ⟨η3, h4, hr⟩ := bsome hr
      obtain ⟨⟨fl4, η4, S4⟩, h5, hr⟩ := bsome hr
      refine ⟨hJ.go i w2 S2 e2.f s2 hck hlt, fun σ' H' => ∃ w5 S5 η5, w5.H = H' ∧ Le w1 w5 ∧ Sim (cf fa X) w5 S5 ∧ RepE (cf fa X) w5 η5 σ' ∧ forR chk gf f (xs.drop (i + 1)) η5 S5 = some (fl, η', S'), ?_, ?_⟩
      · rintro σ' H' ⟨w5, S5, η5, h6, h7, h8, h9, h10⟩
        exact ⟨xs.length - (i + 1), by omega, w5, S5, η5, h6, h7, h8, h9, h10, hlt, rfl⟩
      · intro x H' hy
        obtain ⟨w3, d, rfl, e3, s3, _, _, hd, rd⟩ := hJ.yld i w2 S2 x H' e2.f s2 hck hlt hy
        rw [List.getElem?_eq_getElem hlt] at hd
        cases hd
        refine hg w3 σ2 η2 S2 _ x η3 (hη2.mono e3.f) s3 rd h4 _ fun σ3 hη3 _ _ => ?_
        refine hb w3 σ3 η3 S2 fl4 η4 S4 hη3 s3 h5 _ ?_
        cases fl4 with
        | nx => exact fun σ' w5 e5 s5 hη5 => ⟨w5, S4, η4, rfl, (e2.trans e3).trans e5, s5, hη5, hr⟩
        | ct => exact fun σ' w5 e5 s5 hη5 => ⟨w5, S4, η4, rfl, (e2.trans e3).trans e5, s5, hη5, hr⟩
        | bk =>
          cases hr
          exact hD.mono ((e1.trans e2).trans e3)
        | ret d =>
          cases hr
          exact hD.mono ((e1.trans e2).trans e3)
    · cases hr
  · have e : i = xs.length := by omega
    subst e
    rw [List.drop_length] at hr
    unfold forR at hr
    split at hr
    · rename_i hck
      cases hr
      exact .inl ⟨hJ.stop w2 _ e2.f s2 hck, hD σ2 w2 (e1.trans e2) s2 hη2⟩
    · cases hr
/-! while: so many turns at most -/
def whR (c : EvB) (body : Sv) : Nat → Env → Sto → Option (Fl × Env × Sto)
  | 0, _, _ => none
  | n + 1, η, S => (c η S).bind fun q => if q.1 then (body η q.2).bind fun p => match p.1 with
    | .nx => whR c body n p.2.1 p.2.2
    | .ct => whR c body n p.2.1 p.2.2
    | .bk => some (.nx, p.2)
    | .ret d => some (.ret d, p.2) else some (.nx, η, q.2)
def sWhile (n : Nat) (c : EvB) (body : Sv) : Sv := fun η S => whR c body n η S
theorem ss_while {c : Expr} {body : List Stmt} {tc : EvB} (n : Nat) (hp : PassesOwn (model X.prog X.w) X.A X.env X.xe) (hc : ST fa X c tc) (hb : SSs fa X body f) : SS fa X (.While c body [] pos) (sWhile n tc f) := by
  obtain ⟨t, q, hc⟩ := hc.ex
  obtain ⟨tb, q3, hb⟩ := hb.ex
  refine ⟨tWhile t tb, ps_while hp q q3, fun w σ η S fl η' S' hη hS hf Dn hD => ?_⟩
  refine ⟨fun m σ H => ∃ w2 S2 η2, w2.H = H ∧ Le w w2 ∧ Sim (cf fa X) w2 S2 ∧ RepE (cf fa X) w2 η2 σ ∧ whR tc f m η2 S2 = some (fl, η', S'), ⟨n, w, S, η, rfl, Le.refl _, hS, hη, hf⟩, ?_⟩
  rintro m σ2 H ⟨w2, S2, η2, rfl, e2, s2, hη2, hr⟩
  cases m with
  | zero => cases hr
  | succ m =>
    unfold whR at hr
    obtain ⟨⟨k, S3⟩, h3, hr⟩ := bsome hr
    refine hc w2 σ2 η2 S2 k S3 hη2 s2 h3 _ fun w3 e3 s3 => ?_
    cases k with
    | false =>
      simp only [Bool.false_eq_true, if_false] at hr ⊢
      cases hr
      exact hD σ2 w3 (e2.trans e3) s3 (hη2.mono e3.f)
    | true =>
      simp only [if_true] at hr ⊢
      obtain ⟨⟨fl4, η4, S4⟩, h5, hr⟩ := bsome hr
      refine ⟨fun σ' H' => ∃ w5 S5 η5, w5.H = H' ∧ Le w w5 ∧ Sim (cf fa X) w5 S5 ∧ RepE (cf fa X) w5 η5 σ' ∧ whR tc f m η5 S5 = some (fl, η', S'), ?_, ?_⟩
      · rintro σ' H' h
        exact ⟨m, Nat.lt_succ_self m, h⟩
      · refine hb w3 σ2 η2 S3 fl4 η4 S4 (hη2.mono e3.f) s3 h5 _ ?_
        cases fl4 with
        | nx => exact fun σ' w5 e5 s5 hη5 => ⟨w5, S4, η4, rfl, (e2.trans e3).trans e5, s5, hη5, hr⟩
        | ct => exact fun σ' w5 e5 s5 hη5 => ⟨w5, S4, η4, rfl, (e2.trans e3).trans e5, s5, hη5, hr⟩
        | bk =>
          cases hr
          exact hD.mono (e2.trans e3)
        | ret d =>
          cases hr
          exact hD.mono (e2.trans e3)
end
end HS
set_option Elab.async false
set_option linter.all false
set_option maxRecDepth 100000
set_option autoImplicit false
/-! List comprehensions, slices. -/
namespace HS
open PySem L2
/-! the weakest readings: one for all contexts of one kind -/
def tOf (C : Cf) (M : PM) (f : Ev) : TE := fun σ H Q => ∃ w η S d S', w.H = H ∧ RepE C w η σ ∧ Sim C w S ∧ f η S = some (d, S') ∧ M C w d S' Q
def ttOf (C : Cf) (f : EvB) : TT := fun σ H Q => ∃ w η S b S', w.H = H ∧ RepE C w η σ ∧ Sim C w S ∧ f η S = some (b, S') ∧ ∀ w', Le w w' → Sim C w' S' → Q b w'.H
def gOf (C : Cf) (tg : Tg) (ts : List Nat) : TG := fun v σ H Q => ∃ w η S d η', w.H = H ∧ RepE C w η σ ∧ Sim C w S ∧ Rep C w d v ∧ tg d η = some η' ∧ ∀ σ', RepE C w η' σ' → σ'.length = σ.length → (∀ j, j ∉ ts → σ'[j]? = σ[j]?) → Q σ' H
def iOf (C : Cf) (it : EvI) : TI := fun σ H R => ∃ w η S I S', w.H = H ∧ RepE C w η σ ∧ Sim C w S ∧ it η S = some (I, S') ∧ ∀ J w', Le w w' → Sim C w' S' → ItOk C w' J I.xs I.chk → R J w'.H
section
variable {fa : String → Option Addr} {X : Cx} {M : PM} {e tg iter : Expr} {f : Ev} {tf : EvB} {gf : Tg} {ts : List Nat} {it : EvI}
theorem SEm.canon (h : SEm fa M X e f) : PE X e (tOf (cf fa X) M f) := by
  obtain ⟨t, p, h⟩ := h.ex
  exact ⟨fun pins s σ H Q I ⟨w, η, S, d, S', e1, h1, h2, h3, h4⟩ => p.run pins s σ H Q I (by subst e1; exact h w σ η S d S' h1 h2 h3 Q h4)⟩
theorem ST.canon (h : ST fa X e tf) : PT X e (ttOf (cf fa X) tf) := by
  obtain ⟨t, p, h⟩ := h.ex
  exact ⟨fun pins s σ H Q I ⟨w, η, S, d, S', e1, h1, h2, h3, h4⟩ => p.run pins s σ H Q I (by subst e1; exact h w σ η S d S' h1 h2 h3 Q h4)⟩
theorem SG.canon (h : SG fa X tg gf ts) : PG X tg (gOf (cf fa X) gf ts) := by
  obtain ⟨t, p, h⟩ := h.ex
  exact ⟨fun pins s σ H v u Q I r ⟨w, η, S, d, η', e1, h1, h2, h3, h4, h5⟩ => p.run pins s σ H v u Q I r (by subst e1; exact h w σ η S d v η' h1 h2 h3 h4 Q h5)⟩
theorem SI.canon (h : SI fa X tg iter it) : PI X tg iter (iOf (cf fa X) it) := by
  obtain ⟨t, p, h⟩ := h.ex
  exact ⟨fun pins s σ H R I ⟨w, η, S, K, S', e1, h1, h2, h3, h4⟩ => p.run pins s σ H R I (by subst e1; exact h w σ η S K S' h1 h2 h3 R h4)⟩
/-- a clause's tests -/
structure STs (fa : String → Option Addr) (X : Cx) (ifs : List Expr) (f : EvB) : Prop where
  can : PTs X ifs (ttOf (cf fa X) f)
def tYesE : EvB := fun _ S => some (true, S)
theorem sts_nil : STs fa X [] tYesE := ⟨⟨fun pins s σ H Q I ⟨w, η, S, b, S', e1, h1, h2, h3, h4⟩ => by
  cases h3
  subst e1
  exact pts_nil.run pins s σ w.H Q I (h4 w (Le.refl w) h2)⟩⟩
theorem sts_one (h : ST fa X e tf) : STs fa X [e] tf := ⟨pts_one h.canon⟩
end
def wipeE (η : Env) : List Nat → Env
  | [] => η
  | v :: vs => (wipeE η vs).set v none
theorem wipeE_length (η : Env) : ∀ vs : List Nat, (wipeE η vs).length = η.length
  | [] => rfl
  | v :: vs => by unfold wipeE; rw [List.length_set, wipeE_length η vs]
theorem RepE.wipe {C : Cf} {w : Wd} {η : Env} {σ : L2.St} (h : RepE C w η σ) : ∀ vs : List Nat, RepE C w (wipeE η vs) (L2.wipe σ vs)
  | [] => h
  | v :: vs => by
    have ih := RepE.wipe h vs
    unfold wipeE L2.wipe
    refine ⟨by rw [List.length_set, List.length_set]; exact ih.1, fun i d e => ?_⟩
    by_cases hi : v = i
    · subst hi
      by_cases hv : v < (wipeE η vs).length
      · rw [List.getElem?_set_self hv] at e; cases e
      · rw [List.getElem?_eq_none (by simpa using hv)] at e; cases e
    · rw [List.getElem?_set_ne hi] at e ⊢
      exact ih.2 i d e
theorem wipe_get {σ : L2.St} {j : Nat} : ∀ {vs : List Nat}, j ∉ vs → (L2.wipe σ vs)[j]? = σ[j]?
  | [], _ => rfl
  | v :: vs, h => by
    unfold L2.wipe
    rw [List.getElem?_set_ne (fun e => h (by rw [e]; exact List.mem_cons_self))]
    exact wipe_get fun z => h (List.mem_cons_of_mem _ z)
theorem wipe_in {σ : L2.St} {j : Nat} : ∀ {vs : List Nat}, j ∈ vs → j < σ.length → (L2.wipe σ vs)[j]? = some none
  | v :: vs, h, hl => by
    unfold L2.wipe
    by_cases e : v = j
    · subst e
      exact List.getElem?_set_self (by rw [wipe_length]; exact hl)
    · rw [List.getElem?_set_ne e]
      exact wipe_in ((List.mem_cons.mp h).resolve_left (Ne.symm e)) hl
theorem wipe_eq {σ σ2 : L2.St} {vs : List Nat} (hl : σ2.length = σ.length) (h : ∀ j, j ∉ vs → σ2[j]? = σ[j]?) : L2.wipe σ2 vs = L2.wipe σ vs := by
  apply List.ext_getElem?
  intro j
  by_cases hj : j ∈ vs
  · by_cases hlt : j < σ.length
    · rw [wipe_in hj hlt, wipe_in hj (by rw [hl]; exact hlt)]
    · rw [List.getElem?_eq_none (by rw [wipe_length, hl]; omega), List.getElem?_eq_none (by rw [wipe_length]; omega)]
  · rw [wipe_get hj, wipe_get hj, h j hj]

open Classical in
noncomputable def lcR (chk : Sto → Prop) (tg : Tg) (tt : EvB) (fe : Ev) (η0 : Env) : List D → List D → Sto → Option (List D × Sto)
  | [], acc, S => if chk S then some (acc, S) else none
  | x :: xs, acc, S => if chk S then (tg x η0).bind fun η1 => (tt η1 S).bind fun q =>
      if q.1 then (fe η1 q.2).bind fun r => if acc.length < SZ then lcR chk tg tt fe η0 xs (acc ++ [r.1]) r.2 else none
      else lcR chk tg tt fe η0 xs acc q.2 else none
noncomputable def eLc (it : EvI) (vs : List Nat) (tg : Tg) (tt : EvB) (fe : Ev) : Ev := fun η S => (it η S).bind fun p =>
  (lcR p.1.chk tg tt fe (wipeE η vs) p.1.xs [] p.2).bind fun q => some (.lst q.1, q.2)
/-- the list so far stands at D, where nothing else looks -/
structure DD (C : Cf) (w : Wd) (D : Addr) (acc : List HS.D) : Prop where
  l : D ∈ w.L
  m : D ∉ w.mu
  o : ∃ vs, w.H D = some (.lst vs) ∧ RepL C w acc vs
theorem DD.mono {C : Cf} {w w' : Wd} {D : Addr} {acc : List HS.D} (h : DD C w D acc) (e : Le w w') : DD C w' D acc := by
  obtain ⟨vs, h1, h2⟩ := h.o
  exact ⟨e.hold D h.l, e.notmu h1 h.m, vs, e.keep D _ h1 h.m, h2.mono e.f⟩
section
variable {C : Cf} {w0 wS wJ : Wd} {J : It} {xs acc ys : List D} {chk : Sto → Prop} {D : Addr} {gf : Tg} {ts vs : List Nat} {tt : EvB} {fe : Ev} {η : Env} {σ : L2.St} {S1 S' : Sto} {Qd : Hp → Prop}
theorem lc_loop (hJ : ItOk C wJ J xs chk) (hts : ∀ j ∈ ts, j ∈ vs) (hn : w0.H D = none) (e0 : Le w0 wS) (eJ : LeF wJ wS) (s : Sim C wS S1) (hη : RepE C wS η σ) (dd : DD C wS D acc) (run : lcR chk gf tt fe (wipeE η vs) xs acc S1 = some (ys, S'))
    (hQ : ∀ w', Le w0 w' → LeF wS w' → Sim C w' S' → DD C w' D ys → Qd w'.H) :
    ∃ W : Nat → Nat → Hp → Prop, (∃ m, W 0 m wS.H) ∧ ∀ i m H, W i m H → (J.stop i H ∧ Qd H) ∨ (J.go i H ∧ ∃ Nx : Hp → Prop, (∀ H', Nx H' → ∃ m', m' < m ∧ W (i + 1) m' H') ∧
      ∀ x H', J.yld i H x H' → gOf C gf ts x (L2.wipe σ vs) H' fun σ2 H2 => L2.wipe σ2 vs = L2.wipe σ vs ∧ ttOf C tt σ2 H2 fun b H3 =>
        if b = true then tOf C Post fe σ2 H3 fun y H4 => ∃ acc, H4 D = some (.lst acc) ∧ acc.length < sizeLine ∧ Nx (upd H4 D (.lst (acc ++ [y]))) else Nx H3) := by
  refine ⟨fun i m H => ∃ w1 S1 acc, w1.H = H ∧ Le w0 w1 ∧ LeF wS w1 ∧ Sim C w1 S1 ∧ DD C w1 D acc ∧ lcR chk gf tt fe (wipeE η vs) (xs.drop i) acc S1 = some (ys, S') ∧ i ≤ xs.length ∧ m = xs.length - i,
    ⟨xs.length, wS, S1, acc, rfl, e0, LeF.refl _, s, dd, run, Nat.zero_le _, rfl⟩, ?_⟩
  rintro i m H ⟨w1, S1, acc, rfl, e1, f1, s1, d1, hr, hi, rfl⟩
  by_cases hlt : i < xs.length
  · refine .inr ?_
    rw [List.drop_eq_getElem_cons hlt] at hr
    unfold lcR at hr
    split at hr
    · rename_i hck
      obtain ⟨η1, h1, hr⟩ := bsome hr
      obtain ⟨⟨b, S3⟩, h2, hr⟩ := bsome hr
      refine ⟨hJ.go i w1 S1 (eJ.trans f1) s1 hck hlt, fun H' => ∃ w5 S5 acc, w5.H = H' ∧ Le w0 w5 ∧ LeF wS w5 ∧ Sim C w5 S5 ∧ DD C w5 D acc ∧ lcR chk gf tt fe (wipeE η vs) (xs.drop (i + 1)) acc S5 = some (ys, S'), ?_, ?_⟩
      · rintro H' ⟨w5, S5, acc5, a1, a2, a3, a4, a5, a6⟩
        exact ⟨xs.length - (i + 1), by omega, w5, S5, acc5, a1, a2, a3, a4, a5, a6, hlt, rfl⟩
      · intro x H' hy
        obtain ⟨w2, d, rfl, e2, s2, _, _, hd, rd⟩ := hJ.yld i w1 S1 x H' (eJ.trans f1) s1 hck hlt hy
        rw [List.getElem?_eq_getElem hlt] at hd
        cases hd
        refine ⟨w2, wipeE η vs, S1, _, η1, rfl, (hη.mono (f1.trans e2.f)).wipe vs, s2, rd, h1, fun σ2 hη2 hl2 k2 => ⟨?_, ?_⟩⟩
        · refine wipe_eq (hl2.trans (wipe_length _ _)) fun j hj => ?_
          rw [k2 j (fun z => hj (hts j z)), wipe_get hj]
        · refine ⟨w2, η1, S1, b, S3, rfl, hη2, s2, h2, fun w3 e3 s3 => ?_⟩
          cases b with
          | false =>
            simp only [Bool.false_eq_true, if_false] at hr ⊢
            exact ⟨w3, S3, acc, rfl, (e1.trans e2).trans e3, f1.trans (e2.trans e3).f, s3, d1.mono (e2.trans e3), hr⟩
          | true =>
            simp only [if_true] at hr ⊢
            obtain ⟨⟨y, S4⟩, h3, hr⟩ := bsome hr
            split at hr
            · rename_i hz
              refine ⟨w3, η1, S3, y, S4, rfl, hη2.mono e3.f, s3, h3, fun v w4 e4 s4 r4 => ?_⟩
              have d4 := d1.mono ((e2.trans e3).trans e4)
              obtain ⟨us, h4, h5⟩ := d4.o
              have fc : LeF w4 ⟨w4.mu, w4.L, upd w4.H D (.lst (us ++ [v]))⟩ := LeF.chg (List.mem_append_right _ d4.l) h4
              refine ⟨us, h4, by rw [← h5.length]; exact sz_lt hz, ⟨w4.mu, w4.L, upd w4.H D (.lst (us ++ [v]))⟩, S4, acc ++ [y], rfl, (((e1.trans e2).trans e3).trans e4).chg hn, (f1.trans ((e2.trans e3).trans e4).f).trans fc, s4.chg d4.l d4.m h4,
                ⟨d4.l, d4.m, _, upd_same, (h5.snoc r4).mono fc⟩, hr⟩
            · cases hr
    · cases hr
  · have e : i = xs.length := by omega
    subst e
    rw [List.drop_length] at hr
    unfold lcR at hr
    split at hr
    · rename_i hck
      cases hr
      exact .inl ⟨hJ.stop w1 _ (eJ.trans f1) s1 hck, hQ w1 e1 f1 s1 d1⟩
    · cases hr
end
/-- what the end of a comprehension gives -/
theorem PostO.lc {C : Cf} {w w' : Wd} {ys : List D} {S' : Sto} {D : Addr} {Q : VK} (h : PostO C w (.lst ys) S' Q) (e : Le w w') (hn : w.H D = none) (s : Sim C w' S') (d : DD C w' D ys) : Q (.ref D) w'.H :=
  h D w' e s hn d.l d.m d.o
theorem Post.lc {C : Cf} {w w' : Wd} {ys : List D} {S S' : Sto} {D : Addr} {Q : VK} (h : Post C w (.lst ys) S' Q) (hS : Sim C w S) (e : Le w w') (hn : w.H D = none) (s : Sim C w' S') (d : DD C w' D ys) : Q (.ref D) w'.H := by
  obtain ⟨vs, h1, h2⟩ := d.o
  refine h (.ref D) ⟨w'.mu, outL w'.L D, w'.H⟩ (e.drop fun z => hS.fresh hn (List.mem_append_right _ z)) (s.less outL_sub) (.lst h1 (fun z => ?_) (h2.mono (LeF.less outL_sub)))
  rcases List.mem_append.mp z with z | z
  · exact d.m z
  · exact outL_not z
class PmLc (M : PM) : Prop extends PmOk M where
  lc : ∀ {C : Cf} {w w' : Wd} {ys : List D} {S S' : Sto} {D : Addr} {Q : VK}, M C w (.lst ys) S' Q → Sim C w S → Le w w' → w.H D = none → Sim C w' S' → DD C w' D ys → Q (.ref D) w'.H
instance : PmLc Post := ⟨fun h hS e hn s d => h.lc hS e hn s d⟩
instance : PmLc PostO := ⟨fun h _ e hn s d => h.lc e hn s d⟩
section
variable {fa : String → Option Addr} {X : Cx} {M : PM} {elt tg iter : Expr} {ifs : List Expr} {scope : Scope} {own : List (Str × Nat)} {pos : Pos} {it : EvI} {gf : Tg} {ts : List Nat} {tt : EvB} {fe : Ev}
theorem lc_sem [PmLc M] {wi : TI} (hi : ∀ w σ η S I S', RepE (cf fa X) w η σ → Sim (cf fa X) w S → it η S = some (I, S') → ∀ R : It → Hp → Prop, (∀ J w', Le w w' → Sim (cf fa X) w' S' → ItOk (cf fa X) w' J I.xs I.chk → R J w'.H) → wi σ w.H R)
    {vs : List Nat} (hts : ∀ j ∈ ts, j ∈ vs) : ∀ w σ η S d S', RepE (cf fa X) w η σ → Sim (cf fa X) w S → eLc it vs gf tt fe η S = some (d, S') → ∀ Q : VK, M (cf fa X) w d S' Q →
      tLc wi (gOf (cf fa X) gf ts) (ttOf (cf fa X) tt) (tOf (cf fa X) Post fe) vs σ w.H Q := by
  intro w σ η S d S' hη hS hf Q hQ
  obtain ⟨⟨I, S1⟩, h1, hf⟩ := bsome hf
  obtain ⟨⟨ys, S2⟩, h2, hf⟩ := bsome hf
  cases hf
  refine hi w σ η S I S1 hη hS h1 _ fun J w1 e1 s1 hJ D hD => ?_
  have hDw : w.H D = none := e1.dom D hD
  exact lc_loop (wS := ⟨w1.mu, D :: w1.L, upd w1.H D (.lst [])⟩) hJ hts hDw (e1.trans (Le.newL hD)) (Le.newL hD).f (s1.newL hD) ((hη.mono e1.f).mono (Le.newL hD).f) ⟨List.mem_cons_self, s1.freshm hD, [], upd_same, .nil⟩ h2
    fun w' e' _ s' d' => PmLc.lc hQ hS e' hDw s' d'
theorem se_lc [PmLc M] (hc : X.calm = true) (hN : X.N.Nodup) (hi : SI fa X tg iter it) (ok : BlkOk X.N X.env.scope scope own)
    (hg : ∀ (s : Shared) (H : Hp) (C : Addr) (cl : List (Str × Addr)) (fp : List Addr), SG fa (X.blk s H scope (compEnvC scope cl C X.env) fp) tg gf ts) (hts : ∀ j ∈ ts, j ∈ own.map (·.2))
    (ht : ∀ (s : Shared) (H : Hp) (C : Addr) (cl : List (Str × Addr)) (fp : List Addr), STs fa (X.blk s H scope (compEnvC scope cl C X.env) fp) ifs tt)
    (he : ∀ (s : Shared) (H : Hp) (C : Addr) (cl : List (Str × Addr)) (fp : List Addr), SE fa (X.blk s H scope (compEnvC scope cl C X.env) fp) elt fe) (hs : ∀ x, foldedSetIterable iter X.env x = pure x := by intro _; rfl) :
    SEm fa M X (.ListComp elt [⟨tg, iter, ifs, 0⟩] scope pos) (eLc it (own.map (·.2)) gf tt fe) := by
  obtain ⟨wi, p, hi⟩ := hi.ex
  exact ⟨_, pe_lc (g := gOf (cf fa X) gf ts) (tt := ttOf (cf fa X) tt) (te := tOf (cf fa X) Post fe) hc hN p ok (fun s H C cl fp => (hg s H C cl fp).canon) (fun s H C cl fp => (ht s H C cl fp).can) (fun s H C cl fp => (he s H C cl fp).canon) hs, lc_sem hi hts⟩
/-- name = [..] -/
theorem ss_setLc {i : Nat} {y : Str} {py spos : Pos} (hc : X.calm = true) (hN : X.N.Nodup) (hy : X.N[i]? = some y) (hyl : X.env.scope.names.lookup y = some .local)
    (hsw : swapsWith (.ListComp elt [⟨tg, iter, ifs, 0⟩] scope pos) (some (.Name y py)) spos.line X.env = pure true) (hi : SI fa X tg iter it) (ok : BlkOk X.N X.env.scope scope own)
    (hg : ∀ (s : Shared) (H : Hp) (C : Addr) (cl : List (Str × Addr)) (fp : List Addr), SG fa (X.blk s H scope (compEnvC scope cl C X.env) fp) tg gf ts) (hts : ∀ j ∈ ts, j ∈ own.map (·.2))
    (ht : ∀ (s : Shared) (H : Hp) (C : Addr) (cl : List (Str × Addr)) (fp : List Addr), STs fa (X.blk s H scope (compEnvC scope cl C X.env) fp) ifs tt)
    (he : ∀ (s : Shared) (H : Hp) (C : Addr) (cl : List (Str × Addr)) (fp : List Addr), SE fa (X.blk s H scope (compEnvC scope cl C X.env) fp) elt fe) (hs : ∀ x, foldedSetIterable iter X.env x = pure x := by intro _; rfl) :
    SS fa X (.Assign [.Name y py] (.ListComp elt [⟨tg, iter, ifs, 0⟩] scope pos) spos) (sSet i (eLc it (own.map (·.2)) gf tt fe)) := by
  obtain ⟨wi, p, hi⟩ := hi.ex
  refine ⟨_, ps_setLc (g := gOf (cf fa X) gf ts) (tt := ttOf (cf fa X) tt) (te := tOf (cf fa X) Post fe) hc hN hy hyl hsw p ok (fun s H C cl fp => (hg s H C cl fp).canon) (fun s H C cl fp => (ht s H C cl fp).can) (fun s H C cl fp => (he s H C cl fp).canon) hs, fun w σ η S fl η' S' hη hS hf Dn hD => ?_⟩
  obtain ⟨⟨d, S1⟩, h3, hf⟩ := bsome hf
  cases hf
  exact lc_sem (M := Post) hi hts w σ η S d S1 hη hS h3 _ fun v w' e s r => hD _ w' e s ((hη.mono e.f).set r)
/-- name = [..], the list put into the store -/
theorem ss_setLcA {i : Nat} {y : Str} {py spos : Pos} (hc : X.calm = true) (hN : X.N.Nodup) (hy : X.N[i]? = some y) (hyl : X.env.scope.names.lookup y = some .local)
    (hsw : swapsWith (.ListComp elt [⟨tg, iter, ifs, 0⟩] scope pos) (some (.Name y py)) spos.line X.env = pure true) (hi : SI fa X tg iter it) (ok : BlkOk X.N X.env.scope scope own)
    (hg : ∀ (s : Shared) (H : Hp) (C : Addr) (cl : List (Str × Addr)) (fp : List Addr), SG fa (X.blk s H scope (compEnvC scope cl C X.env) fp) tg gf ts) (hts : ∀ j ∈ ts, j ∈ own.map (·.2))
    (ht : ∀ (s : Shared) (H : Hp) (C : Addr) (cl : List (Str × Addr)) (fp : List Addr), STs fa (X.blk s H scope (compEnvC scope cl C X.env) fp) ifs tt)
    (he : ∀ (s : Shared) (H : Hp) (C : Addr) (cl : List (Str × Addr)) (fp : List Addr), SE fa (X.blk s H scope (compEnvC scope cl C X.env) fp) elt fe) (hs : ∀ x, foldedSetIterable iter X.env x = pure x := by intro _; rfl) :
    SS fa X (.Assign [.Name y py] (.ListComp elt [⟨tg, iter, ifs, 0⟩] scope pos) spos) (sSet i (eAl (eLc it (own.map (·.2)) gf tt fe))) := by
  obtain ⟨wi, p, hi⟩ := hi.ex
  refine ⟨_, ps_setLc (g := gOf (cf fa X) gf ts) (tt := ttOf (cf fa X) tt) (te := tOf (cf fa X) Post fe) hc hN hy hyl hsw p ok (fun s H C cl fp => (hg s H C cl fp).canon) (fun s H C cl fp => (ht s H C cl fp).can) (fun s H C cl fp => (he s H C cl fp).canon) hs, fun w σ η S fl η' S' hη hS hf Dn hD => ?_⟩
  obtain ⟨⟨d, S1⟩, h3, hf⟩ := bsome hf
  obtain ⟨⟨d0, S0⟩, h4, h5⟩ := bsome h3
  cases h5
  cases hf
  refine lc_sem (M := PostO) hi hts w σ η S d0 S0 hη hS h4 _ fun p w' le s n hl hm o => ?_
  exact hD _ ⟨w'.mu ++ [p], w'.L, w'.H⟩ (le.grow n hl) (s.grow hm hl o) (((hη.mono le.f).mono (LeF.grow hl)).set (.ref (by
    show (w'.mu ++ [p])[S0.length]? = some p
    rw [← s.len, List.getElem?_append_right (Nat.le_refl _)]
    simp)))
end
end HS
set_option Elab.async false
set_option linter.all false
set_option maxRecDepth 100000
set_option autoImplicit false
/-! Two clauses; slices; the end of a call; defs and calls. -/
namespace HS
open PySem L2
open Classical in
noncomputable def lc2R (chk : Sto → Prop) (tg : Tg) (tt : EvB) (it1 : EvI) (vs1 : List Nat) (tg1 : Tg) (tt1 : EvB) (fe : Ev) (η0 : Env) : List D → List D → Sto → Option (List D × Sto)
  | [], acc, S => if chk S then some (acc, S) else none
  | x :: xs, acc, S => if chk S then (tg x η0).bind fun η1 => (tt η1 S).bind fun q =>
      if q.1 then (it1 η1 q.2).bind fun p => (lcR p.1.chk tg1 tt1 fe (wipeE η1 vs1) p.1.xs acc p.2).bind fun r => lc2R chk tg tt it1 vs1 tg1 tt1 fe η0 xs r.1 r.2
      else lc2R chk tg tt it1 vs1 tg1 tt1 fe η0 xs acc q.2 else none
noncomputable def eLc2 (it : EvI) (vs : List Nat) (tg : Tg) (tt : EvB) (it1 : EvI) (vs1 : List Nat) (tg1 : Tg) (tt1 : EvB) (fe : Ev) : Ev := fun η S => (it η S).bind fun p =>
  (lc2R p.1.chk tg tt it1 vs1 tg1 tt1 fe (wipeE η vs) p.1.xs [] p.2).bind fun q => some (.lst q.1, q.2)
section
variable {fa : String → Option Addr} {X : Cx} {M : PM} {elt tg iter tg1 iter1 : Expr} {ifs ifs1 : List Expr} {scope : Scope} {own : List (Str × Nat)} {pos : Pos} {it it1 : EvI} {gf gf1 : Tg} {ts ts1 vs1 : List Nat} {tt tt1 : EvB} {fe : Ev}
theorem se_lc2 [PmLc M] (hc : X.calm = true) (hN : X.N.Nodup) (hi : SI fa X tg iter it) (ok : BlkOk X.N X.env.scope scope own) (hv : ∀ i ∈ vs1, i ∈ own.map (·.2))
    (hg : ∀ (s : Shared) (H : Hp) (C : Addr) (cl : List (Str × Addr)) (fp : List Addr), SG fa (X.blk s H scope (compEnvC scope cl C X.env) fp) tg gf ts) (hts : ∀ j ∈ ts, j ∈ own.map (·.2))
    (ht : ∀ (s : Shared) (H : Hp) (C : Addr) (cl : List (Str × Addr)) (fp : List Addr), STs fa (X.blk s H scope (compEnvC scope cl C X.env) fp) ifs tt)
    (hi1 : ∀ (s : Shared) (H : Hp) (C : Addr) (cl : List (Str × Addr)) (fp : List Addr), SI fa (X.blk s H scope (compEnvC scope cl C X.env) fp) tg1 iter1 it1)
    (hg1 : ∀ (s : Shared) (H : Hp) (C : Addr) (cl : List (Str × Addr)) (fp : List Addr), SG fa (X.blk s H scope (compEnvC scope cl C X.env) fp) tg1 gf1 ts1) (hts1 : ∀ j ∈ ts1, j ∈ vs1)
    (ht1 : ∀ (s : Shared) (H : Hp) (C : Addr) (cl : List (Str × Addr)) (fp : List Addr), STs fa (X.blk s H scope (compEnvC scope cl C X.env) fp) ifs1 tt1)
    (he : ∀ (s : Shared) (H : Hp) (C : Addr) (cl : List (Str × Addr)) (fp : List Addr), SE fa (X.blk s H scope (compEnvC scope cl C X.env) fp) elt fe) (hs : ∀ x, foldedSetIterable iter X.env x = pure x := by intro _; rfl) (hs1 : ∀ env x, foldedSetIterable iter1 env x = pure x := by intro _ _; rfl) :
    SEm fa M X (.ListComp elt [⟨tg, iter, ifs, 0⟩, ⟨tg1, iter1, ifs1, 0⟩] scope pos) (eLc2 it (own.map (·.2)) gf tt it1 vs1 gf1 tt1 fe) := by
  obtain ⟨wi, p, hi⟩ := hi.ex
  refine ⟨_, pe_lc2 (g := gOf (cf fa X) gf ts) (tt := ttOf (cf fa X) tt) (wi1 := iOf (cf fa X) it1) (g1 := gOf (cf fa X) gf1 ts1) (tt1 := ttOf (cf fa X) tt1) (te := tOf (cf fa X) Post fe) hc hN p ok hv (fun s H C cl fp => (hg s H C cl fp).canon) (fun s H C cl fp => (ht s H C cl fp).can)
    (fun s H C cl fp => (hi1 s H C cl fp).canon) (fun s H C cl fp => (hg1 s H C cl fp).canon) (fun s H C cl fp => (ht1 s H C cl fp).can) (fun s H C cl fp => (he s H C cl fp).canon) hs hs1, fun w σ η S d S' hη hS hf Q hQ => ?_⟩
  obtain ⟨⟨⟨xs, chk⟩, S1⟩, h1, hf⟩ := bsome hf
  obtain ⟨⟨ys, S2⟩, h2, hf⟩ := bsome hf
  cases hf
  refine hi w σ η S _ S1 hη hS h1 _ fun J wJ eJ sJ hJ D hD => ?_
  have hJ : ItOk (cf fa X) wJ J xs chk := hJ
  have run : lc2R chk gf tt it1 vs1 gf1 tt1 fe (wipeE η (own.map (·.2))) xs [] S1 = some (ys, S2) := h2
  have hn : w.H D = none := eJ.dom D hD
  refine ⟨fun i m H => ∃ w1 S1 acc, w1.H = H ∧ Le w w1 ∧ LeF wJ w1 ∧ Sim (cf fa X) w1 S1 ∧ DD (cf fa X) w1 D acc ∧ lc2R chk gf tt it1 vs1 gf1 tt1 fe (wipeE η (own.map (·.2))) (xs.drop i) acc S1 = some (ys, S2) ∧ i ≤ xs.length ∧ m = xs.length - i,
    ⟨xs.length, ⟨wJ.mu, D :: wJ.L, upd wJ.H D (.lst [])⟩, S1, [], rfl, eJ.trans (Le.newL hD), (Le.newL hD).f, sJ.newL hD, ⟨List.mem_cons_self, sJ.freshm hD, [], upd_same, .nil⟩, run, Nat.zero_le _, rfl⟩, ?_⟩
  rintro i m H ⟨w1, S1, acc, rfl, e1, f1, s1, d1, hr, hi, rfl⟩
  by_cases hlt : i < xs.length
  · refine .inr ?_
    rw [List.drop_eq_getElem_cons hlt] at hr
    unfold lc2R at hr
    split at hr
    · rename_i hck
      obtain ⟨η1, h1, hr⟩ := bsome hr
      obtain ⟨⟨b, S3⟩, h2, hr⟩ := bsome hr
      refine ⟨hJ.go i w1 S1 f1 s1 hck hlt, fun H' => ∃ w5 S5 acc, w5.H = H' ∧ Le w w5 ∧ LeF wJ w5 ∧ Sim (cf fa X) w5 S5 ∧ DD (cf fa X) w5 D acc ∧ lc2R chk gf tt it1 vs1 gf1 tt1 fe (wipeE η (own.map (·.2))) (xs.drop (i + 1)) acc S5 = some (ys, S2), ?_, ?_⟩
      · rintro H' ⟨w5, S5, acc5, a1, a2, a3, a4, a5, a6⟩
        exact ⟨xs.length - (i + 1), by omega, w5, S5, acc5, a1, a2, a3, a4, a5, a6, hlt, rfl⟩
      · intro x H' hy
        obtain ⟨w2, d, rfl, e2, s2, _, _, hd, rd⟩ := hJ.yld i w1 S1 x H' f1 s1 hck hlt hy
        rw [List.getElem?_eq_getElem hlt] at hd
        cases hd
        refine ⟨w2, wipeE η (own.map (·.2)), S1, _, η1, rfl, ((hη.mono eJ.f).mono (f1.trans e2.f)).wipe _, s2, rd, h1, fun σ2 hη2 hl2 k2 => ⟨?_, ?_⟩⟩
        · refine wipe_eq (hl2.trans (wipe_length _ _)) fun j hj => ?_
          rw [k2 j (fun z => hj (hts j z)), wipe_get hj]
        · refine ⟨w2, η1, S1, b, S3, rfl, hη2, s2, h2, fun w3 e3 s3 => ?_⟩
          cases b with
          | false =>
            simp only [Bool.false_eq_true, if_false] at hr ⊢
            exact ⟨w3, S3, acc, rfl, (e1.trans e2).trans e3, f1.trans (e2.trans e3).f, s3, d1.mono (e2.trans e3), hr⟩
          | true =>
            simp only [if_true] at hr ⊢
            obtain ⟨⟨⟨xs1, chk1⟩, S4⟩, h3, hr⟩ := bsome hr
            obtain ⟨⟨acc5, S5⟩, h4, hr⟩ := bsome hr
            refine ⟨w3, η1, S3, _, S4, rfl, hη2.mono e3.f, s3, h3, fun J1 w4 e4 s4 hJ1 => ?_⟩
            exact lc_loop (w0 := w) (wS := w4) (wJ := w4) hJ1 hts1 hn (((e1.trans e2).trans e3).trans e4) (LeF.refl _) s4 ((hη2.mono e3.f).mono e4.f) (d1.mono ((e2.trans e3).trans e4)) h4
              fun w5 a1 a2 a3 a4 => ⟨w5, S5, acc5, rfl, a1, (f1.trans ((e2.trans e3).trans e4).f).trans a2, a3, a4, hr⟩
    · cases hr
  · have e : i = xs.length := by omega
    subst e
    rw [List.drop_length] at hr
    unfold lc2R at hr
    split at hr
    · rename_i hck
      cases hr
      exact .inl ⟨hJ.stop w1 _ f1 s1 hck, PmLc.lc hQ hS e1 hn s1 d1⟩
    · cases hr
end
/-! slices -/
abbrev EvO := Env → Sto → Option (Option Int × Sto)
structure SOp (fa : String → Option Addr) (X : Cx) (e : Option Expr) (f : EvO) : Prop where
  ex : ∃ t, PO X e t ∧ ∀ w σ η S o S', RepE (cf fa X) w η σ → Sim (cf fa X) w S → f η S = some (o, S') → ∀ Q : Option Int → Hp → Prop, (∀ w', Le w w' → Sim (cf fa X) w' S' → Q o w'.H) → t σ w.H Q
def oNo : EvO := fun _ S => some (none, S)
def oSo (f : Ev) : EvO := fun η S => (f η S).bind fun p => match p.1 with
  | .int i => some (some i, p.2)
  | _ => none
def cutL {α : Type} (xs : List α) (lo hi : Option Int) : List α := (xs.drop (HT.sIx xs.length 0 lo)).take (HT.sIx xs.length xs.length hi - HT.sIx xs.length 0 lo)
def slD (S : Sto) (d : D) (lo hi : Option Int) : Option D := match d with
  | .tup xs => some (.tup (cutL xs lo hi))
  | .str x => if x.length ≤ SZ then some (.str (cutS x lo hi)) else none
  | d => (lstOf S d).bind fun xs => some (.lst (cutL xs lo hi))
def slL (S : Sto) (d : D) (lo hi : Option Int) : Option D := (lstOf S d).bind fun xs => some (.lst (cutL xs lo hi))
def eSl (g : Sto → D → Option Int → Option Int → Option D) (f : Ev) (lo hi : EvO) : Ev := fun η S => (f η S).bind fun p => (lo η p.2).bind fun q => (hi η q.2).bind fun r => (g r.2 p.1 q.1 r.1).bind fun d => some (d, r.2)
theorem RepL.cut {C : Cf} {w : Wd} {ds : List D} {vs : List V} (r : RepL C w ds vs) (lo hi : Option Int) : RepL C w (cutL ds lo hi) (cutV vs lo hi) := by
  unfold cutL cutV
  rw [r.length]
  exact (r.drop _).take _
section
variable {fa : String → Option Addr} {X : Cx} {M : PM} {e : Expr} {lo hi : Option Expr} {pos p2 : Pos} {f : Ev} {fl fh : EvO}
theorem sop_none : SOp fa X none oNo := ⟨tNoPart, po_none, fun w σ η S o S' hη hS hf Q hQ => by
  cases hf
  exact hQ w (Le.refl w) hS⟩
theorem sop_some (h : SE fa X e f) : SOp fa X (some e) (oSo f) := by
  obtain ⟨t, p, h⟩ := h.ex
  refine ⟨tPart t, po_some p, fun w σ η S o S' hη hS hf Q hQ => ?_⟩
  obtain ⟨⟨d, S1⟩, h1, hf⟩ := bsome hf
  cases d with
  | int i =>
    cases hf
    exact h w σ η S _ _ hη hS h1 _ fun v w' e s r => by
      cases r
      exact ⟨i, rfl, hQ w' e s⟩
  | _ => cases hf
theorem sl_core [PmOk M] {g : Sto → D → Option Int → Option Int → Option D} {r : V → Option Int → Option Int → Hp → VK → Prop} (sem : ∀ w S a x l u d, Sim (cf fa X) w S → Rep (cf fa X) w a x → g S a l u = some d → ∀ Q : VK, M (cf fa X) w d S Q → r x l u w.H Q)
    (hr : SlR X r) (he : SE fa X e f) (hl : SOp fa X lo fl) (hh : SOp fa X hi fh) : SEm fa M X (.Subscript e (.Slice lo hi none p2) pos) (eSl g f fl fh) := by
  obtain ⟨t, p, he⟩ := he.ex
  obtain ⟨tl, pl, hl⟩ := hl.ex
  obtain ⟨th, ph, hh⟩ := hh.ex
  refine ⟨_, pe_slice hr p pl ph, fun w σ η S d S' hη hS hf Q hQ => ?_⟩
  obtain ⟨⟨a, S1⟩, h1, hf⟩ := bsome hf
  obtain ⟨⟨l, S2⟩, h2, hf⟩ := bsome hf
  obtain ⟨⟨u, S3⟩, h3, hf⟩ := bsome hf
  obtain ⟨d1, h4, hf⟩ := bsome hf
  cases hf
  exact he w σ η S a S1 hη hS h1 _ fun x w1 e1 s1 r1 => hl w1 σ η S1 l S2 (hη.mono e1.f) s1 h2 _ fun w2 e2 s2 => hh w2 σ η S2 u S3 ((hη.mono e1.f).mono e2.f) s2 h3 _ fun w3 e3 s3 =>
    sem w3 S3 a x l u d s3 ((r1.mono e2.f).mono e3.f) h4 Q (PmOk.mono ((e1.trans e2).trans e3) hQ)
theorem se_sl (he : SE fa X e f) (hl : SOp fa X lo fl) (hh : SOp fa X hi fh) : SE fa X (.Subscript e (.Slice lo hi none p2) pos) (eSl slD f fl fh) := by
  refine sl_core (r := fun x l u H Q => rSlL X.K x l u H Q ∨ (rSlA X.K x l u H Q ∨ rSlS x l u H Q)) (fun w S a x l u d hS ra hg Q hQ => ?_) (SlR.or sl_list (SlR.or sl_tupA sl_str)) he hl hh
  unfold slD at hg
  split at hg
  · cases hg
    obtain ⟨p, vs, rfl, e, r⟩ := id ra.tupH
    refine .inr (.inl ⟨p, vs, rfl, e, fun hw => ?_, fun hw q hq => Post.newTup hQ hS (r.cut l u) hq⟩)
    rename_i xs
    have e2 : cutL xs l u = xs := by
      unfold cutL
      rw [r.length, hw.1, hw.2]
      simp [← r.length]
    rw [e2] at hQ
    exact hQ.here hS ra
  · split at hg
    · rename_i hz
      cases hg; cases ra
      exact .inr (.inr ⟨_, rfl, sz hz, hQ.here hS (.str _)⟩)
    · cases hg
  · obtain ⟨xs, h1, h2⟩ := bsome hg
    cases h2
    obtain ⟨p, vs, rfl, e, r⟩ := ra.lstH hS h1
    exact .inl ⟨p, vs, rfl, .inl (.inl e), fun q hq => Post.newLst hQ hS (r.cut l u) hq⟩
theorem se_slL [PmList M] (he : SE fa X e f) (hl : SOp fa X lo fl) (hh : SOp fa X hi fh) : SEm fa M X (.Subscript e (.Slice lo hi none p2) pos) (eSl slL f fl fh) := by
  refine sl_core (r := rSlL X.K) (fun w S a x l u d hS ra hg Q hQ => ?_) sl_list he hl hh
  obtain ⟨xs, h1, h2⟩ := bsome hg
  cases h2
  obtain ⟨p, vs, rfl, e, r⟩ := ra.lstH hS h1
  exact ⟨p, vs, rfl, .inl (.inl e), fun q hq => PmList.newLst hQ hS (r.cut l u) hq⟩
end

/-! the end of a call: what the callee made for itself leaves the store -/
mutual
def clo (n : Nat) : D → Bool
  | .ref i => decide (i < n)
  | .tup xs => cloL n xs
  | .lst xs => cloL n xs
  | .scr xs => cloL n xs
  | .dic kvs => cloK n kvs
  | .ins _ fs => cloF n fs
  | _ => true
def cloL (n : Nat) : List D → Bool
  | [] => true
  | x :: xs => clo n x && cloL n xs
def cloK (n : Nat) : List (D × D) → Bool
  | [] => true
  | (k, v) :: r => clo n k && clo n v && cloK n r
def cloF (n : Nat) : List (Str × D) → Bool
  | [] => true
  | (_, v) :: r => clo n v && cloF n r
end
def fzD : Nat → Nat → Sto → D → Option D
  | 0, _, _, _ => none
  | k + 1, n, S, d => match d with
    | .ref i => if i < n then some (.ref i) else (S[i]?).bind (fzD k n S)
    | .tup xs => (xs.mapM (fzD k n S)).map .tup
    | .lst xs => (xs.mapM (fzD k n S)).map .lst
    | .dic kvs => if (kvs.all fun x => clo n x.1) then (kvs.mapM fun x => (fzD k n S x.2).map fun y => (x.1, y)).map .dic else none
    | .ins c fs => (fs.mapM fun x => (fzD k n S x.2).map fun y => (x.1, y)).map (.ins c)
    | .scr xs => if cloL n xs then some (.scr xs) else none
    | d => some d
end HS
set_option Elab.async false
set_option linter.all false
set_option maxRecDepth 100000
set_option autoImplicit false
/-! The end of a call; defs and calls. -/
namespace HS
open PySem L2
/-- the caller's world behind a call: its own store and its own reserve -/
structure Bk (C : Cf) (w w' : Wd) (S' : Sto) (E : List Addr) : Prop where
  le : Le w w'
  sim : Sim C w' S'
  trk : ∀ q ∈ w.F, ∃ o, w.H q = some o
  eF : ∀ q ∈ E, q ∈ w'.F
  eN : ∀ q ∈ E, w.H q = none
abbrev bkW (w w' : Wd) (E : List Addr) : Wd := ⟨w.mu, E ++ w.L, w'.H⟩
theorem Bk.wF {C : Cf} {w w' : Wd} {S' : Sto} {E : List Addr} (b : Bk C w w' S' E) {p : Addr} (h : p ∉ w'.F) : p ∉ (bkW w w' E).F := fun z => h (by
  rcases List.mem_append.mp z with z | z
  · obtain ⟨i, h1, h2⟩ := List.mem_iff_getElem.mp z
    exact List.mem_append_left _ (List.mem_of_getElem? (b.le.mu i p (by rw [List.getElem?_eq_getElem h1, h2])))
  · rcases List.mem_append.mp z with z | z
    · exact b.eF p z
    · exact List.mem_append_right _ (b.le.hold p z))
theorem Bk.wle {C : Cf} {w w' : Wd} {S' : Sto} {E : List Addr} (b : Bk C w w' S' E) : Le w (bkW w w' E) := ⟨fun _ _ h => h, fun _ h => .inl h, fun q h => by
    rcases List.mem_append.mp h with z | z
    · exact .inl (List.mem_append_left _ z)
    · rcases List.mem_append.mp z with z | z
      · exact .inr (b.eN q z)
      · exact .inl (List.mem_append_right _ z), b.le.keep, b.le.dom, fun _ h => List.mem_append_right _ h⟩
theorem Bk.low {C : Cf} {w w' : Wd} {S' : Sto} {E : List Addr} (b : Bk C w w' S' E) {i : Nat} {p : Addr} (h : w'.mu[i]? = some p) (hi : i < w.mu.length) : w.mu[i]? = some p := by
  have := b.le.mu i w.mu[i] (List.getElem?_eq_getElem hi)
  rw [h] at this
  rw [List.getElem?_eq_getElem hi]
  exact this.symm
/-- a place of the callee's own is free for the caller -/
theorem Bk.high {C : Cf} {w w' : Wd} {S' : Sto} {E : List Addr} (b : Bk C w w' S' E) {i : Nat} {p : Addr} (h : w'.mu[i]? = some p) (hi : ¬ i < w.mu.length) : w.H p = none ∧ p ∉ w.F := by
  have hn : p ∉ w.mu := fun z => by
    obtain ⟨j, h1, h2⟩ := List.mem_iff_getElem.mp z
    have h3 := b.le.mu j p (by rw [List.getElem?_eq_getElem h1, h2])
    have h4 : i = j := (List.getElem_inj b.sim.nd).mp ((List.getElem?_eq_some_iff.mp h).2.trans (List.getElem?_eq_some_iff.mp h3).2.symm)
    omega
  rcases b.le.new p (List.mem_of_getElem? h) with z | z
  · exact absurd z hn
  · refine ⟨z, fun q => ?_⟩
    obtain ⟨o, e⟩ := b.trk p q
    rw [z] at e; cases e
theorem cloK_vals {n : Nat} : ∀ {kvs : List (D × D)}, cloK n kvs = true → cloL n (kvs.map (·.1)) = true ∧ cloL n (kvs.map (·.2)) = true
  | [], _ => ⟨rfl, rfl⟩
  | (k, v) :: r, h => by
    unfold cloK at h
    rw [Bool.and_eq_true, Bool.and_eq_true] at h
    obtain ⟨a, b⟩ := cloK_vals h.2
    refine ⟨?_, ?_⟩
    · rw [List.map_cons, cloL, Bool.and_eq_true]; exact ⟨h.1.1, a⟩
    · rw [List.map_cons, cloL, Bool.and_eq_true]; exact ⟨h.1.2, b⟩
theorem cloF_vals {n : Nat} : ∀ {fs : List (Str × D)}, cloF n fs = true → cloL n (fs.map (·.2)) = true
  | [], _ => rfl
  | (k, v) :: r, h => by
    unfold cloF at h
    rw [Bool.and_eq_true] at h
    rw [List.map_cons, cloL, Bool.and_eq_true]
    exact ⟨h.1, cloF_vals h.2⟩
/-- closed data stands in the caller's world -/
theorem Rep.bk {C : Cf} {w w' : Wd} {S' : Sto} {E : List Addr} (b : Bk C w w' S' E) {d : D} {v : V} (h : Rep C w' d v) : clo w.mu.length d = true → Rep C (bkW w w' E) d v :=
  Rep.rec (motive_1 := fun d v _ => clo w.mu.length d = true → Rep C (bkW w w' E) d v) (motive_2 := fun ds vs _ => cloL w.mu.length ds = true → RepL C (bkW w w' E) ds vs)
    (fun _ => .non) (fun b _ => .bl b) (fun i _ => .int i) (fun x _ => .str x) (fun n _ => .ty n) (fun h _ => .fn h) (fun h c => .ref (b.low h (by rw [clo] at c; exact of_decide_eq_true c)))
    (fun h hp _ r c => .tup h (b.wF hp) (r (by rw [clo] at c; exact c))) (fun h _ r c => .tupK h (r (by rw [clo] at c; exact c))) (fun h hp _ r c => .lst h (b.wF hp) (r (by rw [clo] at c; exact c))) (fun h hp _ r c => .frz h (b.wF hp) (r (by rw [clo] at c; exact c))) (fun h _ r c => .scrK h (r (by rw [clo] at c; exact c)))
    (fun m h hp k _ r c => .dicK m h (b.wF hp) k (r (by rw [clo] at c; exact (cloK_vals c).2))) (fun m h hp k _ _ r1 r2 c => .dicT m h (b.wF hp) k (r1 (by rw [clo] at c; exact (cloK_vals c).1)) (r2 (by rw [clo] at c; exact (cloK_vals c).2)))
    (fun h hp f n _ r c => .ins h (b.wF hp) f n (r (by rw [clo] at c; exact cloF_vals c)))
    (fun _ => .nil) (fun _ _ r rs c => by
      rw [cloL, Bool.and_eq_true] at c
      exact .cons (r c.1) (rs c.2)) h
theorem RepL.bk {C : Cf} {w w' : Wd} {S' : Sto} {E : List Addr} (b : Bk C w w' S' E) : ∀ {ds : List D} {vs : List V}, RepL C w' ds vs → cloL w.mu.length ds = true → RepL C (bkW w w' E) ds vs
  | _, _, .nil, _ => .nil
  | _, _, .cons r rs, c => by
    rw [cloL, Bool.and_eq_true] at c
    exact .cons (r.bk b c.1) (RepL.bk b rs c.2)
theorem ObjRep.bk {C : Cf} {w w' : Wd} {S' : Sto} {E : List Addr} (b : Bk C w w' S' E) {p : Addr} {d : D} (h : ObjRep C w' p d) (c : clo w.mu.length d = true) : ObjRep C (bkW w w' E) p d := by
  cases d with
  | lst ds => rw [clo] at c; obtain ⟨vs, e, r⟩ := h; exact ⟨vs, e, r.bk b c⟩
  | dic kvs =>
    rw [clo] at c
    rcases h with ⟨m, e, k, r⟩ | ⟨m, e, k, r1, r2⟩
    · exact .inl ⟨m, e, k, r.bk b (cloK_vals c).2⟩
    · exact .inr ⟨m, e, k, r1.bk b (cloK_vals c).1, r2.bk b (cloK_vals c).2⟩
  | ins c' fs => rw [clo] at c; obtain ⟨a, dx, vs, e, f, n, r⟩ := h; exact ⟨a, dx, vs, e, f, n, r.bk b (cloF_vals c)⟩
  | _ => exact h.elim
theorem cloK_of {n : Nat} : ∀ {kvs : List (D × D)}, cloL n (kvs.map (·.1)) = true → cloL n (kvs.map (·.2)) = true → cloK n kvs = true
  | [], _, _ => rfl
  | (k, v) :: r, h1, h2 => by
    rw [List.map_cons, cloL, Bool.and_eq_true] at h1 h2
    rw [cloK, h1.1, h2.1, cloK_of h1.2 h2.2]; rfl
theorem cloF_of {n : Nat} : ∀ {kvs : List (Str × D)}, cloL n (kvs.map (·.2)) = true → cloF n kvs = true
  | [], _ => rfl
  | (k, v) :: r, h2 => by
    rw [List.map_cons, cloL, Bool.and_eq_true] at h2
    rw [cloF, h2.1, cloF_of h2.2]; rfl
theorem clo_keys {n : Nat} : ∀ {kvs : List (D × D)} {m : List (Key × V)}, (kvs.map fun x => keyD x.1) = (m.map fun x => some x.1) → cloL n (kvs.map (·.1)) = true
  | [], _, _ => rfl
  | (k, v) :: r, [], h => by simp at h
  | (k, v) :: r, x :: m, h => by
    rw [List.map_cons, List.map_cons, List.cons.injEq] at h
    rw [List.map_cons, cloL, clo_keys h.2, Bool.and_true]
    cases k <;> simp [keyD] at h <;> simp [clo]
/-- what stands in a world is closed there -/
theorem Rep.clo {C : Cf} {w : Wd} {d : D} {v : V} (h : Rep C w d v) : HS.clo w.mu.length d = true :=
  Rep.rec (motive_1 := fun d v _ => HS.clo w.mu.length d = true) (motive_2 := fun ds vs _ => cloL w.mu.length ds = true)
    (by simp [HS.clo]) (fun b => by simp [HS.clo]) (fun b => by simp [HS.clo]) (fun b => by simp [HS.clo]) (fun b => by simp [HS.clo]) (fun b => by simp [HS.clo]) (fun h => by rw [HS.clo]; exact decide_eq_true (List.getElem?_eq_some_iff.mp h).1)
    (fun _ _ _ r => by rw [HS.clo]; exact r) (fun _ _ r => by rw [HS.clo]; exact r) (fun _ _ _ r => by rw [HS.clo]; exact r) (fun _ _ _ r => by rw [HS.clo]; exact r) (fun _ _ r => by rw [HS.clo]; exact r)
    (fun m _ _ k _ r => by rw [HS.clo]; exact cloK_of (clo_keys k) r) (fun m _ _ k _ _ r1 r2 => by rw [HS.clo]; exact cloK_of r1 r2) (fun _ _ _ _ _ r => by rw [HS.clo]; exact cloF_of r)
    (by rw [cloL]) (fun _ _ r rs => by rw [cloL, r, rs]; rfl) h
theorem RepL.clo {C : Cf} {w : Wd} : ∀ {ds : List D} {vs : List V}, RepL C w ds vs → cloL w.mu.length ds = true
  | _, _, .nil => rfl
  | _, _, .cons r rs => by rw [cloL, r.clo, RepL.clo rs]; rfl
theorem ObjRep.clo {C : Cf} {w : Wd} {p : Addr} {d : D} (h : ObjRep C w p d) : HS.clo w.mu.length d = true := by
  cases d with
  | lst ds => obtain ⟨vs, e, r⟩ := h; rw [HS.clo]; exact r.clo
  | dic kvs =>
    rw [HS.clo]
    rcases h with ⟨m, e, k, r⟩ | ⟨m, e, k, r1, r2⟩
    · exact cloK_of (clo_keys k) r.clo
    · exact cloK_of r1.clo r2.clo
  | ins c' fs => obtain ⟨a, dx, vs, e, f, n, r⟩ := h; rw [HS.clo]; exact cloF_of r.clo
  | _ => exact h.elim
/-! freezing -/
theorem fzL_rep {C : Cf} {w w2 : Wd} {g : D → Option D} : ∀ {ds es : List D} {vs : List V}, (∀ d ∈ ds, ∀ v d', Rep C w d v → g d = some d' → Rep C w2 d' v) → RepL C w ds vs → ds.mapM g = some es → RepL C w2 es vs
  | [], _, _, _, .nil, h => by
    rw [List.mapM_nil] at h
    cases h
    exact .nil
  | d :: ds, _, _, ih, .cons r rs, h => by
    rw [List.mapM_cons] at h
    obtain ⟨y, h1, h2⟩ := bsome h
    obtain ⟨ys, h3, h4⟩ := bsome h2
    cases h4
    exact .cons (ih d List.mem_cons_self _ _ r h1) (fzL_rep (fun d hd => ih d (List.mem_cons_of_mem _ hd)) rs h3)
theorem fzV_split {α : Type} {g : D → Option D} : ∀ {kvs es : List (α × D)}, (kvs.mapM fun x => (g x.2).map fun y => (x.1, y)) = some es → es.map (·.1) = kvs.map (·.1) ∧ (kvs.map (·.2)).mapM g = some (es.map (·.2))
  | [], _, h => by
    rw [List.mapM_nil] at h
    cases h
    exact ⟨rfl, rfl⟩
  | x :: xs, _, h => by
    rw [List.mapM_cons] at h
    obtain ⟨y, h1, h2⟩ := bsome h
    obtain ⟨ys, h3, h4⟩ := bsome h2
    cases h4
    obtain ⟨z, h5, h6⟩ := Option.map_eq_some_iff.mp h1
    subst h6
    obtain ⟨a, b⟩ := fzV_split h3
    refine ⟨by rw [List.map_cons, List.map_cons, a], ?_⟩
    rw [List.map_cons, List.mapM_cons, h5]
    show ((xs.map (·.2)).mapM g).bind _ = _
    rw [b]; rfl
theorem cloL_keys {n : Nat} : ∀ {kvs : List (D × D)}, (kvs.all fun x => clo n x.1) = true → cloL n (kvs.map (·.1)) = true
  | [], _ => rfl
  | x :: xs, h => by
    rw [List.all_cons, Bool.and_eq_true] at h
    rw [List.map_cons, cloL, h.1, cloL_keys h.2]; rfl
mutual
theorem fzD_rep {C : Cf} {w w' : Wd} {S' : Sto} (b : Bk C w w' S' []) : ∀ (k : Nat) (d : D) (v : V) (d' : D), Rep C w' d v → fzD k w.mu.length S' d = some d' → Rep C (bkW w w' []) d' v
  | 0, _, _, _, _, h => by simp [fzD] at h
  | k + 1, .non, _, _, r, h => by cases h; cases r; exact .non
  | k + 1, .bl _, _, _, r, h => by cases h; cases r; exact .bl _
  | k + 1, .int _, _, _, r, h => by cases h; cases r; exact .int _
  | k + 1, .str _, _, _, r, h => by cases h; cases r; exact .str _
  | k + 1, .ty _, _, _, r, h => by cases h; cases r; exact .ty _
  | k + 1, .fn _, _, _, r, h => by
    cases h
    cases r with
    | fn h => exact .fn h
  | k + 1, .scr xs, _, _, r, h => by
    simp only [fzD] at h
    split at h
    · rename_i hc
      cases h
      exact r.bk b (by rw [clo]; exact hc)
    · cases h
  | k + 1, .tup xs, _, _, r, h => by
    simp only [fzD] at h
    obtain ⟨ys, h1, h2⟩ := Option.map_eq_some_iff.mp h
    subst h2
    cases r with
    | tup e hp r => exact .tup e (b.wF hp) (fzL_rep (fun d _ v d' => fzD_rep b k d v d') r h1)
    | tupK e r => exact .tupK e (fzL_rep (fun d _ v d' => fzD_rep b k d v d') r h1)
  | k + 1, .lst xs, _, _, r, h => by
    simp only [fzD] at h
    obtain ⟨ys, h1, h2⟩ := Option.map_eq_some_iff.mp h
    subst h2
    cases r with
    | lst e hp r => exact .lst e (b.wF hp) (fzL_rep (fun d _ v d' => fzD_rep b k d v d') r h1)
  | k + 1, .dic kvs, _, _, r, h => by
    simp only [fzD] at h
    split at h
    · rename_i hc
      obtain ⟨ys, h1, h2⟩ := Option.map_eq_some_iff.mp h
      subst h2
      obtain ⟨e1, e2⟩ := fzV_split h1
      have ek : ∀ {β : Type} (g : D → β), (ys.map fun x => g x.1) = (kvs.map fun x => g x.1) := fun g => by
        have := congrArg (List.map g) e1
        rwa [List.map_map, List.map_map] at this
      cases r with
      | dicK m e hp k' r => exact .dicK m e (b.wF hp) (by rw [ek]; exact k') (fzL_rep (fun d _ v d' => fzD_rep b k d v d') r e2)
      | dicT m e hp k' r1 r => exact .dicT m e (b.wF hp) (by rw [ek]; exact k') (by rw [e1]; exact r1.bk b (cloL_keys hc)) (fzL_rep (fun d _ v d' => fzD_rep b k d v d') r e2)
    · cases h
  | k + 1, .ins c fs, _, _, r, h => by
    simp only [fzD] at h
    obtain ⟨ys, h1, h2⟩ := Option.map_eq_some_iff.mp h
    subst h2
    obtain ⟨e1, e2⟩ := fzV_split h1
    cases r with
    | ins e hp f n r => exact .ins e (b.wF hp) f (by rw [e1]; exact n) (fzL_rep (fun d _ v d' => fzD_rep b k d v d') r e2)
  | k + 1, .ref i, _, _, r, h => by
    simp only [fzD] at h
    cases r with
    | ref hi =>
      split at h
      · rename_i hlt
        cases h
        exact .ref (b.low hi hlt)
      · rename_i hlt
        obtain ⟨c, h1, h2⟩ := bsome h
        have ob := b.sim.obj i _ c hi h1
        obtain ⟨_, hF⟩ := b.high hi hlt
        exact fzO_rep b k c _ _ ob hF h2
theorem fzO_rep {C : Cf} {w w' : Wd} {S' : Sto} (b : Bk C w w' S' []) : ∀ (k : Nat) (c : D) (p : Addr) (d' : D), ObjRep C w' p c → p ∉ w.F → fzD k w.mu.length S' c = some d' → Rep C (bkW w w' []) d' (.ref p)
  | 0, _, _, _, _, _, h => by simp [fzD] at h
  | k + 1, .lst xs, p, _, ob, hF, h => by
    simp only [fzD] at h
    obtain ⟨ys, h1, h2⟩ := Option.map_eq_some_iff.mp h
    subst h2
    obtain ⟨vs, e, r⟩ := ob
    exact .lst e hF (fzL_rep (fun d _ v d' => fzD_rep b k d v d') r h1)
  | k + 1, .dic kvs, p, _, ob, hF, h => by
    simp only [fzD] at h
    split at h
    · rename_i hc
      obtain ⟨ys, h1, h2⟩ := Option.map_eq_some_iff.mp h
      subst h2
      obtain ⟨e1, e2⟩ := fzV_split h1
      have ek : ∀ {β : Type} (g : D → β), (ys.map fun x => g x.1) = (kvs.map fun x => g x.1) := fun g => by
        have := congrArg (List.map g) e1
        rwa [List.map_map, List.map_map] at this
      rcases ob with ⟨m, e, k', r⟩ | ⟨m, e, k', r1, r⟩
      · exact .dicK m e hF (by rw [ek]; exact k') (fzL_rep (fun d _ v d' => fzD_rep b k d v d') r e2)
      · exact .dicT m e hF (by rw [ek]; exact k') (by rw [e1]; exact r1.bk b (cloL_keys hc)) (fzL_rep (fun d _ v d' => fzD_rep b k d v d') r e2)
    · cases h
  | k + 1, .ins c fs, p, _, ob, hF, h => by
    simp only [fzD] at h
    obtain ⟨ys, h1, h2⟩ := Option.map_eq_some_iff.mp h
    subst h2
    obtain ⟨e1, e2⟩ := fzV_split h1
    obtain ⟨a, dx, vs, e, f, n, r⟩ := ob
    exact .ins e hF f (by rw [e1]; exact n) (fzL_rep (fun d _ v d' => fzD_rep b k d v d') r e2)
  | k + 1, .non, _, _, ob, _, _ => ob.elim
  | k + 1, .bl _, _, _, ob, _, _ => ob.elim
  | k + 1, .int _, _, _, ob, _, _ => ob.elim
  | k + 1, .str _, _, _, ob, _, _ => ob.elim
  | k + 1, .ty _, _, _, ob, _, _ => ob.elim
  | k + 1, .fn _, _, _, ob, _, _ => ob.elim
  | k + 1, .scr _, _, _, ob, _, _ => ob.elim
  | k + 1, .tup _, _, _, ob, _, _ => ob.elim
  | k + 1, .ref _, _, _, ob, _, _ => ob.elim
end
/-- the caller's objects behind a call: as they were, or closed -/
def okEnd (n : Nat) (S S' : Sto) : Prop := ∀ i, i < n → S'[i]? = S[i]? ∨ ∃ c, S'[i]? = some c ∧ clo n c = true
theorem Bk.back {C : Cf} {w w' : Wd} {S S' : Sto} {E : List Addr} (b : Bk C w w' S' E) (s : Sim C w S) (ok : okEnd S.length S S') : Sim C (bkW w w' E) (S'.take S.length) := by
  have hl : S.length ≤ S'.length := by
    rw [← s.len, ← b.sim.len]
    apply Nat.le_of_not_lt
    intro h
    have h1 := b.le.mu w'.mu.length w.mu[w'.mu.length] (List.getElem?_eq_getElem h)
    rw [List.getElem?_eq_none (Nat.le_refl _)] at h1
    cases h1
  refine ⟨by rw [List.length_take, Nat.min_eq_left hl]; exact s.len, s.nd, fun q hq => ?_, fun i p d h1 h2 => ?_⟩
  · have hq2 : q ∈ w'.F := by
      rcases List.mem_append.mp hq with z | z
      · obtain ⟨i, h1, h2⟩ := List.mem_iff_getElem.mp z
        exact List.mem_append_left _ (List.mem_of_getElem? (b.le.mu i q (by rw [List.getElem?_eq_getElem h1, h2])))
      · rcases List.mem_append.mp z with z | z
        · exact b.eF q z
        · exact List.mem_append_right _ (b.le.hold q z)
    exact b.sim.trk q hq2
  · have h1 : w.mu[i]? = some p := h1
    have hi : i < S.length := by rw [← s.len]; exact (List.getElem?_eq_some_iff.mp h1).1
    rw [List.getElem?_take_of_lt hi] at h2
    refine (b.sim.obj i p d (b.le.mu i p h1) h2).bk b ?_
    rcases ok i hi with e | ⟨c, e, hc⟩
    · rw [h2] at e
      exact (s.obj i p d h1 e.symm).clo
    · rw [h2] at e
      cases e
      rw [s.len]; exact hc
def RPost (C : Cf) (w : Wd) (d : D) (own : Bool) (S : Sto) (Q : VK) : Prop := match own with
  | true => PostO C w d S Q
  | false => Post C w d S Q
theorem Post.toO {C : Cf} {w : Wd} {d : D} {S S0 : Sto} {Q : VK} (h : Post C w d S Q) (hS : Sim C w S0) : PostO C w d S Q := fun p w' le s n hl hm o => by
  refine h (.ref p) ⟨w'.mu, outL w'.L p, w'.H⟩ (le.drop fun z => hS.fresh n (List.mem_append_right _ z)) (s.less outL_sub) ((o.mono (LeF.less outL_sub) fun _ e => e).rep fun z => ?_)
  rcases List.mem_append.mp z with z | z
  · exact hm z
  · exact outL_not z
theorem RPost.of {C : Cf} {w : Wd} {d : D} {own : Bool} {S S0 : Sto} {Q : VK} (h : Post C w d S Q) (hS : Sim C w S0) : RPost C w d own S Q := by
  cases own with
  | true => exact h.toO hS
  | false => exact h
def FZ : Nat := 40
open Classical in
noncomputable def endF (S S' : Sto) (d : D) : Option (D × Bool × Sto) :=
  if S'.length = S.length then some (d, false, S')
  else if okEnd S.length S S' then
    (match d with
      | .ref i => if i < S.length then some (.ref i, false, S'.take S.length)
        else (S'[i]?).bind fun c => if clo S.length c = true then some (c, true, S'.take S.length) else (fzD FZ S.length S' d).bind fun d' => some (d', false, S'.take S.length)
      | d => (fzD FZ S.length S' d).bind fun d' => some (d', false, S'.take S.length))
  else none
theorem end_post {C : Cf} {w w' : Wd} {S S' T : Sto} {d d' : D} {own : Bool} {v : V} {Q : VK} (s : Sim C w S) (le : Le w w') (s' : Sim C w' S') (r : Rep C w' d v) (h : endF S S' d = some (d', own, T)) (hQ : RPost C w d' own T Q) : Q v w'.H := by
  have b : Bk C w w' S' [] := ⟨le, s', s.trk, fun _ z => (by cases z), fun _ z => (by cases z)⟩
  have len := s.len
  unfold endF at h
  split at h
  · cases h
    exact hQ v w' le s' r
  · split at h
    · rename_i ok
      have sb := b.back s ok
      have gen : ∀ d', fzD FZ S.length S' d = some d' → Post C w d' (S'.take S.length) Q → Q v w'.H := fun d' h1 h2 => h2 v (bkW w w' []) b.wle sb (fzD_rep b FZ d v d' r (by rw [len]; exact h1))
      split at h
      · rename_i i
        cases r with
        | ref hi =>
          split at h
          · rename_i hlt
            cases h
            exact hQ _ (bkW w w' []) b.wle sb (.ref (b.low hi (by rw [len]; exact hlt)))
          · rename_i hlt
            rename_i p
            obtain ⟨c, h1, h2⟩ := bsome h
            split at h2
            · rename_i hc
              cases h2
              obtain ⟨hn, hF⟩ := b.high hi (by rw [len]; exact hlt)
              have b2 : Bk C w w' S' [p] := ⟨le, s', s.trk, fun q z => (by
                have : q = p := by simpa using z
                subst this
                exact List.mem_append_left _ (List.mem_of_getElem? hi)), fun q z => (by
                have : q = p := by simpa using z
                subst this
                exact hn)⟩
              exact hQ p (bkW w w' [p]) b2.wle (b2.back s ok) hn List.mem_cons_self (fun z => hF (List.mem_append_left _ z)) ((s'.obj i p _ hi h1).bk b2 (by rw [len]; exact hc))
            · obtain ⟨d2, h3, h4⟩ := bsome h2
              cases h4
              exact gen _ h3 hQ
      · obtain ⟨d2, h3, h4⟩ := bsome h
        cases h4
        exact gen _ h3 hQ
    · cases h
end HS
set_option Elab.async false
set_option linter.all false
set_option maxRecDepth 100000
set_option autoImplicit false
/-! Defs and calls. -/
namespace HS
open PySem L2
/-- what a call does: the arguments, the store; the answer, whether it is a new container, the store behind -/
abbrev Cv := List D → Sto → Option (D × Bool × Sto)
def spOf (C : Cf) (c : Cv) (n : Nat) : Sp := fun vs H Q _ => ∃ w S ds d own S', w.H = H ∧ Sim C w S ∧ RepL C w ds vs ∧ ds.length = n ∧ c ds S = some (d, own, S') ∧ RPost C w d own S' Q
noncomputable def endS (S : Sto) (r : Fl × Env × Sto) : Option (D × Bool × Sto) := match r.1 with
  | .ret d => endF S r.2.2 d
  | .nx => endF S r.2.2 .non
  | _ => none
noncomputable def callOf (nN : Nat) (g : Sv) : Cv := fun ds S => (g (ds.map some ++ List.replicate (nN - ds.length) none) S).bind (endS S)
theorem repE_start {C : Cf} {w : Wd} {N : List Str} {ds : List D} {vs : List V} (r : RepL C w ds vs) : RepE C w (ds.map some ++ List.replicate (N.length - ds.length) none) (L2.start N vs) := by
  unfold L2.start
  refine ⟨by simp [r.length], fun i d h => ?_⟩
  by_cases hi : i < ds.length
  · rw [List.getElem?_append_left (by simpa using hi), List.getElem?_map] at h
    obtain ⟨d', h1, h2⟩ := Option.map_eq_some_iff.mp h
    cases h2
    obtain ⟨v, h3, h4⟩ := r.get h1
    refine ⟨v, ?_, h4⟩
    rw [List.getElem?_append_left (by simpa [← r.length] using hi), List.getElem?_map, h3]
    rfl
  · rw [List.getElem?_append_right (by simpa using hi), List.getElem?_replicate] at h
    split at h <;> cases h
section
variable {P : Program} {w : World} {K : PySem.W.Frag} {mg : Str → Option Value} {base : Heap} {fa : String → Option Addr}
theorem fn_rule {x qual : Str} {st : Stmt} {f : Addr} {fd : FuncData} {N ps : List Str} {k : Nat} {g : Sv} (F : Fun K x qual st f fd) (S : FnScope N ps (defScope st))
    (body : ∀ (cdv : Value) (A : Around) (outer : List PySem.Env) (s : Shared) (H : Hp) (E : XK), Room k (A.deeper (PyProof.Rows.envOfC qual (defScope st) s.heap.objs.size f cdv)) → SSs fa (cxOf CX0 P w K mg base N qual (defScope st) f cdv A outer s H E).nox (defBody st) g) :
    FnOk P w K mg base CX0 (k + 1) f fd ps (spOf ⟨P, w, K, fa⟩ (callOf N.length g) ps.length) := by
  refine F.ok S (fun vs H Q E h => ?_) (fun cdv A outer s H vs Q E hr h => ?_)
  · obtain ⟨w, S, ds, d, own, S', _, _, r, hl, _⟩ := h
    rw [← r.length]; exact hl
  · obtain ⟨w, S, ds, d, own, S', rfl, hS, r, hl, hc, hQ⟩ := h
    obtain ⟨t, pt, sem⟩ := (body cdv A outer s w.H E hr).ex
    refine ⟨t, pt, ?_⟩
    unfold callOf at hc
    obtain ⟨⟨fl, η', S1⟩, h1, h2⟩ := bsome hc
    refine sem w (L2.start N vs) _ S fl η' S1 (repE_start r) hS h1 _ ?_
    unfold endS at h2
    cases fl with
    | nx => exact fun σ' w' e s _ => end_post hS e s .non h2 hQ
    | ret d => exact fun v w' e s r => end_post hS e s r h2 hQ
    | bk => cases h2
    | ct => cases h2
end
section
variable {fa : String → Option Addr} {X : Cx} {M : PM} {e : Expr} {es : List Expr} {pos p : Pos} {fs : EvA} {x : Str} {k : Nat} {f : Addr} {fd : FuncData} {ps : List Str} {c : Cv}
/-- f(..): the answer inline -/
def eCall (c : Cv) (n : Nat) (fs : EvA) : Ev := fun η S => (fs η S).bind fun p => if p.1.length = n then (c p.1 p.2).bind fun r => some (r.1, r.2.2) else none
/-- f(..): the answer a new container -/
def eCallO (c : Cv) (n : Nat) (fs : EvA) : Ev := fun η S => (fs η S).bind fun p => if p.1.length = n then (c p.1 p.2).bind fun r => if r.2.1 = true then some (r.1, r.2.2) else none else none
theorem se_call (F : FnOk X.prog X.w X.K X.mg X.base CX0 k f fd ps (spOf (cf fa X) c ps.length)) (hr : Room k X.A) (hg : Gl X x) (hm : X.mg x = some (.ref f)) (hk : PySem.W.keepIn X.K (.ref f) = true) (hb : Binds X.K fd ps [])
    (ha : SA fa X (e :: es) fs) (hdb : (x == ("__debug__" : Str)) = false := by decide) (he : starEach (e :: es) X.env = (false, eval e X.env) :: starEach es X.env := by rfl) (hpl : (backTo pos (starEach es X.env)).any (·.1) = false := by rfl) :
    SE fa X (.Call (.Name x p) (e :: es) [] pos) (eCall c ps.length fs) := by
  obtain ⟨t, q, ha⟩ := ha.ex
  refine ⟨tCall (spOf (cf fa X) c ps.length) [] E0 t, pe_call F hr hg hm hk hb .nil pass0 q hdb he hpl, fun w σ η S d S' hη hS hf Q hQ => ?_⟩
  obtain ⟨⟨ds, S1⟩, h1, hf⟩ := bsome hf
  split at hf
  · rename_i hl
    obtain ⟨⟨d1, own, S2⟩, h2, hf⟩ := bsome hf
    cases hf
    refine ha w σ η S ds S1 hη hS h1 _ fun vs w1 e1 s1 r1 => ?_
    refine ⟨w1, S1, ds, _, own, _, rfl, s1, by rw [List.append_nil]; exact r1, hl, h2, RPost.of (PmOk.mono e1 hQ) s1⟩
  · cases hf
theorem so_call (F : FnOk X.prog X.w X.K X.mg X.base CX0 k f fd ps (spOf (cf fa X) c ps.length)) (hr : Room k X.A) (hg : Gl X x) (hm : X.mg x = some (.ref f)) (hk : PySem.W.keepIn X.K (.ref f) = true) (hb : Binds X.K fd ps [])
    (ha : SA fa X (e :: es) fs) (hdb : (x == ("__debug__" : Str)) = false := by decide) (he : starEach (e :: es) X.env = (false, eval e X.env) :: starEach es X.env := by rfl) (hpl : (backTo pos (starEach es X.env)).any (·.1) = false := by rfl) :
    SO fa X (.Call (.Name x p) (e :: es) [] pos) (eCallO c ps.length fs) := by
  obtain ⟨t, q, ha⟩ := ha.ex
  refine ⟨tCall (spOf (cf fa X) c ps.length) [] E0 t, pe_call F hr hg hm hk hb .nil pass0 q hdb he hpl, fun w σ η S d S' hη hS hf Q hQ => ?_⟩
  obtain ⟨⟨ds, S1⟩, h1, hf⟩ := bsome hf
  split at hf
  · rename_i hl
    obtain ⟨⟨d1, own, S2⟩, h2, hf⟩ := bsome hf
    split at hf
    · rename_i ho
      cases hf
      have ho : own = true := ho
      subst ho
      refine ha w σ η S ds S1 hη hS h1 _ fun vs w1 e1 s1 r1 => ?_
      exact ⟨w1, S1, ds, _, true, _, rfl, s1, by rw [List.append_nil]; exact r1, hl, h2, (PmOk.mono e1 hQ : PostO _ _ _ _ _)⟩
    · cases hf
  · cases hf
end
end HS
set_option Elab.async false
set_option linter.all false
set_option maxRecDepth 100000
set_option autoImplicit false
/-! Sorting by keys that are tuples, also empty ones. -/
namespace HS
open PySem PySem.W PySem.SeqAt PyProof.Rows
theorem tupLt_call {A : Around} {s : Shared} {prog : Program} {w : World} {E : Value → Shared → Prop} {Q : Value → Shared → Prop} {l b : Addr} {items items2 : Array Value} {e r : Nat → Bool} (hl : s.heap.IsTuple l items) (hb : s.heap.IsTuple b items2)
    (he : ∀ j (h1 : j < items.size) (h2 : j < items2.size), EqAt A.in1 s items[j] items2[j] (e j)) (hr : ∀ j (h1 : j < items.size) (h2 : j < items2.size), e j = false → RcLt A.in1 s items[j] items2[j] (r j))
    (h : Q (.bool (firstLt e r (decide (items.size < items2.size)) (List.range (min items.size items2.size)))) s) :
    wpAny (model prog w) A (call (.builtin "tuple.__lt__") [.ref l, .ref b]) Q E s := by
  obtain ⟨⟨c1, d1, t1, s1⟩, h1, g1, m, k1⟩ := id hl
  obtain ⟨⟨c2, d2, t2, s2⟩, h2, g2, m2, k2⟩ := id hb
  simp only at g1 k1 g2 k2
  subst g1 k1 g2 k2
  exact call_meets F.slot_tuple_lt ⟨_, h1, rfl⟩ F.entry_tuple_lt (F.args_tuple_lt_2 _ _)
    (tuple_ltAt l b items items2 m m2 d1 d2 s1 s2 e r) ⟨h1, h2, he, hr, h⟩
section
variable {prog : Program} {w : World} {A : Around} {E : Value → Shared → Prop} {s : Shared}
/-- tuples compared by their own order -/
theorem oneLt_tups {xs ys : List PyData} {a b : Value} {as bs : List Addr} {Q : Bool → Shared → Prop} (ra : Reads s.heap a (.tuple xs) as) (rb : Reads s.heap b (.tuple ys) bs)
    (hal : alikeAll xs ys = true) (hu : A.units + min (PyData.tuple xs).depth (PyData.tuple ys).depth < cLine) (hq : Q (dataLt (.tuple xs) (.tuple ys)) s) :
    wpAny (model prog w) A (oneLt' true a b) Q E s := by
  cases ra with
  | @tuple l o vs n _ as₁ h1 h2 h3 h4 =>
    cases rb with
    | @tuple l' o' vs' n' _ bs₁ k1 k2 k3 k4 =>
      have n1 : vs.size = xs.length := by simpa using ReadsAll.length _ _ _ h4
      have n2 : vs'.size = ys.length := by simpa using ReadsAll.length _ _ _ k4
      rw [dataLt_tuple, ← firstLt_toks xs ys hal, ← n1, ← n2] at hq
      rw [oneLt'_eq, if_pos rfl]
      refine wpAny_bind (wpAny_cRoomFor (room_here hu) ?_)
      refine wpAny_bind (wpAny_callSpecialIfBound?_slot (T := "tuple") ⟨_, h1, h2⟩ F.slot_tuple_lt ?_)
      refine tupLt_call (e := pairEq xs ys) (r := fun j => dataLt (xs.getD j .none) (ys.getD j .none)) ⟨_, h1, h2, _, h3⟩ ⟨_, k1, k2, _, k3⟩ ?_ ?_ (wpAny_truthy_bool hq)
      · intro j j1 j2
        have q := eqAt_alikeAll xs ys A.in1 s vs.toList vs'.toList _ _ h4 k4 hal (room_in hu) j (by simpa using j1) (by simpa using j2)
        simpa using q
      · intro j j1 j2 hj
        have q := rcLt_alikeAll xs ys A.in1 s vs.toList vs'.toList _ _ h4 k4 hal (room_in hu) j (by simpa using j1) (by simpa using j2) hj
        simpa using q
/-- the first item of each, where there is one -/
inductive Firsts (h : Heap) : List Value → List (Option Value) → Prop
  | nil : Firsts h [] []
  | cons {a : Addr} {o : Obj} {xs : Array Value} {n : Nat} {vs : List Value} {fs : List (Option Value)} : h.get? a = some o → o.cls = .type "tuple" → o.data = .seq xs n → Firsts h vs fs → Firsts h (.ref a :: vs) (xs[0]? :: fs)
theorem firsts_run {M : Model} : ∀ (vs : List Value) (fs : List (Option Value)) {Q : List (Option Value) → Shared → Prop}, Firsts s.heap vs fs → Q fs s → wpAny M A (vs.mapM firstOfTuple') Q E s
  | [], _, _, t, h => by
    cases t
    rw [List.mapM_nil]
    exact wpAny_pure h
  | v :: vs, _, Q, t, h => by
    cases t with
    | @cons a o xs n _ fs h1 h2 h3 t =>
      rw [List.mapM_cons]
      refine wpAny_bind ?_
      rw [kas_first_eq]
      have ty : s.TypeIs (.ref a) "tuple" := ⟨o, h1, h2⟩
      refine wpAny_bind (wpAny_typeOf ty ?_)
      rw [if_neg (by decide)]
      refine wpAny_bind (listItems_at h1 h3 (wpAny_pure ?_))
      exact wpAny_bind (firsts_run vs fs t (wpAny_pure h))
theorem hfirsts {h : Heap} : ∀ {vs : List Value} {ds : List PyData}, EachIs (fun v d => ∃ as, Reads h v d as) vs ds → (∀ d ∈ ds, ∃ r, d = .tuple r) → ∃ fs, Firsts h vs fs ∧ fs.length = vs.length ∧ (∀ (i : Nat) (f : Option Value), fs[i]? = some f → (f = none ↔ ds[i]? = some (PyData.tuple [])))
  | _, _, .nil, _ => ⟨[], .nil, rfl, fun i f e => by simp at e⟩
  | _, _, .cons (b := d) ⟨as, r⟩ t, ht => by
    obtain ⟨fs, h1, h2, h3⟩ := hfirsts t fun d hd => ht d (List.mem_cons_of_mem _ hd)
    obtain ⟨xs, rfl⟩ := ht d List.mem_cons_self
    cases r with
    | @tuple l o vs n _ as₁ g1 g2 g3 g4 =>
      refine ⟨vs[0]? :: fs, .cons g1 g2 g3 h1, by simp [h2], fun i f e => ?_⟩
      have n1 : vs.size = xs.length := by simpa using ReadsAll.length _ _ _ g4
      cases i with
      | zero =>
        have e : vs[0]? = f := by simpa using e
        subst e
        cases xs with
        | nil =>
          have : vs.size = 0 := n1
          simp [this]
        | cons x xs =>
          have hp : 0 < vs.size := by rw [n1]; simp
          simp [hp]
      | succ i => simpa using h3 i f (by simpa using e)
/-- keys that are tuples that are alike can be sorted -/
theorem sortsAt_tups {vs : List Value} {ds : List PyData} (e : EachIs (fun v d => ∃ as, Reads s.heap v d as) vs ds) (hal : AllAlike ds) (ht : ∀ d ∈ ds, ∃ r, d = .tuple r) (hu : ∀ d, d ∈ ds → A.units + d.depth < cLine) :
    SortsAt prog w A s (dataKind s.heap ds) vs := by
  by_cases hne : ∀ d ∈ ds, d ≠ .tuple []
  · refine SortsAt.data e hal (.inl fun d hd => ?_) hu
    obtain ⟨r, rfl⟩ := ht d hd
    cases r with
    | nil => exact absurd rfl (hne _ hd)
    | cons x r => exact ⟨x, r, rfl⟩
  · obtain ⟨d0, hd0, e0⟩ : ∃ d, d ∈ ds ∧ d = .tuple [] := by
      apply Classical.byContradiction
      intro hc
      exact hne fun d hd he => hc ⟨d, hd, he⟩
    obtain ⟨fs, f1, f2, f3⟩ := hfirsts e ht
    obtain ⟨i0, hi0, ei0⟩ := List.mem_iff_getElem.mp hd0
    have hlen : vs.length = ds.length := e.length
    have hnone : fs[i0]? = some none := by
      have h1 : i0 < fs.length := by omega
      rw [List.getElem?_eq_getElem h1]
      congr 1
      exact (f3 i0 fs[i0] (List.getElem?_eq_getElem h1)).mpr (by rw [List.getElem?_eq_getElem hi0, ei0, e0])
    have hall : ¬ ((fs.toArray.all fun x => x.isSome) = true) := by
      intro h
      rw [List.all_toArray, List.all_eq_true] at h
      have := h none (List.mem_of_getElem? hnone)
      simp at this
    have lt : ∀ (f : Bool) (A : Around), (∀ d, d ∈ ds → A.units + d.depth < cLine) → ∀ (E : Value → Shared → Prop) (x y : Value) (a b : List (Int ⊕ List Nat)) {Q : Bool → Shared → Prop}, (dataKind s.heap ds).keyOf x = some a → (dataKind s.heap ds).keyOf y = some b → Q ((dataKind s.heap ds).blt a b) s → wpAny (model prog w) A (oneLt' f x y) Q E s := by
      intro f A hu E x y a b Q ha hb hq
      obtain ⟨d, as, hd, ra, rfl⟩ := dataKind_inv ha
      obtain ⟨d', as', hd', rb, rfl⟩ := dataKind_inv hb
      obtain ⟨xs, rfl⟩ := ht d hd
      obtain ⟨ys, rfl⟩ := ht d' hd'
      have ha2 := hal _ hd _ hd'
      have room : A.units + min (PyData.tuple xs).depth (PyData.tuple ys).depth < cLine := Nat.lt_of_le_of_lt (Nat.add_le_add_left (Nat.min_le_left _ _) _) (hu _ hd)
      cases f with
      | false => exact oneLt_alike (fun h => nomatch h) ra rb ha2 (fun h => nomatch h) room hq
      | true => exact oneLt_tups ra rb (by simpa [alike] using ha2) room hq
    refine ⟨fun v hv => ?_, if (fs[0]?.bind id).isSome = true then general' else oneType', ?_, fun h2 E Q hq => ?_⟩
    · obtain ⟨d, hd, as, r⟩ := e.left v hv
      exact ⟨_, dataKind_some hal hd r⟩
    · cases hb : (fs[0]?.bind id).isSome with
      | true => exact fun E x y a b Q h1 h2 h3 => lt false A hu E x y a b h1 h2 h3
      | false => exact fun E x y a b Q h1 h2 h3 => lt true A hu E x y a b h1 h2 h3
    · rw [keyKind'_eq, List.mapM_toArray, map_eq_pure_bind]
      refine wpAny_bind (wpAny_bind (firsts_run vs fs f1 (wpAny_pure ?_)))
      rw [if_neg hall]
      cases hb : (fs[0]?.bind id).isSome with
      | true =>
        rw [hb] at hq
        rw [if_pos (by simpa using hb)]
        exact wpAny_pure hq
      | false =>
        rw [hb] at hq
        rw [if_neg (by rw [List.getElem?_toArray, hb]; decide)]
        rw [oneTypeOnly'_eq, List.mapM_toArray, map_eq_pure_bind]
        refine wpAny_bind (wpAny_bind (wpAny_bind (kas_mapM (r := Value.type "tuple") _ (fun v hv Q' hq' => ?_) (wpAny_pure ?_))))
        · obtain ⟨d, hd, as, r⟩ := e.left v hv
          obtain ⟨xs, rfl⟩ := ht d hd
          cases r with
          | @tuple l o vs n _ as₁ g1 g2 g3 g4 => exact wpAny_typeOf (show s.TypeIs (.ref l) "tuple" from ⟨o, g1, g2⟩) hq'
        · obtain ⟨v1, vr, rfl⟩ : ∃ v1 vr, vs = v1 :: vr := by
            cases vs with
            | nil => simp at h2
            | cons v1 vr => exact ⟨v1, vr, rfl⟩
          have hs : ((List.map (fun _ => Value.type "tuple") (v1 :: vr)).toArray.all fun x => x == Value.type "tuple") = true := by
            rw [List.all_toArray, List.all_map, List.all_eq_true]
            intro _ _
            show (Value.type "tuple" == Value.type "tuple") = true
            decide
          have hz : (List.map (fun _ => Value.type "tuple") (v1 :: vr)).toArray[0]? = some (Value.type "tuple") := by simp
          rw [hz]
          simp only [hs, if_true]
          exact wpAny_pure (wpAny_pure (by simpa using hq))
end
end HS
set_option Elab.async false
set_option linter.all false
set_option maxRecDepth 100000
set_option autoImplicit false
set_option maxHeartbeats 1000000
/-! sorted(xs, key=f). -/
namespace HS
open PySem L2
/-- where the new world forgets objects that inline data does not use -/
structure LeR (w w' : Wd) : Prop where
  mu : ∀ (i : Nat) (p : Addr), w.mu[i]? = some p → w'.mu[i]? = some p
  F : ∀ q ∈ w'.F, q ∈ w.F ∨ w.H q = none
  keep : ∀ p o, w.H p = some o → p ∉ w.F → w'.H p = some o
theorem LeR.notF {w w' : Wd} (e : LeR w w') {p : Addr} {o : HO} (h : w.H p = some o) (hp : p ∉ w.F) : p ∉ w'.F := fun z => by
  rcases e.F p z with q | q
  · exact hp q
  · rw [h] at q; cases q
theorem Rep.monoR {C : Cf} {w w' : Wd} (e : LeR w w') {d : D} {v : V} (h : Rep C w d v) : Rep C w' d v :=
  Rep.rec (motive_1 := fun d v _ => Rep C w' d v) (motive_2 := fun ds vs _ => RepL C w' ds vs)
    .non (fun b => .bl b) (fun i => .int i) (fun x => .str x) (fun n => .ty n) (fun h => .fn h) (fun h => .ref (e.mu _ _ h))
    (fun h hp _ r => .tup (e.keep _ _ h hp) (e.notF h hp) r) (fun h _ r => .tupK h r) (fun h hp _ r => .lst (e.keep _ _ h hp) (e.notF h hp) r) (fun h hp _ r => .frz (e.keep _ _ h hp) (e.notF h hp) r) (fun h _ r => .scrK h r)
    (fun m h hp k _ r => .dicK m (e.keep _ _ h hp) (e.notF h hp) k r) (fun m h hp k _ _ r1 r2 => .dicT m (e.keep _ _ h hp) (e.notF h hp) k r1 r2) (fun h hp f n _ r => .ins (e.keep _ _ h hp) (e.notF h hp) f n r)
    .nil (fun _ _ r rs => .cons r rs) h
theorem RepL.monoR {C : Cf} {w w' : Wd} (e : LeR w w') : ∀ {ds : List D} {vs : List V}, RepL C w ds vs → RepL C w' ds vs
  | _, _, .nil => .nil
  | _, _, .cons r rs => .cons (r.monoR e) (RepL.monoR e rs)
theorem ObjRep.monoR {C : Cf} {w w' : Wd} (e : LeR w w') {p : Addr} {d : D} (h : ObjRep C w p d) (hp : ∀ o, w.H p = some o → w'.H p = some o) : ObjRep C w' p d := by
  cases d with
  | lst ds => obtain ⟨vs, q, r⟩ := h; exact ⟨vs, hp _ q, r.monoR e⟩
  | dic kvs =>
    rcases h with ⟨m, q, k, r⟩ | ⟨m, q, k, r1, r2⟩
    · exact .inl ⟨m, hp _ q, k, r.monoR e⟩
    · exact .inr ⟨m, hp _ q, k, r1.monoR e, r2.monoR e⟩
  | ins c fs => obtain ⟨a, dx, vs, q, f, n, r⟩ := h; exact ⟨a, dx, vs, hp _ q, f, n, r.monoR e⟩
  | _ => exact h.elim
/-- what a key function does, called within a sort -/
def KeyRun (X : Cx) (C : Cf) (fv : Value) (c : Cv) : Prop := ∀ (pins : List (Addr × Obj)) (s : Shared) (σ : L2.St) (w : Wd) (S : Sto) (d : D) (v : V) (u : Value) (d' : D) (own : Bool) (S' : Sto) (Q : VK), L2.Inv X pins σ w.H s → Sim C w S → Rep C w d v → RelV v u →
  c [d] S = some (d', own, S') → Post C w d' S' Q → wpAny (model X.prog X.w) X.A.in1.in1 (call fv [u]) (EP X pins σ Q) (fun _ _ => False) s
def kdR (c : Cv) : List D → Sto → Option (List D × Sto)
  | [], S => some ([], S)
  | x :: xs, S => (c [x] S).bind fun r => (kdR c xs r.2.2).bind fun q => some (r.1 :: q.1, q.2)
def SortOk (ks : List PyData) : Prop := PySem.W.AllAlike ks ∧ (PySem.W.Sortable ks ∨ ∀ d ∈ ks, ∃ r, d = PyData.tuple r) ∧ ∀ d ∈ ks, PyData.depth d ≤ 50
def sortD (xs : List D) (ks : List PyData) : List D := ((xs.zip ks).mergeSort (PySem.W.dataLe false fun p : D × PyData => p.2)).map (·.1)
open Classical in
noncomputable def bSortK (c : Cv) : D → Sto → Option (D × Sto) := fun d S => (lstOf S d).bind fun xs =>
  if xs.length ≤ SZ then (kdR c xs S).bind fun q => (pyAll q.2 q.1).bind fun ks => if SortOk ks then some (.lst (sortD xs ks), q.2) else none else none
/-- a def as a key function -/
theorem keyRun_fn {fa : String → Option Addr} {X : Cx} {k : Nat} {f : Addr} {fd : FuncData} {ps : List Str} {c : Cv} (F : FnOk X.prog X.w X.K X.mg X.base CX0 k f fd ps (spOf (cf fa X) c 1)) (hr : Room (k + 2) X.A) (hb : Binds X.K fd ps []) :
    KeyRun X (cf fa X) (.ref f) c := by
  intro pins s σ w S d v u d' own S' Q I hS r rv hc hQ
  have hsp : spOf (cf fa X) c 1 [v] w.H Q E0 := ⟨w, S, [d], d', own, S', rfl, hS, .cons r .nil, rfl, hc, RPost.of hQ hS⟩
  have hl : ([u] ++ []).length = ps.length := F.len _ _ _ _ hsp
  refine wpAny_call (codeAny_mono (F.run X.A.in1.in1 X.stack s w.H ⟨[u], []⟩ ([u] ++ []) [v] Q E0 (hr.in1.in1) I.env0.in1.in1 (hb s [u] I.kIn hl) (by exact .cons rv .nil) hsp) fun r s' hq => ?_)
  cases r with
  | error e => exact hq.elim
  | ok fl =>
    cases fl with
    | ret u => exact I.after hq
    | next => exact False.elim hq
    | brk => exact False.elim hq
    | cont => exact False.elim hq
theorem depth_room {k : Nat} {A : Around} {d : Nat} (hr : Room k A) (h : d ≤ 50) : A.in1.in1.units + d < cLine := by
  have := hr.un
  show A.units + 1 + 1 + d < cLine
  omega
/-- the values of a list of keys that read as data -/
theorem keys_read {C : Cf} {X : Cx} {pins : List (Addr × Obj)} {σ : L2.St} {H : Hp} {s : Shared} (I : L2.Inv X pins σ H s) : ∀ {ps : List PyData} {vs : List V} {us : List Value}, DpAll X.K H vs ps → Vals vs us → PySem.W.EachIs (fun v d => ∃ as, Reads s.heap v d as) us ps
  | [], _, _, h, r => by
    cases h; cases r
    exact .nil
  | p :: ps, _, _, h, r => by
    cases h with
    | cons h1 h2 =>
      cases r with
      | cons r1 r2 => exact .cons (Dp.reads I p _ _ h1 r1) (keys_read (C := C) I h2 r2)
theorem zip_rep {C : Cf} {w : Wd} : ∀ {xs : List D} {vs : List V} {us : List Value} {ks : List PyData}, RepL C w xs vs → Vals vs us → ks.length = xs.length → PySem.W.EachIs (fun u (b : D × PyData) => ∃ v, RelV v u ∧ Rep C w b.1 v) us (xs.zip ks)
  | [], _, _, ks, .nil, r, h => by
    cases r
    cases ks <;> exact .nil
  | x :: xs, _, _, [], .cons _ _, r, h => by simp at h
  | x :: xs, _, _, k :: ks, .cons r1 r2, r, h => by
    cases r with
    | cons r3 r4 => exact .cons ⟨_, r3, r1⟩ (zip_rep r2 r4 (by simpa using h))
theorem out_rep {C : Cf} {w : Wd} : ∀ {out : List Value} {bs : List (D × PyData)}, PySem.W.EachIs (fun u (b : D × PyData) => ∃ v, RelV v u ∧ Rep C w b.1 v) out bs → ∃ vs, Vals vs out ∧ RepL C w (bs.map (·.1)) vs
  | _, _, .nil => ⟨[], .nil, .nil⟩
  | _, _, .cons ⟨v, r1, r2⟩ t => by
    obtain ⟨vs, h1, h2⟩ := out_rep t
    exact ⟨v :: vs, .cons r1 h1, .cons r2 h2⟩
end HS
set_option Elab.async false
set_option linter.all false
set_option maxRecDepth 100000
set_option autoImplicit false
set_option maxHeartbeats 1000000
/-! sorted(xs, key=f), part 2: the call. -/
namespace HS
open PySem L2 PySem.W PyProof.Rows
section
variable {X : Cx} {pins : List (Addr × Obj)} {σ : L2.St} {H : Hp} {s : Shared} {h' : Heap}
/-- an address behind the heap's end -/
structure Apart (X : Cx) (pins : List (Addr × Obj)) (b : Addr) : Prop where
  z : X.s_0.heap.objs.size ≤ b
  l : b ≠ X.env.locals
  c : ∀ x c, X.env.cells.lookup x = some c → c ≠ b
  p : ∀ p ∈ X.pn ++ pins, p.1 ≠ b
  f : b ∉ X.fs
theorem apart_of (I : L2.Inv X pins σ H s) {b : Addr} (h : s.heap.objs.size ≤ b) : Apart X pins b := by
  refine ⟨Nat.le_trans I.sz h, fun z => ?_, fun x c e z => ?_, fun p hp z => ?_, I.nofs h⟩
  · exact absurd (z ▸ I.lt : b < s.heap.objs.size) (Nat.not_lt.mpr h)
  · obtain ⟨v, o, ho, _⟩ := I.cell x c e
    exact absurd (z ▸ Heap.lt_size ho : b < s.heap.objs.size) (Nat.not_lt.mpr h)
  · exact absurd (z ▸ Heap.lt_size (I.pin p hp).1 : b < s.heap.objs.size) (Nat.not_lt.mpr h)
theorem Apart.inv_turned {t' : Nat} {b : Addr} (n : Apart X pins b) (I : L2.Inv X pins σ H s) (hb : H b = none) (k : ∀ c o, c ≠ b → s.heap.get? c = some o → h'.get? c = some o) : L2.Inv X pins σ H { s with heap := h', toks := t' } :=
  I.turned k hb n.l (.inr n.z) n.c n.p
/-- two records apart have changed, one of them gets tracked -/
theorem inv_two {t' : Nat} {a b : Addr} {o : HO} (na : Apart X pins a) (nb : Apart X pins b) (I : L2.Inv X pins σ H s) (ha : H a = none) (hb : H b = none) (k : ∀ c u, c ≠ a → c ≠ b → s.heap.get? c = some u → h'.get? c = some u)
    (new : ObjOk X.prog X.w (upd H a o) h' a o) : L2.Inv X pins σ (upd H a o) { s with heap := h', toks := t' } := by
  have nit : ∀ c u, H c = some u → c ≠ a ∧ c ≠ b := fun c u e => ⟨fun z => (by rw [z, ha] at e; cases e), fun z => (by rw [z, hb] at e; cases e)⟩
  have up : ∀ {c u}, H c = some u → upd H a o c = some u := fun {c u} e => by rw [upd_ne (nit c u e).1]; exact e
  refine I.step (g' := s.gens) (d' := s.drawn) (ch := [a, b]) (fun c hc => ?_) (fun c u _ _ hc e _ => ?_) (fun c u _ _ hc e _ => ⟨u.slots, ?_⟩) (fun c u hc e n => ?_) (fun c u hc e => ⟨u, ?_⟩) (fun c xs e => up e) (fun c u v e => up e) (fun c ps e => ⟨#[], by rw [up e]; simp⟩) (fun m hm => ?_) (fun c u e => ?_) I.bare
  · rcases List.mem_cons.mp hc with e | hc
    · subst e; exact ⟨.inr na.z, na.l, na.c, na.p⟩
    · obtain rfl : c = b := by simpa using hc
      exact ⟨.inr nb.z, nb.l, nb.c, nb.p⟩
  · exact k c u (fun z => hc (by simp [z])) (fun z => hc (by simp [z])) e
  · exact k c u (fun z => hc (by simp [z])) (fun z => hc (by simp [z])) e
  · rw [upd_ne (fun z => hc (by simp [z]))]; exact n
  · exact k c u (fun z => hc (by simp [z])) (fun z => hc (by simp [z])) e
  · obtain ⟨u, es, ep, ho, r⟩ := hm
    exact ⟨u, es, ep, k _ u (Ne.symm na.l) (Ne.symm nb.l) ho, r⟩
  · by_cases hca : c = a
    · subst hca
      rw [upd_same] at e
      cases e
      exact new
    · rw [upd_ne hca] at e
      refine (I.hok c u e).stay (fun d v hd q => ?_) (fun d q => ?_) fun d xs q => up q
      · have hx : d ≠ a ∧ d ≠ b := by
          rcases hd with z | z
          · rw [z]; exact nit c u e
          · exact nit d _ z
        exact k d v hx.1 hx.2 q
      · exact up q
end
section
variable {fa : String → Option Addr} {X : Cx} {M : PM} {c : Cv}
structure KSt (C : Cf) (c : Cv) (w : Wd) (S1 : Sto) (xs kds : List D) (pins : List (Addr × Obj)) (σ : L2.St) (X : Cx) (a kS : Addr) (e1 : Nat) (i : Nat) (s : Shared) : Prop where
  ex : ∃ w' S' kvs kA e done rst, L2.Inv X pins σ w'.H s ∧ Le w w' ∧ Sim C w' S' ∧ w'.H kS = none ∧ w'.H a = none ∧ s.heap.get? kS = some (seqObj "list" kA e) ∧ s.heap.get? a = some (seqObj "list" #[] e1) ∧
    Vals kvs kA.toList ∧ RepL C w' done kvs ∧ kA.size = i ∧ kdR c (xs.drop i) S' = some (rst, S1) ∧ kds = done ++ rst
theorem vals_snoc {vs : List V} {us : List Value} {v : V} {u : Value} (h : Vals vs us) (r : RelV v u) : Vals (vs ++ [v]) (us ++ [u]) := by
  induction h with
  | nil => exact .cons r .nil
  | cons a _ ih => exact .cons a ih
theorem sortK_step {q : Value} {w : Wd} {S1 : Sto} {xs kds : List D} {vs : List V} {us : List Value} {pins : List (Addr × Obj)} {σ : L2.St} {a kS : Addr} {e1 : Nat} (hK : KeyRun X (cf fa X) q c)
    (na : Apart X pins a) (nk : Apart X pins kS) (hka : kS ≠ a) (rl : RepL (cf fa X) w xs vs) (rv : Vals vs us) (hz : us.length ≤ sizeLine) (j : Nat) (x : Value) (s' : Shared) (hx : us[j]? = some x) (h : KSt (cf fa X) c w S1 xs kds pins σ X a kS e1 j s') :
    wpAny (model X.prog X.w) X.A.in1.in1 (call q [x]) (fun u s'' => ∀ c2, ∃ kA e, s''.heap.get? kS = some (seqObj "list" kA e) ∧ kA.size ≤ sizeLine ∧ (∀ h', (h'.get? kS = some (seqObj "list" (kA.push u) c2)) → (∀ b o, b ≠ kS → s''.heap.get? b = some o → h'.get? b = some o) →
      KSt (cf fa X) c w S1 xs kds pins σ X a kS e1 (j + 1) { s'' with heap := h' })) (fun _ _ => False) s' := by
  obtain ⟨w', S', kvs, kA, e, done, rst, I, le, hS, hk0, ha0, hk, ha, rk, rd, hsz, hr, hd⟩ := h.ex
  have hjl : j < us.length := (List.getElem?_eq_some_iff.mp hx).1
  have hjx : j < xs.length := by rw [rl.length, rv.length]; exact hjl
  obtain ⟨v, hv1, hv2⟩ : ∃ v, vs[j]? = some v ∧ RelV v x := by
    have := rv.length
    obtain ⟨v, hv⟩ : ∃ v, vs[j]? = some v := ⟨_, List.getElem?_eq_getElem (by omega)⟩
    refine ⟨v, hv, ?_⟩
    obtain ⟨u, hu, r⟩ := rv.get hv
    rw [hx] at hu; cases hu; exact r
  obtain ⟨d, hd1, hd2⟩ := rl.getV hv1
  have hdrop : xs.drop j = d :: xs.drop (j + 1) := by
    rw [List.drop_eq_getElem_cons hjx]
    rw [List.getElem?_eq_getElem hjx] at hd1
    cases hd1; rfl
  rw [hdrop] at hr
  obtain ⟨⟨d', own, S2⟩, h1, hr⟩ := bsome hr
  obtain ⟨⟨rst2, S3⟩, h2, hr⟩ := bsome hr
  cases hr
  have I' : L2.Inv X ((kS, seqObj "list" kA e) :: (a, seqObj "list" #[] e1) :: pins) σ w'.H s' := by
    refine I.pins_of fun p hp => ?_
    rcases List.mem_cons.mp hp with rfl | hp
    · exact ⟨hk, hk0, nk.l, nk.f, fun v z => by cases z⟩
    · rcases List.mem_cons.mp hp with rfl | hp
      · exact ⟨ha, ha0, na.l, na.f, fun v z => by cases z⟩
      · exact I.pin p (List.mem_append_right _ hp)
  refine wpAny_mono (hK _ s' σ w' S' d v x d' own S2 (fun v2 H2 => ∃ w2, H2 = w2.H ∧ Le w' w2 ∧ Sim (cf fa X) w2 S2 ∧ Rep (cf fa X) w2 d' v2) I' hS (hd2.mono le.f) hv2 h1 fun v2 w2 e2 s2 r2 => ⟨w2, rfl, e2, s2, r2⟩) (fun u s'' hq => ?_) fun _ _ z => z
  obtain ⟨v2, _, I2, ru, w2, rfl, le2, hS2, r2⟩ := hq
  intro c2
  have pk := I2.pin _ (List.mem_append_right _ List.mem_cons_self)
  have pa := I2.pin _ (List.mem_append_right _ (List.mem_cons_of_mem _ List.mem_cons_self))
  have I3 : L2.Inv X pins σ w2.H s'' := I2.pins_of fun p hp => I2.pin p (List.mem_append_right _ (List.mem_cons_of_mem _ (List.mem_cons_of_mem _ hp)))
  refine ⟨kA, e, pk.1, by rw [hsz]; omega, fun h' hh keep => ⟨w2, S2, kvs ++ [v2], kA.push u, c2, done ++ [d'], rst2, nk.inv_turned (t' := s''.toks) I3 pk.2.1 keep, le.trans le2, hS2, pk.2.1, pa.2.1, hh, keep _ _ hka.symm pa.1, ?_, (rd.mono le2.f).snoc r2, by rw [Array.size_push, hsz], h2, by rw [List.append_assoc]; exact hd⟩⟩
  have : (kA.push u).toList = kA.toList ++ [u] := by simp
  rw [this]
  exact vals_snoc rk ru
theorem sortsAt_any {prog : Program} {w : World} {A : Around} {s : Shared} {vs : List Value} {ds : List PyData} (e : EachIs (fun v d => ∃ as, Reads s.heap v d as) vs ds) (h : SortOk ds) (hu : ∀ d, d ∈ ds → A.units + d.depth < cLine) : SortsAt prog w A s (dataKind s.heap ds) vs := by
  rcases h.2.1 with k | k
  · exact SortsAt.data e h.1 k hu
  · exact sortsAt_tups e h.1 k hu
theorem sortK_run [PmList M] {q : Addr} {l : Addr} {w : Wd} {S S1 : Sto} {xs kds : List D} {vs : List V} {ks : List PyData} {k : Nat} {pins : List (Addr × Obj)} {σ : L2.St} {s : Shared} {Q : VK} (I : L2.Inv X pins σ w.H s) (hS : Sim (cf fa X) w S) (hK : KeyRun X (cf fa X) (.ref q) c)
    (hl : SqL X.K w.H l vs) (rl : RepL (cf fa X) w xs vs) (hr : Room k X.A) (hZ : xs.length ≤ SZ) (h1 : kdR c xs S = some (kds, S1)) (h2 : pyAll S1 kds = some ks) (h3 : SortOk ks) (hQ : M (cf fa X) w (.lst (sortD xs ks)) S1 Q) :
    wpAny (model X.prog X.w) X.A (call (.builtin "sorted") [.ref l] [(Str.ofString "key", .ref q)]) (EP X pins σ Q) X.xe s := by
  obtain ⟨its, rv, hpl, hz⟩ := I.list hl
  have hlen : its.length = xs.length := by rw [← rv.length, rl.length]
  have hzi : its.length ≤ sizeLine := by rw [hlen]; exact sz hZ
  refine sorted_of_sort hpl.isList hzi (ksk_s1 _ _) (fun _ => ksk_l1 _ _) fun E' => ?_
  rw [ksk_t1]
  obtain ⟨a, ha⟩ : ∃ a, a = s.heap.objs.size + 1 := ⟨_, rfl⟩
  rw [← ha]
  have na : Apart X pins a := apart_of I (by rw [ha]; exact Nat.le_succ _)
  have ha0 : w.H a = none := I.hok.fresh (by rw [ha]; exact Nat.le_succ _)
  have ho : (copyHeap s.heap its).get? a = some (seqObj "list" its.toArray 0) := by rw [ha]; exact copyHeap_at s.heap its
  obtain ⟨g0, hg0⟩ : ∃ g, g = copyHeap s.heap its := ⟨_, rfl⟩
  rw [← hg0] at ho ⊢
  have kg0 : ∀ b o, s.heap.get? b = some o → g0.get? b = some o := fun b o e => by rw [hg0]; exact copyHeap_old e
  obtain ⟨e1, ho1⟩ : ∃ e1, (g0.update a (Obj.mapSeq fun _ => (#[] : Array Value))).get? a = some (seqObj "list" #[] e1) := ⟨_, get?_update_seq ho fun _ => #[]⟩
  unfold ksk_tree
  refine wpAny_bind (listItems_at ho rfl ?_)
  refine wpAny_bind (listUpdate_at ho rfl ?_ (by rw [List.size_toArray]; exact hzi) (Nat.zero_le _))
  refine wpAny_bind (seqEpoch_at ho1 rfl ?_)
  refine wpAny_bind (wpAny_newTuple ?_ (by show its.length ≤ _; exact hzi))
  refine wpAny_bind (wpAny_newList ?_ (Nat.zero_le _))
  refine wpAny_holding ?_
  obtain ⟨kS, hkS⟩ : ∃ kS, kS = ((g0.update a (Obj.mapSeq fun _ => (#[] : Array Value))).push (seqObj "tuple" its.toArray 0)).objs.size := ⟨_, rfl⟩
  obtain ⟨g1, hg1⟩ : ∃ g, g = ((g0.update a (Obj.mapSeq fun _ => (#[] : Array Value))).push (seqObj "tuple" its.toArray 0)).push (seqObj "list" #[] 0) := ⟨_, rfl⟩
  have hsz0 : s.heap.objs.size + 2 ≤ g0.objs.size := by
    have h9 : s.heap.objs.size + 1 < g0.objs.size := ha ▸ Heap.lt_size ho
    exact h9
  have hks0 : kS = g0.objs.size + 1 := by rw [hkS, size_push', Heap.size_update]
  have nk : Apart X pins kS := apart_of I (by omega)
  have hka : kS ≠ a := by omega
  have hk0 : w.H kS = none := I.hok.fresh (by omega)
  have kg1 : ∀ b o, s.heap.get? b = some o → g1.get? b = some o := fun b o e => by
    rw [hg1]
    refine Heap.get?_push_of_some _ (Heap.get?_push_of_some _ ?_)
    rw [Heap.get?_update_ne _ _ _ _ (by have h9 : b < s.heap.objs.size := Heap.lt_size e; exact Nat.ne_of_lt (by rw [ha]; exact Nat.lt_succ_of_lt h9))]
    exact kg0 b o e
  have ga : g1.get? a = some (seqObj "list" #[] e1) := by rw [hg1]; exact Heap.get?_push_of_some _ (Heap.get?_push_of_some _ ho1)
  have gk : g1.get? kS = some (seqObj "list" #[] 0) := by rw [hg1, hkS]; exact Heap.get?_push_size _ rfl
  show wpAny _ _ (ksk_rest a (.ref q) false its.toArray e1 (.ref _)) _ _ { s with heap := _ }
  rw [← hkS, ← hg1]
  unfold ksk_rest
  refine wpAny_bind (wpAny_rule ?_)
  first
    | rw [List.forIn_toArray]
    | (rw [← Array.forIn_toList]; simp only [List.toList_toArray])
    | rw [← Array.forIn_toList]
  refine wpAny_bind (ksk_fold (fun i s' => KSt (cf fa X) c w S1 xs kds pins σ X a kS e1 i s') its 0 { s with heap := g1 } ⟨w, S, [], #[], 0, [], kds, I.kept kg1, Le.refl w, hS, hk0, ha0, gk, ga, .nil, .nil, rfl, h1, rfl⟩ ?step ?done)
  case step =>
    intro j x s' hx hI
    rw [Nat.zero_add] at hI ⊢
    refine wpAny_bind (wpAny_attempt (wpAny_mono (sortK_step hK na nk hka rl rv hzi j x s' hx hI) (fun u s'' hq => ?_) fun _ _ hF => hF.elim))
    obtain ⟨kA, e, hk, hks, _⟩ := hq 0
    try dsimp only
    obtain ⟨c2, hc2⟩ : ∃ c2, (s''.heap.update kS (Obj.mapSeq (·.push u))).get? kS = some (seqObj "list" (kA.push u) c2) := ⟨_, get?_update_seq hk (·.push u)⟩
    have sb := Heap.SameBut.update s''.heap kS (Obj.mapSeq (·.push u))
    refine wpAny_bind (listUpdate_at hk rfl ?_ hks (Nat.le_trans (Nat.le_of_eq (Array.size_push ..)) (Nat.succ_le_succ hks)))
    obtain ⟨kA', e', hk', _, fin⟩ := hq c2
    rw [hk] at hk'
    have ee : kA' = kA := by
      have z := congrArg Obj.data (Option.some.inj hk')
      have z : PySem.Data.seq kA e = PySem.Data.seq kA' e' := z
      injection z with z2
      exact z2.symm
    subst ee
    exact wpAny_pure ⟨rfl, fin _ hc2 fun b o hb ho => (sb.2 b hb).trans ho⟩
  case done =>
    intro s' hI
    obtain ⟨w', S', kvs, kA, e, done, rst, I', le, hS', hk0', ha0', hk, ha', rk, rd, hsz, hrst, hd⟩ := hI.ex
    have hnil : xs.drop (0 + its.length) = [] := List.drop_eq_nil_of_le (by omega)
    rw [hnil] at hrst
    cases hrst
    rw [List.append_nil] at hd
    subst hd
    have hlk : kds.length = its.length := by
      have z1 := rd.length
      have z2 := rk.length
      simp only [Array.length_toList] at z2
      omega
    have hD : DpAll X.K w'.H kvs ks := repL_dp (C := cf fa X) (fun d _ v p r h => rep_dp d v p r h) rd h2
    have hrd := keys_read (C := cf fa X) I' hD rk
    try dsimp only
    refine wpAny_bind (listItems_at hk rfl ?_)
    obtain ⟨G, gg1, gg2⟩ := restrict s'.heap fun b => decide (b ≠ kS)
    have hksz : kA.size = its.length := by omega
    refine keyH_end (κ := dataKind s'.heap ks) (h₁ := G) (fun b o hb e => ?_) (gg2 kS (decide_eq_false fun z => z rfl)) hk ha' hka (sortsAt_any hrd h3 fun d hd => depth_room hr (h3.2.2 d hd)) hksz hzi fun h3' tk3 c3 k3 n3 => ⟨rfl, ?_⟩
    · by_cases hb2 : b = kS
      · rw [hb2, gg2 kS (decide_eq_false fun z => z rfl)] at e; cases e
      · rw [gg1 b (decide_eq_true hb2)] at e; exact e
    · have hlks : ks.length = xs.length := by
        have z1 := hrd.length
        rw [Array.length_toList] at z1
        omega
      obtain ⟨out, ho⟩ : ∃ out, out = sortVals (dataKind s'.heap ks) false kA.toList its := ⟨_, rfl⟩
      rw [← ho] at n3
      have hz2 := zip_rep (rl.mono le.f) rv hlks
      have hko : KeyedOut false ((xs.zip ks).map (·.2)) its out := ⟨s'.heap, kA.toList, by rw [List.map_snd_zip (by omega)]; exact h3.1, by rw [List.map_snd_zip (by omega)]; exact ho, by rw [List.map_snd_zip (by omega)]; exact hrd⟩
      have hout := keyedOut_each (fun p : D × PyData => p.2) hko hz2
      obtain ⟨ovs, ov1, ov2⟩ := out_rep hout
      have hol : ovs.length ≤ sizeLine := by
        have z1 := ov1.length
        have z2 := hko.length (by rw [List.map_snd_zip (by omega)]; omega)
        omega
      have Ifin : L2.Inv X pins σ (upd w'.H a (.lst ovs)) { s' with heap := h3', toks := tk3 } := inv_two na nk I' ha0' hk0' (fun b u h1 h2 e => k3 b u h1 (by rw [gg1 b (decide_eq_true h2)]; exact e)) ⟨hol, out, c3, ov1, n3⟩
      exact ⟨.ref a, _, Ifin, rfl, PmList.newLst (PmOk.mono le hQ) hS' ov2 ha0'⟩
end
end HS
set_option Elab.async false
set_option linter.all false
set_option maxRecDepth 100000
set_option autoImplicit false
/-! sorted, as expressions. -/
namespace HS
open PySem L2
section
variable {fa : String → Option Addr} {X : Cx} {M : PM} {e : Expr} {pos p p2 p3 : Pos} {f : Ev} {fs : EvA} {x : Str} {k : Nat} {c : Cv}
noncomputable def eSortK (c : Cv) (f : Ev) : Ev := fun η S => (f η S).bind fun r => bSortK c r.1 r.2
def rSK (fa : String → Option Addr) (X : Cx) (M : PM) (c : Cv) (a : Addr) : List V → List V → Hp → VK → Prop := fun vs zs H Q => ∃ w S S1 d D l, w.H = H ∧ vs = [.ref l] ∧ zs = [.ref a] ∧ Sim (cf fa X) w S ∧ Rep (cf fa X) w d (.ref l) ∧ bSortK c d S = some (D, S1) ∧ M (cf fa X) w D S1 Q
theorem cr_SK [PmList M] {a : Addr} (hK : KeyRun X (cf fa X) (.ref a) c) (hr : Room k X.A) : CallRK X (.builtin "sorted") [Str.ofString "key"] (rSK fa X M c a) := by
  intro pins s σ H vs zs us ws Q I r rz h
  obtain ⟨w, S, S1, d, D, l, rfl, rfl, rfl, hS, rd, hb, hQ⟩ := h
  obtain rfl := Vals.ref1 r
  obtain rfl := Vals.ref1 rz
  unfold bSortK at hb
  obtain ⟨xs, h1, hb⟩ := bsome hb
  split at hb
  · rename_i hz
    obtain ⟨⟨kds, S2⟩, h2, hb⟩ := bsome hb
    obtain ⟨ks, h3, hb⟩ := bsome hb
    split at hb
    · rename_i h4
      cases hb
      obtain ⟨p, vs, e1, e2, r2⟩ := rd.lstH hS h1
      cases e1
      exact sortK_run I hS hK (.inl (.inl e2)) r2 hr hz h2 h3 h4 hQ
    · cases hb
  · cases hb
theorem se_sortK [PmList M] {y : Str} {a : Addr} {fd : FuncData} {ps : List Str} (F : FnOk X.prog X.w X.K X.mg X.base CX0 k a fd ps (spOf (cf fa X) c 1)) (hr : Room (k + 2) X.A) (hb : Binds X.K fd ps []) (hg : Gl X "sorted") (hm : X.mg "sorted" = none)
    (hgy : Gl X y) (hmy : X.mg y = some (.ref a)) (ha : SE fa X e f) (hdy : (y == ("__debug__" : Str)) = false := by decide)
    (hs : starEach (e :: []) X.env = (false, eval e X.env) :: starEach [] X.env := by rfl)
    (he : backTo pos (starEach [e] X.env) = (false, eval e X.env) :: backTo pos (starEach [] X.env) := by rfl) (hpl : (backTo pos (starEach [e] X.env)).any (·.1) = false := by rfl)
    (hall : (backToKw pos (keywordEach [⟨some (Str.ofString "key"), .Name y p2, p3⟩] X.env)).all (·.1.isSome) = true := by rfl) (hnone : (backToKw pos (keywordEach [⟨some (Str.ofString "key"), .Name y p2, p3⟩] X.env)).any (·.1.isNone) = false := by rfl)
    (hks : (backToKw pos (keywordEach [⟨some (Str.ofString "key"), .Name y p2, p3⟩] X.env)).filterMap (·.1) = [Str.ofString "key"] := by rfl) :
    SEm fa M X (.Call (.Name "sorted" p) [e] [⟨some (Str.ofString "key"), .Name y p2, p3⟩] pos) (eSortK c f) := by
  obtain ⟨t, q, ha⟩ := ha.ex
  refine ⟨tCKw (rSK fa X M c a) (tCons t tNil) (tCons (tC (.ref a)) tNil), pe_callBK (cr_SK (keyRun_fn F hr hb) hr) hg hm rfl (pa_cons q pa_nil hs) (pk_cons (pe_glob (v := .ref a) hgy hmy rfl hdy) pk_nil) (by decide) (by decide) he hpl hall hnone hks, fun w σ η S d S' hη hS hf Q hQ => ?_⟩
  obtain ⟨⟨d1, S1⟩, h1, h2⟩ := bsome hf
  refine ha w σ η S d1 S1 hη hS h1 _ fun v w1 e1 s1 r1 => ?_
  have : ∃ l, v = .ref l := by
    unfold bSortK at h2
    obtain ⟨xs, h3, _⟩ := bsome h2
    obtain ⟨p, vs, e, _⟩ := r1.lstH s1 h3
    exact ⟨p, e⟩
  obtain ⟨l, rfl⟩ := this
  exact ⟨w1, S1, S', d1, d, l, rfl, rfl, rfl, s1, r1, h2, PmOk.mono e1 hQ⟩
/-! sorted(ints) -/
def sortI (is : List Int) : List Int := is.mergeSort fun a b => decide (a ≤ b)
theorem sortI_eq {is ns : List Int} (p : ns.Perm is) (o : ns.Pairwise (· ≤ ·)) : ns = sortI is := by
  have h2 : (sortI is).Pairwise (· ≤ ·) := (List.pairwise_mergeSort (le := fun a b : Int => decide (a ≤ b)) (fun a b c h1 h2 => by simp at *; omega) (fun a b => by simp; omega) is).imp fun h => by simpa using h
  exact List.Perm.eq_of_pairwise (le := (· ≤ ·)) (fun a b _ _ h1 h2 => Int.le_antisymm h1 h2) o h2 (p.trans (List.mergeSort_perm _ _).symm)
def bSortI : RDs := fun ds S => match ds with
  | [d] => (lstOf S d).bind fun xs => (intsOf xs).bind fun is => some (.lst ((sortI is).map D.int), S)
  | _ => none
theorem repL_ints {C : Cf} {w : Wd} : ∀ is : List Int, RepL C w (is.map D.int) (is.map V.int)
  | [] => .nil
  | i :: is => .cons (.int i) (repL_ints is)
theorem sem_sortI [PmList M] {C : Cf} : CallSem M C (rSortedI C.K) bSortI := by
  intro w S ds vs d S' hS r hf Q hQ
  unfold bSortI at hf
  split at hf
  · obtain ⟨xs, h1, h2⟩ := bsome hf
    obtain ⟨is, h3, h4⟩ := bsome h2
    cases h4
    obtain ⟨v, rfl, r1⟩ := r.inv1
    obtain ⟨p, us, rfl, e, r2⟩ := r1.lstH hS h1
    have := rep_ints h3 r2
    subst this
    refine ⟨p, is, rfl, .inl (.inl e), fun ns q pp po hn => ?_⟩
    obtain rfl := sortI_eq pp po
    exact PmList.newLst hQ hS (repL_ints _) hn
  · cases hf
end
end HS
set_option Elab.async false
set_option linter.all false
set_option maxRecDepth 100000
set_option autoImplicit false
/-! Stores into lists. -/
namespace HS
open PySem L2
section
variable {fa : String → Option Addr} {X : Cx} {o i value : Expr} {pos pos' : Pos} {fo fi fv : Ev}
def setIx (S : Sto) (d e v : D) : Option Sto := match e with
  | .int k => (stL S d).bind fun q => (ixN q.2.length k).bind fun j => some (S.set q.1 (.lst (q.2.set j v)))
  | _ => none
/-- xs[i] = value -/
def sSetI (fo fi fv : Ev) : Sv := fun η S => (fv η S).bind fun p => (fo η p.2).bind fun q => (fi η q.2).bind fun r => (setIx r.2 q.1 r.1 p.1).bind fun S' => some (.nx, η, S')
theorem ss_setI (hv : SE fa X value fv) (ho : SE fa X o fo) (hi : SE fa X i fi) (hs : swapsWithSole [.Subscript o i pos'] value pos.line X.env = pure false := by rfl) (hw : swappedStores [.Subscript o i pos'] value X.env = pure none := by rfl)
    (h1 : (assignEach [.Subscript o i pos'] X.env).map (·.2) = [assign (.Subscript o i pos') X.env] := by rfl)
    (ha : ∀ v, assign (.Subscript o i pos') X.env v = (do
      let ov ← holding [v] (eval o X.env)
      let iv ← holding [v, ov] (eval i X.env)
      standAt pos'
      holding [v, ov, iv] (setItem ov iv v)
      release [v, ov, iv] []) := by intro _; rfl) : SS fa X (.Assign [.Subscript o i pos'] value pos) (sSetI fo fi fv) := by
  obtain ⟨tv, pv, hv⟩ := hv.ex
  obtain ⟨to, po, ho⟩ := ho.ex
  obtain ⟨ti, pi, hi⟩ := hi.ex
  refine ⟨tAsg tv (gSub to ti rSetL), ps_asg pv (pg_sub po pi set_list ha) hs hw h1, fun w σ η S fl η' S' hη hS hf Dn hD => ?_⟩
  obtain ⟨⟨d1, S1⟩, h2, hf⟩ := bsome hf
  obtain ⟨⟨d2, S2⟩, h3, hf⟩ := bsome hf
  obtain ⟨⟨d3, S3⟩, h4, hf⟩ := bsome hf
  obtain ⟨S4, h5, hf⟩ := bsome hf
  cases hf
  refine hv w σ η S d1 S1 hη hS h2 _ fun v w1 e1 s1 r1 => ho w1 σ η S1 d2 S2 (hη.mono e1.f) s1 h3 _ fun u w2 e2 s2 r2 => hi w2 σ η S2 d3 S3 (hη.mono (e1.trans e2).f) s2 h4 _ fun x w3 e3 s3 r3 => ?_
  unfold setIx at h5
  simp only at h5
  split at h5
  · rename_i k
    obtain ⟨⟨j, xs⟩, h6, h5⟩ := bsome h5
    obtain ⟨m, h7, h5⟩ := bsome h5
    cases h5
    cases r3
    obtain ⟨p, us, rfl, hi2, e, r4⟩ := (r2.mono e3.f).stL s3 h6
    have le : Le w3 ⟨w3.mu, w3.L, upd w3.H p (.lst (us.set m v))⟩ := Le.put (List.mem_of_getElem? hi2) e
    refine ⟨p, us, k, m, rfl, rfl, e, by rw [← r4.length]; exact h7, hD σ ⟨w3.mu, w3.L, upd w3.H p (.lst (us.set m v))⟩ (((e1.trans e2).trans e3).trans le) (s3.put hi2 e ⟨_, upd_same, (r4.set ((r1.mono e2.f).mono e3.f) m).mono le.f⟩) (hη.mono (((e1.trans e2).trans e3).trans le).f)⟩
  · cases h5
end
end HS
set_option Elab.async false
set_option linter.all false
set_option maxRecDepth 100000
set_option autoImplicit false
/-! Short forms. -/
namespace HS
open PySem L2
section
variable {fa : String → Option Addr} {X : Cx} {a b : Expr} {pos : Pos} {f g : Ev}
theorem sem_is {C : Cf} : OpSem Post C (fun x y H Q => y = .non ∧ Q (.bl (decide (x = .non))) H) oIs := by
  intro w S a b x y d S' hS ra rb hf Q hQ
  unfold oIs at hf
  split at hf
  · cases hf; cases rb
    exact ⟨rfl, by rw [ra.isNon]; exact hQ.here hS (.bl _)⟩
  · cases hf
theorem sem_isNot {C : Cf} : OpSem Post C (fun x y H Q => y = .non ∧ Q (.bl (!decide (x = .non))) H) oIsNot := by
  intro w S a b x y d S' hS ra rb hf Q hQ
  unfold oIsNot at hf
  split at hf
  · cases hf; cases rb
    exact ⟨rfl, by rw [ra.isNon]; exact hQ.here hS (.bl _)⟩
  · cases hf
theorem st_is (ha : SE fa X a f) (hb : SE fa X b g) : ST fa X (.Compare a [.Is] [b] pos) (tB (eBin oIs f g)) := st_cmp op_isN sem_is ha hb (nomark _)
theorem st_isNot (ha : SE fa X a f) (hb : SE fa X b g) : ST fa X (.Compare a [.IsNot] [b] pos) (tB (eBin oIsNot f g)) := st_cmp op_notN sem_isNot ha hb (nomark _)
end
end HS
set_option Elab.async false
set_option linter.all false
set_option maxRecDepth 100000
set_option autoImplicit false
/-! name = [.. for .. for ..]; a def that promises nothing. -/
namespace HS
open PySem L2
section
variable {fa : String → Option Addr} {X : Cx} {M : PM} {elt tg iter tg1 iter1 : Expr} {ifs ifs1 : List Expr} {scope : Scope} {own : List (Str × Nat)} {pos : Pos} {it it1 : EvI} {gf gf1 : Tg} {ts ts1 vs1 : List Nat} {tt tt1 : EvB} {fe : Ev}
theorem lc2_sem [PmLc M] {wi : TI} (hi : ∀ w σ η S I S', RepE (cf fa X) w η σ → Sim (cf fa X) w S → it η S = some (I, S') → ∀ R : It → Hp → Prop, (∀ J w', Le w w' → Sim (cf fa X) w' S' → ItOk (cf fa X) w' J I.xs I.chk → R J w'.H) → wi σ w.H R)
    {vs : List Nat} (hts : ∀ j ∈ ts, j ∈ vs) (hts1 : ∀ j ∈ ts1, j ∈ vs1) : ∀ w σ η S d S', RepE (cf fa X) w η σ → Sim (cf fa X) w S → eLc2 it vs gf tt it1 vs1 gf1 tt1 fe η S = some (d, S') → ∀ Q : VK, M (cf fa X) w d S' Q →
      tLc2 wi (gOf (cf fa X) gf ts) (ttOf (cf fa X) tt) (iOf (cf fa X) it1) (gOf (cf fa X) gf1 ts1) (ttOf (cf fa X) tt1) (tOf (cf fa X) Post fe) vs vs1 σ w.H Q := by
  intro w σ η S d S' hη hS hf Q hQ
  obtain ⟨⟨⟨xs, chk⟩, S1⟩, h1, hf⟩ := bsome hf
  obtain ⟨⟨ys, S2⟩, h2, hf⟩ := bsome hf
  cases hf
  refine hi w σ η S _ S1 hη hS h1 _ fun J wJ eJ sJ hJ D hD => ?_
  have hJ : ItOk (cf fa X) wJ J xs chk := hJ
  have run : lc2R chk gf tt it1 vs1 gf1 tt1 fe (wipeE η vs) xs [] S1 = some (ys, S2) := h2
  have hn : w.H D = none := eJ.dom D hD
  refine ⟨fun i m H => ∃ w1 S1 acc, w1.H = H ∧ Le w w1 ∧ LeF wJ w1 ∧ Sim (cf fa X) w1 S1 ∧ DD (cf fa X) w1 D acc ∧ lc2R chk gf tt it1 vs1 gf1 tt1 fe (wipeE η vs) (xs.drop i) acc S1 = some (ys, S2) ∧ i ≤ xs.length ∧ m = xs.length - i,
    ⟨xs.length, ⟨wJ.mu, D :: wJ.L, upd wJ.H D (.lst [])⟩, S1, [], rfl, eJ.trans (Le.newL hD), (Le.newL hD).f, sJ.newL hD, ⟨List.mem_cons_self, sJ.freshm hD, [], upd_same, .nil⟩, run, Nat.zero_le _, rfl⟩, ?_⟩
  rintro i m H ⟨w1, S1, acc, rfl, e1, f1, s1, d1, hr, hi, rfl⟩
  by_cases hlt : i < xs.length
  · refine .inr ?_
    rw [List.drop_eq_getElem_cons hlt] at hr
    unfold lc2R at hr
    split at hr
    · rename_i hck
      obtain ⟨η1, h1, hr⟩ := bsome hr
      obtain ⟨⟨b, S3⟩, h2, hr⟩ := bsome hr
      refine ⟨hJ.go i w1 S1 f1 s1 hck hlt, fun H' => ∃ w5 S5 acc, w5.H = H' ∧ Le w w5 ∧ LeF wJ w5 ∧ Sim (cf fa X) w5 S5 ∧ DD (cf fa X) w5 D acc ∧ lc2R chk gf tt it1 vs1 gf1 tt1 fe (wipeE η vs) (xs.drop (i + 1)) acc S5 = some (ys, S2), ?_, ?_⟩
      · rintro H' ⟨w5, S5, acc5, a1, a2, a3, a4, a5, a6⟩
        exact ⟨xs.length - (i + 1), by omega, w5, S5, acc5, a1, a2, a3, a4, a5, a6, hlt, rfl⟩
      · intro x H' hy
        obtain ⟨w2, d, rfl, e2, s2, _, _, hd, rd⟩ := hJ.yld i w1 S1 x H' f1 s1 hck hlt hy
        rw [List.getElem?_eq_getElem hlt] at hd
        cases hd
        refine ⟨w2, wipeE η vs, S1, _, η1, rfl, ((hη.mono eJ.f).mono (f1.trans e2.f)).wipe _, s2, rd, h1, fun σ2 hη2 hl2 k2 => ⟨?_, ?_⟩⟩
        · refine wipe_eq (hl2.trans (wipe_length _ _)) fun j hj => ?_
          rw [k2 j (fun z => hj (hts j z)), wipe_get hj]
        · refine ⟨w2, η1, S1, b, S3, rfl, hη2, s2, h2, fun w3 e3 s3 => ?_⟩
          cases b with
          | false =>
            simp only [Bool.false_eq_true, if_false] at hr ⊢
            exact ⟨w3, S3, acc, rfl, (e1.trans e2).trans e3, f1.trans (e2.trans e3).f, s3, d1.mono (e2.trans e3), hr⟩
          | true =>
            simp only [if_true] at hr ⊢
            obtain ⟨⟨⟨xs1, chk1⟩, S4⟩, h3, hr⟩ := bsome hr
            obtain ⟨⟨acc5, S5⟩, h4, hr⟩ := bsome hr
            refine ⟨w3, η1, S3, _, S4, rfl, hη2.mono e3.f, s3, h3, fun J1 w4 e4 s4 hJ1 => ?_⟩
            exact lc_loop (w0 := w) (wS := w4) (wJ := w4) hJ1 hts1 hn (((e1.trans e2).trans e3).trans e4) (LeF.refl _) s4 ((hη2.mono e3.f).mono e4.f) (d1.mono ((e2.trans e3).trans e4)) h4
              fun w5 a1 a2 a3 a4 => ⟨w5, S5, acc5, rfl, a1, (f1.trans ((e2.trans e3).trans e4).f).trans a2, a3, a4, hr⟩
    · cases hr
  · have e : i = xs.length := by omega
    subst e
    rw [List.drop_length] at hr
    unfold lc2R at hr
    split at hr
    · rename_i hck
      cases hr
      exact .inl ⟨hJ.stop w1 _ f1 s1 hck, PmLc.lc hQ hS e1 hn s1 d1⟩
    · cases hr
theorem ss_setLc2 {i : Nat} {y : Str} {py spos : Pos} (hc : X.calm = true) (hN : X.N.Nodup) (hy : X.N[i]? = some y) (hyl : X.env.scope.names.lookup y = some .local)
    (hsw : swapsWith (.ListComp elt [⟨tg, iter, ifs, 0⟩, ⟨tg1, iter1, ifs1, 0⟩] scope pos) (some (.Name y py)) spos.line X.env = pure true) (hi : SI fa X tg iter it) (ok : BlkOk X.N X.env.scope scope own) (hv : ∀ i ∈ vs1, i ∈ own.map (·.2))
    (hg : ∀ (s : Shared) (H : Hp) (C : Addr) (cl : List (Str × Addr)) (fp : List Addr), SG fa (X.blk s H scope (compEnvC scope cl C X.env) fp) tg gf ts) (hts : ∀ j ∈ ts, j ∈ own.map (·.2))
    (ht : ∀ (s : Shared) (H : Hp) (C : Addr) (cl : List (Str × Addr)) (fp : List Addr), STs fa (X.blk s H scope (compEnvC scope cl C X.env) fp) ifs tt)
    (hi1 : ∀ (s : Shared) (H : Hp) (C : Addr) (cl : List (Str × Addr)) (fp : List Addr), SI fa (X.blk s H scope (compEnvC scope cl C X.env) fp) tg1 iter1 it1)
    (hg1 : ∀ (s : Shared) (H : Hp) (C : Addr) (cl : List (Str × Addr)) (fp : List Addr), SG fa (X.blk s H scope (compEnvC scope cl C X.env) fp) tg1 gf1 ts1) (hts1 : ∀ j ∈ ts1, j ∈ vs1)
    (ht1 : ∀ (s : Shared) (H : Hp) (C : Addr) (cl : List (Str × Addr)) (fp : List Addr), STs fa (X.blk s H scope (compEnvC scope cl C X.env) fp) ifs1 tt1)
    (he : ∀ (s : Shared) (H : Hp) (C : Addr) (cl : List (Str × Addr)) (fp : List Addr), SE fa (X.blk s H scope (compEnvC scope cl C X.env) fp) elt fe) (hs : ∀ x, foldedSetIterable iter X.env x = pure x := by intro _; rfl) (hs1 : ∀ env x, foldedSetIterable iter1 env x = pure x := by intro _ _; rfl) :
    SS fa X (.Assign [.Name y py] (.ListComp elt [⟨tg, iter, ifs, 0⟩, ⟨tg1, iter1, ifs1, 0⟩] scope pos) spos) (sSet i (eLc2 it (own.map (·.2)) gf tt it1 vs1 gf1 tt1 fe)) := by
  obtain ⟨wi, p, hi⟩ := hi.ex
  refine ⟨_, ps_setLc2 (g := gOf (cf fa X) gf ts) (tt := ttOf (cf fa X) tt) (wi1 := iOf (cf fa X) it1) (g1 := gOf (cf fa X) gf1 ts1) (tt1 := ttOf (cf fa X) tt1) (te := tOf (cf fa X) Post fe) hc hN hy hyl hsw p ok hv (fun s H C cl fp => (hg s H C cl fp).canon) (fun s H C cl fp => (ht s H C cl fp).can)
    (fun s H C cl fp => (hi1 s H C cl fp).canon) (fun s H C cl fp => (hg1 s H C cl fp).canon) (fun s H C cl fp => (ht1 s H C cl fp).can) (fun s H C cl fp => (he s H C cl fp).canon) hs hs1, fun w σ η S fl η' S' hη hS hf Dn hD => ?_⟩
  obtain ⟨⟨d, S1⟩, h3, hf⟩ := bsome hf
  cases hf
  exact lc2_sem (M := Post) hi hts hts1 w σ η S d S1 hη hS h3 _ fun v w' e s r => hD _ w' e s ((hη.mono e.f).set r)
end
theorem fnOk_none {P : Program} {w : World} {K : PySem.W.Frag} {mg : Str → Option Value} {base : Heap} {fa : String → Option Addr} {k : Nat} {f : Addr} {fd : FuncData} {ps : List Str} {n : Nat} : FnOk P w K mg base CX0 k f fd ps (spOf ⟨P, w, K, fa⟩ (fun _ _ => none) n) :=
  ⟨fun vs H Q E ⟨_, _, _, _, _, _, _, _, _, _, z, _⟩ => (by cases z), fun A outer s H args us vs Q E _ _ _ _ ⟨_, _, _, _, _, _, _, _, _, _, z, _⟩ => by cases z⟩
/-- so many turns at most -/
def wN : Nat := 1000000
end HS
set_option Elab.async false
set_option linter.all false
set_option maxRecDepth 100000
set_option autoImplicit false
/-! Defs by the head's facts; the law's own call. -/
namespace HS
open PySem L2
abbrev FnP (K : PySem.W.Frag) (x qual : Str) (st : Stmt) (f : Addr) (fd : FuncData) : Prop := FunD K x qual (defArgs st) (defBody st) (defScope st) [] [] f fd
section
variable {P : Program} {w : World} {K : PySem.W.Frag} {mg : Str → Option Value} {base : Heap} {fa : String → Option Addr}
theorem fn_ruleD {x qual : Str} {st : Stmt} {f : Addr} {fd : FuncData} {N ps : List Str} {k : Nat} {g : Sv} (F : FnP K x qual st f fd) (S : FnScope N ps (defScope st))
    (body : ∀ (cdv : Value) (A : Around) (outer : List PySem.Env) (s : Shared) (H : Hp) (E : XK), Room k (A.deeper (PyProof.Rows.envOfC qual (defScope st) s.heap.objs.size f cdv)) → SSs fa (cxOf CX0 P w K mg base N qual (defScope st) f cdv A outer s H E).nox (defBody st) g) :
    FnOk P w K mg base CX0 (k + 1) f fd ps (spOf ⟨P, w, K, fa⟩ (callOf N.length g) ps.length) := by
  refine FunD.ok F S (fun vs H Q E h => ?_) (fun cdv A outer s H vs Q E hr h => ?_)
  · obtain ⟨w, S, ds, d, own, S', _, _, r, hl, _⟩ := h
    rw [← r.length]; exact hl
  · obtain ⟨w, S, ds, d, own, S', rfl, hS, r, hl, hc, hQ⟩ := h
    obtain ⟨t, pt, sem⟩ := (body cdv A outer s w.H E hr).ex
    refine ⟨t, PSs.nox pt, ?_⟩
    unfold callOf at hc
    obtain ⟨⟨fl, η', S1⟩, h1, h2⟩ := bsome hc
    refine sem w (L2.start N vs) _ S fl η' S1 (repE_start r) hS h1 _ ?_
    unfold endS at h2
    cases fl with
    | nx => exact fun σ' w' e s _ => end_post hS e s .non h2 hQ
    | ret d => exact fun v w' e s r => end_post hS e s r h2 hQ
    | bk => cases h2
    | ct => cases h2
/-- the law's promise to the head -/
def spLaw (K : PySem.W.Frag) : Sp := fun vs H Q _ => ∃ (a : Addr) (ns : List Int), vs = [.ref a] ∧ Only H ∧ SqL K H a (ns.map V.int) ∧ ns.length ≤ 63 ∧ ∀ H', Q (.bl true) H'
theorem law_imp {k : Nat} {f : Addr} {fd : FuncData} {ps : List Str} {c : Cv} (F : FnOk P w K mg base CX0 k f fd ps (spOf ⟨P, w, K, fa⟩ c 1)) (h : ∀ ns : List Int, ns.length ≤ 63 → ∃ S', c [.scr (ns.map D.int)] [] = some (.bl true, false, S')) :
    FnOk P w K mg base CX0 k f fd ps (spLaw K) := by
  refine F.imp fun vs H Q E ⟨a, ns, e, hO, hS, hl, hQ⟩ => ?_
  subst e
  obtain ⟨S', hc⟩ := h ns hl
  have hn : a ∉ (⟨[], [], H⟩ : Wd).F := fun z => by cases z
  refine ⟨⟨[], [], H⟩, [], [.scr (ns.map D.int)], _, _, _, rfl, ⟨rfl, List.nodup_nil, fun q z => (nomatch z), fun i p d z _ => (by have z : ([] : List Addr)[i]? = some p := z; simp at z)⟩, .cons ?_ .nil, rfl, hc, fun v w' e s r => ?_⟩
  · rcases hS with (z | ⟨o, z⟩) | z
    · rcases hO a with q | ⟨o, xs, q⟩
      · rw [z] at q; cases q
      · rw [z] at q; cases q
    · exact .frz z hn (repL_ints ns)
    · exact .scrK z (repL_ints ns)
  · cases r
    exact hQ _
end
end HS
set_option Elab.async false
set_option linter.all false
set_option maxRecDepth 100000
set_option autoImplicit false
/-! Reckoning with the mirrors: single steps. -/
namespace HS
open PySem L2
/-! plain data of bounded depth -/
def pl : Nat → D → Bool
  | _, .non => true
  | _, .bl _ => true
  | _, .int _ => true
  | _, .str _ => true
  | n + 1, .tup xs => xs.all (pl n)
  | n + 1, .lst xs => xs.all (pl n)
  | _, _ => false
theorem pl_mono : ∀ {n m : Nat} {d : D}, n ≤ m → pl n d = true → pl m d = true
  | 0, m, d, h, e => by cases d <;> cases m <;> simp [pl] at e ⊢
  | n + 1, 0, d, h, e => by omega
  | n + 1, m + 1, d, h, e => by
    cases d <;> simp [pl] at e ⊢
    · exact fun x hx => pl_mono (by omega) (e x hx)
    · exact fun x hx => pl_mono (by omega) (e x hx)
theorem pl_clo : ∀ {n k : Nat} {d : D}, pl n d = true → clo k d = true
  | n, k, .non, _ => by simp [clo]
  | n, k, .bl _, _ => by simp [clo]
  | n, k, .int _, _ => by simp [clo]
  | n, k, .str _, _ => by simp [clo]
  | n + 1, k, .tup xs, e => by
    rw [clo]
    have h : ∀ x ∈ xs, pl n x = true := by simpa [pl] using e
    clear e
    induction xs with
    | nil => rw [cloL]
    | cons x xs ih => rw [cloL, pl_clo (h x List.mem_cons_self), ih fun y hy => h y (List.mem_cons_of_mem _ hy)]; rfl
  | n + 1, k, .lst xs, e => by
    rw [clo]
    have h : ∀ x ∈ xs, pl n x = true := by simpa [pl] using e
    clear e
    induction xs with
    | nil => rw [cloL]
    | cons x xs ih => rw [cloL, pl_clo (h x List.mem_cons_self), ih fun y hy => h y (List.mem_cons_of_mem _ hy)]; rfl
  | 0, k, .tup xs, e => by simp [pl] at e
  | 0, k, .lst xs, e => by simp [pl] at e
  | n, k, .scr _, e => by cases n <;> simp [pl] at e
  | n, k, .dic _, e => by cases n <;> simp [pl] at e
  | n, k, .ins _ _, e => by cases n <;> simp [pl] at e
  | n, k, .ref _, e => by cases n <;> simp [pl] at e
  | n, k, .fn _, e => by cases n <;> simp [pl] at e
  | n, k, .ty _, e => by cases n <;> simp [pl] at e
theorem mapM_self {f : D → Option D} : ∀ {xs : List D}, (∀ x ∈ xs, f x = some x) → xs.mapM f = some xs
  | [], _ => rfl
  | x :: xs, h => by
    rw [List.mapM_cons, h x List.mem_cons_self, mapM_self fun y hy => h y (List.mem_cons_of_mem _ hy)]
    rfl
theorem pl_fz : ∀ {n k m : Nat} {S : Sto} {d : D}, pl n d = true → n < k → fzD k m S d = some d
  | n, 0, m, S, d, e, h => by omega
  | n, k + 1, m, S, d, e, h => by
    cases d with
    | non => rfl
    | bl b => rfl
    | int i => rfl
    | str x => rfl
    | tup xs =>
      cases n with
      | zero => simp [pl] at e
      | succ n =>
        have hh : ∀ x ∈ xs, pl n x = true := by simpa [pl] using e
        unfold fzD
        have hm : xs.mapM (fzD k m S) = some xs := mapM_self fun x hx => pl_fz (n := n) (hh x hx) (by omega)
        simp only [hm]; rfl
    | lst xs =>
      cases n with
      | zero => simp [pl] at e
      | succ n =>
        have hh : ∀ x ∈ xs, pl n x = true := by simpa [pl] using e
        unfold fzD
        have hm : xs.mapM (fzD k m S) = some xs := mapM_self fun x hx => pl_fz (n := n) (hh x hx) (by omega)
        simp only [hm]; rfl
    | scr _ => cases n <;> simp [pl] at e
    | dic _ => cases n <;> simp [pl] at e
    | ins _ _ => cases n <;> simp [pl] at e
    | ref _ => cases n <;> simp [pl] at e
    | fn _ => cases n <;> simp [pl] at e
    | ty _ => cases n <;> simp [pl] at e
/-! stores: the caller's part, what was made behind it -/
/-- S, with the list of draws at i, and the local containers E -/
def IL (ds : List Int) : D := .lst (ds.map .int)
def W (A : Sto) (i : Nat) (ds : List Int) (E : Sto) : Sto := A.set i (IL ds) ++ E
def V (A : Sto) (E : Sto) : Sto := A ++ E
section
variable {A E : Sto} {i j : Nat} {ds es : List Int} {x : D}
theorem W_in (h : A[i]? = some (IL ds)) : A = W A i ds [] := by
  unfold W
  rw [List.append_nil]
  obtain ⟨hi, e⟩ := List.getElem?_eq_some_iff.mp h
  rw [← e, List.set_getElem_self]
theorem V_in : A = V A [] := (List.append_nil A).symm
theorem W_out : W A i ds [] = A.set i (IL ds) := List.append_nil _
theorem V_out : V A [] = A := List.append_nil _
@[simp] theorem W_len : (W A i ds E).length = A.length + E.length := by simp [W]
@[simp] theorem V_len : (V A E).length = A.length + E.length := by simp [V]
theorem W_i (hi : i < A.length) : (W A i ds E)[i]? = some (IL ds) := by
  unfold W
  rw [List.getElem?_append_left (by simpa using hi), List.getElem?_set_self hi]
theorem W_E : (W A i ds E)[A.length + j]? = E[j]? := by
  unfold W
  rw [List.getElem?_append_right (by simp)]
  simp
theorem V_E : (V A E)[A.length + j]? = E[j]? := by
  unfold V
  rw [List.getElem?_append_right (by simp)]
  simp
theorem V_A (hi : i < A.length) : (V A E)[i]? = A[i]? := by
  unfold V
  rw [List.getElem?_append_left hi]
theorem W_A {k : Nat} (hi : k < A.length) (hk : k ≠ i) : (W A i ds E)[k]? = A[k]? := by
  unfold W
  rw [List.getElem?_append_left (by simpa using hi), List.getElem?_set_ne (Ne.symm hk)]
theorem W_si (hi : i < A.length) : (W A i ds E).set i (IL es) = W A i es E := by
  unfold W
  rw [List.set_append_left _ _ (by simpa using hi), List.set_set]
theorem W_sE : (W A i ds E).set (A.length + j) x = W A i ds (E.set j x) := by
  unfold W
  rw [List.set_append_right _ _ (by simp)]
  simp
theorem V_sE : (V A E).set (A.length + j) x = V A (E.set j x) := by
  unfold V
  rw [List.set_append_right _ _ (by simp)]
  simp
@[simp] theorem W_app {F : Sto} : W A i ds E ++ F = W A i ds (E ++ F) := by simp [W]
@[simp] theorem V_app {F : Sto} : V A E ++ F = V A (E ++ F) := by simp [V]
theorem end_W {n : Nat} {d : D} (hd : pl n d = true) (hn : n < 40) : endF A (W A i ds E) d = some (d, false, A.set i (IL ds)) := by
  unfold endF
  by_cases hE : E = []
  · subst hE
    rw [if_pos (by simp), W_out]
  · have h1 : ¬ (W A i ds E).length = A.length := by
      simp
      exact hE
    rw [if_neg h1, if_pos]
    · have ht : (W A i ds E).take A.length = A.set i (IL ds) := by
        unfold W
        rw [List.take_append_of_le_length (by simp)]
        rw [List.take_of_length_le (by simp)]
      rw [ht]
      have hz : fzD FZ A.length (W A i ds E) d = some d := pl_fz hd hn
      cases d with
      | ref k => cases n <;> simp [pl] at hd
      | _ => simp only [hz, Option.bind_some]
    · intro k hk
      by_cases hki : k = i
      · subst hki
        refine .inr ⟨IL ds, W_i hk, ?_⟩
        exact pl_clo (n := 1) (by simp [IL, pl])
      · exact .inl (W_A hk hki)
theorem end_Wr {n j : Nat} {c : D} (hj : E[j]? = some c) (hd : pl n c = true) : endF A (W A i ds E) (.ref (A.length + j)) = some (c, true, A.set i (IL ds)) := by
  unfold endF
  have h1 : ¬ (W A i ds E).length = A.length := by
    have := (List.getElem?_eq_some_iff.mp hj).1
    simp
    rintro rfl
    simp at this
  rw [if_neg h1, if_pos]
  · have ht : (W A i ds E).take A.length = A.set i (IL ds) := by
      unfold W
      rw [List.take_append_of_le_length (by simp)]
      rw [List.take_of_length_le (by simp)]
    simp only [ht]
    rw [if_neg (by omega), W_E, hj]
    simp only [Option.bind_some, pl_clo hd, if_true]
  · intro k hk
    by_cases hki : k = i
    · subst hki
      refine .inr ⟨IL ds, W_i hk, ?_⟩
      exact pl_clo (n := 1) (by simp [IL, pl])
    · exact .inl (W_A hk hki)
theorem end_V {n : Nat} {d : D} (hd : pl n d = true) (hn : n < 40) : endF A (V A E) d = some (d, false, A) := by
  unfold endF
  by_cases hE : E = []
  · subst hE
    rw [if_pos (by simp), V_out]
  · have h1 : ¬ (V A E).length = A.length := by
      simp
      exact hE
    rw [if_neg h1, if_pos]
    · have ht : (V A E).take A.length = A := by
        unfold V
        rw [List.take_append_of_le_length (by simp)]
        rw [List.take_of_length_le (by simp)]
      rw [ht]
      have hz : fzD FZ A.length (V A E) d = some d := pl_fz hd hn
      cases d with
      | ref k => cases n <;> simp [pl] at hd
      | _ => simp only [hz, Option.bind_some]
    · intro k hk
      exact .inl (V_A hk)
theorem end_Vr {n j : Nat} {c : D} (hj : E[j]? = some c) (hd : pl n c = true) : endF A (V A E) (.ref (A.length + j)) = some (c, true, A) := by
  unfold endF
  have h1 : ¬ (V A E).length = A.length := by
    have := (List.getElem?_eq_some_iff.mp hj).1
    simp
    rintro rfl
    simp at this
  rw [if_neg h1, if_pos]
  · have ht : (V A E).take A.length = A := by
      unfold V
      rw [List.take_append_of_le_length (by simp)]
      rw [List.take_of_length_le (by simp)]
    simp only [ht]
    rw [if_neg (by omega), V_E, hj]
    simp only [Option.bind_some, pl_clo hd, if_true]
  · intro k hk
    exact .inl (V_A hk)
end
/-! loops -/
theorem forR_ind {chk : Sto → Prop} {tg : Tg} {body : Sv} (I : Nat → Env → Sto → Prop) : ∀ (xs : List D) (k0 : Nat) (η : Env) (S : Sto), I k0 η S → (∀ k η S, k0 ≤ k → k ≤ k0 + xs.length → I k η S → chk S) →
    (∀ k x η S, xs[k]? = some x → I (k0 + k) η S → ∃ η1 η2 S2, tg x η = some η1 ∧ (body η1 S = some (.nx, η2, S2) ∨ body η1 S = some (.ct, η2, S2)) ∧ I (k0 + k + 1) η2 S2) →
    ∃ η' S', forR chk tg body xs η S = some (.nx, η', S') ∧ I (k0 + xs.length) η' S'
  | [], k0, η, S, h, hc, _ => ⟨η, S, by unfold forR; rw [if_pos (hc k0 η S (Nat.le_refl _) (Nat.le_add_right _ _) h)], h⟩
  | x :: xs, k0, η, S, h, hc, hs => by
    obtain ⟨η1, η2, S2, h1, h2, h3⟩ := hs 0 x η S rfl h
    obtain ⟨η', S', h4, h5⟩ := forR_ind I xs (k0 + 1) η2 S2 h3 (fun k η S a b hI => hc k η S (by omega) (by simp; omega) hI) (fun k y η S hk hI => by
      have := hs (k + 1) y η S (by simpa using hk)
      have e : k0 + 1 + k = k0 + (k + 1) := by omega
      rw [e] at hI ⊢
      exact this hI)
    refine ⟨η', S', ?_, by have e : k0 + (x :: xs).length = k0 + 1 + xs.length := by simp; omega
                           rw [e]; exact h5⟩
    unfold forR
    rw [if_pos (hc k0 η S (Nat.le_refl _) (by omega) h), h1]
    rcases h2 with h2 | h2 <;> simp only [Option.bind_some, h2, h4]
theorem for_ind {it : EvI} {tg : Tg} {body : Sv} {η : Env} {S S0 : Sto} {xs : List D} {chk : Sto → Prop} (I : Nat → Env → Sto → Prop) (hi : it η S0 = some (⟨xs, chk⟩, S)) (h0 : I 0 η S) (hc : ∀ k η S, k ≤ xs.length → I k η S → chk S)
    (hs : ∀ k x η S, xs[k]? = some x → I k η S → ∃ η1 η2 S2, tg x η = some η1 ∧ (body η1 S = some (.nx, η2, S2) ∨ body η1 S = some (.ct, η2, S2)) ∧ I (k + 1) η2 S2) :
    ∃ η' S', sFor it tg body η S0 = some (.nx, η', S') ∧ I xs.length η' S' := by
  obtain ⟨η', S', h1, h2⟩ := forR_ind I xs 0 η S h0 (fun k η S _ b hI => hc k η S (by omega) hI) (fun k x η S hx hI => by
    rw [Nat.zero_add] at hI ⊢
    exact hs k x η S hx hI)
  rw [Nat.zero_add] at h2
  exact ⟨η', S', by unfold sFor; rw [hi]; exact h1, h2⟩
theorem lcR_ind {chk : Sto → Prop} {tg : Tg} {tt : EvB} {fe : Ev} {η0 : Env} (I : Nat → List D → Sto → Prop) : ∀ (xs : List D) (k0 : Nat) (acc : List D) (S : Sto), I k0 acc S → (∀ k acc S, I k acc S → chk S) → (∀ k acc S, I k acc S → acc.length ≤ k) → k0 + xs.length ≤ SZ →
    (∀ k x acc S, xs[k]? = some x → I (k0 + k) acc S → ∃ η1 b S1, tg x η0 = some η1 ∧ tt η1 S = some (b, S1) ∧ ((b = true ∧ ∃ y S2, fe η1 S1 = some (y, S2) ∧ I (k0 + k + 1) (acc ++ [y]) S2) ∨ (b = false ∧ I (k0 + k + 1) acc S1))) →
    ∃ ys S', lcR chk tg tt fe η0 xs acc S = some (ys, S') ∧ I (k0 + xs.length) ys S'
  | [], k0, acc, S, h, hc, _, _, _ => ⟨acc, S, by unfold lcR; rw [if_pos (hc _ _ _ h)], h⟩
  | x :: xs, k0, acc, S, h, hc, hl, hz, hs => by
    obtain ⟨η1, b, S1, h1, h2, h3⟩ := hs 0 x acc S rfl h
    have hs' : ∀ k y acc S, xs[k]? = some y → I (k0 + 1 + k) acc S → ∃ η1 b S1, tg y η0 = some η1 ∧ tt η1 S = some (b, S1) ∧ ((b = true ∧ ∃ y S2, fe η1 S1 = some (y, S2) ∧ I (k0 + 1 + k + 1) (acc ++ [y]) S2) ∨ (b = false ∧ I (k0 + 1 + k + 1) acc S1)) := fun k y acc S hk hI => by
      have := hs (k + 1) y acc S (by simpa using hk)
      have e : k0 + 1 + k = k0 + (k + 1) := by omega
      rw [e] at hI ⊢
      exact this hI
    have e : k0 + (x :: xs).length = k0 + 1 + xs.length := by simp; omega
    unfold lcR
    rw [if_pos (hc _ _ _ h), h1, e]
    simp only [Option.bind_some, h2]
    rcases h3 with ⟨rfl, y, S2, h4, h5⟩ | ⟨rfl, h5⟩
    · rw [if_pos rfl, h4]
      simp only [Option.bind_some]
      have := hl _ _ _ h
      rw [if_pos (by simp at hz; omega)]
      exact lcR_ind I xs (k0 + 1) (acc ++ [y]) S2 h5 hc hl (by simp at hz; omega) hs'
    · rw [if_neg (by decide)]
      exact lcR_ind I xs (k0 + 1) acc S1 h5 hc hl (by simp at hz; omega) hs'
theorem lc_ind {it : EvI} {vs : List Nat} {tg : Tg} {tt : EvB} {fe : Ev} {η : Env} {S S0 : Sto} {xs : List D} {chk : Sto → Prop} (I : Nat → List D → Sto → Prop) (hi : it η S0 = some (⟨xs, chk⟩, S)) (h0 : I 0 [] S) (hc : ∀ k acc S, I k acc S → chk S) (hl : ∀ k acc S, I k acc S → acc.length ≤ k) (hz : xs.length ≤ SZ)
    (hs : ∀ k x acc S, xs[k]? = some x → I k acc S → ∃ η1 b S1, tg x (wipeE η vs) = some η1 ∧ tt η1 S = some (b, S1) ∧ ((b = true ∧ ∃ y S2, fe η1 S1 = some (y, S2) ∧ I (k + 1) (acc ++ [y]) S2) ∨ (b = false ∧ I (k + 1) acc S1))) :
    ∃ ys S', eLc it vs tg tt fe η S0 = some (.lst ys, S') ∧ I xs.length ys S' := by
  obtain ⟨ys, S', h1, h2⟩ := lcR_ind I xs 0 [] S h0 hc hl (by omega) (fun k x acc S hx hI => by
    rw [Nat.zero_add] at hI ⊢
    exact hs k x acc S hx hI)
  rw [Nat.zero_add] at h2
  exact ⟨ys, S', by unfold eLc; rw [hi]; simp only [Option.bind_some]; rw [h1]; rfl, h2⟩
/-- a comprehension that changes no store -/
theorem lcR_pure {chk : Sto → Prop} {tg : Tg} {tt : EvB} {fe : Ev} {η0 : Env} {α : Type} {g f : α → D} {b : α → Bool} {S : Sto} (hc : chk S) : ∀ (as : List α) (acc : List D), acc.length + as.length ≤ SZ →
    (∀ a ∈ as, ∃ η1, tg (g a) η0 = some η1 ∧ tt η1 S = some (b a, S) ∧ (b a = true → fe η1 S = some (f a, S))) → lcR chk tg tt fe η0 (as.map g) acc S = some (acc ++ (as.filter b).map f, S)
  | [], acc, _, _ => by
    rw [List.map_nil]
    unfold lcR
    rw [if_pos hc]
    simp
  | a :: as, acc, hz, h => by
    obtain ⟨η1, h1, h2, h3⟩ := h a List.mem_cons_self
    rw [List.map_cons]
    unfold lcR
    rw [if_pos hc, h1]
    simp only [Option.bind_some, h2]
    have hr := fun acc hz => lcR_pure (f := f) (b := b) hc as acc hz fun x hx => h x (List.mem_cons_of_mem _ hx)
    by_cases hb : b a = true
    · rw [if_pos hb, h3 hb]
      simp only [Option.bind_some]
      rw [if_pos (by simp at hz; omega), hr _ (by simp at hz ⊢; omega), List.filter_cons_of_pos hb]
      simp
    · rw [if_neg hb, hr _ (by simp at hz ⊢; omega), List.filter_cons_of_neg hb]
theorem lc_pure {it : EvI} {vs : List Nat} {tg : Tg} {tt : EvB} {fe : Ev} {η : Env} {α : Type} {g f : α → D} {b : α → Bool} {S S0 : Sto} {chk : Sto → Prop} {as : List α} (hi : it η S0 = some (⟨as.map g, chk⟩, S)) (hc : chk S) (hz : as.length ≤ SZ)
    (h : ∀ a ∈ as, ∃ η1, tg (g a) (wipeE η vs) = some η1 ∧ tt η1 S = some (b a, S) ∧ (b a = true → fe η1 S = some (f a, S))) : eLc it vs tg tt fe η S0 = some (.lst ((as.filter b).map f), S) := by
  unfold eLc
  rw [hi]
  simp only [Option.bind_some]
  rw [lcR_pure hc as [] (by simpa using hz) h]
  simp
/-- .. without a test -/
theorem lc_all {it : EvI} {vs : List Nat} {tg : Tg} {tt : EvB} {fe : Ev} {η : Env} {α : Type} {g f : α → D} {S S0 : Sto} {chk : Sto → Prop} {as : List α} (hi : it η S0 = some (⟨as.map g, chk⟩, S)) (hc : chk S) (hz : as.length ≤ SZ)
    (h : ∀ a ∈ as, ∃ η1, tg (g a) (wipeE η vs) = some η1 ∧ tt η1 S = some (true, S) ∧ fe η1 S = some (f a, S)) : eLc it vs tg tt fe η S0 = some (.lst (as.map f), S) := by
  rw [lc_pure (f := f) (b := fun _ => true) hi hc hz fun a ha => ?_, List.filter_eq_self.mpr fun _ _ => rfl]
  obtain ⟨η1, h1, h2, h3⟩ := h a ha
  exact ⟨η1, h1, h2, fun _ => h3⟩
end HS
set_option Elab.async false
set_option linter.all false
set_option maxRecDepth 100000
set_option autoImplicit false
/-! Typed data. -/
namespace HS
open PySem L2
/-- a text that can be compared and laid -/
abbrev Tx := { x : Str // PyData.strOk x = true }
/-- what stands for data -/
class DV (α : Type) where
  d : α → D
  n : Nat
  py : α → PyData
  hpl : ∀ x, pl n (d x) = true
  hpy : ∀ S x, pyD S (d x) = some (py x)
  lay : ∀ x, (py x).canLay0 = true
  dep : ∀ x, (py x).depth ≤ n
  eqv : ∀ x y, PyData.eqv (py x) (py y) = true ↔ x = y
abbrev dv {α : Type} [DV α] : α → D := DV.d
instance : DV Int := ⟨.int, 0, .int, fun x => by simp [pl], fun S x => by rw [pyD], fun x => by simp [PyData.canLay0], fun x => by simp [PyData.depth], fun x y => by simp [PyData.eqv]⟩
instance : DV Tx := ⟨fun x => .str x.1, 0, fun x => .str x.1, fun x => by simp [pl], fun S x => by rw [pyD], fun x => by simp [PyData.canLay0, x.2], fun x => by simp [PyData.depth], fun x y => by simp [PyData.eqv, Subtype.ext_iff]⟩
theorem pl_up {n m : Nat} {x : D} (h : pl n x = true) (hm : n ≤ m) : pl m x = true := pl_mono hm h
theorem pyAll_map {α : Type} [DV α] {S : Sto} : ∀ xs : List α, pyAll S (xs.map dv) = some (xs.map DV.py)
  | [] => by rw [List.map_nil, List.map_nil, pyAll]
  | x :: xs => by
    rw [List.map_cons, pyAll, DV.hpy, pyAll_map xs]
    rfl
theorem layAll_map {α : Type} [DV α] : ∀ xs : List α, PyData.canLayAll0 (xs.map DV.py) = true
  | [] => by simp [PyData.canLayAll0]
  | x :: xs => by simp [PyData.canLayAll0, DV.lay x, layAll_map xs]
theorem depAll_map {α : Type} [DV α] : ∀ xs : List α, PyData.depthAll (xs.map DV.py) ≤ DV.n α
  | [] => by simp [PyData.depthAll]
  | x :: xs => by
    rw [List.map_cons, PyData.depthAll]
    exact Nat.max_le.mpr ⟨DV.dep x, depAll_map xs⟩
theorem eqvAll_map {α : Type} [DV α] : ∀ xs ys : List α, PyData.eqvAll (xs.map DV.py) (ys.map DV.py) = true ↔ xs = ys
  | [], [] => by simp [PyData.eqvAll]
  | [], y :: ys => by simp [PyData.eqvAll]
  | x :: xs, [] => by simp [PyData.eqvAll]
  | x :: xs, y :: ys => by simp [PyData.eqvAll, DV.eqv, eqvAll_map xs ys]
/-- a tuple of things of one kind -/
instance {α : Type} [DV α] : DV (List α) where
  d xs := .tup (xs.map dv)
  n := DV.n α + 1
  py xs := .tuple (xs.map DV.py)
  hpl xs := by simp [pl, DV.hpl]
  hpy S xs := by rw [pyD, pyAll_map]; rfl
  lay xs := by simp [PyData.canLay0, layAll_map]
  dep xs := by
    rw [PyData.depth]
    exact Nat.succ_le_succ (depAll_map xs)
  eqv xs ys := by simp [PyData.eqv, eqvAll_map]
/-- a pair -/
instance {α β : Type} [DV α] [DV β] : DV (α × β) where
  d p := .tup [dv p.1, dv p.2]
  n := max (DV.n α) (DV.n β) + 1
  py p := .tuple [DV.py p.1, DV.py p.2]
  hpl p := by simp [pl, pl_up (DV.hpl p.1) (Nat.le_max_left _ (DV.n β)), pl_up (DV.hpl p.2) (Nat.le_max_right (DV.n α) _)]
  hpy S p := by
    rw [pyD, pyAll, pyAll, pyAll, DV.hpy, DV.hpy]
    rfl
  lay p := by simp [PyData.canLay0, PyData.canLayAll0, DV.lay p.1, DV.lay p.2]
  dep p := by
    have h1 := DV.dep p.1
    have h2 := DV.dep p.2
    simp only [PyData.depth, PyData.depthAll]
    omega
  eqv p q := by simp [PyData.eqv, PyData.eqvAll, DV.eqv, Prod.ext_iff]
/-- a whole number or a text -/
inductive Val where
  | num (i : Int)
  | txt (x : Tx)
deriving DecidableEq
instance : DV Val where
  d | .num i => .int i
    | .txt x => .str x.1
  n := 0
  py | .num i => .int i
     | .txt x => .str x.1
  hpl x := by cases x <;> simp [pl]
  hpy S x := by cases x <;> simp [pyD]
  lay x := by
    cases x with
    | num i => simp [PyData.canLay0]
    | txt x => simp [PyData.canLay0, x.2]
  dep x := by cases x <;> simp [PyData.depth]
  eqv x y := by cases x <;> cases y <;> simp [PyData.eqv, Subtype.ext_iff]
/-- a list of such -/
def dl {α : Type} [DV α] (xs : List α) : D := .lst (xs.map dv)
section
variable {α : Type} [DV α] {S : Sto} {x y : α} {xs : List α}
theorem pyR_pl {n : Nat} {e : D} (h : pl n e = true) : pyR S e = pyD S e := by
  cases e with
  | ref i => cases n <;> simp [pl] at h
  | _ => rfl
theorem pyR_d : pyR S (dv x) = some (DV.py x) := (pyR_pl (DV.hpl x)).trans (DV.hpy S x)
theorem eqP_d (hn : DV.n α ≤ 60) [DecidableEq α] : eqP S (dv x) (dv y) = some (decide (x = y)) := by
  unfold eqP
  rw [pyR_d, pyR_d]
  simp only [Option.bind_some]
  have h1 : SeqAt.shaped (DV.py x) = true := by
    unfold SeqAt.shaped
    rw [DV.lay, Bool.true_and]
    exact decide_eq_true (Nat.le_trans (DV.dep x) (by omega))
  have h2 : SeqAt.shaped (DV.py y) = true := by
    unfold SeqAt.shaped
    rw [DV.lay, Bool.true_and]
    exact decide_eq_true (Nat.le_trans (DV.dep y) (by omega))
  rw [h1, h2, if_pos (by rfl)]
  congr 1
  rw [Bool.eq_iff_iff, DV.eqv, decide_eq_true_iff]
theorem any_eqv [DecidableEq α] : ((xs.map DV.py).any fun z => PyData.eqv z (DV.py x)) = decide (x ∈ xs) := by
  rw [Bool.eq_iff_iff]
  simp only [List.any_eq_true, List.mem_map, decide_eq_true_eq]
  constructor
  · rintro ⟨_, ⟨a, ha, rfl⟩, e⟩
    rw [DV.eqv] at e
    rw [← e]; exact ha
  · exact fun h => ⟨_, ⟨x, h, rfl⟩, (DV.eqv x x).mpr rfl⟩
theorem inP_t (hn : DV.n α ≤ 60) [DecidableEq α] : inP S (dv x) (dv xs) = some (decide (x ∈ xs)) := by
  unfold inP
  rw [pyR_d, pyR_d]
  simp only [Option.bind_some]
  have h1 : SeqAt.shaped (DV.py x) = true := by
    unfold SeqAt.shaped
    rw [DV.lay, Bool.true_and]
    exact decide_eq_true (Nat.le_trans (DV.dep x) (by omega))
  have h2 : SeqAt.shaped (DV.py xs) = true := by
    unfold SeqAt.shaped
    rw [DV.lay, Bool.true_and]
    exact decide_eq_true (Nat.le_trans (DV.dep xs) (show DV.n α + 1 ≤ 64 by omega))
  show (if (SeqAt.shaped (DV.py x) && SeqAt.shaped (DV.py xs)) = true then some ((xs.map DV.py).any fun z => PyData.eqv z (DV.py x)) else none) = _
  rw [h1, h2, if_pos (by rfl), any_eqv]
theorem inP_l (hn : DV.n α ≤ 60) [DecidableEq α] {e : D} (he : lstOf S e = some (xs.map dv)) : inP S (dv x) e = some (decide (x ∈ xs)) := by
  have hr : pyR S e = some (.list (xs.map DV.py)) := by
    unfold lstOf at he
    cases e with
    | lst ys =>
      cases he
      show (pyAll S (xs.map dv)).map PyData.list = _
      rw [pyAll_map]; rfl
    | ref i =>
      simp only at he
      unfold pyR
      cases h : S[i]? with
      | none => rw [h] at he; cases he
      | some c =>
        rw [h] at he
        cases c with
        | lst ys =>
          cases he
          simp only [h]
          show (pyAll S (xs.map dv)).map PyData.list = _
          rw [pyAll_map]; rfl
        | _ => cases he
    | _ => cases he
  unfold inP
  rw [pyR_d, hr]
  simp only [Option.bind_some]
  have h1 : SeqAt.shaped (DV.py x) = true := by
    unfold SeqAt.shaped
    rw [DV.lay, Bool.true_and]
    exact decide_eq_true (Nat.le_trans (DV.dep x) (by omega))
  have h2 : SeqAt.shaped (.list (xs.map DV.py)) = true := by
    unfold SeqAt.shaped
    rw [show PyData.canLay0 (.list (xs.map DV.py)) = true by simp [PyData.canLay0, layAll_map], Bool.true_and]
    refine decide_eq_true ?_
    rw [PyData.depth]
    have := depAll_map xs
    omega
  rw [h1, h2, if_pos (by rfl), any_eqv]
end
end HS
set_option Elab.async false
set_option linter.all false
set_option maxRecDepth 100000
set_option autoImplicit false
/-! The mirrors' equations. -/
namespace HS
open PySem L2
/-! what is bound is reckoned first: continuations without lambdas -/
section
variable {η η' : Env} {S : Sto} {f g : Ev} {fs : EvA} {tg : EvB} {sv sw : Sv} {i j n : Nat} {x y d e : D} {l xs ys : List D} {b : Bool}
def varK (S : Sto) : Option (Option D) → Option (D × Sto)
  | some (some d) => some (d, S)
  | _ => none
@[simp] theorem varK_ : varK S (some (some d)) = some (d, S) := id rfl
def consK (fs : EvA) (η : Env) : Option (D × Sto) → Option (List D × Sto) := fun o => o.bind fun p => (fs η p.2).bind fun q => some (p.1 :: q.1, q.2)
def consK2 (d : D) : Option (List D × Sto) → Option (List D × Sto) := fun o => o.bind fun q => some (d :: q.1, q.2)
@[simp] theorem consK_ : consK fs η (some (d, S)) = consK2 d (fs η S) := id rfl
@[simp] theorem consK2_ : consK2 d (some (l, S)) = some (d :: l, S) := id rfl
def tupK : Option (List D × Sto) → Option (D × Sto) := fun o => o.bind fun p => some (.tup p.1, p.2)
@[simp] theorem tupK_ : tupK (some (l, S)) = some (.tup l, S) := id rfl
def lstK : Option (List D × Sto) → Option (D × Sto) := fun o => o.bind fun p => some (.lst p.1, p.2)
@[simp] theorem lstK_ : lstK (some (l, S)) = some (.lst l, S) := id rfl
def binK (r : RD) (g : Ev) (η : Env) : Option (D × Sto) → Option (D × Sto) := fun o => o.bind fun p => (g η p.2).bind fun q => r p.1 q.1 q.2
def binK2 (r : RD) (d : D) : Option (D × Sto) → Option (D × Sto) := fun o => o.bind fun q => r d q.1 q.2
@[simp] theorem binK_ {r : RD} : binK r g η (some (d, S)) = binK2 r d (g η S) := id rfl
@[simp] theorem binK2_ {r : RD} : binK2 r d (some (e, S)) = r d e S := id rfl
def bK (r : RDs) : Option (List D × Sto) → Option (D × Sto) := fun o => o.bind fun p => r p.1 p.2
@[simp] theorem bK_ {r : RDs} : bK r (some (l, S)) = r l S := id rfl
def mKc (b : Bool) (r : RM) (d : D) (o : Option (List D × Sto)) : Option (D × Sto) := if b then o.bind fun q => r d q.1 q.2 else none
def mK (T : String) (r : RM) (fs : EvA) (η : Env) : Option (D × Sto) → Option (D × Sto) := fun o => o.bind fun p => mKc (isT T p.2 p.1) r p.1 (fs η p.2)
@[simp] theorem mK_ {T : String} {r : RM} : mK T r fs η (some (d, S)) = mKc (isT T S d) r d (fs η S) := id rfl
@[simp] theorem mKc_ {r : RM} : mKc true r d (some (l, S)) = r d l S := id rfl
def m0c (b : Bool) (o : Option (D × Sto)) : Option (D × Sto) := if b then o else none
def m0K (T : String) (r : RM) : Option (D × Sto) → Option (D × Sto) := fun o => o.bind fun p => m0c (isT T p.2 p.1) (r p.1 [] p.2)
@[simp] theorem m0K_ {T : String} {r : RM} : m0K T r (some (d, S)) = m0c (isT T S d) (r d [] S) := id rfl
@[simp] theorem m0c_ {o : Option (D × Sto)} : m0c true o = o := id rfl
def tbK : Option (D × Sto) → Option (Bool × Sto) := fun o => o.bind fun p => match p.1 with | .bl b => some (b, p.2) | _ => none
@[simp] theorem tbK_ : tbK (some (.bl b, S)) = some (b, S) := id rfl
def andK (tg : EvB) (η : Env) : Option (Bool × Sto) → Option (Bool × Sto) := fun o => o.bind fun p => if p.1 then tg η p.2 else some (false, p.2)
@[simp] theorem andK_t : andK tg η (some (true, S)) = tg η S := id rfl
@[simp] theorem andK_f : andK tg η (some (false, S)) = some (false, S) := id rfl
def orK (tg : EvB) (η : Env) : Option (Bool × Sto) → Option (Bool × Sto) := fun o => o.bind fun p => if p.1 then some (true, p.2) else tg η p.2
@[simp] theorem orK_t : orK tg η (some (true, S)) = some (true, S) := id rfl
@[simp] theorem orK_f : orK tg η (some (false, S)) = tg η S := id rfl
def notK : Option (Bool × Sto) → Option (Bool × Sto) := fun o => o.bind fun p => some (!p.1, p.2)
@[simp] theorem notK_ : notK (some (b, S)) = some (!b, S) := id rfl
def vandK (g : Ev) (η : Env) : Option (D × Sto) → Option (D × Sto) := fun o => o.bind fun p => match p.1 with | .bl true => g η p.2 | .bl false => some (.bl false, p.2) | _ => none
@[simp] theorem vandK_t : vandK g η (some (.bl true, S)) = g η S := id rfl
@[simp] theorem vandK_f : vandK g η (some (.bl false, S)) = some (.bl false, S) := id rfl
def vorK (g : Ev) (η : Env) : Option (D × Sto) → Option (D × Sto) := fun o => o.bind fun p => match p.1 with | .bl false => g η p.2 | .bl true => some (.bl true, p.2) | _ => none
@[simp] theorem vorK_t : vorK g η (some (.bl true, S)) = some (.bl true, S) := id rfl
@[simp] theorem vorK_f : vorK g η (some (.bl false, S)) = g η S := id rfl
def vnotK : Option (D × Sto) → Option (D × Sto) := fun o => o.bind fun p => match p.1 with | .bl b => some (.bl (!b), p.2) | _ => none
@[simp] theorem vnotK_ : vnotK (some (.bl b, S)) = some (.bl (!b), S) := id rfl
def unK (u : Int → Int) : Option (D × Sto) → Option (D × Sto) := fun o => o.bind fun p => match p.1 with | .int i => some (.int (u i), p.2) | _ => none
@[simp] theorem unK_ {u : Int → Int} {a : Int} : unK u (some (.int a, S)) = some (.int (u a), S) := id rfl
def eifK (f g : Ev) (η : Env) : Option (Bool × Sto) → Option (D × Sto) := fun o => o.bind fun p => if p.1 then f η p.2 else g η p.2
@[simp] theorem eifK_t : eifK f g η (some (true, S)) = f η S := id rfl
@[simp] theorem eifK_f : eifK f g η (some (false, S)) = g η S := id rfl
def alK : Option (D × Sto) → Option (D × Sto) := fun o => o.bind fun p => some (.ref p.2.length, p.2 ++ [p.1])
@[simp] theorem alK_ : alK (some (d, S)) = some (.ref S.length, S ++ [d]) := id rfl
def ansK : Option (D × Bool × Sto) → Option (D × Sto) := fun o => o.bind fun r => some (r.1, r.2.2)
@[simp] theorem ansK_ : ansK (some (d, b, S)) = some (d, S) := id rfl
def ansOK : Option (D × Bool × Sto) → Option (D × Sto) := fun o => o.bind fun r => if r.2.1 = true then some (r.1, r.2.2) else none
@[simp] theorem ansOK_ : ansOK (some (d, true, S)) = some (d, S) := id rfl
def callK (c : Cv) (n : Nat) : Option (List D × Sto) → Option (D × Sto) := fun o => o.bind fun p => if p.1.length = n then ansK (c p.1 p.2) else none
@[simp] theorem callK_ {c : Cv} (h : l.length = n) : callK c n (some (l, S)) = ansK (c l S) := if_pos h
def callOK (c : Cv) (n : Nat) : Option (List D × Sto) → Option (D × Sto) := fun o => o.bind fun p => if p.1.length = n then ansOK (c p.1 p.2) else none
@[simp] theorem callOK_ {c : Cv} (h : l.length = n) : callOK c n (some (l, S)) = ansOK (c l S) := if_pos h
def slK3 (S : Sto) : Option D → Option (D × Sto) := fun o => o.bind fun d => some (d, S)
@[simp] theorem slK3_ : slK3 S (some d) = some (d, S) := id rfl
abbrev SlF := Sto → D → Option Int → Option Int → Option D
def slK2 (u : SlF) (d : D) (l : Option Int) : Option (Option Int × Sto) → Option (D × Sto) := fun o => o.bind fun r => slK3 r.2 (u r.2 d l r.1)
@[simp] theorem slK2_ {u : SlF} {lo hi : Option Int} : slK2 u d lo (some (hi, S)) = slK3 S (u S d lo hi) := id rfl
def slK1 (u : SlF) (d : D) (hi : EvO) (η : Env) : Option (Option Int × Sto) → Option (D × Sto) := fun o => o.bind fun q => slK2 u d q.1 (hi η q.2)
@[simp] theorem slK1_ {u : SlF} {lo : Option Int} {hi : EvO} : slK1 u d hi η (some (lo, S)) = slK2 u d lo (hi η S) := id rfl
def slK (u : SlF) (lo hi : EvO) (η : Env) : Option (D × Sto) → Option (D × Sto) := fun o => o.bind fun p => slK1 u p.1 hi η (lo η p.2)
@[simp] theorem slK_ {u : SlF} {lo hi : EvO} : slK u lo hi η (some (d, S)) = slK1 u d hi η (lo η S) := id rfl
def osoK : Option (D × Sto) → Option (Option Int × Sto) := fun o => o.bind fun p => match p.1 with | .int i => some (some i, p.2) | _ => none
@[simp] theorem osoK_ {a : Int} : osoK (some (.int a, S)) = some (some a, S) := id rfl
def seqK (g : Sv) : Option (Fl × Env × Sto) → Option (Fl × Env × Sto) := fun o => o.bind fun p => match p.1 with | .nx => g p.2.1 p.2.2 | _ => some p
@[simp] theorem seqK_n : seqK sv (some (.nx, η, S)) = sv η S := id rfl
@[simp] theorem seqK_r : seqK sv (some (.ret d, η, S)) = some (.ret d, η, S) := id rfl
@[simp] theorem seqK_b : seqK sv (some (.bk, η, S)) = some (.bk, η, S) := id rfl
@[simp] theorem seqK_c : seqK sv (some (.ct, η, S)) = some (.ct, η, S) := id rfl
def retK (η : Env) : Option (D × Sto) → Option (Fl × Env × Sto) := fun o => o.bind fun p => some (.ret p.1, η, p.2)
@[simp] theorem retK_ : retK η (some (d, S)) = some (.ret d, η, S) := id rfl
def expK (η : Env) : Option (D × Sto) → Option (Fl × Env × Sto) := fun o => o.bind fun p => some (.nx, η, p.2)
@[simp] theorem expK_ : expK η (some (d, S)) = some (.nx, η, S) := id rfl
def ifK (sv sw : Sv) (η : Env) : Option (Bool × Sto) → Option (Fl × Env × Sto) := fun o => o.bind fun p => if p.1 then sv η p.2 else sw η p.2
@[simp] theorem ifK_t : ifK sv sw η (some (true, S)) = sv η S := id rfl
@[simp] theorem ifK_f : ifK sv sw η (some (false, S)) = sw η S := id rfl
def setK (i : Nat) (η : Env) : Option (D × Sto) → Option (Fl × Env × Sto) := fun o => o.bind fun p => some (.nx, η.set i (some p.1), p.2)
@[simp] theorem setK_ : setK i η (some (d, S)) = some (.nx, η.set i (some d), S) := id rfl
def asgK1 (S : Sto) : Option Env → Option (Fl × Env × Sto) := fun o => o.bind fun η' => some (.nx, η', S)
@[simp] theorem asgK1_ : asgK1 S (some η) = some (.nx, η, S) := id rfl
def asgK (t : Tg) (η : Env) : Option (D × Sto) → Option (Fl × Env × Sto) := fun o => o.bind fun p => asgK1 p.2 (t p.1 η)
@[simp] theorem asgK_ {t : Tg} : asgK t η (some (d, S)) = asgK1 S (t d η) := id rfl
def setiK3 (η : Env) : Option Sto → Option (Fl × Env × Sto) := fun o => o.bind fun S => some (.nx, η, S)
@[simp] theorem setiK3_ : setiK3 η (some S) = some (.nx, η, S) := id rfl
def setiK2 (v o : D) (η : Env) : Option (D × Sto) → Option (Fl × Env × Sto) := fun k => k.bind fun r => setiK3 η (setIx r.2 o r.1 v)
@[simp] theorem setiK2_ {v o : D} : setiK2 v o η (some (d, S)) = setiK3 η (setIx S o d v) := id rfl
def setiK1 (v : D) (fi : Ev) (η : Env) : Option (D × Sto) → Option (Fl × Env × Sto) := fun k => k.bind fun q => setiK2 v q.1 η (fi η q.2)
@[simp] theorem setiK1_ {v : D} {fi : Ev} : setiK1 v fi η (some (d, S)) = setiK2 v d η (fi η S) := id rfl
def setiK (fo fi : Ev) (η : Env) : Option (D × Sto) → Option (Fl × Env × Sto) := fun k => k.bind fun p => setiK1 p.1 fi η (fo η p.2)
@[simp] theorem setiK_ {fo fi : Ev} : setiK fo fi η (some (d, S)) = setiK1 d fi η (fo η S) := id rfl
def gconsK (u : List D → Env → Option Env) (xs : List D) : Option Env → Option Env := fun o => o.bind fun η' => u xs η'
@[simp] theorem gconsK_ {u : List D → Env → Option Env} : gconsK u xs (some η) = u xs η := id rfl
/-- the sequence still reads as it did -/
def chkS (d : D) (xs : List D) : Sto → Prop := fun S => seqOf S d = some xs
def chkZ (d e : D) (xs ys : List D) : Sto → Prop := fun S => seqOf S d = some xs ∧ seqOf S e = some ys
def chkT : Sto → Prop := fun _ => True
def ieK1 (d : D) (S : Sto) : Option (List D) → Option (Iter × Sto) := fun o => o.bind fun xs => some (⟨xs, chkS d xs⟩, S)
@[simp] theorem ieK1_ : ieK1 d S (some xs) = some (⟨xs, chkS d xs⟩, S) := id rfl
def ieK : Option (D × Sto) → Option (Iter × Sto) := fun o => o.bind fun p => ieK1 p.1 p.2 (seqOf p.2 p.1)
@[simp] theorem ieK_ : ieK (some (d, S)) = ieK1 d S (seqOf S d) := id rfl
def ir1K : Option (List D × Sto) → Option (Iter × Sto) := fun o => o.bind fun q => match q.1 with | [.int j] => if -(2 ^ 62) ≤ j ∧ j < 2 ^ 62 then some (⟨rangeD 0 j.toNat, chkT⟩, q.2) else none | _ => none
theorem ir1K_ {a : Int} (h : -4000000000000000000 ≤ a ∧ a < 4000000000000000000) : ir1K (some ([.int a], S)) = some (⟨rangeD 0 a.toNat, chkT⟩, S) := if_pos (by omega)
@[simp] theorem ir1K_n {n : Nat} (h : n ≤ SZ) : ir1K (some ([.int (n : Int)], S)) = some (⟨rangeD 0 n, chkT⟩, S) := by
  have hz : (SZ : Nat) = 100000 := rfl
  rw [ir1K_ (by omega), Int.toNat_natCast]
def ir2K : Option (List D × Sto) → Option (Iter × Sto) := fun o => o.bind fun q => match q.1 with | [.int i, .int j] => if -(2 ^ 62) ≤ i ∧ i < 2 ^ 62 ∧ -(2 ^ 62) ≤ j ∧ j < 2 ^ 62 then some (⟨rangeD i (j - i).toNat, chkT⟩, q.2) else none | _ => none
theorem ir2K_ {a c : Int} (h : -4000000000000000000 ≤ a ∧ a < 4000000000000000000 ∧ -4000000000000000000 ≤ c ∧ c < 4000000000000000000) : ir2K (some ([.int a, .int c], S)) = some (⟨rangeD a (c - a).toNat, chkT⟩, S) := if_pos (by omega)
def izK2 (a b : D) (S : Sto) (xs : List D) : Option (List D) → Option (Iter × Sto) := fun o => o.bind fun ys => some (⟨zipD xs ys, chkZ a b xs ys⟩, S)
@[simp] theorem izK2_ : izK2 d e S xs (some ys) = some (⟨zipD xs ys, chkZ d e xs ys⟩, S) := id rfl
def izK1 (a b : D) (S : Sto) : Option (List D) → Option (Iter × Sto) := fun o => o.bind fun xs => izK2 a b S xs (seqOf S b)
@[simp] theorem izK1_ : izK1 d e S (some xs) = izK2 d e S xs (seqOf S e) := id rfl
def izK : Option (List D × Sto) → Option (Iter × Sto) := fun o => o.bind fun q => match q.1 with | [a, b] => if isTup a = isTup b then izK1 a b q.2 (seqOf q.2 a) else none | _ => none
@[simp] theorem izK_ (h : isTup d = isTup e) : izK (some ([d, e], S)) = izK1 d e S (seqOf S d) := if_pos h
noncomputable def endK (A : Sto) : Option (Fl × Env × Sto) → Option (D × Bool × Sto) := fun o => o.bind fun r => match r.1 with | .ret d => endF A r.2.2 d | .nx => endF A r.2.2 .non | _ => none
@[simp] theorem endK_r {A : Sto} : endK A (some (.ret d, η, S)) = endF A S d := id rfl
@[simp] theorem endK_n {A : Sto} : endK A (some (.nx, η, S)) = endF A S .non := id rfl
def lK : Option D → Option (List D)
  | some (.lst xs) => some xs
  | _ => none
@[simp] theorem lK_ : lK (some (.lst xs)) = some xs := id rfl
def stK (i : Nat) : Option D → Option (Nat × List D)
  | some (.lst xs) => some (i, xs)
  | _ => none
@[simp] theorem stK_ : stK i (some (.lst xs)) = some (i, xs) := id rfl
def appK (x : D) (S : Sto) : Option (Nat × List D) → Option (D × Sto) := fun o => o.bind fun q => if q.2.length < SZ then some (.non, S.set q.1 (.lst (q.2 ++ [x]))) else none
@[simp] theorem appK_ (h : xs.length < SZ) : appK x S (some (i, xs)) = some (.non, S.set i (.lst (xs ++ [x]))) := if_pos h
def popK1 (S : Sto) (i : Nat) (xs : List D) : Option D → Option (D × Sto) := fun o => o.bind fun y => some (y, S.set i (.lst xs.dropLast))
@[simp] theorem popK1_ : popK1 S i xs (some y) = some (y, S.set i (.lst xs.dropLast)) := id rfl
def popK (S : Sto) : Option (Nat × List D) → Option (D × Sto) := fun o => o.bind fun q => popK1 S q.1 q.2 q.2[q.2.length - 1]?
@[simp] theorem popK_ : popK S (some (i, xs)) = popK1 S i xs xs[xs.length - 1]? := id rfl
def paK (S : Sto) (k : Int) : Option (Nat × List D) → Option (D × Sto) := fun o => o.bind fun q => if -(2 ^ 63) ≤ k ∧ k < 2 ^ 63 then (seqIndex? k q.2.length).bind fun j => (q.2[j]?).bind fun y => some (y, S.set q.1 (.lst (q.2.eraseIdx j))) else none
theorem paK_ {k : Nat} (h : xs[k]? = some y) (hk : k ≤ SZ) : paK S (k : Int) (some (i, xs)) = some (y, S.set i (.lst (xs.eraseIdx k))) := by
  have hz : (SZ : Nat) = 100000 := rfl
  have hl := (List.getElem?_eq_some_iff.mp h).1
  have hx : seqIndex? (k : Int) xs.length = some k := (ixN_seq (by unfold ixN; rw [if_pos (by omega), if_pos (by omega), Int.toNat_natCast])).1
  have hc : -(2 ^ 63) ≤ (k : Int) ∧ (k : Int) < 2 ^ 63 := by omega
  unfold paK
  rw [Option.bind_some, if_pos hc, hx, Option.bind_some, h, Option.bind_some]
def revK (S : Sto) : Option (Nat × List D) → Option (D × Sto) := fun o => o.bind fun q => some (.non, S.set q.1 (.lst q.2.reverse))
@[simp] theorem revK_ : revK S (some (i, xs)) = some (.non, S.set i (.lst xs.reverse)) := id rfl
def sixK1 (S : Sto) (i : Nat) (xs : List D) (x : D) : Option Nat → Option Sto := fun o => o.bind fun j => some (S.set i (.lst (xs.set j x)))
@[simp] theorem sixK1_ : sixK1 S i xs x (some j) = some (S.set i (.lst (xs.set j x))) := id rfl
def sixK (S : Sto) (n : Int) (x : D) : Option (Nat × List D) → Option Sto := fun o => o.bind fun q => sixK1 S q.1 q.2 x (ixN q.2.length n)
@[simp] theorem sixK_ {n : Int} : sixK S n x (some (i, xs)) = sixK1 S i xs x (ixN xs.length n) := id rfl
def ixK1 (S : Sto) : Option D → Option (D × Sto) := fun o => o.bind fun d => some (d, S)
@[simp] theorem ixK1_ : ixK1 S (some d) = some (d, S) := id rfl
def ixK (S : Sto) (a : Int) : Option (List D) → Option (D × Sto) := fun o => o.bind fun xs => ixK1 S (atI xs a)
@[simp] theorem ixK_ {a : Int} : ixK S a (some xs) = ixK1 S (atI xs a) := id rfl
def lenK (S : Sto) : Option (List D) → Option (D × Sto) := fun o => o.bind fun xs => some (.int xs.length, S)
@[simp] theorem lenK_ : lenK S (some xs) = some (.int xs.length, S) := id rfl
def listK (S : Sto) : Option (List D) → Option (D × Sto) := fun o => o.bind fun xs => some (.lst xs, S)
@[simp] theorem listK_ : listK S (some xs) = some (.lst xs, S) := id rfl
def tuplK (S : Sto) : Option (List D) → Option (D × Sto) := fun o => o.bind fun xs => some (.tup xs, S)
@[simp] theorem tuplK_ : tuplK S (some xs) = some (.tup xs, S) := id rfl
end
section
variable {η : Env} {S A E : Sto} {f g h : Ev} {fs : EvA} {tf tg tc : EvB} {sv sw : Sv} {i j k : Nat} {x y e : D} {xs ys : List D} {ds es : List Int}
@[simp] theorem q_var : eVar i η S = varK S η[i]? := by
  unfold eVar varK
  exact id rfl
@[simp] theorem q_c : eC x η S = some (x, S) := id rfl
@[simp] theorem q_anil : aNil η S = some ([], S) := id rfl
@[simp] theorem q_acons : aCons f fs η S = consK fs η (f η S) := id rfl
@[simp] theorem q_tup : eTup fs η S = tupK (fs η S) := id rfl
@[simp] theorem q_lst : eLst fs η S = lstK (fs η S) := id rfl
@[simp] theorem q_bin {r : RD} : eBin r f g η S = binK r g η (f η S) := id rfl
@[simp] theorem q_b {r : RDs} : eB r fs η S = bK r (fs η S) := id rfl
@[simp] theorem q_m {T : String} {r : RM} : eM T r f fs η S = mK T r fs η (f η S) := id rfl
@[simp] theorem q_m0 {T : String} {r : RM} : eM0 T r f η S = m0K T r (f η S) := id rfl
@[simp] theorem q_tb : tB f η S = tbK (f η S) := id rfl
@[simp] theorem q_tand : tAndE tf tg η S = andK tg η (tf η S) := id rfl
@[simp] theorem q_tor : tOrE tf tg η S = orK tg η (tf η S) := id rfl
@[simp] theorem q_tnot : tNotE tf η S = notK (tf η S) := id rfl
@[simp] theorem q_yes : tYesE η S = some (true, S) := id rfl
@[simp] theorem q_and : eAnd f g η S = vandK g η (f η S) := id rfl
@[simp] theorem q_or : eOr f g η S = vorK g η (f η S) := id rfl
@[simp] theorem q_not : eNot f η S = vnotK (f η S) := id rfl
@[simp] theorem q_un {u : Int → Int} : eUn u f η S = unK u (f η S) := id rfl
@[simp] theorem q_eif : eIf tc f g η S = eifK f g η (tc η S) := id rfl
@[simp] theorem q_al : eAl f η S = alK (f η S) := id rfl
@[simp] theorem q_call {c : Cv} {n : Nat} : eCall c n fs η S = callK c n (fs η S) := id rfl
@[simp] theorem q_callO {c : Cv} {n : Nat} : eCallO c n fs η S = callOK c n (fs η S) := id rfl
@[simp] theorem q_sl {u : SlF} {lo hi : EvO} : eSl u f lo hi η S = slK u lo hi η (f η S) := id rfl
@[simp] theorem q_ono : oNo η S = some (none, S) := id rfl
@[simp] theorem q_oso : oSo f η S = osoK (f η S) := id rfl
@[simp] theorem q_snil : sNil η S = some (.nx, η, S) := id rfl
@[simp] theorem q_seq : sSeq sv sw η S = seqK sw (sv η S) := id rfl
@[simp] theorem q_ret : sRet f η S = retK η (f η S) := id rfl
@[simp] theorem q_retn : sRetN η S = some (.ret .non, η, S) := id rfl
@[simp] theorem q_bk : sBk η S = some (.bk, η, S) := id rfl
@[simp] theorem q_ct : sCt η S = some (.ct, η, S) := id rfl
@[simp] theorem q_exp : sExp f η S = expK η (f η S) := id rfl
@[simp] theorem q_if : sIf tc sv sw η S = ifK sv sw η (tc η S) := id rfl
@[simp] theorem q_set : sSet i f η S = setK i η (f η S) := id rfl
@[simp] theorem q_asg {t : Tg} : sAsg t f η S = asgK t η (f η S) := id rfl
@[simp] theorem q_seti {fo fi fv : Ev} : sSetI fo fi fv η S = setiK fo fi η (fv η S) := id rfl
@[simp] theorem q_gn : gN i x η = some (η.set i (some x)) := id rfl
@[simp] theorem q_gnil : HS.gNil [] η = some η := id rfl
@[simp] theorem q_gcons {t : Tg} {u : List D → Env → Option Env} : HS.gCons t u (x :: xs) η = gconsK u xs (t x η) := id rfl
@[simp] theorem q_gt {n : Nat} {u : List D → Env → Option Env} (h : xs.length = n) : gT n u (.tup xs) η = u xs η := if_pos h
@[simp] theorem q_ie : iE f η S = ieK (f η S) := id rfl
@[simp] theorem q_ir1 : iRange1 fs η S = ir1K (fs η S) := id rfl
@[simp] theorem q_ir2 : iRange2 fs η S = ir2K (fs η S) := id rfl
@[simp] theorem q_izip : iZip fs η S = izK (fs η S) := id rfl
@[simp] theorem q_wipe0 : wipeE η [] = η := id rfl
@[simp] theorem q_wipe {l : List Nat} : wipeE η (i :: l) = (wipeE η l).set i none := id rfl
theorem q_calls {n : Nat} {c : Sv} {l : List D} : callOf n c l S = endK S (c (l.map some ++ List.replicate (n - l.length) none) S) := rfl
/-! what a datum is -/
@[simp] theorem q_lo1 : lstOf S (.lst xs) = some xs := id rfl
@[simp] theorem q_lo2 : lstOf S (.ref i) = lK S[i]? := id rfl
@[simp] theorem q_so1 : seqOf S (.tup xs) = some xs := id rfl
@[simp] theorem q_so2 : seqOf S (.lst xs) = some xs := id rfl
@[simp] theorem q_so3 : seqOf S (.ref i) = lK S[i]? := id rfl
@[simp] theorem q_so4 : seqOf S (.scr xs) = some xs := id rfl
@[simp] theorem q_sl2 : stL S (.ref i) = stK i S[i]? := id rfl
@[simp] theorem q_it1 : isT "list" S (.ref i) = (lK S[i]?).isSome := by simp [isT]
@[simp] theorem q_it2 : isT "list" S (.lst xs) = true := by simp [isT]
@[simp] theorem q_it3 {z : Str} : isT "str" S (.str z) = true := by simp [isT]
/-! operators -/
section
variable {a b : Int} {z u : Str}
@[simp] theorem q_sub : oSub (.int a) (.int b) S = some (.int (a - b), S) := id rfl
@[simp] theorem q_add : oAdd (.int a) (.int b) S = some (.int (a + b), S) := id rfl
@[simp] theorem q_mod (h : 0 < b) : oMod (.int a) (.int b) S = some (.int (a % b), S) := by
  show (modI a b).bind _ = _
  unfold modI
  rw [if_pos h]; rfl
@[simp] theorem q_fdiv (h : 0 < b) (h2 : b < 1073741824) : oFdiv (.int a) (.int b) S = some (.int (a / b), S) := by
  show (fdivI a b).bind _ = _
  unfold fdivI
  rw [if_pos ⟨h, .inl h2⟩]; rfl
theorem q_mul (h : smallI a = true ∨ smallI b = true) : oMul (.int a) (.int b) S = some (.int (a * b), S) := by
  show (mulI a b).bind _ = _
  unfold mulI
  rw [if_pos (by rcases h with h | h <;> simp [h])]
  rfl
theorem q_pow (h : 0 ≤ b ∧ b ≤ 1000000 ∧ a.natAbs < 2 ^ 64) : oPow (.int a) (.int b) S = some (.int (a ^ b.toNat), S) := by
  show (powI a b).bind _ = _
  unfold powI
  rw [if_pos h]
  rfl
@[simp] theorem q_lt : oLt (.int a) (.int b) S = some (.bl (decide (a < b)), S) := id rfl
@[simp] theorem q_le : oLe (.int a) (.int b) S = some (.bl (decide (a ≤ b)), S) := id rfl
@[simp] theorem q_gt2 : oGt (.int a) (.int b) S = some (.bl (decide (b < a)), S) := id rfl
@[simp] theorem q_ge : oGe (.int a) (.int b) S = some (.bl (decide (b ≤ a)), S) := id rfl
@[simp] theorem q_eqi : oEq (.int a) (.int b) S = some (.bl (decide (a = b)), S) := by
  show (eqP S (dv a) (dv b)).bind _ = _
  rw [eqP_d (by decide)]; rfl
@[simp] theorem q_nei : oNe (.int a) (.int b) S = some (.bl (!decide (a = b)), S) := by
  show (eqP S (dv a) (dv b)).bind _ = _
  rw [eqP_d (by decide)]; rfl
theorem q_eq {α : Type} [DV α] [DecidableEq α] (x y : α) (hn : DV.n α ≤ 60) : oEq (dv x) (dv y) S = some (.bl (decide (x = y)), S) := by
  show (eqP S (dv x) (dv y)).bind _ = _
  rw [eqP_d hn]; rfl
theorem q_ne {α : Type} [DV α] [DecidableEq α] (x y : α) (hn : DV.n α ≤ 60) : oNe (dv x) (dv y) S = some (.bl (!decide (x = y)), S) := by
  show (eqP S (dv x) (dv y)).bind _ = _
  rw [eqP_d hn]; rfl
theorem q_int {α : Type} [DV α] [DecidableEq α] (x : α) (xs : List α) (hn : DV.n α ≤ 60) : oIn (dv x) (dv xs) S = some (.bl (decide (x ∈ xs)), S) := by
  show (inP S (dv x) (dv xs)).bind _ = _
  rw [inP_t hn]; rfl
theorem q_nint {α : Type} [DV α] [DecidableEq α] (x : α) (xs : List α) (hn : DV.n α ≤ 60) : oNotIn (dv x) (dv xs) S = some (.bl (!decide (x ∈ xs)), S) := by
  show (inP S (dv x) (dv xs)).bind _ = _
  rw [inP_t hn]; rfl
theorem q_inl {α : Type} [DV α] [DecidableEq α] (x : α) {e : D} (xs : List α) (hn : DV.n α ≤ 60) (he : lstOf S e = some (xs.map dv)) : oIn (dv x) e S = some (.bl (decide (x ∈ xs)), S) := by
  show (inP S (dv x) e).bind _ = _
  rw [inP_l hn he]; rfl
theorem q_ninl {α : Type} [DV α] [DecidableEq α] (x : α) {e : D} (xs : List α) (hn : DV.n α ≤ 60) (he : lstOf S e = some (xs.map dv)) : oNotIn (dv x) e S = some (.bl (!decide (x ∈ xs)), S) := by
  show (inP S (dv x) e).bind _ = _
  rw [inP_l hn he]; rfl
@[simp] theorem q_is : oIs x .non S = some (.bl (isNon x), S) := id rfl
@[simp] theorem q_isn : oIsNot x .non S = some (.bl (!isNon x), S) := id rfl
@[simp] theorem q_ixt : oIx (.tup xs) (.int a) S = ixK1 S (atI xs a) := id rfl
@[simp] theorem q_ixl : oIx (.lst xs) (.int a) S = ixK1 S (atI xs a) := id rfl
@[simp] theorem q_ixs : oIx (.scr xs) (.int a) S = ixK1 S (atI xs a) := id rfl
@[simp] theorem q_ixr : oIx (.ref i) (.int a) S = ixK S a (lK S[i]?) := id rfl
@[simp] theorem q_addt (h : xs.length + ys.length ≤ SZ) : oAdd (.tup xs) (.tup ys) S = some (.tup (xs ++ ys), S) := if_pos h
@[simp] theorem q_addl (h : xs.length + ys.length ≤ SZ) : oAdd (.lst xs) (.lst ys) S = some (.lst (xs ++ ys), S) := by
  show ((lstOf S (.lst xs)).bind fun xs => (lstOf S (.lst ys)).bind fun ys => if xs.length + ys.length ≤ SZ then some (xs ++ ys) else none).bind _ = _
  simp only [q_lo1, Option.bind_some]
  rw [if_pos h]; rfl
end
/-! built-ins -/
@[simp] theorem q_lent : bLen [.tup xs] S = some (.int xs.length, S) := id rfl
@[simp] theorem q_lenl : bLen [.lst xs] S = some (.int xs.length, S) := id rfl
@[simp] theorem q_lens : bLen [.scr xs] S = some (.int xs.length, S) := id rfl
@[simp] theorem q_lenr : bLen [.ref i] S = lenK S (lK S[i]?) := id rfl
@[simp] theorem q_lenx {z : Str} (h : z.length ≤ SZ) : bLen [.str z] S = some (.int z.length, S) := if_pos h
@[simp] theorem q_inti {a : Int} : bInt [.int a] S = some (.int a, S) := id rfl
@[simp] theorem q_intb {b : Bool} : bInt [.bl b] S = some (.int (if b then 1 else 0), S) := id rfl
@[simp] theorem q_list : bList [x] S = listK S (seqOf S x) := id rfl
@[simp] theorem q_tupt : bTuple [.tup xs] S = some (.tup xs, S) := id rfl
@[simp] theorem q_tupl : bTuple [.lst xs] S = some (.tup xs, S) := id rfl
@[simp] theorem q_tupr : bTuple [.ref i] S = tuplK S (lK S[i]?) := id rfl
@[simp] theorem q_app {a : D} : mAppend a [x] S = appK x S (stL S a) := id rfl
@[simp] theorem q_pop {a : D} : mPop a [] S = popK S (stL S a) := id rfl
@[simp] theorem q_popat {a : D} {n : Int} : mPopAt a [.int n] S = paK S n (stL S a) := id rfl
@[simp] theorem q_rev {a : D} : mReverse a [] S = revK S (stL S a) := id rfl
@[simp] theorem q_six {a : D} {n : Int} : setIx S a (.int n) x = sixK S n x (stL S a) := id rfl
/-! stores -/
@[simp high] theorem w_E0 : (W A i ds (x :: E))[A.length]? = some x := W_E (j := 0)
@[simp high] theorem w_E1 : (W A i ds (x :: y :: E))[A.length + 1]? = some y := W_E (j := 1)
@[simp high] theorem w_E2 {z : D} : (W A i ds (x :: y :: z :: E))[A.length + 2]? = some z := W_E (j := 2)
@[simp high] theorem w_s0 {e : D} : (W A i ds (x :: E)).set A.length e = W A i ds (e :: E) := W_sE (j := 0)
@[simp high] theorem w_s1 {e : D} : (W A i ds (x :: y :: E)).set (A.length + 1) e = W A i ds (x :: e :: E) := W_sE (j := 1)
@[simp high] theorem w_s2 {z e : D} : (W A i ds (x :: y :: z :: E)).set (A.length + 2) e = W A i ds (x :: y :: e :: E) := W_sE (j := 2)
@[simp high] theorem v_E0 : (V A (x :: E))[A.length]? = some x := V_E (j := 0)
@[simp high] theorem v_E1 : (V A (x :: y :: E))[A.length + 1]? = some y := V_E (j := 1)
@[simp high] theorem v_s0 {e : D} : (V A (x :: E)).set A.length e = V A (e :: E) := V_sE (j := 0)
@[simp high] theorem v_s1 {e : D} : (V A (x :: y :: E)).set (A.length + 1) e = V A (x :: e :: E) := V_sE (j := 1)
theorem w_i (hi : i < A.length) : (W A i ds E)[i]? = some (.lst (ds.map .int)) := W_i hi
theorem w_set (hi : i < A.length) : (W A i ds E).set i (.lst (es.map .int)) = W A i es E := W_si hi
theorem w_ili : i < (W A i ds E).length ↔ i < A.length + E.length := by simp
end
end HS
set_option Elab.async false
set_option linter.all false
set_option maxRecDepth 100000
set_option autoImplicit false
/-! More steps: subscripts, ends, isinstance. -/
namespace HS
open PySem L2
section
variable {η : Env} {S A E : Sto} {f g h : Ev} {fs : EvA} {x y e : D} {xs ys : List D}
theorem end_len {S S' : Sto} {d : D} (h : S'.length = S.length) : endF S S' d = some (d, false, S') := by
  unfold endF
  rw [if_pos h]
@[simp] theorem end_self {S : Sto} {d : D} : endF S S d = some (d, false, S) := end_len rfl
theorem atIn {α : Type} {xs : List α} {k : Nat} {x : α} (h : xs[k]? = some x) : atI xs (k : Int) = some x := by
  have hk := (List.getElem?_eq_some_iff.mp h).1
  unfold atI ixN
  rw [if_pos (by omega), if_pos (by omega)]
  simpa using h
@[simp] theorem atI_0 {α : Type} {xs : List α} {x : α} : atI (x :: xs) 0 = some x := atIn (k := 0) rfl
@[simp] theorem atI_1 {α : Type} {xs : List α} {x y : α} : atI (x :: y :: xs) 1 = some y := atIn (k := 1) rfl
@[simp] theorem atI_2 {α : Type} {xs : List α} {x y z : α} : atI (x :: y :: z :: xs) 2 = some z := atIn (k := 2) rfl
theorem atI_last {α : Type} {xs : List α} {x : α} : atI (xs ++ [x]) (-1) = some x := by
  unfold atI ixN
  rw [if_neg (by omega), if_pos (by simp; omega)]
  have : ((-1 : Int) + ((xs ++ [x]).length : Int)).toNat = xs.length := by simp; omega
  simp only [Option.bind_some, this]
  simp
/-! isinstance -/
section
variable {c : String}
theorem q_isi {t : String} {b : Bool} (h1 : tyN S x = some t) (h2 : subT t c = some b) : bIsi [x, .ty c] S = some (.bl b, S) := by
  unfold bIsi
  simp only [h1, h2, Option.bind_some]
theorem q_isis {t : String} {b : Bool} {cs : List D} {ns : List String} (h1 : tyN S x = some t) (h3 : tysOf cs = some ns) (h2 : subTs t ns = some b) : bIsi [x, .tup cs] S = some (.bl b, S) := by
  unfold bIsi
  simp only [h1, h2, h3, Option.bind_some]
end
def isL : D → Bool
  | .tup _ => true
  | .lst _ => true
  | _ => false
/-- what can be compared by parts -/
def sm : Nat → D → Bool
  | _, .non => true
  | _, .bl _ => true
  | _, .int _ => true
  | _, .str x => PyData.strOk x
  | n + 1, .tup xs => decide (xs.length ≤ SZ) && xs.all (sm n)
  | n + 1, .lst xs => decide (xs.length ≤ SZ) && xs.all (sm n)
  | _, _ => false
theorem eq_self_atom {S : Sto} {n : Nat} {x : D} (h : sm n x = true) (hx : isL x = false) : oEq x x S = some (.bl true, S) := by
  show (eqP S x x).bind _ = _
  unfold eqP
  cases x with
  | non => simp [pyR, pyD, SeqAt.shaped, PyData.canLay0, PyData.depth, PyData.eqv]
  | bl b => simp [pyR, pyD, SeqAt.shaped, PyData.canLay0, PyData.depth, PyData.eqv]
  | int i => simp [pyR, pyD, SeqAt.shaped, PyData.canLay0, PyData.depth, PyData.eqv]
  | str z =>
    have hz : PyData.strOk z = true := by cases n <;> simpa [sm] using h
    simp [pyR, pyD, SeqAt.shaped, PyData.canLay0, PyData.depth, PyData.eqv, hz]
  | tup _ => cases hx
  | lst _ => cases hx
  | _ => cases n <;> simp [sm] at h
theorem ne_bl {S : Sto} {a b : Bool} : oNe (.bl a) (.bl b) S = some (.bl (!decide (a = b)), S) := by
  show (eqP S (.bl a) (.bl b)).bind _ = _
  unfold eqP
  cases a <;> cases b <;> simp [pyR, pyD, SeqAt.shaped, PyData.canLay0, PyData.depth, PyData.eqv]
/-- False not in [True, True, ..] -/
theorem nin_bls {S : Sto} {bs : List Bool} (h : ∀ b ∈ bs, b = true) : oNotIn (.bl false) (.lst (bs.map D.bl)) S = some (.bl true, S) := by
  have hp : ∀ l : List Bool, pyAll S (l.map D.bl) = some (l.map PyData.bool) := fun l => by
    induction l with
    | nil => rfl
    | cons b l ih => rw [List.map_cons, pyAll, ih]; rfl
  have hl : ∀ l : List Bool, PyData.canLayAll0 (l.map PyData.bool) = true := fun l => by
    induction l with
    | nil => rfl
    | cons b l ih => simp [PyData.canLayAll0, PyData.canLay0, ih]
  have hd : ∀ l : List Bool, PyData.depthAll (l.map PyData.bool) = 0 := fun l => by
    induction l with
    | nil => rfl
    | cons b l ih => rw [List.map_cons, PyData.depthAll, ih]; rfl
  have e1 : pyR S (.lst (bs.map D.bl)) = some (.list (bs.map PyData.bool)) := by
    show (pyAll S (bs.map D.bl)).map PyData.list = _
    rw [hp]; rfl
  have e2 : pyR S (.bl false) = some (.bool false) := rfl
  show (inP S (.bl false) (.lst (bs.map D.bl))).bind _ = _
  unfold inP
  rw [e1, e2]
  simp only [Option.bind_some]
  have s1 : SeqAt.shaped (.bool false) = true := by rfl
  have s2 : SeqAt.shaped (.list (bs.map PyData.bool)) = true := by
    unfold SeqAt.shaped
    rw [PyData.canLay0, hl, PyData.depth, hd]
    rfl
  rw [s1, s2, if_pos (by rfl)]
  have : ((bs.map PyData.bool).any fun z => PyData.eqv z (.bool false)) = false := by
    rw [List.any_eq_false]
    intro z hz
    obtain ⟨b, hb, rfl⟩ := List.mem_map.mp hz
    rw [h b hb]
    simp [PyData.eqv]
  rw [this]; rfl
end
end HS
set_option Elab.async false
set_option linter.all false
set_option maxRecDepth 100000
set_option autoImplicit false
/-! Loops that draw. -/
namespace HS
open PySem L2
section
variable {A E : Sto} {i : Nat} {ds : List Int} {η : Env} {S0 : Sto} {xs : List D} {chk : Sto → Prop} {it : EvI} {vs : List Nat} {tg : Tg} {tt : EvB} {fe : Ev}
@[simp high] theorem v_E2 {x y z : D} {E : Sto} : (V A (x :: y :: z :: E))[A.length + 2]? = some z := V_E (j := 2)
@[simp high] theorem v_s2 {x y z e : D} {E : Sto} : (V A (x :: y :: z :: E)).set (A.length + 2) e = V A (x :: y :: e :: E) := V_sE (j := 2)
theorem callsV {n : Nat} {c : Sv} {l : List D} : callOf n c l A = endK A (c (l.map some ++ List.replicate (n - l.length) none) (V A [])) := by
  rw [V_out]; exact id rfl
theorem callsW {n : Nat} {c : Sv} {l : List D} (h : A[i]? = some (IL ds)) : callOf n c l A = endK A (c (l.map some ++ List.replicate (n - l.length) none) (W A i ds [])) := by
  rw [← W_in h]; exact id rfl
/-- a comprehension that draws: typed things -/
theorem lc_T {α : Type} [DV α] (Q : α → Prop) (hi : it η S0 = some (⟨xs, chk⟩, W A i ds E)) (hc : ∀ ds, chk (W A i ds E)) (hz : xs.length ≤ SZ)
    (hs : ∀ x ∈ xs, ∀ ds, ∃ η1, tg x (wipeE η vs) = some η1 ∧ tt η1 (W A i ds E) = some (true, W A i ds E) ∧ ∃ (a : α) (ds' : List Int), fe η1 (W A i ds E) = some (dv a, W A i ds' E) ∧ Q a) :
    ∃ (as : List α) (ds' : List Int), eLc it vs tg tt fe η S0 = some (.lst (as.map dv), W A i ds' E) ∧ as.length = xs.length ∧ ∀ a ∈ as, Q a := by
  obtain ⟨ys, S', h, as, ds', rfl, rfl, h3, h4⟩ := lc_ind (I := fun k acc S => ∃ (as : List α) (ds : List Int), S = W A i ds E ∧ acc = as.map dv ∧ as.length = k ∧ ∀ a ∈ as, Q a) hi ⟨[], ds, rfl, rfl, rfl, by simp⟩
    (fun k acc S ⟨as, ds, h, _⟩ => h ▸ hc ds) (fun k acc S ⟨as, ds, _, h, h2, _⟩ => by rw [h]; simp [h2]) hz (fun k x acc S hx ⟨as, ds, h1, h2, h3, h4⟩ => by
      subst h1 h2
      obtain ⟨η1, h5, h6, a, ds', h7, h8⟩ := hs x (List.mem_of_getElem? hx) ds
      refine ⟨η1, true, _, h5, h6, .inl ⟨rfl, dv a, _, h7, as ++ [a], ds', rfl, by simp, by simp [h3], fun b hb => ?_⟩⟩
      rcases List.mem_append.mp hb with hb | hb
      · exact h4 b hb
      · have : b = a := by simpa using hb
        subst this; exact h8)
  exact ⟨as, ds', h, h3, h4⟩
@[simp] theorem rangeD_len {lo : Int} {n : Nat} : (rangeD lo n).length = n := by simp [rangeD]
theorem rangeD_mem {n : Nat} {x : D} (h : x ∈ rangeD 0 n) : ∃ k : Nat, k < n ∧ x = .int k := by
  unfold rangeD at h
  obtain ⟨k, hk, rfl⟩ := List.mem_map.mp h
  exact ⟨k, by simpa using hk, by simp⟩
theorem rangeD_get {n k : Nat} {x : D} (h : (rangeD 0 n)[k]? = some x) : k < n ∧ x = .int k := by
  unfold rangeD at h
  rw [List.getElem?_map] at h
  obtain ⟨j, h1, h2⟩ := Option.map_eq_some_iff.mp h
  have hk := (List.getElem?_eq_some_iff.mp h1)
  obtain ⟨h3, h4⟩ := hk
  simp at h3 h4
  subst h4
  exact ⟨h3, by rw [← h2]; simp⟩
@[simp] theorem chkT_ {S : Sto} : chkT S := trivial
@[simp] theorem chkS_t {S : Sto} {l : List D} : chkS (.tup l) l S := id rfl
@[simp] theorem chkS_l {S : Sto} {l : List D} : chkS (.lst l) l S := id rfl
@[simp] theorem chkS_s {S : Sto} {l : List D} : chkS (.scr l) l S := id rfl
end
end HS
set_option Elab.async false
set_option linter.all false
set_option maxRecDepth 100000
set_option autoImplicit false
/-! Sorting typed things by keys; lists of truth values. -/
namespace HS
open PySem L2
section
variable {α : Type} [DV α] {c : Cv} {kD : α → D} {kp : α → PyData} {S : Sto} {e : D} {xs : List α}
theorem kdR_map (hc : ∀ x ∈ xs, ∃ o, c [dv x] S = some (kD x, o, S)) : kdR c (xs.map dv) S = some (xs.map kD, S) := by
  induction xs with
  | nil => rfl
  | cons x xs ih =>
    obtain ⟨o, h⟩ := hc x List.mem_cons_self
    rw [List.map_cons, kdR, h, Option.bind_some, ih fun y hy => hc y (List.mem_cons_of_mem _ hy)]
    rfl
theorem pyAll_keys (hp : ∀ x, pyD S (kD x) = some (kp x)) : pyAll S (xs.map kD) = some (xs.map kp) := by
  induction xs with
  | nil => rfl
  | cons x xs ih =>
    rw [List.map_cons, pyAll, hp, ih]
    rfl
def srt (kp : α → PyData) (xs : List α) : List α := xs.mergeSort (PySem.W.dataLe false kp)
theorem sortD_map : sortD (xs.map dv) (xs.map kp) = (srt kp xs).map dv := by
  unfold sortD srt
  have hz : (xs.map dv).zip (xs.map kp) = xs.map fun x => (dv x, kp x) := by
    rw [List.zip_map']
  rw [hz, ← List.map_mergeSort (r := PySem.W.dataLe false kp) (s := PySem.W.dataLe false fun p : D × PyData => p.2) (f := fun x => (dv x, kp x)) (fun a _ b _ => rfl), List.map_map]
  rfl
theorem bSortK_spec (hc : ∀ x ∈ xs, ∃ o, c [dv x] S = some (kD x, o, S)) (hp : ∀ x, pyD S (kD x) = some (kp x)) (ha : ∀ x y, PySem.W.alike (kp x) (kp y) = true) (ht : ∀ x, ∃ r, kp x = .tuple r) (hd : ∀ x, (kp x).depth ≤ 50) (hz : xs.length ≤ SZ) (hl : lstOf S e = some (xs.map dv)) :
    bSortK c e S = some (.lst ((srt kp xs).map dv), S) := by
  have ok : SortOk (xs.map kp) := by
    refine ⟨fun a ha' b hb => ?_, .inr fun a ha' => ?_, fun a ha' => ?_⟩
    · obtain ⟨x, _, rfl⟩ := List.mem_map.mp ha'
      obtain ⟨y, _, rfl⟩ := List.mem_map.mp hb
      exact ha x y
    · obtain ⟨x, _, rfl⟩ := List.mem_map.mp ha'
      exact ht x
    · obtain ⟨x, _, rfl⟩ := List.mem_map.mp ha'
      exact hd x
  unfold bSortK
  rw [hl, Option.bind_some, if_pos (by simpa using hz), kdR_map hc]
  simp only [Option.bind_some]
  rw [pyAll_keys hp, Option.bind_some, if_pos ok, sortD_map]
theorem srt_perm : (srt kp xs).Perm xs := List.mergeSort_perm _ _
@[simp] theorem srt_len : (srt kp xs).length = xs.length := List.length_mergeSort _
end
noncomputable def eSortKK (c : Cv) : Option (D × Sto) → Option (D × Sto) := fun o => o.bind fun r => bSortK c r.1 r.2
@[simp] theorem q_sortk {c : Cv} {f : Ev} {η : Env} {S : Sto} : eSortK c f η S = eSortKK c (f η S) := id rfl
@[simp] theorem eSortKK_ {c : Cv} {d : D} {S : Sto} : eSortKK c (some (d, S)) = bSortK c d S := id rfl
/-- adjacent doubles dropped -/
def ddF {α : Type} [DecidableEq α] (f : List α) (x : α) : List α := if f.getLast? = some x then f else f ++ [x]
def dd {α : Type} [DecidableEq α] (xs : List α) : List α := xs.foldl ddF []
section
variable {α : Type} [DecidableEq α]
theorem dd_mem {x : α} : ∀ (xs f : List α), x ∈ xs.foldl ddF f ↔ x ∈ f ∨ x ∈ xs
  | [], f => by simp
  | y :: xs, f => by
    rw [List.foldl_cons, dd_mem xs]
    unfold ddF
    split
    · rename_i h
      have hy : y ∈ f := List.mem_of_getLast? h
      constructor
      · rintro (h | h)
        · exact .inl h
        · exact .inr (List.mem_cons_of_mem _ h)
      · rintro (h | h)
        · exact .inl h
        · rcases List.mem_cons.mp h with rfl | h
          · exact .inl hy
          · exact .inr h
    · simp only [List.mem_append, List.mem_cons, List.not_mem_nil, or_false]
      constructor
      · rintro ((h | h) | h)
        · exact .inl h
        · exact .inr (.inl h)
        · exact .inr (.inr h)
      · rintro (h | h | h)
        · exact .inl (.inl h)
        · exact .inl (.inr h)
        · exact .inr h
theorem mem_dd {x : α} {xs : List α} : x ∈ dd xs ↔ x ∈ xs := by
  unfold dd
  rw [dd_mem]
  simp
theorem dd_len : ∀ (xs f : List α), (xs.foldl ddF f).length ≤ f.length + xs.length
  | [], f => by simp
  | y :: xs, f => by
    rw [List.foldl_cons]
    have := dd_len xs (ddF f y)
    have h2 : (ddF f y).length ≤ f.length + 1 := by
      unfold ddF
      split <;> simp
    simp
    omega
theorem len_dd {xs : List α} : (dd xs).length ≤ xs.length := by
  have := dd_len xs []
  simpa [dd] using this
theorem dd_nodup_aux : ∀ (xs f : List α), (f ++ xs).Nodup → xs.foldl ddF f = f ++ xs
  | [], f, _ => by simp
  | y :: xs, f, h => by
    rw [List.foldl_cons]
    have hy : y ∉ f := fun z => by
      rw [List.nodup_append] at h
      exact h.2.2 y z y List.mem_cons_self rfl
    have e : ddF f y = f ++ [y] := by
      unfold ddF
      rw [if_neg fun z => hy (List.mem_of_getLast? z)]
    rw [e, dd_nodup_aux xs (f ++ [y]) (by simpa using h)]
    simp
theorem dd_nodup {xs : List α} (h : xs.Nodup) : dd xs = xs := by
  unfold dd
  rw [dd_nodup_aux xs [] (by simpa using h)]
  rfl
theorem dd_same {x : α} : ∀ (xs : List α), (∀ y ∈ xs, y = x) → xs.foldl ddF [x] = [x]
  | [], _ => rfl
  | y :: xs, h => by
    have hy := h y List.mem_cons_self
    subst hy
    rw [List.foldl_cons]
    have : ddF [y] y = [y] := by simp [ddF]
    rw [this]
    exact dd_same xs fun z hz => h z (List.mem_cons_of_mem _ hz)
theorem dd_all {x : α} {xs : List α} (h : ∀ y ∈ xs, y = x) (hn : xs ≠ []) : dd xs = [x] := by
  cases xs with
  | nil => exact absurd rfl hn
  | cons y xs =>
    have hy := h y List.mem_cons_self
    subst hy
    unfold dd
    rw [List.foldl_cons]
    have : ddF [] y = [y] := by simp [ddF]
    rw [this]
    exact dd_same xs fun z hz => h z (List.mem_cons_of_mem _ hz)
end
/-! truth values in lists -/
theorem nin_bl {S : Sto} {a : Bool} {bs : List Bool} : oNotIn (.bl a) (.lst (bs.map D.bl)) S = some (.bl (!(bs.any fun b => b == a)), S) := by
  have hp : ∀ l : List Bool, pyAll S (l.map D.bl) = some (l.map PyData.bool) := fun l => by
    induction l with
    | nil => rfl
    | cons b l ih => rw [List.map_cons, pyAll, ih]; rfl
  have hl : ∀ l : List Bool, PyData.canLayAll0 (l.map PyData.bool) = true := fun l => by
    induction l with
    | nil => rfl
    | cons b l ih => simp [PyData.canLayAll0, PyData.canLay0, ih]
  have hd : ∀ l : List Bool, PyData.depthAll (l.map PyData.bool) = 0 := fun l => by
    induction l with
    | nil => rfl
    | cons b l ih => rw [List.map_cons, PyData.depthAll, ih]; rfl
  have e1 : pyR S (.lst (bs.map D.bl)) = some (.list (bs.map PyData.bool)) := by
    show (pyAll S (bs.map D.bl)).map PyData.list = _
    rw [hp]; rfl
  have e2 : pyR S (.bl a) = some (.bool a) := rfl
  show (inP S (.bl a) (.lst (bs.map D.bl))).bind _ = _
  unfold inP
  rw [e1, e2]
  simp only [Option.bind_some]
  have s1 : SeqAt.shaped (.bool a) = true := by rfl
  have s2 : SeqAt.shaped (.list (bs.map PyData.bool)) = true := by
    unfold SeqAt.shaped
    rw [PyData.canLay0, hl, PyData.depth, hd]
    rfl
  rw [s1, s2, if_pos (by rfl), List.any_map]
  rfl
end HS
set_option Elab.async false
set_option linter.all false
set_option maxRecDepth 100000
set_option autoImplicit false
/-! A for loop that folds. -/
namespace HS
open PySem L2
theorem end_Vr0 {A E : Sto} {n : Nat} {c : D} (hd : pl n c = true) : endF A (V A (c :: E)) (.ref A.length) = some (c, true, A) := end_Vr (j := 0) rfl hd
theorem end_Wr0 {A E : Sto} {i n : Nat} {ds : List Int} {c : D} (hd : pl n c = true) : endF A (W A i ds (c :: E)) (.ref A.length) = some (c, true, A.set i (IL ds)) := end_Wr (j := 0) rfl hd
theorem end_Vr1 {A E : Sto} {n : Nat} {b c : D} (hd : pl n c = true) : endF A (V A (b :: c :: E)) (.ref (A.length + 1)) = some (c, true, A) := end_Vr (j := 1) rfl hd
theorem end_Wr1 {A E : Sto} {i n : Nat} {ds : List Int} {b c : D} (hd : pl n c = true) : endF A (W A i ds (b :: c :: E)) (.ref (A.length + 1)) = some (c, true, A.set i (IL ds)) := end_Wr (j := 1) rfl hd
theorem lst_V {A E : Sto} {e : D} {xs : List D} (h : lstOf A e = some xs) : lstOf (V A E) e = some xs := by
  cases e with
  | lst ys => exact h
  | ref i =>
    rw [q_lo2] at h ⊢
    have hi : i < A.length := by
      apply Nat.lt_of_not_le
      intro hle
      rw [List.getElem?_eq_none hle] at h
      cases h
    rw [V_A hi]; exact h
  | _ => cases h
theorem pl_map {α : Type} [DV α] {xs : List α} : pl (DV.n α + 1) (.lst (xs.map dv)) = true := by
  simp only [pl, List.all_map, List.all_eq_true]
  exact fun x _ => DV.hpl x
theorem for_fold {α β : Type} {it : EvI} {tg : Tg} {body : Sv} {S0 : Sto} {chk : Sto → Prop} {as : List α} {g : α → D} {b0 : β} {o0 : Option D} (F : β → α → β) (st : β → Sto) (env : Option D → HS.Env) (Inv : Nat → β → Prop)
    (hi : it (env o0) S0 = some (⟨as.map g, chk⟩, st b0)) (hc : ∀ b, chk (st b)) (ht : ∀ x o, tg x (env o) = some (env (some x))) (h0 : Inv 0 b0)
    (hb : ∀ k a b, as[k]? = some a → Inv k b → body (env (some (g a))) (st b) = some (.nx, env (some (g a)), st (F b a)) ∧ Inv (k + 1) (F b a)) :
    ∃ o, sFor it tg body (env o0) S0 = some (.nx, env o, st (as.foldl F b0)) ∧ Inv as.length (as.foldl F b0) := by
  obtain ⟨η', S', h1, b, o, h2, rfl, rfl, h3⟩ := for_ind (η := env o0) (fun k η S => ∃ (b : β) (o : Option D), b = (as.take k).foldl F b0 ∧ η = env o ∧ S = st b ∧ Inv k b) hi ⟨b0, o0, rfl, rfl, rfl, h0⟩ (fun k η S _ ⟨b, o, _, _, h, _⟩ => h ▸ hc b)
    (fun k x η S hx ⟨b, o, h1, h2, h3, h4⟩ => by
      subst h2 h3
      rw [List.getElem?_map] at hx
      obtain ⟨a, h5, rfl⟩ := Option.map_eq_some_iff.mp hx
      obtain ⟨h6, h7⟩ := hb k a b h5 h4
      refine ⟨_, _, _, ht _ _, .inl h6, F b a, _, ?_, rfl, rfl, h7⟩
      rw [List.take_add_one, h5, List.foldl_append, ← h1]
      rfl)
  rw [List.take_of_length_le (by simp)] at h2
  subst h2
  rw [List.length_map] at h3
  exact ⟨o, h1, h3⟩
end HS
set_option Elab.async false
set_option linter.all false
set_option maxRecDepth 100000
set_option autoImplicit false
set_option maxHeartbeats 4000000
namespace K76
open PySem L2 HS
def top (i : Nat) : Stmt := PySem.Challenge.pw_heldstanding_k76_completions.main.body.getD i (.Pass ⟨0, 0, 0, 0⟩)
abbrev s_law_draws : Stmt := top 6
abbrev s_law_take : Stmt := top 7
abbrev s_law_shuffled : Stmt := top 20
abbrev s_law_pick : Stmt := top 8
abbrev s_law_words : Stmt := top 10
abbrev s_law_value_key : Stmt := top 11
abbrev s_law_row_key : Stmt := top 12
abbrev s_law_statement_key : Stmt := top 13
abbrev s_law_set : Stmt := top 14
abbrev s_law_value : Stmt := top 18
abbrev s_law_pieces : Stmt := top 19
abbrev s_law_support : Stmt := top 21
abbrev s_law_raw : Stmt := top 22
abbrev s_law_shape : Stmt := top 23
abbrev s_law_set_key : Stmt := top 15
abbrev s_law_within : Stmt := top 16
abbrev s_law_thinned : Stmt := top 17
abbrev s_law_board_of_raw : Stmt := top 24
abbrev s_law_sure_board : Stmt := top 25
abbrev s_law_boards : Stmt := top 26
abbrev s_law_great_board : Stmt := top 27
abbrev s_law_maybe_of : Stmt := top 28
abbrev s_law_tuples : Stmt := top 29
abbrev s_completions : Stmt := top 3
abbrev s_board_of_attacks : Stmt := top 1
abbrev s_completed : Stmt := top 4
abbrev s_law_same : Stmt := top 9
abbrev s_law_completed : Stmt := top 30
abbrev s_law_right : Stmt := top 31
abbrev s_law : Stmt := top 32
def fa (a : Nat → Addr) : String → Option Addr := fun _ => none
/-! what the defs compute -/
noncomputable def k_law_draws_1 : Ev := eLc (iE (eVar 0)) [8] (gN 8) tYesE (eB bInt (aCons (eVar 8) aNil))
noncomputable def b_law_draws_1 : Sv := (sSeq (sSet 6 (eBin oMod (eVar 5) (eB bLen (aCons (eVar 2) aNil))))
    (sIf (tAndE (tB (eBin oGe (eBin oIx (eVar 2) (eVar 6)) (eBin oPow (eC (.int 10)) (eC (.int 18))))) (tB (eBin oGt (eBin oIx (eVar 3) (eVar 6)) (eC (.int 0))))) (sSeq (sExp (eM "list" mAppend (eVar 4) (aCons (eBin oMod (eB bInt (aCons (eBin oIx (eVar 3) (eVar 6)) aNil)) (eC (.int 1000))) aNil)))
    (sSetI (eVar 3) (eVar 6) (eBin oFdiv (eBin oIx (eVar 3) (eVar 6)) (eC (.int 1000))))) (sSeq (sSet 7 (eBin oMod (eB bInt (aCons (eBin oAdd (eBin oAdd (eBin oMul (eBin oIx (eVar 2) (eVar 6)) (eC (.int 48271))) (eBin oMul (eVar 5) (eC (.int 69621)))) (eC (.int 11))) aNil)) (eC (.int 2147483647))))
    (sExp (eM "list" mAppend (eVar 4) (aCons (eBin oMod (eB bInt (aCons (eBin oAdd (eBin oAdd (eBin oMul (eVar 7) (eVar 7)) (eBin oMul (eC (.int 3)) (eVar 7))) (eVar 5)) aNil)) (eC (.int 1000003))) aNil))))))
noncomputable def l_law_draws_1 : Sv := sFor (iRange1 (aCons (eVar 1) aNil)) (gN 5) b_law_draws_1
noncomputable def m_law_draws : Sv := (sSeq (sSet 2 (eAl k_law_draws_1))
    (sSeq (sIf (tB (eBin oEq (eB bLen (aCons (eVar 2) aNil)) (eC (.int 0)))) (sExp (eM "list" mAppend (eVar 2) (aCons (eC (.int 0)) aNil))) sNil)
    (sSeq (sSet 3 (eAl (eB bList (aCons (eVar 2) aNil))))
    (sSeq (sSet 4 (eAl (eLst aNil)))
    (sSeq l_law_draws_1
    (sSeq (sExp (eM0 "list" mReverse (eVar 4)))
    (sRet (eVar 4))))))))
noncomputable def c_law_draws : Cv := callOf 9 m_law_draws
noncomputable def m_law_take : Sv := (sSeq (sIf (tB (eBin oEq (eB bLen (aCons (eVar 0) aNil)) (eC (.int 0)))) (sRet (eC (.int 0))) sNil)
    (sRet (eBin oMod (eB bInt (aCons (eM0 "list" mPop (eVar 0)) aNil)) (eVar 1))))
noncomputable def c_law_take : Cv := callOf 2 m_law_take
noncomputable def b_law_shuffled_1 : Sv := (sExp (eM "list" mAppend (eVar 3) (aCons (eM "list" mPopAt (eVar 2) (aCons (eCall c_law_take 2 (aCons (eVar 0) (aCons (eB bLen (aCons (eVar 2) aNil)) aNil))) aNil)) aNil)))
noncomputable def l_law_shuffled_1 : Sv := sFor (iRange1 (aCons (eB bLen (aCons (eVar 1) aNil)) aNil)) (gN 4) b_law_shuffled_1
noncomputable def m_law_shuffled : Sv := (sSeq (sSet 2 (eAl (eB bList (aCons (eVar 1) aNil))))
    (sSeq (sSet 3 (eAl (eLst aNil)))
    (sSeq l_law_shuffled_1
    (sRet (eVar 3)))))
noncomputable def c_law_shuffled : Cv := callOf 5 m_law_shuffled
noncomputable def m_law_pick : Sv := (sRet (eBin oIx (eVar 1) (eCall c_law_take 2 (aCons (eVar 0) (aCons (eB bLen (aCons (eVar 1) aNil)) aNil)))))
noncomputable def c_law_pick : Cv := callOf 2 m_law_pick
noncomputable def k_law_words_1 : Ev := eLc (iRange1 (aCons (eVar 4) aNil)) [6] (gN 6) tYesE (eBin oIx (eC (.str "abcdefghijklmnopqrstuvwxyz")) (eCall c_law_take 2 (aCons (eVar 0) (aCons (eC (.int 26)) aNil))))
noncomputable def k_law_words_2 : Ev := eLc (iE (eVar 2)) [7] (gN 7) tYesE (eB bLen (aCons (eVar 7) aNil))
noncomputable def b_law_words_1 : Sv := (sSeq (sSet 4 (eBin oAdd (eC (.int 1)) (eCall c_law_take 2 (aCons (eVar 0) (aCons (eC (.int 3)) aNil)))))
    (sSeq (sIf (tB (eBin oEq (eCall c_law_take 2 (aCons (eVar 0) (aCons (eC (.int 9)) aNil))) (eC (.int 0)))) (sSet 4 (eBin oAdd (eBin oAdd (eVar 4) (eC (.int 3))) (eCall c_law_take 2 (aCons (eVar 0) (aCons (eC (.int 20)) aNil))))) sNil)
    (sSeq (sSet 5 (eM "str" mJoin (eC (.str "")) (aCons k_law_words_1 aNil)))
    (sSeq (sIf (tOrE (tB (eBin oIn (eVar 5) (eVar 2))) (tB (eBin oIn (eVar 5) (eLst (aCons (eC (.str "pick")) (aCons (eC (.str "kept")) (aCons (eC (.str "used")) (aCons (eC (.str "maybe")) aNil)))))))) (sSet 5 (eBin oMul (eC (.str "z")) (eBin oAdd (eC (.int 1)) (eB bMax (aCons (eBin oAdd (eLst (aCons (eC (.int 4)) aNil)) k_law_words_2) aNil))))) sNil)
    (sExp (eM "list" mAppend (eVar 2) (aCons (eVar 5) aNil)))))))
noncomputable def l_law_words_1 : Sv := sFor (iRange1 (aCons (eVar 1) aNil)) (gN 3) b_law_words_1
noncomputable def m_law_words : Sv := (sSeq (sSet 2 (eAl (eLst aNil)))
    (sSeq l_law_words_1
    (sRet (eVar 2))))
noncomputable def c_law_words : Cv := callOf 8 m_law_words
noncomputable def m_law_value_key : Sv := (sSeq (sIf (tB (eB bIsi (aCons (eVar 0) (aCons (eC (.ty "str")) aNil)))) (sRet (eTup (aCons (eC (.int 1)) (aCons (eC (.int 0)) (aCons (eVar 0) aNil))))) sNil)
    (sRet (eTup (aCons (eC (.int 0)) (aCons (eVar 0) (aCons (eC (.str "")) aNil))))))
noncomputable def c_law_value_key : Cv := callOf 1 m_law_value_key
noncomputable def k_law_row_key_1 : Ev := eLc (iE (eVar 0)) [1] (gN 1) tYesE (eCall c_law_value_key 1 (aCons (eVar 1) aNil))
noncomputable def m_law_row_key : Sv := (sRet (eB bTuple (aCons k_law_row_key_1 aNil)))
noncomputable def c_law_row_key : Cv := callOf 2 m_law_row_key
noncomputable def m_law_statement_key : Sv := (sRet (eTup (aCons (eBin oIx (eVar 0) (eC (.int 0))) (aCons (eCall c_law_row_key 1 (aCons (eBin oIx (eVar 0) (eC (.int 1))) aNil)) aNil))))
noncomputable def c_law_statement_key : Cv := callOf 1 m_law_statement_key
noncomputable def b_law_set_1 : Sv := (sIf (tOrE (tB (eBin oEq (eB bLen (aCons (eVar 1) aNil)) (eC (.int 0)))) (tB (eBin oNe (eBin oIx (eVar 1) (eUn (fun i => -i) (eC (.int 1)))) (eVar 2)))) (sExp (eM "list" mAppend (eVar 1) (aCons (eVar 2) aNil))) sNil)
noncomputable def l_law_set_1 : Sv := sFor (iE (eSortK c_law_statement_key (eVar 0))) (gN 2) b_law_set_1
noncomputable def m_law_set : Sv := (sSeq (sSet 1 (eAl (eLst aNil)))
    (sSeq l_law_set_1
    (sRet (eB bTuple (aCons (eVar 1) aNil)))))
noncomputable def c_law_set : Cv := callOf 3 m_law_set
noncomputable def m_law_value : Sv := (sSeq (sSet 2 (eCall c_law_take 2 (aCons (eVar 0) (aCons (eC (.int 6)) aNil))))
    (sSeq (sIf (tB (eBin oEq (eVar 2) (eC (.int 0)))) (sRet (eCall c_law_pick 2 (aCons (eVar 0) (aCons (eVar 1) aNil)))) sNil)
    (sSeq (sIf (tB (eBin oEq (eVar 2) (eC (.int 1)))) (sRet (eBin oMul (eBin oSub (eCall c_law_take 2 (aCons (eVar 0) (aCons (eC (.int 900)) aNil))) (eC (.int 450))) (eCall c_law_pick 2 (aCons (eVar 0) (aCons (eLst (aCons (eC (.int 1)) (aCons (eC (.int 1000003)) (aCons (eBin oAdd (eBin oPow (eC (.int 10)) (eC (.int 15))) (eC (.int 37))) (aCons (eBin oAdd (eBin oPow (eC (.int 10)) (eC (.int 40))) (eC (.int 121))) aNil))))) aNil))))) sNil)
    (sRet (eBin oSub (eCall c_law_take 2 (aCons (eVar 0) (aCons (eC (.int 9)) aNil))) (eC (.int 3)))))))
noncomputable def c_law_value : Cv := callOf 3 m_law_value
noncomputable def k_law_pieces_1 : Ev := eLc (iRange1 (aCons (eCall c_law_pick 2 (aCons (eVar 0) (aCons (eLst (aCons (eC (.int 0)) (aCons (eC (.int 1)) (aCons (eC (.int 0)) (aCons (eC (.int 1)) (aCons (eC (.int 2)) (aCons (eC (.int 3)) (aCons (eC (.int 4)) aNil)))))))) aNil))) aNil)) [7] (gN 7) tYesE (eCall c_law_value 2 (aCons (eVar 0) (aCons (eVar 2) aNil)))
noncomputable def b_law_pieces_1 : Sv := (sSeq (sSet 5 (eB bTuple (aCons k_law_pieces_1 aNil)))
    (sSeq (sSet 6 (eTup (aCons (eCall c_law_pick 2 (aCons (eVar 0) (aCons (eSl slD (eVar 2) oNo (oSo (eC (.int 3)))) aNil))) (aCons (eVar 5) aNil))))
    (sSeq (sIf (tB (eBin oIn (eVar 6) (eVar 3))) (sSet 6 (eTup (aCons (eBin oMul (eC (.str "z")) (eC (.int 40))) (aCons (eTup (aCons (eVar 4) aNil)) aNil)))) sNil)
    (sExp (eM "list" mAppend (eVar 3) (aCons (eVar 6) aNil))))))
noncomputable def l_law_pieces_1 : Sv := sFor (iRange1 (aCons (eVar 1) aNil)) (gN 4) b_law_pieces_1
noncomputable def m_law_pieces : Sv := (sSeq (sSet 2 (eCall c_law_words 2 (aCons (eVar 0) (aCons (eC (.int 4)) aNil))))
    (sSeq (sSet 3 (eAl (eLst aNil)))
    (sSeq l_law_pieces_1
    (sRet (eCall c_law_set 1 (aCons (eVar 3) aNil))))))
noncomputable def c_law_pieces : Cv := callOf 8 m_law_pieces
noncomputable def k_law_support_1 : Ev := eLc (iRange1 (aCons (eVar 2) aNil)) [3] (gN 3) tYesE (eCall c_law_pick 2 (aCons (eVar 0) (aCons (eVar 1) aNil)))
noncomputable def m_law_support : Sv := (sSeq (sSet 2 (eCall c_law_pick 2 (aCons (eVar 0) (aCons (eLst (aCons (eC (.int 1)) (aCons (eC (.int 1)) (aCons (eC (.int 2)) (aCons (eC (.int 1)) (aCons (eC (.int 2)) (aCons (eC (.int 1)) (aCons (eC (.int 3)) (aCons (eC (.int 1)) (aCons (eC (.int 2)) (aCons (eC (.int 1)) (aCons (eC (.int 2)) (aCons (eC (.int 1)) (aCons (eC (.int 3)) (aCons (eC (.int 1)) (aCons (eC (.int 5)) (aCons (eC (.int 0)) aNil))))))))))))))))) aNil))))
    (sRet (eCall c_law_set 1 (aCons k_law_support_1 aNil))))
noncomputable def c_law_support : Cv := callOf 4 m_law_support
noncomputable def b_law_raw_1 : Sv := (sExp (eM "list" mAppend (eVar 3) (aCons (eTup (aCons (eCall c_law_support 2 (aCons (eVar 0) (aCons (eVar 1) aNil))) (aCons (eCall c_law_pick 2 (aCons (eVar 0) (aCons (eVar 1) aNil))) aNil))) aNil)))
noncomputable def l_law_raw_1 : Sv := sFor (iRange1 (aCons (eBin oMul (eCall c_law_take 2 (aCons (eVar 0) (aCons (eBin oAdd (eVar 2) (eC (.int 1))) aNil))) (eB bInt (aCons (eBin oGt (eB bLen (aCons (eVar 1) aNil)) (eC (.int 0))) aNil))) aNil)) (gN 4) b_law_raw_1
noncomputable def m_law_raw : Sv := (sSeq (sSet 3 (eAl (eLst aNil)))
    (sSeq l_law_raw_1
    (sRet (eVar 3))))
noncomputable def c_law_raw : Cv := callOf 5 m_law_raw
noncomputable def k_law_shape_1 : Ev := eLc (iRange1 (aCons (eBin oSub (eVar 3) (eC (.int 1))) aNil)) [11] (gN 11) tYesE (eTup (aCons (eLst (aCons (eVar 11) aNil)) (aCons (eBin oAdd (eVar 11) (eC (.int 1))) aNil)))
noncomputable def k_law_shape_2 : Ev := eLc (iRange1 (aCons (eVar 3) aNil)) [11] (gN 11) tYesE (eTup (aCons (eLst (aCons (eVar 11) aNil)) (aCons (eBin oSub (eBin oAdd (eVar 11) (eC (.int 1))) (eBin oMul (eC (.int 2)) (eBin oMod (eB bInt (aCons (eVar 11) aNil)) (eC (.int 2))))) aNil)))
noncomputable def k_law_shape_3 : Ev := eLc (iRange2 (aCons (eC (.int 4)) (aCons (eBin oMul (eC (.int 2)) (eVar 3)) aNil))) [11] (gN 11) tYesE (eTup (aCons (eLst (aCons (eBin oMod (eB bInt (aCons (eVar 11) aNil)) (eC (.int 2))) aNil)) (aCons (eBin oFdiv (eVar 11) (eC (.int 2))) aNil)))
noncomputable def k_law_shape_4 : Ev := eLc (iE (eVar 9)) [12] (gN 12) (tB (eBin oLt (eB bMax (aCons (eBin oAdd (eBin oIx (eVar 12) (eC (.int 0))) (eLst (aCons (eBin oIx (eVar 12) (eC (.int 1))) aNil))) aNil)) (eVar 3))) (eVar 12)
noncomputable def k_law_shape_5 : Ev := eLc (iE (eBin oIx (eVar 12) (eC (.int 0)))) [13] (gN 13) tYesE (eBin oIx (eVar 2) (eVar 13))
noncomputable def k_law_shape_6 : Ev := eLc (iE (eVar 10)) [12] (gN 12) tYesE (eTup (aCons (eCall c_law_set 1 (aCons k_law_shape_5 aNil)) (aCons (eBin oIx (eVar 2) (eBin oIx (eVar 12) (eC (.int 1)))) aNil)))
noncomputable def m_law_shape : Sv := (sSeq (sSet 2 (eCall c_law_shuffled 2 (aCons (eVar 0) (aCons (eVar 1) aNil))))
    (sSeq (sSet 3 (eB bLen (aCons (eVar 2) aNil)))
    (sSeq (sSet 4 k_law_shape_1)
    (sSeq (sSet 5 k_law_shape_2)
    (sSeq (sSet 6 (eBin oAdd (eLst (aCons (eTup (aCons (eLst (aCons (eC (.int 0)) aNil)) (aCons (eC (.int 1)) aNil))) (aCons (eTup (aCons (eLst (aCons (eC (.int 1)) aNil)) (aCons (eC (.int 0)) aNil))) (aCons (eTup (aCons (eLst (aCons (eBin oSub (eVar 3) (eC (.int 1))) aNil)) (aCons (eBin oSub (eVar 3) (eC (.int 1))) aNil))) aNil)))) k_law_shape_3))
    (sSeq (sSet 7 (eLst (aCons (eTup (aCons (eLst (aCons (eC (.int 0)) aNil)) (aCons (eC (.int 1)) aNil))) (aCons (eTup (aCons (eLst (aCons (eC (.int 1)) aNil)) (aCons (eC (.int 0)) aNil))) (aCons (eTup (aCons (eLst (aCons (eC (.int 0)) aNil)) (aCons (eC (.int 2)) aNil))) (aCons (eTup (aCons (eLst (aCons (eC (.int 1)) aNil)) (aCons (eC (.int 2)) aNil))) (aCons (eTup (aCons (eLst (aCons (eC (.int 2)) aNil)) (aCons (eC (.int 3)) aNil))) (aCons (eTup (aCons (eLst (aCons (eC (.int 4)) aNil)) (aCons (eC (.int 5)) aNil))) (aCons (eTup (aCons (eLst (aCons (eC (.int 5)) aNil)) (aCons (eC (.int 4)) aNil))) (aCons (eTup (aCons (eLst (aCons (eC (.int 5)) aNil)) (aCons (eC (.int 5)) aNil))) aNil))))))))))
    (sSeq (sSet 8 (eLst (aCons (eTup (aCons (eLst (aCons (eC (.int 0)) (aCons (eC (.int 1)) aNil))) (aCons (eC (.int 2)) aNil))) (aCons (eTup (aCons (eLst (aCons (eC (.int 2)) aNil)) (aCons (eC (.int 0)) aNil))) (aCons (eTup (aCons (eLst (aCons (eC (.int 2)) (aCons (eC (.int 3)) aNil))) (aCons (eC (.int 1)) aNil))) (aCons (eTup (aCons (eLst (aCons (eC (.int 1)) aNil)) (aCons (eC (.int 3)) aNil))) (aCons (eTup (aCons (eLst (aCons (eC (.int 0)) (aCons (eC (.int 3)) aNil))) (aCons (eC (.int 4)) aNil))) (aCons (eTup (aCons (eLst (aCons (eC (.int 4)) aNil)) (aCons (eC (.int 4)) aNil))) aNil))))))))
    (sSeq (sSet 9 (eCall c_law_pick 2 (aCons (eVar 0) (aCons (eLst (aCons (eLst aNil) (aCons (eLst aNil) (aCons (eLst aNil) (aCons (eVar 4) (aCons (eBin oAdd (eVar 4) (eLst (aCons (eTup (aCons (eLst (aCons (eBin oSub (eVar 3) (eC (.int 1))) aNil)) (aCons (eC (.int 0)) aNil))) aNil))) (aCons (eVar 5) (aCons (eVar 6) (aCons (eVar 7) (aCons (eVar 8) aNil)))))))))) aNil))))
    (sSeq (sIf (tB (eBin oEq (eVar 3) (eC (.int 0)))) (sRet (eLst aNil)) sNil)
    (sSeq (sSet 10 k_law_shape_4)
    (sRet k_law_shape_6)))))))))))
noncomputable def c_law_shape : Cv := callOf 14 m_law_shape
noncomputable def k_law_set_key_1 : Ev := eLc (iE (eVar 0)) [1] (gN 1) tYesE (eCall c_law_statement_key 1 (aCons (eVar 1) aNil))
noncomputable def m_law_set_key : Sv := (sRet (eB bTuple (aCons k_law_set_key_1 aNil)))
noncomputable def c_law_set_key : Cv := callOf 2 m_law_set_key
noncomputable def k_law_within_1 : Ev := eLc (iE (eVar 0)) [2] (gN 2) tYesE (eBin oIn (eVar 2) (eVar 1))
noncomputable def m_law_within : Sv := (sRet (eBin oNotIn (eC (.bl false)) k_law_within_1))
noncomputable def c_law_within : Cv := callOf 3 m_law_within
noncomputable def k_law_thinned_1 : Ev := eLc (iE (eVar 0)) [3] (gN 3) tYesE (eAnd (eBin oNe (eVar 3) (eVar 2)) (eCall c_law_within 2 (aCons (eVar 3) (aCons (eVar 2) aNil))))
noncomputable def b_law_thinned_1 : Sv := (sIf (tAndE (tB (eBin oNotIn (eVar 2) (eVar 1))) (tB (eBin oNotIn (eC (.bl true)) k_law_thinned_1))) (sExp (eM "list" mAppend (eVar 1) (aCons (eVar 2) aNil))) sNil)
noncomputable def l_law_thinned_1 : Sv := sFor (iE (eSortK c_law_set_key (eVar 0))) (gN 2) b_law_thinned_1
noncomputable def m_law_thinned : Sv := (sSeq (sSet 1 (eAl (eLst aNil)))
    (sSeq l_law_thinned_1
    (sRet (eB bTuple (aCons (eVar 1) aNil)))))
noncomputable def c_law_thinned : Cv := callOf 4 m_law_thinned
noncomputable def k_law_board_of_raw_1 : Ev := eLc (iE (eVar 1)) [5] (gN 5) (tB (eBin oEq (eBin oIx (eVar 5) (eC (.int 1))) (eVar 3))) (eBin oIx (eVar 5) (eC (.int 0)))
noncomputable def b_law_board_of_raw_1 : Sv := (sExp (eM "list" mAppend (eVar 2) (aCons (eTup (aCons (eVar 4) (aCons (eVar 3) aNil))) aNil)))
noncomputable def l_law_board_of_raw_1 : Sv := sFor (iE (eCall c_law_thinned 1 (aCons k_law_board_of_raw_1 aNil))) (gN 4) b_law_board_of_raw_1
noncomputable def l_law_board_of_raw_2 : Sv := sFor (iE (eVar 0)) (gN 3) l_law_board_of_raw_1
noncomputable def m_law_board_of_raw : Sv := (sSeq (sSet 2 (eAl (eLst aNil)))
    (sSeq l_law_board_of_raw_2
    (sRet (eTup (aCons (eVar 0) (aCons (eB bTuple (aCons (eVar 2) aNil)) aNil))))))
noncomputable def c_law_board_of_raw : Cv := callOf 6 m_law_board_of_raw
noncomputable def m_law_sure_board : Sv := (sSeq (sSet 1 (eCall c_law_pieces 2 (aCons (eVar 0) (aCons (eC (.int 4)) aNil))))
    (sSeq (sSet 2 (eCall c_law_shuffled 2 (aCons (eVar 0) (aCons (eVar 1) aNil))))
    (sSeq (sSet 3 (eLst (aCons (eTup (aCons (eTup (aCons (eBin oIx (eVar 2) (eC (.int 0))) aNil)) (aCons (eBin oIx (eVar 2) (eC (.int 1))) aNil))) (aCons (eTup (aCons (eTup (aCons (eBin oIx (eVar 2) (eC (.int 1))) aNil)) (aCons (eBin oIx (eVar 2) (eC (.int 0))) aNil))) (aCons (eTup (aCons (eTup (aCons (eBin oIx (eVar 2) (eC (.int 0))) aNil)) (aCons (eBin oIx (eVar 2) (eC (.int 2))) aNil))) (aCons (eTup (aCons (eTup (aCons (eBin oIx (eVar 2) (eC (.int 2))) aNil)) (aCons (eBin oIx (eVar 2) (eC (.int 2))) aNil))) aNil))))))
    (sRet (eCall c_law_board_of_raw 2 (aCons (eVar 1) (aCons (eVar 3) aNil)))))))
noncomputable def c_law_sure_board : Cv := callOf 4 m_law_sure_board
noncomputable def m_law_boards : Sv := (sSeq (sSet 3 (eCall c_law_pieces 2 (aCons (eVar 0) (aCons (eBin oSub (eVar 1) (eCall c_law_pick 2 (aCons (eVar 0) (aCons (eLst (aCons (eC (.int 0)) (aCons (eC (.int 1)) (aCons (eC (.int 0)) (aCons (eC (.int 2)) (aCons (eC (.int 1)) (aCons (eC (.int 0)) (aCons (eVar 1) (aCons (eC (.int 3)) aNil))))))))) aNil)))) aNil))))
    (sSeq (sSet 4 (eCall c_law_board_of_raw 2 (aCons (eVar 3) (aCons (eBin oAdd (eCall c_law_shape 2 (aCons (eVar 0) (aCons (eVar 3) aNil))) (eCall c_law_raw 3 (aCons (eVar 0) (aCons (eVar 3) (aCons (eVar 2) aNil))))) aNil))))
    (sSeq (sIf (tB (eBin oEq (eCall c_law_take 2 (aCons (eVar 0) (aCons (eC (.int 2)) aNil))) (eC (.int 0)))) (sSet 3 (eCall c_law_pieces 2 (aCons (eVar 0) (aCons (eBin oSub (eVar 1) (eCall c_law_take 2 (aCons (eVar 0) (aCons (eC (.int 3)) aNil)))) aNil)))) sNil)
    (sSeq (sSet 5 (eCall c_law_board_of_raw 2 (aCons (eVar 3) (aCons (eBin oAdd (eCall c_law_shape 2 (aCons (eVar 0) (aCons (eVar 3) aNil))) (eCall c_law_raw 3 (aCons (eVar 0) (aCons (eVar 3) (aCons (eVar 2) aNil))))) aNil))))
    (sRet (eLst (aCons (eVar 4) (aCons (eVar 5) (aCons (eCall c_law_sure_board 1 (aCons (eVar 0) aNil)) aNil)))))))))
noncomputable def c_law_boards : Cv := callOf 6 m_law_boards
noncomputable def k_law_great_board_1 : Ev := eLc (iRange1 (aCons (eC (.int 11)) aNil)) [4] (gN 4) tYesE (eTup (aCons (eTup (aCons (eBin oIx (eVar 2) (eVar 4)) aNil)) (aCons (eBin oIx (eVar 2) (eBin oAdd (eVar 4) (eC (.int 1)))) aNil)))
noncomputable def m_law_great_board : Sv := (sSeq (sSet 1 (eCall c_law_pieces 2 (aCons (eVar 0) (aCons (eC (.int 12)) aNil))))
    (sSeq (sSet 2 (eCall c_law_shuffled 2 (aCons (eVar 0) (aCons (eVar 1) aNil))))
    (sSeq (sSet 3 k_law_great_board_1)
    (sRet (eCall c_law_board_of_raw 2 (aCons (eVar 1) (aCons (eBin oAdd (eVar 3) (eCall c_law_raw 3 (aCons (eVar 0) (aCons (eVar 1) (aCons (eCall c_law_pick 2 (aCons (eVar 0) (aCons (eLst (aCons (eC (.int 0)) (aCons (eC (.int 14)) (aCons (eC (.int 2)) (aCons (eC (.int 5)) aNil))))) aNil))) aNil))))) aNil)))))))
noncomputable def c_law_great_board : Cv := callOf 5 m_law_great_board
noncomputable def k_law_maybe_of_1 : Ev := eLc (iRange1 (aCons (eB bLen (aCons (eBin oIx (eVar 1) (eC (.int 1))) aNil)) aNil)) [4] (gN 4) tYesE (eVar 4)
noncomputable def m_law_maybe_of : Sv := (sSeq (sSet 3 (eCall c_law_shuffled 2 (aCons (eVar 0) (aCons k_law_maybe_of_1 aNil))))
    (sRet (eTup (aCons (eVar 1) (aCons (eB bTuple (aCons (eB bSortI (aCons (eSl slD (eVar 3) oNo (oSo (eCall c_law_take 2 (aCons (eVar 0) (aCons (eBin oAdd (eVar 2) (eC (.int 1))) aNil))))) aNil)) aNil)) aNil)))))
noncomputable def c_law_maybe_of : Cv := callOf 5 m_law_maybe_of
noncomputable def b_law_tuples_1 : Sv := (sSet 3 (eBin oAdd (eVar 3) (eLst (aCons (eBin oAdd (eVar 4) (eTup (aCons (eC (.int 0)) aNil))) (aCons (eBin oAdd (eVar 4) (eTup (aCons (eC (.int 1)) aNil))) aNil)))))
noncomputable def l_law_tuples_1 : Sv := sFor (iE (eVar 1)) (gN 4) b_law_tuples_1
noncomputable def b_law_tuples_2 : Sv := (sSeq (sSet 3 (eLst aNil))
    (sSeq l_law_tuples_1
    (sSet 1 (eVar 3))))
noncomputable def l_law_tuples_2 : Sv := sFor (iRange1 (aCons (eVar 0) aNil)) (gN 2) b_law_tuples_2
noncomputable def m_law_tuples : Sv := (sSeq (sSet 1 (eLst (aCons (eTup aNil) aNil)))
    (sSeq l_law_tuples_2
    (sRet (eVar 1))))
noncomputable def c_law_tuples : Cv := callOf 5 m_law_tuples
noncomputable def k_completions_1 : Ev := eLc2 (iE (eVar 1)) [3, 4] (gN 3) tYesE (iE (eTup (aCons (eC (.int 0)) (aCons (eC (.int 1)) aNil)))) [4] (gN 4) tYesE (eBin oAdd (eVar 3) (eTup (aCons (eVar 4) aNil)))
noncomputable def b_completions_1 : Sv := (sSet 1 k_completions_1)
noncomputable def l_completions_1 : Sv := sFor (iE (eBin oIx (eVar 0) (eC (.int 1)))) (gN 2) b_completions_1
noncomputable def m_completions : Sv := (sSeq (sSet 1 (eLst (aCons (eTup aNil) aNil)))
    (sSeq l_completions_1
    (sRet (eB bTuple (aCons (eVar 1) aNil)))))
noncomputable def c_completions : Cv := callOf 5 m_completions
noncomputable def k_board_of_attacks_1 : Ev := eLc (iE (eVar 1)) [4] (gN 4) tYesE (eBin oIx (eVar 3) (eVar 4))
noncomputable def m_board_of_attacks : Sv := (sSeq (sAsg (gT 2 (gCons (gN 2) (gCons (gN 3) gNil))) (eVar 0))
    (sRet (eTup (aCons (eVar 2) (aCons (eB bTuple (aCons k_board_of_attacks_1 aNil)) aNil)))))
noncomputable def c_board_of_attacks : Cv := callOf 5 m_board_of_attacks
noncomputable def k_completed_1 : Ev := eLc (iZip (aCons (eVar 3) (aCons (eVar 1) aNil))) [5, 6] (gT 2 (gCons (gN 5) (gCons (gN 6) gNil))) (tB (eBin oEq (eVar 6) (eC (.int 0)))) (eVar 5)
noncomputable def k_completed_2 : Ev := eLc (iRange1 (aCons (eB bLen (aCons (eBin oIx (eVar 2) (eC (.int 1))) aNil)) aNil)) [5] (gN 5) (tB (eBin oNotIn (eVar 5) (eVar 4))) (eVar 5)
noncomputable def m_completed : Sv := (sSeq (sAsg (gT 2 (gCons (gN 2) (gCons (gN 3) gNil))) (eVar 0))
    (sSeq (sSet 4 k_completed_1)
    (sRet (eCall c_board_of_attacks 2 (aCons (eVar 2) (aCons k_completed_2 aNil))))))
noncomputable def c_completed : Cv := callOf 7 m_completed
noncomputable def k_law_same_1 (c : Cv) : Ev := eLc (iRange1 (aCons (eB bLen (aCons (eVar 1) aNil)) aNil)) [2] (gN 2) tYesE (eCall c 2 (aCons (eBin oIx (eVar 0) (eVar 2)) (aCons (eBin oIx (eVar 1) (eVar 2)) aNil)))
noncomputable def m_law_same (c : Cv) : Sv := (sSeq (sIf (tB (eB bIsi (aCons (eVar 1) (aCons (eTup (aCons (eC (.ty "tuple")) (aCons (eC (.ty "list")) aNil))) aNil)))) (sSeq (sIf (tOrE (tB (eBin oNe (eB bIsi (aCons (eVar 0) (aCons (eC (.ty "tuple")) aNil))) (eB bIsi (aCons (eVar 1) (aCons (eC (.ty "tuple")) aNil))))) (tB (eBin oNe (eB bIsi (aCons (eVar 0) (aCons (eC (.ty "list")) aNil))) (eB bIsi (aCons (eVar 1) (aCons (eC (.ty "list")) aNil)))))) (sRet (eC (.bl false))) sNil)
    (sSeq (sIf (tB (eBin oNe (eB bLen (aCons (eVar 0) aNil)) (eB bLen (aCons (eVar 1) aNil)))) (sRet (eC (.bl false))) sNil)
    (sRet (eBin oNotIn (eC (.bl false)) (k_law_same_1 c))))) sNil)
    (sSeq (sIf (tOrE (tB (eBin oNe (eB bIsi (aCons (eVar 0) (aCons (eC (.ty "bool")) aNil))) (eB bIsi (aCons (eVar 1) (aCons (eC (.ty "bool")) aNil))))) (tB (eBin oNe (eB bIsi (aCons (eVar 0) (aCons (eC (.ty "int")) aNil))) (eB bIsi (aCons (eVar 1) (aCons (eC (.ty "int")) aNil)))))) (sRet (eC (.bl false))) sNil)
    (sSeq (sIf (tOrE (tB (eBin oNe (eB bIsi (aCons (eVar 0) (aCons (eC (.ty "str")) aNil))) (eB bIsi (aCons (eVar 1) (aCons (eC (.ty "str")) aNil))))) (tB (eBin oNe (eBin oIs (eVar 0) (eC .non)) (eBin oIs (eVar 1) (eC .non))))) (sRet (eC (.bl false))) sNil)
    (sRet (eBin oEq (eVar 0) (eVar 1))))))
noncomputable def c_law_same : Nat → Cv
  | 0 => fun _ _ => none
  | k + 1 => callOf 3 (m_law_same (c_law_same k))
noncomputable def k_law_completed_1 : Ev := eLc (iRange1 (aCons (eB bLen (aCons (eVar 3) aNil)) aNil)) [5] (gN 5) (tB (eBin oEq (eBin oIx (eVar 1) (eVar 5)) (eC (.int 0)))) (eBin oIx (eVar 3) (eVar 5))
noncomputable def k_law_completed_2 : Ev := eLc (iRange1 (aCons (eB bLen (aCons (eBin oIx (eVar 2) (eC (.int 1))) aNil)) aNil)) [5] (gN 5) (tB (eBin oNotIn (eVar 5) (eVar 4))) (eBin oIx (eBin oIx (eVar 2) (eC (.int 1))) (eVar 5))
noncomputable def m_law_completed : Sv := (sSeq (sSet 2 (eBin oIx (eVar 0) (eC (.int 0))))
    (sSeq (sSet 3 (eBin oIx (eVar 0) (eC (.int 1))))
    (sSeq (sSet 4 k_law_completed_1)
    (sRet (eTup (aCons (eBin oIx (eVar 2) (eC (.int 0))) (aCons (eB bTuple (aCons k_law_completed_2 aNil)) aNil)))))))
noncomputable def c_law_completed : Cv := callOf 6 m_law_completed
noncomputable def k_law_right_1 : Ev := eLc (iE (eVar 1)) [2] (gN 2) tYesE (eCall (c_law_same 40) 2 (aCons (eCall c_completed 2 (aCons (eVar 0) (aCons (eVar 2) aNil))) (aCons (eCall c_law_completed 2 (aCons (eVar 0) (aCons (eVar 2) aNil))) aNil)))
noncomputable def m_law_right : Sv := (sSeq (sIf (tNotE (tB (eCall (c_law_same 40) 2 (aCons (eCall c_completions 1 (aCons (eVar 0) aNil)) (aCons (eB bTuple (aCons (eCall c_law_tuples 1 (aCons (eB bLen (aCons (eBin oIx (eVar 0) (eC (.int 1))) aNil)) aNil)) aNil)) aNil))))) (sRet (eC (.bl false))) sNil)
    (sRet (eBin oNotIn (eC (.bl false)) k_law_right_1)))
noncomputable def c_law_right : Cv := callOf 3 m_law_right
noncomputable def b_law_1 : Sv := (sIf (tNotE (tB (eCall c_law_right 2 (aCons (eVar 6) (aCons (eCall c_law_tuples 1 (aCons (eB bLen (aCons (eBin oIx (eVar 6) (eC (.int 1))) aNil)) aNil)) aNil))))) (sRet (eC (.bl false))) sNil)
noncomputable def l_law_1 : Sv := sFor (iE (eLst (aCons (eVar 4) (aCons (eVar 5) (aCons (eTup (aCons (eVar 3) (aCons (eTup aNil) aNil))) (aCons (eVar 4) aNil)))))) (gN 6) b_law_1
noncomputable def b_law_2 : Sv := (sSeq (sSet 4 (eCall c_law_maybe_of 3 (aCons (eVar 1) (aCons (eVar 3) (aCons (eC (.int 4)) aNil)))))
    (sSeq (sSet 5 (eCall c_law_maybe_of 3 (aCons (eVar 1) (aCons (eVar 3) (aCons (eC (.int 4)) aNil)))))
    l_law_1))
noncomputable def l_law_2 : Sv := sFor (iE (eVar 2)) (gN 3) b_law_2
noncomputable def k_law_1 : Ev := eLc (iRange1 (aCons (eB bLen (aCons (eBin oIx (eVar 7) (eC (.int 1))) aNil)) aNil)) [11] (gN 11) tYesE (eVar 11)
noncomputable def k_law_2 : Ev := eLc (iRange1 (aCons (eC (.int 8)) aNil)) [11] (gN 11) tYesE (eCall c_law_take 2 (aCons (eVar 1) (aCons (eC (.int 2)) aNil)))
noncomputable def b_law_3 : Sv := (sExp (eM "list" mAppend (eVar 9) (aCons (eB bTuple (aCons k_law_2 aNil)) aNil)))
noncomputable def l_law_3 : Sv := sFor (iRange1 (aCons (eC (.int 4)) aNil)) (gN 10) b_law_3
noncomputable def m_law : Sv := (sSeq (sSet 1 (eAl (eCallO c_law_draws 2 (aCons (eVar 0) (aCons (eC (.int 700)) aNil)))))
    (sSeq (sSet 2 (eCall c_law_boards 3 (aCons (eVar 1) (aCons (eC (.int 5)) (aCons (eC (.int 6)) aNil)))))
    (sSeq l_law_2
    (sSeq (sSet 7 (eCall c_law_great_board 1 (aCons (eVar 1) aNil)))
    (sSeq (sSet 8 (eCall c_law_shuffled 2 (aCons (eVar 1) (aCons k_law_1 aNil))))
    (sSeq (sSet 9 (eAl (eLst (aCons (eBin oMul (eTup (aCons (eC (.int 1)) aNil)) (eC (.int 8))) (aCons (eBin oMul (eTup (aCons (eC (.int 0)) aNil)) (eC (.int 8))) aNil)))))
    (sSeq l_law_3
    (sRet (eCall c_law_right 2 (aCons (eTup (aCons (eVar 7) (aCons (eB bTuple (aCons (eB bSortI (aCons (eSl slD (eVar 8) oNo (oSo (eC (.int 8)))) aNil)) aNil)) aNil))) (aCons (eVar 9) aNil)))))))))))
noncomputable def c_law : Cv := callOf 12 m_law
structure Txt (K : PySem.W.Frag) (mg : Str → Option Value) (a : Nat → Addr) (fd : Nat → FuncData) : Prop where
  g_law_draws : mg "_law_draws" = some (.ref (a 0))
  F_law_draws : FnP K "_law_draws" "_law_draws" s_law_draws (a 0) (fd 0)
  b_law_draws : Binds K (fd 0) ["script", "many"] []
  g_law_take : mg "_law_take" = some (.ref (a 1))
  F_law_take : FnP K "_law_take" "_law_take" s_law_take (a 1) (fd 1)
  b_law_take : Binds K (fd 1) ["draws", "many"] []
  g_law_shuffled : mg "_law_shuffled" = some (.ref (a 2))
  F_law_shuffled : FnP K "_law_shuffled" "_law_shuffled" s_law_shuffled (a 2) (fd 2)
  b_law_shuffled : Binds K (fd 2) ["draws", "row"] []
  g_law_pick : mg "_law_pick" = some (.ref (a 3))
  F_law_pick : FnP K "_law_pick" "_law_pick" s_law_pick (a 3) (fd 3)
  b_law_pick : Binds K (fd 3) ["draws", "row"] []
  g_law_words : mg "_law_words" = some (.ref (a 4))
  F_law_words : FnP K "_law_words" "_law_words" s_law_words (a 4) (fd 4)
  b_law_words : Binds K (fd 4) ["draws", "many"] []
  g_law_value_key : mg "_law_value_key" = some (.ref (a 5))
  F_law_value_key : FnP K "_law_value_key" "_law_value_key" s_law_value_key (a 5) (fd 5)
  b_law_value_key : Binds K (fd 5) ["value"] []
  g_law_row_key : mg "_law_row_key" = some (.ref (a 6))
  F_law_row_key : FnP K "_law_row_key" "_law_row_key" s_law_row_key (a 6) (fd 6)
  b_law_row_key : Binds K (fd 6) ["row"] []
  g_law_statement_key : mg "_law_statement_key" = some (.ref (a 7))
  F_law_statement_key : FnP K "_law_statement_key" "_law_statement_key" s_law_statement_key (a 7) (fd 7)
  b_law_statement_key : Binds K (fd 7) ["statement"] []
  g_law_set : mg "_law_set" = some (.ref (a 8))
  F_law_set : FnP K "_law_set" "_law_set" s_law_set (a 8) (fd 8)
  b_law_set : Binds K (fd 8) ["statements"] []
  g_law_value : mg "_law_value" = some (.ref (a 9))
  F_law_value : FnP K "_law_value" "_law_value" s_law_value (a 9) (fd 9)
  b_law_value : Binds K (fd 9) ["draws", "words"] []
  g_law_pieces : mg "_law_pieces" = some (.ref (a 10))
  F_law_pieces : FnP K "_law_pieces" "_law_pieces" s_law_pieces (a 10) (fd 10)
  b_law_pieces : Binds K (fd 10) ["draws", "many"] []
  g_law_support : mg "_law_support" = some (.ref (a 11))
  F_law_support : FnP K "_law_support" "_law_support" s_law_support (a 11) (fd 11)
  b_law_support : Binds K (fd 11) ["draws", "pieces"] []
  g_law_raw : mg "_law_raw" = some (.ref (a 12))
  F_law_raw : FnP K "_law_raw" "_law_raw" s_law_raw (a 12) (fd 12)
  b_law_raw : Binds K (fd 12) ["draws", "pieces", "most"] []
  g_law_shape : mg "_law_shape" = some (.ref (a 13))
  F_law_shape : FnP K "_law_shape" "_law_shape" s_law_shape (a 13) (fd 13)
  b_law_shape : Binds K (fd 13) ["draws", "pieces"] []
  g_law_set_key : mg "_law_set_key" = some (.ref (a 14))
  F_law_set_key : FnP K "_law_set_key" "_law_set_key" s_law_set_key (a 14) (fd 14)
  b_law_set_key : Binds K (fd 14) ["statements"] []
  g_law_within : mg "_law_within" = some (.ref (a 15))
  F_law_within : FnP K "_law_within" "_law_within" s_law_within (a 15) (fd 15)
  b_law_within : Binds K (fd 15) ["part", "whole"] []
  g_law_thinned : mg "_law_thinned" = some (.ref (a 16))
  F_law_thinned : FnP K "_law_thinned" "_law_thinned" s_law_thinned (a 16) (fd 16)
  b_law_thinned : Binds K (fd 16) ["sets"] []
  g_law_board_of_raw : mg "_law_board_of_raw" = some (.ref (a 17))
  F_law_board_of_raw : FnP K "_law_board_of_raw" "_law_board_of_raw" s_law_board_of_raw (a 17) (fd 17)
  b_law_board_of_raw : Binds K (fd 17) ["pieces", "raw"] []
  g_law_sure_board : mg "_law_sure_board" = some (.ref (a 18))
  F_law_sure_board : FnP K "_law_sure_board" "_law_sure_board" s_law_sure_board (a 18) (fd 18)
  b_law_sure_board : Binds K (fd 18) ["draws"] []
  g_law_boards : mg "_law_boards" = some (.ref (a 19))
  F_law_boards : FnP K "_law_boards" "_law_boards" s_law_boards (a 19) (fd 19)
  b_law_boards : Binds K (fd 19) ["draws", "many", "most"] []
  g_law_great_board : mg "_law_great_board" = some (.ref (a 20))
  F_law_great_board : FnP K "_law_great_board" "_law_great_board" s_law_great_board (a 20) (fd 20)
  b_law_great_board : Binds K (fd 20) ["draws"] []
  g_law_maybe_of : mg "_law_maybe_of" = some (.ref (a 21))
  F_law_maybe_of : FnP K "_law_maybe_of" "_law_maybe_of" s_law_maybe_of (a 21) (fd 21)
  b_law_maybe_of : Binds K (fd 21) ["draws", "board", "most"] []
  g_law_tuples : mg "_law_tuples" = some (.ref (a 22))
  F_law_tuples : FnP K "_law_tuples" "_law_tuples" s_law_tuples (a 22) (fd 22)
  b_law_tuples : Binds K (fd 22) ["many"] []
  g_completions : mg "completions" = some (.ref (a 23))
  F_completions : FnP K "completions" "completions" s_completions (a 23) (fd 23)
  b_completions : Binds K (fd 23) ["maybe_board"] []
  g_board_of_attacks : mg "board_of_attacks" = some (.ref (a 24))
  F_board_of_attacks : FnP K "board_of_attacks" "board_of_attacks" s_board_of_attacks (a 24) (fd 24)
  b_board_of_attacks : Binds K (fd 24) ["board", "kept"] []
  g_completed : mg "completed" = some (.ref (a 25))
  F_completed : FnP K "completed" "completed" s_completed (a 25) (fd 25)
  b_completed : Binds K (fd 25) ["maybe_board", "completion"] []
  g_law_same : mg "_law_same" = some (.ref (a 26))
  F_law_same : FnP K "_law_same" "_law_same" s_law_same (a 26) (fd 26)
  b_law_same : Binds K (fd 26) ["actual", "due"] []
  g_law_completed : mg "_law_completed" = some (.ref (a 27))
  F_law_completed : FnP K "_law_completed" "_law_completed" s_law_completed (a 27) (fd 27)
  b_law_completed : Binds K (fd 27) ["maybe_board", "completion"] []
  g_law_right : mg "_law_right" = some (.ref (a 28))
  F_law_right : FnP K "_law_right" "_law_right" s_law_right (a 28) (fd 28)
  b_law_right : Binds K (fd 28) ["maybe_board", "asked"] []
  g_law : mg "law" = some (.ref (a 29))
  F_law : FnP K "law" "law" s_law (a 29) (fd 29)
  b_law : Binds K (fd 29) ["script"] []
  z_int : mg "int" = none
  z_len : mg "len" = none
  z_list : mg "list" = none
  z_range : mg "range" = none
  z_max : mg "max" = none
  z_str : mg "str" = none
  z_isinstance : mg "isinstance" = none
  z_tuple : mg "tuple" = none
  z_sorted : mg "sorted" = none
  z_zip : mg "zip" = none
  z_bool : mg "bool" = none
theorem sc_law_draws : FnScope ["script", "many", "cells", "left", "draws", "k", "place", "mixed", "cell"] ["script", "many"] (defScope s_law_draws) := ⟨rfl, rfl, rfl, by decide +kernel, rfl, by decide +kernel, by decide +kernel⟩
theorem ok_law_draws {P : Program} {w : World} {K : PySem.W.Frag} {mg : Str → Option Value} {base : Heap} {a : Nat → Addr} {fd : Nat → FuncData} (T : Txt K mg a fd) : FnOk P w K mg base CX0 1 (a 0) (fd 0) ["script", "many"] (spOf ⟨P, w, K, fa a⟩ c_law_draws 2) :=
  fn_ruleD (fa := fa a) (k := 0) T.F_law_draws sc_law_draws fun cdv A outer s H E hr => (sss_cons (ss_setLcA (i := 2) rfl sc_law_draws.nd rfl rfl rfl (si_seq (sv 0)) (blkOk_by (own := [("cell", 8)]) (by kernel_rfl)) (fun _ _ _ _ _ => (sg_name sc_law_draws.nd (i := 8) rfl (by first | exact Or.inl rfl | exact Or.inr rfl))) (by decide) (fun _ _ _ _ _ => sts_nil) (fun _ _ _ _ _ => (se_callTy call_int1 sem_int (by rfl) T.z_int rfl (sa_cons (sv 8) sa_nil))))
    (sss_cons (ss_if (st_eq hr (se_callB call_len sem_len (by rfl) T.z_len rfl (sa_cons (sv 2) sa_nil)) se_int) (sss_one (ss_expr (se_bm PySem.F.plainAttrs_list PySem.F.slot_list_append PySem.F.type_list_append mt_append sem_append (sv 2) (sa_cons se_int sa_nil)))) sss_nil)
    (sss_cons (ss_set sc_law_draws.nd (i := 3) rfl (by first | exact Or.inl rfl | exact Or.inr rfl) (SEm.al (se_callTy call_list_of sem_list (by rfl) T.z_list rfl (sa_cons (sv 2) sa_nil))))
    (sss_cons (ss_set sc_law_draws.nd (i := 4) rfl (by first | exact Or.inl rfl | exact Or.inr rfl) (SEm.al (se_lst sa_nil (al_sz (n := 0) (by decide) al_nil))))
    (sss_cons (ss_for PassesOwn.never rfl (si_range1 (by rfl) T.z_range (sa_cons (sv 1) sa_nil)) (sg_name sc_law_draws.nd (i := 5) rfl (by first | exact Or.inl rfl | exact Or.inr rfl)) (sss_cons (ss_set sc_law_draws.nd (i := 6) rfl (by first | exact Or.inl rfl | exact Or.inr rfl) (se_mod (sv 5) (se_callB call_len sem_len (by rfl) T.z_len rfl (sa_cons (sv 2) sa_nil))))
    (sss_one (ss_if (STw.st (sw_and (st_ge (se_ix (sv 2) (sv 6)) (se_pow se_int se_int)) (sw_and1 (st_gt (se_ix (sv 3) (sv 6)) se_int)))) (sss_cons (ss_expr (se_bm PySem.F.plainAttrs_list PySem.F.slot_list_append PySem.F.type_list_append mt_append sem_append (sv 4) (sa_cons (se_mod (se_callTy call_int1 sem_int (by rfl) T.z_int rfl (sa_cons (se_ix (sv 3) (sv 6)) sa_nil)) se_int) sa_nil)))
    (sss_one (ss_setI (se_fdiv (se_ix (sv 3) (sv 6)) se_int) (sv 3) (sv 6)))) (sss_cons (ss_set sc_law_draws.nd (i := 7) rfl (by first | exact Or.inl rfl | exact Or.inr rfl) (se_mod (se_callTy call_int1 sem_int (by rfl) T.z_int rfl (sa_cons (se_add (se_add (se_mul (se_ix (sv 2) (sv 6)) se_int) (se_mul (sv 5) se_int)) se_int) sa_nil)) se_int))
    (sss_one (ss_expr (se_bm PySem.F.plainAttrs_list PySem.F.slot_list_append PySem.F.type_list_append mt_append sem_append (sv 4) (sa_cons (se_mod (se_callTy call_int1 sem_int (by rfl) T.z_int rfl (sa_cons (se_add (se_add (se_mul (sv 7) (sv 7)) (se_mul se_int (sv 7))) (sv 5)) sa_nil)) se_int) sa_nil)))))))))
    (sss_cons (ss_expr (se_bm0 PySem.F.plainAttrs_list PySem.F.slot_list_reverse PySem.F.type_list_reverse mt_reverse sem_reverse (sv 4)))
    (sss_one (ss_ret (sv 4)))))))))
theorem sc_law_take : FnScope ["draws", "many"] ["draws", "many"] (defScope s_law_take) := ⟨rfl, rfl, rfl, by decide +kernel, rfl, by decide +kernel, by decide +kernel⟩
theorem ok_law_take {P : Program} {w : World} {K : PySem.W.Frag} {mg : Str → Option Value} {base : Heap} {a : Nat → Addr} {fd : Nat → FuncData} (T : Txt K mg a fd) : FnOk P w K mg base CX0 1 (a 1) (fd 1) ["draws", "many"] (spOf ⟨P, w, K, fa a⟩ c_law_take 2) :=
  fn_ruleD (fa := fa a) (k := 0) T.F_law_take sc_law_take fun cdv A outer s H E hr => (sss_cons (ss_if (st_eq hr (se_callB call_len sem_len (by rfl) T.z_len rfl (sa_cons (sv 0) sa_nil)) se_int) (sss_one (ss_ret se_int)) sss_nil)
    (sss_one (ss_ret (se_mod (se_callTy call_int1 sem_int (by rfl) T.z_int rfl (sa_cons (se_bm0 PySem.F.plainAttrs_list PySem.F.slot_list_pop PySem.F.type_list_pop mt_pop sem_pop (sv 0)) sa_nil)) (sv 1)))))
theorem sc_law_shuffled : FnScope ["draws", "row", "left", "found", "k"] ["draws", "row"] (defScope s_law_shuffled) := ⟨rfl, rfl, rfl, by decide +kernel, rfl, by decide +kernel, by decide +kernel⟩
theorem ok_law_shuffled {P : Program} {w : World} {K : PySem.W.Frag} {mg : Str → Option Value} {base : Heap} {a : Nat → Addr} {fd : Nat → FuncData} (T : Txt K mg a fd) : FnOk P w K mg base CX0 2 (a 2) (fd 2) ["draws", "row"] (spOf ⟨P, w, K, fa a⟩ c_law_shuffled 2) :=
  fn_ruleD (fa := fa a) (k := 1) T.F_law_shuffled sc_law_shuffled fun cdv A outer s H E hr => (sss_cons (ss_set sc_law_shuffled.nd (i := 2) rfl (by first | exact Or.inl rfl | exact Or.inr rfl) (SEm.al (se_callTy call_list_of sem_list (by rfl) T.z_list rfl (sa_cons (sv 1) sa_nil))))
    (sss_cons (ss_set sc_law_shuffled.nd (i := 3) rfl (by first | exact Or.inl rfl | exact Or.inr rfl) (SEm.al (se_lst sa_nil (al_sz (n := 0) (by decide) al_nil))))
    (sss_cons (ss_for PassesOwn.never rfl (si_range1 (by rfl) T.z_range (sa_cons (se_callB call_len sem_len (by rfl) T.z_len rfl (sa_cons (sv 1) sa_nil)) sa_nil)) (sg_name sc_law_shuffled.nd (i := 4) rfl (by first | exact Or.inl rfl | exact Or.inr rfl)) (sss_one (ss_expr (se_bm PySem.F.plainAttrs_list PySem.F.slot_list_append PySem.F.type_list_append mt_append sem_append (sv 3) (sa_cons (se_bm PySem.F.plainAttrs_list PySem.F.slot_list_pop PySem.F.type_list_pop mt_popAt sem_popAt (sv 2) (sa_cons (se_call (ps := ["draws", "many"]) (ok_law_take T) (hr.mono (by decide)) (by rfl) T.g_law_take T.F_law_take.kp T.b_law_take (sa_cons (sv 0) (sa_cons (se_callB call_len sem_len (by rfl) T.z_len rfl (sa_cons (sv 2) sa_nil)) sa_nil))) sa_nil)) sa_nil)))))
    (sss_one (ss_ret (sv 3))))))
theorem sc_law_pick : FnScope ["draws", "row"] ["draws", "row"] (defScope s_law_pick) := ⟨rfl, rfl, rfl, by decide +kernel, rfl, by decide +kernel, by decide +kernel⟩
theorem ok_law_pick {P : Program} {w : World} {K : PySem.W.Frag} {mg : Str → Option Value} {base : Heap} {a : Nat → Addr} {fd : Nat → FuncData} (T : Txt K mg a fd) : FnOk P w K mg base CX0 2 (a 3) (fd 3) ["draws", "row"] (spOf ⟨P, w, K, fa a⟩ c_law_pick 2) :=
  fn_ruleD (fa := fa a) (k := 1) T.F_law_pick sc_law_pick fun cdv A outer s H E hr => (sss_one (ss_ret (se_ix (sv 1) (se_call (ps := ["draws", "many"]) (ok_law_take T) (hr.mono (by decide)) (by rfl) T.g_law_take T.F_law_take.kp T.b_law_take (sa_cons (sv 0) (sa_cons (se_callB call_len sem_len (by rfl) T.z_len rfl (sa_cons (sv 1) sa_nil)) sa_nil))))))
theorem sc_law_words : FnScope ["draws", "many", "words", "k", "size", "word", "j", "other"] ["draws", "many"] (defScope s_law_words) := ⟨rfl, rfl, rfl, by decide +kernel, rfl, by decide +kernel, by decide +kernel⟩
theorem ok_law_words {P : Program} {w : World} {K : PySem.W.Frag} {mg : Str → Option Value} {base : Heap} {a : Nat → Addr} {fd : Nat → FuncData} (T : Txt K mg a fd) : FnOk P w K mg base CX0 2 (a 4) (fd 4) ["draws", "many"] (spOf ⟨P, w, K, fa a⟩ c_law_words 2) :=
  fn_ruleD (fa := fa a) (k := 1) T.F_law_words sc_law_words fun cdv A outer s H E hr => (sss_cons (ss_set sc_law_words.nd (i := 2) rfl (by first | exact Or.inl rfl | exact Or.inr rfl) (SEm.al (se_lst sa_nil (al_sz (n := 0) (by decide) al_nil))))
    (sss_cons (ss_for PassesOwn.never rfl (si_range1 (by rfl) T.z_range (sa_cons (sv 1) sa_nil)) (sg_name sc_law_words.nd (i := 3) rfl (by first | exact Or.inl rfl | exact Or.inr rfl)) (sss_cons (ss_set sc_law_words.nd (i := 4) rfl (by first | exact Or.inl rfl | exact Or.inr rfl) (se_add se_int (se_call (ps := ["draws", "many"]) (ok_law_take T) (hr.mono (by decide)) (by rfl) T.g_law_take T.F_law_take.kp T.b_law_take (sa_cons (sv 0) (sa_cons se_int sa_nil)))))
    (sss_cons (ss_if (st_eq hr (se_call (ps := ["draws", "many"]) (ok_law_take T) (hr.mono (by decide)) (by rfl) T.g_law_take T.F_law_take.kp T.b_law_take (sa_cons (sv 0) (sa_cons se_int sa_nil))) se_int) (sss_one (ss_set sc_law_words.nd (i := 4) rfl (by first | exact Or.inl rfl | exact Or.inr rfl) (se_add (se_add (sv 4) se_int) (se_call (ps := ["draws", "many"]) (ok_law_take T) (hr.mono (by decide)) (by rfl) T.g_law_take T.F_law_take.kp T.b_law_take (sa_cons (sv 0) (sa_cons se_int sa_nil)))))) sss_nil)
    (sss_cons (ss_set sc_law_words.nd (i := 5) rfl (by first | exact Or.inl rfl | exact Or.inr rfl) (se_bm PySem.F.plainAttrs_str PySem.F.slot_str_join PySem.F.type_str_join mt_join sem_join se_str (sa_cons (se_lc rfl sc_law_words.nd (si_range1 (by rfl) T.z_range (sa_cons (sv 4) sa_nil)) (blkOk_by (own := [("j", 6)]) (by kernel_rfl)) (fun _ _ _ _ _ => (sg_name sc_law_words.nd (i := 6) rfl (by first | exact Or.inl rfl | exact Or.inr rfl))) (by decide) (fun _ _ _ _ _ => sts_nil) (fun _ _ _ _ _ => (se_ix se_str (se_call (ps := ["draws", "many"]) (ok_law_take T) (hr.mono (by decide)) (by rfl) T.g_law_take T.F_law_take.kp T.b_law_take (sa_cons (sv 0) (sa_cons se_int sa_nil)))))) sa_nil)))
    (sss_cons (ss_if (STw.st (sw_or (st_in hr (sv 5) (sv 2)) (sw_or1 (st_in hr (sv 5) (se_lst (sa_cons se_str (sa_cons se_str (sa_cons se_str (sa_cons se_str sa_nil)))) (al_sz (n := 4) (by decide) (al_cons (al_cons (al_cons (al_cons al_nil)))))))))) (sss_one (ss_set sc_law_words.nd (i := 5) rfl (by first | exact Or.inl rfl | exact Or.inr rfl) (se_mul se_str (se_add se_int (se_callB (cr_max rfl) sem_max (by rfl) T.z_max rfl (sa_cons (se_add (se_lst (sa_cons se_int sa_nil) (al_sz (n := 1) (by decide) (al_cons al_nil))) (se_lc rfl sc_law_words.nd (si_seq (sv 2)) (blkOk_by (own := [("other", 7)]) (by kernel_rfl)) (fun _ _ _ _ _ => (sg_name sc_law_words.nd (i := 7) rfl (by first | exact Or.inl rfl | exact Or.inr rfl))) (by decide) (fun _ _ _ _ _ => sts_nil) (fun _ _ _ _ _ => (se_callB call_len sem_len (by rfl) T.z_len rfl (sa_cons (sv 7) sa_nil))))) sa_nil)))))) sss_nil)
    (sss_one (ss_expr (se_bm PySem.F.plainAttrs_list PySem.F.slot_list_append PySem.F.type_list_append mt_append sem_append (sv 2) (sa_cons (sv 5) sa_nil)))))))))
    (sss_one (ss_ret (sv 2)))))
theorem sc_law_value_key : FnScope ["value"] ["value"] (defScope s_law_value_key) := ⟨rfl, rfl, rfl, by decide +kernel, rfl, by decide +kernel, by decide +kernel⟩
theorem ok_law_value_key {P : Program} {w : World} {K : PySem.W.Frag} {mg : Str → Option Value} {base : Heap} {a : Nat → Addr} {fd : Nat → FuncData} (T : Txt K mg a fd) : FnOk P w K mg base CX0 1 (a 5) (fd 5) ["value"] (spOf ⟨P, w, K, fa a⟩ c_law_value_key 1) :=
  fn_ruleD (fa := fa a) (k := 0) T.F_law_value_key sc_law_value_key fun cdv A outer s H E hr => (sss_cons (ss_if (st_val (se_callB cr_isi sem_isi (by rfl) T.z_isinstance rfl (sa_cons (sv 0) (sa_cons (se_ty (by rfl) T.z_str rfl) sa_nil)))) (sss_one (ss_ret (se_tup (sa_cons se_int (sa_cons se_int (sa_cons (sv 0) sa_nil))) (al_sz (n := 3) (by decide) (al_cons (al_cons (al_cons al_nil))))))) sss_nil)
    (sss_one (ss_ret (se_tup (sa_cons se_int (sa_cons (sv 0) (sa_cons se_str sa_nil))) (al_sz (n := 3) (by decide) (al_cons (al_cons (al_cons al_nil))))))))
theorem sc_law_row_key : FnScope ["row", "value"] ["row"] (defScope s_law_row_key) := ⟨rfl, rfl, rfl, by decide +kernel, rfl, by decide +kernel, by decide +kernel⟩
theorem ok_law_row_key {P : Program} {w : World} {K : PySem.W.Frag} {mg : Str → Option Value} {base : Heap} {a : Nat → Addr} {fd : Nat → FuncData} (T : Txt K mg a fd) : FnOk P w K mg base CX0 2 (a 6) (fd 6) ["row"] (spOf ⟨P, w, K, fa a⟩ c_law_row_key 1) :=
  fn_ruleD (fa := fa a) (k := 1) T.F_law_row_key sc_law_row_key fun cdv A outer s H E hr => (sss_one (ss_ret (se_callTy call_tuple_of sem_tuple (by rfl) T.z_tuple rfl (sa_cons (se_lc rfl sc_law_row_key.nd (si_seq (sv 0)) (blkOk_by (own := [("value", 1)]) (by kernel_rfl)) (fun _ _ _ _ _ => (sg_name sc_law_row_key.nd (i := 1) rfl (by first | exact Or.inl rfl | exact Or.inr rfl))) (by decide) (fun _ _ _ _ _ => sts_nil) (fun _ _ _ _ _ => (se_call (ps := ["value"]) (ok_law_value_key T) (hr.mono (by decide)) (by rfl) T.g_law_value_key T.F_law_value_key.kp T.b_law_value_key (sa_cons (sv 1) sa_nil)))) sa_nil))))
theorem sc_law_statement_key : FnScope ["statement"] ["statement"] (defScope s_law_statement_key) := ⟨rfl, rfl, rfl, by decide +kernel, rfl, by decide +kernel, by decide +kernel⟩
theorem ok_law_statement_key {P : Program} {w : World} {K : PySem.W.Frag} {mg : Str → Option Value} {base : Heap} {a : Nat → Addr} {fd : Nat → FuncData} (T : Txt K mg a fd) : FnOk P w K mg base CX0 3 (a 7) (fd 7) ["statement"] (spOf ⟨P, w, K, fa a⟩ c_law_statement_key 1) :=
  fn_ruleD (fa := fa a) (k := 2) T.F_law_statement_key sc_law_statement_key fun cdv A outer s H E hr => (sss_one (ss_ret (se_tup (sa_cons (se_ix (sv 0) se_int) (sa_cons (se_call (ps := ["row"]) (ok_law_row_key T) (hr.mono (by decide)) (by rfl) T.g_law_row_key T.F_law_row_key.kp T.b_law_row_key (sa_cons (se_ix (sv 0) se_int) sa_nil)) sa_nil)) (al_sz (n := 2) (by decide) (al_cons (al_cons al_nil))))))
theorem sc_law_set : FnScope ["statements", "found", "statement"] ["statements"] (defScope s_law_set) := ⟨rfl, rfl, rfl, by decide +kernel, rfl, by decide +kernel, by decide +kernel⟩
theorem ok_law_set {P : Program} {w : World} {K : PySem.W.Frag} {mg : Str → Option Value} {base : Heap} {a : Nat → Addr} {fd : Nat → FuncData} (T : Txt K mg a fd) : FnOk P w K mg base CX0 6 (a 8) (fd 8) ["statements"] (spOf ⟨P, w, K, fa a⟩ c_law_set 1) :=
  fn_ruleD (fa := fa a) (k := 5) T.F_law_set sc_law_set fun cdv A outer s H E hr => (sss_cons (ss_set sc_law_set.nd (i := 1) rfl (by first | exact Or.inl rfl | exact Or.inr rfl) (SEm.al (se_lst sa_nil (al_sz (n := 0) (by decide) al_nil))))
    (sss_cons (ss_for PassesOwn.never rfl (si_seq (se_sortK (ok_law_statement_key T) (hr.mono (by decide)) T.b_law_statement_key (by rfl) T.z_sorted (by rfl) T.g_law_statement_key (sv 0))) (sg_name sc_law_set.nd (i := 2) rfl (by first | exact Or.inl rfl | exact Or.inr rfl)) (sss_one (ss_if (STw.st (sw_or (st_eq hr (se_callB call_len sem_len (by rfl) T.z_len rfl (sa_cons (sv 1) sa_nil)) se_int) (sw_or1 (st_ne hr (se_ix (sv 1) (se_neg se_int)) (sv 2))))) (sss_one (ss_expr (se_bm PySem.F.plainAttrs_list PySem.F.slot_list_append PySem.F.type_list_append mt_append sem_append (sv 1) (sa_cons (sv 2) sa_nil)))) sss_nil)))
    (sss_one (ss_ret (se_callTy call_tuple_of sem_tuple (by rfl) T.z_tuple rfl (sa_cons (sv 1) sa_nil))))))
theorem sc_law_value : FnScope ["draws", "words", "kind"] ["draws", "words"] (defScope s_law_value) := ⟨rfl, rfl, rfl, by decide +kernel, rfl, by decide +kernel, by decide +kernel⟩
theorem ok_law_value {P : Program} {w : World} {K : PySem.W.Frag} {mg : Str → Option Value} {base : Heap} {a : Nat → Addr} {fd : Nat → FuncData} (T : Txt K mg a fd) : FnOk P w K mg base CX0 3 (a 9) (fd 9) ["draws", "words"] (spOf ⟨P, w, K, fa a⟩ c_law_value 2) :=
  fn_ruleD (fa := fa a) (k := 2) T.F_law_value sc_law_value fun cdv A outer s H E hr => (sss_cons (ss_set sc_law_value.nd (i := 2) rfl (by first | exact Or.inl rfl | exact Or.inr rfl) (se_call (ps := ["draws", "many"]) (ok_law_take T) (hr.mono (by decide)) (by rfl) T.g_law_take T.F_law_take.kp T.b_law_take (sa_cons (sv 0) (sa_cons se_int sa_nil))))
    (sss_cons (ss_if (st_eq hr (sv 2) se_int) (sss_one (ss_ret (se_call (ps := ["draws", "row"]) (ok_law_pick T) (hr.mono (by decide)) (by rfl) T.g_law_pick T.F_law_pick.kp T.b_law_pick (sa_cons (sv 0) (sa_cons (sv 1) sa_nil))))) sss_nil)
    (sss_cons (ss_if (st_eq hr (sv 2) se_int) (sss_one (ss_ret (se_mul (se_sub (se_call (ps := ["draws", "many"]) (ok_law_take T) (hr.mono (by decide)) (by rfl) T.g_law_take T.F_law_take.kp T.b_law_take (sa_cons (sv 0) (sa_cons se_int sa_nil))) se_int) (se_call (ps := ["draws", "row"]) (ok_law_pick T) (hr.mono (by decide)) (by rfl) T.g_law_pick T.F_law_pick.kp T.b_law_pick (sa_cons (sv 0) (sa_cons (se_lst (sa_cons se_int (sa_cons se_int (sa_cons (se_add (se_pow se_int se_int) se_int) (sa_cons (se_add (se_pow se_int se_int) se_int) sa_nil)))) (al_sz (n := 4) (by decide) (al_cons (al_cons (al_cons (al_cons al_nil)))))) sa_nil)))))) sss_nil)
    (sss_one (ss_ret (se_sub (se_call (ps := ["draws", "many"]) (ok_law_take T) (hr.mono (by decide)) (by rfl) T.g_law_take T.F_law_take.kp T.b_law_take (sa_cons (sv 0) (sa_cons se_int sa_nil))) se_int))))))
theorem sc_law_pieces : FnScope ["draws", "many", "words", "found", "k", "row", "piece", "j"] ["draws", "many"] (defScope s_law_pieces) := ⟨rfl, rfl, rfl, by decide +kernel, rfl, by decide +kernel, by decide +kernel⟩
theorem ok_law_pieces {P : Program} {w : World} {K : PySem.W.Frag} {mg : Str → Option Value} {base : Heap} {a : Nat → Addr} {fd : Nat → FuncData} (T : Txt K mg a fd) : FnOk P w K mg base CX0 7 (a 10) (fd 10) ["draws", "many"] (spOf ⟨P, w, K, fa a⟩ c_law_pieces 2) :=
  fn_ruleD (fa := fa a) (k := 6) T.F_law_pieces sc_law_pieces fun cdv A outer s H E hr => (sss_cons (ss_set sc_law_pieces.nd (i := 2) rfl (by first | exact Or.inl rfl | exact Or.inr rfl) (se_call (ps := ["draws", "many"]) (ok_law_words T) (hr.mono (by decide)) (by rfl) T.g_law_words T.F_law_words.kp T.b_law_words (sa_cons (sv 0) (sa_cons se_int sa_nil))))
    (sss_cons (ss_set sc_law_pieces.nd (i := 3) rfl (by first | exact Or.inl rfl | exact Or.inr rfl) (SEm.al (se_lst sa_nil (al_sz (n := 0) (by decide) al_nil))))
    (sss_cons (ss_for PassesOwn.never rfl (si_range1 (by rfl) T.z_range (sa_cons (sv 1) sa_nil)) (sg_name sc_law_pieces.nd (i := 4) rfl (by first | exact Or.inl rfl | exact Or.inr rfl)) (sss_cons (ss_set sc_law_pieces.nd (i := 5) rfl (by first | exact Or.inl rfl | exact Or.inr rfl) (se_callTy call_tuple_of sem_tuple (by rfl) T.z_tuple rfl (sa_cons (se_lc rfl sc_law_pieces.nd (si_range1 (by rfl) T.z_range (sa_cons (se_call (ps := ["draws", "row"]) (ok_law_pick T) (hr.mono (by decide)) (by rfl) T.g_law_pick T.F_law_pick.kp T.b_law_pick (sa_cons (sv 0) (sa_cons (se_lst (sa_cons se_int (sa_cons se_int (sa_cons se_int (sa_cons se_int (sa_cons se_int (sa_cons se_int (sa_cons se_int sa_nil))))))) (al_sz (n := 7) (by decide) (al_cons (al_cons (al_cons (al_cons (al_cons (al_cons (al_cons al_nil))))))))) sa_nil))) sa_nil)) (blkOk_by (own := [("j", 7)]) (by kernel_rfl)) (fun _ _ _ _ _ => (sg_name sc_law_pieces.nd (i := 7) rfl (by first | exact Or.inl rfl | exact Or.inr rfl))) (by decide) (fun _ _ _ _ _ => sts_nil) (fun _ _ _ _ _ => (se_call (ps := ["draws", "words"]) (ok_law_value T) (hr.mono (by decide)) (by rfl) T.g_law_value T.F_law_value.kp T.b_law_value (sa_cons (sv 0) (sa_cons (sv 2) sa_nil))))) sa_nil)))
    (sss_cons (ss_set sc_law_pieces.nd (i := 6) rfl (by first | exact Or.inl rfl | exact Or.inr rfl) (se_tup (sa_cons (se_call (ps := ["draws", "row"]) (ok_law_pick T) (hr.mono (by decide)) (by rfl) T.g_law_pick T.F_law_pick.kp T.b_law_pick (sa_cons (sv 0) (sa_cons (se_sl (sv 2) sop_none (sop_some se_int)) sa_nil))) (sa_cons (sv 5) sa_nil)) (al_sz (n := 2) (by decide) (al_cons (al_cons al_nil)))))
    (sss_cons (ss_if (st_in hr (sv 6) (sv 3)) (sss_one (ss_set sc_law_pieces.nd (i := 6) rfl (by first | exact Or.inl rfl | exact Or.inr rfl) (se_tup (sa_cons (se_mul se_str se_int) (sa_cons (se_tup (sa_cons (sv 4) sa_nil) (al_sz (n := 1) (by decide) (al_cons al_nil))) sa_nil)) (al_sz (n := 2) (by decide) (al_cons (al_cons al_nil)))))) sss_nil)
    (sss_one (ss_expr (se_bm PySem.F.plainAttrs_list PySem.F.slot_list_append PySem.F.type_list_append mt_append sem_append (sv 3) (sa_cons (sv 6) sa_nil))))))))
    (sss_one (ss_ret (se_call (ps := ["statements"]) (ok_law_set T) (hr.mono (by decide)) (by rfl) T.g_law_set T.F_law_set.kp T.b_law_set (sa_cons (sv 3) sa_nil)))))))
theorem sc_law_support : FnScope ["draws", "pieces", "size", "k"] ["draws", "pieces"] (defScope s_law_support) := ⟨rfl, rfl, rfl, by decide +kernel, rfl, by decide +kernel, by decide +kernel⟩
theorem ok_law_support {P : Program} {w : World} {K : PySem.W.Frag} {mg : Str → Option Value} {base : Heap} {a : Nat → Addr} {fd : Nat → FuncData} (T : Txt K mg a fd) : FnOk P w K mg base CX0 7 (a 11) (fd 11) ["draws", "pieces"] (spOf ⟨P, w, K, fa a⟩ c_law_support 2) :=
  fn_ruleD (fa := fa a) (k := 6) T.F_law_support sc_law_support fun cdv A outer s H E hr => (sss_cons (ss_set sc_law_support.nd (i := 2) rfl (by first | exact Or.inl rfl | exact Or.inr rfl) (se_call (ps := ["draws", "row"]) (ok_law_pick T) (hr.mono (by decide)) (by rfl) T.g_law_pick T.F_law_pick.kp T.b_law_pick (sa_cons (sv 0) (sa_cons (se_lst (sa_cons se_int (sa_cons se_int (sa_cons se_int (sa_cons se_int (sa_cons se_int (sa_cons se_int (sa_cons se_int (sa_cons se_int (sa_cons se_int (sa_cons se_int (sa_cons se_int (sa_cons se_int (sa_cons se_int (sa_cons se_int (sa_cons se_int (sa_cons se_int sa_nil)))))))))))))))) (al_sz (n := 16) (by decide) (al_cons (al_cons (al_cons (al_cons (al_cons (al_cons (al_cons (al_cons (al_cons (al_cons (al_cons (al_cons (al_cons (al_cons (al_cons (al_cons al_nil)))))))))))))))))) sa_nil))))
    (sss_one (ss_ret (se_call (ps := ["statements"]) (ok_law_set T) (hr.mono (by decide)) (by rfl) T.g_law_set T.F_law_set.kp T.b_law_set (sa_cons (se_lc rfl sc_law_support.nd (si_range1 (by rfl) T.z_range (sa_cons (sv 2) sa_nil)) (blkOk_by (own := [("k", 3)]) (by kernel_rfl)) (fun _ _ _ _ _ => (sg_name sc_law_support.nd (i := 3) rfl (by first | exact Or.inl rfl | exact Or.inr rfl))) (by decide) (fun _ _ _ _ _ => sts_nil) (fun _ _ _ _ _ => (se_call (ps := ["draws", "row"]) (ok_law_pick T) (hr.mono (by decide)) (by rfl) T.g_law_pick T.F_law_pick.kp T.b_law_pick (sa_cons (sv 0) (sa_cons (sv 1) sa_nil))))) sa_nil)))))
theorem sc_law_raw : FnScope ["draws", "pieces", "most", "found", "k"] ["draws", "pieces", "most"] (defScope s_law_raw) := ⟨rfl, rfl, rfl, by decide +kernel, rfl, by decide +kernel, by decide +kernel⟩
theorem ok_law_raw {P : Program} {w : World} {K : PySem.W.Frag} {mg : Str → Option Value} {base : Heap} {a : Nat → Addr} {fd : Nat → FuncData} (T : Txt K mg a fd) : FnOk P w K mg base CX0 8 (a 12) (fd 12) ["draws", "pieces", "most"] (spOf ⟨P, w, K, fa a⟩ c_law_raw 3) :=
  fn_ruleD (fa := fa a) (k := 7) T.F_law_raw sc_law_raw fun cdv A outer s H E hr => (sss_cons (ss_set sc_law_raw.nd (i := 3) rfl (by first | exact Or.inl rfl | exact Or.inr rfl) (SEm.al (se_lst sa_nil (al_sz (n := 0) (by decide) al_nil))))
    (sss_cons (ss_for PassesOwn.never rfl (si_range1 (by rfl) T.z_range (sa_cons (se_mul (se_call (ps := ["draws", "many"]) (ok_law_take T) (hr.mono (by decide)) (by rfl) T.g_law_take T.F_law_take.kp T.b_law_take (sa_cons (sv 0) (sa_cons (se_add (sv 2) se_int) sa_nil))) (se_callTy call_int1 sem_int (by rfl) T.z_int rfl (sa_cons (se_gt (se_callB call_len sem_len (by rfl) T.z_len rfl (sa_cons (sv 1) sa_nil)) se_int) sa_nil))) sa_nil)) (sg_name sc_law_raw.nd (i := 4) rfl (by first | exact Or.inl rfl | exact Or.inr rfl)) (sss_one (ss_expr (se_bm PySem.F.plainAttrs_list PySem.F.slot_list_append PySem.F.type_list_append mt_append sem_append (sv 3) (sa_cons (se_tup (sa_cons (se_call (ps := ["draws", "pieces"]) (ok_law_support T) (hr.mono (by decide)) (by rfl) T.g_law_support T.F_law_support.kp T.b_law_support (sa_cons (sv 0) (sa_cons (sv 1) sa_nil))) (sa_cons (se_call (ps := ["draws", "row"]) (ok_law_pick T) (hr.mono (by decide)) (by rfl) T.g_law_pick T.F_law_pick.kp T.b_law_pick (sa_cons (sv 0) (sa_cons (sv 1) sa_nil))) sa_nil)) (al_sz (n := 2) (by decide) (al_cons (al_cons al_nil)))) sa_nil)))))
    (sss_one (ss_ret (sv 3)))))
theorem sc_law_shape : FnScope ["draws", "pieces", "order", "many", "chain", "pairs", "fans", "floats", "teams", "shape", "fits", "k", "pair", "j"] ["draws", "pieces"] (defScope s_law_shape) := ⟨rfl, rfl, rfl, by decide +kernel, rfl, by decide +kernel, by decide +kernel⟩
theorem ok_law_shape {P : Program} {w : World} {K : PySem.W.Frag} {mg : Str → Option Value} {base : Heap} {a : Nat → Addr} {fd : Nat → FuncData} (T : Txt K mg a fd) : FnOk P w K mg base CX0 7 (a 13) (fd 13) ["draws", "pieces"] (spOf ⟨P, w, K, fa a⟩ c_law_shape 2) :=
  fn_ruleD (fa := fa a) (k := 6) T.F_law_shape sc_law_shape fun cdv A outer s H E hr => (sss_cons (ss_set sc_law_shape.nd (i := 2) rfl (by first | exact Or.inl rfl | exact Or.inr rfl) (se_call (ps := ["draws", "row"]) (ok_law_shuffled T) (hr.mono (by decide)) (by rfl) T.g_law_shuffled T.F_law_shuffled.kp T.b_law_shuffled (sa_cons (sv 0) (sa_cons (sv 1) sa_nil))))
    (sss_cons (ss_set sc_law_shape.nd (i := 3) rfl (by first | exact Or.inl rfl | exact Or.inr rfl) (se_callB call_len sem_len (by rfl) T.z_len rfl (sa_cons (sv 2) sa_nil)))
    (sss_cons (ss_setLc (i := 4) rfl sc_law_shape.nd rfl rfl rfl (si_range1 (by rfl) T.z_range (sa_cons (se_sub (sv 3) se_int) sa_nil)) (blkOk_by (own := [("k", 11)]) (by kernel_rfl)) (fun _ _ _ _ _ => (sg_name sc_law_shape.nd (i := 11) rfl (by first | exact Or.inl rfl | exact Or.inr rfl))) (by decide) (fun _ _ _ _ _ => sts_nil) (fun _ _ _ _ _ => (se_tup (sa_cons (se_lst (sa_cons (sv 11) sa_nil) (al_sz (n := 1) (by decide) (al_cons al_nil))) (sa_cons (se_add (sv 11) se_int) sa_nil)) (al_sz (n := 2) (by decide) (al_cons (al_cons al_nil))))))
    (sss_cons (ss_setLc (i := 5) rfl sc_law_shape.nd rfl rfl rfl (si_range1 (by rfl) T.z_range (sa_cons (sv 3) sa_nil)) (blkOk_by (own := [("k", 11)]) (by kernel_rfl)) (fun _ _ _ _ _ => (sg_name sc_law_shape.nd (i := 11) rfl (by first | exact Or.inl rfl | exact Or.inr rfl))) (by decide) (fun _ _ _ _ _ => sts_nil) (fun _ _ _ _ _ => (se_tup (sa_cons (se_lst (sa_cons (sv 11) sa_nil) (al_sz (n := 1) (by decide) (al_cons al_nil))) (sa_cons (se_sub (se_add (sv 11) se_int) (se_mul se_int (se_mod (se_callTy call_int1 sem_int (by rfl) T.z_int rfl (sa_cons (sv 11) sa_nil)) se_int))) sa_nil)) (al_sz (n := 2) (by decide) (al_cons (al_cons al_nil))))))
    (sss_cons (ss_set sc_law_shape.nd (i := 6) rfl (by first | exact Or.inl rfl | exact Or.inr rfl) (se_add (se_lst (sa_cons (se_tup (sa_cons (se_lst (sa_cons se_int sa_nil) (al_sz (n := 1) (by decide) (al_cons al_nil))) (sa_cons se_int sa_nil)) (al_sz (n := 2) (by decide) (al_cons (al_cons al_nil)))) (sa_cons (se_tup (sa_cons (se_lst (sa_cons se_int sa_nil) (al_sz (n := 1) (by decide) (al_cons al_nil))) (sa_cons se_int sa_nil)) (al_sz (n := 2) (by decide) (al_cons (al_cons al_nil)))) (sa_cons (se_tup (sa_cons (se_lst (sa_cons (se_sub (sv 3) se_int) sa_nil) (al_sz (n := 1) (by decide) (al_cons al_nil))) (sa_cons (se_sub (sv 3) se_int) sa_nil)) (al_sz (n := 2) (by decide) (al_cons (al_cons al_nil)))) sa_nil))) (al_sz (n := 3) (by decide) (al_cons (al_cons (al_cons al_nil))))) (se_lc rfl sc_law_shape.nd (si_range2 (by rfl) T.z_range (sa_cons se_int (sa_cons (se_mul se_int (sv 3)) sa_nil))) (blkOk_by (own := [("k", 11)]) (by kernel_rfl)) (fun _ _ _ _ _ => (sg_name sc_law_shape.nd (i := 11) rfl (by first | exact Or.inl rfl | exact Or.inr rfl))) (by decide) (fun _ _ _ _ _ => sts_nil) (fun _ _ _ _ _ => (se_tup (sa_cons (se_lst (sa_cons (se_mod (se_callTy call_int1 sem_int (by rfl) T.z_int rfl (sa_cons (sv 11) sa_nil)) se_int) sa_nil) (al_sz (n := 1) (by decide) (al_cons al_nil))) (sa_cons (se_fdiv (sv 11) se_int) sa_nil)) (al_sz (n := 2) (by decide) (al_cons (al_cons al_nil))))))))
    (sss_cons (ss_set sc_law_shape.nd (i := 7) rfl (by first | exact Or.inl rfl | exact Or.inr rfl) (se_lst (sa_cons (se_tup (sa_cons (se_lst (sa_cons se_int sa_nil) (al_sz (n := 1) (by decide) (al_cons al_nil))) (sa_cons se_int sa_nil)) (al_sz (n := 2) (by decide) (al_cons (al_cons al_nil)))) (sa_cons (se_tup (sa_cons (se_lst (sa_cons se_int sa_nil) (al_sz (n := 1) (by decide) (al_cons al_nil))) (sa_cons se_int sa_nil)) (al_sz (n := 2) (by decide) (al_cons (al_cons al_nil)))) (sa_cons (se_tup (sa_cons (se_lst (sa_cons se_int sa_nil) (al_sz (n := 1) (by decide) (al_cons al_nil))) (sa_cons se_int sa_nil)) (al_sz (n := 2) (by decide) (al_cons (al_cons al_nil)))) (sa_cons (se_tup (sa_cons (se_lst (sa_cons se_int sa_nil) (al_sz (n := 1) (by decide) (al_cons al_nil))) (sa_cons se_int sa_nil)) (al_sz (n := 2) (by decide) (al_cons (al_cons al_nil)))) (sa_cons (se_tup (sa_cons (se_lst (sa_cons se_int sa_nil) (al_sz (n := 1) (by decide) (al_cons al_nil))) (sa_cons se_int sa_nil)) (al_sz (n := 2) (by decide) (al_cons (al_cons al_nil)))) (sa_cons (se_tup (sa_cons (se_lst (sa_cons se_int sa_nil) (al_sz (n := 1) (by decide) (al_cons al_nil))) (sa_cons se_int sa_nil)) (al_sz (n := 2) (by decide) (al_cons (al_cons al_nil)))) (sa_cons (se_tup (sa_cons (se_lst (sa_cons se_int sa_nil) (al_sz (n := 1) (by decide) (al_cons al_nil))) (sa_cons se_int sa_nil)) (al_sz (n := 2) (by decide) (al_cons (al_cons al_nil)))) (sa_cons (se_tup (sa_cons (se_lst (sa_cons se_int sa_nil) (al_sz (n := 1) (by decide) (al_cons al_nil))) (sa_cons se_int sa_nil)) (al_sz (n := 2) (by decide) (al_cons (al_cons al_nil)))) sa_nil)))))))) (al_sz (n := 8) (by decide) (al_cons (al_cons (al_cons (al_cons (al_cons (al_cons (al_cons (al_cons al_nil)))))))))))
    (sss_cons (ss_set sc_law_shape.nd (i := 8) rfl (by first | exact Or.inl rfl | exact Or.inr rfl) (se_lst (sa_cons (se_tup (sa_cons (se_lst (sa_cons se_int (sa_cons se_int sa_nil)) (al_sz (n := 2) (by decide) (al_cons (al_cons al_nil)))) (sa_cons se_int sa_nil)) (al_sz (n := 2) (by decide) (al_cons (al_cons al_nil)))) (sa_cons (se_tup (sa_cons (se_lst (sa_cons se_int sa_nil) (al_sz (n := 1) (by decide) (al_cons al_nil))) (sa_cons se_int sa_nil)) (al_sz (n := 2) (by decide) (al_cons (al_cons al_nil)))) (sa_cons (se_tup (sa_cons (se_lst (sa_cons se_int (sa_cons se_int sa_nil)) (al_sz (n := 2) (by decide) (al_cons (al_cons al_nil)))) (sa_cons se_int sa_nil)) (al_sz (n := 2) (by decide) (al_cons (al_cons al_nil)))) (sa_cons (se_tup (sa_cons (se_lst (sa_cons se_int sa_nil) (al_sz (n := 1) (by decide) (al_cons al_nil))) (sa_cons se_int sa_nil)) (al_sz (n := 2) (by decide) (al_cons (al_cons al_nil)))) (sa_cons (se_tup (sa_cons (se_lst (sa_cons se_int (sa_cons se_int sa_nil)) (al_sz (n := 2) (by decide) (al_cons (al_cons al_nil)))) (sa_cons se_int sa_nil)) (al_sz (n := 2) (by decide) (al_cons (al_cons al_nil)))) (sa_cons (se_tup (sa_cons (se_lst (sa_cons se_int sa_nil) (al_sz (n := 1) (by decide) (al_cons al_nil))) (sa_cons se_int sa_nil)) (al_sz (n := 2) (by decide) (al_cons (al_cons al_nil)))) sa_nil)))))) (al_sz (n := 6) (by decide) (al_cons (al_cons (al_cons (al_cons (al_cons (al_cons al_nil)))))))))
    (sss_cons (ss_set sc_law_shape.nd (i := 9) rfl (by first | exact Or.inl rfl | exact Or.inr rfl) (se_call (ps := ["draws", "row"]) (ok_law_pick T) (hr.mono (by decide)) (by rfl) T.g_law_pick T.F_law_pick.kp T.b_law_pick (sa_cons (sv 0) (sa_cons (se_lst (sa_cons (se_lst sa_nil (al_sz (n := 0) (by decide) al_nil)) (sa_cons (se_lst sa_nil (al_sz (n := 0) (by decide) al_nil)) (sa_cons (se_lst sa_nil (al_sz (n := 0) (by decide) al_nil)) (sa_cons (sv 4) (sa_cons (se_add (sv 4) (se_lst (sa_cons (se_tup (sa_cons (se_lst (sa_cons (se_sub (sv 3) se_int) sa_nil) (al_sz (n := 1) (by decide) (al_cons al_nil))) (sa_cons se_int sa_nil)) (al_sz (n := 2) (by decide) (al_cons (al_cons al_nil)))) sa_nil) (al_sz (n := 1) (by decide) (al_cons al_nil)))) (sa_cons (sv 5) (sa_cons (sv 6) (sa_cons (sv 7) (sa_cons (sv 8) sa_nil))))))))) (al_sz (n := 9) (by decide) (al_cons (al_cons (al_cons (al_cons (al_cons (al_cons (al_cons (al_cons (al_cons al_nil))))))))))) sa_nil))))
    (sss_cons (ss_if (st_eq hr (sv 3) se_int) (sss_one (ss_ret (se_lst sa_nil (al_sz (n := 0) (by decide) al_nil)))) sss_nil)
    (sss_cons (ss_setLc (i := 10) rfl sc_law_shape.nd rfl rfl rfl (si_seq (sv 9)) (blkOk_by (own := [("pair", 12)]) (by kernel_rfl)) (fun _ _ _ _ _ => (sg_name sc_law_shape.nd (i := 12) rfl (by first | exact Or.inl rfl | exact Or.inr rfl))) (by decide) (fun _ _ _ _ _ => (sts_one (st_lt (se_callB (cr_max rfl) sem_max (by rfl) T.z_max rfl (sa_cons (se_add (se_ix (sv 12) se_int) (se_lst (sa_cons (se_ix (sv 12) se_int) sa_nil) (al_sz (n := 1) (by decide) (al_cons al_nil)))) sa_nil)) (sv 3)))) (fun _ _ _ _ _ => (sv 12)))
    (sss_one (ss_ret (se_lc rfl sc_law_shape.nd (si_seq (sv 10)) (blkOk_by (own := [("pair", 12)]) (by kernel_rfl)) (fun _ _ _ _ _ => (sg_name sc_law_shape.nd (i := 12) rfl (by first | exact Or.inl rfl | exact Or.inr rfl))) (by decide) (fun _ _ _ _ _ => sts_nil) (fun _ _ _ _ _ => (se_tup (sa_cons (se_call (ps := ["statements"]) (ok_law_set T) (hr.mono (by decide)) (by rfl) T.g_law_set T.F_law_set.kp T.b_law_set (sa_cons (se_lc rfl sc_law_shape.nd (si_seq (se_ix (sv 12) se_int)) (blkOk_by (own := [("j", 13)]) (by kernel_rfl)) (fun _ _ _ _ _ => (sg_name sc_law_shape.nd (i := 13) rfl (by first | exact Or.inl rfl | exact Or.inr rfl))) (by decide) (fun _ _ _ _ _ => sts_nil) (fun _ _ _ _ _ => (se_ix (sv 2) (sv 13)))) sa_nil)) (sa_cons (se_ix (sv 2) (se_ix (sv 12) se_int)) sa_nil)) (al_sz (n := 2) (by decide) (al_cons (al_cons al_nil))))))))))))))))))
theorem sc_law_set_key : FnScope ["statements", "statement"] ["statements"] (defScope s_law_set_key) := ⟨rfl, rfl, rfl, by decide +kernel, rfl, by decide +kernel, by decide +kernel⟩
theorem ok_law_set_key {P : Program} {w : World} {K : PySem.W.Frag} {mg : Str → Option Value} {base : Heap} {a : Nat → Addr} {fd : Nat → FuncData} (T : Txt K mg a fd) : FnOk P w K mg base CX0 4 (a 14) (fd 14) ["statements"] (spOf ⟨P, w, K, fa a⟩ c_law_set_key 1) :=
  fn_ruleD (fa := fa a) (k := 3) T.F_law_set_key sc_law_set_key fun cdv A outer s H E hr => (sss_one (ss_ret (se_callTy call_tuple_of sem_tuple (by rfl) T.z_tuple rfl (sa_cons (se_lc rfl sc_law_set_key.nd (si_seq (sv 0)) (blkOk_by (own := [("statement", 1)]) (by kernel_rfl)) (fun _ _ _ _ _ => (sg_name sc_law_set_key.nd (i := 1) rfl (by first | exact Or.inl rfl | exact Or.inr rfl))) (by decide) (fun _ _ _ _ _ => sts_nil) (fun _ _ _ _ _ => (se_call (ps := ["statement"]) (ok_law_statement_key T) (hr.mono (by decide)) (by rfl) T.g_law_statement_key T.F_law_statement_key.kp T.b_law_statement_key (sa_cons (sv 1) sa_nil)))) sa_nil))))
theorem sc_law_within : FnScope ["part", "whole", "statement"] ["part", "whole"] (defScope s_law_within) := ⟨rfl, rfl, rfl, by decide +kernel, rfl, by decide +kernel, by decide +kernel⟩
theorem ok_law_within {P : Program} {w : World} {K : PySem.W.Frag} {mg : Str → Option Value} {base : Heap} {a : Nat → Addr} {fd : Nat → FuncData} (T : Txt K mg a fd) : FnOk P w K mg base CX0 1 (a 15) (fd 15) ["part", "whole"] (spOf ⟨P, w, K, fa a⟩ c_law_within 2) :=
  fn_ruleD (fa := fa a) (k := 0) T.F_law_within sc_law_within fun cdv A outer s H E hr => (sss_one (ss_ret (se_notIn hr se_bl (se_lc rfl sc_law_within.nd (si_seq (sv 0)) (blkOk_by (own := [("statement", 2)]) (by kernel_rfl)) (fun _ _ _ _ _ => (sg_name sc_law_within.nd (i := 2) rfl (by first | exact Or.inl rfl | exact Or.inr rfl))) (by decide) (fun _ _ _ _ _ => sts_nil) (fun _ _ _ _ _ => (se_in hr (sv 2) (sv 1)))))))
theorem sc_law_thinned : FnScope ["sets", "found", "one", "other"] ["sets"] (defScope s_law_thinned) := ⟨rfl, rfl, rfl, by decide +kernel, rfl, by decide +kernel, by decide +kernel⟩
theorem ok_law_thinned {P : Program} {w : World} {K : PySem.W.Frag} {mg : Str → Option Value} {base : Heap} {a : Nat → Addr} {fd : Nat → FuncData} (T : Txt K mg a fd) : FnOk P w K mg base CX0 7 (a 16) (fd 16) ["sets"] (spOf ⟨P, w, K, fa a⟩ c_law_thinned 1) :=
  fn_ruleD (fa := fa a) (k := 6) T.F_law_thinned sc_law_thinned fun cdv A outer s H E hr => (sss_cons (ss_set sc_law_thinned.nd (i := 1) rfl (by first | exact Or.inl rfl | exact Or.inr rfl) (SEm.al (se_lst sa_nil (al_sz (n := 0) (by decide) al_nil))))
    (sss_cons (ss_for PassesOwn.never rfl (si_seq (se_sortK (ok_law_set_key T) (hr.mono (by decide)) T.b_law_set_key (by rfl) T.z_sorted (by rfl) T.g_law_set_key (sv 0))) (sg_name sc_law_thinned.nd (i := 2) rfl (by first | exact Or.inl rfl | exact Or.inr rfl)) (sss_one (ss_if (STw.st (sw_and (st_notIn hr (sv 2) (sv 1)) (sw_and1 (st_notIn hr se_bl (se_lc rfl sc_law_thinned.nd (si_seq (sv 0)) (blkOk_by (own := [("other", 3)]) (by kernel_rfl)) (fun _ _ _ _ _ => (sg_name sc_law_thinned.nd (i := 3) rfl (by first | exact Or.inl rfl | exact Or.inr rfl))) (by decide) (fun _ _ _ _ _ => sts_nil) (fun _ _ _ _ _ => (se_and (se_ne hr (sv 3) (sv 2)) (se_one (se_call (ps := ["part", "whole"]) (ok_law_within T) (hr.mono (by decide)) (by rfl) T.g_law_within T.F_law_within.kp T.b_law_within (sa_cons (sv 3) (sa_cons (sv 2) sa_nil))))))))))) (sss_one (ss_expr (se_bm PySem.F.plainAttrs_list PySem.F.slot_list_append PySem.F.type_list_append mt_append sem_append (sv 1) (sa_cons (sv 2) sa_nil)))) sss_nil)))
    (sss_one (ss_ret (se_callTy call_tuple_of sem_tuple (by rfl) T.z_tuple rfl (sa_cons (sv 1) sa_nil))))))
theorem sc_law_board_of_raw : FnScope ["pieces", "raw", "attacks", "piece", "support", "pair"] ["pieces", "raw"] (defScope s_law_board_of_raw) := ⟨rfl, rfl, rfl, by decide +kernel, rfl, by decide +kernel, by decide +kernel⟩
theorem ok_law_board_of_raw {P : Program} {w : World} {K : PySem.W.Frag} {mg : Str → Option Value} {base : Heap} {a : Nat → Addr} {fd : Nat → FuncData} (T : Txt K mg a fd) : FnOk P w K mg base CX0 8 (a 17) (fd 17) ["pieces", "raw"] (spOf ⟨P, w, K, fa a⟩ c_law_board_of_raw 2) :=
  fn_ruleD (fa := fa a) (k := 7) T.F_law_board_of_raw sc_law_board_of_raw fun cdv A outer s H E hr => (sss_cons (ss_set sc_law_board_of_raw.nd (i := 2) rfl (by first | exact Or.inl rfl | exact Or.inr rfl) (SEm.al (se_lst sa_nil (al_sz (n := 0) (by decide) al_nil))))
    (sss_cons (ss_for PassesOwn.never rfl (si_seq (sv 0)) (sg_name sc_law_board_of_raw.nd (i := 3) rfl (by first | exact Or.inl rfl | exact Or.inr rfl)) (sss_one (ss_for PassesOwn.never rfl (si_seq (se_call (ps := ["sets"]) (ok_law_thinned T) (hr.mono (by decide)) (by rfl) T.g_law_thinned T.F_law_thinned.kp T.b_law_thinned (sa_cons (se_lc rfl sc_law_board_of_raw.nd (si_seq (sv 1)) (blkOk_by (own := [("pair", 5)]) (by kernel_rfl)) (fun _ _ _ _ _ => (sg_name sc_law_board_of_raw.nd (i := 5) rfl (by first | exact Or.inl rfl | exact Or.inr rfl))) (by decide) (fun _ _ _ _ _ => (sts_one (st_eq hr (se_ix (sv 5) se_int) (sv 3)))) (fun _ _ _ _ _ => (se_ix (sv 5) se_int))) sa_nil))) (sg_name sc_law_board_of_raw.nd (i := 4) rfl (by first | exact Or.inl rfl | exact Or.inr rfl)) (sss_one (ss_expr (se_bm PySem.F.plainAttrs_list PySem.F.slot_list_append PySem.F.type_list_append mt_append sem_append (sv 2) (sa_cons (se_tup (sa_cons (sv 4) (sa_cons (sv 3) sa_nil)) (al_sz (n := 2) (by decide) (al_cons (al_cons al_nil)))) sa_nil)))))))
    (sss_one (ss_ret (se_tup (sa_cons (sv 0) (sa_cons (se_callTy call_tuple_of sem_tuple (by rfl) T.z_tuple rfl (sa_cons (sv 2) sa_nil)) sa_nil)) (al_sz (n := 2) (by decide) (al_cons (al_cons al_nil))))))))
theorem sc_law_sure_board : FnScope ["draws", "pieces", "order", "raw"] ["draws"] (defScope s_law_sure_board) := ⟨rfl, rfl, rfl, by decide +kernel, rfl, by decide +kernel, by decide +kernel⟩
theorem ok_law_sure_board {P : Program} {w : World} {K : PySem.W.Frag} {mg : Str → Option Value} {base : Heap} {a : Nat → Addr} {fd : Nat → FuncData} (T : Txt K mg a fd) : FnOk P w K mg base CX0 9 (a 18) (fd 18) ["draws"] (spOf ⟨P, w, K, fa a⟩ c_law_sure_board 1) :=
  fn_ruleD (fa := fa a) (k := 8) T.F_law_sure_board sc_law_sure_board fun cdv A outer s H E hr => (sss_cons (ss_set sc_law_sure_board.nd (i := 1) rfl (by first | exact Or.inl rfl | exact Or.inr rfl) (se_call (ps := ["draws", "many"]) (ok_law_pieces T) (hr.mono (by decide)) (by rfl) T.g_law_pieces T.F_law_pieces.kp T.b_law_pieces (sa_cons (sv 0) (sa_cons se_int sa_nil))))
    (sss_cons (ss_set sc_law_sure_board.nd (i := 2) rfl (by first | exact Or.inl rfl | exact Or.inr rfl) (se_call (ps := ["draws", "row"]) (ok_law_shuffled T) (hr.mono (by decide)) (by rfl) T.g_law_shuffled T.F_law_shuffled.kp T.b_law_shuffled (sa_cons (sv 0) (sa_cons (sv 1) sa_nil))))
    (sss_cons (ss_set sc_law_sure_board.nd (i := 3) rfl (by first | exact Or.inl rfl | exact Or.inr rfl) (se_lst (sa_cons (se_tup (sa_cons (se_tup (sa_cons (se_ix (sv 2) se_int) sa_nil) (al_sz (n := 1) (by decide) (al_cons al_nil))) (sa_cons (se_ix (sv 2) se_int) sa_nil)) (al_sz (n := 2) (by decide) (al_cons (al_cons al_nil)))) (sa_cons (se_tup (sa_cons (se_tup (sa_cons (se_ix (sv 2) se_int) sa_nil) (al_sz (n := 1) (by decide) (al_cons al_nil))) (sa_cons (se_ix (sv 2) se_int) sa_nil)) (al_sz (n := 2) (by decide) (al_cons (al_cons al_nil)))) (sa_cons (se_tup (sa_cons (se_tup (sa_cons (se_ix (sv 2) se_int) sa_nil) (al_sz (n := 1) (by decide) (al_cons al_nil))) (sa_cons (se_ix (sv 2) se_int) sa_nil)) (al_sz (n := 2) (by decide) (al_cons (al_cons al_nil)))) (sa_cons (se_tup (sa_cons (se_tup (sa_cons (se_ix (sv 2) se_int) sa_nil) (al_sz (n := 1) (by decide) (al_cons al_nil))) (sa_cons (se_ix (sv 2) se_int) sa_nil)) (al_sz (n := 2) (by decide) (al_cons (al_cons al_nil)))) sa_nil)))) (al_sz (n := 4) (by decide) (al_cons (al_cons (al_cons (al_cons al_nil)))))))
    (sss_one (ss_ret (se_call (ps := ["pieces", "raw"]) (ok_law_board_of_raw T) (hr.mono (by decide)) (by rfl) T.g_law_board_of_raw T.F_law_board_of_raw.kp T.b_law_board_of_raw (sa_cons (sv 1) (sa_cons (sv 3) sa_nil))))))))
theorem sc_law_boards : FnScope ["draws", "many", "most", "pieces", "first", "second"] ["draws", "many", "most"] (defScope s_law_boards) := ⟨rfl, rfl, rfl, by decide +kernel, rfl, by decide +kernel, by decide +kernel⟩
theorem ok_law_boards {P : Program} {w : World} {K : PySem.W.Frag} {mg : Str → Option Value} {base : Heap} {a : Nat → Addr} {fd : Nat → FuncData} (T : Txt K mg a fd) : FnOk P w K mg base CX0 10 (a 19) (fd 19) ["draws", "many", "most"] (spOf ⟨P, w, K, fa a⟩ c_law_boards 3) :=
  fn_ruleD (fa := fa a) (k := 9) T.F_law_boards sc_law_boards fun cdv A outer s H E hr => (sss_cons (ss_set sc_law_boards.nd (i := 3) rfl (by first | exact Or.inl rfl | exact Or.inr rfl) (se_call (ps := ["draws", "many"]) (ok_law_pieces T) (hr.mono (by decide)) (by rfl) T.g_law_pieces T.F_law_pieces.kp T.b_law_pieces (sa_cons (sv 0) (sa_cons (se_sub (sv 1) (se_call (ps := ["draws", "row"]) (ok_law_pick T) (hr.mono (by decide)) (by rfl) T.g_law_pick T.F_law_pick.kp T.b_law_pick (sa_cons (sv 0) (sa_cons (se_lst (sa_cons se_int (sa_cons se_int (sa_cons se_int (sa_cons se_int (sa_cons se_int (sa_cons se_int (sa_cons (sv 1) (sa_cons se_int sa_nil)))))))) (al_sz (n := 8) (by decide) (al_cons (al_cons (al_cons (al_cons (al_cons (al_cons (al_cons (al_cons al_nil)))))))))) sa_nil)))) sa_nil))))
    (sss_cons (ss_set sc_law_boards.nd (i := 4) rfl (by first | exact Or.inl rfl | exact Or.inr rfl) (se_call (ps := ["pieces", "raw"]) (ok_law_board_of_raw T) (hr.mono (by decide)) (by rfl) T.g_law_board_of_raw T.F_law_board_of_raw.kp T.b_law_board_of_raw (sa_cons (sv 3) (sa_cons (se_add (se_call (ps := ["draws", "pieces"]) (ok_law_shape T) (hr.mono (by decide)) (by rfl) T.g_law_shape T.F_law_shape.kp T.b_law_shape (sa_cons (sv 0) (sa_cons (sv 3) sa_nil))) (se_call (ps := ["draws", "pieces", "most"]) (ok_law_raw T) (hr.mono (by decide)) (by rfl) T.g_law_raw T.F_law_raw.kp T.b_law_raw (sa_cons (sv 0) (sa_cons (sv 3) (sa_cons (sv 2) sa_nil))))) sa_nil))))
    (sss_cons (ss_if (st_eq hr (se_call (ps := ["draws", "many"]) (ok_law_take T) (hr.mono (by decide)) (by rfl) T.g_law_take T.F_law_take.kp T.b_law_take (sa_cons (sv 0) (sa_cons se_int sa_nil))) se_int) (sss_one (ss_set sc_law_boards.nd (i := 3) rfl (by first | exact Or.inl rfl | exact Or.inr rfl) (se_call (ps := ["draws", "many"]) (ok_law_pieces T) (hr.mono (by decide)) (by rfl) T.g_law_pieces T.F_law_pieces.kp T.b_law_pieces (sa_cons (sv 0) (sa_cons (se_sub (sv 1) (se_call (ps := ["draws", "many"]) (ok_law_take T) (hr.mono (by decide)) (by rfl) T.g_law_take T.F_law_take.kp T.b_law_take (sa_cons (sv 0) (sa_cons se_int sa_nil)))) sa_nil))))) sss_nil)
    (sss_cons (ss_set sc_law_boards.nd (i := 5) rfl (by first | exact Or.inl rfl | exact Or.inr rfl) (se_call (ps := ["pieces", "raw"]) (ok_law_board_of_raw T) (hr.mono (by decide)) (by rfl) T.g_law_board_of_raw T.F_law_board_of_raw.kp T.b_law_board_of_raw (sa_cons (sv 3) (sa_cons (se_add (se_call (ps := ["draws", "pieces"]) (ok_law_shape T) (hr.mono (by decide)) (by rfl) T.g_law_shape T.F_law_shape.kp T.b_law_shape (sa_cons (sv 0) (sa_cons (sv 3) sa_nil))) (se_call (ps := ["draws", "pieces", "most"]) (ok_law_raw T) (hr.mono (by decide)) (by rfl) T.g_law_raw T.F_law_raw.kp T.b_law_raw (sa_cons (sv 0) (sa_cons (sv 3) (sa_cons (sv 2) sa_nil))))) sa_nil))))
    (sss_one (ss_ret (se_lst (sa_cons (sv 4) (sa_cons (sv 5) (sa_cons (se_call (ps := ["draws"]) (ok_law_sure_board T) (hr.mono (by decide)) (by rfl) T.g_law_sure_board T.F_law_sure_board.kp T.b_law_sure_board (sa_cons (sv 0) sa_nil)) sa_nil))) (al_sz (n := 3) (by decide) (al_cons (al_cons (al_cons al_nil)))))))))))
theorem sc_law_great_board : FnScope ["draws", "pieces", "order", "raw", "k"] ["draws"] (defScope s_law_great_board) := ⟨rfl, rfl, rfl, by decide +kernel, rfl, by decide +kernel, by decide +kernel⟩
theorem ok_law_great_board {P : Program} {w : World} {K : PySem.W.Frag} {mg : Str → Option Value} {base : Heap} {a : Nat → Addr} {fd : Nat → FuncData} (T : Txt K mg a fd) : FnOk P w K mg base CX0 9 (a 20) (fd 20) ["draws"] (spOf ⟨P, w, K, fa a⟩ c_law_great_board 1) :=
  fn_ruleD (fa := fa a) (k := 8) T.F_law_great_board sc_law_great_board fun cdv A outer s H E hr => (sss_cons (ss_set sc_law_great_board.nd (i := 1) rfl (by first | exact Or.inl rfl | exact Or.inr rfl) (se_call (ps := ["draws", "many"]) (ok_law_pieces T) (hr.mono (by decide)) (by rfl) T.g_law_pieces T.F_law_pieces.kp T.b_law_pieces (sa_cons (sv 0) (sa_cons se_int sa_nil))))
    (sss_cons (ss_set sc_law_great_board.nd (i := 2) rfl (by first | exact Or.inl rfl | exact Or.inr rfl) (se_call (ps := ["draws", "row"]) (ok_law_shuffled T) (hr.mono (by decide)) (by rfl) T.g_law_shuffled T.F_law_shuffled.kp T.b_law_shuffled (sa_cons (sv 0) (sa_cons (sv 1) sa_nil))))
    (sss_cons (ss_setLc (i := 3) rfl sc_law_great_board.nd rfl rfl rfl (si_range1 (by rfl) T.z_range (sa_cons se_int sa_nil)) (blkOk_by (own := [("k", 4)]) (by kernel_rfl)) (fun _ _ _ _ _ => (sg_name sc_law_great_board.nd (i := 4) rfl (by first | exact Or.inl rfl | exact Or.inr rfl))) (by decide) (fun _ _ _ _ _ => sts_nil) (fun _ _ _ _ _ => (se_tup (sa_cons (se_tup (sa_cons (se_ix (sv 2) (sv 4)) sa_nil) (al_sz (n := 1) (by decide) (al_cons al_nil))) (sa_cons (se_ix (sv 2) (se_add (sv 4) se_int)) sa_nil)) (al_sz (n := 2) (by decide) (al_cons (al_cons al_nil))))))
    (sss_one (ss_ret (se_call (ps := ["pieces", "raw"]) (ok_law_board_of_raw T) (hr.mono (by decide)) (by rfl) T.g_law_board_of_raw T.F_law_board_of_raw.kp T.b_law_board_of_raw (sa_cons (sv 1) (sa_cons (se_add (sv 3) (se_call (ps := ["draws", "pieces", "most"]) (ok_law_raw T) (hr.mono (by decide)) (by rfl) T.g_law_raw T.F_law_raw.kp T.b_law_raw (sa_cons (sv 0) (sa_cons (sv 1) (sa_cons (se_call (ps := ["draws", "row"]) (ok_law_pick T) (hr.mono (by decide)) (by rfl) T.g_law_pick T.F_law_pick.kp T.b_law_pick (sa_cons (sv 0) (sa_cons (se_lst (sa_cons se_int (sa_cons se_int (sa_cons se_int (sa_cons se_int sa_nil)))) (al_sz (n := 4) (by decide) (al_cons (al_cons (al_cons (al_cons al_nil)))))) sa_nil))) sa_nil))))) sa_nil))))))))
theorem sc_law_maybe_of : FnScope ["draws", "board", "most", "order", "k"] ["draws", "board", "most"] (defScope s_law_maybe_of) := ⟨rfl, rfl, rfl, by decide +kernel, rfl, by decide +kernel, by decide +kernel⟩
theorem ok_law_maybe_of {P : Program} {w : World} {K : PySem.W.Frag} {mg : Str → Option Value} {base : Heap} {a : Nat → Addr} {fd : Nat → FuncData} (T : Txt K mg a fd) : FnOk P w K mg base CX0 3 (a 21) (fd 21) ["draws", "board", "most"] (spOf ⟨P, w, K, fa a⟩ c_law_maybe_of 3) :=
  fn_ruleD (fa := fa a) (k := 2) T.F_law_maybe_of sc_law_maybe_of fun cdv A outer s H E hr => (sss_cons (ss_set sc_law_maybe_of.nd (i := 3) rfl (by first | exact Or.inl rfl | exact Or.inr rfl) (se_call (ps := ["draws", "row"]) (ok_law_shuffled T) (hr.mono (by decide)) (by rfl) T.g_law_shuffled T.F_law_shuffled.kp T.b_law_shuffled (sa_cons (sv 0) (sa_cons (se_lc rfl sc_law_maybe_of.nd (si_range1 (by rfl) T.z_range (sa_cons (se_callB call_len sem_len (by rfl) T.z_len rfl (sa_cons (se_ix (sv 1) se_int) sa_nil)) sa_nil)) (blkOk_by (own := [("k", 4)]) (by kernel_rfl)) (fun _ _ _ _ _ => (sg_name sc_law_maybe_of.nd (i := 4) rfl (by first | exact Or.inl rfl | exact Or.inr rfl))) (by decide) (fun _ _ _ _ _ => sts_nil) (fun _ _ _ _ _ => (sv 4))) sa_nil))))
    (sss_one (ss_ret (se_tup (sa_cons (sv 1) (sa_cons (se_callTy call_tuple_of sem_tuple (by rfl) T.z_tuple rfl (sa_cons (se_callB cr_sortedI sem_sortI (by rfl) T.z_sorted rfl (sa_cons (se_sl (sv 3) sop_none (sop_some (se_call (ps := ["draws", "many"]) (ok_law_take T) (hr.mono (by decide)) (by rfl) T.g_law_take T.F_law_take.kp T.b_law_take (sa_cons (sv 0) (sa_cons (se_add (sv 2) se_int) sa_nil))))) sa_nil)) sa_nil)) sa_nil)) (al_sz (n := 2) (by decide) (al_cons (al_cons al_nil)))))))
theorem sc_law_tuples : FnScope ["many", "found", "k", "grown", "one"] ["many"] (defScope s_law_tuples) := ⟨rfl, rfl, rfl, by decide +kernel, rfl, by decide +kernel, by decide +kernel⟩
theorem ok_law_tuples {P : Program} {w : World} {K : PySem.W.Frag} {mg : Str → Option Value} {base : Heap} {a : Nat → Addr} {fd : Nat → FuncData} (T : Txt K mg a fd) : FnOk P w K mg base CX0 1 (a 22) (fd 22) ["many"] (spOf ⟨P, w, K, fa a⟩ c_law_tuples 1) :=
  fn_ruleD (fa := fa a) (k := 0) T.F_law_tuples sc_law_tuples fun cdv A outer s H E hr => (sss_cons (ss_set sc_law_tuples.nd (i := 1) rfl (by first | exact Or.inl rfl | exact Or.inr rfl) (se_lst (sa_cons (se_tup sa_nil (al_sz (n := 0) (by decide) al_nil)) sa_nil) (al_sz (n := 1) (by decide) (al_cons al_nil))))
    (sss_cons (ss_for PassesOwn.never rfl (si_range1 (by rfl) T.z_range (sa_cons (sv 0) sa_nil)) (sg_name sc_law_tuples.nd (i := 2) rfl (by first | exact Or.inl rfl | exact Or.inr rfl)) (sss_cons (ss_set sc_law_tuples.nd (i := 3) rfl (by first | exact Or.inl rfl | exact Or.inr rfl) (se_lst sa_nil (al_sz (n := 0) (by decide) al_nil)))
    (sss_cons (ss_for PassesOwn.never rfl (si_seq (sv 1)) (sg_name sc_law_tuples.nd (i := 4) rfl (by first | exact Or.inl rfl | exact Or.inr rfl)) (sss_one (ss_set sc_law_tuples.nd (i := 3) rfl (by first | exact Or.inl rfl | exact Or.inr rfl) (se_add (sv 3) (se_lst (sa_cons (se_add (sv 4) (se_tup (sa_cons se_int sa_nil) (al_sz (n := 1) (by decide) (al_cons al_nil)))) (sa_cons (se_add (sv 4) (se_tup (sa_cons se_int sa_nil) (al_sz (n := 1) (by decide) (al_cons al_nil)))) sa_nil)) (al_sz (n := 2) (by decide) (al_cons (al_cons al_nil))))))))
    (sss_one (ss_set sc_law_tuples.nd (i := 1) rfl (by first | exact Or.inl rfl | exact Or.inr rfl) (sv 3))))))
    (sss_one (ss_ret (sv 1)))))
theorem sc_completions : FnScope ["maybe_board", "found", "_", "completion", "told"] ["maybe_board"] (defScope s_completions) := ⟨rfl, rfl, rfl, by decide +kernel, rfl, by decide +kernel, by decide +kernel⟩
theorem ok_completions {P : Program} {w : World} {K : PySem.W.Frag} {mg : Str → Option Value} {base : Heap} {a : Nat → Addr} {fd : Nat → FuncData} (T : Txt K mg a fd) : FnOk P w K mg base CX0 1 (a 23) (fd 23) ["maybe_board"] (spOf ⟨P, w, K, fa a⟩ c_completions 1) :=
  fn_ruleD (fa := fa a) (k := 0) T.F_completions sc_completions fun cdv A outer s H E hr => (sss_cons (ss_set sc_completions.nd (i := 1) rfl (by first | exact Or.inl rfl | exact Or.inr rfl) (se_lst (sa_cons (se_tup sa_nil (al_sz (n := 0) (by decide) al_nil)) sa_nil) (al_sz (n := 1) (by decide) (al_cons al_nil))))
    (sss_cons (ss_for PassesOwn.never rfl (si_seq (se_ix (sv 0) se_int)) (sg_name sc_completions.nd (i := 2) rfl (by first | exact Or.inl rfl | exact Or.inr rfl)) (sss_one (ss_setLc2 (i := 1) rfl sc_completions.nd rfl rfl rfl (si_seq (sv 1)) (blkOk_by (own := [("completion", 3), ("told", 4)]) (by kernel_rfl)) (by decide) (fun _ _ _ _ _ => (sg_name sc_completions.nd (i := 3) rfl (by first | exact Or.inl rfl | exact Or.inr rfl))) (by decide) (fun _ _ _ _ _ => sts_nil) (fun _ _ _ _ _ => (si_seq (se_tup (sa_cons se_int (sa_cons se_int sa_nil)) (al_sz (n := 2) (by decide) (al_cons (al_cons al_nil)))))) (fun _ _ _ _ _ => (sg_name sc_completions.nd (i := 4) rfl (by first | exact Or.inl rfl | exact Or.inr rfl))) (by decide) (fun _ _ _ _ _ => sts_nil) (fun _ _ _ _ _ => (se_add (sv 3) (se_tup (sa_cons (sv 4) sa_nil) (al_sz (n := 1) (by decide) (al_cons al_nil))))))))
    (sss_one (ss_ret (se_callTy call_tuple_of sem_tuple (by rfl) T.z_tuple rfl (sa_cons (sv 1) sa_nil))))))
theorem sc_board_of_attacks : FnScope ["board", "kept", "pieces", "attacks", "index"] ["board", "kept"] (defScope s_board_of_attacks) := ⟨rfl, rfl, rfl, by decide +kernel, rfl, by decide +kernel, by decide +kernel⟩
theorem ok_board_of_attacks {P : Program} {w : World} {K : PySem.W.Frag} {mg : Str → Option Value} {base : Heap} {a : Nat → Addr} {fd : Nat → FuncData} (T : Txt K mg a fd) : FnOk P w K mg base CX0 1 (a 24) (fd 24) ["board", "kept"] (spOf ⟨P, w, K, fa a⟩ c_board_of_attacks 2) :=
  fn_ruleD (fa := fa a) (k := 0) T.F_board_of_attacks sc_board_of_attacks fun cdv A outer s H E hr => (sss_cons (ss_asg (sv 0) (sg_tup rfl (sgs_cons (sg_name sc_board_of_attacks.nd (i := 2) rfl (by first | exact Or.inl rfl | exact Or.inr rfl)) (sgs_cons (sg_name sc_board_of_attacks.nd (i := 3) rfl (by first | exact Or.inl rfl | exact Or.inr rfl)) sgs_nil))))
    (sss_one (ss_ret (se_tup (sa_cons (sv 2) (sa_cons (se_callTy call_tuple_of sem_tuple (by rfl) T.z_tuple rfl (sa_cons (se_lc rfl sc_board_of_attacks.nd (si_seq (sv 1)) (blkOk_by (own := [("index", 4)]) (by kernel_rfl)) (fun _ _ _ _ _ => (sg_name sc_board_of_attacks.nd (i := 4) rfl (by first | exact Or.inl rfl | exact Or.inr rfl))) (by decide) (fun _ _ _ _ _ => sts_nil) (fun _ _ _ _ _ => (se_ix (sv 3) (sv 4)))) sa_nil)) sa_nil)) (al_sz (n := 2) (by decide) (al_cons (al_cons al_nil)))))))
theorem sc_completed : FnScope ["maybe_board", "completion", "board", "maybe", "gone", "index", "told"] ["maybe_board", "completion"] (defScope s_completed) := ⟨rfl, rfl, rfl, by decide +kernel, rfl, by decide +kernel, by decide +kernel⟩
theorem ok_completed {P : Program} {w : World} {K : PySem.W.Frag} {mg : Str → Option Value} {base : Heap} {a : Nat → Addr} {fd : Nat → FuncData} (T : Txt K mg a fd) : FnOk P w K mg base CX0 2 (a 25) (fd 25) ["maybe_board", "completion"] (spOf ⟨P, w, K, fa a⟩ c_completed 2) :=
  fn_ruleD (fa := fa a) (k := 1) T.F_completed sc_completed fun cdv A outer s H E hr => (sss_cons (ss_asg (sv 0) (sg_tup rfl (sgs_cons (sg_name sc_completed.nd (i := 2) rfl (by first | exact Or.inl rfl | exact Or.inr rfl)) (sgs_cons (sg_name sc_completed.nd (i := 3) rfl (by first | exact Or.inl rfl | exact Or.inr rfl)) sgs_nil))))
    (sss_cons (ss_set sc_completed.nd (i := 4) rfl (by first | exact Or.inl rfl | exact Or.inr rfl) (se_lc rfl sc_completed.nd (si_zip (by rfl) T.z_zip (sa_cons (sv 3) (sa_cons (sv 1) sa_nil))) (blkOk_by (own := [("index", 5), ("told", 6)]) (by kernel_rfl)) (fun _ _ _ _ _ => (sg_tup rfl (sgs_cons (sg_name sc_completed.nd (i := 5) rfl (by first | exact Or.inl rfl | exact Or.inr rfl)) (sgs_cons (sg_name sc_completed.nd (i := 6) rfl (by first | exact Or.inl rfl | exact Or.inr rfl)) sgs_nil)))) (by decide) (fun _ _ _ _ _ => (sts_one (st_eq hr (sv 6) se_int))) (fun _ _ _ _ _ => (sv 5))))
    (sss_one (ss_ret (se_call (ps := ["board", "kept"]) (ok_board_of_attacks T) (hr.mono (by decide)) (by rfl) T.g_board_of_attacks T.F_board_of_attacks.kp T.b_board_of_attacks (sa_cons (sv 2) (sa_cons (se_lc rfl sc_completed.nd (si_range1 (by rfl) T.z_range (sa_cons (se_callB call_len sem_len (by rfl) T.z_len rfl (sa_cons (se_ix (sv 2) se_int) sa_nil)) sa_nil)) (blkOk_by (own := [("index", 5)]) (by kernel_rfl)) (fun _ _ _ _ _ => (sg_name sc_completed.nd (i := 5) rfl (by first | exact Or.inl rfl | exact Or.inr rfl))) (by decide) (fun _ _ _ _ _ => (sts_one (st_notIn hr (sv 5) (sv 4)))) (fun _ _ _ _ _ => (sv 5))) sa_nil)))))))
theorem sc_law_same : FnScope ["actual", "due", "k"] ["actual", "due"] (defScope s_law_same) := ⟨rfl, rfl, rfl, by decide +kernel, rfl, by decide +kernel, by decide +kernel⟩
theorem st_law_same {P : Program} {w : World} {K : PySem.W.Frag} {mg : Str → Option Value} {base : Heap} {a : Nat → Addr} {fd : Nat → FuncData} (T : Txt K mg a fd) {n : Nat} {c : Cv} (ih : FnOk P w K mg base CX0 (1 + n) (a 26) (fd 26) ["actual", "due"] (spOf ⟨P, w, K, fa a⟩ c 2)) :
    FnOk P w K mg base CX0 (1 + n + 1) (a 26) (fd 26) ["actual", "due"] (spOf ⟨P, w, K, fa a⟩ (callOf 3 (m_law_same c)) 2) :=
  fn_ruleD (fa := fa a) (k := 1 + n) T.F_law_same sc_law_same fun cdv A outer s H E hr => (sss_cons (ss_if (st_val (se_callB cr_isi sem_isi (by rfl) T.z_isinstance rfl (sa_cons (sv 1) (sa_cons (se_tup (sa_cons (se_ty (by rfl) T.z_tuple rfl) (sa_cons (se_ty (by rfl) T.z_list rfl) sa_nil)) (al_sz (n := 2) (by decide) (al_cons (al_cons al_nil)))) sa_nil)))) (sss_cons (ss_if (STw.st (sw_or (st_ne hr (se_callB cr_isi sem_isi (by rfl) T.z_isinstance rfl (sa_cons (sv 0) (sa_cons (se_ty (by rfl) T.z_tuple rfl) sa_nil))) (se_callB cr_isi sem_isi (by rfl) T.z_isinstance rfl (sa_cons (sv 1) (sa_cons (se_ty (by rfl) T.z_tuple rfl) sa_nil)))) (sw_or1 (st_ne hr (se_callB cr_isi sem_isi (by rfl) T.z_isinstance rfl (sa_cons (sv 0) (sa_cons (se_ty (by rfl) T.z_list rfl) sa_nil))) (se_callB cr_isi sem_isi (by rfl) T.z_isinstance rfl (sa_cons (sv 1) (sa_cons (se_ty (by rfl) T.z_list rfl) sa_nil))))))) (sss_one (ss_ret se_bl)) sss_nil)
    (sss_cons (ss_if (st_ne hr (se_callB call_len sem_len (by rfl) T.z_len rfl (sa_cons (sv 0) sa_nil)) (se_callB call_len sem_len (by rfl) T.z_len rfl (sa_cons (sv 1) sa_nil))) (sss_one (ss_ret se_bl)) sss_nil)
    (sss_one (ss_ret (se_notIn hr se_bl (se_lc rfl sc_law_same.nd (si_range1 (by rfl) T.z_range (sa_cons (se_callB call_len sem_len (by rfl) T.z_len rfl (sa_cons (sv 1) sa_nil)) sa_nil)) (blkOk_by (own := [("k", 2)]) (by kernel_rfl)) (fun _ _ _ _ _ => (sg_name sc_law_same.nd (i := 2) rfl (by first | exact Or.inl rfl | exact Or.inr rfl))) (by decide) (fun _ _ _ _ _ => sts_nil) (fun _ _ _ _ _ => (se_call (ps := ["actual", "due"]) (c := c) ih (hr.mono (Nat.le_refl _)) (by rfl) T.g_law_same T.F_law_same.kp T.b_law_same (sa_cons (se_ix (sv 0) (sv 2)) (sa_cons (se_ix (sv 1) (sv 2)) sa_nil)))))))))) sss_nil)
    (sss_cons (ss_if (STw.st (sw_or (st_ne hr (se_callB cr_isi sem_isi (by rfl) T.z_isinstance rfl (sa_cons (sv 0) (sa_cons (se_ty (by rfl) T.z_bool rfl) sa_nil))) (se_callB cr_isi sem_isi (by rfl) T.z_isinstance rfl (sa_cons (sv 1) (sa_cons (se_ty (by rfl) T.z_bool rfl) sa_nil)))) (sw_or1 (st_ne hr (se_callB cr_isi sem_isi (by rfl) T.z_isinstance rfl (sa_cons (sv 0) (sa_cons (se_ty (by rfl) T.z_int rfl) sa_nil))) (se_callB cr_isi sem_isi (by rfl) T.z_isinstance rfl (sa_cons (sv 1) (sa_cons (se_ty (by rfl) T.z_int rfl) sa_nil))))))) (sss_one (ss_ret se_bl)) sss_nil)
    (sss_cons (ss_if (STw.st (sw_or (st_ne hr (se_callB cr_isi sem_isi (by rfl) T.z_isinstance rfl (sa_cons (sv 0) (sa_cons (se_ty (by rfl) T.z_str rfl) sa_nil))) (se_callB cr_isi sem_isi (by rfl) T.z_isinstance rfl (sa_cons (sv 1) (sa_cons (se_ty (by rfl) T.z_str rfl) sa_nil)))) (sw_or1 (st_ne hr (se_is (sv 0) se_non) (se_is (sv 1) se_non))))) (sss_one (ss_ret se_bl)) sss_nil)
    (sss_one (ss_ret (se_eq hr (sv 0) (sv 1)))))))
theorem ok_law_same {P : Program} {w : World} {K : PySem.W.Frag} {mg : Str → Option Value} {base : Heap} {a : Nat → Addr} {fd : Nat → FuncData} (T : Txt K mg a fd) (n : Nat) : FnOk P w K mg base CX0 (1 + n) (a 26) (fd 26) ["actual", "due"] (spOf ⟨P, w, K, fa a⟩ (c_law_same n) 2) := by
  induction n with
  | zero => exact fnOk_none
  | succ n ih => exact st_law_same T ih
theorem sc_law_completed : FnScope ["maybe_board", "completion", "board", "maybe", "gone", "k"] ["maybe_board", "completion"] (defScope s_law_completed) := ⟨rfl, rfl, rfl, by decide +kernel, rfl, by decide +kernel, by decide +kernel⟩
theorem ok_law_completed {P : Program} {w : World} {K : PySem.W.Frag} {mg : Str → Option Value} {base : Heap} {a : Nat → Addr} {fd : Nat → FuncData} (T : Txt K mg a fd) : FnOk P w K mg base CX0 1 (a 27) (fd 27) ["maybe_board", "completion"] (spOf ⟨P, w, K, fa a⟩ c_law_completed 2) :=
  fn_ruleD (fa := fa a) (k := 0) T.F_law_completed sc_law_completed fun cdv A outer s H E hr => (sss_cons (ss_set sc_law_completed.nd (i := 2) rfl (by first | exact Or.inl rfl | exact Or.inr rfl) (se_ix (sv 0) se_int))
    (sss_cons (ss_set sc_law_completed.nd (i := 3) rfl (by first | exact Or.inl rfl | exact Or.inr rfl) (se_ix (sv 0) se_int))
    (sss_cons (ss_set sc_law_completed.nd (i := 4) rfl (by first | exact Or.inl rfl | exact Or.inr rfl) (se_lc rfl sc_law_completed.nd (si_range1 (by rfl) T.z_range (sa_cons (se_callB call_len sem_len (by rfl) T.z_len rfl (sa_cons (sv 3) sa_nil)) sa_nil)) (blkOk_by (own := [("k", 5)]) (by kernel_rfl)) (fun _ _ _ _ _ => (sg_name sc_law_completed.nd (i := 5) rfl (by first | exact Or.inl rfl | exact Or.inr rfl))) (by decide) (fun _ _ _ _ _ => (sts_one (st_eq hr (se_ix (sv 1) (sv 5)) se_int))) (fun _ _ _ _ _ => (se_ix (sv 3) (sv 5)))))
    (sss_one (ss_ret (se_tup (sa_cons (se_ix (sv 2) se_int) (sa_cons (se_callTy call_tuple_of sem_tuple (by rfl) T.z_tuple rfl (sa_cons (se_lc rfl sc_law_completed.nd (si_range1 (by rfl) T.z_range (sa_cons (se_callB call_len sem_len (by rfl) T.z_len rfl (sa_cons (se_ix (sv 2) se_int) sa_nil)) sa_nil)) (blkOk_by (own := [("k", 5)]) (by kernel_rfl)) (fun _ _ _ _ _ => (sg_name sc_law_completed.nd (i := 5) rfl (by first | exact Or.inl rfl | exact Or.inr rfl))) (by decide) (fun _ _ _ _ _ => (sts_one (st_notIn hr (sv 5) (sv 4)))) (fun _ _ _ _ _ => (se_ix (se_ix (sv 2) se_int) (sv 5)))) sa_nil)) sa_nil)) (al_sz (n := 2) (by decide) (al_cons (al_cons al_nil)))))))))
theorem sc_law_right : FnScope ["maybe_board", "asked", "one"] ["maybe_board", "asked"] (defScope s_law_right) := ⟨rfl, rfl, rfl, by decide +kernel, rfl, by decide +kernel, by decide +kernel⟩
theorem ok_law_right {P : Program} {w : World} {K : PySem.W.Frag} {mg : Str → Option Value} {base : Heap} {a : Nat → Addr} {fd : Nat → FuncData} (T : Txt K mg a fd) : FnOk P w K mg base CX0 42 (a 28) (fd 28) ["maybe_board", "asked"] (spOf ⟨P, w, K, fa a⟩ c_law_right 2) :=
  fn_ruleD (fa := fa a) (k := 41) T.F_law_right sc_law_right fun cdv A outer s H E hr => (sss_cons (ss_if (st_not (st_val (se_call (ps := ["actual", "due"]) (ok_law_same T 40) (hr.mono (by decide)) (by rfl) T.g_law_same T.F_law_same.kp T.b_law_same (sa_cons (se_call (ps := ["maybe_board"]) (ok_completions T) (hr.mono (by decide)) (by rfl) T.g_completions T.F_completions.kp T.b_completions (sa_cons (sv 0) sa_nil)) (sa_cons (se_callTy call_tuple_of sem_tuple (by rfl) T.z_tuple rfl (sa_cons (se_call (ps := ["many"]) (ok_law_tuples T) (hr.mono (by decide)) (by rfl) T.g_law_tuples T.F_law_tuples.kp T.b_law_tuples (sa_cons (se_callB call_len sem_len (by rfl) T.z_len rfl (sa_cons (se_ix (sv 0) se_int) sa_nil)) sa_nil)) sa_nil)) sa_nil))))) (sss_one (ss_ret se_bl)) sss_nil)
    (sss_one (ss_ret (se_notIn hr se_bl (se_lc rfl sc_law_right.nd (si_seq (sv 1)) (blkOk_by (own := [("one", 2)]) (by kernel_rfl)) (fun _ _ _ _ _ => (sg_name sc_law_right.nd (i := 2) rfl (by first | exact Or.inl rfl | exact Or.inr rfl))) (by decide) (fun _ _ _ _ _ => sts_nil) (fun _ _ _ _ _ => (se_call (ps := ["actual", "due"]) (ok_law_same T 40) (hr.mono (by decide)) (by rfl) T.g_law_same T.F_law_same.kp T.b_law_same (sa_cons (se_call (ps := ["maybe_board", "completion"]) (ok_completed T) (hr.mono (by decide)) (by rfl) T.g_completed T.F_completed.kp T.b_completed (sa_cons (sv 0) (sa_cons (sv 2) sa_nil))) (sa_cons (se_call (ps := ["maybe_board", "completion"]) (ok_law_completed T) (hr.mono (by decide)) (by rfl) T.g_law_completed T.F_law_completed.kp T.b_law_completed (sa_cons (sv 0) (sa_cons (sv 2) sa_nil))) sa_nil)))))))))
theorem sc_law : FnScope ["script", "draws", "boards", "board", "first", "second", "maybe_board", "great", "order", "asked", "turn", "k"] ["script"] (defScope s_law) := ⟨rfl, rfl, rfl, by decide +kernel, rfl, by decide +kernel, by decide +kernel⟩
theorem ok_law {P : Program} {w : World} {K : PySem.W.Frag} {mg : Str → Option Value} {base : Heap} {a : Nat → Addr} {fd : Nat → FuncData} (T : Txt K mg a fd) : FnOk P w K mg base CX0 43 (a 29) (fd 29) ["script"] (spOf ⟨P, w, K, fa a⟩ c_law 1) :=
  fn_ruleD (fa := fa a) (k := 42) T.F_law sc_law fun cdv A outer s H E hr => (sss_cons (ss_set sc_law.nd (i := 1) rfl (by first | exact Or.inl rfl | exact Or.inr rfl) (SEm.al (so_call (ps := ["script", "many"]) (ok_law_draws T) (hr.mono (by decide)) (by rfl) T.g_law_draws T.F_law_draws.kp T.b_law_draws (sa_cons (sv 0) (sa_cons se_int sa_nil)))))
    (sss_cons (ss_set sc_law.nd (i := 2) rfl (by first | exact Or.inl rfl | exact Or.inr rfl) (se_call (ps := ["draws", "many", "most"]) (ok_law_boards T) (hr.mono (by decide)) (by rfl) T.g_law_boards T.F_law_boards.kp T.b_law_boards (sa_cons (sv 1) (sa_cons se_int (sa_cons se_int sa_nil)))))
    (sss_cons (ss_for PassesOwn.never rfl (si_seq (sv 2)) (sg_name sc_law.nd (i := 3) rfl (by first | exact Or.inl rfl | exact Or.inr rfl)) (sss_cons (ss_set sc_law.nd (i := 4) rfl (by first | exact Or.inl rfl | exact Or.inr rfl) (se_call (ps := ["draws", "board", "most"]) (ok_law_maybe_of T) (hr.mono (by decide)) (by rfl) T.g_law_maybe_of T.F_law_maybe_of.kp T.b_law_maybe_of (sa_cons (sv 1) (sa_cons (sv 3) (sa_cons se_int sa_nil)))))
    (sss_cons (ss_set sc_law.nd (i := 5) rfl (by first | exact Or.inl rfl | exact Or.inr rfl) (se_call (ps := ["draws", "board", "most"]) (ok_law_maybe_of T) (hr.mono (by decide)) (by rfl) T.g_law_maybe_of T.F_law_maybe_of.kp T.b_law_maybe_of (sa_cons (sv 1) (sa_cons (sv 3) (sa_cons se_int sa_nil)))))
    (sss_one (ss_for PassesOwn.never rfl (si_seq (se_lst (sa_cons (sv 4) (sa_cons (sv 5) (sa_cons (se_tup (sa_cons (sv 3) (sa_cons (se_tup sa_nil (al_sz (n := 0) (by decide) al_nil)) sa_nil)) (al_sz (n := 2) (by decide) (al_cons (al_cons al_nil)))) (sa_cons (sv 4) sa_nil)))) (al_sz (n := 4) (by decide) (al_cons (al_cons (al_cons (al_cons al_nil))))))) (sg_name sc_law.nd (i := 6) rfl (by first | exact Or.inl rfl | exact Or.inr rfl)) (sss_one (ss_if (st_not (st_val (se_call (ps := ["maybe_board", "asked"]) (ok_law_right T) (hr.mono (by decide)) (by rfl) T.g_law_right T.F_law_right.kp T.b_law_right (sa_cons (sv 6) (sa_cons (se_call (ps := ["many"]) (ok_law_tuples T) (hr.mono (by decide)) (by rfl) T.g_law_tuples T.F_law_tuples.kp T.b_law_tuples (sa_cons (se_callB call_len sem_len (by rfl) T.z_len rfl (sa_cons (se_ix (sv 6) se_int) sa_nil)) sa_nil)) sa_nil))))) (sss_one (ss_ret se_bl)) sss_nil)))))))
    (sss_cons (ss_set sc_law.nd (i := 7) rfl (by first | exact Or.inl rfl | exact Or.inr rfl) (se_call (ps := ["draws"]) (ok_law_great_board T) (hr.mono (by decide)) (by rfl) T.g_law_great_board T.F_law_great_board.kp T.b_law_great_board (sa_cons (sv 1) sa_nil)))
    (sss_cons (ss_set sc_law.nd (i := 8) rfl (by first | exact Or.inl rfl | exact Or.inr rfl) (se_call (ps := ["draws", "row"]) (ok_law_shuffled T) (hr.mono (by decide)) (by rfl) T.g_law_shuffled T.F_law_shuffled.kp T.b_law_shuffled (sa_cons (sv 1) (sa_cons (se_lc rfl sc_law.nd (si_range1 (by rfl) T.z_range (sa_cons (se_callB call_len sem_len (by rfl) T.z_len rfl (sa_cons (se_ix (sv 7) se_int) sa_nil)) sa_nil)) (blkOk_by (own := [("k", 11)]) (by kernel_rfl)) (fun _ _ _ _ _ => (sg_name sc_law.nd (i := 11) rfl (by first | exact Or.inl rfl | exact Or.inr rfl))) (by decide) (fun _ _ _ _ _ => sts_nil) (fun _ _ _ _ _ => (sv 11))) sa_nil))))
    (sss_cons (ss_set sc_law.nd (i := 9) rfl (by first | exact Or.inl rfl | exact Or.inr rfl) (SEm.al (se_lst (sa_cons (se_mul (se_tup (sa_cons se_int sa_nil) (al_sz (n := 1) (by decide) (al_cons al_nil))) se_int) (sa_cons (se_mul (se_tup (sa_cons se_int sa_nil) (al_sz (n := 1) (by decide) (al_cons al_nil))) se_int) sa_nil)) (al_sz (n := 2) (by decide) (al_cons (al_cons al_nil))))))
    (sss_cons (ss_for PassesOwn.never rfl (si_range1 (by rfl) T.z_range (sa_cons se_int sa_nil)) (sg_name sc_law.nd (i := 10) rfl (by first | exact Or.inl rfl | exact Or.inr rfl)) (sss_one (ss_expr (se_bm PySem.F.plainAttrs_list PySem.F.slot_list_append PySem.F.type_list_append mt_append sem_append (sv 9) (sa_cons (se_callTy call_tuple_of sem_tuple (by rfl) T.z_tuple rfl (sa_cons (se_lc rfl sc_law.nd (si_range1 (by rfl) T.z_range (sa_cons se_int sa_nil)) (blkOk_by (own := [("k", 11)]) (by kernel_rfl)) (fun _ _ _ _ _ => (sg_name sc_law.nd (i := 11) rfl (by first | exact Or.inl rfl | exact Or.inr rfl))) (by decide) (fun _ _ _ _ _ => sts_nil) (fun _ _ _ _ _ => (se_call (ps := ["draws", "many"]) (ok_law_take T) (hr.mono (by decide)) (by rfl) T.g_law_take T.F_law_take.kp T.b_law_take (sa_cons (sv 1) (sa_cons se_int sa_nil))))) sa_nil)) sa_nil)))))
    (sss_one (ss_ret (se_call (ps := ["maybe_board", "asked"]) (ok_law_right T) (hr.mono (by decide)) (by rfl) T.g_law_right T.F_law_right.kp T.b_law_right (sa_cons (se_tup (sa_cons (sv 7) (sa_cons (se_callTy call_tuple_of sem_tuple (by rfl) T.z_tuple rfl (sa_cons (se_callB cr_sortedI sem_sortI (by rfl) T.z_sorted rfl (sa_cons (se_sl (sv 8) sop_none (sop_some se_int)) sa_nil)) sa_nil)) sa_nil)) (al_sz (n := 2) (by decide) (al_cons (al_cons al_nil)))) (sa_cons (sv 9) sa_nil))))))))))))
end K76
set_option Elab.async false
set_option linter.all false
set_option maxRecDepth 100000
set_option autoImplicit false
set_option maxHeartbeats 1000000
namespace K76
open PySem L2 HS
section
variable {A E : Sto} {i : Nat} {ds : List Int}
theorem take_spec {m : Int} (h : A[i]? = some (IL ds)) (hm : 0 < m) : ∃ (k : Int) (ds' : List Int), c_law_take [.ref i, .int m] A = some (.int k, false, A.set i (IL ds')) ∧ 0 ≤ k ∧ k < m := by
  have hi : i < A.length := (List.getElem?_eq_some_iff.mp h).1
  unfold c_law_take m_law_take
  rw [q_calls]
  rcases List.eq_nil_or_concat ds with rfl | ⟨ds0, z, rfl⟩
  · refine ⟨0, [], ?_, Int.le_refl _, hm⟩
    simp [h, IL]
    try (unfold endF; rw [if_pos rfl])
    obtain ⟨hi, e⟩ := List.getElem?_eq_some_iff.mp h
    have : (D.lst []) = A[i] := e.symm
    rw [this, List.set_getElem_self]
  · refine ⟨z % m, ds0, ?_, Int.emod_nonneg _ (by omega), Int.emod_lt_of_pos _ hm⟩
    have hz : ¬ ((ds0.length : Int) + 1 = 0) := by omega
    simp [h, IL, hm, hz]
    unfold endF
    rw [if_pos (by simp)]
theorem take_W {m : Int} (hi : i < A.length) (hm : 0 < m) : ∃ (k : Int) (ds' : List Int), c_law_take [.ref i, .int m] (W A i ds E) = some (.int k, false, W A i ds' E) ∧ 0 ≤ k ∧ k < m := by
  obtain ⟨k, ds', h, h2⟩ := take_spec (A := W A i ds E) (W_i hi) hm
  rw [W_si hi] at h
  exact ⟨k, ds', h, h2⟩
/-- pick: any of a row -/
theorem pick_W {row : D} {xs : List D} (hi : i < A.length) (hr : row = .lst xs ∨ row = .tup xs) (hx : xs ≠ []) : ∃ (k : Nat) (x : D) (ds' : List Int), xs[k]? = some x ∧ c_law_pick [.ref i, row] (W A i ds E) = some (x, false, W A i ds' E) := by
  have hl : 0 < xs.length := List.length_pos_iff.mpr hx
  obtain ⟨k, ds', h, h1, h2⟩ := take_W (A := A) (E := E) (ds := ds) (m := (xs.length : Int)) hi (by omega)
  obtain ⟨n, rfl⟩ := Int.eq_ofNat_of_zero_le h1
  have hn : n < xs.length := by omega
  refine ⟨n, xs[n], ds', List.getElem?_eq_getElem hn, ?_⟩
  have hat : atI xs (n : Int) = some xs[n] := by
    unfold atI ixN
    rw [if_pos (by omega), if_pos (by omega)]
    simp [hn]
  have he : endF (W A i ds E) (W A i ds' E) xs[n] = some (xs[n], false, W A i ds' E) := by
    unfold endF
    rw [if_pos (by simp)]
  unfold c_law_pick m_law_pick
  rw [q_calls]
  rcases hr with rfl | rfl
  · simp [h, hat, he]
  · simp [h, hat, he]
end
end K76
set_option Elab.async false
set_option linter.all false
set_option maxRecDepth 100000
set_option autoImplicit false
set_option maxHeartbeats 1000000
namespace K76
open PySem L2 HS
theorem same_seq {A : Sto} {n : Nat} {x : D} {t : String} {xs : List D} (hs : seqOf A x = some xs) (ht : tyN A x = some t) (h1 : subTs t ["tuple", "list"] = some true) (h2 : ∃ b, subT t "tuple" = some b) (h3 : ∃ b, subT t "list" = some b) (hl : xs.length ≤ SZ)
    (hlen : ∀ S, bLen [x] S = lenK S (seqOf S x)) (hix : ∀ S (k : Int), oIx x (.int k) S = ixK S k (seqOf S x))
    (ih : ∀ y ∈ xs, c_law_same n [y, y] A = some (.bl true, false, A)) : c_law_same (n + 1) [x, x] A = some (.bl true, false, A) := by
  obtain ⟨b2, h2⟩ := h2
  obtain ⟨b3, h3⟩ := h3
  have i1 : bIsi [x, .tup [.ty "tuple", .ty "list"]] A = some (.bl true, A) := q_isis ht rfl h1
  have i2 : bIsi [x, .ty "tuple"] A = some (.bl b2, A) := q_isi ht h2
  have i3 : bIsi [x, .ty "list"] A = some (.bl b3, A) := q_isi ht h3
  have hc : k_law_same_1 (c_law_same n) [some x, some x, none] A = some (.lst ((List.range xs.length).map fun _ => .bl true), A) := by
    refine lc_all (as := List.range xs.length) (g := fun i => .int (0 + (i : Nat))) (chk := chkT) (by simp [hlen, hs, hl, rangeD]) trivial (by simpa using hl) fun k hk => ⟨_, rfl, rfl, ?_⟩
    have hk : k < xs.length := by simpa using hk
    have ha : atI xs (k : Int) = some xs[k] := atIn (List.getElem?_eq_getElem hk)
    simp [hix, hs, ha, ih xs[k] (List.getElem_mem hk)]
  have hb : oNotIn (.bl false) (.lst ((List.range xs.length).map fun _ => D.bl true)) A = some (.bl true, A) := by
    have := nin_bls (S := A) (bs := (List.range xs.length).map fun _ => true) (by simp)
    rwa [List.map_map] at this
  show callOf 3 (m_law_same (c_law_same n)) [x, x] A = _
  unfold m_law_same
  rw [q_calls]
  simp [i1, i2, i3, ne_bl, hlen, hs, hc, hb]
theorem same_spec {A : Sto} : ∀ (n : Nat) (x : D), sm n x = true → c_law_same (n + 1) [x, x] A = some (.bl true, false, A)
  | n, .tup xs, h => by
    cases n with
    | zero => simp [sm] at h
    | succ n =>
      simp only [sm, Bool.and_eq_true, decide_eq_true_eq, List.all_eq_true] at h
      exact same_seq (xs := xs) (t := "tuple") rfl rfl (by decide) ⟨true, by decide⟩ ⟨false, by decide⟩ h.1 (fun S => rfl) (fun S k => rfl) fun y hy => same_spec n y (h.2 y hy)
  | n, .lst xs, h => by
    cases n with
    | zero => simp [sm] at h
    | succ n =>
      simp only [sm, Bool.and_eq_true, decide_eq_true_eq, List.all_eq_true] at h
      exact same_seq (xs := xs) (t := "list") rfl rfl (by decide) ⟨false, by decide⟩ ⟨true, by decide⟩ h.1 (fun S => rfl) (fun S k => rfl) fun y hy => same_spec n y (h.2 y hy)
  | n, .non, h => by
    have e := eq_self_atom (S := A) h rfl
    have i1 : bIsi [.non, .tup [.ty "tuple", .ty "list"]] A = some (.bl false, A) := q_isis (t := "NoneType") rfl rfl (by decide)
    have i2 : bIsi [.non, .ty "bool"] A = some (.bl false, A) := q_isi (t := "NoneType") rfl (by decide)
    have i3 : bIsi [.non, .ty "int"] A = some (.bl false, A) := q_isi (t := "NoneType") rfl (by decide)
    have i4 : bIsi [.non, .ty "str"] A = some (.bl false, A) := q_isi (t := "NoneType") rfl (by decide)
    show callOf 3 (m_law_same (c_law_same n)) [_, _] A = _
    unfold m_law_same
    rw [q_calls]
    simp [i1, i2, i3, i4, ne_bl, e]
  | n, .bl b, h => by
    have e := eq_self_atom (S := A) h rfl
    have i1 : bIsi [.bl b, .tup [.ty "tuple", .ty "list"]] A = some (.bl false, A) := q_isis (t := "bool") rfl rfl (by decide)
    have i2 : bIsi [.bl b, .ty "bool"] A = some (.bl true, A) := q_isi (t := "bool") rfl (by decide)
    have i3 : bIsi [.bl b, .ty "int"] A = some (.bl true, A) := q_isi (t := "bool") rfl (by decide)
    have i4 : bIsi [.bl b, .ty "str"] A = some (.bl false, A) := q_isi (t := "bool") rfl (by decide)
    show callOf 3 (m_law_same (c_law_same n)) [_, _] A = _
    unfold m_law_same
    rw [q_calls]
    simp [i1, i2, i3, i4, ne_bl, e]
  | n, .int b, h => by
    have e := eq_self_atom (S := A) h rfl
    have i1 : bIsi [.int b, .tup [.ty "tuple", .ty "list"]] A = some (.bl false, A) := q_isis (t := "int") rfl rfl (by decide)
    have i2 : bIsi [.int b, .ty "bool"] A = some (.bl false, A) := q_isi (t := "int") rfl (by decide)
    have i3 : bIsi [.int b, .ty "int"] A = some (.bl true, A) := q_isi (t := "int") rfl (by decide)
    have i4 : bIsi [.int b, .ty "str"] A = some (.bl false, A) := q_isi (t := "int") rfl (by decide)
    show callOf 3 (m_law_same (c_law_same n)) [_, _] A = _
    unfold m_law_same
    rw [q_calls]
    simp [i1, i2, i3, i4, ne_bl, e]
  | n, .str b, h => by
    have e := eq_self_atom (S := A) h rfl
    have i1 : bIsi [.str b, .tup [.ty "tuple", .ty "list"]] A = some (.bl false, A) := q_isis (t := "str") rfl rfl (by decide)
    have i2 : bIsi [.str b, .ty "bool"] A = some (.bl false, A) := q_isi (t := "str") rfl (by decide)
    have i3 : bIsi [.str b, .ty "int"] A = some (.bl false, A) := q_isi (t := "str") rfl (by decide)
    have i4 : bIsi [.str b, .ty "str"] A = some (.bl true, A) := q_isi (t := "str") rfl (by decide)
    show callOf 3 (m_law_same (c_law_same n)) [_, _] A = _
    unfold m_law_same
    rw [q_calls]
    simp [i1, i2, i3, i4, ne_bl, e]
  | n, .scr _, h => by cases n <;> simp [sm] at h
  | n, .dic _, h => by cases n <;> simp [sm] at h
  | n, .ins _ _, h => by cases n <;> simp [sm] at h
  | n, .ref _, h => by cases n <;> simp [sm] at h
  | n, .fn _, h => by cases n <;> simp [sm] at h
  | n, .ty _, h => by cases n <;> simp [sm] at h
end K76
set_option Elab.async false
set_option linter.all false
set_option maxRecDepth 100000
set_option autoImplicit false
set_option maxHeartbeats 1000000
namespace K76
open PySem L2 HS
theorem mod_small (x : Int) : smallI (x % 2147483647) = true := by
  have h1 := Int.emod_nonneg x (show (2147483647 : Int) ≠ 0 by decide)
  have h2 := Int.emod_lt_of_pos x (show (0 : Int) < 2147483647 by decide)
  unfold smallI
  rw [Bool.and_eq_true, decide_eq_true_eq, decide_eq_true_eq]
  generalize x % 2147483647 = y at *
  constructor
  · have : (-(2 ^ 64) : Int) = -18446744073709551616 := by decide
    omega
  · have : (2 ^ 64 : Int) = 18446744073709551616 := by decide
    omega
theorem draws_k {S : Sto} {ns : List Int} {many : D} (hn : ns.length ≤ 63) : k_law_draws_1 [some (.scr (ns.map D.int)), some many, none, none, none, none, none, none, none] S = some (.lst (ns.map D.int), S) := by
  have hz : (63 : Nat) ≤ SZ := by decide
  refine lc_all (as := ns) (g := D.int) (chk := chkS (.scr (ns.map D.int)) (ns.map D.int)) (by simp) (by simp) (by omega) fun n hn => ⟨_, rfl, rfl, ?_⟩
  simp
theorem draws_body {A : Sto} {scr many : D} {cs ls dr : List Int} {k : Nat} {p m : Option D} (hc : 0 < cs.length) (hl : ls.length = cs.length) (hd : dr.length < SZ) : ∃ (p' m' : Option D) (ls' : List Int) (x : Int), b_law_draws_1 [some scr, some many, some (.ref A.length), some (.ref (A.length + 1)), some (.ref (A.length + 2)), some (.int k), p, m, none] (V A [.lst (cs.map .int), .lst (ls.map .int), .lst (dr.map .int)]) =
    some (.nx, [some scr, some many, some (.ref A.length), some (.ref (A.length + 1)), some (.ref (A.length + 2)), some (.int k), p', m', none], V A [.lst (cs.map .int), .lst (ls'.map .int), .lst ((dr ++ [x]).map .int)]) ∧ ls'.length = cs.length := by
  have hj : k % cs.length < cs.length := Nat.mod_lt _ hc
  have hm : (k : Int) % (cs.length : Int) = ((k % cs.length : Nat) : Int) := rfl
  obtain ⟨c, e1⟩ : ∃ c, cs[k % cs.length]? = some c := ⟨_, List.getElem?_eq_getElem hj⟩
  obtain ⟨l, e2⟩ : ∃ l, ls[k % cs.length]? = some l := ⟨_, List.getElem?_eq_getElem (by rw [hl]; exact hj)⟩
  have a1 : atI (cs.map D.int) ((k % cs.length : Nat) : Int) = some (.int c) := atIn (by rw [List.getElem?_map, e1]; rfl)
  have a2 : atI (ls.map D.int) ((k % cs.length : Nat) : Int) = some (.int l) := atIn (by rw [List.getElem?_map, e2]; rfl)
  have a3 : ixN ls.length ((k % cs.length : Nat) : Int) = some (k % cs.length) := by
    unfold ixN
    rw [if_pos (by omega), if_pos (by omega)]
    rfl
  have p18 : ∀ S, oPow (.int 10) (.int 18) S = some (.int (10 ^ 18), S) := fun S => q_pow (by decide)
  generalize hC : (10 : Int) ^ 18 = C at p18
  clear e1 e2 hC
  generalize k % cs.length = j at hm a1 a2 a3
  have hc2 : (0 : Int) < cs.length := by omega
  have m1 : ∀ S, oMul (.int c) (.int 48271) S = some (.int (c * 48271), S) := fun S => q_mul (.inr (by decide))
  have m2 : ∀ S, oMul (.int (k : Int)) (.int 69621) S = some (.int (k * 69621), S) := fun S => q_mul (.inr (by decide))
  obtain ⟨M, hM⟩ : ∃ M, M = (c * 48271 + k * 69621 + 11) % 2147483647 := ⟨_, rfl⟩
  have hMs : smallI M = true := by rw [hM]; exact mod_small _
  have m3 : ∀ S, oMod (.int (c * 48271 + k * 69621 + 11)) (.int 2147483647) S = some (.int M, S) := fun S => by rw [q_mod (by decide), hM]
  have m4 : ∀ S, oMul (.int M) (.int M) S = some (.int (M * M), S) := fun S => q_mul (.inl hMs)
  have m5 : ∀ S, oMul (.int 3) (.int M) S = some (.int (3 * M), S) := fun S => q_mul (.inl (by decide))
  obtain ⟨y, hy⟩ : ∃ y, y = (M * M + 3 * M + k) % 1000003 := ⟨_, rfl⟩
  have m6 : ∀ S, oMod (.int (M * M + 3 * M + k)) (.int 1000003) S = some (.int y, S) := fun S => by rw [q_mod (by decide), hy]
  clear hM hy hMs
  by_cases h1 : C ≤ c
  · by_cases h2 : 0 < l
    · refine ⟨some (.int j), m, ls.set j (l / 1000), l % 1000, ?_, by simp [hl]⟩
      unfold b_law_draws_1
      simp [hc, hc2, hm, a1, a2, a3, p18, h1, h2, hd]
    · refine ⟨some (.int j), some (.int M), ls, y, ?_, hl⟩
      unfold b_law_draws_1
      simp [hc, hc2, hm, a1, a2, a3, p18, h1, h2, hd, m1, m2, m3, m4, m5, m6]
  · refine ⟨some (.int j), some (.int M), ls, y, ?_, hl⟩
    unfold b_law_draws_1
    simp [hc, hc2, hm, a1, a2, a3, p18, h1, hd, m1, m2, m3, m4, m5, m6]
theorem draws_loop {A : Sto} {scr : D} {cs ls : List Int} {many : Nat} (hc : 0 < cs.length) (hl : ls.length = cs.length) (hm : many < SZ) : ∃ (η' : HS.Env) (ls' dr : List Int), l_law_draws_1 [some scr, some (.int many), some (.ref A.length), some (.ref (A.length + 1)), some (.ref (A.length + 2)), none, none, none, none] (V A [.lst (cs.map .int), .lst (ls.map .int), .lst []]) =
    some (.nx, η', V A [.lst (cs.map .int), .lst (ls'.map .int), .lst (dr.map .int)]) ∧ η'[4]? = some (some (.ref (A.length + 2))) := by
  obtain ⟨η', S', h1, ls', dr, q, p, m, rfl, _, _, rfl⟩ := for_ind (it := iRange1 (aCons (eVar 1) aNil)) (tg := HS.gN 5) (body := b_law_draws_1) (η := [some scr, some (.int many), some (.ref A.length), some (.ref (A.length + 1)), some (.ref (A.length + 2)), none, none, none, none]) (S := V A [.lst (cs.map .int), .lst (ls.map .int), .lst []]) (S0 := V A [.lst (cs.map .int), .lst (ls.map .int), .lst []]) (xs := rangeD 0 many) (chk := chkT)
    (fun k η S => ∃ (ls' dr : List Int) (q p m : Option D), S = V A [.lst (cs.map .int), .lst (ls'.map .int), .lst (dr.map .int)] ∧ ls'.length = cs.length ∧ dr.length = k ∧ η = [some scr, some (.int many), some (.ref A.length), some (.ref (A.length + 1)), some (.ref (A.length + 2)), q, p, m, none])
    (by simp [Nat.le_of_lt hm]) ⟨ls, [], none, none, none, rfl, hl, rfl, rfl⟩ (fun _ _ _ _ _ => trivial) (fun k x η S hx ⟨ls', dr, q, p, m, h1, h2, h3, h4⟩ => by
      obtain ⟨hk, rfl⟩ := rangeD_get hx
      subst h1 h4
      obtain ⟨p', m', ls2, y, h5, h6⟩ := draws_body (A := A) (scr := scr) (many := .int many) (cs := cs) (ls := ls') (dr := dr) (k := k) (p := p) (m := m) hc h2 (by omega)
      exact ⟨_, _, _, rfl, .inl h5, ls2, dr ++ [y], _, p', m', rfl, h6, by simp [h3], rfl⟩)
  exact ⟨_, ls', dr, h1, rfl⟩
theorem draws_spec {A : Sto} {ns : List Int} {many : Nat} (hn : ns.length ≤ 63) (hm : many < SZ) : ∃ ds : List Int, c_law_draws [.scr (ns.map D.int), .int many] A = some (.lst (ds.map D.int), true, A) := by
  have fin : ∀ (cs : List Int), 0 < cs.length → ∃ ds : List Int, endK A (seqK (sSeq l_law_draws_1 (sSeq (sExp (eM0 "list" mReverse (eVar 4))) (sRet (eVar 4)))) (some (.nx, [some (.scr (ns.map D.int)), some (.int many), some (.ref A.length), some (.ref (A.length + 1)), some (.ref (A.length + 2)), none, none, none, none], V A [.lst (cs.map .int), .lst (cs.map .int), .lst []]))) = some (.lst (ds.map D.int), true, A) := fun cs hc => by
    obtain ⟨η', ls', dr, h1, h2⟩ := draws_loop (A := A) (scr := .scr (ns.map D.int)) (cs := cs) (ls := cs) hc rfl hm
    refine ⟨dr.reverse, ?_⟩
    simp [h1, h2]
    rw [end_Vr (n := 1) (c := .lst (dr.map D.int).reverse) rfl (by simp [pl])]
  unfold c_law_draws m_law_draws
  rw [callsV]
  by_cases h0 : ns = []
  · subst h0
    obtain ⟨ds, h⟩ := fin [0] (by simp)
    refine ⟨ds, ?_⟩
    rw [← h]
    have hk := draws_k (S := HS.V A []) (ns := []) (many := .int many) (by simp)
    simp at hk
    have z0 : 0 < SZ := by decide
    simp [hk, z0]
  · obtain ⟨ds, h⟩ := fin ns (List.length_pos_iff.mpr h0)
    refine ⟨ds, ?_⟩
    rw [← h]
    have hk := draws_k (S := HS.V A []) (many := .int many) hn
    simp [hk, h0]
end K76
set_option Elab.async false
set_option linter.all false
set_option maxRecDepth 100000
set_option autoImplicit false
set_option maxHeartbeats 1000000
namespace K76
open PySem L2 HS
abbrev Row := List Val
abbrev Piece := Tx × Row
abbrev Sup := List Piece
section
variable {A E : Sto} {i : Nat} {ds : List Int}
/-! keys -/
def kV : Val → D
  | .num a => .tup [.int 0, .int a, .str ""]
  | .txt x => .tup [.int 1, .int 0, .str x.1]
def pV : Val → PyData
  | .num a => .tuple [.int 0, .int a, .str ""]
  | .txt x => .tuple [.int 1, .int 0, .str x.1]
def kR (r : Row) : D := .tup (r.map kV)
def pR (r : Row) : PyData := .tuple (r.map pV)
def kP (p : Piece) : D := .tup [.str p.1.1, kR p.2]
def pP (p : Piece) : PyData := .tuple [.str p.1.1, pR p.2]
def kS (s : Sup) : D := .tup (s.map kP)
def pS (s : Sup) : PyData := .tuple (s.map pP)
theorem valkey_spec (v : Val) : c_law_value_key [dv v] A = some (kV v, false, A) := by
  unfold c_law_value_key m_law_value_key
  rw [callsV]
  cases v with
  | num a =>
    have h : ∀ S, bIsi [.int a, .ty "str"] S = some (.bl false, S) := fun S => q_isi (t := "int") rfl (by decide)
    simp [dv, DV.d, h, V_out, kV]
  | txt x =>
    have h : ∀ S, bIsi [.str x.1, .ty "str"] S = some (.bl true, S) := fun S => q_isi (t := "str") rfl (by decide)
    simp [dv, DV.d, h, V_out, kV]
theorem rowkey_spec {r : Row} (hz : r.length ≤ SZ) : c_law_row_key [dv r] A = some (kR r, false, A) := by
  have hk : ∀ S, k_law_row_key_1 [some (dv r), none] S = some (.lst (r.map kV), S) := fun S => by
    refine lc_all (as := r) (g := dv) (chk := chkS (dv r) (r.map dv)) (by simp [dv, DV.d]) rfl hz fun v hv => ⟨_, rfl, rfl, ?_⟩
    simp [valkey_spec]
  unfold c_law_row_key m_law_row_key
  rw [callsV]
  simp [hk, V_out, kR]
theorem stkey_spec {p : Piece} (hz : p.2.length ≤ SZ) : c_law_statement_key [dv p] A = some (kP p, false, A) := by
  have e : dv p = .tup [.str p.1.1, dv p.2] := rfl
  unfold c_law_statement_key m_law_statement_key
  rw [callsV, e]
  simp [rowkey_spec hz, V_out, kP]
theorem setkey_spec {s : Sup} (hz : s.length ≤ SZ) (hp : ∀ p ∈ s, p.2.length ≤ SZ) : c_law_set_key [dv s] A = some (kS s, false, A) := by
  have hk : ∀ S, k_law_set_key_1 [some (dv s), none] S = some (.lst (s.map kP), S) := fun S => by
    refine lc_all (as := s) (g := dv) (chk := chkS (dv s) (s.map dv)) (by simp [dv, DV.d]) rfl hz fun v hv => ⟨_, rfl, rfl, ?_⟩
    simp [stkey_spec (hp v hv)]
  unfold c_law_set_key m_law_set_key
  rw [callsV]
  simp [hk, V_out, kS]
end
end K76
set_option Elab.async false
set_option linter.all false
set_option maxRecDepth 100000
set_option autoImplicit false
set_option maxHeartbeats 1000000
namespace K76
open PySem L2 HS
section
variable {A E S : Sto} {i : Nat} {ds : List Int}
theorem py_all {α : Type} {k : α → D} {p : α → PyData} (h : ∀ x, pyD S (k x) = some (p x)) : ∀ xs : List α, pyAll S (xs.map k) = some (xs.map p)
  | [] => rfl
  | x :: xs => by rw [List.map_cons, pyAll, h, py_all h xs]; rfl
theorem pyV (v : Val) : pyD S (kV v) = some (pV v) := by cases v <;> rfl
theorem pyRw (r : Row) : pyD S (kR r) = some (pR r) := by
  unfold kR pR
  rw [pyD, py_all pyV]; rfl
theorem pyP (p : Piece) : pyD S (kP p) = some (pP p) := by
  unfold kP pP
  rw [pyD, pyAll, pyAll, pyAll, pyRw]; rfl
theorem pyS (s : Sup) : pyD S (kS s) = some (pS s) := by
  unfold kS pS
  rw [pyD, py_all pyP]; rfl
theorem al_all {α : Type} {p : α → PyData} (h : ∀ x y, PySem.W.alike (p x) (p y) = true) : ∀ xs ys : List α, PySem.W.alikeAll (xs.map p) (ys.map p) = true
  | [], _ => by simp [PySem.W.alikeAll]
  | _ :: _, [] => by simp [PySem.W.alikeAll]
  | x :: xs, y :: ys => by simp [PySem.W.alikeAll, h, al_all h xs ys]
theorem alV (v u : Val) : PySem.W.alike (pV v) (pV u) = true := by cases v <;> cases u <;> simp [pV, PySem.W.alike, PySem.W.alikeAll]
theorem alR (v u : Row) : PySem.W.alike (pR v) (pR u) = true := by simp [pR, PySem.W.alike, al_all alV]
theorem alP (v u : Piece) : PySem.W.alike (pP v) (pP u) = true := by simp [pP, PySem.W.alike, PySem.W.alikeAll, alR]
theorem alS (v u : Sup) : PySem.W.alike (pS v) (pS u) = true := by simp [pS, PySem.W.alike, al_all alP]
theorem dp_all {α : Type} {p : α → PyData} {n : Nat} (h : ∀ x, (p x).depth ≤ n) : ∀ xs : List α, PyData.depthAll (xs.map p) ≤ n
  | [] => by simp [PyData.depthAll]
  | x :: xs => by
    rw [List.map_cons, PyData.depthAll]
    exact Nat.max_le.mpr ⟨h x, dp_all h xs⟩
theorem dpV (v : Val) : (pV v).depth ≤ 1 := by cases v <;> simp [pV, PyData.depth, PyData.depthAll]
theorem dpR (v : Row) : (pR v).depth ≤ 2 := by
  rw [pR, PyData.depth]
  exact Nat.succ_le_succ (dp_all dpV v)
theorem dpP (v : Piece) : (pP v).depth ≤ 3 := by
  have := dpR v.2
  rw [pP, PyData.depth, PyData.depthAll, PyData.depthAll, PyData.depthAll, PyData.depth]
  omega
theorem dpS (v : Sup) : (pS v).depth ≤ 4 := by
  rw [pS, PyData.depth]
  exact Nat.succ_le_succ (dp_all dpP v)
/-! _law_set -/
/-- rows that are not too long -/
def okP (p : Piece) : Prop := p.2.length ≤ SZ
theorem sortP {e : D} {ps : List Piece} (hp : ∀ p ∈ ps, okP p) (hz : ps.length ≤ SZ) (hl : lstOf S e = some (ps.map dv)) : bSortK c_law_statement_key e S = some (.lst ((srt pP ps).map dv), S) :=
  bSortK_spec (kD := kP) (fun p h => ⟨false, stkey_spec (hp p h)⟩) pyP alP (fun p => ⟨_, rfl⟩) (fun p => Nat.le_trans (dpP p) (by decide)) hz hl
def setP (ps : List Piece) : Sup := dd (srt pP ps)
theorem set_body {f : List Piece} {x : Piece} {s q : D} {o : Option D} (hf : f.length < SZ) : b_law_set_1 [some s, some (.ref A.length), some (dv x)] (V A [.lst (f.map dv)]) = some (.nx, [some s, some (.ref A.length), some (dv x)], V A [.lst ((ddF f x).map dv)]) := by
  unfold b_law_set_1
  rcases List.eq_nil_or_concat f with rfl | ⟨g, y, rfl⟩
  · have z0 : 0 < SZ := by decide
    simp [z0, ddF]
  · have h1 : ¬ ((g.length : Int) + 1 = 0) := by omega
    have h2 : atI (g.map dv ++ [dv y]) (-1) = some (dv y) := atI_last
    have h3 := fun S => q_ne (S := S) y x (by decide)
    by_cases h : y = x
    · subst h
      simp [h1, h2, h3, ddF]
    · have hf2 : g.length + 1 < SZ := by simpa using hf
      simp [h1, h2, h3, h, ddF, hf2]
theorem set_spec {e : D} {ps : List Piece} (hp : ∀ p ∈ ps, okP p) (hz : ps.length < SZ) (hl : lstOf A e = some (ps.map dv)) : c_law_set [e] A = some (dv (setP ps), false, A) := by
  have hs : bSortK c_law_statement_key e (V A [.lst []]) = some (.lst ((srt pP ps).map dv), V A [.lst []]) := sortP hp (Nat.le_of_lt hz) (lst_V hl)
  obtain ⟨η', S', h1, f, o, h2, rfl, rfl⟩ := for_ind (it := iE (eSortK c_law_statement_key (eVar 0))) (tg := HS.gN 2) (body := b_law_set_1) (η := [some e, some (.ref A.length), none]) (S := V A [.lst []]) (S0 := V A [.lst []]) (xs := (srt pP ps).map dv) (chk := chkS (.lst ((srt pP ps).map dv)) ((srt pP ps).map dv))
    (fun k η S => ∃ (f : List Piece) (o : Option D), f = ((srt pP ps).take k).foldl ddF [] ∧ η = [some e, some (.ref A.length), o] ∧ S = V A [.lst (f.map dv)])
    (by simp [hs]) ⟨[], none, rfl, rfl, rfl⟩ (fun _ _ _ _ _ => rfl) (fun k x η S hx ⟨f, o, h1, h2, h3⟩ => by
      subst h2 h3
      rw [List.getElem?_map] at hx
      obtain ⟨p, h4, rfl⟩ := Option.map_eq_some_iff.mp hx
      have hf : f.length < SZ := by
        have := dd_len ((srt pP ps).take k) []
        rw [← h1] at this
        simp at this
        omega
      refine ⟨_, _, _, rfl, .inl (set_body hf (q := e) (o := o)), ddF f p, _, ?_, rfl, rfl⟩
      rw [List.take_add_one, h4, List.foldl_append, ← h1]
      rfl)
  have h3 : f = setP ps := by
    rw [h2, List.take_of_length_le (by simp)]
    rfl
  unfold c_law_set m_law_set
  rw [callsV]
  have h1' : l_law_set_1 [some e, some (.ref A.length), none] (V A [.lst []]) = _ := h1
  simp [h1', h3]
  exact end_V (n := 3) (DV.hpl (setP ps)) (by decide)
end
end K76
set_option Elab.async false
set_option linter.all false
set_option maxRecDepth 100000
set_option autoImplicit false
set_option maxHeartbeats 1000000
namespace K76
open PySem L2 HS
section
variable {A E S : Sto} {i : Nat} {ds : List Int}
/-! _law_within -/
def within (p w : Sup) : Bool := p.all fun x => decide (x ∈ w)
theorem within_spec {p w : Sup} (hz : p.length ≤ SZ) : c_law_within [dv p, dv w] A = some (.bl (within p w), false, A) := by
  have hk : ∀ S, k_law_within_1 [some (dv p), some (dv w), none] S = some (.lst ((p.map fun x => decide (x ∈ w)).map D.bl), S) := fun S => by
    rw [List.map_map]
    refine lc_all (as := p) (g := dv) (f := fun x => .bl (decide (x ∈ w))) (chk := chkS (dv p) (p.map dv)) (by simp [dv, DV.d]) rfl hz fun v hv => ⟨_, rfl, rfl, ?_⟩
    have h := fun S => q_int (S := S) v w (by decide)
    simp [h]
  unfold c_law_within m_law_within
  rw [callsV]
  simp only [q_ret, q_bin, q_c, binK_, List.map_cons, List.map_nil, List.length_cons, List.length_nil, List.cons_append, List.nil_append]
  have e : List.replicate (3 - (0 + 1 + 1)) (none : Option D) = [none] := rfl
  rw [e, hk]
  simp only [binK2_, nin_bl, retK_, endK_r, V_out, end_self]
  congr 3
  unfold within
  rw [List.any_map, Bool.eq_iff_iff]
  simp
/-! _law_thinned -/
def thinF (ss : List Sup) (f : List Sup) (one : Sup) : List Sup := if one ∈ f ∨ ∃ o ∈ ss, o ≠ one ∧ within o one = true then f else f ++ [one]
def thin (ss : List Sup) : List Sup := (srt pS ss).foldl (thinF ss) []
def okS (s : Sup) : Prop := s.length ≤ SZ ∧ ∀ p ∈ s, okP p
theorem thin_k {ss : List Sup} {one : Sup} {e : D} (hs : ∀ s ∈ ss, okS s) (hz : ss.length ≤ SZ) (he : e = .lst (ss.map dv)) {S : Sto} {r : D} : k_law_thinned_1 [some e, some r, some (dv one), none] S = some (.lst ((ss.map fun o => !decide (o = one) && within o one).map D.bl), S) := by
  subst he
  rw [List.map_map]
  refine lc_all (as := ss) (g := dv) (f := fun o => .bl (!decide (o = one) && within o one)) (chk := chkS (.lst (ss.map dv)) (ss.map dv)) (by simp) rfl hz fun o ho => ⟨_, rfl, rfl, ?_⟩
  have h := fun S => q_ne (S := S) o one (by decide)
  have h2 := fun S => within_spec (A := S) (w := one) (hs o ho).1
  by_cases hoo : o = one
  · subst hoo
    simp [h]
  · simp [h, h2, hoo]
theorem thin_body {ss f : List Sup} {one : Sup} {e : D} (hs : ∀ s ∈ ss, okS s) (hz : ss.length ≤ SZ) (he : e = .lst (ss.map dv)) (hf : f.length < SZ) {A : Sto} : b_law_thinned_1 [some e, some (.ref A.length), some (dv one), none] (V A [.lst (f.map dv)]) = some (.nx, [some e, some (.ref A.length), some (dv one), none], V A [.lst ((thinF ss f one).map dv)]) := by
  have h1 := q_ninl (S := V A [.lst (f.map dv)]) one (e := .ref A.length) f (by decide) (by simp)
  have h2 := thin_k (one := one) hs hz he (S := V A [.lst (f.map dv)]) (r := .ref A.length)
  have h3 : ((ss.map fun o => !decide (o = one) && within o one).any fun b => b == true) = decide (∃ o ∈ ss, o ≠ one ∧ within o one = true) := by
    rw [List.any_map, Bool.eq_iff_iff, decide_eq_true_iff]
    simp
  unfold b_law_thinned_1 thinF
  by_cases a : one ∈ f
  · simp [h1, a]
  · by_cases b : ∃ o ∈ ss, o ≠ one ∧ within o one = true
    · simp only [b, decide_true] at h3
      have h4 : ∀ S, oNotIn (.bl true) (.lst ((ss.map fun o => !decide (o = one) && within o one).map D.bl)) S = some (.bl false, S) := fun S => by rw [nin_bl, h3]; rfl
      simp [-List.map_map, h1, a, h2, h4, b]
    · simp only [b, decide_false] at h3
      have h4 : ∀ S, oNotIn (.bl true) (.lst ((ss.map fun o => !decide (o = one) && within o one).map D.bl)) S = some (.bl true, S) := fun S => by rw [nin_bl, h3]; rfl
      simp [-List.map_map, h1, a, h2, h4, b, hf]
theorem thinF_len (ss f : List Sup) (x : Sup) : (thinF ss f x).length ≤ f.length + 1 := by
  unfold thinF
  split <;> simp
theorem thin_spec {ss : List Sup} {e : D} (hs : ∀ s ∈ ss, okS s) (hz : ss.length < SZ) (he : e = .lst (ss.map dv)) : c_law_thinned [e] A = some (dv (thin ss), false, A) := by
  have hsr : ∀ S, bSortK c_law_set_key e S = some (.lst ((srt pS ss).map dv), S) := fun S => bSortK_spec (kD := kS) (fun s h => ⟨false, setkey_spec (hs s h).1 (hs s h).2⟩) pyS alS (fun p => ⟨_, rfl⟩) (fun p => Nat.le_trans (dpS p) (by decide)) (Nat.le_of_lt hz) (by rw [he]; rfl)
  obtain ⟨o, h1, _⟩ := for_fold (it := iE (eSortK c_law_set_key (eVar 0))) (tg := HS.gN 2) (body := b_law_thinned_1) (S0 := V A [.lst []]) (as := srt pS ss) (g := dv) (b0 := []) (o0 := none) (chk := chkS (.lst ((srt pS ss).map dv)) ((srt pS ss).map dv)) (thinF ss) (fun f => V A [.lst (f.map dv)]) (fun o => [some e, some (.ref A.length), o, none]) (fun k f => f.length ≤ k)
    (by simp [hsr]) (fun _ => rfl) (fun _ _ => rfl) (Nat.le_refl _) (fun k s f hk hf => by
      have hk2 := (List.getElem?_eq_some_iff.mp hk).1
      rw [srt_len] at hk2
      exact ⟨thin_body hs (Nat.le_of_lt hz) he (by omega), Nat.le_trans (thinF_len _ _ _) (by omega)⟩)
  have h1' : l_law_thinned_1 [some e, some (.ref A.length), none, none] (V A [.lst []]) = _ := h1
  unfold c_law_thinned m_law_thinned
  rw [callsV]
  simp [h1']
  exact end_V (n := 4) (DV.hpl (thin ss)) (by decide)
end
end K76
set_option Elab.async false
set_option linter.all false
set_option maxRecDepth 100000
set_option autoImplicit false
set_option maxHeartbeats 1000000
namespace K76
open PySem L2 HS
section
variable {A E S : Sto} {i : Nat} {ds : List Int}
/-- pick of typed things -/
theorem pick_T {α : Type} [DV α] {row : D} {xs : List α} (hi : i < A.length) (hr : row = .lst (xs.map dv) ∨ row = .tup (xs.map dv)) (hx : xs ≠ []) : ∃ (x : α) (ds' : List Int), x ∈ xs ∧ c_law_pick [.ref i, row] (W A i ds E) = some (dv x, false, W A i ds' E) := by
  obtain ⟨k, y, ds', h1, h2⟩ := pick_W (A := A) (E := E) (ds := ds) (row := row) (xs := xs.map dv) hi hr (by simpa using hx)
  rw [List.getElem?_map] at h1
  obtain ⟨x, h3, rfl⟩ := Option.map_eq_some_iff.mp h1
  exact ⟨x, ds', List.mem_of_getElem? h3, h2⟩
/-! words -/
def abc : Str := "abcdefghijklmnopqrstuvwxyz"
theorem abc_all : (List.range 26).all (fun k => match atI abc.cps.toList (k : Int) with | some c => decide (c < 1114112) | none => false) = true := by decide +kernel
theorem abc_at {k : Nat} (hk : k < 26) : ∃ c : Nat, oIx (.str abc) (.int k) S = some (.str ⟨#[c]⟩, S) ∧ c < 1114112 := by
  have h := List.all_eq_true.mp abc_all k (by simpa using hk)
  split at h
  · rename_i c hc
    refine ⟨c, ?_, by simpa using h⟩
    have hl : abc.length ≤ SZ := by decide +kernel
    show (if abc.length ≤ SZ then (atI abc.cps.toList (k : Int)).bind fun c => some (D.str ⟨#[c]⟩, S) else none) = _
    rw [if_pos hl, hc]; rfl
  · cases h
/-- joined letters -/
theorem strsOf_tx : ∀ ws : List Tx, strsOf (ws.map dv) = some (ws.map (·.1))
  | [] => rfl
  | w :: ws => by
    rw [List.map_cons]
    show (strsOf (ws.map dv)).map _ = _
    rw [strsOf_tx ws]; rfl
theorem strOk_app {a b : Str} (ha : PyData.strOk a = true) (hb : PyData.strOk b = true) : PyData.strOk (a ++ b) = true := by
  show (a.cps ++ b.cps).all _ = true
  rw [Array.all_append]
  unfold PyData.strOk at ha hb
  rw [ha, hb]; rfl
theorem strOk_join {y : Str} (hy : PyData.strOk y = true) : ∀ ws : List Tx, PyData.strOk (Str.join y (ws.map (·.1))) = true
  | [] => (by decide +kernel : PyData.strOk Str.empty = true)
  | [w] => w.2
  | w :: u :: r => by
    show PyData.strOk (w.1 ++ y ++ Str.join y ((u :: r).map (·.1))) = true
    exact strOk_app (strOk_app w.2 hy) (strOk_join hy (u :: r))
/-- joined with nothing between -/
def glue (ws : List Tx) : Tx := ⟨Txt.join "" (ws.map (·.1)), by
  rw [show Txt.join "" (ws.map (·.1)) = Str.join "" (ws.map (·.1)) from StrLaws.glued_eq_join _ _]
  exact strOk_join (by decide +kernel) ws⟩
theorem glue_len (ws : List Tx) : (glue ws).1.length = (ws.map (·.1.length)).sum := by
  show (Builtin.Str.glued "" (ws.map (·.1))).length = _
  rw [size_glued, List.map_map]
  have : ("" : Str).length = 0 := by decide
  rw [this]
  rfl
theorem sum_le {α : Type} {f : α → Nat} {b : Nat} : ∀ {l : List α}, (∀ x ∈ l, f x ≤ b) → (l.map f).sum ≤ l.length * b
  | [], _ => by simp
  | x :: l, h => by
    have := sum_le (l := l) fun y hy => h y (List.mem_cons_of_mem _ hy)
    have h2 := h x List.mem_cons_self
    rw [List.map_cons, List.sum_cons, List.length_cons, Nat.succ_mul]
    omega
theorem join_T {ws : List Tx} (hl : ∀ w ∈ ws, w.1.length ≤ 1) (hz : ws.length ≤ 1000) : mJoin (.str "") [.lst (ws.map dv)] S = some (dv (glue ws), S) := by
  show ((lstOf S (.lst (ws.map dv))).bind fun xs => (strsOf xs).bind fun zs => if (zs.map (·.length)).sum + zs.length * ("" : Str).length ≤ SZ then some (D.str (Txt.join "" zs), S) else none) = _
  rw [q_lo1, Option.bind_some, strsOf_tx, Option.bind_some, if_pos]
  · rfl
  · have : ("" : Str).length = 0 := by decide
    rw [this, List.map_map]
    have h := sum_le (f := fun w : Tx => w.1.length) hl
    have hz2 : (SZ : Nat) = 100000 := rfl
    show (ws.map fun w : Tx => w.1.length).sum + _ ≤ _
    omega
/-- so many z's -/
def zs (n : Nat) : Tx := ⟨repS "z" n, by
  unfold repS PyData.strOk
  rw [Array.all_eq_true_iff_forall_mem]
  intro x hx
  simp at hx
  obtain ⟨l, ⟨_, rfl⟩, h2⟩ := hx
  have : ("z" : Str).cps = #[122] := by decide
  rw [this] at h2
  have : x = 122 := by simpa using h2
  subst this
  decide⟩
theorem zs_len (n : Nat) : (zs n).1.length = n := by
  show ((List.replicate n ("z" : Str).cps.toList).flatten.toArray).size = n
  have : ("z" : Str).cps = #[122] := by decide
  rw [this]
  simp [List.length_flatten]
theorem mul_zs {n : Nat} (h1 : 2 ≤ n) (h2 : n ≤ 1000) : oMul (.str "z") (.int (n : Int)) S = some (dv (zs n), S) := by
  show (if 1 ≤ ("z" : Str).length ∧ ("z" : Str).length ≤ 1000 ∧ (2 : Int) ≤ (n : Int) ∧ (n : Int) ≤ 1000 then some (D.str (repS "z" (n : Int).toNat), S) else none) = _
  rw [if_pos ⟨by decide, by decide, by omega, by omega⟩, Int.toNat_natCast]
  rfl
def bad4 : List Tx := [⟨"pick", by decide +kernel⟩, ⟨"kept", by decide +kernel⟩, ⟨"used", by decide +kernel⟩, ⟨"maybe", by decide +kernel⟩]
theorem letters {η : HS.Env} {n : Nat} (hi : i < A.length) (hn : n ≤ 1000) (h0 : η[0]? = some (some (.ref i))) (h4 : η[4]? = some (some (.int n))) (hl : η.length = 8) : ∃ (ws : List Tx) (ds' : List Int), k_law_words_1 η (W A i ds E) = some (.lst (ws.map dv), W A i ds' E) ∧ ws.length = n ∧ ∀ w ∈ ws, w.1.length = 1 := by
  have hz2 : (SZ : Nat) = 100000 := rfl
  have hn2 : n ≤ SZ := by omega
  obtain ⟨ws, ds', h1, h2, h3⟩ := lc_T (A := A) (E := E) (i := i) (ds := ds) (η := η) (S0 := W A i ds E) (xs := rangeD 0 n) (chk := chkT) (it := iRange1 (aCons (eVar 4) aNil)) (vs := [6]) (tg := HS.gN 6) (tt := tYesE) (fe := eBin oIx (eC (.str "abcdefghijklmnopqrstuvwxyz")) (eCall c_law_take 2 (aCons (eVar 0) (aCons (eC (.int 26)) aNil)))) (fun w : Tx => w.1.length = 1) (by simp [h4, hn2]) (fun _ => trivial) (by simpa using hn2) (fun x hx ds => by
      refine ⟨_, rfl, rfl, ?_⟩
      obtain ⟨k, ds', h5, h6, h7⟩ := take_W (A := A) (E := E) (ds := ds) (m := 26) hi (by decide)
      obtain ⟨n, rfl⟩ := Int.eq_ofNat_of_zero_le h6
      obtain ⟨c, h8, h9⟩ := abc_at (S := W A i ds' E) (k := n) (by omega)
      refine ⟨⟨⟨#[c]⟩, by simp [PyData.strOk, h9]⟩, ds', ?_, rfl⟩
      have h0' : ((wipeE η [6]).set 6 (some x))[0]? = some (some (.ref i)) := by
        simp [h0]
      have h8' : oIx (.str "abcdefghijklmnopqrstuvwxyz") (.int n) (W A i ds' E) = some (.str ⟨#[c]⟩, W A i ds' E) := h8
      simp only [q_bin, q_c, binK_, q_call, q_acons, q_var, h0', varK_, consK_, q_anil, consK2_, callK_, List.length_cons, List.length_nil, h5, ansK_, binK2_, h8']
      rfl)
  exact ⟨ws, ds', h1, by simpa using h2, h3⟩
/-- max([4] + lengths) + 1 -/
theorem maxlen {xs : List Int} {b : Int} (h : ∀ x ∈ xs, x ≤ b) (hb : 4 ≤ b) : ∃ m : Int, bMax [.lst (.int 4 :: xs.map D.int)] S = some (.int m, S) ∧ 4 ≤ m ∧ m ≤ b := by
  refine ⟨mxI (4 :: xs), ?_, mxI_ge List.mem_cons_self, ?_⟩
  · show ((lstOf S (.lst (.int 4 :: xs.map D.int))).bind fun ys => (intsOf ys).bind fun is => (if is = [] then none else some (D.int (mxI is))).bind fun r => some (r, S)) = _
    have hi : intsOf (.int 4 :: xs.map D.int) = some (4 :: xs) := by
      have : ∀ l : List Int, intsOf (l.map D.int) = some l := fun l => by
        induction l with
        | nil => rfl
        | cons x l ih =>
          rw [List.map_cons]
          show (intsOf (l.map D.int)).map _ = _
          rw [ih]; rfl
      exact this (4 :: xs)
    rw [q_lo1, Option.bind_some, hi]
    rfl
  · have := mxI_mem (l := 4 :: xs) (by simp)
    rcases List.mem_cons.mp this with e | e
    · rw [e]; exact hb
    · exact h _ e
end
end K76
set_option Elab.async false
set_option linter.all false
set_option maxRecDepth 100000
set_option autoImplicit false
set_option maxHeartbeats 1000000
namespace K76
open PySem L2 HS
section
variable {A E S : Sto} {i : Nat} {ds : List Int}
/-- a word of these is fit -/
def okW (b : Nat) (w : Tx) : Prop := w.1.length ≤ b
theorem words_k2 {ws : List Tx} {a0 a1 a3 a4 a5 : Option D} {b : Nat} (hz : ws.length ≤ 1000) (hb : ∀ w ∈ ws, okW b w) (hb2 : b ≤ SZ) : k_law_words_2 [a0, a1, some (.ref A.length), a3, a4, a5, none, none] (W A i ds [.lst (ws.map dv)]) = some (.lst ((ws.map fun w => (w.1.length : Int)).map D.int), W A i ds [.lst (ws.map dv)]) := by
  have hz2 : (SZ : Nat) = 100000 := rfl
  have h : k_law_words_2 [a0, a1, some (.ref A.length), a3, a4, a5, none, none] (W A i ds [.lst (ws.map dv)]) = some (.lst (ws.map fun w => .int (w.1.length : Int)), W A i ds [.lst (ws.map dv)]) := by
    refine lc_all (S := W A i ds [.lst (ws.map dv)]) (as := ws) (g := dv) (chk := chkS (.ref A.length) (ws.map dv)) (by simp) (by simp [chkS]) (by omega) fun w hw => ⟨_, rfl, rfl, ?_⟩
    have hw2 : w.1.length ≤ SZ := Nat.le_trans (hb w hw) hb2
    have e : (dv w : D) = .str w.1 := rfl
    simp [e, hw2]
  rw [List.map_map]
  exact h
theorem words_body {ws : List Tx} {many : D} {k : Nat} {a4 a5 : Option D} (hi : i < A.length) (hk : ws.length ≤ 100) (hb : ∀ w ∈ ws, okW (25 + ws.length) w) : ∃ (w : Tx) (ds' : List Int) (a4' : Option D), b_law_words_1 [some (.ref i), some many, some (.ref A.length), some (.int k), a4, a5, none, none] (W A i ds [.lst (ws.map dv)]) =
    some (.nx, [some (.ref i), some many, some (.ref A.length), some (.int k), a4', some (dv w), none, none], W A i ds' [.lst ((ws ++ [w]).map dv)]) ∧ okW (25 + (ws.length + 1)) w := by
  have hz2 : (SZ : Nat) = 100000 := rfl
  -- the size
  obtain ⟨t1, d1, h1, p1, q1⟩ := take_W (A := A) (E := [.lst (ws.map dv)]) (ds := ds) (m := 3) hi (by decide)
  obtain ⟨t2, d2, h2, p2, q2⟩ := take_W (A := A) (E := [.lst (ws.map dv)]) (ds := d1) (m := 9) hi (by decide)
  obtain ⟨sz, d3, h3, hsz⟩ : ∃ (sz : Nat) (d3 : List Int), sIf (HS.tB (eBin oEq (eCall c_law_take 2 (aCons (eVar 0) (aCons (eC (.int 9)) aNil))) (eC (.int 0)))) (sSet 4 (eBin oAdd (eBin oAdd (eVar 4) (eC (.int 3))) (eCall c_law_take 2 (aCons (eVar 0) (aCons (eC (.int 20)) aNil))))) sNil [some (.ref i), some many, some (.ref A.length), some (.int k), some (.int (1 + t1)), a5, none, none] (W A i d1 [.lst (ws.map dv)]) =
      some (.nx, [some (.ref i), some many, some (.ref A.length), some (.int k), some (.int sz), a5, none, none], W A i d3 [.lst (ws.map dv)]) ∧ sz ≤ 25 := by
    by_cases h0 : t2 = 0
    · obtain ⟨t3, d3, h3, p3, q3⟩ := take_W (A := A) (E := [.lst (ws.map dv)]) (ds := d2) (m := 20) hi (by decide)
      refine ⟨(1 + t1 + 3 + t3).toNat, d3, ?_, by omega⟩
      have e : ((1 + t1 + 3 + t3).toNat : Int) = 1 + t1 + 3 + t3 := by omega
      rw [e]
      simp [h2, h0, h3]
    · refine ⟨(1 + t1).toNat, d2, ?_, by omega⟩
      have e : ((1 + t1).toNat : Int) = 1 + t1 := by omega
      rw [e]
      simp [h2, h0]
  obtain ⟨ls, d4, h4, hl1, hl2⟩ := letters (A := A) (E := [.lst (ws.map dv)]) (ds := d3) (η := [some (.ref i), some many, some (.ref A.length), some (.int k), some (.int sz), a5, none, none]) (n := sz) hi (by omega) rfl rfl rfl
  have hj := join_T (S := W A i d4 [.lst (ws.map dv)]) (ws := ls) (fun w hw => Nat.le_of_eq (hl2 w hw)) (by omega)
  have hgl : (glue ls).1.length = sz := by
    rw [glue_len]
    have : ∀ l : List Tx, (∀ w ∈ l, w.1.length = 1) → (l.map (·.1.length)).sum = l.length := fun l => by
      induction l with
      | nil => intro _; rfl
      | cons w l ih =>
        intro h
        rw [List.map_cons, List.sum_cons, h w List.mem_cons_self, ih fun y hy => h y (List.mem_cons_of_mem _ hy), List.length_cons]
        omega
    rw [this ls hl2, hl1]
  have ht : ∀ S, isT "str" S (.str "") = true := fun S => q_it3
  have i1 := q_inl (S := W A i d4 [.lst (ws.map dv)]) (glue ls) (e := .ref A.length) ws (by decide) (by simp)
  have i2 : oIn (dv (glue ls)) (.lst [.str "pick", .str "kept", .str "used", .str "maybe"]) (W A i d4 [.lst (ws.map dv)]) = _ := q_inl (glue ls) bad4 (by decide) rfl
  have hk2 := words_k2 (A := A) (i := i) (ds := d4) (ws := ws) (a0 := some (.ref i)) (a1 := some many) (a3 := some (.int k)) (a4 := some (.int sz)) (a5 := some (dv (glue ls))) (by omega) hb (by omega)
  obtain ⟨m, hm1, hm2, hm3⟩ := maxlen (S := W A i d4 [.lst (ws.map dv)]) (xs := ws.map fun w => (w.1.length : Int)) (b := 25 + ws.length) (fun x hx => by
    obtain ⟨w, hw, rfl⟩ := List.mem_map.mp hx
    have := hb w hw
    unfold okW at this
    omega) (by omega)
  obtain ⟨M, rfl⟩ := Int.eq_ofNat_of_zero_le (show 0 ≤ m by omega)
  have hmul : oMul (.str "z") (.int (1 + (M : Int))) (W A i d4 [.lst (ws.map dv)]) = some (dv (zs (1 + M)), W A i d4 [.lst (ws.map dv)]) := by
    have := mul_zs (S := W A i d4 [.lst (ws.map dv)]) (n := 1 + M) (by omega) (by omega)
    rw [Int.natCast_add] at this
    exact this
  have hap : ws.length < SZ := by omega
  have hadd : oAdd (.lst [.int 4]) (.lst ((ws.map fun w => (w.1.length : Int)).map D.int)) (W A i d4 [.lst (ws.map dv)]) = some (.lst (.int 4 :: (ws.map fun w => (w.1.length : Int)).map D.int), W A i d4 [.lst (ws.map dv)]) := q_addl (by simp; omega)
  generalize (ws.map fun w => (w.1.length : Int)).map D.int = Ls at hk2 hadd hm1
  have e1 : sSet 4 (eBin oAdd (eC (.int 1)) (eCall c_law_take 2 (aCons (eVar 0) (aCons (eC (.int 3)) aNil)))) [some (.ref i), some many, some (.ref A.length), some (.int k), a4, a5, none, none] (W A i ds [.lst (ws.map dv)]) = some (.nx, [some (.ref i), some many, some (.ref A.length), some (.int k), some (.int (1 + t1)), a5, none, none], W A i d1 [.lst (ws.map dv)]) := by
    simp [h1]
  by_cases hin : glue ls ∈ ws ∨ glue ls ∈ bad4
  · refine ⟨zs (1 + M), d4, some (.int sz), ?_, by unfold okW; rw [zs_len]; omega⟩
    unfold b_law_words_1
    rw [q_seq, e1, seqK_n, q_seq, h3, seqK_n]
    rcases hin with hin | hin
    · simp [h4, hj, ht, i1, hin, hk2, hm1, hmul, hap, hadd]
    · by_cases hin2 : glue ls ∈ ws
      · simp [h4, hj, ht, i1, hin2, hk2, hm1, hmul, hap, hadd]
      · simp [h4, hj, ht, i1, i2, hin, hin2, hk2, hm1, hmul, hap, hadd]
  · refine ⟨glue ls, d4, some (.int sz), ?_, by unfold okW; rw [hgl]; omega⟩
    have n1 : glue ls ∉ ws := fun z => hin (.inl z)
    have n2 : glue ls ∉ bad4 := fun z => hin (.inr z)
    unfold b_law_words_1
    rw [q_seq, e1, seqK_n, q_seq, h3, seqK_n]
    simp [h4, hj, ht, i1, i2, n1, n2, hap]
end
end K76
set_option Elab.async false
set_option linter.all false
set_option maxRecDepth 100000
set_option autoImplicit false
set_option maxHeartbeats 1000000
namespace K76
open PySem L2 HS
section
variable {A E S : Sto} {i : Nat} {ds : List Int}
theorem words_S {many : Nat} (h : A[i]? = some (IL ds)) (hm : many ≤ 100) : ∃ (ws : List Tx) (ds' : List Int), c_law_words [.ref i, .int many] A = some (.lst (ws.map dv), true, A.set i (IL ds')) ∧ ws.length = many ∧ ∀ w ∈ ws, okW (25 + many) w := by
  have hz2 : (SZ : Nat) = 100000 := rfl
  have hm2 : many ≤ SZ := by omega
  have hi : i < A.length := (List.getElem?_eq_some_iff.mp h).1
  obtain ⟨η', S', h1, ws, ds', a3, a4, a5, rfl, rfl, h2, h3⟩ := for_ind (it := iRange1 (aCons (eVar 1) aNil)) (tg := HS.gN 3) (body := b_law_words_1) (η := [some (.ref i), some (.int many), some (.ref A.length), none, none, none, none, none]) (S := W A i ds [.lst []]) (S0 := W A i ds [.lst []]) (xs := rangeD 0 many) (chk := chkT)
    (fun k η S => ∃ (ws : List Tx) (ds' : List Int) (a3 a4 a5 : Option D), η = [some (.ref i), some (.int many), some (.ref A.length), a3, a4, a5, none, none] ∧ S = W A i ds' [.lst (ws.map dv)] ∧ ws.length = k ∧ ∀ w ∈ ws, okW (25 + k) w)
    (by simp [hm2]) ⟨[], ds, none, none, none, rfl, rfl, rfl, by simp⟩ (fun _ _ _ _ _ => trivial) (fun k x η S hx ⟨ws, ds', a3, a4, a5, h1, h2, h3, h4⟩ => by
      obtain ⟨hk, rfl⟩ := rangeD_get hx
      subst h1 h2 h3
      obtain ⟨w, d2, a4', h5, h6⟩ := words_body (A := A) (ds := ds') (many := .int many) (k := ws.length) (a4 := a4) (a5 := a5) (ws := ws) hi (by omega) h4
      refine ⟨_, _, _, rfl, .inl h5, ws ++ [w], d2, _, a4', _, rfl, rfl, by simp, fun u hu => ?_⟩
      rcases List.mem_append.mp hu with hu | hu
      · exact Nat.le_trans (h4 u hu) (by omega)
      · have : u = w := by simpa using hu
        subst this; exact h6)
  refine ⟨ws, ds', ?_, by simpa using h2, fun w hw => by simpa using h3 w hw⟩
  have h1' : l_law_words_1 [some (.ref i), some (.int many), some (.ref A.length), none, none, none, none, none] (W A i ds [.lst []]) = _ := h1
  unfold c_law_words m_law_words
  rw [callsW h]
  simp [h1']
  exact end_Wr0 (pl_map (α := Tx))
theorem words_W {many : Nat} (hi : i < A.length) (hm : many ≤ 100) : ∃ (ws : List Tx) (ds' : List Int), c_law_words [.ref i, .int many] (W A i ds E) = some (.lst (ws.map dv), true, W A i ds' E) ∧ ws.length = many ∧ ∀ w ∈ ws, okW (25 + many) w := by
  obtain ⟨ws, ds', h, h2⟩ := words_S (A := W A i ds E) (W_i hi) hm
  rw [W_si hi] at h
  exact ⟨ws, ds', h, h2⟩
/-! values -/
theorem value_W {ws : List Tx} (hi : i < A.length) (hw : ws ≠ []) : ∃ (v : Val) (ds' : List Int), c_law_value [.ref i, .lst (ws.map dv)] (W A i ds E) = some (dv v, false, W A i ds' E) := by
  obtain ⟨t1, d1, h1, p1, q1⟩ := take_W (A := A) (E := E) (ds := ds) (m := 6) hi (by decide)
  by_cases e0 : t1 = 0
  · obtain ⟨w, d2, h2, h3⟩ := pick_T (A := A) (E := E) (ds := d1) (row := .lst (ws.map dv)) hi (.inl rfl) hw
    refine ⟨.txt w, d2, ?_⟩
    unfold c_law_value m_law_value
    rw [q_calls]
    simp [h1, e0, h3]
    exact end_len (by simp)
  · by_cases e1 : t1 = 1
    · obtain ⟨t2, d2, h2, p2, q2⟩ := take_W (A := A) (E := E) (ds := d1) (m := 900) hi (by decide)
      have e15 : ∀ S, oPow (.int 10) (.int 15) S = some (.int (10 ^ 15), S) := fun S => q_pow (by decide)
      have e40 : ∀ S, oPow (.int 10) (.int 40) S = some (.int (10 ^ 40), S) := fun S => q_pow (by decide)
      generalize (10 : Int) ^ 15 = B at e15
      generalize (10 : Int) ^ 40 = C at e40
      obtain ⟨w, d3, h4, h3⟩ := pick_T (α := Int) (A := A) (E := E) (ds := d2) (row := .lst [.int 1, .int 1000003, .int (B + 37), .int (C + 121)]) (xs := [1, 1000003, B + 37, C + 121]) hi (.inl rfl) (by simp)
      have hs : smallI (t2 - 450) = true := by
        unfold smallI
        rw [Bool.and_eq_true, decide_eq_true_eq, decide_eq_true_eq]
        have a : (2 ^ 64 : Int) = 18446744073709551616 := by decide
        rw [a]
        omega
      have hm := fun S => q_mul (S := S) (a := t2 - 450) (b := w) (.inl hs)
      have e : (dv w : D) = .int w := rfl
      rw [e] at h3
      refine ⟨.num ((t2 - 450) * w), d3, ?_⟩
      unfold c_law_value m_law_value
      rw [q_calls]
      simp [h1, e0, e1, h2, h3, e15, e40, hm]
      exact end_len (by simp)
    · obtain ⟨t2, d2, h2, p2, q2⟩ := take_W (A := A) (E := E) (ds := d1) (m := 9) hi (by decide)
      refine ⟨.num (t2 - 3), d2, ?_⟩
      unfold c_law_value m_law_value
      rw [q_calls]
      simp [h1, e0, e1, h2]
      exact end_len (by simp)
end
end K76
set_option Elab.async false
set_option linter.all false
set_option maxRecDepth 100000
set_option autoImplicit false
set_option maxHeartbeats 1000000
namespace K76
open PySem L2 HS
section
variable {A E S : Sto} {i : Nat} {ds : List Int}
theorem cut_to {α : Type} {xs : List α} {n : Nat} : cutL xs none (some (n : Int)) = xs.take n := by
  unfold cutL
  rw [HT.sIx_none, HT.sIx_nat, List.drop_zero, Nat.sub_zero]
  by_cases h : n ≤ xs.length
  · rw [Nat.min_eq_left h]
  · rw [Nat.min_eq_right (by omega), List.take_of_length_le (Nat.le_refl _), List.take_of_length_le (by omega)]
/-- a piece with a name that is not too long -/
def okPc (b : Nat) (p : Piece) : Prop := p.2.length ≤ 4 ∧ okW b p.1
theorem row_W {ws : List Tx} {a1 a3 a4 a5 a6 : Option D} (hi : i < A.length) (hw : ws ≠ []) : ∃ (r : Row) (ds' : List Int), k_law_pieces_1 [some (.ref i), a1, some (.lst (ws.map dv)), a3, a4, a5, a6, none] (W A i ds E) = some (.lst (r.map dv), W A i ds' E) ∧ r.length ≤ 4 := by
  have hz2 : (SZ : Nat) = 100000 := rfl
  obtain ⟨n, d1, h1, h2⟩ := pick_T (α := Int) (A := A) (E := E) (ds := ds) (row := .lst [.int 0, .int 1, .int 0, .int 1, .int 2, .int 3, .int 4]) (xs := [0, 1, 0, 1, 2, 3, 4]) hi (.inl rfl) (by simp)
  have hn : 0 ≤ n ∧ n ≤ 4 := by
    simp at h1
    omega
  obtain ⟨m, rfl⟩ := Int.eq_ofNat_of_zero_le hn.1
  have e : (dv (m : Int) : D) = .int m := rfl
  rw [e] at h2
  have hm : m ≤ SZ := by omega
  obtain ⟨r, d2, h3, h4, h5⟩ := lc_T (α := Val) (A := A) (E := E) (i := i) (ds := d1) (η := [some (.ref i), a1, some (.lst (ws.map dv)), a3, a4, a5, a6, none]) (S0 := W A i ds E) (xs := rangeD 0 m) (chk := chkT) (it := iRange1 (aCons (eCall c_law_pick 2 (aCons (eVar 0) (aCons (eLst (aCons (eC (.int 0)) (aCons (eC (.int 1)) (aCons (eC (.int 0)) (aCons (eC (.int 1)) (aCons (eC (.int 2)) (aCons (eC (.int 3)) (aCons (eC (.int 4)) aNil)))))))) aNil))) aNil)) (vs := [7]) (tg := HS.gN 7) (tt := tYesE) (fe := eCall c_law_value 2 (aCons (eVar 0) (aCons (eVar 2) aNil))) (fun _ => True)
    (by simp [h2, hm]) (fun _ => trivial) (by simpa using hm) (fun x hx ds => by
      obtain ⟨v, d', hv⟩ := value_W (A := A) (E := E) (ds := ds) hi hw
      refine ⟨_, rfl, rfl, v, d', ?_, trivial⟩
      simp [hv])
  exact ⟨r, d2, h3, by rw [h4]; simp; omega⟩
theorem pieces_body {ws : List Tx} {f : List Piece} {many : D} {k : Nat} {a5 a6 : Option D} (hi : i < A.length) (hw : ws.length = 4) (hb : ∀ w ∈ ws, okW 29 w) (hf : f.length < SZ) (hk : f.length = k) (hz : ∀ p ∈ f, okPc 29 p ∨ ∃ j : Nat, j < k ∧ p = (zs 40, [.num j])) : ∃ (p : Piece) (ds' : List Int) (a5' : Option D), b_law_pieces_1 [some (.ref i), some many, some (.lst (ws.map dv)), some (.ref A.length), some (.int k), a5, a6, none] (W A i ds [.lst (f.map dv)]) =
    some (.nx, [some (.ref i), some many, some (.lst (ws.map dv)), some (.ref A.length), some (.int k), a5', some (dv p), none], W A i ds' [.lst ((f ++ [p]).map dv)]) ∧ (okPc 29 p ∨ p = (zs 40, [.num k])) ∧ p ∉ f := by
  obtain ⟨r, d1, h1, h2⟩ := row_W (A := A) (E := [.lst (f.map dv)]) (ds := ds) (ws := ws) (a1 := some many) (a3 := some (.ref A.length)) (a4 := some (.int k)) (a5 := a5) (a6 := a6) hi (by intro z; simp [z] at hw)
  obtain ⟨w, d2, h3, h4⟩ := pick_T (A := A) (E := [.lst (f.map dv)]) (ds := d1) (row := .lst ((ws.take 3).map dv)) (xs := ws.take 3) hi (.inl rfl) (by intro z; have := congrArg List.length z; simp [hw] at this)
  have hcut : ∀ S, slD S (.lst (ws.map dv)) none (some 3) = some (.lst ((ws.take 3).map dv)) := fun S => by
    show (lstOf S (.lst (ws.map dv))).bind (fun xs => some (D.lst (cutL xs none (some 3)))) = _
    rw [q_lo1, Option.bind_some]
    have := cut_to (xs := ws.map dv) (n := 3)
    rw [show ((3 : Nat) : Int) = 3 from rfl] at this
    rw [this, List.map_take]
  generalize (ws.take 3).map dv = T3 at h4 hcut
  have e : (.tup [dv w, .tup (r.map dv)] : D) = dv (w, r) := rfl
  have hin := q_inl (S := W A i d2 [.lst (f.map dv)]) (w, r) (e := .ref A.length) f (by decide) (by simp)
  have hmz : ∀ S, oMul (.str "z") (.int 40) S = some (dv (zs 40), S) := fun S => mul_zs (n := 40) (by omega) (by omega)
  have e2 : (.tup [dv (zs 40), .tup [.int k]] : D) = dv (zs 40, [Val.num k]) := rfl
  by_cases hp : (w, r) ∈ f
  · refine ⟨(zs 40, [.num k]), d2, some (.tup (r.map dv)), ?_, .inr rfl, fun z => ?_⟩
    · unfold b_law_pieces_1
      simp [h1, hcut, h4, e, hin, hp, hmz, e2, hf]
    · rcases hz _ z with q | ⟨j, q1, q2⟩
      · have : (zs 40).1.length ≤ 29 := q.2
        rw [zs_len] at this
        omega
      · have := (Prod.ext_iff.mp q2).2
        simp at this
        omega
  · refine ⟨(w, r), d2, some (.tup (r.map dv)), ?_, .inl ⟨h2, hb w (List.mem_of_mem_take h3)⟩, hp⟩
    unfold b_law_pieces_1
    simp [h1, hcut, h4, e, hin, hp, hf]
theorem srt_nodup {ps : List Piece} (h : ps.Nodup) : (srt pP ps).Nodup := srt_perm.nodup_iff.mpr h
theorem setP_nodup {ps : List Piece} (h : ps.Nodup) : setP ps = srt pP ps := dd_nodup (srt_nodup h)
theorem mem_setP {ps : List Piece} {p : Piece} : p ∈ setP ps ↔ p ∈ ps := by
  unfold setP
  rw [mem_dd]
  exact srt_perm.mem_iff
theorem len_setP {ps : List Piece} : (setP ps).length ≤ ps.length := by
  have := len_dd (xs := srt pP ps)
  rw [srt_len] at this
  exact this
theorem pieces_S {many : Nat} (h : A[i]? = some (IL ds)) (hm : many ≤ 100) : ∃ (ps : Sup) (ds' : List Int), c_law_pieces [.ref i, .int many] A = some (dv ps, false, A.set i (IL ds')) ∧ ps.Nodup ∧ ps.length = many ∧ ∀ p ∈ ps, p.2.length ≤ 4 := by
  have hz2 : (SZ : Nat) = 100000 := rfl
  have hm2 : many ≤ SZ := by omega
  have hi : i < A.length := (List.getElem?_eq_some_iff.mp h).1
  obtain ⟨ws, d0, hw, hw1, hw2⟩ := words_W (A := A) (E := []) (ds := ds) (many := 4) hi (by omega)
  have hw' : c_law_words [.ref i, .int 4] (W A i ds []) = some (.lst (ws.map dv), true, W A i d0 []) := hw
  obtain ⟨η', S', h1, f, ds', a4, a5, a6, rfl, rfl, h2, h3, h4⟩ := for_ind (it := iRange1 (aCons (eVar 1) aNil)) (tg := HS.gN 4) (body := b_law_pieces_1) (η := [some (.ref i), some (.int many), some (.lst (ws.map dv)), some (.ref A.length), none, none, none, none]) (S := W A i d0 [.lst []]) (S0 := W A i d0 [.lst []]) (xs := rangeD 0 many) (chk := chkT)
    (fun k η S => ∃ (f : List Piece) (ds' : List Int) (a4 a5 a6 : Option D), η = [some (.ref i), some (.int many), some (.lst (ws.map dv)), some (.ref A.length), a4, a5, a6, none] ∧ S = W A i ds' [.lst (f.map dv)] ∧ f.length = k ∧ (∀ p ∈ f, okPc 29 p ∨ ∃ j : Nat, j < k ∧ p = (zs 40, [.num j])) ∧ f.Nodup)
    (by simp [hm2]) ⟨[], d0, none, none, none, rfl, rfl, rfl, by simp, List.nodup_nil⟩ (fun _ _ _ _ _ => trivial) (fun k x η S hx ⟨f, ds', a4, a5, a6, h1, h2, h3, h4, h5⟩ => by
      obtain ⟨hk, rfl⟩ := rangeD_get hx
      subst h1 h2
      obtain ⟨p, d2, a5', h6, h7, h8⟩ := pieces_body (A := A) (ds := ds') (many := .int many) (k := k) (a5 := a5) (a6 := a6) (ws := ws) (f := f) hi hw1 hw2 (by omega) h3 h4
      refine ⟨_, _, _, rfl, .inl h6, f ++ [p], d2, _, a5', _, rfl, rfl, by simp [h3], fun u hu => ?_, ?_⟩
      · rcases List.mem_append.mp hu with hu | hu
        · rcases h4 u hu with q | ⟨j, q1, q2⟩
          · exact .inl q
          · exact .inr ⟨j, by omega, q2⟩
        · have : u = p := by simpa using hu
          subst this
          rcases h7 with q | q
          · exact .inl q
          · exact .inr ⟨k, by omega, q⟩
      · rw [List.nodup_append]
        refine ⟨h5, by simp, fun a ha b hb => ?_⟩
        have : b = p := by simpa using hb
        subst this
        rintro rfl
        exact h8 ha)
  have hlen : f.length = many := by simpa using h2
  have hrow : ∀ p ∈ f, p.2.length ≤ 4 := fun p hp => by
    rcases h3 p hp with q | ⟨j, _, q⟩
    · exact q.1
    · rw [q]; simp
  have hset := set_spec (A := W A i ds' [.lst (f.map dv)]) (e := .ref A.length) (ps := f) (fun p hp => Nat.le_trans (hrow p hp) (by omega)) (by omega) (by simp)
  refine ⟨setP f, ds', ?_, by rw [setP_nodup h4]; exact srt_nodup h4, by rw [setP_nodup h4, srt_len]; exact hlen, fun p hp => hrow p (mem_setP.mp hp)⟩
  have h1' : l_law_pieces_1 [some (.ref i), some (.int many), some (.lst (ws.map dv)), some (.ref A.length), none, none, none, none] (W A i d0 [.lst []]) = _ := h1
  unfold c_law_pieces m_law_pieces
  rw [callsW h]
  simp [hw', h1', hset]
  exact end_W (n := 3) (DV.hpl (setP f)) (by decide)
theorem pieces_W {many : Nat} (hi : i < A.length) (hm : many ≤ 100) : ∃ (ps : Sup) (ds' : List Int), c_law_pieces [.ref i, .int many] (W A i ds E) = some (dv ps, false, W A i ds' E) ∧ ps.Nodup ∧ ps.length = many ∧ ∀ p ∈ ps, p.2.length ≤ 4 := by
  obtain ⟨ps, ds', h, h2⟩ := pieces_S (A := W A i ds E) (W_i hi) hm
  rw [W_si hi] at h
  exact ⟨ps, ds', h, h2⟩
end
end K76
set_option Elab.async false
set_option linter.all false
set_option maxRecDepth 100000
set_option autoImplicit false
set_option maxHeartbeats 1000000
namespace K76
open PySem L2 HS
section
variable {A E S : Sto} {i : Nat} {ds : List Int}
theorem perm_erase {α : Type} : ∀ {l : List α} {k : Nat} {x : α}, l[k]? = some x → (x :: l.eraseIdx k).Perm l
  | [], k, x, h => by simp at h
  | a :: l, 0, x, h => by
    simp at h
    subst h
    exact List.Perm.refl _
  | a :: l, k + 1, x, h => by
    rw [List.eraseIdx_cons_succ]
    exact (List.Perm.swap a x _).trans (List.Perm.cons a (perm_erase (l := l) (by simpa using h)))
theorem map_erase {α β : Type} (f : α → β) : ∀ (l : List α) (k : Nat), (l.map f).eraseIdx k = (l.eraseIdx k).map f
  | [], k => rfl
  | a :: l, 0 => rfl
  | a :: l, k + 1 => by rw [List.map_cons, List.eraseIdx_cons_succ, List.eraseIdx_cons_succ, List.map_cons, map_erase f l k]
theorem shuf_body {α : Type} [DV α] {l f : List α} {row : D} {k : D} (hi : i < A.length) (hl : l ≠ []) (hz : l.length ≤ SZ) (hf : f.length < SZ) : ∃ (x : α) (l' : List α) (ds' : List Int), b_law_shuffled_1 [some (.ref i), some row, some (.ref A.length), some (.ref (A.length + 1)), some k] (W A i ds [.lst (l.map dv), .lst (f.map dv)]) =
    some (.nx, [some (.ref i), some row, some (.ref A.length), some (.ref (A.length + 1)), some k], W A i ds' [.lst (l'.map dv), .lst ((f ++ [x]).map dv)]) ∧ (x :: l').Perm l := by
  have hl0 := List.length_pos_iff.mpr hl
  obtain ⟨t, d1, h1, p1, q1⟩ := take_W (A := A) (E := [.lst (l.map dv), .lst (f.map dv)]) (ds := ds) (m := (l.length : Int)) hi (by omega)
  obtain ⟨n, rfl⟩ := Int.eq_ofNat_of_zero_le p1
  have hn : n < l.length := by omega
  have hx : l[n]? = some l[n] := List.getElem?_eq_getElem hn
  have hp := paK_ (S := W A i d1 [.lst (l.map dv), .lst (f.map dv)]) (i := A.length) (xs := l.map dv) (y := dv l[n]) (k := n) (by rw [List.getElem?_map, hx]; rfl) (by omega)
  refine ⟨l[n], l.eraseIdx n, d1, ?_, perm_erase hx⟩
  unfold b_law_shuffled_1
  generalize l[n] = y at *
  simp [h1, hp, hf]
  rw [map_erase]
theorem shuf_S {α : Type} [DV α] {row : D} {xs : List α} (h : A[i]? = some (IL ds)) (hr : row = .lst (xs.map dv) ∨ row = .tup (xs.map dv)) (hz : xs.length < SZ) : ∃ (ys : List α) (ds' : List Int), c_law_shuffled [.ref i, row] A = some (.lst (ys.map dv), true, A.set i (IL ds')) ∧ ys.Perm xs := by
  have hi : i < A.length := (List.getElem?_eq_some_iff.mp h).1
  have hlen : ∀ S, bLen [row] S = some (.int xs.length, S) := fun S => by rcases hr with rfl | rfl <;> simp
  have hlist : ∀ S, bList [row] S = some (.lst (xs.map dv), S) := fun S => by rcases hr with rfl | rfl <;> simp
  obtain ⟨η', S', h1, l, f, ds', k, rfl, rfl, h2, h3⟩ := for_ind (it := iRange1 (aCons (eB bLen (aCons (eVar 1) aNil)) aNil)) (tg := HS.gN 4) (body := b_law_shuffled_1) (η := [some (.ref i), some row, some (.ref A.length), some (.ref (A.length + 1)), none]) (S := W A i ds [.lst (xs.map dv), .lst []]) (S0 := W A i ds [.lst (xs.map dv), .lst []]) (xs := rangeD 0 xs.length) (chk := chkT)
    (fun k η S => ∃ (l f : List α) (ds' : List Int) (a : Option D), η = [some (.ref i), some row, some (.ref A.length), some (.ref (A.length + 1)), a] ∧ S = W A i ds' [.lst (l.map dv), .lst (f.map dv)] ∧ f.length = k ∧ (f ++ l).Perm xs)
    (by simp [hlen, Nat.le_of_lt hz]) ⟨xs, [], ds, none, rfl, rfl, rfl, by simp⟩ (fun _ _ _ _ _ => trivial) (fun k x η S hx ⟨l, f, ds', a, h1, h2, h3, h4⟩ => by
      obtain ⟨hk, rfl⟩ := rangeD_get hx
      subst h1 h2
      have hll := h4.length_eq
      rw [List.length_append] at hll
      obtain ⟨y, l', d2, h6, h7⟩ := shuf_body (A := A) (ds := ds') (l := l) (f := f) (row := row) (k := .int k) hi (by rintro rfl; simp at hll; omega) (by omega) (by omega)
      refine ⟨_, _, _, rfl, .inl h6, l', f ++ [y], d2, _, rfl, rfl, by simp [h3], ?_⟩
      rw [List.append_assoc]
      exact (List.Perm.append_left f h7).trans h4)
  have hf : f.length = xs.length := by simpa using h2
  have hl : l = [] := by
    have := h3.length_eq
    rw [List.length_append] at this
    exact List.length_eq_zero_iff.mp (by omega)
  subst hl
  rw [List.append_nil] at h3
  refine ⟨f, ds', ?_, h3⟩
  have h1' : l_law_shuffled_1 [some (.ref i), some row, some (.ref A.length), some (.ref (A.length + 1)), none] (W A i ds [.lst (xs.map dv), .lst []]) = _ := h1
  unfold c_law_shuffled m_law_shuffled
  rw [callsW h]
  simp [hlist, h1']
  exact end_Wr1 (pl_map (α := α))
theorem shuf_W {α : Type} [DV α] {row : D} {xs : List α} (hi : i < A.length) (hr : row = .lst (xs.map dv) ∨ row = .tup (xs.map dv)) (hz : xs.length < SZ) : ∃ (ys : List α) (ds' : List Int), c_law_shuffled [.ref i, row] (W A i ds E) = some (.lst (ys.map dv), true, W A i ds' E) ∧ ys.Perm xs := by
  obtain ⟨ys, ds', h, h2⟩ := shuf_S (A := W A i ds E) (W_i hi) hr hz
  rw [W_si hi] at h
  exact ⟨ys, ds', h, h2⟩
/-! supports -/
theorem sup_k {ps : Sup} {n : Nat} (hi : i < A.length) (hp : ps ≠ []) (hn : n ≤ 100) : ∃ (l : List Piece) (ds' : List Int), k_law_support_1 [some (.ref i), some (dv ps), some (.int n), none] (W A i ds E) = some (.lst (l.map dv), W A i ds' E) ∧ l.length = n ∧ ∀ p ∈ l, p ∈ ps := by
  have hz2 : (SZ : Nat) = 100000 := rfl
  have hn2 : n ≤ SZ := by omega
  obtain ⟨l, d2, h3, h4, h5⟩ := lc_T (α := Piece) (A := A) (E := E) (i := i) (ds := ds) (η := [some (.ref i), some (dv ps), some (.int n), none]) (S0 := W A i ds E) (xs := rangeD 0 n) (chk := chkT) (it := iRange1 (aCons (eVar 2) aNil)) (vs := [3]) (tg := HS.gN 3) (tt := tYesE) (fe := eCall c_law_pick 2 (aCons (eVar 0) (aCons (eVar 1) aNil))) (fun p => p ∈ ps)
    (by simp [hn2]) (fun _ => trivial) (by simpa using hn2) (fun x hx ds => by
      obtain ⟨p, d', h1, h2⟩ := pick_T (α := Piece) (A := A) (E := E) (ds := ds) (row := dv ps) (xs := ps) hi (.inr rfl) hp
      exact ⟨_, rfl, rfl, p, d', by simp [h2], h1⟩)
  exact ⟨l, d2, h3, by simpa using h4, h5⟩
/-- a support as the law draws it -/
def okSup (ps : Sup) (s : Sup) : Prop := ∃ l : List Piece, s = setP l ∧ l.length ≤ 5 ∧ ∀ p ∈ l, p ∈ ps
theorem support_W {ps : Sup} (hi : i < A.length) (hp : ps ≠ []) (hr : ∀ p ∈ ps, p.2.length ≤ 4) : ∃ (s : Sup) (ds' : List Int), c_law_support [.ref i, dv ps] (W A i ds E) = some (dv s, false, W A i ds' E) ∧ okSup ps s := by
  have hz2 : (SZ : Nat) = 100000 := rfl
  obtain ⟨n, d1, h1, h2⟩ := pick_T (α := Int) (A := A) (E := E) (ds := ds) (row := .lst [.int 1, .int 1, .int 2, .int 1, .int 2, .int 1, .int 3, .int 1, .int 2, .int 1, .int 2, .int 1, .int 3, .int 1, .int 5, .int 0]) (xs := [1, 1, 2, 1, 2, 1, 3, 1, 2, 1, 2, 1, 3, 1, 5, 0]) hi (.inl rfl) (by simp)
  have hn : 0 ≤ n ∧ n ≤ 5 := by
    simp at h1
    omega
  obtain ⟨m, rfl⟩ := Int.eq_ofNat_of_zero_le hn.1
  have e : (dv (m : Int) : D) = .int m := rfl
  rw [e] at h2
  obtain ⟨l, d2, h3, h4, h5⟩ := sup_k (A := A) (E := E) (ds := d1) (ps := ps) (n := m) hi hp (by omega)
  have hs := set_spec (A := W A i d2 E) (e := .lst (l.map dv)) (ps := l) (fun p h => Nat.le_trans (hr p (h5 p h)) (by omega)) (by omega) rfl
  refine ⟨setP l, d2, ?_, l, rfl, by omega, h5⟩
  unfold c_law_support m_law_support
  rw [q_calls]
  simp [h2, h3, hs]
  exact end_len (by simp)
/-! raw attacks -/
def okRaw (ps : Sup) (a : Sup × Piece) : Prop := okSup ps a.1 ∧ a.2 ∈ ps
theorem raw_S {ps : Sup} {most : Nat} (h : A[i]? = some (IL ds)) (hr : ∀ p ∈ ps, p.2.length ≤ 4) (hz : ps.length ≤ 100) (hm : most ≤ 100) : ∃ (rs : List (Sup × Piece)) (ds' : List Int), c_law_raw [.ref i, dv ps, .int most] A = some (.lst (rs.map dv), true, A.set i (IL ds')) ∧ rs.length ≤ most ∧ ∀ a ∈ rs, okRaw ps a := by
  have hz2 : (SZ : Nat) = 100000 := rfl
  have hi : i < A.length := (List.getElem?_eq_some_iff.mp h).1
  obtain ⟨t, d1, h1, p1, q1⟩ := take_W (A := A) (E := [.lst []]) (ds := ds) (m := (most : Int) + 1) hi (by omega)
  have hlen : ∀ S, bLen [dv ps] S = some (.int ps.length, S) := fun S => by
    have : (dv ps : D) = .tup (ps.map dv) := rfl
    rw [this]
    simp
  obtain ⟨n, hn1, hn2, hn3⟩ : ∃ n : Nat, n ≤ most ∧ (0 < n → ps ≠ []) ∧ oMul (.int t) (.int (if (0 : Int) < (ps.length : Int) then 1 else 0)) (W A i d1 [.lst []]) = some (.int n, W A i d1 [.lst []]) := by
    by_cases hp : ps = []
    · subst hp
      refine ⟨0, Nat.zero_le _, fun z => absurd z (Nat.lt_irrefl _), ?_⟩
      rw [if_neg (by simp), q_mul (.inr (by decide)), Int.mul_zero]
      rfl
    · have := List.length_pos_iff.mpr hp
      refine ⟨t.toNat, by omega, fun _ => hp, ?_⟩
      rw [if_pos (by omega), q_mul (.inr (by decide)), Int.mul_one, Int.toNat_of_nonneg p1]
  have hn4 : n ≤ SZ := by omega
  have hmul : ∀ b : Bool, b = decide ((0 : Int) < (ps.length : Int)) → oMul (.int t) (.int (if b = true then 1 else 0)) (W A i d1 [.lst []]) = some (.int n, W A i d1 [.lst []]) := fun b hb => by
    subst hb
    simpa using hn3
  have hcmp := hmul _ rfl
  generalize hB : decide ((0 : Int) < (ps.length : Int)) = B at hcmp
  have hgt : ∀ S, oGt (.int (ps.length : Int)) (.int 0) S = some (.bl B, S) := fun S => by rw [q_gt2, hB]
  obtain ⟨η', S', h2, rs, ds', a4, rfl, rfl, h3, h4⟩ := for_ind (it := iRange1 (aCons (eBin oMul (eCall c_law_take 2 (aCons (eVar 0) (aCons (eBin oAdd (eVar 2) (eC (.int 1))) aNil))) (eB bInt (aCons (eBin oGt (eB bLen (aCons (eVar 1) aNil)) (eC (.int 0))) aNil))) aNil)) (tg := HS.gN 4) (body := b_law_raw_1) (η := [some (.ref i), some (dv ps), some (.int most), some (.ref A.length), none]) (S := W A i d1 [.lst []]) (S0 := W A i ds [.lst []]) (xs := rangeD 0 n) (chk := chkT)
    (fun k η S => ∃ (rs : List (Sup × Piece)) (ds' : List Int) (a : Option D), η = [some (.ref i), some (dv ps), some (.int most), some (.ref A.length), a] ∧ S = W A i ds' [.lst (rs.map dv)] ∧ rs.length = k ∧ ∀ a ∈ rs, okRaw ps a)
    (by simp [h1, hlen, hgt, hcmp, hn4, -q_gt2]) ⟨[], d1, none, rfl, rfl, rfl, by simp⟩ (fun _ _ _ _ _ => trivial) (fun k x η S hx ⟨rs, ds', a, h1, h2, h3, h4⟩ => by
      obtain ⟨hk, rfl⟩ := rangeD_get hx
      subst h1 h2
      obtain ⟨s, d2, h5, h6⟩ := support_W (A := A) (E := [.lst (rs.map dv)]) (ds := ds') (ps := ps) hi (hn2 (by omega)) hr
      obtain ⟨p, d3, h7, h8⟩ := pick_T (α := Piece) (A := A) (E := [.lst (rs.map dv)]) (ds := d2) (row := dv ps) (xs := ps) hi (.inr rfl) (hn2 (by omega))
      have hlt : rs.length < SZ := by omega
      refine ⟨_, _, _, rfl, .inl (by unfold b_law_raw_1; simp [h5, h8, hlt]; exact ⟨rfl, rfl⟩), rs ++ [(s, p)], d3, _, rfl, by rw [List.map_append]; rfl, by simp [h3], fun u hu => ?_⟩
      rcases List.mem_append.mp hu with hu | hu
      · exact h4 u hu
      · have : u = (s, p) := by simpa using hu
        subst this; exact ⟨h6, h7⟩)
  refine ⟨rs, ds', ?_, by rw [h3]; simpa using hn1, h4⟩
  have h2' : l_law_raw_1 [some (.ref i), some (dv ps), some (.int most), some (.ref A.length), none] (W A i ds [.lst []]) = _ := h2
  unfold c_law_raw m_law_raw
  rw [callsW h]
  simp [h2']
  exact end_Wr0 (pl_map (α := Sup × Piece))
theorem raw_W {ps : Sup} {most : Nat} (hi : i < A.length) (hr : ∀ p ∈ ps, p.2.length ≤ 4) (hz : ps.length ≤ 100) (hm : most ≤ 100) : ∃ (rs : List (Sup × Piece)) (ds' : List Int), c_law_raw [.ref i, dv ps, .int most] (W A i ds E) = some (.lst (rs.map dv), true, W A i ds' E) ∧ rs.length ≤ most ∧ ∀ a ∈ rs, okRaw ps a := by
  obtain ⟨ys, ds', h, h2⟩ := raw_S (A := W A i ds E) (W_i hi) hr hz hm
  rw [W_si hi] at h
  exact ⟨ys, ds', h, h2⟩
end
end K76
set_option Elab.async false
set_option linter.all false
set_option maxRecDepth 100000
set_option autoImplicit false
set_option maxHeartbeats 1000000
namespace K76
open PySem L2 HS
section
variable {A E S : Sto} {i : Nat} {ds : List Int}
theorem rangeD_from {lo : Int} {n : Nat} : rangeD lo n = (List.range n).map fun k : Nat => D.int (lo + k) := rfl
abbrev Pr := List Int × Int
def prD (p : Pr) : D := .tup [.lst (p.1.map .int), .int p.2]
def okPr (m : Nat) (p : Pr) : Prop := p.1 ≠ [] ∧ p.1.length ≤ 2 ∧ (0 < m → (∀ x ∈ p.1, 0 ≤ x) ∧ 0 ≤ p.2)
def chainL (m : Nat) : List Pr := (List.range (m - 1)).map fun k : Nat => ([(k : Int)], (k : Int) + 1)
def pairsL (m : Nat) : List Pr := (List.range m).map fun k : Nat => ([(k : Int)], (k : Int) + 1 - 2 * ((k : Int) % 2))
def fans2 (m : Nat) : List Pr := (List.range (2 * m - 4)).map fun k : Nat => ([(4 + (k : Int)) % 2], (4 + (k : Int)) / 2)
def floatsL : List Pr := [([0], 1), ([1], 0), ([0], 2), ([1], 2), ([2], 3), ([4], 5), ([5], 4), ([5], 5)]
def teamsL : List Pr := [([0, 1], 2), ([2], 0), ([2, 3], 1), ([1], 3), ([0, 3], 4), ([4], 4)]
section
variable {η : HS.Env} {m : Nat}
theorem shape_k1 {a0 a1 a2 a4 a5 a6 a7 a8 a9 a10 : Option D} (hm : m ≤ 100) : k_law_shape_1 [a0, a1, a2, some (.int m), a4, a5, a6, a7, a8, a9, a10, none, none, none] S = some (.lst ((chainL m).map prD), S) := by
  have hz2 : (SZ : Nat) = 100000 := rfl
  unfold chainL
  rw [List.map_map]
  refine lc_all (as := List.range (m - 1)) (g := fun k : Nat => D.int (0 + (k : Int))) (chk := chkT) ?_ trivial (by simp; omega) fun k hk => ⟨_, rfl, rfl, ?_⟩
  · have h := ir1K_ (S := S) (a := (m : Int) - 1) (by omega)
    have e : ((m : Int) - 1).toNat = m - 1 := by omega
    rw [e] at h
    simp [h, rangeD_from]
  · simp [prD]
theorem shape_k2 {a0 a1 a2 a4 a5 a6 a7 a8 a9 a10 : Option D} (hm : m ≤ 100) : k_law_shape_2 [a0, a1, a2, some (.int m), a4, a5, a6, a7, a8, a9, a10, none, none, none] S = some (.lst ((pairsL m).map prD), S) := by
  have hz2 : (SZ : Nat) = 100000 := rfl
  unfold pairsL
  rw [List.map_map]
  refine lc_all (as := List.range m) (g := fun k : Nat => D.int (0 + (k : Int))) (chk := chkT) ?_ trivial (by simp; omega) fun k hk => ⟨_, rfl, rfl, ?_⟩
  · have h := ir1K_ (S := S) (a := (m : Int)) (by omega)
    rw [Int.toNat_natCast] at h
    simp [h, rangeD_from]
  · have hq := fun S => q_mul (S := S) (a := 2) (b := (k : Int) % 2) (.inl (by decide))
    simp [prD, hq]
theorem shape_k3 {a0 a1 a2 a4 a5 a6 a7 a8 a9 a10 : Option D} (hm : m ≤ 100) : k_law_shape_3 [a0, a1, a2, some (.int m), a4, a5, a6, a7, a8, a9, a10, none, none, none] S = some (.lst ((fans2 m).map prD), S) := by
  have hz2 : (SZ : Nat) = 100000 := rfl
  unfold fans2
  rw [List.map_map]
  refine lc_all (as := List.range (2 * m - 4)) (g := fun k : Nat => D.int (4 + (k : Int))) (chk := chkT) ?_ trivial (by simp; omega) fun k hk => ⟨_, rfl, rfl, ?_⟩
  · have hq := q_mul (S := S) (a := 2) (b := (m : Int)) (.inl (by decide))
    have h := ir2K_ (S := S) (a := 4) (c := 2 * (m : Int)) (by omega)
    have e : (2 * (m : Int) - 4).toNat = 2 * m - 4 := by omega
    rw [e] at h
    simp [hq, h, rangeD_from]
  · simp [prD]
theorem ok_chain {p : Pr} (h : p ∈ chainL m) : okPr m p := by
  obtain ⟨k, _, rfl⟩ := List.mem_map.mp h
  exact ⟨by simp, by simp, fun _ => ⟨by simp, by simp only; omega⟩⟩
theorem ok_pairs {p : Pr} (h : p ∈ pairsL m) : okPr m p := by
  obtain ⟨k, _, rfl⟩ := List.mem_map.mp h
  exact ⟨by simp, by simp, fun _ => ⟨by simp, by simp only; omega⟩⟩
theorem ok_fans2 {p : Pr} (h : p ∈ fans2 m) : okPr m p := by
  obtain ⟨k, _, rfl⟩ := List.mem_map.mp h
  exact ⟨by simp, by simp, fun _ => ⟨by simp; omega, by simp only; omega⟩⟩
theorem ok_floats {p : Pr} (h : p ∈ floatsL) : okPr m p := by
  have : ∀ p ∈ floatsL, p.1 ≠ [] ∧ p.1.length ≤ 2 ∧ (∀ x ∈ p.1, 0 ≤ x) ∧ 0 ≤ p.2 := by decide
  have := this p h
  exact ⟨this.1, this.2.1, fun _ => this.2.2⟩
theorem ok_teams {p : Pr} (h : p ∈ teamsL) : okPr m p := by
  have : ∀ p ∈ teamsL, p.1 ≠ [] ∧ p.1.length ≤ 2 ∧ (∀ x ∈ p.1, 0 ≤ x) ∧ 0 ≤ p.2 := by decide
  have := this p h
  exact ⟨this.1, this.2.1, fun _ => this.2.2⟩
end
end
end K76
set_option Elab.async false
set_option linter.all false
set_option maxRecDepth 100000
set_option autoImplicit false
set_option maxHeartbeats 1000000
namespace K76
open PySem L2 HS
section
variable {A E S : Sto} {i : Nat} {ds : List Int}
theorem bMax_ints {l : List Int} (h : l ≠ []) : bMax [.lst (l.map D.int)] S = some (.int (mxI l), S) := by
  have hi : ∀ l : List Int, intsOf (l.map D.int) = some l := fun l => by
    induction l with
    | nil => rfl
    | cons x l ih =>
      rw [List.map_cons]
      show (intsOf (l.map D.int)).map _ = _
      rw [ih]; rfl
  show ((lstOf S (.lst (l.map D.int))).bind fun ys => (intsOf ys).bind fun is => (if is = [] then none else some (D.int (mxI is))).bind fun r => some (r, S)) = _
  rw [q_lo1, Option.bind_some, hi, Option.bind_some, if_neg h]
  rfl
def fitB (m : Nat) (p : Pr) : Bool := decide (mxI (p.1 ++ [p.2]) < (m : Int))
theorem shape_k4 {a0 a1 a2 a4 a5 a6 a7 a8 a10 : Option D} {prs : List Pr} {m : Nat} (hz : prs.length ≤ SZ) (hp : ∀ p ∈ prs, okPr m p) : k_law_shape_4 [a0, a1, a2, some (.int m), a4, a5, a6, a7, a8, some (.lst (prs.map prD)), a10, none, none, none] S = some (.lst ((prs.filter (fitB m)).map prD), S) := by
  have hz2 : (SZ : Nat) = 100000 := rfl
  refine lc_pure (S := S) (as := prs) (g := prD) (f := prD) (b := fitB m) (chk := chkS (.lst (prs.map prD)) (prs.map prD)) (by simp) (by simp) hz fun p hp' => ⟨_, rfl, ?_, fun _ => ?_⟩
  · have hl := (hp p hp').2.1
    have h1 : ∀ S, oAdd (.lst (p.1.map D.int)) (.lst [.int p.2]) S = some (.lst ((p.1 ++ [p.2]).map D.int), S) := fun S => by
      rw [q_addl (by simp; omega), List.map_append]
      rfl
    have h2 := fun S => bMax_ints (S := S) (l := p.1 ++ [p.2]) (by simp)
    generalize (p.1 ++ [p.2]).map D.int = M at h1 h2
    simp [prD, h1, h2, fitB]
  · simp
/-- the piece at a place -/
def pcAt (o : List Piece) (x : Int) : Piece := o.getD x.toNat (zs 1, [])
theorem ix_at {o : List Piece} {x : Int} (h0 : 0 ≤ x) (h1 : x < o.length) : oIx (.lst (o.map dv)) (.int x) S = some (dv (pcAt o x), S) := by
  obtain ⟨n, rfl⟩ := Int.eq_ofNat_of_zero_le h0
  have hn : n < o.length := by omega
  have h : (o.map dv)[n]? = some (dv (pcAt o n)) := by
    rw [List.getElem?_map, List.getElem?_eq_getElem hn]
    unfold pcAt
    rw [Int.toNat_natCast, List.getD_eq_getElem?_getD, List.getElem?_eq_getElem hn]
    rfl
  rw [q_ixl, atIn h]
  rfl
theorem pcAt_mem {o : List Piece} {x : Int} (h0 : 0 ≤ x) (h1 : x < o.length) : pcAt o x ∈ o := by
  obtain ⟨n, rfl⟩ := Int.eq_ofNat_of_zero_le h0
  have hn : n < o.length := by omega
  unfold pcAt
  rw [Int.toNat_natCast, List.getD_eq_getElem?_getD, List.getElem?_eq_getElem hn]
  exact List.getElem_mem hn
theorem shape_k5 {a0 a1 a3 a4 a5 a6 a7 a8 a9 a10 a11 : Option D} {o : List Piece} {p : Pr} (hz : p.1.length ≤ SZ) (hp : ∀ x ∈ p.1, 0 ≤ x ∧ x < o.length) : k_law_shape_5 [a0, a1, some (.lst (o.map dv)), a3, a4, a5, a6, a7, a8, a9, a10, a11, some (prD p), none] S = some (.lst ((p.1.map (pcAt o)).map dv), S) := by
  rw [List.map_map]
  refine lc_all (as := p.1) (g := D.int) (chk := chkS (.lst (p.1.map D.int)) (p.1.map D.int)) (by simp [prD]) (by simp) hz fun x hx => ⟨_, rfl, rfl, ?_⟩
  have h := ix_at (S := S) (hp x hx).1 (hp x hx).2
  simp only [q_bin, q_var, q_wipe, q_wipe0]
  simp [-q_ixl, h]
/-- what a fitting pair stands for -/
def prA (o : List Piece) (p : Pr) : Sup × Piece := (setP (p.1.map (pcAt o)), pcAt o p.2)
theorem shape_k6 {a0 a1 a3 a4 a5 a6 a7 a8 a9 : Option D} {o : List Piece} {ft : List Pr} (hz : ft.length ≤ SZ) (hl : ∀ p ∈ ft, p.1.length ≤ 2) (hr : ∀ p ∈ o, p.2.length ≤ 4) (hp : ∀ p ∈ ft, (∀ x ∈ p.1, 0 ≤ x ∧ x < o.length) ∧ 0 ≤ p.2 ∧ p.2 < o.length) :
    k_law_shape_6 [a0, a1, some (.lst (o.map dv)), a3, a4, a5, a6, a7, a8, a9, some (.lst (ft.map prD)), none, none, none] S = some (.lst ((ft.map (prA o)).map dv), S) := by
  have hz2 : (SZ : Nat) = 100000 := rfl
  rw [List.map_map]
  refine lc_all (as := ft) (g := prD) (chk := chkS (.lst (ft.map prD)) (ft.map prD)) (by simp) (by simp) hz fun p hp' => ⟨_, rfl, rfl, ?_⟩
  have h5 := fun S => shape_k5 (S := S) (a0 := a0) (a1 := a1) (a3 := a3) (a4 := a4) (a5 := a5) (a6 := a6) (a7 := a7) (a8 := a8) (a9 := a9) (a10 := some (.lst (ft.map prD))) (a11 := none) (o := o) (p := p) (by have := hl p hp'; omega) (hp p hp').1
  have hs := fun S => set_spec (A := S) (e := .lst ((p.1.map (pcAt o)).map dv)) (ps := p.1.map (pcAt o)) (fun q hq => by
    obtain ⟨x, hx, rfl⟩ := List.mem_map.mp hq
    have := (hp p hp').1 x hx
    exact Nat.le_trans (hr _ (pcAt_mem this.1 this.2)) (by omega)) (by have := hl p hp'; simp; omega) rfl
  have hx := fun S => ix_at (S := S) (o := o) (hp p hp').2.1 (hp p hp').2.2
  have e : (Function.comp dv (prA o)) p = .tup [dv (setP (p.1.map (pcAt o))), dv (pcAt o p.2)] := rfl
  rw [e]
  generalize (p.1.map (pcAt o)).map dv = L at h5 hs
  have e2 : ∀ S, oIx (prD p) (.int 1) S = some (.int p.2, S) := fun S => by simp [prD]
  generalize hP : prD p = P at h5 e2
  simp [-q_ixl, h5, hs, hx, e2]
end
end K76
set_option Elab.async false
set_option linter.all false
set_option maxRecDepth 100000
set_option autoImplicit false
set_option maxHeartbeats 1000000
namespace K76
open PySem L2 HS
section
variable {A E S : Sto} {i : Nat} {ds : List Int}
theorem shape_W {ps : Sup} (hi : i < A.length) (hr : ∀ p ∈ ps, p.2.length ≤ 4) (hz : ps.length ≤ 100) : ∃ (rs : List (Sup × Piece)) (ds' : List Int), c_law_shape [.ref i, dv ps] (W A i ds E) = some (.lst (rs.map dv), false, W A i ds' E) ∧ rs.length ≤ 300 ∧ ∀ a ∈ rs, okRaw ps a := by
  have hz2 : (SZ : Nat) = 100000 := rfl
  obtain ⟨o, d1, h1, ho⟩ := shuf_W (α := Piece) (A := A) (E := E) (ds := ds) (row := dv ps) (xs := ps) hi (.inr rfl) (by omega)
  have hol := ho.length_eq
  obtain ⟨m, hm⟩ : ∃ m, m = ps.length := ⟨_, rfl⟩
  have hm2 : m ≤ 100 := by omega
  have hlen : ∀ S, bLen [.lst (o.map dv)] S = some (.int m, S) := fun S => by rw [q_lenl, List.length_map, hol, hm]
  have k1 := fun S a0 a1 a2 a4 a5 a6 a7 a8 a9 a10 => shape_k1 (S := S) (a0 := a0) (a1 := a1) (a2 := a2) (a4 := a4) (a5 := a5) (a6 := a6) (a7 := a7) (a8 := a8) (a9 := a9) (a10 := a10) hm2
  have k2 := fun S a0 a1 a2 a4 a5 a6 a7 a8 a9 a10 => shape_k2 (S := S) (a0 := a0) (a1 := a1) (a2 := a2) (a4 := a4) (a5 := a5) (a6 := a6) (a7 := a7) (a8 := a8) (a9 := a9) (a10 := a10) hm2
  have k3 := fun S a0 a1 a2 a4 a5 a6 a7 a8 a9 a10 => shape_k3 (S := S) (a0 := a0) (a1 := a1) (a2 := a2) (a4 := a4) (a5 := a5) (a6 := a6) (a7 := a7) (a8 := a8) (a9 := a9) (a10 := a10) hm2
  have f1 : ∀ S, oAdd (.lst [.tup [.lst [.int 0], .int 1], .tup [.lst [.int 1], .int 0], .tup [.lst [.int ((m : Int) - 1)], .int ((m : Int) - 1)]]) (.lst ((fans2 m).map prD)) S = some (.lst ((([([0], 1), ([1], 0), ([(m : Int) - 1], (m : Int) - 1)] : List Pr) ++ fans2 m).map prD), S) := fun S => by
    rw [q_addl (by simp [fans2]; omega), List.map_append]
    rfl
  have f2 : ∀ S, oAdd (.lst ((chainL m).map prD)) (.lst [.tup [.lst [.int ((m : Int) - 1)], .int 0]]) S = some (.lst ((chainL m ++ [([(m : Int) - 1], 0)]).map prD), S) := fun S => by
    rw [q_addl (by simp [chainL]; omega), List.map_append]
    rfl
  obtain ⟨k, x, d2, h2, h3⟩ := pick_W (A := A) (E := E) (ds := d1) (row := .lst [.lst [], .lst [], .lst [], .lst ((chainL m).map prD), .lst ((chainL m ++ [([(m : Int) - 1], 0)]).map prD), .lst ((pairsL m).map prD), .lst ((([([0], 1), ([1], 0), ([(m : Int) - 1], (m : Int) - 1)] : List Pr) ++ fans2 m).map prD), .lst (floatsL.map prD), .lst (teamsL.map prD)]) (xs := [.lst [], .lst [], .lst [], .lst ((chainL m).map prD), .lst ((chainL m ++ [([(m : Int) - 1], 0)]).map prD), .lst ((pairsL m).map prD), .lst ((([([0], 1), ([1], 0), ([(m : Int) - 1], (m : Int) - 1)] : List Pr) ++ fans2 m).map prD), .lst (floatsL.map prD), .lst (teamsL.map prD)]) hi (.inl rfl) (by simp)
  obtain ⟨prs, rfl, hpl, hpo⟩ : ∃ prs : List Pr, x = .lst (prs.map prD) ∧ prs.length ≤ 300 ∧ ∀ p ∈ prs, okPr m p := by
    have hx := List.mem_of_getElem? h2
    simp only [List.mem_cons, List.not_mem_nil, or_false] at hx
    rcases hx with rfl | rfl | rfl | rfl | rfl | rfl | rfl | rfl | rfl
    · exact ⟨[], rfl, by simp, by simp⟩
    · exact ⟨[], rfl, by simp, by simp⟩
    · exact ⟨[], rfl, by simp, by simp⟩
    · exact ⟨chainL m, rfl, by simp [chainL]; omega, fun p hp => ok_chain hp⟩
    · refine ⟨_, rfl, by simp [chainL]; omega, fun p hp => ?_⟩
      rcases List.mem_append.mp hp with hp | hp
      · exact ok_chain hp
      · have : p = ([(m : Int) - 1], 0) := by simpa using hp
        subst this
        exact ⟨by simp, by simp, fun _ => ⟨by simp; omega, by simp⟩⟩
    · exact ⟨pairsL m, rfl, by simp [pairsL]; omega, fun p hp => ok_pairs hp⟩
    · refine ⟨_, rfl, by simp [fans2]; omega, fun p hp => ?_⟩
      rcases List.mem_append.mp hp with hp | hp
      · simp only [List.mem_cons, List.not_mem_nil, or_false] at hp
        rcases hp with rfl | rfl | rfl
        · exact ⟨by simp, by simp, fun _ => ⟨by simp, by simp⟩⟩
        · exact ⟨by simp, by simp, fun _ => ⟨by simp, by simp⟩⟩
        · exact ⟨by simp, by simp, fun _ => ⟨by simp; omega, by simp only; omega⟩⟩
      · exact ok_fans2 hp
    · exact ⟨floatsL, rfl, by decide, fun p hp => ok_floats hp⟩
    · exact ⟨teamsL, rfl, by decide, fun p hp => ok_teams hp⟩
  clear h2
  have fl : (.lst [.tup [.lst [.int 0], .int 1], .tup [.lst [.int 1], .int 0], .tup [.lst [.int 0], .int 2], .tup [.lst [.int 1], .int 2], .tup [.lst [.int 2], .int 3], .tup [.lst [.int 4], .int 5], .tup [.lst [.int 5], .int 4], .tup [.lst [.int 5], .int 5]] : D) = .lst (floatsL.map prD) := rfl
  have tm : (.lst [.tup [.lst [.int 0, .int 1], .int 2], .tup [.lst [.int 2], .int 0], .tup [.lst [.int 2, .int 3], .int 1], .tup [.lst [.int 1], .int 3], .tup [.lst [.int 0, .int 3], .int 4], .tup [.lst [.int 4], .int 4]] : D) = .lst (teamsL.map prD) := rfl
  rw [← fl, ← tm] at h3
  have hft : ∀ p ∈ prs.filter (fitB m), okPr m p ∧ (0 < m → (∀ x ∈ p.1, 0 ≤ x ∧ x < o.length) ∧ 0 ≤ p.2 ∧ p.2 < o.length) := fun p hp => by
    obtain ⟨hp1, hp2⟩ := List.mem_filter.mp hp
    refine ⟨hpo p hp1, fun h0 => ?_⟩
    have hlt : mxI (p.1 ++ [p.2]) < (m : Int) := of_decide_eq_true hp2
    have h5 := (hpo p hp1).2.2 h0
    refine ⟨fun x hx => ⟨h5.1 x hx, ?_⟩, h5.2, ?_⟩
    · have := mxI_ge (l := p.1 ++ [p.2]) (List.mem_append_left _ hx)
      omega
    · have := mxI_ge (l := p.1 ++ [p.2]) (z := p.2) (by simp)
      omega
  have k4 := fun S a0 a1 a2 a4 a5 a6 a7 a8 a10 => shape_k4 (S := S) (a0 := a0) (a1 := a1) (a2 := a2) (a4 := a4) (a5 := a5) (a6 := a6) (a7 := a7) (a8 := a8) (a10 := a10) (prs := prs) (m := m) (by omega) hpo
  by_cases h0 : m = 0
  · refine ⟨[], d2, ?_, by simp, by simp⟩
    generalize (chainL m).map prD = L1 at k1 f2 h3
    generalize (pairsL m).map prD = L2 at k2 h3
    generalize (fans2 m).map prD = L3 at k3 f1
    generalize (([([0], 1), ([1], 0), ([(m : Int) - 1], (m : Int) - 1)] : List Pr) ++ fans2 m).map prD = L4 at f1 h3
    generalize (chainL m ++ [([(m : Int) - 1], 0)]).map prD = L5 at f2 h3
    generalize prs.map prD = L6 at h3
    unfold c_law_shape m_law_shape
    rw [q_calls]
    have hmi : ∀ S, oEq (.int (m : Int)) (.int 0) S = some (.bl true, S) := fun S => by rw [q_eqi]; simp [h0]
    simp [-q_addl, -q_eqi, h1, hlen, k1, k2, k3, f1, f2, h3, hmi]
    exact end_len (by simp)
  · have hpos : 0 < m := by omega
    have k6 := fun S a0 a1 a3 a4 a5 a6 a7 a8 a9 => shape_k6 (S := S) (a0 := a0) (a1 := a1) (a3 := a3) (a4 := a4) (a5 := a5) (a6 := a6) (a7 := a7) (a8 := a8) (a9 := a9) (o := o) (ft := prs.filter (fitB m)) (by
      have := List.length_filter_le (fitB m) prs
      omega) (fun p hp => (hft p hp).1.2.1) (fun p hp => hr p (ho.mem_iff.mp hp)) (fun p hp => (hft p hp).2 hpos)
    refine ⟨(prs.filter (fitB m)).map (prA o), d2, ?_, by have := List.length_filter_le (fitB m) prs; simp; omega, fun a ha => ?_⟩
    · generalize ((prs.filter (fitB m)).map (prA o)).map dv = L0 at k6 ⊢
      generalize (chainL m).map prD = L1 at k1 f2 h3
      generalize (pairsL m).map prD = L2 at k2 h3
      generalize (fans2 m).map prD = L3 at k3 f1
      generalize (([([0], 1), ([1], 0), ([(m : Int) - 1], (m : Int) - 1)] : List Pr) ++ fans2 m).map prD = L4 at f1 h3
      generalize (chainL m ++ [([(m : Int) - 1], 0)]).map prD = L5 at f2 h3
      generalize prs.map prD = L6 at h3 k4
      generalize (prs.filter (fitB m)).map prD = L7 at k4 k6
      unfold c_law_shape m_law_shape
      rw [q_calls]
      have hmi : ¬ (m : Int) = 0 := by omega
      simp [-q_addl, h1, hlen, k1, k2, k3, k4, k6, f1, f2, h3, h0]
      exact end_len (by simp)
    · obtain ⟨p, hp, rfl⟩ := List.mem_map.mp ha
      have h6 := (hft p hp).2 hpos
      refine ⟨⟨p.1.map (pcAt o), rfl, by have := (hft p hp).1.2.1; simp; omega, fun q hq => ?_⟩, ho.mem_iff.mp (pcAt_mem h6.2.1 h6.2.2)⟩
      obtain ⟨x, hx, rfl⟩ := List.mem_map.mp hq
      exact ho.mem_iff.mp (pcAt_mem (h6.1 x hx).1 (h6.1 x hx).2)
end
end K76
set_option Elab.async false
set_option linter.all false
set_option maxRecDepth 100000
set_option autoImplicit false
set_option maxHeartbeats 1000000
namespace K76
open PySem L2 HS
section
variable {A E S : Sto} {i : Nat} {ds : List Int}
abbrev Att := Sup × Piece
abbrev Board := Sup × List Att
def selS (rs : List Att) (p : Piece) : List Sup := (rs.filter fun a => decide (a.2 = p)).map (·.1)
def attsOf (ps : Sup) (rs : List Att) : List Att := ps.flatMap fun p => (thin (selS rs p)).map fun s => (s, p)
theorem thin_len_aux (ss : List Sup) : ∀ (l f : List Sup), (l.foldl (thinF ss) f).length ≤ f.length + l.length
  | [], f => by simp
  | x :: l, f => by
    rw [List.foldl_cons]
    have h1 := thin_len_aux ss l (thinF ss f x)
    have h2 := thinF_len ss f x
    simp
    omega
theorem thin_len (ss : List Sup) : (thin ss).length ≤ ss.length := by
  have := thin_len_aux ss (srt pS ss) []
  rw [srt_len] at this
  simpa [thin] using this
theorem selS_len (rs : List Att) (p : Piece) : (selS rs p).length ≤ rs.length := by
  unfold selS
  rw [List.length_map]
  exact List.length_filter_le _ _
theorem board_k {rs : List Att} {p : Piece} {a0 a2 a4 : Option D} (hz : rs.length ≤ SZ) : k_law_board_of_raw_1 [a0, some (.lst (rs.map dv)), a2, some (dv p), a4, none] S = some (.lst ((selS rs p).map dv), S) := by
  have h : k_law_board_of_raw_1 [a0, some (.lst (rs.map dv)), a2, some (dv p), a4, none] S = some (.lst ((rs.filter fun a => decide (a.2 = p)).map fun a => dv a.1), S) := by
    refine lc_pure (α := Att) (S := S) (as := rs) (g := dv) (f := fun a => dv a.1) (b := fun a => decide (a.2 = p)) (chk := chkS (.lst (rs.map dv)) (rs.map dv)) (by simp) (by simp) hz fun a ha => ⟨_, rfl, ?_, fun _ => ?_⟩
    · have e : (dv a : D) = .tup [dv a.1, dv a.2] := rfl
      have h := fun S => q_eq (S := S) a.2 p (by decide)
      rw [e]
      simp [h]
    · have e : (dv a : D) = .tup [dv a.1, dv a.2] := rfl
      rw [e]
      simp
  unfold selS
  rw [List.map_map]
  exact h
theorem foldl_snoc {β γ : Type} (g : β → γ) : ∀ (l : List β) (f : List γ), l.foldl (fun f s => f ++ [g s]) f = f ++ l.map g
  | [], f => by simp
  | x :: l, f => by rw [List.foldl_cons, foldl_snoc g l]; simp
theorem board_in {rs : List Att} {f : List Att} {p : Piece} {P : D} {a4 : Option D} (hz : rs.length ≤ 1000) (hs : ∀ a ∈ rs, okS a.1) (hf : f.length + rs.length < SZ) : ∃ a4', l_law_board_of_raw_1 [some P, some (.lst (rs.map dv)), some (.ref A.length), some (dv p), a4, none] (V A [.lst (f.map dv)]) =
    some (.nx, [some P, some (.lst (rs.map dv)), some (.ref A.length), some (dv p), a4', none], V A [.lst ((f ++ (thin (selS rs p)).map fun s => (s, p)).map dv)]) := by
  have hz2 : (SZ : Nat) = 100000 := rfl
  have hl := selS_len rs p
  have ht := thin_spec (A := V A [.lst (f.map dv)]) (ss := selS rs p) (e := .lst ((selS rs p).map dv)) (fun s hs' => by
    unfold selS at hs'
    obtain ⟨a, ha, rfl⟩ := List.mem_map.mp hs'
    exact hs a (List.mem_filter.mp ha).1) (by omega) rfl
  have hk := board_k (S := V A [.lst (f.map dv)]) (a0 := some P) (a2 := some (.ref A.length)) (a4 := a4) (rs := rs) (p := p) (by omega)
  have htl := thin_len (selS rs p)
  obtain ⟨o, h1, _⟩ := for_fold (α := Sup) (β := List Att) (it := iE (eCall c_law_thinned 1 (aCons k_law_board_of_raw_1 aNil))) (tg := HS.gN 4) (body := b_law_board_of_raw_1) (S0 := V A [.lst (f.map dv)]) (as := thin (selS rs p)) (g := dv) (b0 := f) (o0 := a4) (chk := chkS (dv (thin (selS rs p))) ((thin (selS rs p)).map dv)) (fun f s => f ++ [(s, p)]) (fun f => V A [.lst (f.map dv)]) (fun o => [some P, some (.lst (rs.map dv)), some (.ref A.length), some (dv p), o, none]) (fun k g => g.length = f.length + k)
    (by
      generalize (selS rs p).map dv = L at hk ht
      have e : ∀ S, seqOf S (dv (thin (selS rs p))) = some ((thin (selS rs p)).map dv) := fun S => rfl
      simp [hk, ht, e]) (fun _ => rfl) (fun _ _ => rfl) rfl (fun k s g hk hg => by
      have hk2 := (List.getElem?_eq_some_iff.mp hk).1
      have hlt : g.length < SZ := by omega
      refine ⟨?_, by simp; omega⟩
      unfold b_law_board_of_raw_1
      have e : (dv (s, p) : D) = .tup [dv s, dv p] := rfl
      simp [hlt, e])
  refine ⟨o, ?_⟩
  rw [← foldl_snoc fun s => (s, p)]
  exact h1
theorem okS_of {ps : Sup} {a : Att} (hr : ∀ p ∈ ps, p.2.length ≤ 4) (h : okRaw ps a) : okS a.1 := by
  have hz2 : (SZ : Nat) = 100000 := rfl
  obtain ⟨l, h1, h2, h3⟩ := h.1
  rw [h1]
  refine ⟨by have := len_setP (ps := l); omega, fun p hp => ?_⟩
  have := hr p (h3 p (mem_setP.mp hp))
  unfold okP
  omega
theorem board_out {ps : Sup} {rs : List Att} (hz : rs.length ≤ 900) (hp : ps.length ≤ 100) (hs : ∀ a ∈ rs, okS a.1) : ∃ η', l_law_board_of_raw_2 [some (dv ps), some (.lst (rs.map dv)), some (.ref A.length), none, none, none] (V A [.lst []]) = some (.nx, η', V A [.lst ((attsOf ps rs).map dv)]) ∧ η'[0]? = some (some (dv ps)) ∧ η'[2]? = some (some (.ref A.length)) := by
  have hz2 : (SZ : Nat) = 100000 := rfl
  obtain ⟨η', S', h1, a3, a4, rfl, rfl⟩ := for_ind (it := iE (eVar 0)) (tg := HS.gN 3) (body := l_law_board_of_raw_1) (η := [some (dv ps), some (.lst (rs.map dv)), some (.ref A.length), none, none, none]) (S := V A [.lst []]) (S0 := V A [.lst []]) (xs := ps.map dv) (chk := chkS (dv ps) (ps.map dv))
    (fun k η S => ∃ (a3 a4 : Option D), η = [some (dv ps), some (.lst (rs.map dv)), some (.ref A.length), a3, a4, none] ∧ S = V A [.lst ((attsOf (ps.take k) rs).map dv)])
    (by
      have e : ∀ S, seqOf S (dv ps) = some (ps.map dv) := fun S => rfl
      simp [e]) ⟨none, none, rfl, rfl⟩ (fun _ _ _ _ _ => rfl) (fun k x η S hx ⟨a3, a4, h1, h2⟩ => by
      subst h1 h2
      rw [List.getElem?_map] at hx
      obtain ⟨p, hk, rfl⟩ := Option.map_eq_some_iff.mp hx
      have hk2 := (List.getElem?_eq_some_iff.mp hk).1
      have hb : ∀ l : Sup, (attsOf l rs).length ≤ l.length * rs.length := fun l => by
        induction l with
        | nil => simp [attsOf]
        | cons q l ih =>
          unfold attsOf at ih ⊢
          rw [List.flatMap_cons, List.length_append, List.length_map, List.length_cons, Nat.succ_mul]
          have h1 := thin_len (selS rs q)
          have h2 := selS_len rs q
          omega
      have hlen := hb (ps.take k)
      have hmul : (ps.take k).length * rs.length ≤ 100 * 900 := Nat.mul_le_mul (by simp; omega) hz
      obtain ⟨a4', h5⟩ := board_in (A := A) (rs := rs) (f := attsOf (ps.take k) rs) (p := p) (P := dv ps) (a4 := a4) (by omega) hs (by omega)
      refine ⟨_, _, _, rfl, .inl h5, _, a4', rfl, ?_⟩
      rw [List.take_add_one, hk]
      unfold attsOf
      rw [List.flatMap_append]
      simp)
  rw [List.length_map, List.take_length] at h1
  exact ⟨_, h1, rfl, rfl⟩
theorem board_spec {ps : Sup} {rs : List Att} (hz : rs.length ≤ 900) (hp : ps.length ≤ 100) (hs : ∀ a ∈ rs, okS a.1) : c_law_board_of_raw [dv ps, .lst (rs.map dv)] A = some (dv (ps, attsOf ps rs), false, A) := by
  obtain ⟨η', h1, h2, h3⟩ := board_out (A := A) hz hp hs
  unfold c_law_board_of_raw m_law_board_of_raw
  rw [callsV]
  simp [h1, h2, h3]
  exact end_V (n := DV.n Board) (DV.hpl ((ps, attsOf ps rs) : Board)) (by decide)
end
end K76
set_option Elab.async false
set_option linter.all false
set_option maxRecDepth 100000
set_option autoImplicit false
set_option maxHeartbeats 1000000
namespace K76
open PySem L2 HS
section
variable {A E S : Sto} {i : Nat} {ds : List Int}
abbrev Tup := List Int
/-- all tuples of 0 and 1 -/
def allT : Nat → List Tup
  | 0 => [[]]
  | n + 1 => (allT n).flatMap fun c => [c ++ [0], c ++ [1]]
theorem fm_len : ∀ l : List Tup, (l.flatMap fun c => [c ++ [0], c ++ [1]]).length = 2 * l.length
  | [] => rfl
  | c :: l => by
    rw [List.flatMap_cons, List.length_append, fm_len l]
    simp
    omega
theorem allT_len : ∀ n, (allT n).length = 2 ^ n
  | 0 => rfl
  | n + 1 => by rw [allT, fm_len, allT_len n, Nat.pow_succ, Nat.mul_comm]
theorem allT_mem : ∀ {n : Nat} {c : Tup}, c ∈ allT n → c.length = n
  | 0, c, h => by simp [allT] at h; subst h; rfl
  | n + 1, c, h => by
    rw [allT, List.mem_flatMap] at h
    obtain ⟨b, hb, hc⟩ := h
    have := allT_mem hb
    simp at hc
    rcases hc with rfl | rfl <;> simp [this]
theorem dv_tup (c : Tup) : (dv c : D) = .tup (c.map D.int) := rfl
theorem app_tup {c : Tup} {x : Int} (h : c.length ≤ 100) : oAdd (dv c) (.tup [.int x]) S = some (dv (c ++ [x]), S) := by
  have hz2 : (SZ : Nat) = 100000 := rfl
  rw [dv_tup, q_addt (by simp; omega), dv_tup, List.map_append]
  rfl
theorem lcR_snoc2 {c : Tup} {acc : List D} {a0 a1 a2 : Option D} (hc : c.length ≤ 100) (hz : acc.length + 2 ≤ SZ) : lcR (chkS (.tup [.int 0, .int 1]) [.int 0, .int 1]) (HS.gN 4) tYesE (eBin oAdd (eVar 3) (eTup (aCons (eVar 4) aNil))) [a0, a1, a2, some (dv c), none] [.int 0, .int 1] acc S = some (acc ++ [dv (c ++ [0]), dv (c ++ [1])], S) := by
  have h := lcR_pure (chk := chkS (.tup [.int 0, .int 1]) [.int 0, .int 1]) (tg := HS.gN 4) (tt := tYesE) (fe := eBin oAdd (eVar 3) (eTup (aCons (eVar 4) aNil))) (η0 := [a0, a1, a2, some (dv c), none]) (α := Int) (g := D.int) (f := fun x => dv (c ++ [x])) (b := fun _ => true) (S := S) rfl [0, 1] acc (by simpa using hz) (fun x hx => ⟨_, rfl, rfl, fun _ => by simp [app_tup hc]⟩)
  simpa using h
theorem lc2_all {cs : List Tup} {acc : List D} {a0 a1 a2 x : Option D} {chk : Sto → Prop} (hk : chk S) (hc : ∀ c ∈ cs, c.length ≤ 100) (hz : acc.length + 2 * cs.length ≤ SZ) : lc2R chk (HS.gN 3) tYesE (iE (eTup (aCons (eC (.int 0)) (aCons (eC (.int 1)) aNil)))) [4] (HS.gN 4) tYesE (eBin oAdd (eVar 3) (eTup (aCons (eVar 4) aNil))) [a0, a1, a2, x, none] (cs.map dv) acc S = some (acc ++ (cs.flatMap fun c => [c ++ [0], c ++ [1]]).map dv, S) := by
  induction cs generalizing acc with
  | nil =>
    rw [List.map_nil]
    unfold lc2R
    rw [if_pos hk]
    simp
  | cons c cs ih =>
    rw [List.map_cons]
    unfold lc2R
    rw [if_pos hk]
    have h := lcR_snoc2 (S := S) (c := c) (acc := acc) (a0 := a0) (a1 := a1) (a2 := a2) (hc c List.mem_cons_self) (by simp at hz; omega)
    have ih' := ih (acc := acc ++ [dv (c ++ [0]), dv (c ++ [1])]) (fun d hd => hc d (List.mem_cons_of_mem _ hd)) (by simp at hz ⊢; omega)
    simp only [q_gn, List.set_cons_succ, List.set_cons_zero, Option.bind_some, q_yes, if_true, q_ie, q_tup, q_acons, q_c, consK_, q_anil, consK2_, tupK_, ieK_, q_so1, ieK1_, q_wipe, q_wipe0]
    rw [h]
    simp only [Option.bind_some]
    rw [ih']
    simp
/-- the program's completions -/
theorem completions_spec {b : D} {mb : List Int} (hn : mb.length ≤ 12) : c_completions [.tup [b, dv mb]] A = some (dv (allT mb.length), false, A) := by
  have hz2 : (SZ : Nat) = 100000 := rfl
  obtain ⟨η', S', h1, a2, rfl, rfl⟩ := for_ind (it := iE (eBin oIx (eVar 0) (eC (.int 1)))) (tg := HS.gN 2) (body := b_completions_1) (η := [some (.tup [b, dv mb]), some (.lst [.tup []]), none, none, none]) (S := V A []) (S0 := V A []) (xs := mb.map dv) (chk := chkS (dv mb) (mb.map dv))
    (fun k η S => ∃ (a2 : Option D), η = [some (.tup [b, dv mb]), some (.lst ((allT k).map dv)), a2, none, none] ∧ S = V A [])
    (by
      have e : ∀ S, seqOf S (dv mb) = some (mb.map dv) := fun S => rfl
      simp [e]) ⟨none, rfl, rfl⟩ (fun _ _ _ _ _ => rfl) (fun k x η S hx ⟨a2, h1, h2⟩ => by
      subst h1 h2
      have hk := (List.getElem?_eq_some_iff.mp hx).1
      rw [List.length_map] at hk
      have hp : 2 ^ k ≤ 2 ^ 12 := Nat.pow_le_pow_right (by decide) (by omega)
      have h := lc2_all (S := V A []) (cs := allT k) (acc := []) (a0 := some (.tup [b, dv mb])) (a1 := some (.lst ((allT k).map dv))) (a2 := some x) (x := none) (chk := chkS (.lst ((allT k).map dv)) ((allT k).map dv)) rfl (fun c hc => by have := allT_mem hc; omega) (by rw [allT_len]; simp; omega)
      have e : k_completions_1 [some (.tup [b, dv mb]), some (.lst ((allT k).map dv)), some x, none, none] (V A []) = some (.lst ((allT (k + 1)).map dv), V A []) := by
        unfold k_completions_1 eLc2
        simp only [q_ie, q_var, List.getElem?_cons_succ, List.getElem?_cons_zero, varK_, ieK_, q_so2, ieK1_, Option.bind_some, q_wipe, q_wipe0, List.set_cons_succ, List.set_cons_zero]
        rw [h]
        rfl
      refine ⟨_, _, _, rfl, .inl ?_, some x, rfl, rfl⟩
      unfold b_completions_1
      simp only [q_set, List.set_cons_succ, List.set_cons_zero]
      rw [e]
      simp)
  unfold c_completions m_completions
  rw [callsV]
  have h1' : l_completions_1 [some (.tup [b, dv mb]), some (.lst [.tup []]), none, none, none] (V A []) = _ := h1
  rw [List.length_map] at h1'
  simp [h1']
  exact end_V (n := DV.n (List Tup)) (DV.hpl (allT mb.length)) (by decide)
/-- the law's tuples -/
theorem tuples_spec {n : Nat} (hn : n ≤ 12) : c_law_tuples [.int n] A = some (.lst ((allT n).map dv), false, A) := by
  have hz2 : (SZ : Nat) = 100000 := rfl
  have hns : n ≤ SZ := by omega
  obtain ⟨η', S', h1, a2, a3, a4, rfl, rfl⟩ := for_ind (it := iRange1 (aCons (eVar 0) aNil)) (tg := HS.gN 2) (body := b_law_tuples_2) (η := [some (.int n), some (.lst [.tup []]), none, none, none]) (S := V A []) (S0 := V A []) (xs := rangeD 0 n) (chk := chkT)
    (fun k η S => ∃ (a2 a3 a4 : Option D), η = [some (.int n), some (.lst ((allT k).map dv)), a2, a3, a4] ∧ S = V A [])
    (by simp [hns]) ⟨none, none, none, rfl, rfl⟩ (fun _ _ _ _ _ => trivial) (fun k x η S hx ⟨a2, a3, a4, h1, h2⟩ => by
      subst h1 h2
      obtain ⟨hk, rfl⟩ := rangeD_get hx
      have hp : 2 ^ k ≤ 2 ^ 12 := Nat.pow_le_pow_right (by decide) (by omega)
      have hlen := allT_len k
      obtain ⟨η2, S2, h3, a4', rfl, rfl⟩ := for_ind (it := iE (eVar 1)) (tg := HS.gN 4) (body := b_law_tuples_1) (η := [some (.int n), some (.lst ((allT k).map dv)), some (.int k), some (.lst []), a4]) (S := V A []) (S0 := V A []) (xs := (allT k).map dv) (chk := chkS (.lst ((allT k).map dv)) ((allT k).map dv))
        (fun j η S => ∃ a4, η = [some (.int n), some (.lst ((allT k).map dv)), some (.int k), some (.lst ((((allT k).take j).flatMap fun c => [c ++ [0], c ++ [1]]).map dv)), a4] ∧ S = V A [])
        (by simp) ⟨_, rfl, rfl⟩ (fun _ _ _ _ _ => rfl) (fun j y η S hy ⟨a4, h1, h2⟩ => by
          subst h1 h2
          rw [List.getElem?_map] at hy
          obtain ⟨c, hc, rfl⟩ := Option.map_eq_some_iff.mp hy
          have hj := (List.getElem?_eq_some_iff.mp hc).1
          have hcl := allT_mem (List.mem_of_getElem? hc)
          have t0 := fun S => app_tup (S := S) (c := c) (x := 0) (by omega)
          have t1 := fun S => app_tup (S := S) (c := c) (x := 1) (by omega)
          have ha : ∀ S, oAdd (.lst ((((allT k).take j).flatMap fun c => [c ++ [0], c ++ [1]]).map dv)) (.lst [dv (c ++ [0]), dv (c ++ [1])]) S = some (.lst ((((allT k).take (j + 1)).flatMap fun c => [c ++ [0], c ++ [1]]).map dv), S) := fun S => by
            rw [q_addl]
            · rw [List.take_add_one, hc, List.flatMap_append, List.map_append]
              rfl
            · rw [List.length_map, fm_len]
              simp
              omega
          refine ⟨_, _, _, rfl, .inl ?_, some (dv c), rfl, rfl⟩
          unfold b_law_tuples_1
          generalize (((allT k).take j).flatMap fun c => [c ++ [0], c ++ [1]]).map dv = L1 at ha ⊢
          generalize (((allT k).take (j + 1)).flatMap fun c => [c ++ [0], c ++ [1]]).map dv = L2 at ha ⊢
          simp [-q_addl, t0, t1, ha])
      rw [List.length_map, List.take_length] at h3
      have h3' : l_law_tuples_1 [some (.int n), some (.lst ((allT k).map dv)), some (.int k), some (.lst []), a4] (V A []) = _ := h3
      refine ⟨_, _, _, rfl, .inl ?_, some (.int k), some (.lst ((allT (k + 1)).map dv)), a4', rfl, rfl⟩
      unfold b_law_tuples_2
      rw [show allT (k + 1) = (allT k).flatMap fun c => [c ++ [0], c ++ [1]] from rfl]
      generalize ((allT k).flatMap fun c => [c ++ [0], c ++ [1]]).map dv = L2 at h3' ⊢
      simp [h3'])
  unfold c_law_tuples m_law_tuples
  rw [callsV]
  have h1' : l_law_tuples_2 [some (.int n), some (.lst [.tup []]), none, none, none] (V A []) = _ := h1
  rw [rangeD_len] at h1'
  simp [h1']
  exact end_V (pl_map (α := Tup)) (by decide)
end
end K76
set_option Elab.async false
set_option linter.all false
set_option maxRecDepth 100000
set_option autoImplicit false
set_option maxHeartbeats 1000000
namespace K76
open PySem L2 HS
section
variable {A E S : Sto} {i : Nat} {ds : List Int}
def goneL (mb : List Int) (c : Tup) : List Int := ((mb.zip c).filter fun p => decide (p.2 = 0)).map (·.1)
def keptL (n : Nat) (g : List Int) : List Nat := (List.range n).filter fun k => decide ((k : Int) ∉ g)
def attAt (atts : List Att) (k : Nat) : Att := atts.getD k ([], (zs 1, []))
def compl (b : Board) (mb : List Int) (c : Tup) : Board := (b.1, (keptL b.2.length (goneL mb c)).map (attAt b.2))
theorem att_ix {atts : List Att} {k : Nat} (h : k < atts.length) : oIx (dv atts) (.int (k : Int)) S = some (dv (attAt atts k), S) := by
  have e : (dv atts : D) = .tup (atts.map dv) := rfl
  have h2 : (atts.map dv)[k]? = some (dv (attAt atts k)) := by
    rw [List.getElem?_map, List.getElem?_eq_getElem h]
    unfold attAt
    rw [List.getD_eq_getElem?_getD, List.getElem?_eq_getElem h]
    rfl
  rw [e, q_ixt, atIn h2]
  rfl
theorem keptL_lt {n k : Nat} {g : List Int} (h : k ∈ keptL n g) : k < n := by
  have := (List.mem_filter.mp h).1
  simpa using this
theorem keptL_len {n : Nat} {g : List Int} : (keptL n g).length ≤ n := by
  have := List.length_filter_le (fun k : Nat => decide ((k : Int) ∉ g)) (List.range n)
  rw [List.length_range] at this
  exact this
theorem boa_spec {b : Board} {ks : List Nat} (hk : ∀ k ∈ ks, k < b.2.length) (hz : ks.length ≤ SZ) : c_board_of_attacks [dv b, .lst (ks.map fun k : Nat => D.int (k : Int))] A = some (dv ((b.1, ks.map (attAt b.2)) : Board), false, A) := by
  have e : (dv b : D) = .tup [dv b.1, dv b.2] := rfl
  have hc : ∀ (S : Sto) (a0 a2 : Option D), k_board_of_attacks_1 [a0, some (.lst (ks.map fun k : Nat => D.int (k : Int))), a2, some (dv b.2), none] S = some (.lst (ks.map fun k => dv (attAt b.2 k)), S) := fun S a0 a2 => by
    refine lc_all (S := S) (as := ks) (g := fun k : Nat => D.int (k : Int)) (f := fun k => dv (attAt b.2 k)) (chk := chkS (.lst (ks.map fun k : Nat => D.int (k : Int))) (ks.map fun k : Nat => D.int (k : Int))) (by simp) (by simp) hz fun k hk' => ⟨_, rfl, rfl, ?_⟩
    simp [att_ix (hk k hk')]
  have e2 : (dv ((b.1, ks.map (attAt b.2)) : Board) : D) = .tup [dv b.1, .tup (ks.map fun k => dv (attAt b.2 k))] := by
    show D.tup [dv b.1, .tup ((ks.map (attAt b.2)).map dv)] = _
    rw [List.map_map]
    rfl
  rw [e2, e]
  unfold c_board_of_attacks m_board_of_attacks
  rw [callsV]
  have hend := end_V (A := A) (E := []) (n := DV.n Board) (d := .tup [dv b.1, .tup (ks.map fun k => dv (attAt b.2 k))]) (by rw [← e2]; exact DV.hpl ((b.1, ks.map (attAt b.2)) : Board)) (by decide)
  generalize ks.map (fun k => dv (attAt b.2 k)) = L at hc hend ⊢
  generalize ks.map (fun k : Nat => D.int (k : Int)) = L2 at hc ⊢
  simp [hc]
  exact hend
theorem completed_spec {b : Board} {mb : List Int} {c : Tup} (hb : b.2.length ≤ SZ) (hm : mb.length ≤ SZ) : c_completed [.tup [dv b, dv mb], dv c] A = some (dv (compl b mb c), false, A) := by
  have k1 : ∀ (S : Sto) (a0 a2 a4 : Option D), k_completed_1 [a0, some (dv c), a2, some (dv mb), a4, none, none] S = some (.lst ((goneL mb c).map D.int), S) := fun S a0 a2 a4 => by
    have h : k_completed_1 [a0, some (dv c), a2, some (dv mb), a4, none, none] S = some (.lst (((mb.zip c).filter fun p => decide (p.2 = 0)).map fun p => D.int p.1), S) := by
      refine lc_pure (α := Int × Int) (S := S) (as := mb.zip c) (g := fun p => .tup [.int p.1, .int p.2]) (f := fun p => .int p.1) (b := fun p => decide (p.2 = 0)) (chk := chkZ (dv mb) (dv c) (mb.map dv) (c.map dv)) ?_ ⟨rfl, rfl⟩ (by rw [List.length_zip]; omega) fun p hp => ⟨_, rfl, ?_, fun _ => ?_⟩
      · have e1 : ∀ S, seqOf S (dv mb) = some (mb.map dv) := fun S => rfl
        have e2 : ∀ S, seqOf S (dv c) = some (c.map dv) := fun S => rfl
        have e3 : zipD (mb.map dv) (c.map dv) = (mb.zip c).map fun p => D.tup [.int p.1, .int p.2] := by
          unfold zipD
          rw [List.zip_map, List.map_map]
          rfl
        have e4 : isTup (dv mb) = isTup (dv c) := rfl
        simp [e1, e2, e3, e4]
      · simp
      · simp
    rw [h]
    unfold goneL
    rw [List.map_map]
    rfl
  have k2 : ∀ (S : Sto) (a0 a1 a3 : Option D), k_completed_2 [a0, a1, some (dv b), a3, some (.lst ((goneL mb c).map D.int)), none, none] S = some (.lst ((keptL b.2.length (goneL mb c)).map fun k : Nat => D.int (k : Int)), S) := fun S a0 a1 a3 => by
    unfold keptL
    refine lc_pure (S := S) (as := List.range b.2.length) (g := fun k : Nat => D.int (0 + (k : Int))) (f := fun k : Nat => D.int (k : Int)) (b := fun k : Nat => decide ((k : Int) ∉ goneL mb c)) (chk := chkT) ?_ trivial (by simpa using hb) fun k hk => ⟨_, rfl, ?_, fun _ => ?_⟩
    · have e : (dv b : D) = .tup [dv b.1, .tup (b.2.map dv)] := rfl
      simp [e, hb, rangeD_from]
    · have h := fun S => q_ninl (S := S) ((k : Int)) (e := .lst ((goneL mb c).map D.int)) (goneL mb c) (by decide) rfl
      have e : (dv (k : Int) : D) = .int k := rfl
      rw [e] at h
      simp [h]
    · simp
  have hs := fun S => boa_spec (A := S) (b := b) (ks := keptL b.2.length (goneL mb c)) (fun k hk => keptL_lt hk) (Nat.le_trans keptL_len hb)
  unfold c_completed m_completed
  rw [callsV]
  generalize (goneL mb c).map D.int = L1 at k1 k2
  generalize (keptL b.2.length (goneL mb c)).map (fun k : Nat => D.int (k : Int)) = L2 at k2 hs
  simp [k1, k2, hs]
  exact end_V (n := DV.n Board) (DV.hpl (compl b mb c)) (by decide)
theorem zip_range {mb : List Int} {c : Tup} (h : c.length = mb.length) : mb.zip c = (List.range mb.length).map fun k => (mb.getD k 0, c.getD k 1) := by
  apply List.ext_getElem?
  intro k
  rw [List.getElem?_map]
  by_cases hk : k < mb.length
  · rw [List.getElem?_range hk, Option.map_some, List.getD_eq_getElem?_getD, List.getD_eq_getElem?_getD, List.getElem?_eq_getElem hk, List.getElem?_eq_getElem (by omega : k < c.length)]
    have h2 : k < c.length := by omega
    have h3 : (mb.zip c)[k]? = some (mb[k], c[k]) := List.getElem?_zip_eq_some.mpr ⟨List.getElem?_eq_getElem hk, List.getElem?_eq_getElem h2⟩
    rw [h3]
    rfl
  · rw [List.getElem?_eq_none (by simp; omega), List.getElem?_eq_none (by simp; omega)]
    rfl
theorem lcompleted_spec {b : Board} {mb : List Int} {c : Tup} (hb : b.2.length ≤ SZ) (hm : mb.length ≤ SZ) (hc : c.length = mb.length) : c_law_completed [.tup [dv b, dv mb], dv c] A = some (dv (compl b mb c), false, A) := by
  have ei : ∀ (S : Sto) (l : List Int) (dflt : Int) (k : Nat), k < l.length → oIx (dv l) (.int (k : Int)) S = some (.int (l.getD k dflt), S) := fun S l dflt k hk => by
    have e : (dv l : D) = .tup (l.map D.int) := rfl
    have h2 : (l.map D.int)[k]? = some (.int (l.getD k dflt)) := by
      rw [List.getElem?_map, List.getElem?_eq_getElem hk, List.getD_eq_getElem?_getD, List.getElem?_eq_getElem hk]
      rfl
    rw [e, q_ixt, atIn h2]
    rfl
  have k1 : ∀ (S : Sto) (a0 a2 a4 : Option D), k_law_completed_1 [a0, some (dv c), a2, some (dv mb), a4, none] S = some (.lst ((goneL mb c).map D.int), S) := fun S a0 a2 a4 => by
    have h : k_law_completed_1 [a0, some (dv c), a2, some (dv mb), a4, none] S = some (.lst (((List.range mb.length).filter fun k => decide (c.getD k 1 = 0)).map fun k => D.int (mb.getD k 0)), S) := by
      refine lc_pure (S := S) (as := List.range mb.length) (g := fun k : Nat => D.int (0 + (k : Int))) (f := fun k : Nat => D.int (mb.getD k 0)) (b := fun k : Nat => decide (c.getD k 1 = 0)) (chk := chkT) ?_ trivial (by simpa using hm) fun k hk => ⟨_, rfl, ?_, fun _ => ?_⟩
      · have e : ∀ S, bLen [dv mb] S = some (.int mb.length, S) := fun S => by
          show some (D.int ((mb.map dv).length : Nat), S) = _
          rw [List.length_map]
        simp [e, hm, rangeD_from]
      · have hk : k < mb.length := by simpa using hk
        have h1 := fun S => ei S c 1 k (by omega)
        generalize c.getD k 1 = z at h1 ⊢
        simp [h1]
      · have hk : k < mb.length := by simpa using hk
        have h1 := fun S => ei S mb 0 k hk
        generalize mb.getD k 0 = z at h1 ⊢
        simp [h1]
    rw [h]
    unfold goneL
    rw [zip_range hc, List.filter_map, List.map_map, List.map_map]
    rfl
  have k2 : ∀ (S : Sto) (a0 a1 a3 : Option D), k_law_completed_2 [a0, a1, some (dv b), a3, some (.lst ((goneL mb c).map D.int)), none] S = some (.lst ((keptL b.2.length (goneL mb c)).map fun k => dv (attAt b.2 k)), S) := fun S a0 a1 a3 => by
    unfold keptL
    refine lc_pure (S := S) (as := List.range b.2.length) (g := fun k : Nat => D.int (0 + (k : Int))) (f := fun k : Nat => dv (attAt b.2 k)) (b := fun k : Nat => decide ((k : Int) ∉ goneL mb c)) (chk := chkT) ?_ trivial (by simpa using hb) fun k hk => ⟨_, rfl, ?_, fun _ => ?_⟩
    · have e : (dv b : D) = .tup [dv b.1, .tup (b.2.map dv)] := rfl
      simp [e, hb, rangeD_from]
    · have h := fun S => q_ninl (S := S) ((k : Int)) (e := .lst ((goneL mb c).map D.int)) (goneL mb c) (by decide) rfl
      have e : (dv (k : Int) : D) = .int k := rfl
      rw [e] at h
      simp [h]
    · have hk : k < b.2.length := by simpa using hk
      have e : (dv b : D) = .tup [dv b.1, dv b.2] := rfl
      have h := fun S => att_ix (S := S) hk
      rw [e]
      simp [h]
  have e2 : (dv (compl b mb c) : D) = .tup [dv b.1, .tup ((keptL b.2.length (goneL mb c)).map fun k => dv (attAt b.2 k))] := by
    show D.tup [dv b.1, .tup (((keptL b.2.length (goneL mb c)).map (attAt b.2)).map dv)] = _
    rw [List.map_map]
    rfl
  have hend := end_V (A := A) (E := []) (n := DV.n Board) (DV.hpl (compl b mb c)) (by decide)
  have hend : endF A (V A []) (dv (compl b mb c)) = some (dv (compl b mb c), false, A) := hend
  rw [e2] at hend ⊢
  unfold c_law_completed m_law_completed
  rw [callsV]
  have e : (dv b : D) = .tup [dv b.1, dv b.2] := rfl
  have e0 : ∀ S, oIx (dv b) (.int 0) S = some (dv b.1, S) := fun S => by rw [e]; simp
  generalize (goneL mb c).map D.int = L1 at k1 k2
  generalize (keptL b.2.length (goneL mb c)).map (fun k => dv (attAt b.2 k)) = L2 at k2 hend ⊢
  simp [k1, k2, e0]
  exact hend
end
end K76
set_option Elab.async false
set_option linter.all false
set_option maxRecDepth 100000
set_option autoImplicit false
set_option maxHeartbeats 1000000
namespace K76
open PySem L2 HS
section
variable {A E S : Sto} {i : Nat} {ds : List Int}
theorem sm_mono : ∀ {n m : Nat} {x : D}, n ≤ m → sm n x = true → sm m x = true
  | 0, m, x, h, e => by cases x <;> cases m <;> simp [sm] at e ⊢ <;> exact e
  | n + 1, 0, x, h, e => by omega
  | n + 1, m + 1, x, h, e => by
    cases x <;> simp [sm] at e ⊢
    · exact e
    · exact ⟨e.1, fun y hy => sm_mono (by omega) (e.2 y hy)⟩
    · exact ⟨e.1, fun y hy => sm_mono (by omega) (e.2 y hy)⟩
theorem sm_list {α : Type} [DV α] {n : Nat} {xs : List α} (hz : xs.length ≤ SZ) (h : ∀ x ∈ xs, sm n (dv x) = true) : sm (n + 1) (dv xs) = true := by
  show sm (n + 1) (.tup (xs.map dv)) = true
  simp only [sm, Bool.and_eq_true, decide_eq_true_eq, List.length_map, List.all_map, List.all_eq_true]
  exact ⟨hz, fun x hx => h x hx⟩
theorem sm_pair {x y : D} {n : Nat} (hx : sm n x = true) (hy : sm n y = true) : sm (n + 1) (.tup [x, y]) = true := by
  have hz2 : 2 ≤ SZ := by decide
  simp [sm, hx, hy, hz2]
theorem sm_val (v : Val) : sm 0 (dv v) = true := by
  cases v with
  | num a => rfl
  | txt x => exact x.2
theorem sm_piece {p : Piece} (h : p.2.length ≤ 4) : sm 2 (dv p) = true :=
  sm_pair (x := .str p.1.1) (y := dv p.2) (by simp only [sm]; exact p.1.2) (sm_list (n := 0) (Nat.le_trans h (by decide)) fun v _ => sm_val v)
theorem sm_sup {s : Sup} (hz : s.length ≤ SZ) (h : ∀ p ∈ s, p.2.length ≤ 4) : sm 3 (dv s) = true := sm_list hz fun p hp => sm_piece (h p hp)
/-- what a board is like -/
structure okB (b : Board) : Prop where
  p : b.1.length ≤ 100
  r : ∀ p ∈ b.1, p.2.length ≤ 4
  z : b.2.length ≤ SZ
  a : ∀ a ∈ b.2, a.1.length ≤ SZ ∧ (∀ p ∈ a.1, p.2.length ≤ 4) ∧ a.2.2.length ≤ 4
theorem sm_board {b : Board} (h : okB b) : sm 6 (dv b) = true := by
  refine sm_pair (x := dv b.1) (y := dv b.2) (sm_mono (n := 3) (by decide) (sm_sup (Nat.le_trans h.p (by decide)) h.r)) (sm_list (n := 4) h.z fun a ha => ?_)
  have h1 := h.a a ha
  exact sm_pair (x := dv a.1) (y := dv a.2) (sm_sup h1.1 h1.2.1) (sm_mono (n := 2) (by decide) (sm_piece h1.2.2))
theorem okB_compl {b : Board} {mb : List Int} {c : Tup} (h : okB b) : okB (compl b mb c) := by
  refine ⟨h.p, h.r, ?_, fun a ha => ?_⟩
  · show ((keptL b.2.length (goneL mb c)).map (attAt b.2)).length ≤ SZ
    rw [List.length_map]
    exact Nat.le_trans keptL_len h.z
  · obtain ⟨k, hk, rfl⟩ := List.mem_map.mp ha
    have hlt := keptL_lt hk
    have : attAt b.2 k ∈ b.2 := by
      unfold attAt
      rw [List.getD_eq_getElem?_getD, List.getElem?_eq_getElem hlt]
      exact List.getElem_mem hlt
    exact h.a _ this
theorem same_dv {x : D} {n : Nat} (h : sm n x = true) (hn : n < 40) : c_law_same 40 [x, x] A = some (.bl true, false, A) := by
  exact same_spec 39 _ (sm_mono (by omega) h)
theorem sm_allT {n : Nat} (h : n ≤ 12) : sm 2 (dv (allT n)) = true := by
  have hz2 : (SZ : Nat) = 100000 := rfl
  have hp : 2 ^ n ≤ 2 ^ 12 := Nat.pow_le_pow_right (by decide) (by omega)
  refine sm_list (by rw [allT_len]; omega) fun c hc => sm_list (n := 0) (by have := allT_mem hc; omega) fun x _ => rfl
/-- the law's judge finds all right -/
theorem right_spec {b : Board} {mb : List Int} {e : D} {asked : List Tup} (hb : okB b) (hm : mb.length ≤ 12) (ha : ∀ c ∈ asked, c.length = mb.length) (hz : asked.length ≤ SZ) (he : seqOf A e = some (asked.map dv)) :
    c_law_right [.tup [dv b, dv mb], e] A = some (.bl true, false, A) := by
  have hz2 : (SZ : Nat) = 100000 := rfl
  have h1 := completions_spec (A := A) (b := dv b) hm
  have h2 := tuples_spec (A := A) hm
  have h3 := same_dv (A := A) (sm_allT hm) (by decide)
  have hlen : ∀ S, bLen [dv mb] S = some (.int mb.length, S) := fun S => by
    show some (D.int ((mb.map dv).length : Nat), S) = _
    rw [List.length_map]
  have ht : ∀ S, bTuple [.lst ((allT mb.length).map dv)] S = some (dv (allT mb.length), S) := fun S => rfl
  have hk : k_law_right_1 [some (.tup [dv b, dv mb]), some e, none] A = some (.lst ((asked.map fun _ => true).map D.bl), A) := by
    rw [List.map_map]
    refine lc_all (S := A) (as := asked) (g := dv) (f := fun _ => .bl true) (chk := chkS e (asked.map dv)) (by simp [he]) he hz fun c hc => ⟨_, rfl, rfl, ?_⟩
    have h5 := completed_spec (A := A) (b := b) (mb := mb) (c := c) hb.z (by omega)
    have h6 := lcompleted_spec (A := A) (b := b) (mb := mb) (c := c) hb.z (by omega) (ha c hc)
    have h7 := same_dv (A := A) (sm_board (okB_compl (mb := mb) (c := c) hb)) (by decide)
    simp [h5, h6, h7]
  have hn : oNotIn (.bl false) (.lst ((asked.map fun _ => true).map D.bl)) A = some (.bl true, A) := nin_bls (by simp)
  unfold c_law_right m_law_right
  rw [q_calls]
  generalize (asked.map fun _ => true).map D.bl = L at hk hn
  generalize hX : dv (allT mb.length) = X at h1 h3 ht
  generalize (allT mb.length).map dv = Y at h2 ht
  simp [h1, h2, h3, hlen, ht, hk, hn]
end
end K76
set_option Elab.async false
set_option linter.all false
set_option maxRecDepth 100000
set_option autoImplicit false
set_option maxHeartbeats 1000000
namespace K76
open PySem L2 HS
section
variable {A E S : Sto} {i : Nat} {ds : List Int}
theorem mem_thin_aux {ss : List Sup} {x : Sup} : ∀ (l f : List Sup), x ∈ l.foldl (thinF ss) f → x ∈ f ∨ x ∈ l
  | [], f, h => .inl h
  | y :: l, f, h => by
    rw [List.foldl_cons] at h
    rcases mem_thin_aux l _ h with h | h
    · unfold thinF at h
      split at h
      · exact .inl h
      · rcases List.mem_append.mp h with h | h
        · exact .inl h
        · have : x = y := by simpa using h
          subst this; exact .inr List.mem_cons_self
    · exact .inr (List.mem_cons_of_mem _ h)
theorem mem_thin {ss : List Sup} {x : Sup} (h : x ∈ thin ss) : x ∈ ss := by
  rcases mem_thin_aux _ _ h with h | h
  · cases h
  · exact (srt_perm (kp := pS)).mem_iff.mp h
theorem atts_len {rs : List Att} : ∀ l : Sup, (attsOf l rs).length ≤ l.length * rs.length := fun l => by
  induction l with
  | nil => simp [attsOf]
  | cons q l ih =>
    unfold attsOf at ih ⊢
    rw [List.flatMap_cons, List.length_append, List.length_map, List.length_cons, Nat.succ_mul]
    have h1 := thin_len (selS rs q)
    have h2 := selS_len rs q
    omega
theorem okB_of {ps : Sup} {rs : List Att} (hr : ∀ p ∈ ps, p.2.length ≤ 4) (hp : ps.length ≤ 100) (hz : rs.length ≤ 900) (hs : ∀ a ∈ rs, okRaw ps a) : okB (ps, attsOf ps rs) := by
  have hz2 : (SZ : Nat) = 100000 := rfl
  refine ⟨hp, hr, ?_, fun a ha => ?_⟩
  · have h1 := atts_len (rs := rs) ps
    have h2 : ps.length * rs.length ≤ 100 * 900 := Nat.mul_le_mul hp hz
    show (attsOf ps rs).length ≤ SZ
    omega
  · have ha : a ∈ attsOf ps rs := ha
    unfold attsOf at ha
    obtain ⟨p, hp1, hp2⟩ := List.mem_flatMap.mp ha
    obtain ⟨s, hs1, rfl⟩ := List.mem_map.mp hp2
    have hs2 := mem_thin hs1
    unfold selS at hs2
    obtain ⟨r, hr1, rfl⟩ := List.mem_map.mp hs2
    have hr2 := hs r (List.mem_filter.mp hr1).1
    obtain ⟨l, e, h2, h3⟩ := hr2.1
    refine ⟨?_, fun q hq => ?_, hr p hp1⟩
    · show r.1.length ≤ SZ
      rw [e]
      have := len_setP (ps := l)
      omega
    · have hq : q ∈ r.1 := hq
      rw [e] at hq
      exact hr q (h3 q (mem_setP.mp hq))
/-- a board of drawn raw attacks -/
theorem board_W {ps : Sup} {rs : List Att} (hr : ∀ p ∈ ps, p.2.length ≤ 4) (hp : ps.length ≤ 100) (hz : rs.length ≤ 900) (hs : ∀ a ∈ rs, okRaw ps a) : c_law_board_of_raw [dv ps, .lst (rs.map dv)] A = some (dv ((ps, attsOf ps rs) : Board), false, A) ∧ okB (ps, attsOf ps rs) :=
  ⟨board_spec hz hp fun a ha => okS_of hr (hs a ha), okB_of hr hp hz hs⟩
/-! the sure board -/
theorem setP_one (p : Piece) : setP [p] = [p] := by
  unfold setP srt
  rw [List.mergeSort_singleton]
  rfl
theorem okRaw_one {ps : Sup} {p q : Piece} (hp : p ∈ ps) (hq : q ∈ ps) : okRaw ps ([p], q) :=
  ⟨⟨[p], (setP_one p).symm, by simp, fun x hx => by
    have : x = p := by simpa using hx
    subst this; exact hp⟩, hq⟩
theorem sure_S (h : A[i]? = some (IL ds)) : ∃ (b : Board) (ds' : List Int), c_law_sure_board [.ref i] A = some (dv b, false, A.set i (IL ds')) ∧ okB b ∧ b.2.length < SZ := by
  have hz2 : (SZ : Nat) = 100000 := rfl
  have hi : i < A.length := (List.getElem?_eq_some_iff.mp h).1
  obtain ⟨ps, d1, h1, _, h2, h3⟩ := pieces_W (A := A) (E := []) (ds := ds) (many := 4) hi (by omega)
  obtain ⟨o, d2, h4, h5⟩ := shuf_W (α := Piece) (A := A) (E := []) (ds := d1) (row := dv ps) (xs := ps) hi (.inr rfl) (by omega)
  have hol := h5.length_eq
  have h1 : c_law_pieces [.ref i, .int 4] (W A i ds []) = some (dv ps, false, W A i d1 []) := h1
  match o, hol, h4, h5 with
  | [o0, o1, o2, o3], _, h4, h5 =>
    have m0 : o0 ∈ ps := h5.mem_iff.mp (by simp)
    have m1 : o1 ∈ ps := h5.mem_iff.mp (by simp)
    have m2 : o2 ∈ ps := h5.mem_iff.mp (by simp)
    obtain ⟨hb, hok⟩ := board_W (A := W A i d2 []) (ps := ps) (rs := [([o0], o1), ([o1], o0), ([o0], o2), ([o2], o2)]) h3 (by omega) (by simp) (fun a ha => by
      simp only [List.mem_cons, List.not_mem_nil, or_false] at ha
      rcases ha with rfl | rfl | rfl | rfl
      · exact okRaw_one m0 m1
      · exact okRaw_one m1 m0
      · exact okRaw_one m0 m2
      · exact okRaw_one m2 m2)
    have hl4 := atts_len (rs := [([o0], o1), ([o1], o0), ([o0], o2), ([o2], o2)]) ps
    rw [h2] at hl4
    refine ⟨_, d2, ?_, hok, by simp at hl4 ⊢; omega⟩
    have hb' : c_law_board_of_raw [dv ps, .lst [.tup [.tup [dv o0], dv o1], .tup [.tup [dv o1], dv o0], .tup [.tup [dv o0], dv o2], .tup [.tup [dv o2], dv o2]]] (W A i d2 []) = _ := hb
    unfold c_law_sure_board m_law_sure_board
    rw [callsW h]
    simp only [List.map_cons, List.map_nil] at h4
    simp [h1, h4, hb']
    exact end_W (n := DV.n Board) (DV.hpl ((ps, attsOf ps [([o0], o1), ([o1], o0), ([o0], o2), ([o2], o2)]) : Board)) (by decide)
  | [], hl, _, _ => simp [h2] at hl
  | [_], hl, _, _ => simp [h2] at hl
  | [_, _], hl, _, _ => simp [h2] at hl
  | [_, _, _], hl, _, _ => simp [h2] at hl
  | _ :: _ :: _ :: _ :: _ :: _, hl, _, _ => simp [h2] at hl
theorem sure_W (hi : i < A.length) : ∃ (b : Board) (ds' : List Int), c_law_sure_board [.ref i] (W A i ds E) = some (dv b, false, W A i ds' E) ∧ okB b ∧ b.2.length < SZ := by
  obtain ⟨b, ds', h, h2⟩ := sure_S (A := W A i ds E) (W_i hi)
  rw [W_si hi] at h
  exact ⟨b, ds', h, h2⟩
end
end K76
set_option Elab.async false
set_option linter.all false
set_option maxRecDepth 100000
set_option autoImplicit false
set_option maxHeartbeats 1000000
namespace K76
open PySem L2 HS
section
variable {A E S : Sto} {i : Nat} {ds : List Int}
theorem slD_take {xs : List D} {n : Nat} : slD S (.lst xs) none (some (n : Int)) = some (.lst (xs.take n)) := by
  show (lstOf S (.lst xs)).bind (fun xs => some (D.lst (cutL xs none (some (n : Int))))) = _
  rw [q_lo1, Option.bind_some, cut_to]
theorem sortI_D {l : List Int} : bSortI [.lst (l.map D.int)] S = some (.lst ((sortI l).map D.int), S) := by
  have hi : ∀ l : List Int, intsOf (l.map D.int) = some l := fun l => by
    induction l with
    | nil => rfl
    | cons x l ih =>
      rw [List.map_cons]
      show (intsOf (l.map D.int)).map _ = _
      rw [ih]; rfl
  show ((lstOf S (.lst (l.map D.int))).bind fun xs => (intsOf xs).bind fun is => some (D.lst ((sortI is).map D.int), S)) = _
  rw [q_lo1, Option.bind_some, hi]
  rfl
theorem sortI_len {l : List Int} : (sortI l).length = l.length := List.length_mergeSort _
theorem maybe_k {b : Board} {a0 a2 a3 : Option D} (hz : b.2.length ≤ SZ) : k_law_maybe_of_1 [a0, some (dv b), a2, a3, none] S = some (.lst (((List.range b.2.length).map fun k : Nat => (k : Int)).map dv), S) := by
  rw [List.map_map]
  refine lc_all (S := S) (as := List.range b.2.length) (g := fun k : Nat => D.int (0 + (k : Int))) (chk := chkT) ?_ trivial (by simpa using hz) fun k hk => ⟨_, rfl, rfl, ?_⟩
  · have e : (dv b : D) = .tup [dv b.1, .tup (b.2.map dv)] := rfl
    simp [e, hz, rangeD_from]
  · simp
    rfl
theorem maybe_S {b : Board} {most : Nat} (h : A[i]? = some (IL ds)) (hb : okB b) (hz : b.2.length < SZ) : ∃ (mb : List Int) (ds' : List Int), c_law_maybe_of [.ref i, dv b, .int most] A = some (.tup [dv b, dv mb], false, A.set i (IL ds')) ∧ mb.length ≤ most := by
  have hi : i < A.length := (List.getElem?_eq_some_iff.mp h).1
  have hk := maybe_k (S := W A i ds []) (b := b) (a0 := some (.ref i)) (a2 := some (.int most)) (a3 := none) (Nat.le_of_lt hz)
  obtain ⟨o, d1, h1, h2⟩ := shuf_W (α := Int) (A := A) (E := []) (ds := ds) (row := .lst (((List.range b.2.length).map fun k : Nat => (k : Int)).map dv)) (xs := (List.range b.2.length).map fun k : Nat => (k : Int)) hi (.inl rfl) (by simpa using hz)
  obtain ⟨t, d2, h3, p3, q3⟩ := take_W (A := A) (E := []) (ds := d1) (m := (most : Int) + 1) hi (by omega)
  obtain ⟨n, rfl⟩ := Int.eq_ofNat_of_zero_le p3
  have h4 := fun S => slD_take (S := S) (xs := o.map dv) (n := n)
  have h5 : ∀ S, bSortI [.lst ((o.map dv).take n)] S = some (.lst ((sortI (o.take n)).map D.int), S) := fun S => by
    rw [← List.map_take]
    exact sortI_D
  refine ⟨sortI (o.take n), d2, ?_, by rw [sortI_len, List.length_take]; omega⟩
  have e : (dv (sortI (o.take n)) : D) = .tup ((sortI (o.take n)).map D.int) := rfl
  have hend := end_W (A := A) (i := i) (ds := d2) (E := []) (n := DV.n (Board × List Int)) (DV.hpl ((b, sortI (o.take n)) : Board × List Int)) (by decide)
  have hend : endF A (W A i d2 []) (.tup [dv b, dv (sortI (o.take n))]) = some (.tup [dv b, dv (sortI (o.take n))], false, A.set i (IL d2)) := hend
  rw [e] at hend ⊢
  unfold c_law_maybe_of m_law_maybe_of
  rw [callsW h]
  generalize ((List.range b.2.length).map fun k : Nat => (k : Int)).map dv = L0 at hk h1
  generalize (sortI (o.take n)).map D.int = L1 at h5 hend ⊢
  generalize (o.map dv).take n = L2 at h4 h5
  generalize o.map dv = L3 at h1 h4
  simp [hk, h1, h3, h4, h5]
  exact hend
theorem maybe_W {b : Board} {most : Nat} (hi : i < A.length) (hb : okB b) (hz : b.2.length < SZ) : ∃ (mb : List Int) (ds' : List Int), c_law_maybe_of [.ref i, dv b, .int most] (W A i ds E) = some (.tup [dv b, dv mb], false, W A i ds' E) ∧ mb.length ≤ most := by
  obtain ⟨b, ds', h, h2⟩ := maybe_S (A := W A i ds E) (W_i hi) hb hz
  rw [W_si hi] at h
  exact ⟨b, ds', h, h2⟩
/-- a drawn board -/
theorem drawn_W {ps : Sup} {most : Nat} (hi : i < A.length) (hr : ∀ p ∈ ps, p.2.length ≤ 4) (hp : ps.length ≤ 100) (hm : most ≤ 100) : ∃ (s r : List Att) (d1 d2 : List Int), c_law_shape [.ref i, dv ps] (W A i ds E) = some (.lst (s.map dv), false, W A i d1 E) ∧ c_law_raw [.ref i, dv ps, .int most] (W A i d1 E) = some (.lst (r.map dv), true, W A i d2 E) ∧
    (∀ S, oAdd (.lst (s.map dv)) (.lst (r.map dv)) S = some (.lst ((s ++ r).map dv), S)) ∧ (∀ S, c_law_board_of_raw [dv ps, .lst ((s ++ r).map dv)] S = some (dv ((ps, attsOf ps (s ++ r)) : Board), false, S)) ∧ okB (ps, attsOf ps (s ++ r)) ∧ (attsOf ps (s ++ r)).length ≤ ps.length * 400 := by
  have hz2 : (SZ : Nat) = 100000 := rfl
  obtain ⟨s, d1, h1, h2, h3⟩ := shape_W (A := A) (E := E) (ds := ds) (ps := ps) hi hr hp
  obtain ⟨r, d2, h4, h5, h6⟩ := raw_W (A := A) (E := E) (ds := d1) (ps := ps) (most := most) hi hr hp hm
  have hall : ∀ a ∈ s ++ r, okRaw ps a := fun a ha => by
    rcases List.mem_append.mp ha with ha | ha
    · exact h3 a ha
    · exact h6 a ha
  have hlen : (s ++ r).length ≤ 400 := by simp; omega
  refine ⟨s, r, d1, d2, h1, h4, fun S => ?_, fun S => (board_W (A := S) hr hp (by omega) hall).1, (board_W (A := A) hr hp (by omega) hall).2, ?_⟩
  · rw [q_addl (by simp; omega), List.map_append]
  · have := atts_len (rs := s ++ r) ps
    have h8 : ps.length * (s ++ r).length ≤ ps.length * 400 := Nat.mul_le_mul_left _ hlen
    omega
end
end K76
set_option Elab.async false
set_option linter.all false
set_option maxRecDepth 100000
set_option autoImplicit false
set_option maxHeartbeats 1000000
namespace K76
open PySem L2 HS
section
variable {A E S : Sto} {i : Nat} {ds : List Int}
/-- fit, and not too many attacks -/
def okB2 (b : Board) : Prop := okB b ∧ b.2.length < SZ
theorem boards_S (h : A[i]? = some (IL ds)) : ∃ (b1 b2 b3 : Board) (ds' : List Int), c_law_boards [.ref i, .int 5, .int 6] A = some (.lst [dv b1, dv b2, dv b3], false, A.set i (IL ds')) ∧ okB2 b1 ∧ okB2 b2 ∧ okB2 b3 := by
  have hz2 : (SZ : Nat) = 100000 := rfl
  have hi : i < A.length := (List.getElem?_eq_some_iff.mp h).1
  obtain ⟨n, d0, h1, h2⟩ := pick_T (α := Int) (A := A) (E := []) (ds := ds) (row := .lst [.int 0, .int 1, .int 0, .int 2, .int 1, .int 0, .int 5, .int 3]) (xs := [0, 1, 0, 2, 1, 0, 5, 3]) hi (.inl rfl) (by simp)
  have hn : 0 ≤ n ∧ n ≤ 5 := by
    simp at h1
    omega
  have e : (dv n : D) = .int n := rfl
  rw [e] at h2
  obtain ⟨m, hm⟩ : ∃ m : Nat, (5 : Int) - n = m := ⟨(5 - n).toNat, by omega⟩
  obtain ⟨ps, d1, h3, _, h4, h5⟩ := pieces_W (A := A) (E := []) (ds := d0) (many := m) hi (by omega)
  obtain ⟨s, r, d2, d3, h6, h7, h8, h9, ok1, l1⟩ := drawn_W (A := A) (E := []) (ds := d1) (ps := ps) (most := 6) hi h5 (by omega) (by omega)
  have h7 : c_law_raw [.ref i, dv ps, .int 6] (W A i d2 []) = some (.lst (r.map dv), true, W A i d3 []) := h7
  obtain ⟨t, d4, h10, p10, q10⟩ := take_W (A := A) (E := []) (ds := d3) (m := 2) hi (by decide)
  -- perhaps other pieces
  obtain ⟨ps2, d5, h11, h12, h13⟩ : ∃ (ps2 : Sup) (d5 : List Int), sIf (HS.tB (eBin oEq (eCall c_law_take 2 (aCons (eVar 0) (aCons (eC (.int 2)) aNil))) (eC (.int 0)))) (sSet 3 (eCall c_law_pieces 2 (aCons (eVar 0) (aCons (eBin oSub (eVar 1) (eCall c_law_take 2 (aCons (eVar 0) (aCons (eC (.int 3)) aNil)))) aNil)))) sNil [some (.ref i), some (.int 5), some (.int 6), some (dv ps), some (dv ((ps, attsOf ps (s ++ r)) : Board)), none] (W A i d3 []) =
      some (.nx, [some (.ref i), some (.int 5), some (.int 6), some (dv ps2), some (dv ((ps, attsOf ps (s ++ r)) : Board)), none], W A i d5 []) ∧ ps2.length ≤ 100 ∧ ∀ p ∈ ps2, p.2.length ≤ 4 := by
    by_cases h0 : t = 0
    · obtain ⟨t2, d6, h14, p14, q14⟩ := take_W (A := A) (E := []) (ds := d4) (m := 3) hi (by decide)
      obtain ⟨m2, hm2⟩ : ∃ m : Nat, (5 : Int) - t2 = m := ⟨(5 - t2).toNat, by omega⟩
      obtain ⟨ps2, d7, h15, _, h16, h17⟩ := pieces_W (A := A) (E := []) (ds := d6) (many := m2) hi (by omega)
      exact ⟨ps2, d7, by simp [h10, h0, h14, hm2, h15], by omega, h17⟩
    · exact ⟨ps, d4, by simp [h10, h0], by omega, h5⟩
  obtain ⟨s2, r2, d8, d9, h18, h19, h20, h21, ok2, l2⟩ := drawn_W (A := A) (E := []) (ds := d5) (ps := ps2) (most := 6) hi h13 h12 (by omega)
  have h19 : c_law_raw [.ref i, dv ps2, .int 6] (W A i d8 []) = some (.lst (r2.map dv), true, W A i d9 []) := h19
  obtain ⟨b3, d10, h22, ok3, l3⟩ := sure_W (A := A) (E := []) (ds := d9) hi
  refine ⟨_, _, b3, d10, ?_, ⟨ok1, by show (attsOf ps (s ++ r)).length < SZ; omega⟩, ⟨ok2, by show (attsOf ps2 (s2 ++ r2)).length < SZ; omega⟩, ⟨ok3, l3⟩⟩
  · have hend := end_W (A := A) (i := i) (ds := d10) (E := []) (n := DV.n Board + 1) (d := .lst [dv ((ps, attsOf ps (s ++ r)) : Board), dv ((ps2, attsOf ps2 (s2 ++ r2)) : Board), dv b3]) (pl_map (α := Board) (xs := [(ps, attsOf ps (s ++ r)), (ps2, attsOf ps2 (s2 ++ r2)), b3])) (by decide)
    generalize hX1 : dv ((ps, attsOf ps (s ++ r)) : Board) = X1 at *
    generalize hX2 : dv ((ps2, attsOf ps2 (s2 ++ r2)) : Board) = X2 at *
    generalize (s ++ r).map dv = L1 at h8 h9
    generalize (s2 ++ r2).map dv = L2 at h20 h21
    generalize s.map dv = L3 at h6 h8
    generalize r.map dv = L4 at h7 h8
    generalize s2.map dv = L5 at h18 h20
    generalize r2.map dv = L6 at h19 h20
    unfold c_law_boards m_law_boards
    rw [callsW h]
    have e1 : sSet 3 (eCall c_law_pieces 2 (aCons (eVar 0) (aCons (eBin oSub (eVar 1) (eCall c_law_pick 2 (aCons (eVar 0) (aCons (eLst (aCons (eC (.int 0)) (aCons (eC (.int 1)) (aCons (eC (.int 0)) (aCons (eC (.int 2)) (aCons (eC (.int 1)) (aCons (eC (.int 0)) (aCons (eVar 1) (aCons (eC (.int 3)) aNil))))))))) aNil)))) aNil))) [some (.ref i), some (.int 5), some (.int 6), none, none, none] (W A i ds []) = some (.nx, [some (.ref i), some (.int 5), some (.int 6), some (dv ps), none, none], W A i d1 []) := by
      simp [h2, hm, h3]
    have e2 : sSet 4 (eCall c_law_board_of_raw 2 (aCons (eVar 3) (aCons (eBin oAdd (eCall c_law_shape 2 (aCons (eVar 0) (aCons (eVar 3) aNil))) (eCall c_law_raw 3 (aCons (eVar 0) (aCons (eVar 3) (aCons (eVar 2) aNil))))) aNil))) [some (.ref i), some (.int 5), some (.int 6), some (dv ps), none, none] (W A i d1 []) = some (.nx, [some (.ref i), some (.int 5), some (.int 6), some (dv ps), some X1, none], W A i d3 []) := by
      simp [-q_addl, h6, h7, h8, h9]
    show endK A (sSeq _ _ [some (.ref i), some (.int 5), some (.int 6), none, none, none] (W A i ds [])) = _
    rw [q_seq, e1, seqK_n, q_seq, e2, seqK_n, q_seq, h11, seqK_n]
    simp [-q_addl, h18, h19, h20, h21, h22]
    exact hend
theorem boards_W (hi : i < A.length) : ∃ (b1 b2 b3 : Board) (ds' : List Int), c_law_boards [.ref i, .int 5, .int 6] (W A i ds E) = some (.lst [dv b1, dv b2, dv b3], false, W A i ds' E) ∧ okB2 b1 ∧ okB2 b2 ∧ okB2 b3 := by
  obtain ⟨b1, b2, b3, ds', h, h2⟩ := boards_S (A := W A i ds E) (W_i hi)
  rw [W_si hi] at h
  exact ⟨b1, b2, b3, ds', h, h2⟩
end
end K76
set_option Elab.async false
set_option linter.all false
set_option maxRecDepth 100000
set_option autoImplicit false
set_option maxHeartbeats 1000000
namespace K76
open PySem L2 HS
section
variable {A E S : Sto} {i : Nat} {ds : List Int}
theorem thin_keep {ss : List Sup} {x : Sup} : ∀ (l f : List Sup), x ∈ f → x ∈ l.foldl (thinF ss) f
  | [], f, h => h
  | y :: l, f, h => by
    rw [List.foldl_cons]
    refine thin_keep l _ ?_
    unfold thinF
    split
    · exact h
    · exact List.mem_append_left _ h
theorem thin_in {ss : List Sup} {x : Sup} (hx : ¬ ∃ o ∈ ss, o ≠ x ∧ within o x = true) : ∀ (l f : List Sup), x ∈ l → x ∈ l.foldl (thinF ss) f
  | y :: l, f, h => by
    rw [List.foldl_cons]
    rcases List.mem_cons.mp h with rfl | h
    · refine thin_keep l _ ?_
      unfold thinF
      by_cases hf : x ∈ f
      · rw [if_pos (.inl hf)]; exact hf
      · rw [if_neg (by rintro (z | z); exact hf z; exact hx z)]
        simp
    · exact thin_in hx l _ h
theorem setP_only {x : Piece} {l : List Piece} (h : ∀ y ∈ setP l, y = x) (hn : setP l ≠ []) : setP l = [x] := by
  have hl : ∀ y ∈ srt pP l, y = x := fun y hy => h y (by unfold setP; rw [mem_dd]; exact hy)
  unfold setP at hn ⊢
  refine dd_all hl fun z => hn ?_
  rw [z]; rfl
theorem thin_ne {ss : List Sup} {x : Piece} (hs : ∀ s ∈ ss, ∃ l, s = setP l) (hx : [x] ∈ ss) : 0 < (thin ss).length := by
  have key : ∀ s : Sup, s ∈ ss → (¬ ∃ o ∈ ss, o ≠ s ∧ within o s = true) → 0 < (thin ss).length := fun s h1 h2 => by
    have : s ∈ thin ss := thin_in h2 (srt pS ss) [] ((srt_perm (kp := pS)).mem_iff.mpr h1)
    exact List.length_pos_iff.mpr (List.ne_nil_of_mem this)
  by_cases h0 : ([] : Sup) ∈ ss
  · refine key [] h0 ?_
    rintro ⟨o, _, h1, h2⟩
    cases o with
    | nil => exact h1 rfl
    | cons y o => simp [within] at h2
  · refine key [x] hx ?_
    rintro ⟨o, h1, h2, h3⟩
    obtain ⟨l, rfl⟩ := hs o h1
    refine h2 (setP_only (fun y hy => ?_) fun z => h0 (z ▸ h1))
    unfold within at h3
    have := List.all_eq_true.mp h3 y hy
    simpa using this
theorem atts_ge {rs : List Att} {o0 : Piece} : ∀ ps : Sup, (∀ p ∈ ps, p ≠ o0 → 0 < (thin (selS rs p)).length) → (ps.filter fun p => decide (p ≠ o0)).length ≤ (attsOf ps rs).length
  | [], _ => by simp
  | p :: ps, h => by
    have ih := atts_ge ps fun q hq => h q (List.mem_cons_of_mem _ hq)
    have e : (attsOf (p :: ps) rs).length = (thin (selS rs p)).length + (attsOf ps rs).length := by
      unfold attsOf
      rw [List.flatMap_cons, List.length_append, List.length_map]
    rw [e]
    by_cases hp : p = o0
    · rw [List.filter_cons_of_neg (by simp [hp])]
      omega
    · rw [List.filter_cons_of_pos (by simp [hp]), List.length_cons]
      have := h p List.mem_cons_self hp
      omega
theorem nodup_but {o0 : Piece} : ∀ ps : Sup, ps.Nodup → ps.length ≤ (ps.filter fun p => decide (p ≠ o0)).length + 1
  | [], _ => by simp
  | p :: ps, h => by
    rw [List.nodup_cons] at h
    by_cases hp : p = o0
    · rw [List.filter_cons_of_neg (by simp [hp])]
      have : ps.filter (fun p => decide (p ≠ o0)) = ps := List.filter_eq_self.mpr fun q hq => by
        refine decide_eq_true ?_
        rintro rfl
        exact h.1 (hp ▸ hq)
      rw [this, List.length_cons]
      omega
    · rw [List.filter_cons_of_pos (by simp [hp]), List.length_cons, List.length_cons]
      have := nodup_but (o0 := o0) ps h.2
      omega
/-- a chain along an order -/
def chainA (o : List Piece) : List Att := (List.range 11).map fun k : Nat => ([pcAt o (k : Int)], pcAt o ((k : Int) + 1))
theorem great_k {o : List Piece} {a0 a1 a3 : Option D} (ho : o.length = 12) : k_law_great_board_1 [a0, a1, some (.lst (o.map dv)), a3, none] S = some (.lst ((chainA o).map dv), S) := by
  unfold chainA
  rw [List.map_map]
  refine lc_all (S := S) (as := List.range 11) (g := fun k : Nat => D.int (0 + (k : Int))) (f := fun k : Nat => dv (([pcAt o (k : Int)], pcAt o ((k : Int) + 1)) : Att)) (chk := chkT) ?_ trivial (by decide) fun k hk => ⟨_, rfl, rfl, ?_⟩
  · have h := ir1K_ (S := S) (a := 11) (by omega)
    have e : (11 : Int).toNat = 11 := rfl
    rw [e] at h
    simp [h, rangeD_from]
  · have hk : k < 11 := by simpa using hk
    have e : (dv (([pcAt o (k : Int)], pcAt o ((k : Int) + 1)) : Att) : D) = .tup [.tup [dv (pcAt o (k : Int))], dv (pcAt o ((k : Int) + 1))] := rfl
    have h1 := fun S => ix_at (S := S) (o := o) (x := (k : Int)) (by omega) (by omega)
    have h2 := fun S => ix_at (S := S) (o := o) (x := (k : Int) + 1) (by omega) (by omega)
    rw [e]
    simp [-q_ixl, h1, h2]
theorem great_S (h : A[i]? = some (IL ds)) : ∃ (b : Board) (ds' : List Int), c_law_great_board [.ref i] A = some (dv b, false, A.set i (IL ds')) ∧ okB2 b ∧ 8 ≤ b.2.length := by
  have hz2 : (SZ : Nat) = 100000 := rfl
  have hi : i < A.length := (List.getElem?_eq_some_iff.mp h).1
  obtain ⟨ps, d1, h1, hnd, h2, h3⟩ := pieces_W (A := A) (E := []) (ds := ds) (many := 12) hi (by omega)
  have h1 : c_law_pieces [.ref i, .int 12] (W A i ds []) = some (dv ps, false, W A i d1 []) := h1
  obtain ⟨o, d2, h4, h5⟩ := shuf_W (α := Piece) (A := A) (E := []) (ds := d1) (row := dv ps) (xs := ps) hi (.inr rfl) (by omega)
  have hol : o.length = 12 := h5.length_eq.trans h2
  have hk := fun S a0 a1 a3 => great_k (S := S) (o := o) (a0 := a0) (a1 := a1) (a3 := a3) hol
  obtain ⟨n, d3, h6, h7⟩ := pick_T (α := Int) (A := A) (E := []) (ds := d2) (row := .lst [.int 0, .int 14, .int 2, .int 5]) (xs := [0, 14, 2, 5]) hi (.inl rfl) (by simp)
  have hn : 0 ≤ n ∧ n ≤ 14 := by
    simp at h6
    omega
  obtain ⟨m, rfl⟩ := Int.eq_ofNat_of_zero_le hn.1
  have e : (dv (m : Int) : D) = .int m := rfl
  rw [e] at h7
  obtain ⟨r, d4, h8, h9, h10⟩ := raw_W (A := A) (E := []) (ds := d3) (ps := ps) (most := m) hi h3 (by omega) (by omega)
  have hch : ∀ a ∈ chainA o, okRaw ps a := fun a ha => by
    obtain ⟨k, hk, rfl⟩ := List.mem_map.mp ha
    have hk : k < 11 := by simpa using hk
    exact okRaw_one (h5.mem_iff.mp (pcAt_mem (by omega) (by omega))) (h5.mem_iff.mp (pcAt_mem (by omega) (by omega)))
  have hall : ∀ a ∈ chainA o ++ r, okRaw ps a := fun a ha => by
    rcases List.mem_append.mp ha with ha | ha
    · exact hch a ha
    · exact h10 a ha
  have hcl : (chainA o).length = 11 := by simp [chainA]
  have hlen : (chainA o ++ r).length ≤ 25 := by rw [List.length_append, hcl]; omega
  have hadd : ∀ S, oAdd (.lst ((chainA o).map dv)) (.lst (r.map dv)) S = some (.lst ((chainA o ++ r).map dv), S) := fun S => by
    rw [q_addl (by rw [List.length_map, List.length_map, hcl]; omega), List.map_append]
  have hb := fun S => (board_W (A := S) (ps := ps) (rs := chainA o ++ r) h3 (by omega) (by omega) hall).1
  have hok := (board_W (A := A) (ps := ps) (rs := chainA o ++ r) h3 (by omega) (by omega) hall).2
  have hal := atts_len (rs := chainA o ++ r) ps
  have hal2 : ps.length * (chainA o ++ r).length ≤ 12 * 25 := Nat.mul_le_mul (by omega) hlen
  refine ⟨(ps, attsOf ps (chainA o ++ r)), d4, ?_, ⟨hok, by show (attsOf ps (chainA o ++ r)).length < SZ; omega⟩, ?_⟩
  · have hend := end_W (A := A) (i := i) (ds := d4) (E := []) (n := DV.n Board) (DV.hpl ((ps, attsOf ps (chainA o ++ r)) : Board)) (by decide)
    have hend : endF A (W A i d4 []) (dv ((ps, attsOf ps (chainA o ++ r)) : Board)) = some (dv ((ps, attsOf ps (chainA o ++ r)) : Board), false, A.set i (IL d4)) := hend
    generalize dv ((ps, attsOf ps (chainA o ++ r)) : Board) = X at hb hend ⊢
    generalize (chainA o ++ r).map dv = L1 at hadd hb
    generalize (chainA o).map dv = L2 at hk hadd
    generalize r.map dv = L3 at h8 hadd
    unfold c_law_great_board m_law_great_board
    rw [callsW h]
    simp [-q_addl, h1, h4, hk, h7, h8, hadd, hb]
    exact hend
  · show 8 ≤ (attsOf ps (chainA o ++ r)).length
    have hge := atts_ge (rs := chainA o ++ r) (o0 := pcAt o 0) ps (fun p hp hne => by
      have hpo := h5.mem_iff.mpr hp
      obtain ⟨j, hj, hjp⟩ := List.mem_iff_getElem.mp hpo
      have hj0 : j ≠ 0 := by
        rintro rfl
        apply hne
        unfold pcAt
        rw [← hjp, List.getD_eq_getElem?_getD, show Int.toNat 0 = 0 from rfl, List.getElem?_eq_getElem hj]
        rfl
      obtain ⟨k, rfl⟩ : ∃ k, j = k + 1 := ⟨j - 1, by omega⟩
      refine thin_ne (x := pcAt o (k : Int)) (fun s hs => ?_) ?_
      · unfold selS at hs
        obtain ⟨a, ha, rfl⟩ := List.mem_map.mp hs
        obtain ⟨l, e, _⟩ := (hall a (List.mem_filter.mp ha).1).1
        exact ⟨l, e⟩
      · unfold selS
        refine List.mem_map.mpr ⟨([pcAt o (k : Int)], pcAt o ((k : Int) + 1)), List.mem_filter.mpr ⟨List.mem_append_left _ (List.mem_map.mpr ⟨k, by simp; omega, rfl⟩), decide_eq_true ?_⟩, rfl⟩
        show pcAt o ((k : Int) + 1) = p
        unfold pcAt
        rw [← hjp, show ((k : Int) + 1).toNat = k + 1 by omega, List.getD_eq_getElem?_getD, List.getElem?_eq_getElem hj]
        rfl)
    have hbut := nodup_but (o0 := pcAt o 0) ps hnd
    omega
theorem great_W (hi : i < A.length) : ∃ (b : Board) (ds' : List Int), c_law_great_board [.ref i] (W A i ds E) = some (dv b, false, W A i ds' E) ∧ okB2 b ∧ 8 ≤ b.2.length := by
  obtain ⟨b, ds', h, h2⟩ := great_S (A := W A i ds E) (W_i hi)
  rw [W_si hi] at h
  exact ⟨b, ds', h, h2⟩
end
end K76
set_option Elab.async false
set_option linter.all false
set_option maxRecDepth 100000
set_option autoImplicit false
set_option maxHeartbeats 1000000
namespace K76
open PySem L2 HS
section
variable {A E S : Sto} {i : Nat} {ds : List Int}
/-- the law's inner loop: four maybe boards are right -/
theorem law_in {b : Board} {m1 m2 : List Int} {a0 a1 a2 a6 a7 a8 a9 a10 : Option D} (hb : okB2 b) (h1 : m1.length ≤ 4) (h2 : m2.length ≤ 4) : ∃ a6', l_law_1 [a0, a1, a2, some (dv b), some (.tup [dv b, dv m1]), some (.tup [dv b, dv m2]), a6, a7, a8, a9, a10, none] A = some (.nx, [a0, a1, a2, some (dv b), some (.tup [dv b, dv m1]), some (.tup [dv b, dv m2]), a6', a7, a8, a9, a10, none], A) := by
  have hz2 : (SZ : Nat) = 100000 := rfl
  obtain ⟨η', S', h3, a6', rfl, rfl⟩ := for_ind (it := iE (eLst (aCons (eVar 4) (aCons (eVar 5) (aCons (eTup (aCons (eVar 3) (aCons (eTup aNil) aNil))) (aCons (eVar 4) aNil)))))) (tg := HS.gN 6) (body := b_law_1) (η := [a0, a1, a2, some (dv b), some (.tup [dv b, dv m1]), some (.tup [dv b, dv m2]), a6, a7, a8, a9, a10, none]) (S := A) (S0 := A) (xs := [.tup [dv b, dv m1], .tup [dv b, dv m2], .tup [dv b, dv ([] : List Int)], .tup [dv b, dv m1]]) (chk := chkS (.lst [.tup [dv b, dv m1], .tup [dv b, dv m2], .tup [dv b, dv ([] : List Int)], .tup [dv b, dv m1]]) [.tup [dv b, dv m1], .tup [dv b, dv m2], .tup [dv b, dv ([] : List Int)], .tup [dv b, dv m1]])
    (fun k η S => ∃ a6, η = [a0, a1, a2, some (dv b), some (.tup [dv b, dv m1]), some (.tup [dv b, dv m2]), a6, a7, a8, a9, a10, none] ∧ S = A)
    (by
      have e : (dv ([] : List Int) : D) = .tup [] := rfl
      simp [e]) ⟨_, rfl, rfl⟩ (fun _ _ _ _ _ => rfl) (fun k x η S hx ⟨a6, h3, h4⟩ => by
      subst h3 h4
      obtain ⟨m, rfl, hm⟩ : ∃ m : List Int, x = .tup [dv b, dv m] ∧ m.length ≤ 4 := by
        have := List.mem_of_getElem? hx
        simp only [List.mem_cons, List.not_mem_nil, or_false] at this
        rcases this with rfl | rfl | rfl | rfl
        · exact ⟨m1, rfl, h1⟩
        · exact ⟨m2, rfl, h2⟩
        · exact ⟨[], rfl, by simp⟩
        · exact ⟨m1, rfl, h1⟩
      have ht := tuples_spec (A := S) (n := m.length) (by omega)
      have hr := right_spec (A := S) (b := b) (mb := m) (e := .lst ((allT m.length).map dv)) (asked := allT m.length) hb.1 (by omega) (fun c hc => allT_mem hc) (by
        have : 2 ^ m.length ≤ 2 ^ 4 := Nat.pow_le_pow_right (by decide) hm
        rw [allT_len]; omega) rfl
      have hlen : ∀ S, bLen [dv m] S = some (.int m.length, S) := fun S => by
        show some (D.int ((m.map dv).length : Nat), S) = _
        rw [List.length_map]
      refine ⟨_, _, _, rfl, .inl ?_, some (.tup [dv b, dv m]), rfl, rfl⟩
      generalize (allT m.length).map dv = L at ht hr
      unfold b_law_1
      simp [hlen, ht, hr])
  exact ⟨_, h3⟩
/-- the outer loop -/
theorem law_out {b1 b2 b3 : Board} {a0 : Option D} (hi : i < A.length) (h1 : okB2 b1) (h2 : okB2 b2) (h3 : okB2 b3) : ∃ (a3 a4 a5 a6 : Option D) (ds' : List Int), l_law_2 [a0, some (.ref i), some (.lst [dv b1, dv b2, dv b3]), none, none, none, none, none, none, none, none, none] (W A i ds E) =
    some (.nx, [a0, some (.ref i), some (.lst [dv b1, dv b2, dv b3]), a3, a4, a5, a6, none, none, none, none, none], W A i ds' E) := by
  obtain ⟨η', S', h4, a3, a4, a5, a6, ds', rfl, rfl⟩ := for_ind (it := iE (eVar 2)) (tg := HS.gN 3) (body := b_law_2) (η := [a0, some (.ref i), some (.lst [dv b1, dv b2, dv b3]), none, none, none, none, none, none, none, none, none]) (S := W A i ds E) (S0 := W A i ds E) (xs := [dv b1, dv b2, dv b3]) (chk := chkS (.lst [dv b1, dv b2, dv b3]) [dv b1, dv b2, dv b3])
    (fun k η S => ∃ (a3 a4 a5 a6 : Option D) (ds' : List Int), η = [a0, some (.ref i), some (.lst [dv b1, dv b2, dv b3]), a3, a4, a5, a6, none, none, none, none, none] ∧ S = W A i ds' E)
    (by simp) ⟨none, none, none, none, ds, rfl, rfl⟩ (fun _ _ _ _ _ => rfl) (fun k x η S hx ⟨a3, a4, a5, a6, ds', h5, h6⟩ => by
      subst h5 h6
      obtain ⟨b, rfl, hb⟩ : ∃ b : Board, x = dv b ∧ okB2 b := by
        have := List.mem_of_getElem? hx
        simp only [List.mem_cons, List.not_mem_nil, or_false] at this
        rcases this with rfl | rfl | rfl
        · exact ⟨b1, rfl, h1⟩
        · exact ⟨b2, rfl, h2⟩
        · exact ⟨b3, rfl, h3⟩
      obtain ⟨m1, d1, h7, h8⟩ := maybe_W (A := A) (E := E) (ds := ds') (b := b) (most := 4) hi hb.1 hb.2
      obtain ⟨m2, d2, h9, h10⟩ := maybe_W (A := A) (E := E) (ds := d1) (b := b) (most := 4) hi hb.1 hb.2
      have h7 : c_law_maybe_of [.ref i, dv b, .int 4] (W A i ds' E) = _ := h7
      have h9 : c_law_maybe_of [.ref i, dv b, .int 4] (W A i d1 E) = _ := h9
      obtain ⟨a6', h11⟩ := law_in (A := W A i d2 E) (b := b) (m1 := m1) (m2 := m2) (a0 := a0) (a1 := some (.ref i)) (a2 := some (.lst [dv b1, dv b2, dv b3])) (a6 := a6) (a7 := none) (a8 := none) (a9 := none) (a10 := none) hb h8 h10
      refine ⟨_, _, _, rfl, .inl ?_, some (dv b), some (.tup [dv b, dv m1]), some (.tup [dv b, dv m2]), a6', d2, rfl, rfl⟩
      unfold b_law_2
      simp [h7, h9, h11])
  exact ⟨a3, a4, a5, a6, ds', h4⟩
theorem great_k1 {b : Board} {a0 a1 a2 a3 a4 a5 a6 a8 a9 a10 : Option D} (hz : b.2.length ≤ SZ) : k_law_1 [a0, a1, a2, a3, a4, a5, a6, some (dv b), a8, a9, a10, none] S = some (.lst (((List.range b.2.length).map fun k : Nat => (k : Int)).map dv), S) := by
  rw [List.map_map]
  refine lc_all (S := S) (as := List.range b.2.length) (g := fun k : Nat => D.int (0 + (k : Int))) (chk := chkT) ?_ trivial (by simpa using hz) fun k hk => ⟨_, rfl, rfl, ?_⟩
  · have e : (dv b : D) = .tup [dv b.1, .tup (b.2.map dv)] := rfl
    simp [e, hz, rangeD_from]
  · simp
    rfl
/-- eight drawn bits -/
theorem bits_W {a0 a2 a3 a4 a5 a6 a7 a8 a9 a10 : Option D} (hi : i < A.length) : ∃ (c : Tup) (ds' : List Int), k_law_2 [a0, some (.ref i), a2, a3, a4, a5, a6, a7, a8, a9, a10, none] (W A i ds E) = some (.lst (c.map dv), W A i ds' E) ∧ c.length = 8 := by
  obtain ⟨c, d, h1, h2, _⟩ := lc_T (α := Int) (A := A) (E := E) (i := i) (ds := ds) (η := [a0, some (.ref i), a2, a3, a4, a5, a6, a7, a8, a9, a10, none]) (S0 := W A i ds E) (xs := rangeD 0 8) (chk := chkT) (it := iRange1 (aCons (eC (.int 8)) aNil)) (vs := [11]) (tg := HS.gN 11) (tt := tYesE) (fe := eCall c_law_take 2 (aCons (eVar 1) (aCons (eC (.int 2)) aNil))) (fun _ => True)
    (by
      have h := ir1K_ (S := W A i ds E) (a := 8) (by omega)
      have e : (8 : Int).toNat = 8 := rfl
      rw [e] at h
      simp [h]) (fun _ => trivial) (by decide) (fun x hx ds => by
      obtain ⟨k, d', h1, _, _⟩ := take_W (A := A) (E := E) (ds := ds) (m := 2) hi (by decide)
      refine ⟨_, rfl, rfl, k, d', ?_, trivial⟩
      have e : (dv k : D) = .int k := rfl
      rw [e]
      simp [h1])
  exact ⟨c, d, h1, by simpa using h2⟩
theorem asked_loop {a0 a2 a3 a4 a5 a6 a7 a8 : Option D} (hi : i < A.length) {f0 : List Tup} (hf : ∀ c ∈ f0, c.length = 8) (hz : f0.length = 2) : ∃ (f : List Tup) (ds' : List Int) (a10 : Option D), l_law_3 [a0, some (.ref i), a2, a3, a4, a5, a6, a7, a8, some (.ref A.length), none, none] (W A i ds [.lst (f0.map dv)]) =
    some (.nx, [a0, some (.ref i), a2, a3, a4, a5, a6, a7, a8, some (.ref A.length), a10, none], W A i ds' [.lst (f.map dv)]) ∧ f.length = 6 ∧ ∀ c ∈ f, c.length = 8 := by
  have hz2 : (SZ : Nat) = 100000 := rfl
  obtain ⟨η', S', h4, f, ds', a10, rfl, rfl, h5, h6⟩ := for_ind (it := iRange1 (aCons (eC (.int 4)) aNil)) (tg := HS.gN 10) (body := b_law_3) (η := [a0, some (.ref i), a2, a3, a4, a5, a6, a7, a8, some (.ref A.length), none, none]) (S := W A i ds [.lst (f0.map dv)]) (S0 := W A i ds [.lst (f0.map dv)]) (xs := rangeD 0 4) (chk := chkT)
    (fun k η S => ∃ (f : List Tup) (ds' : List Int) (a10 : Option D), η = [a0, some (.ref i), a2, a3, a4, a5, a6, a7, a8, some (.ref A.length), a10, none] ∧ S = W A i ds' [.lst (f.map dv)] ∧ f.length = 2 + k ∧ ∀ c ∈ f, c.length = 8)
    (by
      have h := ir1K_ (S := W A i ds [.lst (f0.map dv)]) (a := 4) (by omega)
      have e : (4 : Int).toNat = 4 := rfl
      rw [e] at h
      simp [h]) ⟨f0, ds, none, rfl, rfl, hz, hf⟩ (fun _ _ _ _ _ => trivial) (fun k x η S hx ⟨f, ds', a10, h1, h2, h3, h4⟩ => by
      obtain ⟨hk, rfl⟩ := rangeD_get hx
      subst h1 h2
      obtain ⟨c, d2, h5, h6⟩ := bits_W (A := A) (E := [.lst (f.map dv)]) (ds := ds') (a0 := a0) (a2 := a2) (a3 := a3) (a4 := a4) (a5 := a5) (a6 := a6) (a7 := a7) (a8 := a8) (a9 := some (.ref A.length)) (a10 := some (.int k)) hi
      have hlt : f.length < SZ := by omega
      refine ⟨_, _, _, rfl, .inl ?_, f ++ [c], d2, some (.int k), rfl, rfl, by simp [h3]; omega, fun u hu => ?_⟩
      · unfold b_law_3
        simp [h5, hlt]
        rfl
      · rcases List.mem_append.mp hu with hu | hu
        · exact h4 u hu
        · have : u = c := by simpa using hu
          subst this; exact h6)
  exact ⟨f, ds', a10, h4, by simpa using h5, h6⟩
end
theorem law_true (ns : List Int) (hn : ns.length ≤ 63) : ∃ S', c_law [.scr (ns.map D.int)] [] = some (.bl true, false, S') := by
  have hz2 : (SZ : Nat) = 100000 := rfl
  obtain ⟨d0, h0⟩ := draws_spec (A := V [] []) (many := 700) hn (by omega)
  have h0 : c_law_draws [.scr (ns.map D.int), .int 700] (V [] []) = some (.lst (d0.map D.int), true, V [] []) := h0
  obtain ⟨A, hA⟩ : ∃ A : Sto, A = [IL d0] := ⟨_, rfl⟩
  have hAl : A.length = 1 := by rw [hA]; rfl
  have hi : 0 < A.length := by omega
  have hS : V [] [.lst (d0.map D.int)] = W A 0 d0 [] := by
    rw [hA]
    rfl
  obtain ⟨b1, b2, b3, d1, h1, k1, k2, k3⟩ := boards_W (A := A) (E := []) (i := 0) (ds := d0) hi
  obtain ⟨a3, a4, a5, a6, d2, h2⟩ := law_out (A := A) (E := []) (i := 0) (ds := d1) (b1 := b1) (b2 := b2) (b3 := b3) (a0 := some (.scr (ns.map D.int))) hi k1 k2 k3
  obtain ⟨g, d3, h3, k4, k5⟩ := great_W (A := A) (E := []) (i := 0) (ds := d2) hi
  have h4 := great_k1 (S := W A 0 d3 []) (b := g) (a0 := some (.scr (ns.map D.int))) (a1 := some (.ref 0)) (a2 := some (.lst [dv b1, dv b2, dv b3])) (a3 := a3) (a4 := a4) (a5 := a5) (a6 := a6) (a8 := none) (a9 := none) (a10 := none) (Nat.le_of_lt k4.2)
  obtain ⟨o, d4, h5, h6⟩ := shuf_W (α := Int) (A := A) (E := []) (i := 0) (ds := d3) (row := .lst (((List.range g.2.length).map fun k : Nat => (k : Int)).map dv)) (xs := (List.range g.2.length).map fun k : Nat => (k : Int)) hi (.inl rfl) (by simpa using k4.2)
  have hol : o.length = g.2.length := by rw [h6.length_eq]; simp
  obtain ⟨f, d5, a10, h7, h8, h9⟩ := asked_loop (A := A) (i := 0) (ds := d4) (a0 := some (.scr (ns.map D.int))) (a2 := some (.lst [dv b1, dv b2, dv b3])) (a3 := a3) (a4 := a4) (a5 := a5) (a6 := a6) (a7 := some (dv g)) (a8 := some (.lst (o.map dv))) hi (f0 := [[1, 1, 1, 1, 1, 1, 1, 1], [0, 0, 0, 0, 0, 0, 0, 0]]) (by simp) rfl
  have h10 := fun S => slD_take (S := S) (xs := o.map dv) (n := 8)
  have h11 : ∀ S, bSortI [.lst ((o.map dv).take 8)] S = some (.lst ((sortI (o.take 8)).map D.int), S) := fun S => by
    rw [← List.map_take]
    exact sortI_D
  have hml : (sortI (o.take 8)).length = 8 := by rw [sortI_len, List.length_take]; omega
  have h12 := right_spec (A := W A 0 d5 [.lst (f.map dv)]) (b := g) (mb := sortI (o.take 8)) (e := .ref A.length) (asked := f) k4.1 (by omega) (fun c hc => by rw [h9 c hc, hml]) (by omega) (by simp)
  have m1 : ∀ S, oMul (.tup [.int 1]) (.int 8) S = some (dv ([1, 1, 1, 1, 1, 1, 1, 1] : Tup), S) := fun S => rfl
  have m0 : ∀ S, oMul (.tup [.int 0]) (.int 8) S = some (dv ([0, 0, 0, 0, 0, 0, 0, 0] : Tup), S) := fun S => rfl
  have hend : ∀ S, endF [] S (.bl true) = some (.bl true, false, S.take 0) := fun S => by
    unfold endF
    by_cases h : S.length = ([] : Sto).length
    · rw [if_pos h]
      have : S = [] := List.length_eq_zero_iff.mp h
      subst this
      rfl
    · rw [if_neg h, if_pos (show okEnd ([] : Sto).length [] S from fun i hi => absurd hi (Nat.not_lt_zero _))]
      rfl
  have h10 : ∀ S, slD S (.lst (o.map dv)) none (some 8) = some (.lst ((o.map dv).take 8)) := h10
  have h12 : c_law_right [.tup [dv g, .tup ((sortI (o.take 8)).map D.int)], .ref A.length] (W A 0 d5 [.lst (f.map dv)]) = some (.bl true, false, W A 0 d5 [.lst (f.map dv)]) := h12
  simp only [List.map_cons, List.map_nil] at h7
  refine ⟨[], ?_⟩
  generalize ((List.range g.2.length).map fun k : Nat => (k : Int)).map dv = L0 at h4 h5
  generalize (sortI (o.take 8)).map D.int = L1 at h11 h12
  generalize (o.map dv).take 8 = L2 at h10 h11
  generalize o.map dv = L3 at h5 h7 h10
  generalize f.map dv = L4 at h7 h12
  generalize d0.map D.int = L5 at h0 hS
  generalize ns.map D.int = L6 at h0 h2 h4 h7 ⊢
  unfold c_law m_law
  rw [callsV]
  simp [h0, hS, h1, h2, h3, h4, h5, m1, m0, h7, h10, h11, h12, hend]
end K76
set_option Elab.async false
set_option linter.all false
set_option maxRecDepth 100000
set_option maxHeartbeats 0
namespace K76
open PySem PySem.Spec PyProof.Rows L2 HS
def dd_law_draws : He.DefD := ⟨("_law_draws", none), "_law_draws", "_law_draws", defArgs s_law_draws, defBody s_law_draws, defScope s_law_draws, [], []⟩
def dd_law_take : He.DefD := ⟨("_law_take", none), "_law_take", "_law_take", defArgs s_law_take, defBody s_law_take, defScope s_law_take, [], []⟩
def dd_law_shuffled : He.DefD := ⟨("_law_shuffled", none), "_law_shuffled", "_law_shuffled", defArgs s_law_shuffled, defBody s_law_shuffled, defScope s_law_shuffled, [], []⟩
def dd_law_pick : He.DefD := ⟨("_law_pick", none), "_law_pick", "_law_pick", defArgs s_law_pick, defBody s_law_pick, defScope s_law_pick, [], []⟩
def dd_law_words : He.DefD := ⟨("_law_words", none), "_law_words", "_law_words", defArgs s_law_words, defBody s_law_words, defScope s_law_words, [], []⟩
def dd_law_value_key : He.DefD := ⟨("_law_value_key", none), "_law_value_key", "_law_value_key", defArgs s_law_value_key, defBody s_law_value_key, defScope s_law_value_key, [], []⟩
def dd_law_row_key : He.DefD := ⟨("_law_row_key", none), "_law_row_key", "_law_row_key", defArgs s_law_row_key, defBody s_law_row_key, defScope s_law_row_key, [], []⟩
def dd_law_statement_key : He.DefD := ⟨("_law_statement_key", none), "_law_statement_key", "_law_statement_key", defArgs s_law_statement_key, defBody s_law_statement_key, defScope s_law_statement_key, [], []⟩
def dd_law_set : He.DefD := ⟨("_law_set", none), "_law_set", "_law_set", defArgs s_law_set, defBody s_law_set, defScope s_law_set, [], []⟩
def dd_law_value : He.DefD := ⟨("_law_value", none), "_law_value", "_law_value", defArgs s_law_value, defBody s_law_value, defScope s_law_value, [], []⟩
def dd_law_pieces : He.DefD := ⟨("_law_pieces", none), "_law_pieces", "_law_pieces", defArgs s_law_pieces, defBody s_law_pieces, defScope s_law_pieces, [], []⟩
def dd_law_support : He.DefD := ⟨("_law_support", none), "_law_support", "_law_support", defArgs s_law_support, defBody s_law_support, defScope s_law_support, [], []⟩
def dd_law_raw : He.DefD := ⟨("_law_raw", none), "_law_raw", "_law_raw", defArgs s_law_raw, defBody s_law_raw, defScope s_law_raw, [], []⟩
def dd_law_shape : He.DefD := ⟨("_law_shape", none), "_law_shape", "_law_shape", defArgs s_law_shape, defBody s_law_shape, defScope s_law_shape, [], []⟩
def dd_law_set_key : He.DefD := ⟨("_law_set_key", none), "_law_set_key", "_law_set_key", defArgs s_law_set_key, defBody s_law_set_key, defScope s_law_set_key, [], []⟩
def dd_law_within : He.DefD := ⟨("_law_within", none), "_law_within", "_law_within", defArgs s_law_within, defBody s_law_within, defScope s_law_within, [], []⟩
def dd_law_thinned : He.DefD := ⟨("_law_thinned", none), "_law_thinned", "_law_thinned", defArgs s_law_thinned, defBody s_law_thinned, defScope s_law_thinned, [], []⟩
def dd_law_board_of_raw : He.DefD := ⟨("_law_board_of_raw", none), "_law_board_of_raw", "_law_board_of_raw", defArgs s_law_board_of_raw, defBody s_law_board_of_raw, defScope s_law_board_of_raw, [], []⟩
def dd_law_sure_board : He.DefD := ⟨("_law_sure_board", none), "_law_sure_board", "_law_sure_board", defArgs s_law_sure_board, defBody s_law_sure_board, defScope s_law_sure_board, [], []⟩
def dd_law_boards : He.DefD := ⟨("_law_boards", none), "_law_boards", "_law_boards", defArgs s_law_boards, defBody s_law_boards, defScope s_law_boards, [], []⟩
def dd_law_great_board : He.DefD := ⟨("_law_great_board", none), "_law_great_board", "_law_great_board", defArgs s_law_great_board, defBody s_law_great_board, defScope s_law_great_board, [], []⟩
def dd_law_maybe_of : He.DefD := ⟨("_law_maybe_of", none), "_law_maybe_of", "_law_maybe_of", defArgs s_law_maybe_of, defBody s_law_maybe_of, defScope s_law_maybe_of, [], []⟩
def dd_law_tuples : He.DefD := ⟨("_law_tuples", none), "_law_tuples", "_law_tuples", defArgs s_law_tuples, defBody s_law_tuples, defScope s_law_tuples, [], []⟩
def dd_completions : He.DefD := ⟨("completions", none), "completions", "completions", defArgs s_completions, defBody s_completions, defScope s_completions, [], []⟩
def dd_board_of_attacks : He.DefD := ⟨("board_of_attacks", none), "board_of_attacks", "board_of_attacks", defArgs s_board_of_attacks, defBody s_board_of_attacks, defScope s_board_of_attacks, [], []⟩
def dd_completed : He.DefD := ⟨("completed", none), "completed", "completed", defArgs s_completed, defBody s_completed, defScope s_completed, [], []⟩
def dd_law_same : He.DefD := ⟨("_law_same", none), "_law_same", "_law_same", defArgs s_law_same, defBody s_law_same, defScope s_law_same, [], []⟩
def dd_law_completed : He.DefD := ⟨("_law_completed", none), "_law_completed", "_law_completed", defArgs s_law_completed, defBody s_law_completed, defScope s_law_completed, [], []⟩
def dd_law_right : He.DefD := ⟨("_law_right", none), "_law_right", "_law_right", defArgs s_law_right, defBody s_law_right, defScope s_law_right, [], []⟩
def dd_law : He.DefD := ⟨("law", none), "law", "law", defArgs s_law, defBody s_law, defScope s_law, [], []⟩
def fnL : List He.DefD := [dd_law_draws, dd_law_take, dd_law_shuffled, dd_law_pick, dd_law_words, dd_law_value_key, dd_law_row_key, dd_law_statement_key, dd_law_set, dd_law_value, dd_law_pieces, dd_law_support, dd_law_raw, dd_law_shape, dd_law_set_key, dd_law_within, dd_law_thinned, dd_law_board_of_raw, dd_law_sure_board, dd_law_boards, dd_law_great_board, dd_law_maybe_of, dd_law_tuples, dd_completions, dd_board_of_attacks, dd_completed, dd_law_same, dd_law_completed, dd_law_right, dd_law]
def faL : List He.Fa := ([.glo "_law_draws", .glo "_law_take", .glo "_law_shuffled", .glo "_law_pick", .glo "_law_words", .glo "_law_value_key", .glo "_law_row_key", .glo "_law_statement_key", .glo "_law_set", .glo "_law_value", .glo "_law_pieces", .glo "_law_support", .glo "_law_raw", .glo "_law_shape", .glo "_law_set_key", .glo "_law_within", .glo "_law_thinned", .glo "_law_board_of_raw", .glo "_law_sure_board", .glo "_law_boards", .glo "_law_great_board", .glo "_law_maybe_of", .glo "_law_tuples", .glo "completions", .glo "board_of_attacks", .glo "completed", .glo "_law_same", .glo "_law_completed", .glo "_law_right", .glo "law"] : List He.Fa) ++ ([.free "int", .free "len", .free "list", .free "range", .free "max", .free "str", .free "isinstance", .free "tuple", .free "sorted", .free "zip", .free "bool"] : List He.Fa)
abbrev R : PySem.W.OpenRow := PySem.W.OpenLaw.row PySem.Challenge.rw_heldstanding_k76_completions
abbrev hk : PySem.W.Hook := He.hookD 4 faL fnL
def ob (s : PySem.W.SharedT) : He.AlD := He.obsDG 4 faL fnL (HandSHeadRun.getT s)
theorem ob_eq (s : PySem.W.SharedT) : ob s = hk.obs s.abs := He.obsDG_eq (HandSHeadRun.getT_eq s)
def names : List PySem.Str := ["board_of_attacks", "completions", "completed", "_law_draws", "_law_take", "_law_pick", "_law_same", "_law_words", "_law_value_key", "_law_row_key", "_law_statement_key", "_law_set", "_law_set_key", "_law_within", "_law_thinned", "_law_value", "_law_pieces", "_law_shuffled", "_law_support", "_law_raw", "_law_shape", "_law_board_of_raw", "_law_sure_board", "_law_boards", "_law_great_board", "_law_maybe_of", "_law_tuples", "_law_completed", "_law_right"]
theorem run (w : World) : HandSHeadRun.RunEq R (PySem.W.view R.prog [32]) hk ob 1980 names w := by
  intro os
  kernel_rfl
theorem facts {P : Program} {w : World} {K : PySem.W.Frag} {h : Heap} {mg : Str → Option Value} {f : Addr} (X : K.In h) (G : h.Ns mainGlobals mg) (hfa : mg ("law" : Str) = some (.ref f)) (c : He.SaysD faL fnL K) :
    ∃ fd : FuncData, (∀ (s : Shared) (v : Value), BindsTo s fd ⟨[v], []⟩ [("script", v)]) ∧ ∀ base : Heap, K.In base → base.Ns mainGlobals mg → FnOk P w K mg base CX0 43 f fd ["script"] (spLaw K) := by
  obtain ⟨f0, F0⟩ := c.def_ 0 (d := dd_law_draws) rfl
  obtain ⟨f1, F1⟩ := c.def_ 1 (d := dd_law_take) rfl
  obtain ⟨f2, F2⟩ := c.def_ 2 (d := dd_law_shuffled) rfl
  obtain ⟨f3, F3⟩ := c.def_ 3 (d := dd_law_pick) rfl
  obtain ⟨f4, F4⟩ := c.def_ 4 (d := dd_law_words) rfl
  obtain ⟨f5, F5⟩ := c.def_ 5 (d := dd_law_value_key) rfl
  obtain ⟨f6, F6⟩ := c.def_ 6 (d := dd_law_row_key) rfl
  obtain ⟨f7, F7⟩ := c.def_ 7 (d := dd_law_statement_key) rfl
  obtain ⟨f8, F8⟩ := c.def_ 8 (d := dd_law_set) rfl
  obtain ⟨f9, F9⟩ := c.def_ 9 (d := dd_law_value) rfl
  obtain ⟨f10, F10⟩ := c.def_ 10 (d := dd_law_pieces) rfl
  obtain ⟨f11, F11⟩ := c.def_ 11 (d := dd_law_support) rfl
  obtain ⟨f12, F12⟩ := c.def_ 12 (d := dd_law_raw) rfl
  obtain ⟨f13, F13⟩ := c.def_ 13 (d := dd_law_shape) rfl
  obtain ⟨f14, F14⟩ := c.def_ 14 (d := dd_law_set_key) rfl
  obtain ⟨f15, F15⟩ := c.def_ 15 (d := dd_law_within) rfl
  obtain ⟨f16, F16⟩ := c.def_ 16 (d := dd_law_thinned) rfl
  obtain ⟨f17, F17⟩ := c.def_ 17 (d := dd_law_board_of_raw) rfl
  obtain ⟨f18, F18⟩ := c.def_ 18 (d := dd_law_sure_board) rfl
  obtain ⟨f19, F19⟩ := c.def_ 19 (d := dd_law_boards) rfl
  obtain ⟨f20, F20⟩ := c.def_ 20 (d := dd_law_great_board) rfl
  obtain ⟨f21, F21⟩ := c.def_ 21 (d := dd_law_maybe_of) rfl
  obtain ⟨f22, F22⟩ := c.def_ 22 (d := dd_law_tuples) rfl
  obtain ⟨f23, F23⟩ := c.def_ 23 (d := dd_completions) rfl
  obtain ⟨f24, F24⟩ := c.def_ 24 (d := dd_board_of_attacks) rfl
  obtain ⟨f25, F25⟩ := c.def_ 25 (d := dd_completed) rfl
  obtain ⟨f26, F26⟩ := c.def_ 26 (d := dd_law_same) rfl
  obtain ⟨f27, F27⟩ := c.def_ 27 (d := dd_law_completed) rfl
  obtain ⟨f28, F28⟩ := c.def_ 28 (d := dd_law_right) rfl
  obtain ⟨f29, F29⟩ := c.def_ 29 (d := dd_law) rfl
  have e := hfa.symm.trans (He.glo_ok X G (c.fact 29 (f := .glo "law") rfl))
  cases e
  have bL := FunD.bindsA (ps := ["script"]) F29 fun _ _ _ _ _ _ us hl => match us, hl with | [_], _ => rfl
  have T : Txt K mg (fun i => match i with | 0 => He.ga K "_law_draws" | 1 => He.ga K "_law_take" | 2 => He.ga K "_law_shuffled" | 3 => He.ga K "_law_pick" | 4 => He.ga K "_law_words" | 5 => He.ga K "_law_value_key" | 6 => He.ga K "_law_row_key" | 7 => He.ga K "_law_statement_key" | 8 => He.ga K "_law_set" | 9 => He.ga K "_law_value" | 10 => He.ga K "_law_pieces" | 11 => He.ga K "_law_support" | 12 => He.ga K "_law_raw" | 13 => He.ga K "_law_shape" | 14 => He.ga K "_law_set_key" | 15 => He.ga K "_law_within" | 16 => He.ga K "_law_thinned" | 17 => He.ga K "_law_board_of_raw" | 18 => He.ga K "_law_sure_board" | 19 => He.ga K "_law_boards" | 20 => He.ga K "_law_great_board" | 21 => He.ga K "_law_maybe_of" | 22 => He.ga K "_law_tuples" | 23 => He.ga K "completions" | 24 => He.ga K "board_of_attacks" | 25 => He.ga K "completed" | 26 => He.ga K "_law_same" | 27 => He.ga K "_law_completed" | 28 => He.ga K "_law_right" | 29 => He.ga K "law" | _ => 0) (fun i => match i with | 0 => f0 | 1 => f1 | 2 => f2 | 3 => f3 | 4 => f4 | 5 => f5 | 6 => f6 | 7 => f7 | 8 => f8 | 9 => f9 | 10 => f10 | 11 => f11 | 12 => f12 | 13 => f13 | 14 => f14 | 15 => f15 | 16 => f16 | 17 => f17 | 18 => f18 | 19 => f19 | 20 => f20 | 21 => f21 | 22 => f22 | 23 => f23 | 24 => f24 | 25 => f25 | 26 => f26 | 27 => f27 | 28 => f28 | 29 => f29 | _ => f29) := {
    g_law_draws := He.glo_ok X G (c.fact 0 (f := .glo "_law_draws") rfl)
    F_law_draws := F0
    b_law_draws := FunD.bindsN F0 fun _ _ _ _ _ _ us hl => match us, hl with | [_, _], _ => rfl
    g_law_take := He.glo_ok X G (c.fact 1 (f := .glo "_law_take") rfl)
    F_law_take := F1
    b_law_take := FunD.bindsN F1 fun _ _ _ _ _ _ us hl => match us, hl with | [_, _], _ => rfl
    g_law_shuffled := He.glo_ok X G (c.fact 2 (f := .glo "_law_shuffled") rfl)
    F_law_shuffled := F2
    b_law_shuffled := FunD.bindsN F2 fun _ _ _ _ _ _ us hl => match us, hl with | [_, _], _ => rfl
    g_law_pick := He.glo_ok X G (c.fact 3 (f := .glo "_law_pick") rfl)
    F_law_pick := F3
    b_law_pick := FunD.bindsN F3 fun _ _ _ _ _ _ us hl => match us, hl with | [_, _], _ => rfl
    g_law_words := He.glo_ok X G (c.fact 4 (f := .glo "_law_words") rfl)
    F_law_words := F4
    b_law_words := FunD.bindsN F4 fun _ _ _ _ _ _ us hl => match us, hl with | [_, _], _ => rfl
    g_law_value_key := He.glo_ok X G (c.fact 5 (f := .glo "_law_value_key") rfl)
    F_law_value_key := F5
    b_law_value_key := FunD.bindsN F5 fun _ _ _ _ _ _ us hl => match us, hl with | [_], _ => rfl
    g_law_row_key := He.glo_ok X G (c.fact 6 (f := .glo "_law_row_key") rfl)
    F_law_row_key := F6
    b_law_row_key := FunD.bindsN F6 fun _ _ _ _ _ _ us hl => match us, hl with | [_], _ => rfl
    g_law_statement_key := He.glo_ok X G (c.fact 7 (f := .glo "_law_statement_key") rfl)
    F_law_statement_key := F7
    b_law_statement_key := FunD.bindsN F7 fun _ _ _ _ _ _ us hl => match us, hl with | [_], _ => rfl
    g_law_set := He.glo_ok X G (c.fact 8 (f := .glo "_law_set") rfl)
    F_law_set := F8
    b_law_set := FunD.bindsN F8 fun _ _ _ _ _ _ us hl => match us, hl with | [_], _ => rfl
    g_law_value := He.glo_ok X G (c.fact 9 (f := .glo "_law_value") rfl)
    F_law_value := F9
    b_law_value := FunD.bindsN F9 fun _ _ _ _ _ _ us hl => match us, hl with | [_, _], _ => rfl
    g_law_pieces := He.glo_ok X G (c.fact 10 (f := .glo "_law_pieces") rfl)
    F_law_pieces := F10
    b_law_pieces := FunD.bindsN F10 fun _ _ _ _ _ _ us hl => match us, hl with | [_, _], _ => rfl
    g_law_support := He.glo_ok X G (c.fact 11 (f := .glo "_law_support") rfl)
    F_law_support := F11
    b_law_support := FunD.bindsN F11 fun _ _ _ _ _ _ us hl => match us, hl with | [_, _], _ => rfl
    g_law_raw := He.glo_ok X G (c.fact 12 (f := .glo "_law_raw") rfl)
    F_law_raw := F12
    b_law_raw := FunD.bindsN F12 fun _ _ _ _ _ _ us hl => match us, hl with | [_, _, _], _ => rfl
    g_law_shape := He.glo_ok X G (c.fact 13 (f := .glo "_law_shape") rfl)
    F_law_shape := F13
    b_law_shape := FunD.bindsN F13 fun _ _ _ _ _ _ us hl => match us, hl with | [_, _], _ => rfl
    g_law_set_key := He.glo_ok X G (c.fact 14 (f := .glo "_law_set_key") rfl)
    F_law_set_key := F14
    b_law_set_key := FunD.bindsN F14 fun _ _ _ _ _ _ us hl => match us, hl with | [_], _ => rfl
    g_law_within := He.glo_ok X G (c.fact 15 (f := .glo "_law_within") rfl)
    F_law_within := F15
    b_law_within := FunD.bindsN F15 fun _ _ _ _ _ _ us hl => match us, hl with | [_, _], _ => rfl
    g_law_thinned := He.glo_ok X G (c.fact 16 (f := .glo "_law_thinned") rfl)
    F_law_thinned := F16
    b_law_thinned := FunD.bindsN F16 fun _ _ _ _ _ _ us hl => match us, hl with | [_], _ => rfl
    g_law_board_of_raw := He.glo_ok X G (c.fact 17 (f := .glo "_law_board_of_raw") rfl)
    F_law_board_of_raw := F17
    b_law_board_of_raw := FunD.bindsN F17 fun _ _ _ _ _ _ us hl => match us, hl with | [_, _], _ => rfl
    g_law_sure_board := He.glo_ok X G (c.fact 18 (f := .glo "_law_sure_board") rfl)
    F_law_sure_board := F18
    b_law_sure_board := FunD.bindsN F18 fun _ _ _ _ _ _ us hl => match us, hl with | [_], _ => rfl
    g_law_boards := He.glo_ok X G (c.fact 19 (f := .glo "_law_boards") rfl)
    F_law_boards := F19
    b_law_boards := FunD.bindsN F19 fun _ _ _ _ _ _ us hl => match us, hl with | [_, _, _], _ => rfl
    g_law_great_board := He.glo_ok X G (c.fact 20 (f := .glo "_law_great_board") rfl)
    F_law_great_board := F20
    b_law_great_board := FunD.bindsN F20 fun _ _ _ _ _ _ us hl => match us, hl with | [_], _ => rfl
    g_law_maybe_of := He.glo_ok X G (c.fact 21 (f := .glo "_law_maybe_of") rfl)
    F_law_maybe_of := F21
    b_law_maybe_of := FunD.bindsN F21 fun _ _ _ _ _ _ us hl => match us, hl with | [_, _, _], _ => rfl
    g_law_tuples := He.glo_ok X G (c.fact 22 (f := .glo "_law_tuples") rfl)
    F_law_tuples := F22
    b_law_tuples := FunD.bindsN F22 fun _ _ _ _ _ _ us hl => match us, hl with | [_], _ => rfl
    g_completions := He.glo_ok X G (c.fact 23 (f := .glo "completions") rfl)
    F_completions := F23
    b_completions := FunD.bindsN F23 fun _ _ _ _ _ _ us hl => match us, hl with | [_], _ => rfl
    g_board_of_attacks := He.glo_ok X G (c.fact 24 (f := .glo "board_of_attacks") rfl)
    F_board_of_attacks := F24
    b_board_of_attacks := FunD.bindsN F24 fun _ _ _ _ _ _ us hl => match us, hl with | [_, _], _ => rfl
    g_completed := He.glo_ok X G (c.fact 25 (f := .glo "completed") rfl)
    F_completed := F25
    b_completed := FunD.bindsN F25 fun _ _ _ _ _ _ us hl => match us, hl with | [_, _], _ => rfl
    g_law_same := He.glo_ok X G (c.fact 26 (f := .glo "_law_same") rfl)
    F_law_same := F26
    b_law_same := FunD.bindsN F26 fun _ _ _ _ _ _ us hl => match us, hl with | [_, _], _ => rfl
    g_law_completed := He.glo_ok X G (c.fact 27 (f := .glo "_law_completed") rfl)
    F_law_completed := F27
    b_law_completed := FunD.bindsN F27 fun _ _ _ _ _ _ us hl => match us, hl with | [_, _], _ => rfl
    g_law_right := He.glo_ok X G (c.fact 28 (f := .glo "_law_right") rfl)
    F_law_right := F28
    b_law_right := FunD.bindsN F28 fun _ _ _ _ _ _ us hl => match us, hl with | [_, _], _ => rfl
    g_law := He.glo_ok X G (c.fact 29 (f := .glo "law") rfl)
    F_law := F29
    b_law := FunD.bindsN F29 fun _ _ _ _ _ _ us hl => match us, hl with | [_], _ => rfl
    z_int := He.free_ok X G (c.fact 30 (f := .free "int") rfl)
    z_len := He.free_ok X G (c.fact 31 (f := .free "len") rfl)
    z_list := He.free_ok X G (c.fact 32 (f := .free "list") rfl)
    z_range := He.free_ok X G (c.fact 33 (f := .free "range") rfl)
    z_max := He.free_ok X G (c.fact 34 (f := .free "max") rfl)
    z_str := He.free_ok X G (c.fact 35 (f := .free "str") rfl)
    z_isinstance := He.free_ok X G (c.fact 36 (f := .free "isinstance") rfl)
    z_tuple := He.free_ok X G (c.fact 37 (f := .free "tuple") rfl)
    z_sorted := He.free_ok X G (c.fact 38 (f := .free "sorted") rfl)
    z_zip := He.free_ok X G (c.fact 39 (f := .free "zip") rfl)
    z_bool := He.free_ok X G (c.fact 40 (f := .free "bool") rfl) }
  exact ⟨f29, fun s v => bL s [v] rfl, fun base _ _ => law_imp (ok_law T) law_true⟩
end K76
open PySem PySem.W PySem.Calls PyProof.Rows
theorem PySem.Challenge.cw_heldstanding_k76_completions_holds : PySem.Challenge.rw_heldstanding_k76_completions.Holds := by
  w_on; o_law
  refine HandSHeadRun.head_any (r := OpenLaw.row PySem.Challenge.rw_heldstanding_k76_completions) (q := view (OpenLaw.row PySem.Challenge.rw_heldstanding_k76_completions).prog [32]) (H := K76.hk) (ob := K76.ob) (M := 1980) (loose := K76.names) (d := HandSHeadRun.topDef (OpenLaw.row PySem.Challenge.rw_heldstanding_k76_completions).prog 32) (kwd := []) K76.ob_eq
    (by kernel_rfl) (fun s => by kernel_rfl) K76.run (by kernel_rfl) (by kernel_rfl) (by kernel_rfl) (by rfl) (by first | assumption | decide +kernel) (by decide +kernel) ⟨rfl, rfl, rfl, rfl, rfl, by decide +kernel⟩ ?hw ?hc
  case hw => w_witness2
  case hc =>
    refine L2.walk_ofE (l := PySem.Challenge.rw_heldstanding_k76_completions) (n := 63) (k := 43) (x := "script") (CX := L2.CX0) rfl (by decide) (by kernel_rfl) ⟨rfl, by decide, by decide⟩ ?F (fun _ _ _ _ z => z)
    intro w mg fa h Y G hmg0
    obtain ⟨K, KX, c⟩ := Y
    have hmg : mg ("law" : PySem.Str) = some (.ref fa) := by
      have e : (HandSHeadRun.topDef (OpenLaw.row PySem.Challenge.rw_heldstanding_k76_completions).prog 32).name = ("law" : PySem.Str) := by kernel_rfl
      rw [← e]
      exact hmg0
    obtain ⟨fd, hb, hF⟩ := K76.facts (P := (PySem.Challenge.rw_heldstanding_k76_completions).prog) (w := w) KX G hmg c
    exact ⟨K, fd, HS.spLaw K, KX, hb, fun H a ns hl hO hS => ⟨a, ns, rfl, hO, hS, hl, fun _ => rfl⟩, hF⟩
#print axioms PySem.Challenge.cw_heldstanding_k76_completions_holds
