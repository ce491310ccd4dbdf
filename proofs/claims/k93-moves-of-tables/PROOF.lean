import PyProof.Rows.All
import Wide.FinOn
import OpenK.AllK
import Wide.All
import HandS.ForMost
import HandS.TupAny
import HandS.TupMul
import HandS.Deep
import HandS.Wide
import HandS.WideBits
import HandS.IsInst
import HandS.Zip
import KE.KDictKeyed
import HandS.Lambda
import PyProof.StrOps2
import HandS.Text
import HandS.Words
import KE.SortData
import KE.LtData
import KE.SortCalls
import HandS.SortKw
import HandS.Slots
import HandS.Exc
import KE.SortKeyHeap
import HandS.FStr
import PyProof.Rows.StrIntSpec
import PyProof.FString3
import HandS.Defaults
import HandS.Head0
import HandS.Head1
import HandS.Head2
import HandS.HeadEnd
import HandS.HeadHook1
import HandS.HeadHook2
import HandS.EndTab
import HandS.HeadWalk
import PyProof.DictMoreH
import HandS.BoundDict
import HandS.DictComp
import HandS.SetKeys
import KE.GoesEnum
import KE.GoesMore
import HandS.ReCall
import HandS.Strs
import HandS.Conv
import HandS.CallLocal
import HandS.Gcd
import HandS.Head3
import PyProof.Rows.BitMore
import KE.BitLaws
import HandS.Style
import PyProof.AutoSeq1
import HandS.TupSets
import KE.GoesSet
import HandS.SetBool
import PyProof.Rows.RegReprOcc
import PySem.Challenge.RW_heldstanding_k93_moves_of_tables
set_option Elab.async false
set_option linter.all false
set_option maxRecDepth 100000
set_option autoImplicit false
namespace HS
open PySem L2

/-- deep data; pr: a tuple just handed out, of which less is known; ref: a mutable object of the store; fn: a def or a class by its name; ty: a built-in class -/
inductive D where
  | non | bl (b : Bool) | int (i : Int) | str (x : Str)
  | tup (xs : List D) | lst (xs : List D) | scr (xs : List D) | dic (kvs : List (D × D))
  | ins (c : String) (fs : List (Str × D))
  | ref (i : Nat) | fn (n : String) | ty (n : String)
  | pr (xs : List D)
instance : Inhabited D := ⟨.non⟩

structure Cf where
  P : Program
  w : World
  K : PySem.W.Frag
  fa : String → Option Addr

/-- a world: the addresses of the store's objects, the addresses that inline data must not use, the abstract heap -/
structure Wd where
  mu : List Addr
  L : List Addr
  H : Hp
/-- what inline data does not use -/
abbrev Wd.F (w : Wd) : List Addr := w.mu ++ w.L

def keyD : D → Option Key
  | .int i => some (.inl i)
  | .str x => some (.inr x)
  | _ => none
mutual
def nkD : D → Option NestedKey
  | .int i => some (.num i)
  | .str x => some (.text x)
  | .non => some .none
  | .tup xs => (nkAll xs).map .tup
  | _ => none
def nkAll : List D → Option (List NestedKey)
  | [] => some []
  | x :: xs => (nkD x).bind fun k => (nkAll xs).map fun ks => k :: ks
end

/-- the raw content of a dict with keys that are tuples -/
def NDat (P : Program) (wd : World) (p : Addr) (o : Obj) (m : List ((NestedKey × Addr) × V)) : Prop :=
  (p == sysModules) = false ∧ m.length ≤ sizeLine ∧ ∃ (xs : List (NestedKey × Addr × Value)) (es : Array DictEntry) (ep : Nat), Paired (fun (a : (NestedKey × Addr) × V) (q : NestedKey × Addr × Value) => a.1 = (q.1, q.2.1) ∧ RelV a.2 q.2.2) m xs ∧
    o.ExactDict ∧ o.data = .dict es ep ∧ es.toList = xs.map (entryOfKey (nestedKind P wd)) ∧ (xs.map (·.1)).Nodup
/-- a dict with keys that are tuples, by its raw entries: (the key, the address of its tuple), the value -/
def nDictP (P : Program) (wd : World) (p : Addr) (o : Obj) (m : List ((NestedKey × Addr) × V)) : HO := .ext fun h => h.get? p = some o ∧ NDat P wd p o m
abbrev nDict (C : Cf) (p : Addr) (o : Obj) (m : List ((NestedKey × Addr) × V)) : HO := nDictP C.P C.w p o m

/-- a list of the written part -/
def LstK (K : PySem.W.Frag) (p : Addr) (vs : List V) : Prop :=
  ∃ (o : Obj) (its : Array Value) (n : Nat), K.lookup p = some o ∧ o.cls = .type "list" ∧ o.dict = none ∧ o.data = .seq its n ∧ its.size ≤ sizeLine ∧ Vals vs its.toList
/-- a tuple of the written part -/
def TupK (K : PySem.W.Frag) (p : Addr) (vs : List V) : Prop :=
  ∃ (o : Obj) (its : Array Value) (n : Nat), K.lookup p = some o ∧ o.cls = .type "tuple" ∧ o.data = .seq its n ∧ its.size ≤ sizeLine ∧ Vals vs its.toList

mutual
inductive Rep (C : Cf) (w : Wd) : D → V → Prop
  | non : Rep C w .non .non
  | bl (b : Bool) : Rep C w (.bl b) (.bl b)
  | int (i : Int) : Rep C w (.int i) (.int i)
  | str (x : Str) : Rep C w (.str x) (.str x)
  | ty (n : String) : Rep C w (.ty n) (.ty n)
  | fn {n : String} {a : Addr} : C.fa n = some a → Rep C w (.fn n) (.ref a)
  | ref {i : Nat} {p : Addr} : w.mu[i]? = some p → Rep C w (.ref i) (.ref p)
  | tup {p : Addr} {o : Obj} {vs : List V} {ds : List D} : w.H p = some (.frz o (.tup vs)) → o.dict = none → p ∉ w.F → RepL C w ds vs → Rep C w (.tup ds) (.ref p)
  | tupK {p : Addr} {vs : List V} {ds : List D} : TupK C.K p vs → (∃ o, C.K.lookup p = some o ∧ o.dict = none) → RepL C w ds vs → Rep C w (.tup ds) (.ref p)
  | lst {p : Addr} {vs : List V} {ds : List D} : w.H p = some (.lst vs) → p ∉ w.F → RepL C w ds vs → Rep C w (.lst ds) (.ref p)
  | frz {p : Addr} {o : Obj} {vs : List V} {ds : List D} : w.H p = some (.frz o (.lst vs)) → p ∉ w.F → RepL C w ds vs → Rep C w (.scr ds) (.ref p)
  | scrK {p : Addr} {vs : List V} {ds : List D} : LstK C.K p vs → RepL C w ds vs → Rep C w (.scr ds) (.ref p)
  | dicK {p : Addr} {kvs : List (D × D)} (m : List (Key × V)) : w.H p = some (.dK m) → p ∉ w.F → ((kvs.map fun x => keyD x.1) = (m.map fun x => some x.1) ∧ m ≠ []) →
      RepL C w (kvs.map (·.2)) (m.map (·.2)) → Rep C w (.dic kvs) (.ref p)
  | dicT {p : Addr} {kvs : List (D × D)} (o : Obj) (m : List ((NestedKey × Addr) × V)) : w.H p = some (nDict C p o m) → p ∉ w.F → (kvs.map fun x => nkD x.1) = (m.map fun x => some x.1.1) →
      RepL C w (kvs.map (·.1)) (m.map fun x => V.ref x.1.2) → RepL C w (kvs.map (·.2)) (m.map (·.2)) → Rep C w (.dic kvs) (.ref p)
  | ins {p a dx : Addr} {c : String} {fs : List (Str × D)} {vs : List (Str × V)} : w.H p = some (.ins a dx vs) → p ∉ w.F → C.fa c = some a → fs.map (·.1) = vs.map (·.1) →
      RepL C w (fs.map (·.2)) (vs.map (·.2)) → Rep C w (.ins c fs) (.ref p)
  | pr {p : Addr} {vs : List V} {ds : List D} : w.H p = some (.tup vs) → p ∉ w.F → RepL C w ds vs → Rep C w (.pr ds) (.ref p)
inductive RepL (C : Cf) (w : Wd) : List D → List V → Prop
  | nil : RepL C w [] []
  | cons {d : D} {v : V} {ds : List D} {vs : List V} : Rep C w d v → RepL C w ds vs → RepL C w (d :: ds) (v :: vs)
end

/-- the object at p holds the container d -/
def ObjRep (C : Cf) (w : Wd) (p : Addr) : D → Prop
  | .lst ds => ∃ vs, w.H p = some (.lst vs) ∧ RepL C w ds vs
  | .dic kvs => (∃ m : List (Key × V), w.H p = some (.dK m) ∧ ((kvs.map fun x => keyD x.1) = (m.map fun x => some x.1) ∧ m ≠ []) ∧ RepL C w (kvs.map (·.2)) (m.map (·.2))) ∨
      ∃ (o : Obj) (m : List ((NestedKey × Addr) × V)), w.H p = some (nDict C p o m) ∧ (kvs.map fun x => nkD x.1) = (m.map fun x => some x.1.1) ∧ RepL C w (kvs.map (·.1)) (m.map fun x => V.ref x.1.2) ∧ RepL C w (kvs.map (·.2)) (m.map (·.2))
  | .ins c fs => ∃ a dx vs, w.H p = some (.ins a dx vs) ∧ C.fa c = some a ∧ fs.map (·.1) = vs.map (·.1) ∧ RepL C w (fs.map (·.2)) (vs.map (·.2))
  | _ => False

/-- a table of code objects, in the store: the name of its place, the name that its code objects bear -/
def tabD (n : String) (q : Str) : D := .pr [.ty n, .str q]
def TabRep (C : Cf) (w : Wd) (p : Addr) (n : String) (q : Str) : Prop := C.fa n = some p ∧ ∃ ps : Array Value, w.H p = some (.tbl ps) ∧ TriplesOk ps.toList ∧ ∀ (pos : Pos) (cv : Value), codeAmong pos ps.toList = some cv → ∃ c, cv = .ref c ∧ w.H c = some (LamX.CodeO c q) ∧ c ∉ w.F
/-- what stands in the store -/
def ObjRepS (C : Cf) (w : Wd) (p : Addr) : D → Prop
  | .pr [.ty n, .str q] => TabRep C w p n q
  | d => ObjRep C w p d
theorem ObjRepS.of {C : Cf} {w : Wd} {p : Addr} {d : D} (h : ObjRep C w p d) : ObjRepS C w p d := by
  unfold ObjRepS
  split
  · exact h.elim
  · exact h
theorem ObjRepS.two {C : Cf} {w : Wd} {p : Addr} {d : D} (h : ObjRepS C w p d) : ObjRep C w p d ∨ ∃ n q, d = tabD n q ∧ TabRep C w p n q := by
  unfold ObjRepS at h
  split at h
  · exact .inr ⟨_, _, rfl, h⟩
  · exact .inl h
theorem ObjRepS.tab {C : Cf} {w : Wd} {p : Addr} {n : String} {q : Str} (h : TabRep C w p n q) : ObjRepS C w p (tabD n q) := h

theorem ObjRep.rep {C : Cf} {w : Wd} {p : Addr} {d : D} (h : ObjRep C w p d) (hp : p ∉ w.F) : Rep C w d (.ref p) := by
  cases d with
  | lst ds => obtain ⟨vs, e, r⟩ := h; exact .lst e hp r
  | dic kvs =>
    rcases h with ⟨m, e, k, r⟩ | ⟨o, m, e, k, r1, r2⟩
    · exact .dicK m e hp k r
    · exact .dicT o m e hp k r1 r2
  | ins c fs => obtain ⟨a, dx, vs, e, f, n, r⟩ := h; exact .ins e hp f n r
  | _ => exact h.elim

/-- the order of worlds for what is inline -/
structure LeF (w w' : Wd) : Prop where
  mu : ∀ (i : Nat) (p : Addr), w.mu[i]? = some p → w'.mu[i]? = some p
  F : ∀ q ∈ w'.F, q ∈ w.F ∨ w.H q = none
  keep : ∀ p o, w.H p = some o → p ∉ w.F → w'.H p = some o
  dom : ∀ q, w'.H q = none → w.H q = none
/-- the order of worlds: what stands, stands (but the store's objects); new addresses are new -/
structure Le (w w' : Wd) : Prop where
  mu : ∀ (i : Nat) (p : Addr), w.mu[i]? = some p → w'.mu[i]? = some p
  new : ∀ q ∈ w'.mu, q ∈ w.mu ∨ w.H q = none
  F : ∀ q ∈ w'.F, q ∈ w.F ∨ w.H q = none
  keep : ∀ p o, w.H p = some o → p ∉ w.mu → w'.H p = some o
  dom : ∀ q, w'.H q = none → w.H q = none
  hold : ∀ q ∈ w.L, q ∈ w'.L
theorem Le.f {w w' : Wd} (e : Le w w') : LeF w w' := ⟨e.mu, e.F, fun p o h hp => e.keep p o h fun z => hp (List.mem_append_left _ z), e.dom⟩
theorem Le.refl (w : Wd) : Le w w := ⟨fun _ _ h => h, fun _ h => .inl h, fun _ h => .inl h, fun _ _ h _ => h, fun _ h => h, fun _ h => h⟩
theorem LeF.refl (w : Wd) : LeF w w := (Le.refl w).f
theorem LeF.notF {w w' : Wd} (e : LeF w w') {p : Addr} {o : HO} (h : w.H p = some o) (hp : p ∉ w.F) : p ∉ w'.F := fun z => by
  rcases e.F p z with q | q
  · exact hp q
  · rw [h] at q; cases q
theorem Le.notmu {w w' : Wd} (e : Le w w') {p : Addr} {o : HO} (h : w.H p = some o) (hp : p ∉ w.mu) : p ∉ w'.mu := fun z => by
  rcases e.new p z with q | q
  · exact hp q
  · rw [h] at q; cases q
theorem LeF.trans {w w1 w2 : Wd} (a : LeF w w1) (b : LeF w1 w2) : LeF w w2 :=
  ⟨fun i p h => b.mu i p (a.mu i p h), fun q hq => by
    rcases b.F q hq with z | z
    · exact a.F q z
    · exact .inr (a.dom q z), fun p o h hp => b.keep p o (a.keep p o h hp) (a.notF h hp), fun q h => a.dom q (b.dom q h)⟩
theorem Le.trans {w w1 w2 : Wd} (a : Le w w1) (b : Le w1 w2) : Le w w2 :=
  ⟨fun i p h => b.mu i p (a.mu i p h), fun q hq => by
    rcases b.new q hq with z | z
    · exact a.new q z
    · exact .inr (a.dom q z), fun q hq => by
    rcases b.F q hq with z | z
    · exact a.F q z
    · exact .inr (a.dom q z), fun p o h hp => b.keep p o (a.keep p o h hp) (a.notmu h hp), fun q h => a.dom q (b.dom q h), fun q h => b.hold q (a.hold q h)⟩

theorem Rep.mono {C : Cf} {w w' : Wd} (e : LeF w w') {d : D} {v : V} (h : Rep C w d v) : Rep C w' d v :=
  Rep.rec (motive_1 := fun d v _ => Rep C w' d v) (motive_2 := fun ds vs _ => RepL C w' ds vs)
    .non (fun b => .bl b) (fun i => .int i) (fun x => .str x) (fun n => .ty n) (fun h => .fn h) (fun h => .ref (e.mu _ _ h))
    (fun h hd hp _ r => .tup (e.keep _ _ h hp) hd (e.notF h hp) r) (fun h hd _ r => .tupK h hd r) (fun h hp _ r => .lst (e.keep _ _ h hp) (e.notF h hp) r) (fun h hp _ r => .frz (e.keep _ _ h hp) (e.notF h hp) r) (fun h _ r => .scrK h r)
    (fun m h hp k _ r => .dicK m (e.keep _ _ h hp) (e.notF h hp) k r) (fun o m h hp k _ _ r1 r2 => .dicT o m (e.keep _ _ h hp) (e.notF h hp) k r1 r2) (fun h hp f n _ r => .ins (e.keep _ _ h hp) (e.notF h hp) f n r) (fun h hp _ r => .pr (e.keep _ _ h hp) (e.notF h hp) r)
    .nil (fun _ _ r rs => .cons r rs) h
theorem RepL.mono {C : Cf} {w w' : Wd} (e : LeF w w') : ∀ {ds : List D} {vs : List V}, RepL C w ds vs → RepL C w' ds vs
  | _, _, .nil => .nil
  | _, _, .cons r rs => .cons (r.mono e) (RepL.mono e rs)
theorem RepL.length {C : Cf} {w : Wd} : ∀ {ds : List D} {vs : List V}, RepL C w ds vs → ds.length = vs.length
  | _, _, .nil => rfl
  | _, _, .cons _ rs => by rw [List.length_cons, List.length_cons, RepL.length rs]
theorem RepL.get {C : Cf} {w : Wd} : ∀ {ds : List D} {vs : List V} {i : Nat} {d : D}, RepL C w ds vs → ds[i]? = some d → ∃ v, vs[i]? = some v ∧ Rep C w d v
  | _, _, _, _, .nil, e => by simp at e
  | _, _, 0, _, .cons r _, e => by simp at e; subst e; exact ⟨_, rfl, r⟩
  | _, _, i + 1, d, .cons _ t, e => by
    obtain ⟨u, h1, h2⟩ := RepL.get (i := i) (d := d) t (by simpa using e)
    exact ⟨u, by simpa using h1, h2⟩
theorem RepL.getV {C : Cf} {w : Wd} : ∀ {ds : List D} {vs : List V} {i : Nat} {v : V}, RepL C w ds vs → vs[i]? = some v → ∃ d, ds[i]? = some d ∧ Rep C w d v
  | _, _, _, _, .nil, e => by simp at e
  | _, _, 0, _, .cons r _, e => by simp at e; subst e; exact ⟨_, rfl, r⟩
  | _, _, i + 1, d, .cons _ t, e => by
    obtain ⟨u, h1, h2⟩ := RepL.getV (i := i) (v := d) t (by simpa using e)
    exact ⟨u, by simpa using h1, h2⟩
theorem RepL.append {C : Cf} {w : Wd} : ∀ {ds es : List D} {vs us : List V}, RepL C w ds vs → RepL C w es us → RepL C w (ds ++ es) (vs ++ us)
  | _, _, _, _, .nil, s => s
  | _, _, _, _, .cons r t, s => .cons r (RepL.append t s)
theorem RepL.snoc {C : Cf} {w : Wd} {ds : List D} {vs : List V} {d : D} {v : V} (a : RepL C w ds vs) (b : Rep C w d v) : RepL C w (ds ++ [d]) (vs ++ [v]) := a.append (.cons b .nil)
theorem RepL.set {C : Cf} {w : Wd} {d : D} {v : V} (r : Rep C w d v) : ∀ {ds : List D} {vs : List V} (i : Nat), RepL C w ds vs → RepL C w (ds.set i d) (vs.set i v)
  | _, _, _, .nil => .nil
  | _, _, 0, .cons _ t => .cons r t
  | _, _, i + 1, .cons q t => .cons q (RepL.set r i t)
theorem RepL.take {C : Cf} {w : Wd} : ∀ {ds : List D} {vs : List V} (n : Nat), RepL C w ds vs → RepL C w (ds.take n) (vs.take n)
  | _, _, 0, _ => .nil
  | _, _, _ + 1, .nil => .nil
  | _, _, n + 1, .cons r t => .cons r (RepL.take n t)
theorem RepL.drop {C : Cf} {w : Wd} : ∀ {ds : List D} {vs : List V} (n : Nat), RepL C w ds vs → RepL C w (ds.drop n) (vs.drop n)
  | _, _, 0, r => r
  | _, _, _ + 1, .nil => .nil
  | _, _, n + 1, .cons _ t => RepL.drop n t
theorem RepL.reverse {C : Cf} {w : Wd} : ∀ {ds : List D} {vs : List V}, RepL C w ds vs → RepL C w ds.reverse vs.reverse
  | _, _, .nil => .nil
  | _, _, .cons r t => by
    rw [List.reverse_cons, List.reverse_cons]
    exact (RepL.reverse t).snoc r
theorem RepL.eraseIdx {C : Cf} {w : Wd} : ∀ {ds : List D} {vs : List V} (n : Nat), RepL C w ds vs → RepL C w (ds.eraseIdx n) (vs.eraseIdx n)
  | _, _, _, .nil => .nil
  | _, _, 0, .cons _ t => t
  | _, _, n + 1, .cons r t => .cons r (RepL.eraseIdx n t)
theorem RepL.dropLast {C : Cf} {w : Wd} {ds : List D} {vs : List V} (r : RepL C w ds vs) : RepL C w ds.dropLast vs.dropLast := by
  rw [List.dropLast_eq_take, List.dropLast_eq_take, r.length]
  exact r.take _
theorem ObjRep.mono {C : Cf} {w w' : Wd} (e : LeF w w') {p : Addr} {d : D} (h : ObjRep C w p d) (hp : ∀ o, w.H p = some o → w'.H p = some o) : ObjRep C w' p d := by
  cases d with
  | lst ds => obtain ⟨vs, q, r⟩ := h; exact ⟨vs, hp _ q, r.mono e⟩
  | dic kvs =>
    rcases h with ⟨m, q, k, r⟩ | ⟨o, m, q, k, r1, r2⟩
    · exact .inl ⟨m, hp _ q, k, r.mono e⟩
    · exact .inr ⟨o, m, hp _ q, k, r1.mono e, r2.mono e⟩
  | ins c fs => obtain ⟨a, dx, vs, q, f, n, r⟩ := h; exact ⟨a, dx, vs, hp _ q, f, n, r.mono e⟩
  | _ => exact h.elim

theorem TabRep.mono {C : Cf} {w w' : Wd} (e : LeF w w') {p : Addr} {n : String} {q : Str} (h : TabRep C w p n q) (hp : ∀ o, w.H p = some o → w'.H p = some o) : TabRep C w' p n q := by
  obtain ⟨a, ps, b, c, f⟩ := h
  refine ⟨a, ps, hp _ b, c, fun pos cv z => ?_⟩
  obtain ⟨k, e1, e2, e3⟩ := f pos cv z
  exact ⟨k, e1, e.keep _ _ e2 e3, e.notF e2 e3⟩
theorem ObjRepS.mono {C : Cf} {w w' : Wd} (e : LeF w w') {p : Addr} {d : D} (h : ObjRepS C w p d) (hp : ∀ o, w.H p = some o → w'.H p = some o) : ObjRepS C w' p d := by
  rcases h.two with z | ⟨n, q, rfl, z⟩
  · exact .of (z.mono e hp)
  · exact .tab (z.mono e hp)

abbrev Sto := List D
abbrev Env := List (Option D)
/-- the store stands in the world -/
structure Sim (C : Cf) (w : Wd) (S : Sto) : Prop where
  len : w.mu.length = S.length
  nd : w.mu.Nodup
  trk : ∀ q ∈ w.F, ∃ o, w.H q = some o
  obj : ∀ (i : Nat) (p : Addr) (d : D), w.mu[i]? = some p → S[i]? = some d → ObjRepS C w p d
def RepE (C : Cf) (w : Wd) (η : Env) (σ : L2.St) : Prop := η.length = σ.length ∧ ∀ (i : Nat) (d : D), η[i]? = some (some d) → ∃ v, σ[i]? = some (some v) ∧ Rep C w d v
theorem RepE.mono {C : Cf} {w w' : Wd} (e : LeF w w') {η : Env} {σ : L2.St} (h : RepE C w η σ) : RepE C w' η σ :=
  ⟨h.1, fun i d q => let ⟨v, a, b⟩ := h.2 i d q; ⟨v, a, b.mono e⟩⟩
theorem RepE.set {C : Cf} {w : Wd} {η : Env} {σ : L2.St} {i : Nat} {d : D} {v : V} (h : RepE C w η σ) (r : Rep C w d v) : RepE C w (η.set i (some d)) (σ.set i (some v)) := by
  refine ⟨by rw [List.length_set, List.length_set]; exact h.1, fun j d' e => ?_⟩
  by_cases hj : i = j
  · subst hj
    by_cases hi : i < η.length
    · rw [List.getElem?_set_self hi] at e
      have e2 : d = d' := Option.some.inj (Option.some.inj e)
      subst e2
      exact ⟨v, List.getElem?_set_self (by rw [← h.1]; exact hi), r⟩
    · rw [List.getElem?_eq_none (by simpa using hi)] at e; cases e
  · rw [List.getElem?_set_ne hj] at e ⊢
    exact h.2 j d' e
theorem Sim.fresh {C : Cf} {w : Wd} {S : Sto} (s : Sim C w S) {p : Addr} (hp : w.H p = none) : p ∉ w.F := fun z => by
  obtain ⟨o, e⟩ := s.trk p z
  rw [hp] at e; cases e
theorem Sim.freshm {C : Cf} {w : Wd} {S : Sto} (s : Sim C w S) {p : Addr} (hp : w.H p = none) : p ∉ w.mu := fun z => s.fresh hp (List.mem_append_left _ z)
/-- a new object stands at p, not used by anything -/
theorem Le.new' {w : Wd} {p : Addr} {o : HO} (hp : w.H p = none) : Le w ⟨w.mu, w.L, upd w.H p o⟩ :=
  ⟨fun _ _ h => h, fun _ h => .inl h, fun _ h => .inl h, fun q u h _ => by show upd w.H p o q = some u; rw [upd_ne (ne_of_none h hp)]; exact h, fun q h => by
    by_cases e : q = p
    · subst e; exact hp
    · have h : upd w.H p o q = none := h
      rw [upd_ne e] at h; exact h, fun _ h => h⟩
theorem Le.newL {w : Wd} {p : Addr} {o : HO} (hp : w.H p = none) : Le w ⟨w.mu, p :: w.L, upd w.H p o⟩ :=
  ⟨fun _ _ h => h, fun _ h => .inl h, fun q h => by
    rcases List.mem_append.mp h with e | h
    · exact .inl (List.mem_append_left _ e)
    · rcases List.mem_cons.mp h with e | h
      · subst e; exact .inr hp
      · exact .inl (List.mem_append_right _ h), (Le.new' hp).keep, (Le.new' hp).dom, fun q h => List.mem_cons_of_mem _ h⟩
theorem Sim.new {C : Cf} {w : Wd} {S : Sto} (s : Sim C w S) {p : Addr} {o : HO} (hp : w.H p = none) : Sim C ⟨w.mu, w.L, upd w.H p o⟩ S := by
  have kp : ∀ q u, w.H q = some u → upd w.H p o q = some u := fun q u h => by rw [upd_ne (ne_of_none h hp)]; exact h
  exact ⟨s.len, s.nd, fun q hq => let ⟨u, e⟩ := s.trk q hq; ⟨u, kp q u e⟩, fun i q d h1 h2 => (s.obj i q d h1 h2).mono (Le.new' hp).f fun u e => kp q u e⟩
theorem Sim.newL {C : Cf} {w : Wd} {S : Sto} (s : Sim C w S) {p : Addr} {o : HO} (hp : w.H p = none) : Sim C ⟨w.mu, p :: w.L, upd w.H p o⟩ S := by
  have kp : ∀ q u, w.H q = some u → upd w.H p o q = some u := fun q u h => by rw [upd_ne (ne_of_none h hp)]; exact h
  refine ⟨s.len, s.nd, fun q hq => ?_, fun i q d h1 h2 => (s.obj i q d h1 h2).mono (Le.newL hp).f fun u e => kp q u e⟩
  rcases List.mem_append.mp hq with e | hq
  · obtain ⟨u, e⟩ := s.trk q (List.mem_append_left _ e); exact ⟨u, kp q u e⟩
  · rcases List.mem_cons.mp hq with e | hq
    · subst e; exact ⟨o, upd_same⟩
    · obtain ⟨u, e⟩ := s.trk q (List.mem_append_right _ hq); exact ⟨u, kp q u e⟩
/-- less is forbidden -/
theorem LeF.less {w : Wd} {L' : List Addr} (h : ∀ q ∈ L', q ∈ w.L) : LeF w ⟨w.mu, L', w.H⟩ := ⟨fun _ _ h => h, fun q hq => .inl ((List.mem_append.mp hq).elim (List.mem_append_left _) fun z => List.mem_append_right _ (h q z)), fun _ _ h _ => h, fun _ h => h⟩
abbrev outL (L : List Addr) (p : Addr) : List Addr := L.filter fun q => decide (q ≠ p)
theorem outL_sub {L : List Addr} {p : Addr} : ∀ q ∈ outL L p, q ∈ L := fun q hq => (List.mem_filter.mp hq).1
theorem outL_not {L : List Addr} {p : Addr} : p ∉ outL L p := fun z => by
  have := (List.mem_filter.mp z).2
  simp at this
theorem Le.drop {w0 w : Wd} {p : Addr} (e : Le w0 w) (hp : p ∉ w0.L) : Le w0 ⟨w.mu, outL w.L p, w.H⟩ :=
  ⟨e.mu, e.new, fun q hq => by
    rcases (LeF.less (w := w) (L' := outL w.L p) outL_sub).F q hq with z | z
    · exact e.F q z
    · exact .inr (e.dom q z), e.keep, e.dom, fun q hq => List.mem_filter.mpr ⟨e.hold q hq, decide_eq_true (by rintro rfl; exact hp hq)⟩⟩
theorem Sim.less {C : Cf} {w : Wd} {S : Sto} (s : Sim C w S) {L' : List Addr} (h : ∀ q ∈ L', q ∈ w.L) : Sim C ⟨w.mu, L', w.H⟩ S :=
  ⟨s.len, s.nd, fun q hq => s.trk q ((List.mem_append.mp hq).elim (List.mem_append_left _) fun z => List.mem_append_right _ (h q z)), fun i q d h1 h2 => (s.obj i q d h1 h2).mono (LeF.less h) fun _ e => e⟩
/-- an object that only L knows becomes the store's next one -/
theorem LeF.grow {w : Wd} {p : Addr} (hl : p ∈ w.L) : LeF w ⟨w.mu ++ [p], w.L, w.H⟩ := ⟨fun i q h => by
  show (w.mu ++ [p])[i]? = some q
  rw [List.getElem?_append_left (List.getElem?_eq_some_iff.mp h).1]; exact h, fun q hq => .inl (by
    rcases List.mem_append.mp hq with z | z
    · rcases List.mem_append.mp z with z | z
      · exact List.mem_append_left _ z
      · have : q = p := by simpa using z
        subst this; exact List.mem_append_right _ hl
    · exact List.mem_append_right _ z), fun _ _ h _ => h, fun _ h => h⟩
theorem Le.grow {w0 w : Wd} {p : Addr} (e : Le w0 w) (hn : w0.H p = none) (hl : p ∈ w.L) : Le w0 ⟨w.mu ++ [p], w.L, w.H⟩ :=
  ⟨fun i q h => (LeF.grow hl).mu i q (e.mu i q h), fun q hq => by
    rcases List.mem_append.mp hq with z | z
    · exact e.new q z
    · have : q = p := by simpa using z
      subst this; exact .inr hn, fun q hq => by
    rcases (LeF.grow hl).F q hq with z | z
    · exact e.F q z
    · exact .inr (e.dom q z), e.keep, e.dom, e.hold⟩
theorem Sim.grow {C : Cf} {w : Wd} {S : Sto} (s : Sim C w S) {p : Addr} {d : D} (hp : p ∉ w.mu) (hl : p ∈ w.L) (o : ObjRep C w p d) : Sim C ⟨w.mu ++ [p], w.L, w.H⟩ (S ++ [d]) := by
  refine ⟨by simp [s.len], ?_, fun q hq => ?_, fun i q d' h1 h2 => ?_⟩
  · rw [List.nodup_append]
    exact ⟨s.nd, by simp, fun a ha b hb => by
      have : b = p := by simpa using hb
      subst this; rintro rfl; exact hp ha⟩
  · have h : q ∈ w.F := by
      rcases List.mem_append.mp hq with z | z
      · rcases List.mem_append.mp z with z | z
        · exact List.mem_append_left _ z
        · have : q = p := by simpa using z
          subst this; exact List.mem_append_right _ hl
      · exact List.mem_append_right _ z
    exact s.trk q h
  · have h1 : (w.mu ++ [p])[i]? = some q := h1
    by_cases hi : i < w.mu.length
    · rw [List.getElem?_append_left hi] at h1
      rw [List.getElem?_append_left (by rw [← s.len]; exact hi)] at h2
      exact (s.obj i q d' h1 h2).mono (LeF.grow hl) fun _ e => e
    · have e : i = w.mu.length := by
        have := (List.getElem?_eq_some_iff.mp h1).1
        simp at this; omega
      subst e
      rw [List.getElem?_append_right (Nat.le_refl _)] at h1
      rw [s.len, List.getElem?_append_right (Nat.le_refl _)] at h2
      simp at h1 h2
      subst h1; subst h2
      exact .of (o.mono (LeF.grow hl) fun _ e => e)
/-- an object that inline data does not use is changed -/
theorem LeF.chg {w : Wd} {p : Addr} {o u : HO} (hl : p ∈ w.F) (hu : w.H p = some u) : LeF w ⟨w.mu, w.L, upd w.H p o⟩ :=
  ⟨fun _ _ h => h, fun _ h => .inl h, fun q u h hq => by
    show upd w.H p o q = some u
    rw [upd_ne (by rintro rfl; exact hq hl)]; exact h, fun q h => by
    have h : upd w.H p o q = none := h
    by_cases e : q = p
    · subst e; rw [upd_same] at h; cases h
    · rw [upd_ne e] at h; exact h⟩
theorem Le.chg {w0 w : Wd} {p : Addr} {o : HO} (e : Le w0 w) (hn : w0.H p = none) : Le w0 ⟨w.mu, w.L, upd w.H p o⟩ :=
  ⟨e.mu, e.new, e.F, fun q u h hq => by
    show upd w.H p o q = some u
    rw [upd_ne (by rintro rfl; rw [hn] at h; cases h)]; exact e.keep q u h hq, fun q h => by
    have h : upd w.H p o q = none := h
    by_cases e' : q = p
    · subst e'; exact hn
    · rw [upd_ne e'] at h; exact e.dom q h, e.hold⟩
theorem Sim.chg {C : Cf} {w : Wd} {S : Sto} (s : Sim C w S) {p : Addr} {o u : HO} (hl : p ∈ w.L) (hm : p ∉ w.mu) (hu : w.H p = some u) : Sim C ⟨w.mu, w.L, upd w.H p o⟩ S := by
  refine ⟨s.len, s.nd, fun q hq => ?_, fun i q d h1 h2 => (s.obj i q d h1 h2).mono (LeF.chg (List.mem_append_right _ hl) hu) fun u e => ?_⟩
  · show ∃ u, upd w.H p o q = some u
    by_cases e : q = p
    · subst e; exact ⟨_, upd_same⟩
    · rw [upd_ne e]; exact s.trk q hq
  · show upd w.H p o q = some u
    rw [upd_ne]
    · exact e
    · rintro rfl; exact hm (List.mem_of_getElem? h1)
/-- the object of the store's i-th place is changed -/
theorem Le.put {w : Wd} {p : Addr} {o o' : HO} (hl : p ∈ w.mu) (hp : w.H p = some o) : Le w ⟨w.mu, w.L, upd w.H p o'⟩ :=
  ⟨fun _ _ h => h, fun _ h => .inl h, fun _ h => .inl h, fun q u h hq => by
    show upd w.H p o' q = some u
    rw [upd_ne (by rintro rfl; exact hq hl)]; exact h, fun q h => by
    have h : upd w.H p o' q = none := h
    by_cases e : q = p
    · subst e; rw [upd_same] at h; cases h
    · rw [upd_ne e] at h; exact h, fun _ h => h⟩
theorem Sim.put {C : Cf} {w : Wd} {S : Sto} (s : Sim C w S) {i : Nat} {p : Addr} {o o' : HO} {d : D} (hi : w.mu[i]? = some p) (hp : w.H p = some o) (ob : ObjRep C ⟨w.mu, w.L, upd w.H p o'⟩ p d) :
    Sim C ⟨w.mu, w.L, upd w.H p o'⟩ (S.set i d) := by
  have hl : p ∈ w.mu := List.mem_of_getElem? hi
  refine ⟨by simp [s.len], s.nd, fun q hq => ?_, fun j q d' h1 h2 => ?_⟩
  · show ∃ u, upd w.H p o' q = some u
    by_cases e : q = p
    · subst e; exact ⟨_, upd_same⟩
    · rw [upd_ne e]; exact s.trk q hq
  · have h1 : w.mu[j]? = some q := h1
    by_cases hj : i = j
    · subst hj
      rw [hi] at h1; cases h1
      have hlt : i < S.length := by rw [← s.len]; exact (List.getElem?_eq_some_iff.mp hi).1
      rw [List.getElem?_set_self hlt] at h2
      cases h2
      exact .of ob
    · rw [List.getElem?_set_ne hj] at h2
      refine (s.obj j q d' h1 h2).mono (Le.put hl hp).f fun u e => ?_
      show upd w.H p o' q = some u
      rw [upd_ne]
      · exact e
      · rintro rfl
        exact hj ((List.getElem_inj s.nd).mp ((List.getElem?_eq_some_iff.mp hi).2.trans (List.getElem?_eq_some_iff.mp h1).2.symm))
end HS
namespace HS
open PySem L2

abbrev cf (fa : String → Option Addr) (X : Cx) : Cf := ⟨X.prog, X.w, X.K, fa⟩
abbrev Ev := Env → Sto → Option (D × Sto)
abbrev EvA := Env → Sto → Option (List D × Sto)
abbrev EvB := Env → Sto → Option (Bool × Sto)
def SZ : Nat := 100000
theorem sz {n : Nat} (h : n ≤ SZ) : n ≤ sizeLine := Nat.le_trans h (by decide)
theorem sz_lt {n : Nat} (h : n < SZ) : n < sizeLine := Nat.lt_of_lt_of_le h (by decide)

/-- what is wanted of a value and a world -/
abbrev PM := Cf → Wd → D → Sto → VK → Prop
def Post : PM := fun C w d S Q => ∀ v w', Le w w' → Sim C w' S → Rep C w' d v → Q v w'.H
/-- .. of a new container that nothing else knows -/
def PostO : PM := fun C w d S Q => ∀ p w', Le w w' → Sim C w' S → w.H p = none → p ∈ w'.L → p ∉ w'.mu → ObjRep C w' p d → Q (.ref p) w'.H
class PmOk (M : PM) : Prop where
  mono : ∀ {C : Cf} {w w' : Wd} {d : D} {S : Sto} {Q : VK}, Le w w' → M C w d S Q → M C w' d S Q
instance : PmOk Post := ⟨fun e h v w' e' => h v w' (e.trans e')⟩
instance : PmOk PostO := ⟨fun e h p w' e' s n => h p w' (e.trans e') s (e.dom _ n)⟩
theorem Post.here {C : Cf} {w : Wd} {d : D} {S : Sto} {Q : VK} {v : V} (h : Post C w d S Q) (s : Sim C w S) (r : Rep C w d v) : Q v w.H := h v w (Le.refl w) s r
theorem Post.newTup {C : Cf} {w : Wd} {ds : List D} {vs : List V} {S : Sto} {Q : VK} {p : Addr} {o : Obj} (h : Post C w (.tup ds) S Q) (s : Sim C w S) (r : RepL C w ds vs) (hp : w.H p = none) (hd : o.dict = none) : Q (.ref p) (upd w.H p (.frz o (.tup vs))) :=
  h (.ref p) ⟨w.mu, w.L, upd w.H p (.frz o (.tup vs))⟩ (Le.new' hp) (s.new hp) (.tup upd_same hd (s.fresh hp) (r.mono (Le.new' hp).f))
theorem Post.newPr {C : Cf} {w : Wd} {ds : List D} {vs : List V} {S : Sto} {Q : VK} {p : Addr} (h : Post C w (.pr ds) S Q) (s : Sim C w S) (r : RepL C w ds vs) (hp : w.H p = none) : Q (.ref p) (upd w.H p (.tup vs)) :=
  h (.ref p) ⟨w.mu, w.L, upd w.H p (.tup vs)⟩ (Le.new' hp) (s.new hp) (.pr upd_same (s.fresh hp) (r.mono (Le.new' hp).f))
theorem Post.newLst {C : Cf} {w : Wd} {ds : List D} {vs : List V} {S : Sto} {Q : VK} {p : Addr} (h : Post C w (.lst ds) S Q) (s : Sim C w S) (r : RepL C w ds vs) (hp : w.H p = none) : Q (.ref p) (upd w.H p (.lst vs)) :=
  h (.ref p) ⟨w.mu, w.L, upd w.H p (.lst vs)⟩ (Le.new' hp) (s.new hp) (.lst upd_same (s.fresh hp) (r.mono (Le.new' hp).f))
theorem PostO.newLst {C : Cf} {w : Wd} {ds : List D} {vs : List V} {S : Sto} {Q : VK} {p : Addr} (h : PostO C w (.lst ds) S Q) (s : Sim C w S) (r : RepL C w ds vs) (hp : w.H p = none) : Q (.ref p) (upd w.H p (.lst vs)) :=
  h p ⟨w.mu, p :: w.L, upd w.H p (.lst vs)⟩ (Le.newL hp) (s.newL hp) hp List.mem_cons_self (s.freshm hp) ⟨vs, upd_same, r.mono (Le.newL hp).f⟩
/-- a list made here: inline, or to be owned -/
class PmList (M : PM) : Prop extends PmOk M where
  newLst : ∀ {C : Cf} {w : Wd} {ds : List D} {vs : List V} {S : Sto} {Q : VK} {p : Addr}, M C w (.lst ds) S Q → Sim C w S → RepL C w ds vs → w.H p = none → Q (.ref p) (upd w.H p (.lst vs))
instance : PmList Post := ⟨Post.newLst⟩
instance : PmList PostO := ⟨PostO.newLst⟩

structure SEm (fa : String → Option Addr) (M : PM) (X : Cx) (e : Expr) (f : Ev) : Prop where
  ex : ∃ t, PE X e t ∧ ∀ w σ η S d S', RepE (cf fa X) w η σ → Sim (cf fa X) w S → f η S = some (d, S') → ∀ Q : VK, M (cf fa X) w d S' Q → t σ w.H Q
abbrev SE (fa : String → Option Addr) := SEm fa Post
abbrev SO (fa : String → Option Addr) := SEm fa PostO
structure SA (fa : String → Option Addr) (X : Cx) (es : List Expr) (f : EvA) : Prop where
  ex : ∃ t, PA X es t ∧ ∀ w σ η S ds S', RepE (cf fa X) w η σ → Sim (cf fa X) w S → f η S = some (ds, S') → ∀ Q : List V → Hp → Prop, (∀ vs w', Le w w' → Sim (cf fa X) w' S' → RepL (cf fa X) w' ds vs → Q vs w'.H) → t σ w.H Q
structure ST (fa : String → Option Addr) (X : Cx) (e : Expr) (f : EvB) : Prop where
  ex : ∃ t, PT X e t ∧ ∀ w σ η S b S', RepE (cf fa X) w η σ → Sim (cf fa X) w S → f η S = some (b, S') → ∀ Q : Bool → Hp → Prop, (∀ w', Le w w' → Sim (cf fa X) w' S' → Q b w'.H) → t σ w.H Q
structure STw (fa : String → Option Addr) (X : Cx) (e : Expr) (f : EvB) : Prop where
  ex : ∃ t, PW X e t ∧ ∀ w σ η S b S', RepE (cf fa X) w η σ → Sim (cf fa X) w S → f η S = some (b, S') → ∀ Q : Bool → Hp → Prop, (∀ w', Le w w' → Sim (cf fa X) w' S' → Q b w'.H) → t σ w.H Q

section
variable {fa : String → Option Addr} {X : Cx} {M : PM} {a b e : Expr} {es : List Expr} {pos : Pos} {f g : Ev}
theorem bsome {α β : Type} {o : Option α} {k : α → Option β} {y : β} (h : o.bind k = some y) : ∃ x, o = some x ∧ k x = some y := Option.bind_eq_some_iff.mp h

/-- an own container, put into the store -/
def eAl (f : Ev) : Ev := fun η S => (f η S).bind fun p => some (.ref p.2.length, p.2 ++ [p.1])
theorem SEm.al (h : SO fa X e f) : SE fa X e (eAl f) := by
  obtain ⟨t, p, h⟩ := h.ex
  refine ⟨t, p, fun w σ η S d S' hη hS hf Q hQ => ?_⟩
  obtain ⟨⟨d1, S1⟩, h1, h2⟩ := bsome hf
  cases h2
  refine h w σ η S d1 S1 hη hS h1 Q fun p w' le s n hl hm o => ?_
  refine hQ (.ref p) ⟨w'.mu ++ [p], w'.L, w'.H⟩ (le.grow n hl) (s.grow hm hl o) (.ref ?_)
  show (w'.mu ++ [p])[S1.length]? = some p
  rw [← s.len, List.getElem?_append_right (Nat.le_refl _)]
  simp

def eVar (i : Nat) : Ev := fun η S => match η[i]? with
  | some (some d) => some (d, S)
  | _ => none
theorem se_var {i : Nat} (h : PE X e (tVar i)) : SE fa X e (eVar i) := ⟨tVar i, h, fun w σ η S d S' hη hS hf Q hQ => by
  unfold eVar at hf
  split at hf
  · rename_i d1 h1
    cases hf
    obtain ⟨v, h2, r⟩ := hη.2 i _ h1
    exact ⟨v, h2, hQ.here hS r⟩
  · cases hf⟩
theorem sv (i : Nat) {x : Str} {pos : Pos} (hN : X.N[i]? = some x := by rfl) (hv : Vis X.env.scope x := by first | exact Or.inl rfl | exact Or.inr (Or.inl rfl) | exact Or.inr (Or.inr rfl)) (hd : (x == ("__debug__" : Str)) = false := by decide)
    (hcd : (x == ("__classdict__" : Str)) = false := by decide) : SE fa X (.Name x pos) (eVar i) := se_var (pe_var hN hv hd hcd)
def eC (d : D) : Ev := fun _ S => some (d, S)
theorem se_c {d : D} {v : V} (h : PE X e (tC v)) (r : ∀ w, Rep (cf fa X) w d v) : SE fa X e (eC d) := ⟨tC v, h, fun w σ η S d' S' hη hS hf Q hQ => by
  cases hf
  exact hQ.here hS (r w)⟩
theorem se_int {i j pos} : SE fa X (.Constant (.int i) j pos) (eC (.int i)) := se_c pe_int fun _ => .int _
theorem se_bl {b j pos} : SE fa X (.Constant (.bool b) j pos) (eC (.bl b)) := se_c pe_bl fun _ => .bl _
theorem se_non {j pos} : SE fa X (.Constant .none j pos) (eC .non) := se_c pe_non fun _ => .non
theorem se_str {x j pos} : SE fa X (.Constant (.str x) j pos) (eC (.str x)) := se_c pe_str fun _ => .str _
/-- a built-in class, as a value -/
theorem se_ty {n : String} {x : Str} (hg : Gl X x) (hm : X.mg x = none) (hv : bootBuiltins x = some (.type n)) (hn : x ≠ "__name__" := by decide) (hd : (x == ("__debug__" : Str)) = false := by decide) : SE fa X (.Name x pos) (eC (.ty n)) :=
  se_c (pe_bltn (v := .ty n) hg hm hv rfl hn hd) fun _ => .ty n
/-- a constant of the module -/
theorem se_kstr {x y : Str} {t : Tok} (hg : Gl X x) (hm : X.mg x = some (.str y t)) (hd : (x == ("__debug__" : Str)) = false := by decide) : SE fa X (.Name x pos) (eC (.str y)) := se_c (pe_glob (v := .str y) hg hm ⟨t, rfl⟩ hd) fun _ => .str y

def aNil : EvA := fun _ S => some ([], S)
def aCons (f : Ev) (g : EvA) : EvA := fun η S => (f η S).bind fun p => (g η p.2).bind fun q => some (p.1 :: q.1, q.2)
theorem sa_nil : SA fa X [] aNil := ⟨tNil, pa_nil, fun w σ η S ds S' hη hS hf Q hQ => by
  cases hf
  exact hQ [] w (Le.refl w) hS .nil⟩
theorem sa_cons {h : EvA} (ha : SE fa X e f) (hr : SA fa X es h) (hs : starEach (e :: es) X.env = (false, eval e X.env) :: starEach es X.env := by rfl) : SA fa X (e :: es) (aCons f h) := by
  obtain ⟨t, p, ha⟩ := ha.ex
  obtain ⟨u, q, hr⟩ := hr.ex
  refine ⟨tCons t u, pa_cons p q hs, fun w σ η S ds S' hη hS hf Q hQ => ?_⟩
  obtain ⟨⟨d, S1⟩, h1, hf⟩ := bsome hf
  obtain ⟨⟨ds', S2⟩, h2, hf⟩ := bsome hf
  cases hf
  exact ha w σ η S d S1 hη hS h1 _ fun v w1 e1 s1 r1 => hr w1 σ η S1 ds' S2 (hη.mono e1.f) s1 h2 _ fun vs w2 e2 s2 r2 => hQ (v :: vs) w2 (e1.trans e2) s2 (.cons (r1.mono e2.f) r2)

def eTup (f : EvA) : Ev := fun η S => (f η S).bind fun p => some (.tup p.1, p.2)
def eLst (f : EvA) : Ev := fun η S => (f η S).bind fun p => some (.lst p.1, p.2)
def eTupG (f : EvA) : Ev := fun η S => (f η S).bind fun p => if p.1.length ≤ SZ then some (.tup p.1, p.2) else none
theorem SA.len {h : EvA} (ha : SA fa X es h) : True := trivial
/-- a new tuple whose object is known -/
theorem ep_tup {X : Cx} {pins : List (Addr × Obj)} {σ : L2.St} {H : Hp} {s : Shared} {h' : Heap} {t' : Nat} {a : Addr} {o : Obj} {xs : List V} {its : List Value} {Q : VK} (I : Inv X pins σ H s) (k : ∀ b u, s.heap.get? b = some u → h'.get? b = some u) (hp : s.heap.objs.size ≤ a) (e : h'.get? a = some o) (hd : o.dict = none)
    (z : xs.length ≤ sizeLine) (r : Vals xs its) (t : PyProof.Rows.IsTup h' a its.toArray) (q : ∀ p o, H p = none → o.dict = none → Q (.ref p) (upd H p (.frz o (.tup xs)))) : EP X pins σ Q (.ref a) { s with heap := h', toks := t' } :=
  ⟨.ref a, upd H a (.frz o (.tup xs)), I.laid k hp ⟨e, z, its, r, t⟩, rfl, q a o (I.hok.fresh hp) hd⟩
/-- (e, ..): the object of the tuple is known -/
def tTupF (t : TA) : TE := fun σ H Q => t σ H fun xs H1 => xs.length ≤ sizeLine ∧ ∀ p o, H1 p = none → o.dict = none → Q (.ref p) (upd H1 p (.frz o (.tup xs)))
theorem pe_tupF {x1} {t : TA} (h : PA X es t) : PE X (.Tuple es x1 pos) (tTupF t) := by
  refine ⟨fun pins s σ H Q I hq => wpAny_Tuple_spliced (thn (h.run pos pins s σ H _ I hq) fun us s1 ⟨xs, H1, I1, r, z, q⟩ => ⟨by rw [← r.length]; exact z, ?_⟩)⟩
  exact ep_tup (t' := s1.toks) I1 (fun b u e => Heap.get?_push_of_some _ e) (Nat.le_refl _) (Heap.get?_push_size _ rfl) rfl z r ⟨_, Heap.get?_push_size _ rfl, rfl, _, rfl⟩ q
theorem se_tup {h : EvA} {k : Nat} (ha : SA fa X es h) (hl : ∀ η S ds S', h η S = some (ds, S') → ds.length ≤ SZ) : SE fa X (.Tuple es k pos) (eTup h) := by
  obtain ⟨t, p, ha⟩ := ha.ex
  refine ⟨tTupF t, pe_tupF p, fun w σ η S d S' hη hS hf Q hQ => ?_⟩
  obtain ⟨⟨ds, S1⟩, h1, hf⟩ := bsome hf
  cases hf
  exact ha w σ η S ds S1 hη hS h1 _ fun vs w1 e1 s1 r1 => ⟨by rw [← r1.length]; exact sz (hl _ _ _ _ h1), fun p o hp hd => (PmOk.mono e1 hQ : Post _ _ _ _ _).newTup s1 r1 hp hd⟩
/-- (e, ..), to be used at once -/
def eTupP (f : EvA) : Ev := fun η S => (f η S).bind fun p => some (.pr p.1, p.2)
theorem se_tupP {h : EvA} {k : Nat} (ha : SA fa X es h) (hl : ∀ η S ds S', h η S = some (ds, S') → ds.length ≤ SZ) : SE fa X (.Tuple es k pos) (eTupP h) := by
  obtain ⟨t, p, ha⟩ := ha.ex
  refine ⟨tTup t, pe_tup p, fun w σ η S d S' hη hS hf Q hQ => ?_⟩
  obtain ⟨⟨ds, S1⟩, h1, hf⟩ := bsome hf
  cases hf
  exact ha w σ η S ds S1 hη hS h1 _ fun vs w1 e1 s1 r1 => ⟨by rw [← r1.length]; exact sz (hl _ _ _ _ h1), fun p hp => (PmOk.mono e1 hQ : Post _ _ _ _ _).newPr s1 r1 hp⟩
theorem se_lst [PmList M] {h : EvA} (ha : SA fa X es h) (hl : ∀ η S ds S', h η S = some (ds, S') → ds.length ≤ SZ) : SEm fa M X (.List es pos) (eLst h) := by
  obtain ⟨t, p, ha⟩ := ha.ex
  refine ⟨tLst t, pe_lst p, fun w σ η S d S' hη hS hf Q hQ => ?_⟩
  obtain ⟨⟨ds, S1⟩, h1, hf⟩ := bsome hf
  cases hf
  exact ha w σ η S ds S1 hη hS h1 _ fun vs w1 e1 s1 r1 => ⟨by rw [← r1.length]; exact sz (hl _ _ _ _ h1), fun p hp => PmList.newLst (PmOk.mono e1 hQ) s1 r1 hp⟩
theorem al_nil {n : Nat} : ∀ η S ds S', aNil η S = some (ds, S') → ds.length ≤ n := fun η S ds S' h => by cases h; exact Nat.zero_le _
theorem al_cons {n : Nat} {f : Ev} {g : EvA} (h : ∀ η S ds S', g η S = some (ds, S') → ds.length ≤ n) : ∀ η S ds S', aCons f g η S = some (ds, S') → ds.length ≤ n + 1 := fun η S ds S' hf => by
  obtain ⟨⟨d, S1⟩, h1, hf⟩ := bsome hf
  obtain ⟨⟨ds', S2⟩, h2, hf⟩ := bsome hf
  cases hf
  exact Nat.succ_le_succ (h _ _ _ _ h2)
theorem al_sz {n : Nat} {g : EvA} (hn : n ≤ SZ) (h : ∀ η S ds S', g η S = some (ds, S') → ds.length ≤ n) : ∀ η S ds S', g η S = some (ds, S') → ds.length ≤ SZ := fun η S ds S' hf => Nat.le_trans (h _ _ _ _ hf) hn

abbrev RD := D → D → Sto → Option (D × Sto)
def OpSem (M : PM) (C : Cf) (r : R2) (rD : RD) : Prop := ∀ w S a b x y d S', Sim C w S → Rep C w a x → Rep C w b y → rD a b S = some (d, S') → ∀ Q : VK, M C w d S' Q → r x y w.H Q
def eBin (rD : RD) (f g : Ev) : Ev := fun η S => (f η S).bind fun p => (g η p.2).bind fun q => rD p.1 q.1 q.2
theorem op_core [PmOk M] {r : R2} {rD : RD} {ta tb : TE} (sem : OpSem M (cf fa X) r rD)
    (ha : ∀ w σ η S d S', RepE (cf fa X) w η σ → Sim (cf fa X) w S → f η S = some (d, S') → ∀ Q : VK, Post (cf fa X) w d S' Q → ta σ w.H Q)
    (hb : ∀ w σ η S d S', RepE (cf fa X) w η σ → Sim (cf fa X) w S → g η S = some (d, S') → ∀ Q : VK, Post (cf fa X) w d S' Q → tb σ w.H Q) :
    ∀ w σ η S d S', RepE (cf fa X) w η σ → Sim (cf fa X) w S → eBin rD f g η S = some (d, S') → ∀ Q : VK, M (cf fa X) w d S' Q → tOp r ta tb σ w.H Q := by
  intro w σ η S d S' hη hS hf Q hQ
  obtain ⟨⟨d1, S1⟩, h1, hf⟩ := bsome hf
  obtain ⟨⟨d2, S2⟩, h2, hf⟩ := bsome hf
  exact ha w σ η S d1 S1 hη hS h1 _ fun x w1 e1 s1 r1 => hb w1 σ η S1 d2 S2 (hη.mono e1.f) s1 h2 _ fun y w2 e2 s2 r2 => sem w2 S2 d1 d2 x y d S' s2 (r1.mono e2.f) r2 hf Q (PmOk.mono (e1.trans e2) hQ)
theorem se_op [PmOk M] {op : Operator} {r : R2} {rD : RD} (ho : OpR X (binaryOp op) r) (sem : OpSem M (cf fa X) r rD) (ha : SE fa X a f) (hb : SE fa X b g) : SEm fa M X (.BinOp a op b pos) (eBin rD f g) := by
  obtain ⟨ta, pa, ha⟩ := ha.ex
  obtain ⟨tb, pb, hb⟩ := hb.ex
  exact ⟨tOp r ta tb, pe_op ho pa pb, op_core sem ha hb⟩
theorem se_cmp {op : CmpOp} {r : R2} {rD : RD} (ho : OpR X (compareOp op) r) (sem : OpSem Post (cf fa X) r rD) (ha : SE fa X a f) (hb : SE fa X b g) (hm : behindInMarks op b = false) : SE fa X (.Compare a [op] [b] pos) (eBin rD f g) := by
  obtain ⟨ta, pa, ha⟩ := ha.ex
  obtain ⟨tb, pb, hb⟩ := hb.ex
  exact ⟨tOp r ta tb, pe_cmpR ho pa pb hm, op_core sem ha hb⟩
/-- a value that is a bool, as a test -/
def tB (f : Ev) : EvB := fun η S => (f η S).bind fun p => match p.1 with
  | .bl b => some (b, p.2)
  | _ => none
theorem st_cmp {op : CmpOp} {r : R2} {rD : RD} (ho : OpR X (compareOp op) r) (sem : OpSem Post (cf fa X) r rD) (ha : SE fa X a f) (hb : SE fa X b g) (hm : behindInMarks op b = false) : ST fa X (.Compare a [op] [b] pos) (tB (eBin rD f g)) := by
  obtain ⟨ta, pa, ha⟩ := ha.ex
  obtain ⟨tb, pb, hb⟩ := hb.ex
  refine ⟨tTest (tOp r ta tb), pt_cmpR ho pa pb hm, fun w σ η S d S' hη hS hf Q hQ => ?_⟩
  obtain ⟨⟨d1, S1⟩, h1, hf⟩ := bsome hf
  cases d1 with
  | bl k =>
    cases hf
    exact op_core sem ha hb w σ η S _ _ hη hS h1 _ fun v w' e s r => by
      cases r
      exact ⟨_, rfl, hQ w' e s⟩
  | _ => cases hf
theorem st_val (h : SE fa X e f) (he : ∀ whole, isTrue e X.env whole = (do let v ← whole; standAt e.pos; holding [v] (truthy v)) := by intro _; rfl) : ST fa X e (tB f) := by
  obtain ⟨t, p, h⟩ := h.ex
  refine ⟨L2.tB t, pt_val p he, fun w σ η S d S' hη hS hf Q hQ => ?_⟩
  obtain ⟨⟨d1, S1⟩, h1, hf⟩ := bsome hf
  cases d1 with
  | bl k =>
    cases hf
    exact h w σ η S _ _ hη hS h1 _ fun v w' e s r => by
      cases r
      exact ⟨_, rfl, hQ w' e s⟩
  | _ => cases hf
variable {tf tg : EvB} {rest : List Expr}
def tAndE (f g : EvB) : EvB := fun η S => (f η S).bind fun p => if p.1 then g η p.2 else some (false, p.2)
def tOrE (f g : EvB) : EvB := fun η S => (f η S).bind fun p => if p.1 then some (true, p.2) else g η p.2
def tNotE (f : EvB) : EvB := fun η S => (f η S).bind fun p => some (!p.1, p.2)
theorem STw.st (h : STw fa X e tf) : ST fa X e tf := let ⟨t, p, h⟩ := h.ex; ⟨t, p.pt, h⟩
theorem sw_and1 (ha : ST fa X a tf) : STw fa X (.BoolOp .And [a] pos) tf := let ⟨t, p, h⟩ := ha.ex; ⟨t, pw_and1 p, h⟩
theorem sw_or1 (ha : ST fa X a tf) : STw fa X (.BoolOp .Or [a] pos) tf := let ⟨t, p, h⟩ := ha.ex; ⟨t, pw_or1 p, h⟩
theorem sw_and (ha : ST fa X a tf) (hb : STw fa X (.BoolOp .And (b :: rest) pos) tg) : STw fa X (.BoolOp .And (a :: b :: rest) pos) (tAndE tf tg) := by
  obtain ⟨t, p, ha⟩ := ha.ex
  obtain ⟨u, q, hb⟩ := hb.ex
  refine ⟨tAnd t u, pw_and p q, fun w σ η S d S' hη hS hf Q hQ => ?_⟩
  obtain ⟨⟨k, S1⟩, h1, hf⟩ := bsome hf
  refine ha w σ η S k S1 hη hS h1 _ fun w1 e1 s1 => ?_
  cases k with
  | true => exact hb w1 σ η S1 d S' (hη.mono e1.f) s1 (by simpa using hf) Q fun w2 e2 s2 => hQ w2 (e1.trans e2) s2
  | false =>
    simp only [Bool.false_eq_true, if_false] at hf ⊢
    cases hf
    exact hQ w1 e1 s1
theorem sw_or (ha : ST fa X a tf) (hb : STw fa X (.BoolOp .Or (b :: rest) pos) tg) : STw fa X (.BoolOp .Or (a :: b :: rest) pos) (tOrE tf tg) := by
  obtain ⟨t, p, ha⟩ := ha.ex
  obtain ⟨u, q, hb⟩ := hb.ex
  refine ⟨tOr t u, pw_or p q, fun w σ η S d S' hη hS hf Q hQ => ?_⟩
  obtain ⟨⟨k, S1⟩, h1, hf⟩ := bsome hf
  refine ha w σ η S k S1 hη hS h1 _ fun w1 e1 s1 => ?_
  cases k with
  | false => exact hb w1 σ η S1 d S' (hη.mono e1.f) s1 (by simpa using hf) Q fun w2 e2 s2 => hQ w2 (e1.trans e2) s2
  | true =>
    simp only [if_true] at hf ⊢
    cases hf
    exact hQ w1 e1 s1
theorem st_not (ha : ST fa X a tf) : ST fa X (.UnaryOp .Not a pos) (tNotE tf) := by
  obtain ⟨t, p, ha⟩ := ha.ex
  refine ⟨tNot t, pt_not p, fun w σ η S d S' hη hS hf Q hQ => ?_⟩
  obtain ⟨⟨k, S1⟩, h1, hf⟩ := bsome hf
  cases hf
  exact ha w σ η S k S1 hη hS h1 _ fun w1 e1 s1 => hQ w1 e1 s1
def eAnd (f g : Ev) : Ev := fun η S => (f η S).bind fun p => match p.1 with
  | .bl true => g η p.2
  | .bl false => some (.bl false, p.2)
  | _ => none
def eOr (f g : Ev) : Ev := fun η S => (f η S).bind fun p => match p.1 with
  | .bl false => g η p.2
  | .bl true => some (.bl true, p.2)
  | _ => none
def eNot (f : Ev) : Ev := fun η S => (f η S).bind fun p => match p.1 with
  | .bl b => some (.bl (!b), p.2)
  | _ => none
theorem se_one {op} (h : SE fa X a f) : SE fa X (.BoolOp op [a] pos) f := let ⟨t, p, h⟩ := h.ex; ⟨t, pe_one p, h⟩
theorem se_and (ha : SE fa X a f) (hb : SE fa X (.BoolOp .And (b :: rest) pos) g) : SE fa X (.BoolOp .And (a :: b :: rest) pos) (eAnd f g) := by
  obtain ⟨t, p, ha⟩ := ha.ex
  obtain ⟨u, q, hb⟩ := hb.ex
  refine ⟨tAndV t u, pe_and p q, fun w σ η S d S' hη hS hf Q hQ => ?_⟩
  obtain ⟨⟨k, S1⟩, h1, hf⟩ := bsome hf
  refine ha w σ η S k S1 hη hS h1 _ fun v w1 e1 s1 r1 => ?_
  cases k with
  | bl k =>
    cases r1
    cases k with
    | true => exact ⟨_, rfl, by rw [if_pos rfl]; exact hb w1 σ η S1 d S' (hη.mono e1.f) s1 hf Q (PmOk.mono e1 hQ)⟩
    | false =>
      cases hf
      exact ⟨_, rfl, by rw [if_neg (by decide)]; exact hQ _ w1 e1 s1 (.bl false)⟩
  | _ => cases hf
def eIf (c : EvB) (f g : Ev) : Ev := fun η S => (c η S).bind fun p => if p.1 then f η p.2 else g η p.2
theorem se_if [PmOk M] {c : Expr} (hc : ST fa X c tf) (ha : SEm fa M X a f) (hb : SEm fa M X b g) : SEm fa M X (.IfExp c a b pos) (eIf tf f g) := by
  obtain ⟨t, p, hc⟩ := hc.ex
  obtain ⟨ta, pa, ha⟩ := ha.ex
  obtain ⟨tb, pb, hb⟩ := hb.ex
  refine ⟨tIf t ta tb, pe_ifExp p pa pb, fun w σ η S d S' hη hS hf Q hQ => ?_⟩
  obtain ⟨⟨k, S1⟩, h1, hf⟩ := bsome hf
  refine hc w σ η S k S1 hη hS h1 _ fun w1 e1 s1 => ?_
  cases k with
  | true => exact ha w1 σ η S1 d S' (hη.mono e1.f) s1 (by simpa using hf) Q (PmOk.mono e1 hQ)
  | false => exact hb w1 σ η S1 d S' (hη.mono e1.f) s1 (by simpa using hf) Q (PmOk.mono e1 hQ)
end

theorem OpR.or {X : Cx} {f : Value → Value → Sem Value} {r r' : R2} (h : OpR X f r) (h' : OpR X f r') : OpR X f (fun x y H Q => r x y H Q ∨ r' x y H Q) := by
  intro pins s σ H x y v u Q I rx ry q
  rcases q with q | q
  · exact h pins s σ H x y v u Q I rx ry q
  · exact h' pins s σ H x y v u Q I rx ry q
end HS
namespace HS
open PySem L2

def lstOf (S : Sto) : D → Option (List D)
  | .lst xs => some xs
  | .ref i => match S[i]? with
    | some (.lst xs) => some xs
    | _ => none
  | _ => none
def seqOf (S : Sto) : D → Option (List D)
  | .tup xs => some xs
  | .scr xs => some xs
  | d => lstOf S d
section
variable {C : Cf} {w : Wd} {S : Sto} {d : D} {v : V} {xs : List D}
theorem Rep.lstH (s : Sim C w S) (r : Rep C w d v) (h : lstOf S d = some xs) : ∃ p vs, v = .ref p ∧ w.H p = some (.lst vs) ∧ RepL C w xs vs := by
  cases d with
  | lst ys =>
    cases h
    cases r with
    | lst e hp r => exact ⟨_, _, rfl, e, r⟩
  | ref i =>
    cases r with
    | ref hi =>
      simp only [lstOf] at h
      split at h
      · rename_i ys hy
        cases h
        obtain ⟨vs, e, r⟩ := s.obj i _ _ hi hy
        exact ⟨_, vs, rfl, e, r⟩
      · cases h
  | _ => cases h
/-- a list or a tuple, however it stands -/
theorem Rep.seqH (s : Sim C w S) (r : Rep C w d v) (h : seqOf S d = some xs) : ∃ p vs, v = .ref p ∧ (SqL C.K w.H p vs ∨ SqT C.K w.H p vs) ∧ RepL C w xs vs := by
  cases d with
  | tup ys =>
    cases h
    cases r with
    | tup e hd hp r => exact ⟨_, _, rfl, .inr (.inl (.inr ⟨_, e⟩)), r⟩
    | tupK e hd r => exact ⟨_, _, rfl, .inr (.inr e), r⟩
  | scr ys =>
    cases h
    cases r with
    | frz e hp r => exact ⟨_, _, rfl, .inl (.inl (.inr ⟨_, e⟩)), r⟩
    | scrK e r => exact ⟨_, _, rfl, .inl (.inr e), r⟩
  | lst ys =>
    obtain ⟨p, vs, e, h1, r⟩ := r.lstH s h
    exact ⟨p, vs, e, .inl (.inl (.inl h1)), r⟩
  | ref i =>
    obtain ⟨p, vs, e, h1, r⟩ := r.lstH s h
    exact ⟨p, vs, e, .inl (.inl (.inl h1)), r⟩
  | _ => cases h
theorem Rep.tupH (r : Rep C w (.tup xs) v) : ∃ p vs, v = .ref p ∧ SqT C.K w.H p vs ∧ RepL C w xs vs := by
  cases r with
  | tup e hd hp r => exact ⟨_, _, rfl, .inl (.inr ⟨_, e⟩), r⟩
  | tupK e hd r => exact ⟨_, _, rfl, .inr e, r⟩
end

def oI (g : Int → Int → Option D) : RD := fun a b S => match a, b with
  | .int i, .int j => (g i j).bind fun d => some (d, S)
  | _, _ => none
section
variable {C : Cf} {S S' : Sto} {d : D}
theorem oI_some {g : Int → Int → Option D} {a b : D} (h : oI g a b S = some (d, S')) : ∃ i j, a = .int i ∧ b = .int j ∧ g i j = some d ∧ S = S' := by
  unfold oI at h
  split at h
  · obtain ⟨x, h1, h2⟩ := bsome h
    cases h2
    exact ⟨_, _, rfl, rfl, h1, rfl⟩
  · cases h
theorem sem_I0 {g : Int → Int → V} {gd : Int → Int → D} (h : ∀ w i j, Rep C w (gd i j) (g i j)) : OpSem Post C (rI0 g) (oI fun i j => some (gd i j)) := by
  intro w S a b x y d S' hS ra rb hf Q hQ
  obtain ⟨i, j, rfl, rfl, h1, rfl⟩ := oI_some hf
  cases ra; cases rb; cases h1
  exact ⟨i, j, rfl, rfl, hQ.here hS (h w i j)⟩
theorem sem_I {Cn : Int → Int → Prop} {g : Int → Int → V} {gd : Int → Int → Option D} (h : ∀ w i j d, gd i j = some d → Cn i j ∧ Rep C w d (g i j)) : OpSem Post C (rI Cn g) (oI gd) := by
  intro w S a b x y d S' hS ra rb hf Q hQ
  obtain ⟨i, j, rfl, rfl, h1, rfl⟩ := oI_some hf
  cases ra; cases rb
  obtain ⟨c, r⟩ := h w i j d h1
  exact ⟨i, j, rfl, rfl, c, hQ.here hS r⟩
end
def smallI (i : Int) : Bool := decide (-(2 ^ 64) < i) && decide (i < 2 ^ 64)
def mulI (i j : Int) : Option D := if smallI i || smallI j || decide (i.natAbs.log2 + j.natAbs.log2 < 1000000) then some (.int (i * j)) else none
def modI (i j : Int) : Option D := if 0 < j then some (.int (i % j)) else none
def fdivI (i j : Int) : Option D := if 0 < j ∧ (j < 1073741824 ∨ j.natAbs.log2 < 9000) then some (.int (i / j)) else none
def powI (i j : Int) : Option D := if 0 ≤ j ∧ j ≤ 1000000 ∧ i.natAbs < 2 ^ 64 then some (.int (i ^ j.toNat)) else none
def shlI (i j : Int) : Option D := if 0 ≤ j ∧ (Builtin.Int.intBits i : Int) + j ≤ 2 ^ 27 then some (.int (i * 2 ^ j.toNat)) else none
def shrI (i j : Int) : Option D := if 0 ≤ j then some (.int (i / 2 ^ j.toNat)) else none

section
variable {fa : String → Option Addr} {X : Cx} {M : PM} {a b e : Expr} {es : List Expr} {pos : Pos} {f g : Ev}
def oSub : RD := oI fun i j => some (.int (i - j))
def oMod : RD := oI modI
def oFdiv : RD := oI fdivI
def oPow : RD := oI powI
def oShl : RD := oI shlI
def oShr : RD := oI shrI
def oBand : RD := oI fun i j => some (.int (Builtin.bitAnd i j))
def oBor : RD := oI fun i j => some (.int (Builtin.bitOr i j))
def oBxor : RD := oI fun i j => some (.int (Builtin.bitXor i j))
def oLt : RD := oI fun i j => some (.bl (decide (i < j)))
def oLe : RD := oI fun i j => some (.bl (decide (i ≤ j)))
def oGt : RD := oI fun i j => some (.bl (decide (j < i)))
def oGe : RD := oI fun i j => some (.bl (decide (j ≤ i)))
theorem se_sub (ha : SE fa X a f) (hb : SE fa X b g) : SE fa X (.BinOp a .Sub b pos) (eBin oSub f g) := se_op op_sub (sem_I0 fun _ _ _ => .int _) ha hb
theorem se_mod (ha : SE fa X a f) (hb : SE fa X b g) : SE fa X (.BinOp a .Mod b pos) (eBin oMod f g) := se_op op_mod (sem_I fun w i j d h => by
  unfold modI at h
  split at h
  · cases h; exact ⟨by assumption, .int _⟩
  · cases h) ha hb
theorem se_fdiv (ha : SE fa X a f) (hb : SE fa X b g) : SE fa X (.BinOp a .FloorDiv b pos) (eBin oFdiv f g) := by
  refine se_op (OpR.or op_fdiv op_fdivW) (fun w S a b x y d S' hS ra rb hf Q hQ => ?_) ha hb
  obtain ⟨i, j, rfl, rfl, h1, rfl⟩ := oI_some hf
  cases ra; cases rb
  unfold fdivI at h1
  split at h1
  · rename_i h2
    cases h1
    rcases h2.2 with h3 | h3
    · exact .inl ⟨i, j, rfl, rfl, ⟨h2.1, h3⟩, hQ.here hS (.int _)⟩
    · exact .inr ⟨i, j, rfl, rfl, ⟨h2.1, h3⟩, hQ.here hS (.int _)⟩
  · cases h1
theorem se_pow (ha : SE fa X a f) (hb : SE fa X b g) : SE fa X (.BinOp a .Pow b pos) (eBin oPow f g) := se_op op_pow (sem_I fun w i j d h => by
  unfold powI at h
  split at h
  · cases h; exact ⟨by assumption, .int _⟩
  · cases h) ha hb
theorem se_shl (ha : SE fa X a f) (hb : SE fa X b g) : SE fa X (.BinOp a .LShift b pos) (eBin oShl f g) := se_op op_shlW (sem_I fun w i j d h => by
  unfold shlI at h
  split at h
  · cases h; exact ⟨by assumption, .int _⟩
  · cases h) ha hb
theorem se_band (ha : SE fa X a f) (hb : SE fa X b g) : SE fa X (.BinOp a .BitAnd b pos) (eBin oBand f g) := se_op op_and (sem_I0 fun _ _ _ => .int _) ha hb
theorem se_bor (ha : SE fa X a f) (hb : SE fa X b g) : SE fa X (.BinOp a .BitOr b pos) (eBin oBor f g) := se_op op_or (sem_I0 fun _ _ _ => .int _) ha hb
theorem se_bxor (ha : SE fa X a f) (hb : SE fa X b g) : SE fa X (.BinOp a .BitXor b pos) (eBin oBxor f g) := se_op op_xor (sem_I0 fun _ _ _ => .int _) ha hb
theorem se_gt (ha : SE fa X a f) (hb : SE fa X b g) : SE fa X (.Compare a [.Gt] [b] pos) (eBin oGt f g) := se_cmp op_gt (sem_I0 fun _ _ _ => .bl _) ha hb (nomark _)
theorem st_lt (ha : SE fa X a f) (hb : SE fa X b g) : ST fa X (.Compare a [.Lt] [b] pos) (tB (eBin oLt f g)) := st_cmp op_lt (sem_I0 fun _ _ _ => .bl _) ha hb (nomark _)
theorem st_gt (ha : SE fa X a f) (hb : SE fa X b g) : ST fa X (.Compare a [.Gt] [b] pos) (tB (eBin oGt f g)) := st_cmp op_gt (sem_I0 fun _ _ _ => .bl _) ha hb (nomark _)
theorem st_ge (ha : SE fa X a f) (hb : SE fa X b g) : ST fa X (.Compare a [.GtE] [b] pos) (tB (eBin oGe f g)) := st_cmp op_ge (sem_I0 fun _ _ _ => .bl _) ha hb (nomark _)

def eUn (g : Int → Int) (f : Ev) : Ev := fun η S => (f η S).bind fun p => match p.1 with
  | .int i => some (.int (g i), p.2)
  | _ => none
theorem se_un {op : UnaryOp} {h : Int → Int} (ho : UnR X (unaryOp op) (rU fun i => .int (h i))) (ha : SE fa X a f) : SE fa X (.UnaryOp op a pos) (eUn h f) := by
  obtain ⟨t, p, ha⟩ := ha.ex
  refine ⟨tUn _ t, pe_un ho p, fun w σ η S d S' hη hS hf Q hQ => ?_⟩
  obtain ⟨⟨k, S1⟩, h1, hf⟩ := bsome hf
  refine ha w σ η S k S1 hη hS h1 _ fun v w1 e1 s1 r1 => ?_
  cases k with
  | int i =>
    cases r1
    cases hf
    exact ⟨i, rfl, hQ _ w1 e1 s1 (.int _)⟩
  | _ => cases hf
theorem se_neg (ha : SE fa X a f) : SE fa X (.UnaryOp .USub a pos) (eUn (fun i => -i) f) := se_un un_neg ha
def catL (S : Sto) (a b : D) : Option (List D) := (lstOf S a).bind fun xs => (lstOf S b).bind fun ys => if xs.length + ys.length ≤ SZ then some (xs ++ ys) else none
def oCat : RD := fun a b S => (catL S a b).bind fun zs => some (.lst zs, S)
def oAdd : RD := fun a b S => match a, b with
  | .int i, .int j => some (.int (i + j), S)
  | .str x, .str y => if x.length + y.length ≤ SZ then some (.str (x ++ y), S) else none
  | .tup xs, .tup ys => if xs.length + ys.length ≤ SZ then some (.tup (xs ++ ys), S) else none
  | _, _ => oCat a b S
theorem sem_cat [PmList M] {C : Cf} : OpSem M C rCat oCat := by
  intro w S a b x y d S' hS ra rb hf Q hQ
  obtain ⟨zs, h0, h2⟩ := bsome hf
  cases h2
  obtain ⟨xs, h1, h5⟩ := bsome h0
  obtain ⟨ys, h2, h3⟩ := bsome h5
  split at h3
  · rename_i hz
    cases h3
    obtain ⟨p, vs, rfl, e1, r1⟩ := ra.lstH hS h1
    obtain ⟨q, us, rfl, e2, r2⟩ := rb.lstH hS h2
    exact ⟨p, q, vs, us, rfl, rfl, e1, e2, by rw [← r1.length, ← r2.length]; exact sz hz, fun l hl => PmList.newLst hQ hS (r1.append r2) hl⟩
  · cases h3
/-- t + u: the object of a new tuple is known -/
def rCatF (K : PySem.W.Frag) : R2 := fun x y H Q => ∃ a b xs ys, x = .ref a ∧ y = .ref b ∧ SqT K H a xs ∧ SqT K H b ys ∧ xs.length + ys.length ≤ sizeLine ∧
  (xs = [] → Q (.ref b) H) ∧ (xs ≠ [] → ys = [] → Q (.ref a) H) ∧ (xs ≠ [] → ys ≠ [] → ∀ p o, H p = none → o.dict = none → Q (.ref p) (upd H p (.frz o (.tup (xs ++ ys)))))
theorem op_catF : OpR X (binaryOp .Add) (rCatF X.K) := by
  intro pins s σ H x y v u Q I rx ry ⟨a, b, xs, ys, ex, ey, ha, hb, hz, q0, q1, q2⟩
  subst ex; subst ey
  by_cases hx : xs = []
  · exact op_catA pins s σ H _ _ v u Q I rx ry ⟨a, b, xs, ys, rfl, rfl, ha, hb, hz, q0, fun z => absurd hx z, fun z => absurd hx z⟩
  · by_cases hy : ys = []
    · exact op_catA pins s σ H _ _ v u Q I rx ry ⟨a, b, xs, ys, rfl, rfl, ha, hb, hz, fun z => absurd z hx, q1, fun _ z => absurd hy z⟩
    · cases rx; cases ry
      obtain ⟨its, r1, p1, _⟩ := I.tuple ha
      obtain ⟨its2, r2, p2, _⟩ := I.tuple hb
      refine HT.cat_tup p1 p2 (fun z => hx (r1.nil_iff.mp z)) (fun z => absurd (r2.nil_iff.mp z) hy) (fun z => ?_) (by rw [← r1.length, ← r2.length]; exact hz)
      exact ep_tup (t' := s.toks) I (fun b ob q => Heap.get?_push_of_some _ q) (Nat.le_refl _) (Heap.get?_push_size _ rfl) rfl (by rw [List.length_append]; exact hz) (r1.append r2) (PyProof.Rows.IsTup.new _ _) (q2 hx hy)
theorem se_add (ha : SE fa X a f) (hb : SE fa X b g) : SE fa X (.BinOp a .Add b pos) (eBin oAdd f g) := by
  refine se_op (OpR.or op_add (OpR.or op_add_str (OpR.or op_catF op_cat))) (fun w S a b x y d S' hS ra rb hf Q hQ => ?_) ha hb
  unfold oAdd at hf
  split at hf
  · cases hf; cases ra; cases rb
    exact .inl ⟨_, _, rfl, rfl, hQ.here hS (.int _)⟩
  · split at hf
    · rename_i hz
      cases hf; cases ra; cases rb
      exact .inr (.inl ⟨_, _, rfl, rfl, sz hz, hQ.here hS (.str _)⟩)
    · cases hf
  · split at hf
    · rename_i hz
      cases hf
      obtain ⟨p, vs, rfl, e1, r1⟩ := ra.tupH
      obtain ⟨q, us, rfl, e2, r2⟩ := rb.tupH
      refine .inr (.inr (.inl ⟨p, q, vs, us, rfl, rfl, e1, e2, by rw [← r1.length, ← r2.length]; exact sz hz, fun hv => ?_, fun hv hu => ?_, fun hv hu l o hl hd => Post.newTup hQ hS (r1.append r2) hl hd⟩))
      · subst hv
        cases r1
        exact hQ.here hS rb
      · subst hu
        cases r2
        rw [List.append_nil] at hQ
        exact hQ.here hS ra
    · cases hf
  · exact .inr (.inr (.inr (sem_cat (M := Post) w S a b x y d S' hS ra rb hf Q hQ)))

def repS (x : Str) (n : Nat) : Str := ⟨(List.replicate n x.cps.toList).flatten.toArray⟩
theorem foldl_app (xs : Array Nat) : ∀ (m : Nat) (acc : List Nat), (List.replicate m xs).foldl (· ++ ·) acc.toArray = (acc ++ (List.replicate m xs.toList).flatten).toArray
  | 0, acc => by simp
  | m + 1, acc => by
    rw [List.replicate_succ, List.foldl_cons, List.replicate_succ, List.flatten_cons]
    have e : acc.toArray ++ xs = (acc ++ xs.toList).toArray := by simp
    rw [e, foldl_app xs m]
    simp
theorem op_mulS : OpR X (binaryOp .Mult) (fun x y H Q => ∃ (z : Str) (n : Int), x = .str z ∧ y = .int n ∧ 1 ≤ z.length ∧ z.length ≤ 1000 ∧ 2 ≤ n ∧ n ≤ 1000 ∧ Q (.str (repS z n.toNat)) H) := by
  intro pins s σ H x y v u Q I rx ry h
  obtain ⟨z, n, rfl, rfl, h0, h1, h2, h3, q⟩ := h
  obtain ⟨t, rfl⟩ := rx
  obtain ⟨t', rfl⟩ := ry
  have hd : (2 : Int) ^ 63 - 1 = 9223372036854775807 := by decide
  have hp : (2 : Int) ^ 63 = 9223372036854775808 := by decide
  have hl : z.length * n.toNat ≤ 1000 * 1000 := Nat.mul_le_mul h1 (by omega)
  have hnb : (n == 1 || z.length == 0) = false := by
    rw [Bool.or_eq_false_iff]
    exact ⟨beq_eq_false_iff_ne.mpr (by omega), beq_eq_false_iff_ne.mpr (by omega)⟩
  have htl : Builtin.Str.tooLong (z.length * n.toNat) = false := by
    have h6 : z.length * n.toNat ≤ sizeLine := Nat.le_trans hl (by decide)
    unfold Builtin.Str.tooLong
    rw [decide_eq_false_iff_not]
    omega
  refine P.mul_str ?_ (fun _ _ => ?_) (fun _ _ => htl) ?_
  · rw [Bool.or_eq_false_iff]
    exact ⟨decide_eq_false (by omega), decide_eq_false (by omega)⟩
  · rw [hd]
    have h5 : (1000 : Int) ≤ 9223372036854775807 / n := by
      rw [Int.le_ediv_iff_mul_le (by omega)]
      omega
    omega
  · rw [if_neg (by omega), if_neg (by rw [hnb]; decide)]
    have e : (⟨(List.replicate n.toNat z.cps).foldl (· ++ ·) #[]⟩ : Str) = repS z n.toNat := by
      unfold repS
      have := foldl_app z.cps n.toNat []
      rw [List.nil_append] at this
      exact congrArg Str.mk this
    rw [e]
    refine ⟨?_, .str (repS z n.toNat), H, I.tok _, ⟨_, rfl⟩, q⟩
    have : (repS z n.toNat).length = z.length * n.toNat := by
      unfold repS
      show ((List.replicate n.toNat z.cps.toList).flatten.toArray).size = _
      simp [List.length_flatten]
      exact Nat.mul_comm _ _
    rw [this]
    exact Nat.le_trans hl (by decide)
end
end HS
namespace HS
open PySem L2
section
variable {fa : String → Option Addr} {X : Cx} {M : PM} {a b e : Expr} {es : List Expr} {pos : Pos} {f g : Ev}
def oRep : RD := fun a b S => match b with
  | .int k => (lstOf S a).bind fun xs => if -(2 ^ 63) ≤ k ∧ k < 2 ^ 63 ∧ xs.length * k.toNat ≤ SZ then some (.lst (List.replicate k.toNat xs).flatten, S) else none
  | _ => none
def oMul : RD := fun a b S => match a, b with
  | .int i, .int j => (mulI i j).bind fun d => some (d, S)
  | .str x, .int n => if 1 ≤ x.length ∧ x.length ≤ 1000 ∧ 2 ≤ n ∧ n ≤ 1000 then some (.str (repS x n.toNat), S) else none
  | _, _ => oRep a b S
theorem RepL.rep {C : Cf} {w : Wd} {ds : List D} {vs : List V} (r : RepL C w ds vs) : ∀ n : Nat, RepL C w (List.replicate n ds).flatten (List.replicate n vs).flatten
  | 0 => .nil
  | n + 1 => by
    rw [List.replicate_succ, List.replicate_succ, List.flatten_cons, List.flatten_cons]
    exact r.append (RepL.rep r n)
theorem sem_rep [PmList M] {C : Cf} : OpSem M C rRep oRep := by
  intro w S a b x y d S' hS ra rb hf Q hQ
  unfold oRep at hf
  split at hf
  · obtain ⟨xs, h1, h2⟩ := bsome hf
    split at h2
    · rename_i h3
      cases h2
      obtain ⟨p, vs, rfl, e1, r1⟩ := ra.lstH hS h1
      cases rb
      exact ⟨p, _, vs, rfl, rfl, e1, h3.1, h3.2.1, by rw [← r1.length]; exact sz h3.2.2, fun l hl => PmList.newLst hQ hS (r1.rep _) hl⟩
    · cases h2
  · cases hf
theorem se_mul (ha : SE fa X a f) (hb : SE fa X b g) : SE fa X (.BinOp a .Mult b pos) (eBin oMul f g) := by
  refine se_op (OpR.or (OpR.or op_mul op_mulW) (OpR.or op_mulS (OpR.or op_repT op_rep))) (fun w S a b x y d S' hS ra rb hf Q hQ => ?_) ha hb
  unfold oMul at hf
  split at hf
  · obtain ⟨z, h1, h2⟩ := bsome hf
    cases h2; cases ra; cases rb
    unfold mulI at h1
    split at h1
    · rename_i h3
      cases h1
      unfold smallI at h3
      simp only [Bool.or_eq_true, Bool.and_eq_true, decide_eq_true_eq] at h3
      rcases h3 with (h3 | h3) | h3
      · exact .inl (.inl ⟨_, _, rfl, rfl, .inl h3, hQ.here hS (.int _)⟩)
      · exact .inl (.inl ⟨_, _, rfl, rfl, .inr h3, hQ.here hS (.int _)⟩)
      · exact .inl (.inr ⟨_, _, rfl, rfl, h3, hQ.here hS (.int _)⟩)
    · cases h1
  · split at hf
    · rename_i h3
      cases hf; cases ra; cases rb
      exact .inr (.inl ⟨_, _, rfl, rfl, h3.1, h3.2.1, h3.2.2.1, h3.2.2.2, hQ.here hS (.str _)⟩)
    · cases hf
  · exact .inr (.inr (.inr (sem_rep (M := Post) w S a b x y d S' hS ra rb hf Q hQ)))

mutual
def pyD (S : Sto) : D → Option PyData
  | .non => some .none
  | .bl b => some (.bool b)
  | .int i => some (.int i)
  | .str x => some (.str x)
  | .tup xs => (pyAll S xs).map .tuple
  | .lst xs => (pyAll S xs).map .list
  | _ => none
def pyAll (S : Sto) : List D → Option (List PyData)
  | [] => some []
  | x :: xs => (pyD S x).bind fun d => (pyAll S xs).map fun ds => d :: ds
end
/-- .. where a mutable list of data is read as one -/
def pyR (S : Sto) (d : D) : Option PyData := match d with
  | .ref i => match S[i]? with
    | some (.lst xs) => pyD S (.lst xs)
    | _ => none
  | d => pyD S d
theorem repL_dp {C : Cf} {w : Wd} {S : Sto} : ∀ {ds : List D} {vs : List V} {ps : List PyData}, (∀ d ∈ ds, ∀ v p, Rep C w d v → pyD S d = some p → Dp C.K w.H v p) → RepL C w ds vs → pyAll S ds = some ps → DpAll C.K w.H vs ps
  | [], _, _, _, .nil, h => by
    rw [pyAll] at h
    cases h
    exact .nil
  | d :: ds, _, _, ih, .cons r rs, h => by
    rw [pyAll] at h
    obtain ⟨p, h1, h2⟩ := bsome h
    obtain ⟨qs, h3, h4⟩ := Option.map_eq_some_iff.mp h2
    cases h4
    exact .cons (ih d List.mem_cons_self _ _ r h1) (repL_dp (fun d' hd => ih d' (List.mem_cons_of_mem _ hd)) rs h3)
theorem rep_dp {C : Cf} {w : Wd} {S : Sto} : ∀ (d : D) (v : V) (p : PyData), Rep C w d v → pyD S d = some p → Dp C.K w.H v p
  | .non, _, _, r, h => by cases r; rw [pyD] at h; cases h; exact .non
  | .bl _, _, _, r, h => by cases r; rw [pyD] at h; cases h; exact .bl _
  | .int _, _, _, r, h => by cases r; rw [pyD] at h; cases h; exact .int _
  | .str _, _, _, r, h => by cases r; rw [pyD] at h; cases h; exact .str _
  | .tup xs, _, _, r, h => by
    rw [pyD] at h
    obtain ⟨qs, h1, h2⟩ := Option.map_eq_some_iff.mp h
    cases h2
    obtain ⟨p, vs, rfl, hs, r⟩ := r.tupH
    exact .tup hs (repL_dp (fun d hd v p r h => rep_dp d v p r h) r h1)
  | .lst xs, _, _, r, h => by
    rw [pyD] at h
    obtain ⟨qs, h1, h2⟩ := Option.map_eq_some_iff.mp h
    cases h2
    cases r with
    | lst e hp r => exact .lst (.inl (.inl e)) (repL_dp (fun d hd v p r h => rep_dp d v p r h) r h1)
  | .scr _, _, _, _, h => by simp [pyD] at h
  | .dic _, _, _, _, h => by simp [pyD] at h
  | .ins _ _, _, _, _, h => by simp [pyD] at h
  | .ref _, _, _, _, h => by simp [pyD] at h
  | .fn _, _, _, _, h => by simp [pyD] at h
  | .ty _, _, _, _, h => by simp [pyD] at h
  | .pr _, _, _, _, h => by simp [pyD] at h
theorem Rep.dp {C : Cf} {w : Wd} {S : Sto} {d : D} {v : V} {p : PyData} (s : Sim C w S) (r : Rep C w d v) (h : pyR S d = some p) : Dp C.K w.H v p := by
  unfold pyR at h
  split at h
  · rename_i i
    cases r with
    | ref hi =>
      split at h
      · rename_i xs hx
        rw [pyD] at h
        obtain ⟨qs, h1, h2⟩ := Option.map_eq_some_iff.mp h
        cases h2
        obtain ⟨vs, e, r⟩ := s.obj i _ _ hi hx
        exact .lst (.inl (.inl e)) (repL_dp (fun d hd v p r h => rep_dp d v p r h) r h1)
      · cases h
  · exact rep_dp _ _ _ r h
def eqP (S : Sto) (a b : D) : Option Bool := (pyR S a).bind fun p => (pyR S b).bind fun q => if SeqAt.shaped p && SeqAt.shaped q then some (PyData.eqv p q) else none
def oEq : RD := fun a b S => (eqP S a b).bind fun k => some (.bl k, S)
def oNe : RD := fun a b S => (eqP S a b).bind fun k => some (.bl (!k), S)
theorem sem_eq {C : Cf} : OpSem Post C (rEqD C.K) oEq := by
  intro w S a b x y d S' hS ra rb hf Q hQ
  obtain ⟨k, h0, h2⟩ := bsome hf
  cases h2
  obtain ⟨p, h1, h2⟩ := bsome h0
  obtain ⟨q, h3, h4⟩ := bsome h2
  split at h4
  · rename_i h5
    cases h4
    rw [Bool.and_eq_true] at h5
    exact ⟨p, q, ra.dp hS h1, rb.dp hS h3, h5.1, h5.2, hQ.here hS (.bl _)⟩
  · cases h4
theorem sem_ne {C : Cf} : OpSem Post C (rNeD C.K) oNe := by
  intro w S a b x y d S' hS ra rb hf Q hQ
  obtain ⟨k, h0, h2⟩ := bsome hf
  cases h2
  obtain ⟨p, h1, h2⟩ := bsome h0
  obtain ⟨q, h3, h4⟩ := bsome h2
  split at h4
  · rename_i h5
    cases h4
    rw [Bool.and_eq_true] at h5
    exact ⟨p, q, ra.dp hS h1, rb.dp hS h3, h5.1, h5.2, hQ.here hS (.bl _)⟩
  · cases h4
theorem room64 {k : Nat} {A : Around} (hr : Room k A) : A.units + 64 < cLine := by have := hr.un; omega
theorem room65 {k : Nat} {A : Around} (hr : Room k A) : A.units + 65 < cLine := by have := hr.un; omega
variable {k : Nat} (hr : Room k X.A)
include hr
theorem se_eq (ha : SE fa X a f) (hb : SE fa X b g) : SE fa X (.Compare a [.Eq] [b] pos) (eBin oEq f g) := se_cmp (op_eqD (room64 hr)) sem_eq ha hb (nomark _)
theorem se_ne (ha : SE fa X a f) (hb : SE fa X b g) : SE fa X (.Compare a [.NotEq] [b] pos) (eBin oNe f g) := se_cmp (op_neD (room64 hr)) sem_ne ha hb (nomark _)
theorem st_eq (ha : SE fa X a f) (hb : SE fa X b g) : ST fa X (.Compare a [.Eq] [b] pos) (tB (eBin oEq f g)) := st_cmp (op_eqD (room64 hr)) sem_eq ha hb (nomark _)
theorem st_ne (ha : SE fa X a f) (hb : SE fa X b g) : ST fa X (.Compare a [.NotEq] [b] pos) (tB (eBin oNe f g)) := st_cmp (op_neD (room64 hr)) sem_ne ha hb (nomark _)
omit hr
def rInT (K : PySem.W.Frag) : R2 := fun x y H Q => ∃ d ds, Dp K H x d ∧ Dp K H y (.tuple ds) ∧ SeqAt.shaped d = true ∧ SeqAt.shaped (.tuple ds) = true ∧ Q (.bl (ds.any fun z => PyData.eqv z d)) H
def rNotInT (K : PySem.W.Frag) : R2 := fun x y H Q => ∃ d ds, Dp K H x d ∧ Dp K H y (.tuple ds) ∧ SeqAt.shaped d = true ∧ SeqAt.shaped (.tuple ds) = true ∧ Q (.bl (!ds.any fun z => PyData.eqv z d)) H
theorem op_inT (hu : X.A.units + 65 < cLine) : OpR X (compareOp .In) (rInT X.K) := by
  intro pins s σ H x y v u Q I rx ry h
  obtain ⟨d, ds, hd, he, sd, se, q⟩ := h
  obtain ⟨as, r1⟩ := Dp.reads I d x v hd rx
  obtain ⟨bs, r2⟩ := Dp.reads I (.tuple ds) y u he ry
  exact SeqAt.in_tuple_reads r2 r1 (SeqAt.canLay_of_shaped se) (SeqAt.canLay_of_shaped sd) (PyProof.Rows.room_in_shaped sd hu) ⟨.bl _, H, I, rfl, q⟩
theorem op_notInT (hu : X.A.units + 65 < cLine) : OpR X (compareOp .NotIn) (rNotInT X.K) := by
  intro pins s σ H x y v u Q I rx ry h
  obtain ⟨d, ds, hd, he, sd, se, q⟩ := h
  obtain ⟨as, r1⟩ := Dp.reads I d x v hd rx
  obtain ⟨bs, r2⟩ := Dp.reads I (.tuple ds) y u he ry
  exact SeqAt.notIn_tuple_reads r2 r1 (SeqAt.canLay_of_shaped se) (SeqAt.canLay_of_shaped sd) (PyProof.Rows.room_in_shaped sd hu) ⟨.bl _, H, I, rfl, q⟩
def inP (S : Sto) (a b : D) : Option Bool := (pyR S a).bind fun d => (pyR S b).bind fun q => match q with
  | .list ds => if SeqAt.shaped d && SeqAt.shaped (.list ds) then some (ds.any fun z => PyData.eqv z d) else none
  | .tuple ds => if SeqAt.shaped d && SeqAt.shaped (.tuple ds) then some (ds.any fun z => PyData.eqv z d) else none
  | _ => none
def oIn : RD := fun a b S => (inP S a b).bind fun k => some (.bl k, S)
def oNotIn : RD := fun a b S => (inP S a b).bind fun k => some (.bl (!k), S)
theorem sem_in {C : Cf} : OpSem Post C (fun x y H Q => rInD C.K x y H Q ∨ rInT C.K x y H Q) oIn := by
  intro w S a b x y d S' hS ra rb hf Q hQ
  obtain ⟨k, h0, h2⟩ := bsome hf
  cases h2
  obtain ⟨p, h1, h2⟩ := bsome h0
  obtain ⟨q, h3, h4⟩ := bsome h2
  split at h4
  · split at h4
    · rename_i h5
      cases h4
      rw [Bool.and_eq_true] at h5
      exact .inl ⟨p, _, ra.dp hS h1, rb.dp hS h3, h5.1, h5.2, hQ.here hS (.bl _)⟩
    · cases h4
  · split at h4
    · rename_i h5
      cases h4
      rw [Bool.and_eq_true] at h5
      exact .inr ⟨p, _, ra.dp hS h1, rb.dp hS h3, h5.1, h5.2, hQ.here hS (.bl _)⟩
    · cases h4
  · cases h4
theorem sem_notIn {C : Cf} : OpSem Post C (fun x y H Q => rNotInD C.K x y H Q ∨ rNotInT C.K x y H Q) oNotIn := by
  intro w S a b x y d S' hS ra rb hf Q hQ
  obtain ⟨k, h0, h2⟩ := bsome hf
  cases h2
  obtain ⟨p, h1, h2⟩ := bsome h0
  obtain ⟨q, h3, h4⟩ := bsome h2
  split at h4
  · split at h4
    · rename_i h5
      cases h4
      rw [Bool.and_eq_true] at h5
      exact .inl ⟨p, _, ra.dp hS h1, rb.dp hS h3, h5.1, h5.2, hQ.here hS (.bl _)⟩
    · cases h4
  · split at h4
    · rename_i h5
      cases h4
      rw [Bool.and_eq_true] at h5
      exact .inr ⟨p, _, ra.dp hS h1, rb.dp hS h3, h5.1, h5.2, hQ.here hS (.bl _)⟩
    · cases h4
  · cases h4
include hr
theorem se_in (ha : SE fa X a f) (hb : SE fa X b g) (hm : behindInMarks .In b = false := by rfl) : SE fa X (.Compare a [.In] [b] pos) (eBin oIn f g) := se_cmp (OpR.or (op_inD (room65 hr)) (op_inT (room65 hr))) sem_in ha hb hm
theorem se_notIn (ha : SE fa X a f) (hb : SE fa X b g) (hm : behindInMarks .NotIn b = false := by rfl) : SE fa X (.Compare a [.NotIn] [b] pos) (eBin oNotIn f g) := se_cmp (OpR.or (op_notInD (room65 hr)) (op_notInT (room65 hr))) sem_notIn ha hb hm
theorem st_in (ha : SE fa X a f) (hb : SE fa X b g) (hm : behindInMarks .In b = false := by rfl) : ST fa X (.Compare a [.In] [b] pos) (tB (eBin oIn f g)) := st_cmp (OpR.or (op_inD (room65 hr)) (op_inT (room65 hr))) sem_in ha hb hm
theorem st_notIn (ha : SE fa X a f) (hb : SE fa X b g) (hm : behindInMarks .NotIn b = false := by rfl) : ST fa X (.Compare a [.NotIn] [b] pos) (tB (eBin oNotIn f g)) := st_cmp (OpR.or (op_notInD (room65 hr)) (op_notInT (room65 hr))) sem_notIn ha hb hm
omit hr

def isNon : D → Bool
  | .non => true
  | _ => false
theorem Rep.isNon {C : Cf} {w : Wd} {d : D} {v : V} (r : Rep C w d v) : decide (v = .non) = HS.isNon d := by
  cases r <;> simp [HS.isNon]
def oIs : RD := fun a b S => match b with
  | .non => some (.bl (isNon a), S)
  | _ => none
def oIsNot : RD := fun a b S => match b with
  | .non => some (.bl (!isNon a), S)
  | _ => none
theorem se_is (ha : SE fa X a f) (hb : SE fa X b g) : SE fa X (.Compare a [.Is] [b] pos) (eBin oIs f g) := se_cmp op_isN (fun w S a b x y d S' hS ra rb hf Q hQ => by
  unfold oIs at hf
  split at hf
  · cases hf; cases rb
    exact ⟨rfl, by rw [ra.isNon]; exact hQ.here hS (.bl _)⟩
  · cases hf) ha hb (nomark _)
def oIx : RD := fun a b S => match a, b with
  | .str x, .int i => if x.length ≤ SZ then (atI x.cps.toList i).bind fun c => some (.str ⟨#[c]⟩, S) else none
  | a, .int i => (seqOf S a).bind fun xs => (atI xs i).bind fun d => some (d, S)
  | _, _ => none
theorem RepL.atI {C : Cf} {w : Wd} {ds : List D} {vs : List V} {i : Int} {d : D} (r : RepL C w ds vs) (h : L2.atI ds i = some d) : ∃ v, L2.atI vs i = some v ∧ Rep C w d v := by
  unfold L2.atI at h ⊢
  obtain ⟨j, h1, h2⟩ := bsome h
  obtain ⟨v, h3, h4⟩ := r.get h2
  refine ⟨v, ?_, h4⟩
  rw [← r.length, h1]
  exact h3
theorem sem_ix {C : Cf} : OpSem Post C (rIx C.K) oIx := by
  intro w S a b x y d S' hS ra rb hf Q hQ
  have gen : ∀ i xs, b = .int i → seqOf S a = some xs → L2.atI xs i = some d → S = S' → rIx C.K x y w.H Q := fun i xs hb h1 h2 h3 => by
    subst hb; subst h3
    cases rb
    obtain ⟨p, vs, rfl, e1, r1⟩ := ra.seqH hS h1
    obtain ⟨v, h4, r4⟩ := r1.atI h2
    rcases e1 with e1 | e1
    · exact .inl ⟨p, vs, i, v, rfl, rfl, e1, h4, hQ.here hS r4⟩
    · exact .inr (.inl ⟨p, vs, i, v, rfl, rfl, e1, h4, hQ.here hS r4⟩)
  unfold oIx at hf
  split at hf
  · split at hf
    · rename_i x i h2
      obtain ⟨c, h3, h4⟩ := bsome hf
      cases h4
      cases ra; cases rb
      exact .inr (.inr ⟨_, _, c, rfl, rfl, sz h2, h3, hQ.here hS (.str _)⟩)
    · cases hf
  · obtain ⟨xs, h1, h2⟩ := bsome hf
    obtain ⟨z, h3, h4⟩ := bsome h2
    cases h4
    exact gen _ xs rfl h1 h3 rfl
  · cases hf
theorem se_ix (ha : SE fa X a f) (hb : SE fa X b g) (hs : PlainIx b := by exact fun _ _ => rfl) : SE fa X (.Subscript a b pos) (eBin oIx f g) := by
  obtain ⟨ta, pa, ha⟩ := ha.ex
  obtain ⟨tb, pb, hb⟩ := hb.ex
  exact ⟨tOp (rIx X.K) ta tb, pe_ix ix_seq pa pb hs, op_core sem_ix ha hb⟩
end
end HS
namespace HS
open PySem L2
section
variable {fa : String → Option Addr} {X : Cx} {M : PM} {a b e : Expr} {es : List Expr} {pos p : Pos} {f g : Ev} {fs : EvA} {x : Str}
abbrev RDs := List D → Sto → Option (D × Sto)
def CallSem (M : PM) (C : Cf) (r : List V → Hp → VK → Prop) (rD : RDs) : Prop := ∀ w S ds vs d S', Sim C w S → RepL C w ds vs → rD ds S = some (d, S') → ∀ Q : VK, M C w d S' Q → r vs w.H Q
def eB (rD : RDs) (fs : EvA) : Ev := fun η S => (fs η S).bind fun p => rD p.1 p.2
theorem se_callB [PmOk M] {r : List V → Hp → VK → Prop} {rD : RDs} {id : String} (hc : CallR X (.builtin id) r) (sem : CallSem M (cf fa X) r rD) (hg : Gl X x) (hm : X.mg x = none) (hv : bootBuiltins x = some (.builtin id)) (ha : SA fa X (e :: es) fs)
    (hn : x ≠ "__name__" := by decide) (hdb : (x == ("__debug__" : Str)) = false := by decide) (he : starEach (e :: es) X.env = (false, eval e X.env) :: starEach es X.env := by rfl) (hpl : (backTo pos (starEach es X.env)).any (·.1) = false := by rfl) :
    SEm fa M X (.Call (.Name x p) (e :: es) [] pos) (eB rD fs) := by
  obtain ⟨t, q, ha⟩ := ha.ex
  refine ⟨tCB r t, pe_callB hc hg hm hv q hn hdb he hpl, fun w σ η S d S' hη hS hf Q hQ => ?_⟩
  obtain ⟨⟨ds, S1⟩, h1, hf⟩ := bsome hf
  exact ha w σ η S ds S1 hη hS h1 _ fun vs w1 e1 s1 r1 => sem w1 S1 ds vs d S' s1 r1 hf Q (PmOk.mono e1 hQ)
theorem se_callTy [PmOk M] {r : List V → Hp → VK → Prop} {rD : RDs} {T : String} (hc : CallR X (.type T) r) (sem : CallSem M (cf fa X) r rD) (hg : Gl X x) (hm : X.mg x = none) (hv : bootBuiltins x = some (.type T)) (ha : SA fa X (e :: es) fs)
    (hn : x ≠ "__name__" := by decide) (hdb : (x == ("__debug__" : Str)) = false := by decide) (he : starEach (e :: es) X.env = (false, eval e X.env) :: starEach es X.env := by rfl) (hpl : (backTo pos (starEach es X.env)).any (·.1) = false := by rfl) :
    SEm fa M X (.Call (.Name x p) (e :: es) [] pos) (eB rD fs) := by
  obtain ⟨t, q, ha⟩ := ha.ex
  refine ⟨tCB r t, pe_callTy hc hg hm hv q hn hdb he hpl, fun w σ η S d S' hη hS hf Q hQ => ?_⟩
  obtain ⟨⟨ds, S1⟩, h1, hf⟩ := bsome hf
  exact ha w σ η S ds S1 hη hS h1 _ fun vs w1 e1 s1 r1 => sem w1 S1 ds vs d S' s1 r1 hf Q (PmOk.mono e1 hQ)
theorem RepL.inv1 {C : Cf} {w : Wd} {d : D} {vs : List V} (r : RepL C w [d] vs) : ∃ v, vs = [v] ∧ Rep C w d v := by
  cases r with
  | cons r t => cases t; exact ⟨_, rfl, r⟩
theorem RepL.inv2 {C : Cf} {w : Wd} {d e : D} {vs : List V} (r : RepL C w [d, e] vs) : ∃ v u, vs = [v, u] ∧ Rep C w d v ∧ Rep C w e u := by
  cases r with
  | cons r t => cases t with
    | cons r2 t => cases t; exact ⟨_, _, rfl, r, r2⟩

def bLen : RDs := fun ds S => match ds with
  | [.str x] => if x.length ≤ SZ then some (.int x.length, S) else none
  | [d] => (seqOf S d).bind fun xs => some (.int xs.length, S)
  | _ => none
theorem sem_len {C : Cf} : CallSem Post C (fun xs H Q => ∃ x n, xs = [x] ∧ LenV C.K x H n ∧ Q (.int n) H) bLen := by
  intro w S ds vs d S' hS r hf Q hQ
  unfold bLen at hf
  split at hf
  · split at hf
    · rename_i h
      cases hf
      obtain ⟨v, rfl, r1⟩ := r.inv1
      cases r1
      exact ⟨.str _, _, rfl, (show _ ∧ _ from ⟨sz h, rfl⟩), hQ.here hS (.int _)⟩
    · cases hf
  · obtain ⟨xs, h1, h2⟩ := bsome hf
    cases h2
    obtain ⟨v, rfl, r1⟩ := r.inv1
    obtain ⟨p, us, rfl, e, r2⟩ := r1.seqH hS h1
    refine ⟨_, us.length, rfl, ?_, by rw [← r2.length]; exact hQ.here hS (.int _)⟩
    rcases e with e | e
    · exact .inl ⟨us, e, rfl⟩
    · exact .inr ⟨us, e, rfl⟩
  · cases hf
def bInt : RDs := fun ds S => match ds with
  | [.int i] => some (.int i, S)
  | [.bl b] => some (.int (if b then 1 else 0), S)
  | _ => none
theorem sem_int {C : Cf} : CallSem Post C (fun xs H Q => (∃ i, xs = [.int i] ∧ Q (.int i) H) ∨ ∃ k, xs = [.bl k] ∧ Q (.int (if k then 1 else 0)) H) bInt := by
  intro w S ds vs d S' hS r hf Q hQ
  unfold bInt at hf
  split at hf
  · cases hf
    obtain ⟨v, rfl, r1⟩ := r.inv1
    cases r1
    exact .inl ⟨_, rfl, hQ.here hS (.int _)⟩
  · cases hf
    obtain ⟨v, rfl, r1⟩ := r.inv1
    cases r1
    exact .inr ⟨_, rfl, hQ.here hS (.int _)⟩
  · cases hf
def bList : RDs := fun ds S => match ds with
  | [d] => (seqOf S d).bind fun xs => some (.lst xs, S)
  | _ => none
theorem sem_list [PmList M] {C : Cf} : CallSem M C (fun xs H Q => ∃ p ys, xs = [.ref p] ∧ (SqL C.K H p ys ∨ SqT C.K H p ys) ∧ ∀ l, H l = none → Q (.ref l) (upd H l (.lst ys))) bList := by
  intro w S ds vs d S' hS r hf Q hQ
  unfold bList at hf
  split at hf
  · obtain ⟨xs, h1, h2⟩ := bsome hf
    cases h2
    obtain ⟨v, rfl, r1⟩ := r.inv1
    obtain ⟨p, us, rfl, e, r2⟩ := r1.seqH hS h1
    exact ⟨p, us, rfl, e, fun l hl => PmList.newLst hQ hS r2 hl⟩
  · cases hf
def bTuple : RDs := fun ds S => match ds with
  | [.tup xs] => some (.tup xs, S)
  | [d] => (lstOf S d).bind fun xs => some (.tup xs, S)
  | _ => none
/-- tuple(xs): the object of a new tuple is known -/
def rTupF (K : PySem.W.Frag) : List V → Hp → VK → Prop := fun xs H Q => ∃ p ys, xs = [.ref p] ∧ ((SqL K H p ys ∧ ∀ l o, H l = none → o.dict = none → Q (.ref l) (upd H l (.frz o (.tup ys)))) ∨ (SqT K H p ys ∧ Q (.ref p) H))
theorem call_tupleF : CallR X (.type "tuple") (rTupF X.K) := by
  intro pins s σ H xs us Q I r ⟨p, ys, e, h⟩
  subst e
  rcases h with ⟨hq, q⟩ | ⟨hq, q⟩
  · obtain ⟨u, rfl, rx⟩ := vals1 r
    cases rx
    obtain ⟨its, r', pl, hz⟩ := I.list hq
    have hlen := r'.length
    refine call_tuple_list pl.isList (fun h' kp => ?_) (by simp only [List.size_toArray] <;> omega)
    have I1 : Inv X pins σ H { s with heap := h' } := I.kept (t' := s.toks) kp
    exact ep_tup (s := { s with heap := h' }) (t' := s.toks) I1 (fun b o e => Heap.get?_push_of_some _ e) (Nat.le_refl _) (Heap.get?_push_size _ rfl) rfl hz r' (PyProof.Rows.IsTup.new _ _) q
  · exact call_tuple_of pins s σ H _ us Q I r ⟨p, ys, rfl, .inr ⟨hq, q⟩⟩
theorem sem_tuple {C : Cf} : CallSem Post C (rTupF C.K) bTuple := by
  intro w S ds vs d S' hS r hf Q hQ
  unfold bTuple at hf
  split at hf
  · cases hf
    obtain ⟨v, rfl, r1⟩ := r.inv1
    obtain ⟨p, us, rfl, e, r2⟩ := id r1.tupH
    exact ⟨p, us, rfl, .inr ⟨e, hQ.here hS r1⟩⟩
  · obtain ⟨xs, h1, h2⟩ := bsome hf
    cases h2
    obtain ⟨v, rfl, r1⟩ := r.inv1
    obtain ⟨p, us, rfl, e, r2⟩ := r1.lstH hS h1
    exact ⟨p, us, rfl, .inl ⟨.inl (.inl e), fun l o hl hd => Post.newTup hQ hS r2 hl hd⟩⟩
  · cases hf
def intsOf : List D → Option (List Int)
  | [] => some []
  | .int i :: ds => (intsOf ds).map fun is => i :: is
  | _ => none
def bolsOf : List D → Option (List Bool)
  | [] => some []
  | .bl i :: ds => (bolsOf ds).map fun is => i :: is
  | _ => none
def strsOf : List D → Option (List Str)
  | [] => some []
  | .str i :: ds => (strsOf ds).map fun is => i :: is
  | _ => none
theorem rep_ints {C : Cf} {w : Wd} : ∀ {ds : List D} {vs : List V} {is : List Int}, intsOf ds = some is → RepL C w ds vs → vs = is.map V.int
  | [], _, _, h, .nil => by cases h; rfl
  | d :: ds, _, _, h, .cons r rs => by
    cases d with
    | int i =>
      obtain ⟨js, h1, h2⟩ := Option.map_eq_some_iff.mp h
      cases h2; cases r
      rw [rep_ints h1 rs]; rfl
    | _ => cases h
theorem rep_strs {C : Cf} {w : Wd} : ∀ {ds : List D} {vs : List V} {is : List Str}, strsOf ds = some is → RepL C w ds vs → vs = is.map V.str
  | [], _, _, h, .nil => by cases h; rfl
  | d :: ds, _, _, h, .cons r rs => by
    cases d with
    | str i =>
      obtain ⟨js, h1, h2⟩ := Option.map_eq_some_iff.mp h
      cases h2; cases r
      rw [rep_strs h1 rs]; rfl
    | _ => cases h
def mxI : List Int → Int
  | [] => 0
  | [x] => x
  | x :: y :: r => let m := mxI (y :: r); if x < m then m else x
def mnI : List Int → Int
  | [] => 0
  | [x] => x
  | x :: y :: r => let m := mnI (y :: r); if m < x then m else x
theorem mxI_mem : ∀ {l : List Int}, 0 < l.length → mxI l ∈ l
  | [x], _ => by simp [mxI]
  | x :: y :: r, _ => by
    have h := mxI_mem (l := y :: r) (by simp)
    simp only [mxI]
    split
    · exact List.mem_cons_of_mem _ h
    · exact List.mem_cons_self
theorem mxI_ge : ∀ {l : List Int} {z : Int}, z ∈ l → z ≤ mxI l
  | [x], z, h => by simp at h; simp [mxI, h]
  | x :: y :: r, z, h => by
    have ih := @mxI_ge (y :: r)
    simp only [mxI]
    rcases List.mem_cons.mp h with rfl | h
    · split <;> omega
    · have := ih h
      split <;> omega
def bOnInts (g : List Int → Option D) : RDs := fun ds S => match ds with
  | [d] => (lstOf S d).bind fun xs => (intsOf xs).bind fun is => (g is).bind fun r => some (r, S)
  | _ => none
def bMax : RDs := bOnInts fun is => if is = [] then none else some (.int (mxI is))
def bMin : RDs := bOnInts fun is => if is = [] then none else some (.int (mnI is))
def bSum : RDs := bOnInts fun is => some (.int is.sum)
theorem bOnInts_some {C : Cf} {w : Wd} {S S' : Sto} {g : List Int → Option D} {ds : List D} {vs : List V} {d : D} (hS : Sim C w S) (r : RepL C w ds vs) (h : bOnInts g ds S = some (d, S')) : ∃ p is, vs = [.ref p] ∧ SqL C.K w.H p (is.map V.int) ∧ g is = some d ∧ S = S' := by
  unfold bOnInts at h
  split at h
  · obtain ⟨xs, h1, h2⟩ := bsome h
    obtain ⟨is, h3, h4⟩ := bsome h2
    obtain ⟨z, h5, h6⟩ := bsome h4
    cases h6
    obtain ⟨v, rfl, r1⟩ := r.inv1
    obtain ⟨p, us, rfl, e, r2⟩ := r1.lstH hS h1
    have e2 := rep_ints h3 r2
    subst e2
    exact ⟨p, is, rfl, .inl (.inl e), h5, rfl⟩
  · cases h
theorem sem_max {C : Cf} : CallSem Post C (rMax C.K) bMax := by
  intro w S ds vs d S' hS r hf Q hQ
  obtain ⟨p, is, rfl, e, h1, rfl⟩ := bOnInts_some hS r hf
  split at h1
  · cases h1
  · rename_i h2
    cases h1
    have hl : 0 < is.length := List.length_pos_iff.mpr h2
    refine ⟨p, is, rfl, e, hl, fun m hm hx => ?_⟩
    have e3 : m = mxI is := by
      have h3 := hx _ (mxI_mem hl)
      have h4 := mxI_ge hm
      omega
    subst e3
    exact hQ.here hS (.int _)
def bOnBols (g : List Bool → Bool) : RDs := fun ds S => match ds with
  | [d] => (lstOf S d).bind fun xs => (bolsOf xs).bind fun is => some (.bl (g is), S)
  | _ => none
def bAny : RDs := bOnBols fun bs => bs.any id
def bAll : RDs := bOnBols fun bs => bs.all id
def bMax2 : RDs := fun ds S => match ds with
  | [.int i, .int j] => some (.int (if j > i then j else i), S)
  | _ => none
def bMin2 : RDs := fun ds S => match ds with
  | [.int i, .int j] => some (.int (if j < i then j else i), S)
  | _ => none
def tyN (S : Sto) : D → Option String
  | .non => some "NoneType"
  | .bl _ => some "bool"
  | .int _ => some "int"
  | .str _ => some "str"
  | .tup _ => some "tuple"
  | .lst _ => some "list"
  | .ref i => match S[i]? with
    | some (.lst _) => some "list"
    | _ => none
  | _ => none
theorem Rep.tyN {C : Cf} {w : Wd} {S : Sto} {d : D} {v : V} {n : String} (s : Sim C w S) (r : Rep C w d v) (h : HS.tyN S d = some n) : TyX C.K w.H v (.type n) := by
  cases d with
  | non => cases h; cases r; exact .base .non
  | bl b => cases h; cases r; exact .base (.bl b)
  | int i => cases h; cases r; exact .base (.int i)
  | str i => cases h; cases r; exact .base (.str i)
  | tup xs =>
    cases h
    cases r with
    | tup e hd hp r => exact .fTuple e
    | tupK e hd r =>
      obtain ⟨o, its, m, h1, h2, _⟩ := e
      exact .kTuple h1 h2
  | lst xs =>
    cases h
    cases r with
    | lst e hp r => exact .base (.lst e)
  | ref i =>
    cases r with
    | ref hi =>
      simp only [HS.tyN] at h
      split at h
      · rename_i ys hy
        cases h
        obtain ⟨vs, e, r⟩ := s.obj i _ _ hi hy
        exact .base (.lst e)
      · cases h
  | _ => cases h
def tysL : List String := ["NoneType", "bool", "int", "str", "tuple", "list"]
def clsL : List String := ["bool", "int", "str", "tuple", "list"]
def subT (t c : String) : Option Bool := if t ∈ tysL ∧ c ∈ clsL then some (decide (t = c) || (decide (t = "bool") && decide (c = "int"))) else none
theorem kitB_all : (tysL.all fun t => clsL.all fun c => decide (kitB t c = some (decide (t = c) || (decide (t = "bool") && decide (c = "int"))))) = true := by decide +kernel
theorem subT_kit {K : PySem.W.Frag} {t c : String} {b : Bool} (h : subT t c = some b) : PySem.W.kitOne K (.type t) (.type c) = some b := by
  unfold subT at h
  split at h
  · rename_i hm
    cases h
    have h1 := List.all_eq_true.mp kitB_all t hm.1
    have h2 := List.all_eq_true.mp h1 c hm.2
    exact kit_ty (of_decide_eq_true h2)
  · cases h
def tysOf : List D → Option (List String)
  | [] => some []
  | .ty c :: cs => (tysOf cs).map fun ns => c :: ns
  | _ => none
def subTs (t : String) : List String → Option Bool
  | [] => some false
  | c :: cs => match subT t c with
    | some true => some true
    | some false => subTs t cs
    | none => none
theorem subTs_kit {K : PySem.W.Frag} {t : String} : ∀ {cs : List String} {b : Bool}, subTs t cs = some b → PySem.W.kitAny K (.type t) (cs.map Value.type) = some b
  | [], _, h => by cases h; rfl
  | c :: cs, b, h => by
    unfold subTs at h
    split at h
    · rename_i h1
      cases h
      exact kitAny_cons (subT_kit h1) (fun z => nomatch z) fun _ => rfl
    · rename_i h1
      exact kitAny_cons (subT_kit h1) (fun _ => subTs_kit h) fun z => nomatch z
    · cases h
theorem tys_cls {C : Cf} {w : Wd} : ∀ {cs : List D} {vs : List V} {ns : List String}, tysOf cs = some ns → RepL C w cs vs → vs = ns.map V.ty ∧ Paired ClsV vs (ns.map Value.type)
  | [], _, _, h, .nil => by cases h; exact ⟨rfl, .nil⟩
  | c :: cs, _, _, h, .cons r rs => by
    cases c with
    | ty n =>
      obtain ⟨ms, h1, h2⟩ := Option.map_eq_some_iff.mp h
      cases h2; cases r
      obtain ⟨e, q⟩ := tys_cls h1 rs
      subst e
      exact ⟨rfl, .cons (.ty n) q⟩
    | _ => cases h
def bIsi : RDs := fun ds S => match ds with
  | [d, .ty c] => (tyN S d).bind fun t => (subT t c).bind fun b => some (.bl b, S)
  | [d, .pr cs] => (tyN S d).bind fun t => (tysOf cs).bind fun ns => (subTs t ns).bind fun b => some (.bl b, S)
  | _ => none
theorem sem_isi {C : Cf} : CallSem Post C (fun xs H Q => rIsi C.K xs H Q ∨ (rIsiT C.K xs H Q ∨ rIsiK C.K xs H Q)) bIsi := by
  intro w S ds vs d S' hS r hf Q hQ
  unfold bIsi at hf
  split at hf
  · obtain ⟨t, h1, h2⟩ := bsome hf
    obtain ⟨b, h3, h4⟩ := bsome h2
    cases h4
    obtain ⟨v, u, rfl, r1, r2⟩ := r.inv2
    cases r2
    exact .inl ⟨v, _, _, _, b, rfl, .ty _, r1.tyN hS h1, subT_kit h3, hQ.here hS (.bl _)⟩
  · obtain ⟨t, h1, h2⟩ := bsome hf
    obtain ⟨ns, h3, h4⟩ := bsome h2
    obtain ⟨b, h5, h6⟩ := bsome h4
    cases h6
    obtain ⟨v, u, rfl, r1, r2⟩ := r.inv2
    cases r2 with
    | pr e hp r5 =>
      obtain ⟨e2, q⟩ := tys_cls h3 r5
      exact .inr (.inl ⟨v, _, _, _, _, b, rfl, e, q, r1.tyN hS h1, subTs_kit h5, hQ.here hS (.bl _)⟩)
  · cases hf
theorem cr_isi : CallR X (.builtin "isinstance") (fun xs H Q => rIsi X.K xs H Q ∨ (rIsiT X.K xs H Q ∨ rIsiK X.K xs H Q)) := CallR.or call_isi (CallR.or call_isiT call_isiK)

abbrev RM := D → List D → Sto → Option (D × Sto)
def MSem (M : PM) (C : Cf) (r : V → List V → Hp → VK → Prop) (rD : RM) : Prop := ∀ w S a ds v vs d S', Sim C w S → Rep C w a v → RepL C w ds vs → rD a ds S = some (d, S') → ∀ Q : VK, M C w d S' Q → r v vs w.H Q
/-- the receiver is of the built-in type -/
def isT (T : String) (S : Sto) (d : D) : Bool := match d with
  | .str _ => decide (T = "str")
  | .int _ => decide (T = "int")
  | d => decide (T = "list") && (lstOf S d).isSome
theorem Rep.tyV {C : Cf} {w : Wd} {S : Sto} {T : String} {d : D} {v : V} (s : Sim C w S) (r : Rep C w d v) (h : isT T S d = true) : L2.tyV C.K T v w.H := by
  have gen : ∀ xs, lstOf S d = some xs → T = "list" → L2.tyV C.K T v w.H := fun xs h1 h2 => by
    obtain ⟨p, vs, rfl, e, _⟩ := r.lstH s h1
    exact .inl ⟨h2, vs, .inl (.inl e)⟩
  unfold isT at h
  split at h
  · cases r
    have h2 := of_decide_eq_true h
    exact h2
  · cases r
    have h2 := of_decide_eq_true h
    exact h2
  · rw [Bool.and_eq_true] at h
    obtain ⟨xs, hx⟩ := Option.isSome_iff_exists.mp h.2
    exact gen xs hx (of_decide_eq_true h.1)
def eM (T : String) (rD : RM) (f : Ev) (fs : EvA) : Ev := fun η S => (f η S).bind fun p => if isT T p.2 p.1 then (fs η p.2).bind fun q => rD p.1 q.1 q.2 else none
def eM0 (T : String) (rD : RM) (f : Ev) : Ev := fun η S => (f η S).bind fun p => if isT T p.2 p.1 then rD p.1 [] p.2 else none
variable {o : Expr} {name : Str} {apos cpos : Pos} {T id : String} {r : V → List V → Hp → VK → Prop} {rD : RM}
theorem se_bm [PmOk M] (pa : PlainAttrs T) (slot : Slot T name id) (hty : typeOf (.builtin id) = pure (.type "method_descriptor")) (hm : MtR X id r) (sem : MSem M (cf fa X) r rD) (ho : SE fa X o f) (ha : SA fa X (e :: es) fs)
    (hbase : attributeBase o name X.env (eval o X.env) = eval o X.env := by rfl)
    (hfew : ((backTo cpos (starEach (e :: es) X.env)).all (fun x => !x.1) && (backToKw cpos (keywordEach [] X.env)).all (fun x => x.1.isSome)
      && decide ((e :: es).length + ([] : List Keyword).length + (if ([] : List Keyword).isEmpty then 0 else 1) < 30)) = true := by rfl)
    (hline : (apos.endLine == cpos.line) = true := by rfl) (hs : starEach (e :: es) X.env = (false, eval e X.env) :: starEach es X.env := by rfl) (hplain : (backTo cpos (starEach es X.env)).any (·.1) = false := by rfl) :
    SEm fa M X (.Call (.Attribute o name apos) (e :: es) [] cpos) (eM T rD f fs) := by
  obtain ⟨t, q, ho⟩ := ho.ex
  obtain ⟨u, q2, ha⟩ := ha.ex
  refine ⟨tBM X.K T r t u, pe_bm pa slot hty hm q q2 hbase hfew hline hs hplain, fun w σ η S d S' hη hS hf Q hQ => ?_⟩
  obtain ⟨⟨d1, S1⟩, h1, hf⟩ := bsome hf
  split at hf
  · rename_i hT
    obtain ⟨⟨ds, S2⟩, h2, hf⟩ := bsome hf
    exact ho w σ η S d1 S1 hη hS h1 _ fun v w1 e1 s1 r1 => ⟨r1.tyV s1 hT, ha w1 σ η S1 ds S2 (hη.mono e1.f) s1 h2 _ fun vs w2 e2 s2 r2 => sem w2 S2 d1 ds v vs d S' s2 (r1.mono e2.f) r2 hf Q (PmOk.mono (e1.trans e2) hQ)⟩
  · cases hf
theorem se_bm0 [PmOk M] (pa : PlainAttrs T) (slot : Slot T name id) (hty : typeOf (.builtin id) = pure (.type "method_descriptor")) (hm : MtR X id r) (sem : MSem M (cf fa X) r rD) (ho : SE fa X o f)
    (hbase : attributeBase o name X.env (eval o X.env) = eval o X.env := by rfl) (hline : (apos.endLine == cpos.line) = true := by rfl) :
    SEm fa M X (.Call (.Attribute o name apos) [] [] cpos) (eM0 T rD f) := by
  obtain ⟨t, q, ho⟩ := ho.ex
  refine ⟨tBM0 X.K T r t, pe_bm0 pa slot hty hm q hbase hline, fun w σ η S d S' hη hS hf Q hQ => ?_⟩
  obtain ⟨⟨d1, S1⟩, h1, hf⟩ := bsome hf
  split at hf
  · rename_i hT
    exact ho w σ η S d1 S1 hη hS h1 _ fun v w1 e1 s1 r1 => ⟨r1.tyV s1 hT, sem w1 S1 d1 [] v [] d S' s1 r1 .nil hf Q (PmOk.mono e1 hQ)⟩
  · cases hf
def stL (S : Sto) (d : D) : Option (Nat × List D) := match d with
  | .ref i => match S[i]? with
    | some (.lst xs) => some (i, xs)
    | _ => none
  | _ => none
theorem Rep.stL {C : Cf} {w : Wd} {S : Sto} {d : D} {v : V} {i : Nat} {xs : List D} (s : Sim C w S) (r : Rep C w d v) (h : HS.stL S d = some (i, xs)) : ∃ p vs, v = .ref p ∧ w.mu[i]? = some p ∧ w.H p = some (.lst vs) ∧ RepL C w xs vs := by
  unfold HS.stL at h
  split at h
  · rename_i j
    split at h
    · rename_i ys hy
      cases h
      cases r with
      | ref hi =>
        obtain ⟨vs, e, r⟩ := s.obj _ _ _ hi hy
        exact ⟨_, vs, rfl, hi, e, r⟩
    · cases h
  · cases h
theorem Post.setL {C : Cf} {w : Wd} {S : Sto} {d : D} {Q : VK} {i : Nat} {p : Addr} {vs us : List V} {ys : List D} {v : V} (hQ : Post C w d (S.set i (.lst ys)) Q) (s : Sim C w S) (hi : w.mu[i]? = some p) (e : w.H p = some (.lst vs)) (r : RepL C w ys us) (rv : Rep C w d v) : Q v (upd w.H p (.lst us)) := by
  have le : Le w ⟨w.mu, w.L, upd w.H p (.lst us)⟩ := Le.put (List.mem_of_getElem? hi) e
  exact hQ v ⟨w.mu, w.L, upd w.H p (.lst us)⟩ le (s.put hi e ⟨us, upd_same, r.mono le.f⟩) (rv.mono le.f)
def mAppend : RM := fun a ds S => match ds with
  | [d] => (stL S a).bind fun q => if q.2.length < SZ then some (.non, S.set q.1 (.lst (q.2 ++ [d]))) else none
  | _ => none
theorem sem_append {C : Cf} : MSem Post C rAppend mAppend := by
  intro w S a ds v vs d S' hS ra rs hf Q hQ
  unfold mAppend at hf
  split at hf
  · obtain ⟨⟨i, xs⟩, h1, h2⟩ := bsome hf
    split at h2
    · rename_i hz
      cases h2
      obtain ⟨u, rfl, r1⟩ := rs.inv1
      obtain ⟨p, us, rfl, hi, e, r2⟩ := ra.stL hS h1
      exact ⟨p, us, u, rfl, rfl, e, by rw [← r2.length]; exact sz_lt hz, Post.setL hQ hS hi e (r2.snoc r1) .non⟩
    · cases h2
  · cases hf
def mPop : RM := fun a ds S => match ds with
  | [] => (stL S a).bind fun q => (q.2[q.2.length - 1]?).bind fun y => some (y, S.set q.1 (.lst q.2.dropLast))
  | _ => none
theorem sem_pop {C : Cf} : MSem Post C rPop mPop := by
  intro w S a ds v vs d S' hS ra rs hf Q hQ
  unfold mPop at hf
  split at hf
  · obtain ⟨⟨i, xs⟩, h1, h2⟩ := bsome hf
    obtain ⟨y, h3, h4⟩ := bsome h2
    cases h4; cases rs
    obtain ⟨p, us, rfl, hi, e, r2⟩ := ra.stL hS h1
    obtain ⟨z, h5, h6⟩ := r2.get h3
    exact ⟨p, us, z, rfl, rfl, e, by rw [← r2.length]; exact h5, Post.setL hQ hS hi e r2.dropLast h6⟩
  · cases hf
def mPopAt : RM := fun a ds S => match ds with
  | [.int k] => (stL S a).bind fun q => if -(2 ^ 63) ≤ k ∧ k < 2 ^ 63 then (seqIndex? k q.2.length).bind fun j => (q.2[j]?).bind fun y => some (y, S.set q.1 (.lst (q.2.eraseIdx j))) else none
  | _ => none
theorem sem_popAt {C : Cf} : MSem Post C rPopAt mPopAt := by
  intro w S a ds v vs d S' hS ra rs hf Q hQ
  unfold mPopAt at hf
  split at hf
  · obtain ⟨⟨i, xs⟩, h1, h2⟩ := bsome hf
    split at h2
    · rename_i hz
      obtain ⟨j, h3, h4⟩ := bsome h2
      obtain ⟨y, h5, h6⟩ := bsome h4
      cases h6
      obtain ⟨u, rfl, r1⟩ := rs.inv1
      cases r1
      obtain ⟨p, us, rfl, hi, e, r2⟩ := ra.stL hS h1
      obtain ⟨z, h7, h8⟩ := r2.get h5
      exact ⟨p, us, _, j, z, rfl, rfl, e, hz.1, hz.2, by rw [← r2.length]; exact h3, h7, Post.setL hQ hS hi e (r2.eraseIdx _) h8⟩
    · cases h2
  · cases hf
def mReverse : RM := fun a ds S => match ds with
  | [] => (stL S a).bind fun q => some (.non, S.set q.1 (.lst q.2.reverse))
  | _ => none
theorem sem_reverse {C : Cf} : MSem Post C rReverse mReverse := by
  intro w S a ds v vs d S' hS ra rs hf Q hQ
  unfold mReverse at hf
  split at hf
  · obtain ⟨⟨i, xs⟩, h1, h2⟩ := bsome hf
    cases h2; cases rs
    obtain ⟨p, us, rfl, hi, e, r2⟩ := ra.stL hS h1
    exact ⟨p, us, rfl, rfl, e, Post.setL hQ hS hi e r2.reverse .non⟩
  · cases hf
def mJoin : RM := fun a ds S => match a, ds with
  | .str y, [d] => (lstOf S d).bind fun xs => (strsOf xs).bind fun zs => if (zs.map (·.length)).sum + zs.length * y.length ≤ SZ then some (.str (Txt.join y zs), S) else none
  | _, _ => none
theorem sem_join {C : Cf} : MSem Post C (fun x xs H Q => ∃ a p, ∃ ys : List Str, x = .str a ∧ xs = [.ref p] ∧ (SqL C.K H p (ys.map V.str) ∨ SqT C.K H p (ys.map V.str)) ∧ (ys.map (·.length)).sum + ys.length * a.length ≤ 16777216 ∧ Q (.str (Txt.join a ys)) H) mJoin := by
  intro w S a ds v vs d S' hS ra rs hf Q hQ
  unfold mJoin at hf
  split at hf
  · obtain ⟨xs, h1, h2⟩ := bsome hf
    obtain ⟨zs, h3, h4⟩ := bsome h2
    split at h4
    · rename_i hz
      cases h4; cases ra
      obtain ⟨u, rfl, r1⟩ := rs.inv1
      obtain ⟨p, us, rfl, e, r2⟩ := r1.lstH hS h1
      have e2 := rep_strs h3 r2
      subst e2
      exact ⟨_, p, zs, rfl, rfl, .inl (.inl (.inl e)), Nat.le_trans hz (by decide), hQ.here hS (.str _)⟩
    · cases h4
  · cases hf
end
end HS
namespace HS
open PySem L2

/-- an iterator that yields these things one by one, while chk holds of the store -/
structure ItOk (C : Cf) (w : Wd) (J : It) (xs : List D) (chk : Sto → Prop) : Prop where
  go : ∀ i w1 S1, LeF w w1 → Sim C w1 S1 → chk S1 → i < xs.length → J.go i w1.H
  yld : ∀ i w1 S1 x H', LeF w w1 → Sim C w1 S1 → chk S1 → i < xs.length → J.yld i w1.H x H' → ∃ w2 d, w2.H = H' ∧ Le w1 w2 ∧ Sim C w2 S1 ∧ w2.mu = w1.mu ∧ w2.L = w1.L ∧ xs[i]? = some d ∧ Rep C w2 d x
  stop : ∀ w1 S1, LeF w w1 → Sim C w1 S1 → chk S1 → J.stop xs.length w1.H
structure Iter where
  xs : List D
  chk : Sto → Prop
abbrev EvI := Env → Sto → Option (Iter × Sto)
structure SI (fa : String → Option Addr) (X : Cx) (tg iter : Expr) (f : EvI) : Prop where
  ex : ∃ wi, PI X tg iter wi ∧ ∀ w σ η S I S', RepE (cf fa X) w η σ → Sim (cf fa X) w S → f η S = some (I, S') → ∀ R : It → Hp → Prop, (∀ J w', Le w w' → Sim (cf fa X) w' S' → ItOk (cf fa X) w' J I.xs I.chk → R J w'.H) → wi σ w.H R

section
variable {C : Cf} {w : Wd}
end
/-- a list, a tuple -/
def iSeq (K : PySem.W.Frag) (tl : TE) : TI := fun σ H R => tl σ H fun x H1 => ∃ a, x = .ref a ∧ (((∃ xs, SqL K H1 a xs) ∧ R (Itl K a) H1) ∨ ((∃ xs, SqT K H1 a xs) ∧ R (Itt K a) H1))
theorem pi_seq {X : Cx} {tg l : Expr} {tl : TE} (hl : PE X l tl) : PI X tg l (iSeq X.K tl) := by
  refine ⟨fun pins s σ H R I h => ?_⟩
  refine thn (hl.run pins s σ H _ I h) fun v s1 ⟨x, H1, I1, r1, q1⟩ => ?_
  obtain ⟨a, e, q⟩ := q1
  subst e
  cases r1
  rcases q with ⟨⟨xs, hq⟩, q⟩ | ⟨⟨xs, hq⟩, q⟩
  · obtain ⟨its, rv, p, hz⟩ := I1.list hq
    refine wpAny_pyIter_list p.isList ?_
    refine ⟨s1.heap.objs.size, [s1.heap.objs.size], _, _, H1, rfl, I1.kept (t' := s1.toks) fun b o e => Heap.get?_push_of_some _ e, turn_list a _, ⟨_, Heap.get?_push_size _ rfl, rfl, rfl⟩, fun b hb => ?_, q⟩
    have e : b = s1.heap.objs.size := by simpa using hb
    subst e
    exact I1.fpOk (Nat.le_refl _) (I1.hok.fresh (Nat.le_refl _))
  · obtain ⟨its, rv, p, hz⟩ := I1.tuple hq
    refine wpAny_pyIter_tuple (show s1.heap.IsTuple a its.toArray from p) ?_
    refine ⟨s1.heap.objs.size, [s1.heap.objs.size], _, _, H1, rfl, I1.kept (t' := s1.toks) fun b o e => Heap.get?_push_of_some _ e, turn_tuple a _, ⟨_, Heap.get?_push_size _ rfl, rfl, rfl⟩, fun b hb => ?_, q⟩
    have e : b = s1.heap.objs.size := by simpa using hb
    subst e
    exact I1.fpOk (Nat.le_refl _) (I1.hok.fresh (Nat.le_refl _))
/-- one meaning of what a list's address reads as -/
structure SqlU (K : PySem.W.Frag) (H : Hp) (a : Addr) (xs : List V) : Prop where
  is : SqL K H a xs
/-- the datum's list or tuple as HandS's iterators see it -/
theorem itl_ok {C : Cf} {w : Wd} {p : Addr} {d : D} {xs : List D} (r : Rep C w d (.ref p)) (hl : ∀ w1 S1, LeF w w1 → Sim C w1 S1 → seqOf S1 d = some xs → ∃ vs, SqL C.K w1.H p vs ∧ RepL C w1 xs vs) : ItOk C w (Itl C.K p) xs (fun S => seqOf S d = some xs) where
  go := fun i w1 S1 e s hc hi => by
    obtain ⟨vs, hv, rv⟩ := hl w1 S1 e s hc
    obtain ⟨v, h1, _⟩ := rv.get (List.getElem?_eq_getElem hi)
    exact ⟨vs, v, hv, h1⟩
  yld := fun i w1 S1 x H' e s hc _ ⟨h1, h2⟩ => by
    obtain ⟨vs, hv, rv⟩ := hl w1 S1 e s hc
    obtain ⟨d', h3, h4⟩ := rv.getV (h2 vs hv)
    exact ⟨w1, d', h1.symm, Le.refl _, s, rfl, rfl, h3, h4⟩
  stop := fun w1 S1 e s hc => by
    obtain ⟨vs, hv, rv⟩ := hl w1 S1 e s hc
    exact ⟨vs, hv, by rw [rv.length]; exact Nat.le_refl _⟩
theorem itt_ok {C : Cf} {w : Wd} {p : Addr} {d : D} {xs : List D} (r : Rep C w d (.ref p)) (hl : ∀ w1 S1, LeF w w1 → Sim C w1 S1 → seqOf S1 d = some xs → ∃ vs, SqT C.K w1.H p vs ∧ RepL C w1 xs vs) : ItOk C w (Itt C.K p) xs (fun S => seqOf S d = some xs) where
  go := fun i w1 S1 e s hc hi => by
    obtain ⟨vs, hv, rv⟩ := hl w1 S1 e s hc
    obtain ⟨v, h1, _⟩ := rv.get (List.getElem?_eq_getElem hi)
    exact ⟨vs, v, hv, h1⟩
  yld := fun i w1 S1 x H' e s hc _ ⟨h1, h2⟩ => by
    obtain ⟨vs, hv, rv⟩ := hl w1 S1 e s hc
    obtain ⟨d', h3, h4⟩ := rv.getV (h2 vs hv)
    exact ⟨w1, d', h1.symm, Le.refl _, s, rfl, rfl, h3, h4⟩
  stop := fun w1 S1 e s hc => by
    obtain ⟨vs, hv, rv⟩ := hl w1 S1 e s hc
    exact ⟨vs, hv, by rw [rv.length]; exact Nat.le_refl _⟩
/-- is it a tuple? (a list else) -/
def isTup : D → Bool
  | .tup _ => true
  | _ => false
theorem Rep.seqL {C : Cf} {w : Wd} {S : Sto} {d : D} {p : Addr} {xs : List D} (s : Sim C w S) (r : Rep C w d (.ref p)) (h : seqOf S d = some xs) (ht : isTup d = false) : ∃ vs, SqL C.K w.H p vs ∧ RepL C w xs vs := by
  cases d with
  | tup ys => cases ht
  | scr ys =>
    cases h
    cases r with
    | frz e hp r => exact ⟨_, .inl (.inr ⟨_, e⟩), r⟩
    | scrK e r => exact ⟨_, .inr e, r⟩
  | lst ys =>
    obtain ⟨q, vs, e, h1, r⟩ := r.lstH s h
    cases e
    exact ⟨vs, .inl (.inl h1), r⟩
  | ref i =>
    obtain ⟨q, vs, e, h1, r⟩ := r.lstH s h
    cases e
    exact ⟨vs, .inl (.inl h1), r⟩
  | _ => cases h
theorem Rep.seqT {C : Cf} {w : Wd} {S : Sto} {d : D} {p : Addr} {xs : List D} (r : Rep C w d (.ref p)) (h : seqOf S d = some xs) (ht : isTup d = true) : ∃ vs, SqT C.K w.H p vs ∧ RepL C w xs vs := by
  cases d with
  | tup ys =>
    cases h
    obtain ⟨q, vs, e, h1, r⟩ := r.tupH
    cases e
    exact ⟨vs, h1, r⟩
  | _ => cases ht
def iE (f : Ev) : EvI := fun η S => (f η S).bind fun p => (seqOf p.2 p.1).bind fun xs => some (⟨xs, fun S => seqOf S p.1 = some xs⟩, p.2)
section
variable {fa : String → Option Addr} {X : Cx} {tg e : Expr} {f : Ev} {pos p : Pos}
theorem si_seq (h : SE fa X e f) : SI fa X tg e (iE f) := by
  obtain ⟨t, q, h⟩ := h.ex
  refine ⟨iSeq X.K t, pi_seq q, fun w σ η S I S' hη hS hf R hR => ?_⟩
  obtain ⟨⟨d, S1⟩, h1, hf⟩ := bsome hf
  obtain ⟨xs, h2, hf⟩ := bsome hf
  cases hf
  refine h w σ η S d S1 hη hS h1 _ fun v w1 e1 s1 r1 => ?_
  obtain ⟨a, vs, rfl, _, _⟩ := r1.seqH s1 h2
  refine ⟨a, rfl, ?_⟩
  cases ht : isTup d with
  | false =>
    obtain ⟨vs, hv, _⟩ := r1.seqL s1 h2 ht
    exact .inl ⟨⟨vs, hv⟩, hR _ w1 e1 s1 (itl_ok r1 fun w2 S2 e2 s2 h => (r1.mono e2).seqL s2 h ht)⟩
  | true =>
    obtain ⟨vs, hv, _⟩ := r1.seqT h2 ht
    exact .inr ⟨⟨vs, hv⟩, hR _ w1 e1 s1 (itt_ok r1 fun w2 S2 e2 s2 h => (r1.mono e2).seqT h ht)⟩
def rangeD (lo : Int) (n : Nat) : List D := (List.range n).map fun i => .int (lo + (i : Nat))
def iRange1 (fs : EvA) : EvI := fun η S => (fs η S).bind fun q => match q.1 with
  | [.int j] => if -(2 ^ 62) ≤ j ∧ j < 2 ^ 62 then some (⟨rangeD 0 j.toNat, fun _ => True⟩, q.2) else none
  | _ => none
def iRange2 (fs : EvA) : EvI := fun η S => (fs η S).bind fun q => match q.1 with
  | [.int i, .int j] => if -(2 ^ 62) ≤ i ∧ i < 2 ^ 62 ∧ -(2 ^ 62) ≤ j ∧ j < 2 ^ 62 then some (⟨rangeD i (j - i).toNat, fun _ => True⟩, q.2) else none
  | _ => none
theorem itr_ok {C : Cf} {w : Wd} {lo : Int} {n : Nat} : ItOk C w (Itr lo n) (rangeD lo n) (fun _ => True) where
  go := fun i w1 S1 e s hc hi => by
    have : i < n := by simpa [rangeD] using hi
    exact this
  yld := fun i w1 S1 x H' e s hc hi ⟨h1, h2⟩ => by
    have hn : i < n := by simpa [rangeD] using hi
    exact ⟨w1, .int (lo + (i : Nat)), h1.symm, Le.refl _, s, rfl, rfl, by simp [rangeD, hn], by rw [h2]; exact .int _⟩
  stop := fun w1 S1 e s hc => by
    show n ≤ (rangeD lo n).length
    simp [rangeD]
theorem si_range1 {a : Expr} {fs : EvA} (hg : Gl X "range") (hm : X.mg "range" = none) (ha : SA fa X [a] fs) (hs : starEach [a] X.env = [(false, eval a X.env)] := by rfl) : SI fa X tg (.Call (.Name "range" p) [a] [] pos) (iRange1 fs) := by
  obtain ⟨t, q, h⟩ := ha.ex
  refine ⟨_, pi_range1 hg hm q hs, fun w σ η S I S' hη hS hf R hR => ?_⟩
  obtain ⟨⟨ds, S1⟩, h1, hf⟩ := bsome hf
  refine h w σ η S ds S1 hη hS h1 _ fun vs w1 e1 s1 r1 => ?_
  simp only at hf
  split at hf
  · split at hf
    · rename_i hz
      cases hf
      obtain ⟨v, rfl, r⟩ := r1.inv1
      cases r
      exact ⟨_, rfl, hz.1, hz.2, hR _ w1 e1 s1 itr_ok⟩
    · cases hf
  · cases hf
theorem si_range2 {a b : Expr} {fs : EvA} (hg : Gl X "range") (hm : X.mg "range" = none) (ha : SA fa X [a, b] fs) (hs : starEach [a, b] X.env = [(false, eval a X.env), (false, eval b X.env)] := by rfl) (hs2 : starEach [b] X.env = [(false, eval b X.env)] := by rfl) :
    SI fa X tg (.Call (.Name "range" p) [a, b] [] pos) (iRange2 fs) := by
  obtain ⟨t, q, h⟩ := ha.ex
  refine ⟨_, pi_range2 hg hm q hs hs2, fun w σ η S I S' hη hS hf R hR => ?_⟩
  obtain ⟨⟨ds, S1⟩, h1, hf⟩ := bsome hf
  refine h w σ η S ds S1 hη hS h1 _ fun vs w1 e1 s1 r1 => ?_
  simp only at hf
  split at hf
  · split at hf
    · rename_i hz
      cases hf
      obtain ⟨v, u, rfl, r, r2⟩ := r1.inv2
      cases r; cases r2
      exact ⟨_, _, rfl, hz, hR _ w1 e1 s1 itr_ok⟩
    · cases hf
  · cases hf
def zipD (xs ys : List D) : List D := (xs.zip ys).map fun p => .pr [p.1, p.2]
def iZip (fs : EvA) : EvI := fun η S => (fs η S).bind fun q => match q.1 with
  | [a, b] => if isTup a = isTup b then (seqOf q.2 a).bind fun xs => (seqOf q.2 b).bind fun ys => some (⟨zipD xs ys, fun S => seqOf S a = some xs ∧ seqOf S b = some ys⟩, q.2) else none
  | _ => none
end

abbrev Tg := D → Env → Option Env
structure SG (fa : String → Option Addr) (X : Cx) (tg : Expr) (f : Tg) (ts : List Nat) : Prop where
  ex : ∃ g, PG X tg g ∧ ∀ w σ η S d v η', RepE (cf fa X) w η σ → Sim (cf fa X) w S → Rep (cf fa X) w d v → f d η = some η' →
    ∀ Q : L2.St → Hp → Prop, (∀ σ', RepE (cf fa X) w η' σ' → σ'.length = σ.length → (∀ j, j ∉ ts → σ'[j]? = σ[j]?) → Q σ' w.H) → g v σ w.H Q
structure SGs (fa : String → Option Addr) (X : Cx) (tgs : List Expr) (f : List D → Env → Option Env) (ts : List Nat) : Prop where
  ex : ∃ g, PGs X tgs g ∧ ∀ w σ η S ds vs η', RepE (cf fa X) w η σ → Sim (cf fa X) w S → RepL (cf fa X) w ds vs → f ds η = some η' →
    ∀ Q : L2.St → Hp → Prop, (∀ σ', RepE (cf fa X) w η' σ' → σ'.length = σ.length → (∀ j, j ∉ ts → σ'[j]? = σ[j]?) → Q σ' w.H) → g vs σ w.H Q
def gN (i : Nat) : Tg := fun d η => some (η.set i (some d))
def gNil : List D → Env → Option Env := fun ds η => match ds with
  | [] => some η
  | _ => none
def gCons (f : Tg) (g : List D → Env → Option Env) : List D → Env → Option Env := fun ds η => match ds with
  | d :: ds => (f d η).bind fun η' => g ds η'
  | _ => none
def gT (n : Nat) (f : List D → Env → Option Env) : Tg := fun d η => match d with
  | .tup ds => if ds.length = n then f ds η else none
  | .pr ds => if ds.length = n then f ds η else none
  | _ => none
section
variable {fa : String → Option Addr} {X : Cx} {pos : Pos}
theorem sg_name {i : Nat} {x : Str} (hN : X.N.Nodup) (hi : X.N[i]? = some x) (hx : Loc X.env.scope x) (hf : X.fn x = true ∨ X.env.scope.names.lookup x = some .local := by first | exact .inl rfl | exact .inr rfl | assumption) : SG fa X (.Name x pos) (gN i) [i] :=
  ⟨gName i, pg_name hN hi hx hf, fun w σ η S d v η' hη hS r h Q hQ => by
    cases h
    exact hQ _ (hη.set r) List.length_set fun j hj => List.getElem?_set_ne (by rintro rfl; exact hj (by simp))⟩
theorem sgs_nil : SGs fa X [] gNil [] := ⟨L2.gNil, pgs_nil, fun w σ η S ds vs η' hη hS r h Q hQ => by
  cases r with
  | nil =>
    cases h
    exact ⟨rfl, hQ σ hη rfl fun _ _ => rfl⟩
  | cons => cases h⟩
theorem sgs_cons {e : Expr} {es : List Expr} {f : Tg} {g : List D → Env → Option Env} {ts us : List Nat} (h1 : SG fa X e f ts) (h2 : SGs fa X es g us)
    (hs : (assignEach (e :: es) X.env).map (·.2) = assign e X.env :: (assignEach es X.env).map (·.2) := by rfl) : SGs fa X (e :: es) (gCons f g) (ts ++ us) := by
  obtain ⟨t, p, h1⟩ := h1.ex
  obtain ⟨u, q, h2⟩ := h2.ex
  refine ⟨L2.gCons t u, pgs_cons p q hs, fun w σ η S ds vs η' hη hS r h Q hQ => ?_⟩
  cases r with
  | nil => cases h
  | cons r rs =>
    obtain ⟨η1, h3, h4⟩ := bsome h
    refine ⟨_, _, rfl, h1 w σ η S _ _ η1 hη hS r h3 _ fun σ1 hη1 l1 k1 => h2 w σ1 η1 S _ _ η' hη1 hS rs h4 Q fun σ2 hη2 l2 k2 => hQ σ2 hη2 (l2.trans l1) fun j hj => ?_⟩
    rw [k2 j (fun z => hj (List.mem_append_right _ z)), k1 j (fun z => hj (List.mem_append_left _ z))]
theorem sg_tup {es : List Expr} {k : Nat} {f : List D → Env → Option Env} {n : Nat} {ts : List Nat} (hc : X.calm = true) (h : SGs fa X es f ts)
    (hn : (assignEach es X.env).length = n := by rfl) (hst : (assignEach es X.env).findIdx? (·.1) = none := by rfl) : SG fa X (.Tuple es k pos) (gT n f) ts := by
  obtain ⟨t, p, h⟩ := h.ex
  refine ⟨gTup X.K n t, pg_tup hc p hn hst, fun w σ η S d v η' hη hS r hf Q hQ => ?_⟩
  unfold gT at hf
  split at hf
  · split at hf
    · rename_i hl
      obtain ⟨q, vs, rfl, hv, rv⟩ := r.tupH
      exact ⟨q, vs, rfl, hv, by rw [← rv.length]; exact hl, h w σ η S _ vs η' hη hS rv hf Q hQ⟩
    · cases hf
  · split at hf
    · rename_i hl
      cases r with
      | pr hv hp rv => exact ⟨_, _, rfl, .inl (.inl hv), by rw [← rv.length]; exact hl, h w σ η S _ _ η' hη hS rv hf Q hQ⟩
    · cases hf
  · cases hf
end

inductive Fl where
  | nx | bk | ct | ret (d : D)
abbrev Sv := Env → Sto → Option (Fl × Env × Sto)
def SPost (C : Cf) (w : Wd) (fl : Fl) (η : Env) (S : Sto) (Dn : Ends) : Prop := match fl with
  | .nx => ∀ σ' w', Le w w' → Sim C w' S → RepE C w' η σ' → Dn.nx σ' w'.H
  | .bk => ∀ σ' w', Le w w' → Sim C w' S → RepE C w' η σ' → Dn.bk σ' w'.H
  | .ct => ∀ σ' w', Le w w' → Sim C w' S → RepE C w' η σ' → Dn.ct σ' w'.H
  | .ret d => ∀ v w', Le w w' → Sim C w' S → Rep C w' d v → Dn.rt v w'.H
theorem SPost.mono {C : Cf} {w w' : Wd} {fl : Fl} {η : Env} {S : Sto} {Dn : Ends} (e : Le w w') (h : SPost C w fl η S Dn) : SPost C w' fl η S Dn := by
  cases fl with
  | nx => exact fun σ w2 e2 => h σ w2 (e.trans e2)
  | bk => exact fun σ w2 e2 => h σ w2 (e.trans e2)
  | ct => exact fun σ w2 e2 => h σ w2 (e.trans e2)
  | ret d => exact fun v w2 e2 => h v w2 (e.trans e2)
structure SS (fa : String → Option Addr) (X : Cx) (st : Stmt) (g : Sv) : Prop where
  ex : ∃ t, PS X st t ∧ ∀ w σ η S fl η' S', RepE (cf fa X) w η σ → Sim (cf fa X) w S → g η S = some (fl, η', S') → ∀ Dn : Ends, SPost (cf fa X) w fl η' S' Dn → t Dn σ w.H
structure SSs (fa : String → Option Addr) (X : Cx) (st : List Stmt) (g : Sv) : Prop where
  ex : ∃ t, PSs X st t ∧ ∀ w σ η S fl η' S', RepE (cf fa X) w η σ → Sim (cf fa X) w S → g η S = some (fl, η', S') → ∀ Dn : Ends, SPost (cf fa X) w fl η' S' Dn → t Dn σ w.H
def sNil : Sv := fun η S => some (.nx, η, S)
def sSeq (f g : Sv) : Sv := fun η S => (f η S).bind fun p => match p.1 with
  | .nx => g p.2.1 p.2.2
  | _ => some p
section
variable {fa : String → Option Addr} {X : Cx} {M : PM} {st : Stmt} {sts : List Stmt} {f g : Sv} {e : Expr} {fe : Ev} {pos : Pos}
theorem sss_nil : SSs fa X [] sNil := ⟨tNext, pss_nil, fun w σ η S fl η' S' hη hS hf Dn hD => by
  cases hf
  exact hD σ w (Le.refl w) hS hη⟩
theorem sss_cons (h1 : SS fa X st f) (h2 : SSs fa X sts g) : SSs fa X (st :: sts) (sSeq f g) := by
  obtain ⟨t, p, h1⟩ := h1.ex
  obtain ⟨u, q, h2⟩ := h2.ex
  refine ⟨tSeq t u, pss_cons p q, fun w σ η S fl η' S' hη hS hf Dn hD => ?_⟩
  obtain ⟨⟨fl1, η1, S1⟩, h3, hf⟩ := bsome hf
  refine h1 w σ η S fl1 η1 S1 hη hS h3 _ ?_
  cases fl1 with
  | nx => exact fun σ' w' e s hη' => h2 w' σ' η1 S1 fl η' S' hη' s hf Dn (hD.mono e)
  | bk => cases hf; exact hD
  | ct => cases hf; exact hD
  | ret d => cases hf; exact hD
theorem sss_one (h1 : SS fa X st f) : SSs fa X [st] f := let ⟨t, p, h⟩ := h1.ex; ⟨t, pss_one p, h⟩
def sRet (f : Ev) : Sv := fun η S => (f η S).bind fun p => some (.ret p.1, η, p.2)
theorem ss_ret (h : SE fa X e fe) : SS fa X (.Return (some e) pos) (sRet fe) := by
  obtain ⟨t, p, h⟩ := h.ex
  refine ⟨tRet t, ps_ret p, fun w σ η S fl η' S' hη hS hf Dn hD => ?_⟩
  obtain ⟨⟨d, S1⟩, h3, hf⟩ := bsome hf
  cases hf
  exact h w σ η S d S1 hη hS h3 _ hD
def sRetN : Sv := fun η S => some (.ret .non, η, S)
def sBk : Sv := fun η S => some (.bk, η, S)
def sCt : Sv := fun η S => some (.ct, η, S)
def sExp (f : Ev) : Sv := fun η S => (f η S).bind fun p => some (.nx, η, p.2)
theorem ss_expr (h : SE fa X e fe) (hs : swapsWith e none pos.line X.env = pure false := by rfl) : SS fa X (.Expr e pos) (sExp fe) := by
  obtain ⟨t, p, h⟩ := h.ex
  refine ⟨tDrop t, ps_expr p hs, fun w σ η S fl η' S' hη hS hf Dn hD => ?_⟩
  obtain ⟨⟨d, S1⟩, h3, hf⟩ := bsome hf
  cases hf
  exact h w σ η S d S1 hη hS h3 _ fun v w' e s r => hD σ w' e s (hη.mono e.f)
def sIf (c : EvB) (f g : Sv) : Sv := fun η S => (c η S).bind fun p => if p.1 then f η p.2 else g η p.2
theorem ss_if {c : Expr} {tc : EvB} {a b : List Stmt} (hc : ST fa X c tc) (ha : SSs fa X a f) (hb : SSs fa X b g) : SS fa X (.If c a b pos) (sIf tc f g) := by
  obtain ⟨t, p, hc⟩ := hc.ex
  obtain ⟨ta, pa, ha⟩ := ha.ex
  obtain ⟨tb, pb, hb⟩ := hb.ex
  refine ⟨tIfS t ta tb, ps_if p pa pb, fun w σ η S fl η' S' hη hS hf Dn hD => ?_⟩
  obtain ⟨⟨k, S1⟩, h1, hf⟩ := bsome hf
  refine hc w σ η S k S1 hη hS h1 _ fun w1 e1 s1 => ?_
  cases k with
  | true => exact ha w1 σ η S1 fl η' S' (hη.mono e1.f) s1 (by simpa using hf) Dn (hD.mono e1)
  | false => exact hb w1 σ η S1 fl η' S' (hη.mono e1.f) s1 (by simpa using hf) Dn (hD.mono e1)
/-- name = e -/
def sSet (i : Nat) (f : Ev) : Sv := fun η S => (f η S).bind fun p => some (.nx, η.set i (some p.1), p.2)
theorem ss_set {i : Nat} {x : Str} {pos' : Pos} (hN : X.N.Nodup) (hi : X.N[i]? = some x) (hx : Loc X.env.scope x) (he : SE fa X e fe) (hs : swapsWith e (some (.Name x pos')) pos.line X.env = pure false := by rfl) (hf : X.fn x = true ∨ X.env.scope.names.lookup x = some .local := by first | exact .inl rfl | exact .inr rfl | assumption) :
    SS fa X (.Assign [.Name x pos'] e pos) (sSet i fe) := by
  obtain ⟨t, p, h⟩ := he.ex
  refine ⟨_, ps_set hN hi hx p hs hf, fun w σ η S fl η' S' hη hS hf Dn hD => ?_⟩
  obtain ⟨⟨d, S1⟩, h3, hf⟩ := bsome hf
  cases hf
  exact h w σ η S d S1 hη hS h3 _ fun v w' e s r => hD _ w' e s ((hη.mono e.f).set r)
/-- a target = e -/
def sAsg (g : Tg) (f : Ev) : Sv := fun η S => (f η S).bind fun p => (g p.1 η).bind fun η' => some (.nx, η', p.2)
theorem ss_asg {tg : Expr} {ts : List Nat} {gf : Tg} (he : SE fa X e fe) (hg : SG fa X tg gf ts) (hs : swapsWithSole [tg] e pos.line X.env = pure false := by rfl) (hw : swappedStores [tg] e X.env = pure none := by rfl)
    (h1 : (assignEach [tg] X.env).map (·.2) = [assign tg X.env] := by rfl) : SS fa X (.Assign [tg] e pos) (sAsg gf fe) := by
  obtain ⟨t, p, h⟩ := he.ex
  obtain ⟨u, q, hg⟩ := hg.ex
  refine ⟨tAsg t u, ps_asg p q hs hw h1, fun w σ η S fl η' S' hη hS hf Dn hD => ?_⟩
  obtain ⟨⟨d, S1⟩, h3, hf⟩ := bsome hf
  obtain ⟨η1, h4, hf⟩ := bsome hf
  cases hf
  exact h w σ η S d S1 hη hS h3 _ fun v w' e s r => hg w' σ η _ d v _ (hη.mono e.f) s r h4 _ fun σ' hη' _ _ => hD σ' w' e s hη'
/-- a, b = x, y -/
def sPar (i j : Nat) (fs : EvA) : Sv := fun η S => (fs η S).bind fun p => match p.1 with
  | [a, b] => some (.nx, (η.set i (some a)).set j (some b), p.2)
  | _ => none
open Classical in
noncomputable def forR (chk : Sto → Prop) (tg : Tg) (body : Sv) : List D → Env → Sto → Option (Fl × Env × Sto)
  | [], η, S => if chk S then some (.nx, η, S) else none
  | x :: xs, η, S => if chk S then (tg x η).bind fun η1 => (body η1 S).bind fun p => match p.1 with
    | .nx => forR chk tg body xs p.2.1 p.2.2
    | .ct => forR chk tg body xs p.2.1 p.2.2
    | .bk => some (.nx, p.2)
    | .ret d => some (.ret d, p.2) else none
noncomputable def sFor (it : EvI) (tg : Tg) (body : Sv) : Sv := fun η S => (it η S).bind fun p => forR p.1.chk tg body p.1.xs η p.2
theorem ss_for {tg iter : Expr} {body : List Stmt} {it : EvI} {gf : Tg} {ts : List Nat} (hp : PassesOwn (model X.prog X.w) X.A X.env X.xe) (hc : X.calm = true) (hi : SI fa X tg iter it) (hg : SG fa X tg gf ts) (hb : SSs fa X body f)
    (hs : ∀ x, foldedSetIterable iter X.env x = pure x := by intro _; rfl) : SS fa X (.For tg iter body [] pos) (sFor it gf f) := by
  obtain ⟨wi, q, hi⟩ := hi.ex
  obtain ⟨u, q2, hg⟩ := hg.ex
  obtain ⟨tb, q3, hb⟩ := hb.ex
  refine ⟨tFor wi u tb, ps_for hp hc q q2 q3 hs, fun w σ η S fl η' S' hη hS hf Dn hD => ?_⟩
  obtain ⟨⟨⟨xs, chk⟩, S1⟩, h3, hf⟩ := bsome hf
  refine hi w σ η S _ S1 hη hS h3 _ fun J w1 e1 s1 hJ => ?_
  have hJ : ItOk (cf fa X) w1 J xs chk := hJ
  have hf : forR chk gf f xs η S1 = some (fl, η', S') := hf
  refine ⟨fun i m σ H => ∃ w2 S2 η2, w2.H = H ∧ Le w1 w2 ∧ Sim (cf fa X) w2 S2 ∧ RepE (cf fa X) w2 η2 σ ∧ forR chk gf f (xs.drop i) η2 S2 = some (fl, η', S') ∧ i ≤ xs.length ∧ m = xs.length - i,
    ⟨xs.length, w1, S1, η, rfl, Le.refl _, s1, hη.mono e1.f, hf, Nat.zero_le _, rfl⟩, ?_⟩
  rintro i m σ2 H ⟨w2, S2, η2, rfl, e2, s2, hη2, hr, hi, rfl⟩
  by_cases hlt : i < xs.length
  · refine .inr ?_
    rw [List.drop_eq_getElem_cons hlt] at hr
    unfold forR at hr
    split at hr
    · rename_i hck
      obtain ⟨η3, h4, hr⟩ := bsome hr
      obtain ⟨⟨fl4, η4, S4⟩, h5, hr⟩ := bsome hr
      refine ⟨hJ.go i w2 S2 e2.f s2 hck hlt, fun σ' H' => ∃ w5 S5 η5, w5.H = H' ∧ Le w1 w5 ∧ Sim (cf fa X) w5 S5 ∧ RepE (cf fa X) w5 η5 σ' ∧ forR chk gf f (xs.drop (i + 1)) η5 S5 = some (fl, η', S'), ?_, ?_⟩
      · rintro σ' H' ⟨w5, S5, η5, h6, h7, h8, h9, h10⟩
        exact ⟨xs.length - (i + 1), by omega, w5, S5, η5, h6, h7, h8, h9, h10, hlt, rfl⟩
      · intro x H' hy
        obtain ⟨w3, d, rfl, e3, s3, _, _, hd, rd⟩ := hJ.yld i w2 S2 x H' e2.f s2 hck hlt hy
        rw [List.getElem?_eq_getElem hlt] at hd
        cases hd
        refine hg w3 σ2 η2 S2 _ x η3 (hη2.mono e3.f) s3 rd h4 _ fun σ3 hη3 _ _ => ?_
        refine hb w3 σ3 η3 S2 fl4 η4 S4 hη3 s3 h5 _ ?_
        cases fl4 with
        | nx => exact fun σ' w5 e5 s5 hη5 => ⟨w5, S4, η4, rfl, (e2.trans e3).trans e5, s5, hη5, hr⟩
        | ct => exact fun σ' w5 e5 s5 hη5 => ⟨w5, S4, η4, rfl, (e2.trans e3).trans e5, s5, hη5, hr⟩
        | bk =>
          cases hr
          exact hD.mono ((e1.trans e2).trans e3)
        | ret d =>
          cases hr
          exact hD.mono ((e1.trans e2).trans e3)
    · cases hr
  · have e : i = xs.length := by omega
    subst e
    rw [List.drop_length] at hr
    unfold forR at hr
    split at hr
    · rename_i hck
      cases hr
      exact .inl ⟨hJ.stop w2 _ e2.f s2 hck, hD σ2 w2 (e1.trans e2) s2 hη2⟩
    · cases hr
def whR (c : EvB) (body : Sv) : Nat → Env → Sto → Option (Fl × Env × Sto)
  | 0, _, _ => none
  | n + 1, η, S => (c η S).bind fun q => if q.1 then (body η q.2).bind fun p => match p.1 with
    | .nx => whR c body n p.2.1 p.2.2
    | .ct => whR c body n p.2.1 p.2.2
    | .bk => some (.nx, p.2)
    | .ret d => some (.ret d, p.2) else some (.nx, η, q.2)
def sWhile (n : Nat) (c : EvB) (body : Sv) : Sv := fun η S => whR c body n η S
theorem ss_while {c : Expr} {body : List Stmt} {tc : EvB} (n : Nat) (hp : PassesOwn (model X.prog X.w) X.A X.env X.xe) (hc : ST fa X c tc) (hb : SSs fa X body f) : SS fa X (.While c body [] pos) (sWhile n tc f) := by
  obtain ⟨t, q, hc⟩ := hc.ex
  obtain ⟨tb, q3, hb⟩ := hb.ex
  refine ⟨tWhile t tb, ps_while hp q q3, fun w σ η S fl η' S' hη hS hf Dn hD => ?_⟩
  refine ⟨fun m σ H => ∃ w2 S2 η2, w2.H = H ∧ Le w w2 ∧ Sim (cf fa X) w2 S2 ∧ RepE (cf fa X) w2 η2 σ ∧ whR tc f m η2 S2 = some (fl, η', S'), ⟨n, w, S, η, rfl, Le.refl _, hS, hη, hf⟩, ?_⟩
  rintro m σ2 H ⟨w2, S2, η2, rfl, e2, s2, hη2, hr⟩
  cases m with
  | zero => cases hr
  | succ m =>
    unfold whR at hr
    obtain ⟨⟨k, S3⟩, h3, hr⟩ := bsome hr
    refine hc w2 σ2 η2 S2 k S3 hη2 s2 h3 _ fun w3 e3 s3 => ?_
    cases k with
    | false =>
      simp only [Bool.false_eq_true, if_false] at hr ⊢
      cases hr
      exact hD σ2 w3 (e2.trans e3) s3 (hη2.mono e3.f)
    | true =>
      simp only [if_true] at hr ⊢
      obtain ⟨⟨fl4, η4, S4⟩, h5, hr⟩ := bsome hr
      refine ⟨fun σ' H' => ∃ w5 S5 η5, w5.H = H' ∧ Le w w5 ∧ Sim (cf fa X) w5 S5 ∧ RepE (cf fa X) w5 η5 σ' ∧ whR tc f m η5 S5 = some (fl, η', S'), ?_, ?_⟩
      · rintro σ' H' h
        exact ⟨m, Nat.lt_succ_self m, h⟩
      · refine hb w3 σ2 η2 S3 fl4 η4 S4 (hη2.mono e3.f) s3 h5 _ ?_
        cases fl4 with
        | nx => exact fun σ' w5 e5 s5 hη5 => ⟨w5, S4, η4, rfl, (e2.trans e3).trans e5, s5, hη5, hr⟩
        | ct => exact fun σ' w5 e5 s5 hη5 => ⟨w5, S4, η4, rfl, (e2.trans e3).trans e5, s5, hη5, hr⟩
        | bk =>
          cases hr
          exact hD.mono (e2.trans e3)
        | ret d =>
          cases hr
          exact hD.mono (e2.trans e3)
end
end HS
namespace HS
open PySem L2
def tOf (C : Cf) (M : PM) (f : Ev) : TE := fun σ H Q => ∃ w η S d S', w.H = H ∧ RepE C w η σ ∧ Sim C w S ∧ f η S = some (d, S') ∧ M C w d S' Q
def ttOf (C : Cf) (f : EvB) : TT := fun σ H Q => ∃ w η S b S', w.H = H ∧ RepE C w η σ ∧ Sim C w S ∧ f η S = some (b, S') ∧ ∀ w', Le w w' → Sim C w' S' → Q b w'.H
def gOf (C : Cf) (tg : Tg) (ts : List Nat) : TG := fun v σ H Q => ∃ w η S d η', w.H = H ∧ RepE C w η σ ∧ Sim C w S ∧ Rep C w d v ∧ tg d η = some η' ∧ ∀ σ', RepE C w η' σ' → σ'.length = σ.length → (∀ j, j ∉ ts → σ'[j]? = σ[j]?) → Q σ' H
def iOf (C : Cf) (it : EvI) : TI := fun σ H R => ∃ w η S I S', w.H = H ∧ RepE C w η σ ∧ Sim C w S ∧ it η S = some (I, S') ∧ ∀ J w', Le w w' → Sim C w' S' → ItOk C w' J I.xs I.chk → R J w'.H
section
variable {fa : String → Option Addr} {X : Cx} {M : PM} {e tg iter : Expr} {f : Ev} {tf : EvB} {gf : Tg} {ts : List Nat} {it : EvI}
theorem SEm.canon (h : SEm fa M X e f) : PE X e (tOf (cf fa X) M f) := by
  obtain ⟨t, p, h⟩ := h.ex
  exact ⟨fun pins s σ H Q I ⟨w, η, S, d, S', e1, h1, h2, h3, h4⟩ => p.run pins s σ H Q I (by subst e1; exact h w σ η S d S' h1 h2 h3 Q h4)⟩
theorem ST.canon (h : ST fa X e tf) : PT X e (ttOf (cf fa X) tf) := by
  obtain ⟨t, p, h⟩ := h.ex
  exact ⟨fun pins s σ H Q I ⟨w, η, S, d, S', e1, h1, h2, h3, h4⟩ => p.run pins s σ H Q I (by subst e1; exact h w σ η S d S' h1 h2 h3 Q h4)⟩
theorem SG.canon (h : SG fa X tg gf ts) : PG X tg (gOf (cf fa X) gf ts) := by
  obtain ⟨t, p, h⟩ := h.ex
  exact ⟨fun pins s σ H v u Q I r ⟨w, η, S, d, η', e1, h1, h2, h3, h4, h5⟩ => p.run pins s σ H v u Q I r (by subst e1; exact h w σ η S d v η' h1 h2 h3 h4 Q h5)⟩
theorem SI.canon (h : SI fa X tg iter it) : PI X tg iter (iOf (cf fa X) it) := by
  obtain ⟨t, p, h⟩ := h.ex
  exact ⟨fun pins s σ H R I ⟨w, η, S, K, S', e1, h1, h2, h3, h4⟩ => p.run pins s σ H R I (by subst e1; exact h w σ η S K S' h1 h2 h3 R h4)⟩
/-- a clause's tests -/
structure STs (fa : String → Option Addr) (X : Cx) (ifs : List Expr) (f : EvB) : Prop where
  can : PTs X ifs (ttOf (cf fa X) f)
def tYesE : EvB := fun _ S => some (true, S)
theorem sts_nil : STs fa X [] tYesE := ⟨⟨fun pins s σ H Q I ⟨w, η, S, b, S', e1, h1, h2, h3, h4⟩ => by
  cases h3
  subst e1
  exact pts_nil.run pins s σ w.H Q I (h4 w (Le.refl w) h2)⟩⟩
theorem sts_one (h : ST fa X e tf) : STs fa X [e] tf := ⟨pts_one h.canon⟩
end
def wipeE (η : Env) : List Nat → Env
  | [] => η
  | v :: vs => (wipeE η vs).set v none
theorem RepE.wipe {C : Cf} {w : Wd} {η : Env} {σ : L2.St} (h : RepE C w η σ) : ∀ vs : List Nat, RepE C w (wipeE η vs) (L2.wipe σ vs)
  | [] => h
  | v :: vs => by
    have ih := RepE.wipe h vs
    unfold wipeE L2.wipe
    refine ⟨by rw [List.length_set, List.length_set]; exact ih.1, fun i d e => ?_⟩
    by_cases hi : v = i
    · subst hi
      by_cases hv : v < (wipeE η vs).length
      · rw [List.getElem?_set_self hv] at e; cases e
      · rw [List.getElem?_eq_none (by simpa using hv)] at e; cases e
    · rw [List.getElem?_set_ne hi] at e ⊢
      exact ih.2 i d e
theorem wipe_get {σ : L2.St} {j : Nat} : ∀ {vs : List Nat}, j ∉ vs → (L2.wipe σ vs)[j]? = σ[j]?
  | [], _ => rfl
  | v :: vs, h => by
    unfold L2.wipe
    rw [List.getElem?_set_ne (fun e => h (by rw [e]; exact List.mem_cons_self))]
    exact wipe_get fun z => h (List.mem_cons_of_mem _ z)
theorem wipe_in {σ : L2.St} {j : Nat} : ∀ {vs : List Nat}, j ∈ vs → j < σ.length → (L2.wipe σ vs)[j]? = some none
  | v :: vs, h, hl => by
    unfold L2.wipe
    by_cases e : v = j
    · subst e
      exact List.getElem?_set_self (by rw [wipe_length]; exact hl)
    · rw [List.getElem?_set_ne e]
      exact wipe_in ((List.mem_cons.mp h).resolve_left (Ne.symm e)) hl
theorem wipe_eq {σ σ2 : L2.St} {vs : List Nat} (hl : σ2.length = σ.length) (h : ∀ j, j ∉ vs → σ2[j]? = σ[j]?) : L2.wipe σ2 vs = L2.wipe σ vs := by
  apply List.ext_getElem?
  intro j
  by_cases hj : j ∈ vs
  · by_cases hlt : j < σ.length
    · rw [wipe_in hj hlt, wipe_in hj (by rw [hl]; exact hlt)]
    · rw [List.getElem?_eq_none (by rw [wipe_length, hl]; omega), List.getElem?_eq_none (by rw [wipe_length]; omega)]
  · rw [wipe_get hj, wipe_get hj, h j hj]

open Classical in
noncomputable def lcR (chk : Sto → Prop) (tg : Tg) (tt : EvB) (fe : Ev) (η0 : Env) : List D → List D → Sto → Option (List D × Sto)
  | [], acc, S => if chk S then some (acc, S) else none
  | x :: xs, acc, S => if chk S then (tg x η0).bind fun η1 => (tt η1 S).bind fun q =>
      if q.1 then (fe η1 q.2).bind fun r => if acc.length < SZ then lcR chk tg tt fe η0 xs (acc ++ [r.1]) r.2 else none
      else lcR chk tg tt fe η0 xs acc q.2 else none
noncomputable def eLc (it : EvI) (vs : List Nat) (tg : Tg) (tt : EvB) (fe : Ev) : Ev := fun η S => (it η S).bind fun p =>
  (lcR p.1.chk tg tt fe (wipeE η vs) p.1.xs [] p.2).bind fun q => some (.lst q.1, q.2)
/-- the list so far stands at D, where nothing else looks -/
structure DD (C : Cf) (w : Wd) (D : Addr) (acc : List HS.D) : Prop where
  l : D ∈ w.L
  m : D ∉ w.mu
  o : ∃ vs, w.H D = some (.lst vs) ∧ RepL C w acc vs
theorem DD.mono {C : Cf} {w w' : Wd} {D : Addr} {acc : List HS.D} (h : DD C w D acc) (e : Le w w') : DD C w' D acc := by
  obtain ⟨vs, h1, h2⟩ := h.o
  exact ⟨e.hold D h.l, e.notmu h1 h.m, vs, e.keep D _ h1 h.m, h2.mono e.f⟩
section
variable {C : Cf} {w0 wS wJ : Wd} {J : It} {xs acc ys : List D} {chk : Sto → Prop} {D : Addr} {gf : Tg} {ts vs : List Nat} {tt : EvB} {fe : Ev} {η : Env} {σ : L2.St} {S1 S' : Sto} {Qd : Hp → Prop}
theorem lc_loop (hJ : ItOk C wJ J xs chk) (hts : ∀ j ∈ ts, j ∈ vs) (hn : w0.H D = none) (e0 : Le w0 wS) (eJ : LeF wJ wS) (s : Sim C wS S1) (hη : RepE C wS η σ) (dd : DD C wS D acc) (run : lcR chk gf tt fe (wipeE η vs) xs acc S1 = some (ys, S'))
    (hQ : ∀ w', Le w0 w' → LeF wS w' → Sim C w' S' → DD C w' D ys → Qd w'.H) :
    ∃ W : Nat → Nat → Hp → Prop, (∃ m, W 0 m wS.H) ∧ ∀ i m H, W i m H → (J.stop i H ∧ Qd H) ∨ (J.go i H ∧ ∃ Nx : Hp → Prop, (∀ H', Nx H' → ∃ m', m' < m ∧ W (i + 1) m' H') ∧
      ∀ x H', J.yld i H x H' → gOf C gf ts x (L2.wipe σ vs) H' fun σ2 H2 => L2.wipe σ2 vs = L2.wipe σ vs ∧ ttOf C tt σ2 H2 fun b H3 =>
        if b = true then tOf C Post fe σ2 H3 fun y H4 => ∃ acc, H4 D = some (.lst acc) ∧ acc.length < sizeLine ∧ Nx (upd H4 D (.lst (acc ++ [y]))) else Nx H3) := by
  refine ⟨fun i m H => ∃ w1 S1 acc, w1.H = H ∧ Le w0 w1 ∧ LeF wS w1 ∧ Sim C w1 S1 ∧ DD C w1 D acc ∧ lcR chk gf tt fe (wipeE η vs) (xs.drop i) acc S1 = some (ys, S') ∧ i ≤ xs.length ∧ m = xs.length - i,
    ⟨xs.length, wS, S1, acc, rfl, e0, LeF.refl _, s, dd, run, Nat.zero_le _, rfl⟩, ?_⟩
  rintro i m H ⟨w1, S1, acc, rfl, e1, f1, s1, d1, hr, hi, rfl⟩
  by_cases hlt : i < xs.length
  · refine .inr ?_
    rw [List.drop_eq_getElem_cons hlt] at hr
    unfold lcR at hr
    split at hr
    · rename_i hck
      obtain ⟨η1, h1, hr⟩ := bsome hr
      obtain ⟨⟨b, S3⟩, h2, hr⟩ := bsome hr
      refine ⟨hJ.go i w1 S1 (eJ.trans f1) s1 hck hlt, fun H' => ∃ w5 S5 acc, w5.H = H' ∧ Le w0 w5 ∧ LeF wS w5 ∧ Sim C w5 S5 ∧ DD C w5 D acc ∧ lcR chk gf tt fe (wipeE η vs) (xs.drop (i + 1)) acc S5 = some (ys, S'), ?_, ?_⟩
      · rintro H' ⟨w5, S5, acc5, a1, a2, a3, a4, a5, a6⟩
        exact ⟨xs.length - (i + 1), by omega, w5, S5, acc5, a1, a2, a3, a4, a5, a6, hlt, rfl⟩
      · intro x H' hy
        obtain ⟨w2, d, rfl, e2, s2, _, _, hd, rd⟩ := hJ.yld i w1 S1 x H' (eJ.trans f1) s1 hck hlt hy
        rw [List.getElem?_eq_getElem hlt] at hd
        cases hd
        refine ⟨w2, wipeE η vs, S1, _, η1, rfl, (hη.mono (f1.trans e2.f)).wipe vs, s2, rd, h1, fun σ2 hη2 hl2 k2 => ⟨?_, ?_⟩⟩
        · refine wipe_eq (hl2.trans (wipe_length _ _)) fun j hj => ?_
          rw [k2 j (fun z => hj (hts j z)), wipe_get hj]
        · refine ⟨w2, η1, S1, b, S3, rfl, hη2, s2, h2, fun w3 e3 s3 => ?_⟩
          cases b with
          | false =>
            simp only [Bool.false_eq_true, if_false] at hr ⊢
            exact ⟨w3, S3, acc, rfl, (e1.trans e2).trans e3, f1.trans (e2.trans e3).f, s3, d1.mono (e2.trans e3), hr⟩
          | true =>
            simp only [if_true] at hr ⊢
            obtain ⟨⟨y, S4⟩, h3, hr⟩ := bsome hr
            split at hr
            · rename_i hz
              refine ⟨w3, η1, S3, y, S4, rfl, hη2.mono e3.f, s3, h3, fun v w4 e4 s4 r4 => ?_⟩
              have d4 := d1.mono ((e2.trans e3).trans e4)
              obtain ⟨us, h4, h5⟩ := d4.o
              have fc : LeF w4 ⟨w4.mu, w4.L, upd w4.H D (.lst (us ++ [v]))⟩ := LeF.chg (List.mem_append_right _ d4.l) h4
              refine ⟨us, h4, by rw [← h5.length]; exact sz_lt hz, ⟨w4.mu, w4.L, upd w4.H D (.lst (us ++ [v]))⟩, S4, acc ++ [y], rfl, (((e1.trans e2).trans e3).trans e4).chg hn, (f1.trans ((e2.trans e3).trans e4).f).trans fc, s4.chg d4.l d4.m h4,
                ⟨d4.l, d4.m, _, upd_same, (h5.snoc r4).mono fc⟩, hr⟩
            · cases hr
    · cases hr
  · have e : i = xs.length := by omega
    subst e
    rw [List.drop_length] at hr
    unfold lcR at hr
    split at hr
    · rename_i hck
      cases hr
      exact .inl ⟨hJ.stop w1 _ (eJ.trans f1) s1 hck, hQ w1 e1 f1 s1 d1⟩
    · cases hr
end
/-- what the end of a comprehension gives -/
theorem PostO.lc {C : Cf} {w w' : Wd} {ys : List D} {S' : Sto} {D : Addr} {Q : VK} (h : PostO C w (.lst ys) S' Q) (e : Le w w') (hn : w.H D = none) (s : Sim C w' S') (d : DD C w' D ys) : Q (.ref D) w'.H :=
  h D w' e s hn d.l d.m d.o
theorem Post.lc {C : Cf} {w w' : Wd} {ys : List D} {S S' : Sto} {D : Addr} {Q : VK} (h : Post C w (.lst ys) S' Q) (hS : Sim C w S) (e : Le w w') (hn : w.H D = none) (s : Sim C w' S') (d : DD C w' D ys) : Q (.ref D) w'.H := by
  obtain ⟨vs, h1, h2⟩ := d.o
  refine h (.ref D) ⟨w'.mu, outL w'.L D, w'.H⟩ (e.drop fun z => hS.fresh hn (List.mem_append_right _ z)) (s.less outL_sub) (.lst h1 (fun z => ?_) (h2.mono (LeF.less outL_sub)))
  rcases List.mem_append.mp z with z | z
  · exact d.m z
  · exact outL_not z
class PmLc (M : PM) : Prop extends PmOk M where
  lc : ∀ {C : Cf} {w w' : Wd} {ys : List D} {S S' : Sto} {D : Addr} {Q : VK}, M C w (.lst ys) S' Q → Sim C w S → Le w w' → w.H D = none → Sim C w' S' → DD C w' D ys → Q (.ref D) w'.H
instance : PmLc Post := ⟨fun h hS e hn s d => h.lc hS e hn s d⟩
instance : PmLc PostO := ⟨fun h _ e hn s d => h.lc e hn s d⟩
section
variable {fa : String → Option Addr} {X : Cx} {M : PM} {elt tg iter : Expr} {ifs : List Expr} {scope : Scope} {own : List (Str × Nat)} {pos : Pos} {it : EvI} {gf : Tg} {ts : List Nat} {tt : EvB} {fe : Ev}
theorem lc_sem [PmLc M] {wi : TI} (hi : ∀ w σ η S I S', RepE (cf fa X) w η σ → Sim (cf fa X) w S → it η S = some (I, S') → ∀ R : It → Hp → Prop, (∀ J w', Le w w' → Sim (cf fa X) w' S' → ItOk (cf fa X) w' J I.xs I.chk → R J w'.H) → wi σ w.H R)
    {vs : List Nat} (hts : ∀ j ∈ ts, j ∈ vs) : ∀ w σ η S d S', RepE (cf fa X) w η σ → Sim (cf fa X) w S → eLc it vs gf tt fe η S = some (d, S') → ∀ Q : VK, M (cf fa X) w d S' Q →
      tLc wi (gOf (cf fa X) gf ts) (ttOf (cf fa X) tt) (tOf (cf fa X) Post fe) vs σ w.H Q := by
  intro w σ η S d S' hη hS hf Q hQ
  obtain ⟨⟨I, S1⟩, h1, hf⟩ := bsome hf
  obtain ⟨⟨ys, S2⟩, h2, hf⟩ := bsome hf
  cases hf
  refine hi w σ η S I S1 hη hS h1 _ fun J w1 e1 s1 hJ D hD => ?_
  have hDw : w.H D = none := e1.dom D hD
  exact lc_loop (wS := ⟨w1.mu, D :: w1.L, upd w1.H D (.lst [])⟩) hJ hts hDw (e1.trans (Le.newL hD)) (Le.newL hD).f (s1.newL hD) ((hη.mono e1.f).mono (Le.newL hD).f) ⟨List.mem_cons_self, s1.freshm hD, [], upd_same, .nil⟩ h2
    fun w' e' _ s' d' => PmLc.lc hQ hS e' hDw s' d'
theorem se_lc [PmLc M] (hc : X.calm = true) (hN : X.N.Nodup) (hi : SI fa X tg iter it) (ok : BlkOk X.N X.env.scope scope own)
    (hg : ∀ (s : Shared) (H : Hp) (C : Addr) (cl : List (Str × Addr)) (fp : List Addr), SG fa (X.blk s H scope (compEnvC scope cl C X.env) fp) tg gf ts) (hts : ∀ j ∈ ts, j ∈ own.map (·.2))
    (ht : ∀ (s : Shared) (H : Hp) (C : Addr) (cl : List (Str × Addr)) (fp : List Addr), STs fa (X.blk s H scope (compEnvC scope cl C X.env) fp) ifs tt)
    (he : ∀ (s : Shared) (H : Hp) (C : Addr) (cl : List (Str × Addr)) (fp : List Addr), SE fa (X.blk s H scope (compEnvC scope cl C X.env) fp) elt fe) (hs : ∀ x, foldedSetIterable iter X.env x = pure x := by intro _; rfl) :
    SEm fa M X (.ListComp elt [⟨tg, iter, ifs, 0⟩] scope pos) (eLc it (own.map (·.2)) gf tt fe) := by
  obtain ⟨wi, p, hi⟩ := hi.ex
  exact ⟨_, pe_lc (g := gOf (cf fa X) gf ts) (tt := ttOf (cf fa X) tt) (te := tOf (cf fa X) Post fe) hc hN p ok (fun s H C cl fp => (hg s H C cl fp).canon) (fun s H C cl fp => (ht s H C cl fp).can) (fun s H C cl fp => (he s H C cl fp).canon) hs, lc_sem hi hts⟩
/-- name = [..] -/
theorem ss_setLc {i : Nat} {y : Str} {py spos : Pos} (hc : X.calm = true) (hN : X.N.Nodup) (hy : X.N[i]? = some y) (hyl : X.env.scope.names.lookup y = some .local)
    (hsw : swapsWith (.ListComp elt [⟨tg, iter, ifs, 0⟩] scope pos) (some (.Name y py)) spos.line X.env = pure true) (hi : SI fa X tg iter it) (ok : BlkOk X.N X.env.scope scope own)
    (hg : ∀ (s : Shared) (H : Hp) (C : Addr) (cl : List (Str × Addr)) (fp : List Addr), SG fa (X.blk s H scope (compEnvC scope cl C X.env) fp) tg gf ts) (hts : ∀ j ∈ ts, j ∈ own.map (·.2))
    (ht : ∀ (s : Shared) (H : Hp) (C : Addr) (cl : List (Str × Addr)) (fp : List Addr), STs fa (X.blk s H scope (compEnvC scope cl C X.env) fp) ifs tt)
    (he : ∀ (s : Shared) (H : Hp) (C : Addr) (cl : List (Str × Addr)) (fp : List Addr), SE fa (X.blk s H scope (compEnvC scope cl C X.env) fp) elt fe) (hs : ∀ x, foldedSetIterable iter X.env x = pure x := by intro _; rfl) :
    SS fa X (.Assign [.Name y py] (.ListComp elt [⟨tg, iter, ifs, 0⟩] scope pos) spos) (sSet i (eLc it (own.map (·.2)) gf tt fe)) := by
  obtain ⟨wi, p, hi⟩ := hi.ex
  refine ⟨_, ps_setLc (g := gOf (cf fa X) gf ts) (tt := ttOf (cf fa X) tt) (te := tOf (cf fa X) Post fe) hc hN hy hyl hsw p ok (fun s H C cl fp => (hg s H C cl fp).canon) (fun s H C cl fp => (ht s H C cl fp).can) (fun s H C cl fp => (he s H C cl fp).canon) hs, fun w σ η S fl η' S' hη hS hf Dn hD => ?_⟩
  obtain ⟨⟨d, S1⟩, h3, hf⟩ := bsome hf
  cases hf
  exact lc_sem (M := Post) hi hts w σ η S d S1 hη hS h3 _ fun v w' e s r => hD _ w' e s ((hη.mono e.f).set r)
/-- name = [..], the list put into the store -/
theorem ss_setLcA {i : Nat} {y : Str} {py spos : Pos} (hc : X.calm = true) (hN : X.N.Nodup) (hy : X.N[i]? = some y) (hyl : X.env.scope.names.lookup y = some .local)
    (hsw : swapsWith (.ListComp elt [⟨tg, iter, ifs, 0⟩] scope pos) (some (.Name y py)) spos.line X.env = pure true) (hi : SI fa X tg iter it) (ok : BlkOk X.N X.env.scope scope own)
    (hg : ∀ (s : Shared) (H : Hp) (C : Addr) (cl : List (Str × Addr)) (fp : List Addr), SG fa (X.blk s H scope (compEnvC scope cl C X.env) fp) tg gf ts) (hts : ∀ j ∈ ts, j ∈ own.map (·.2))
    (ht : ∀ (s : Shared) (H : Hp) (C : Addr) (cl : List (Str × Addr)) (fp : List Addr), STs fa (X.blk s H scope (compEnvC scope cl C X.env) fp) ifs tt)
    (he : ∀ (s : Shared) (H : Hp) (C : Addr) (cl : List (Str × Addr)) (fp : List Addr), SE fa (X.blk s H scope (compEnvC scope cl C X.env) fp) elt fe) (hs : ∀ x, foldedSetIterable iter X.env x = pure x := by intro _; rfl) :
    SS fa X (.Assign [.Name y py] (.ListComp elt [⟨tg, iter, ifs, 0⟩] scope pos) spos) (sSet i (eAl (eLc it (own.map (·.2)) gf tt fe))) := by
  obtain ⟨wi, p, hi⟩ := hi.ex
  refine ⟨_, ps_setLc (g := gOf (cf fa X) gf ts) (tt := ttOf (cf fa X) tt) (te := tOf (cf fa X) Post fe) hc hN hy hyl hsw p ok (fun s H C cl fp => (hg s H C cl fp).canon) (fun s H C cl fp => (ht s H C cl fp).can) (fun s H C cl fp => (he s H C cl fp).canon) hs, fun w σ η S fl η' S' hη hS hf Dn hD => ?_⟩
  obtain ⟨⟨d, S1⟩, h3, hf⟩ := bsome hf
  obtain ⟨⟨d0, S0⟩, h4, h5⟩ := bsome h3
  cases h5
  cases hf
  refine lc_sem (M := PostO) hi hts w σ η S d0 S0 hη hS h4 _ fun p w' le s n hl hm o => ?_
  exact hD _ ⟨w'.mu ++ [p], w'.L, w'.H⟩ (le.grow n hl) (s.grow hm hl o) (((hη.mono le.f).mono (LeF.grow hl)).set (.ref (by
    show (w'.mu ++ [p])[S0.length]? = some p
    rw [← s.len, List.getElem?_append_right (Nat.le_refl _)]
    simp)))
end
end HS
namespace HS
open PySem L2
open Classical in
noncomputable def lc2R (chk : Sto → Prop) (tg : Tg) (tt : EvB) (it1 : EvI) (vs1 : List Nat) (tg1 : Tg) (tt1 : EvB) (fe : Ev) (η0 : Env) : List D → List D → Sto → Option (List D × Sto)
  | [], acc, S => if chk S then some (acc, S) else none
  | x :: xs, acc, S => if chk S then (tg x η0).bind fun η1 => (tt η1 S).bind fun q =>
      if q.1 then (it1 η1 q.2).bind fun p => (lcR p.1.chk tg1 tt1 fe (wipeE η1 vs1) p.1.xs acc p.2).bind fun r => lc2R chk tg tt it1 vs1 tg1 tt1 fe η0 xs r.1 r.2
      else lc2R chk tg tt it1 vs1 tg1 tt1 fe η0 xs acc q.2 else none
noncomputable def eLc2 (it : EvI) (vs : List Nat) (tg : Tg) (tt : EvB) (it1 : EvI) (vs1 : List Nat) (tg1 : Tg) (tt1 : EvB) (fe : Ev) : Ev := fun η S => (it η S).bind fun p =>
  (lc2R p.1.chk tg tt it1 vs1 tg1 tt1 fe (wipeE η vs) p.1.xs [] p.2).bind fun q => some (.lst q.1, q.2)
section
variable {fa : String → Option Addr} {X : Cx} {M : PM} {elt tg iter tg1 iter1 : Expr} {ifs ifs1 : List Expr} {scope : Scope} {own : List (Str × Nat)} {pos : Pos} {it it1 : EvI} {gf gf1 : Tg} {ts ts1 vs1 : List Nat} {tt tt1 : EvB} {fe : Ev}
theorem se_lc2 [PmLc M] (hc : X.calm = true) (hN : X.N.Nodup) (hi : SI fa X tg iter it) (ok : BlkOk X.N X.env.scope scope own) (hv : ∀ i ∈ vs1, i ∈ own.map (·.2))
    (hg : ∀ (s : Shared) (H : Hp) (C : Addr) (cl : List (Str × Addr)) (fp : List Addr), SG fa (X.blk s H scope (compEnvC scope cl C X.env) fp) tg gf ts) (hts : ∀ j ∈ ts, j ∈ own.map (·.2))
    (ht : ∀ (s : Shared) (H : Hp) (C : Addr) (cl : List (Str × Addr)) (fp : List Addr), STs fa (X.blk s H scope (compEnvC scope cl C X.env) fp) ifs tt)
    (hi1 : ∀ (s : Shared) (H : Hp) (C : Addr) (cl : List (Str × Addr)) (fp : List Addr), SI fa (X.blk s H scope (compEnvC scope cl C X.env) fp) tg1 iter1 it1)
    (hg1 : ∀ (s : Shared) (H : Hp) (C : Addr) (cl : List (Str × Addr)) (fp : List Addr), SG fa (X.blk s H scope (compEnvC scope cl C X.env) fp) tg1 gf1 ts1) (hts1 : ∀ j ∈ ts1, j ∈ vs1)
    (ht1 : ∀ (s : Shared) (H : Hp) (C : Addr) (cl : List (Str × Addr)) (fp : List Addr), STs fa (X.blk s H scope (compEnvC scope cl C X.env) fp) ifs1 tt1)
    (he : ∀ (s : Shared) (H : Hp) (C : Addr) (cl : List (Str × Addr)) (fp : List Addr), SE fa (X.blk s H scope (compEnvC scope cl C X.env) fp) elt fe) (hs : ∀ x, foldedSetIterable iter X.env x = pure x := by intro _; rfl) (hs1 : ∀ env x, foldedSetIterable iter1 env x = pure x := by intro _ _; rfl) :
    SEm fa M X (.ListComp elt [⟨tg, iter, ifs, 0⟩, ⟨tg1, iter1, ifs1, 0⟩] scope pos) (eLc2 it (own.map (·.2)) gf tt it1 vs1 gf1 tt1 fe) := by
  obtain ⟨wi, p, hi⟩ := hi.ex
  refine ⟨_, pe_lc2 (g := gOf (cf fa X) gf ts) (tt := ttOf (cf fa X) tt) (wi1 := iOf (cf fa X) it1) (g1 := gOf (cf fa X) gf1 ts1) (tt1 := ttOf (cf fa X) tt1) (te := tOf (cf fa X) Post fe) hc hN p ok hv (fun s H C cl fp => (hg s H C cl fp).canon) (fun s H C cl fp => (ht s H C cl fp).can)
    (fun s H C cl fp => (hi1 s H C cl fp).canon) (fun s H C cl fp => (hg1 s H C cl fp).canon) (fun s H C cl fp => (ht1 s H C cl fp).can) (fun s H C cl fp => (he s H C cl fp).canon) hs hs1, fun w σ η S d S' hη hS hf Q hQ => ?_⟩
  obtain ⟨⟨⟨xs, chk⟩, S1⟩, h1, hf⟩ := bsome hf
  obtain ⟨⟨ys, S2⟩, h2, hf⟩ := bsome hf
  cases hf
  refine hi w σ η S _ S1 hη hS h1 _ fun J wJ eJ sJ hJ D hD => ?_
  have hJ : ItOk (cf fa X) wJ J xs chk := hJ
  have run : lc2R chk gf tt it1 vs1 gf1 tt1 fe (wipeE η (own.map (·.2))) xs [] S1 = some (ys, S2) := h2
  have hn : w.H D = none := eJ.dom D hD
  refine ⟨fun i m H => ∃ w1 S1 acc, w1.H = H ∧ Le w w1 ∧ LeF wJ w1 ∧ Sim (cf fa X) w1 S1 ∧ DD (cf fa X) w1 D acc ∧ lc2R chk gf tt it1 vs1 gf1 tt1 fe (wipeE η (own.map (·.2))) (xs.drop i) acc S1 = some (ys, S2) ∧ i ≤ xs.length ∧ m = xs.length - i,
    ⟨xs.length, ⟨wJ.mu, D :: wJ.L, upd wJ.H D (.lst [])⟩, S1, [], rfl, eJ.trans (Le.newL hD), (Le.newL hD).f, sJ.newL hD, ⟨List.mem_cons_self, sJ.freshm hD, [], upd_same, .nil⟩, run, Nat.zero_le _, rfl⟩, ?_⟩
  rintro i m H ⟨w1, S1, acc, rfl, e1, f1, s1, d1, hr, hi, rfl⟩
  by_cases hlt : i < xs.length
  · refine .inr ?_
    rw [List.drop_eq_getElem_cons hlt] at hr
    unfold lc2R at hr
    split at hr
    · rename_i hck
      obtain ⟨η1, h1, hr⟩ := bsome hr
      obtain ⟨⟨b, S3⟩, h2, hr⟩ := bsome hr
      refine ⟨hJ.go i w1 S1 f1 s1 hck hlt, fun H' => ∃ w5 S5 acc, w5.H = H' ∧ Le w w5 ∧ LeF wJ w5 ∧ Sim (cf fa X) w5 S5 ∧ DD (cf fa X) w5 D acc ∧ lc2R chk gf tt it1 vs1 gf1 tt1 fe (wipeE η (own.map (·.2))) (xs.drop (i + 1)) acc S5 = some (ys, S2), ?_, ?_⟩
      · rintro H' ⟨w5, S5, acc5, a1, a2, a3, a4, a5, a6⟩
        exact ⟨xs.length - (i + 1), by omega, w5, S5, acc5, a1, a2, a3, a4, a5, a6, hlt, rfl⟩
      · intro x H' hy
        obtain ⟨w2, d, rfl, e2, s2, _, _, hd, rd⟩ := hJ.yld i w1 S1 x H' f1 s1 hck hlt hy
        rw [List.getElem?_eq_getElem hlt] at hd
        cases hd
        refine ⟨w2, wipeE η (own.map (·.2)), S1, _, η1, rfl, ((hη.mono eJ.f).mono (f1.trans e2.f)).wipe _, s2, rd, h1, fun σ2 hη2 hl2 k2 => ⟨?_, ?_⟩⟩
        · refine wipe_eq (hl2.trans (wipe_length _ _)) fun j hj => ?_
          rw [k2 j (fun z => hj (hts j z)), wipe_get hj]
        · refine ⟨w2, η1, S1, b, S3, rfl, hη2, s2, h2, fun w3 e3 s3 => ?_⟩
          cases b with
          | false =>
            simp only [Bool.false_eq_true, if_false] at hr ⊢
            exact ⟨w3, S3, acc, rfl, (e1.trans e2).trans e3, f1.trans (e2.trans e3).f, s3, d1.mono (e2.trans e3), hr⟩
          | true =>
            simp only [if_true] at hr ⊢
            obtain ⟨⟨⟨xs1, chk1⟩, S4⟩, h3, hr⟩ := bsome hr
            obtain ⟨⟨acc5, S5⟩, h4, hr⟩ := bsome hr
            refine ⟨w3, η1, S3, _, S4, rfl, hη2.mono e3.f, s3, h3, fun J1 w4 e4 s4 hJ1 => ?_⟩
            exact lc_loop (w0 := w) (wS := w4) (wJ := w4) hJ1 hts1 hn (((e1.trans e2).trans e3).trans e4) (LeF.refl _) s4 ((hη2.mono e3.f).mono e4.f) (d1.mono ((e2.trans e3).trans e4)) h4
              fun w5 a1 a2 a3 a4 => ⟨w5, S5, acc5, rfl, a1, (f1.trans ((e2.trans e3).trans e4).f).trans a2, a3, a4, hr⟩
    · cases hr
  · have e : i = xs.length := by omega
    subst e
    rw [List.drop_length] at hr
    unfold lc2R at hr
    split at hr
    · rename_i hck
      cases hr
      exact .inl ⟨hJ.stop w1 _ f1 s1 hck, PmLc.lc hQ hS e1 hn s1 d1⟩
    · cases hr
end
abbrev EvO := Env → Sto → Option (Option Int × Sto)
structure SOp (fa : String → Option Addr) (X : Cx) (e : Option Expr) (f : EvO) : Prop where
  ex : ∃ t, PO X e t ∧ ∀ w σ η S o S', RepE (cf fa X) w η σ → Sim (cf fa X) w S → f η S = some (o, S') → ∀ Q : Option Int → Hp → Prop, (∀ w', Le w w' → Sim (cf fa X) w' S' → Q o w'.H) → t σ w.H Q
def oNo : EvO := fun _ S => some (none, S)
def oSo (f : Ev) : EvO := fun η S => (f η S).bind fun p => match p.1 with
  | .int i => some (some i, p.2)
  | _ => none
def cutL {α : Type} (xs : List α) (lo hi : Option Int) : List α := (xs.drop (HT.sIx xs.length 0 lo)).take (HT.sIx xs.length xs.length hi - HT.sIx xs.length 0 lo)
def slD (S : Sto) (d : D) (lo hi : Option Int) : Option D := match d with
  | .tup xs => some (.tup (cutL xs lo hi))
  | .str x => if x.length ≤ SZ then some (.str (cutS x lo hi)) else none
  | d => (lstOf S d).bind fun xs => some (.lst (cutL xs lo hi))
def slL (S : Sto) (d : D) (lo hi : Option Int) : Option D := (lstOf S d).bind fun xs => some (.lst (cutL xs lo hi))
def eSl (g : Sto → D → Option Int → Option Int → Option D) (f : Ev) (lo hi : EvO) : Ev := fun η S => (f η S).bind fun p => (lo η p.2).bind fun q => (hi η q.2).bind fun r => (g r.2 p.1 q.1 r.1).bind fun d => some (d, r.2)
theorem RepL.cut {C : Cf} {w : Wd} {ds : List D} {vs : List V} (r : RepL C w ds vs) (lo hi : Option Int) : RepL C w (cutL ds lo hi) (cutV vs lo hi) := by
  unfold cutL cutV
  rw [r.length]
  exact (r.drop _).take _
section
variable {fa : String → Option Addr} {X : Cx} {M : PM} {e : Expr} {lo hi : Option Expr} {pos p2 : Pos} {f : Ev} {fl fh : EvO}
theorem sop_none : SOp fa X none oNo := ⟨tNoPart, po_none, fun w σ η S o S' hη hS hf Q hQ => by
  cases hf
  exact hQ w (Le.refl w) hS⟩
theorem sop_some (h : SE fa X e f) : SOp fa X (some e) (oSo f) := by
  obtain ⟨t, p, h⟩ := h.ex
  refine ⟨tPart t, po_some p, fun w σ η S o S' hη hS hf Q hQ => ?_⟩
  obtain ⟨⟨d, S1⟩, h1, hf⟩ := bsome hf
  cases d with
  | int i =>
    cases hf
    exact h w σ η S _ _ hη hS h1 _ fun v w' e s r => by
      cases r
      exact ⟨i, rfl, hQ w' e s⟩
  | _ => cases hf
theorem sl_core [PmOk M] {g : Sto → D → Option Int → Option Int → Option D} {r : V → Option Int → Option Int → Hp → VK → Prop} (sem : ∀ w S a x l u d, Sim (cf fa X) w S → Rep (cf fa X) w a x → g S a l u = some d → ∀ Q : VK, M (cf fa X) w d S Q → r x l u w.H Q)
    (hr : SlR X r) (he : SE fa X e f) (hl : SOp fa X lo fl) (hh : SOp fa X hi fh) : SEm fa M X (.Subscript e (.Slice lo hi none p2) pos) (eSl g f fl fh) := by
  obtain ⟨t, p, he⟩ := he.ex
  obtain ⟨tl, pl, hl⟩ := hl.ex
  obtain ⟨th, ph, hh⟩ := hh.ex
  refine ⟨_, pe_slice hr p pl ph, fun w σ η S d S' hη hS hf Q hQ => ?_⟩
  obtain ⟨⟨a, S1⟩, h1, hf⟩ := bsome hf
  obtain ⟨⟨l, S2⟩, h2, hf⟩ := bsome hf
  obtain ⟨⟨u, S3⟩, h3, hf⟩ := bsome hf
  obtain ⟨d1, h4, hf⟩ := bsome hf
  cases hf
  exact he w σ η S a S1 hη hS h1 _ fun x w1 e1 s1 r1 => hl w1 σ η S1 l S2 (hη.mono e1.f) s1 h2 _ fun w2 e2 s2 => hh w2 σ η S2 u S3 ((hη.mono e1.f).mono e2.f) s2 h3 _ fun w3 e3 s3 =>
    sem w3 S3 a x l u d s3 ((r1.mono e2.f).mono e3.f) h4 Q (PmOk.mono ((e1.trans e2).trans e3) hQ)
/-- t[lo:hi]: the object of a new tuple is known -/
def rSlF (K : PySem.W.Frag) : V → Option Int → Option Int → Hp → VK → Prop := fun x lo hi H Q => ∃ a xs, x = .ref a ∧ SqT K H a xs ∧
  (HT.sIx xs.length 0 lo = 0 ∧ HT.sIx xs.length xs.length hi = xs.length → Q (.ref a) H) ∧ (¬ (HT.sIx xs.length 0 lo = 0 ∧ HT.sIx xs.length xs.length hi = xs.length) → ∀ p o, H p = none → o.dict = none → Q (.ref p) (upd H p (.frz o (.tup (cutV xs lo hi)))))
theorem sl_tupF : SlR X (rSlF X.K) := by
  intro pins s σ H x v vl vu lo hi sl Q I rx hs pl pu ⟨a, xs, ex, hx, q1, q2⟩
  subst ex
  by_cases hw : HT.sIx xs.length 0 lo = 0 ∧ HT.sIx xs.length xs.length hi = xs.length
  · exact sl_tupA pins s σ H _ v vl vu lo hi sl Q I rx hs pl pu ⟨a, xs, rfl, hx, q1, fun z => absurd hw z⟩
  · cases rx
    obtain ⟨its, r, ht, hz⟩ := I.tuple hx
    have hlen : its.toArray.size = xs.length := by rw [List.size_toArray]; exact r.length.symm
    refine ⟨"tuple", _, PyProof.Rows.slot_tuple_getitem.lookup, ht.typeIs, HT.getItem_tuple_cut ht hs pl pu (by rw [hlen]; exact hw) ?_ (by rw [hlen]; exact hz)⟩
    rw [hlen]
    exact ep_tup (t' := s.toks) I (fun b ob q => Heap.get?_push_of_some _ q) (Nat.le_refl _) (Heap.get?_push_size _ rfl) rfl (Nat.le_trans (cutV_length xs lo hi) hz) ((r.drop (HT.sIx xs.length 0 lo)).take (HT.sIx xs.length xs.length hi - HT.sIx xs.length 0 lo)) (PyProof.Rows.IsTup.new _ _) (q2 hw)
theorem se_sl (he : SE fa X e f) (hl : SOp fa X lo fl) (hh : SOp fa X hi fh) : SE fa X (.Subscript e (.Slice lo hi none p2) pos) (eSl slD f fl fh) := by
  refine sl_core (r := fun x l u H Q => rSlL X.K x l u H Q ∨ (rSlF X.K x l u H Q ∨ rSlS x l u H Q)) (fun w S a x l u d hS ra hg Q hQ => ?_) (SlR.or sl_list (SlR.or sl_tupF sl_str)) he hl hh
  unfold slD at hg
  split at hg
  · cases hg
    obtain ⟨p, vs, rfl, e, r⟩ := id ra.tupH
    refine .inr (.inl ⟨p, vs, rfl, e, fun hw => ?_, fun hw q o hq hd => Post.newTup hQ hS (r.cut l u) hq hd⟩)
    rename_i xs
    have e2 : cutL xs l u = xs := by
      unfold cutL
      rw [r.length, hw.1, hw.2]
      simp [← r.length]
    rw [e2] at hQ
    exact hQ.here hS ra
  · split at hg
    · rename_i hz
      cases hg; cases ra
      exact .inr (.inr ⟨_, rfl, sz hz, hQ.here hS (.str _)⟩)
    · cases hg
  · obtain ⟨xs, h1, h2⟩ := bsome hg
    cases h2
    obtain ⟨p, vs, rfl, e, r⟩ := ra.lstH hS h1
    exact .inl ⟨p, vs, rfl, .inl (.inl e), fun q hq => Post.newLst hQ hS (r.cut l u) hq⟩
end

mutual
def clo (n : Nat) : D → Bool
  | .ref i => decide (i < n)
  | .tup xs => cloL n xs
  | .pr xs => cloL n xs
  | .lst xs => cloL n xs
  | .scr xs => cloL n xs
  | .dic kvs => cloK n kvs
  | .ins _ fs => cloF n fs
  | _ => true
def cloL (n : Nat) : List D → Bool
  | [] => true
  | x :: xs => clo n x && cloL n xs
def cloK (n : Nat) : List (D × D) → Bool
  | [] => true
  | (k, v) :: r => clo n k && clo n v && cloK n r
def cloF (n : Nat) : List (Str × D) → Bool
  | [] => true
  | (_, v) :: r => clo n v && cloF n r
end
def fzD : Nat → Nat → Sto → D → Option D
  | 0, _, _, _ => none
  | k + 1, n, S, d => match d with
    | .ref i => if i < n then some (.ref i) else (S[i]?).bind (fzD k n S)
    | .tup xs => (xs.mapM (fzD k n S)).map .tup
    | .lst xs => (xs.mapM (fzD k n S)).map .lst
    | .dic kvs => if (kvs.all fun x => clo n x.1) then (kvs.mapM fun x => (fzD k n S x.2).map fun y => (x.1, y)).map .dic else none
    | .ins c fs => (fs.mapM fun x => (fzD k n S x.2).map fun y => (x.1, y)).map (.ins c)
    | .scr xs => if cloL n xs then some (.scr xs) else none
    | .pr _ => none
    | d => some d
end HS
namespace HS
open PySem L2
/-- the caller's world behind a call: its own store and its own reserve -/
structure Bk (C : Cf) (w w' : Wd) (S' : Sto) (E : List Addr) : Prop where
  le : Le w w'
  sim : Sim C w' S'
  trk : ∀ q ∈ w.F, ∃ o, w.H q = some o
  eF : ∀ q ∈ E, q ∈ w'.F
  eN : ∀ q ∈ E, w.H q = none
abbrev bkW (w w' : Wd) (E : List Addr) : Wd := ⟨w.mu, E ++ w.L, w'.H⟩
theorem Bk.wF {C : Cf} {w w' : Wd} {S' : Sto} {E : List Addr} (b : Bk C w w' S' E) {p : Addr} (h : p ∉ w'.F) : p ∉ (bkW w w' E).F := fun z => h (by
  rcases List.mem_append.mp z with z | z
  · obtain ⟨i, h1, h2⟩ := List.mem_iff_getElem.mp z
    exact List.mem_append_left _ (List.mem_of_getElem? (b.le.mu i p (by rw [List.getElem?_eq_getElem h1, h2])))
  · rcases List.mem_append.mp z with z | z
    · exact b.eF p z
    · exact List.mem_append_right _ (b.le.hold p z))
theorem Bk.wle {C : Cf} {w w' : Wd} {S' : Sto} {E : List Addr} (b : Bk C w w' S' E) : Le w (bkW w w' E) := ⟨fun _ _ h => h, fun _ h => .inl h, fun q h => by
    rcases List.mem_append.mp h with z | z
    · exact .inl (List.mem_append_left _ z)
    · rcases List.mem_append.mp z with z | z
      · exact .inr (b.eN q z)
      · exact .inl (List.mem_append_right _ z), b.le.keep, b.le.dom, fun _ h => List.mem_append_right _ h⟩
theorem Bk.low {C : Cf} {w w' : Wd} {S' : Sto} {E : List Addr} (b : Bk C w w' S' E) {i : Nat} {p : Addr} (h : w'.mu[i]? = some p) (hi : i < w.mu.length) : w.mu[i]? = some p := by
  have := b.le.mu i w.mu[i] (List.getElem?_eq_getElem hi)
  rw [h] at this
  rw [List.getElem?_eq_getElem hi]
  exact this.symm
/-- a place of the callee's own is free for the caller -/
theorem Bk.high {C : Cf} {w w' : Wd} {S' : Sto} {E : List Addr} (b : Bk C w w' S' E) {i : Nat} {p : Addr} (h : w'.mu[i]? = some p) (hi : ¬ i < w.mu.length) : w.H p = none ∧ p ∉ w.F := by
  have hn : p ∉ w.mu := fun z => by
    obtain ⟨j, h1, h2⟩ := List.mem_iff_getElem.mp z
    have h3 := b.le.mu j p (by rw [List.getElem?_eq_getElem h1, h2])
    have h4 : i = j := (List.getElem_inj b.sim.nd).mp ((List.getElem?_eq_some_iff.mp h).2.trans (List.getElem?_eq_some_iff.mp h3).2.symm)
    omega
  rcases b.le.new p (List.mem_of_getElem? h) with z | z
  · exact absurd z hn
  · refine ⟨z, fun q => ?_⟩
    obtain ⟨o, e⟩ := b.trk p q
    rw [z] at e; cases e
theorem cloK_vals {n : Nat} : ∀ {kvs : List (D × D)}, cloK n kvs = true → cloL n (kvs.map (·.1)) = true ∧ cloL n (kvs.map (·.2)) = true
  | [], _ => ⟨rfl, rfl⟩
  | (k, v) :: r, h => by
    unfold cloK at h
    rw [Bool.and_eq_true, Bool.and_eq_true] at h
    obtain ⟨a, b⟩ := cloK_vals h.2
    refine ⟨?_, ?_⟩
    · rw [List.map_cons, cloL, Bool.and_eq_true]; exact ⟨h.1.1, a⟩
    · rw [List.map_cons, cloL, Bool.and_eq_true]; exact ⟨h.1.2, b⟩
theorem cloF_vals {n : Nat} : ∀ {fs : List (Str × D)}, cloF n fs = true → cloL n (fs.map (·.2)) = true
  | [], _ => rfl
  | (k, v) :: r, h => by
    unfold cloF at h
    rw [Bool.and_eq_true] at h
    rw [List.map_cons, cloL, Bool.and_eq_true]
    exact ⟨h.1, cloF_vals h.2⟩
/-- closed data stands in the caller's world -/
theorem Rep.bk {C : Cf} {w w' : Wd} {S' : Sto} {E : List Addr} (b : Bk C w w' S' E) {d : D} {v : V} (h : Rep C w' d v) : clo w.mu.length d = true → Rep C (bkW w w' E) d v :=
  Rep.rec (motive_1 := fun d v _ => clo w.mu.length d = true → Rep C (bkW w w' E) d v) (motive_2 := fun ds vs _ => cloL w.mu.length ds = true → RepL C (bkW w w' E) ds vs)
    (fun _ => .non) (fun b _ => .bl b) (fun i _ => .int i) (fun x _ => .str x) (fun n _ => .ty n) (fun h _ => .fn h) (fun h c => .ref (b.low h (by rw [clo] at c; exact of_decide_eq_true c)))
    (fun h hd hp _ r c => .tup h hd (b.wF hp) (r (by rw [clo] at c; exact c))) (fun h hd _ r c => .tupK h hd (r (by rw [clo] at c; exact c))) (fun h hp _ r c => .lst h (b.wF hp) (r (by rw [clo] at c; exact c))) (fun h hp _ r c => .frz h (b.wF hp) (r (by rw [clo] at c; exact c))) (fun h _ r c => .scrK h (r (by rw [clo] at c; exact c)))
    (fun m h hp k _ r c => .dicK m h (b.wF hp) k (r (by rw [clo] at c; exact (cloK_vals c).2))) (fun o m h hp k _ _ r1 r2 c => .dicT o m h (b.wF hp) k (r1 (by rw [clo] at c; exact (cloK_vals c).1)) (r2 (by rw [clo] at c; exact (cloK_vals c).2)))
    (fun h hp f n _ r c => .ins h (b.wF hp) f n (r (by rw [clo] at c; exact cloF_vals c))) (fun h hp _ r c => .pr h (b.wF hp) (r (by rw [clo] at c; exact c)))
    (fun _ => .nil) (fun _ _ r rs c => by
      rw [cloL, Bool.and_eq_true] at c
      exact .cons (r c.1) (rs c.2)) h
theorem RepL.bk {C : Cf} {w w' : Wd} {S' : Sto} {E : List Addr} (b : Bk C w w' S' E) : ∀ {ds : List D} {vs : List V}, RepL C w' ds vs → cloL w.mu.length ds = true → RepL C (bkW w w' E) ds vs
  | _, _, .nil, _ => .nil
  | _, _, .cons r rs, c => by
    rw [cloL, Bool.and_eq_true] at c
    exact .cons (r.bk b c.1) (RepL.bk b rs c.2)
theorem ObjRep.bk {C : Cf} {w w' : Wd} {S' : Sto} {E : List Addr} (b : Bk C w w' S' E) {p : Addr} {d : D} (h : ObjRep C w' p d) (c : clo w.mu.length d = true) : ObjRep C (bkW w w' E) p d := by
  cases d with
  | lst ds => rw [clo] at c; obtain ⟨vs, e, r⟩ := h; exact ⟨vs, e, r.bk b c⟩
  | dic kvs =>
    rw [clo] at c
    rcases h with ⟨m, e, k, r⟩ | ⟨o, m, e, k, r1, r2⟩
    · exact .inl ⟨m, e, k, r.bk b (cloK_vals c).2⟩
    · exact .inr ⟨o, m, e, k, r1.bk b (cloK_vals c).1, r2.bk b (cloK_vals c).2⟩
  | ins c' fs => rw [clo] at c; obtain ⟨a, dx, vs, e, f, n, r⟩ := h; exact ⟨a, dx, vs, e, f, n, r.bk b (cloF_vals c)⟩
  | _ => exact h.elim
theorem cloK_of {n : Nat} : ∀ {kvs : List (D × D)}, cloL n (kvs.map (·.1)) = true → cloL n (kvs.map (·.2)) = true → cloK n kvs = true
  | [], _, _ => rfl
  | (k, v) :: r, h1, h2 => by
    rw [List.map_cons, cloL, Bool.and_eq_true] at h1 h2
    rw [cloK, h1.1, h2.1, cloK_of h1.2 h2.2]; rfl
theorem cloF_of {n : Nat} : ∀ {kvs : List (Str × D)}, cloL n (kvs.map (·.2)) = true → cloF n kvs = true
  | [], _ => rfl
  | (k, v) :: r, h2 => by
    rw [List.map_cons, cloL, Bool.and_eq_true] at h2
    rw [cloF, h2.1, cloF_of h2.2]; rfl
theorem clo_keys {n : Nat} : ∀ {kvs : List (D × D)} {m : List (Key × V)}, (kvs.map fun x => keyD x.1) = (m.map fun x => some x.1) → cloL n (kvs.map (·.1)) = true
  | [], _, _ => rfl
  | (k, v) :: r, [], h => by simp at h
  | (k, v) :: r, x :: m, h => by
    rw [List.map_cons, List.map_cons, List.cons.injEq] at h
    rw [List.map_cons, cloL, clo_keys h.2, Bool.and_true]
    cases k <;> simp [keyD] at h <;> simp [clo]
/-- what stands in a world is closed there -/
theorem Rep.clo {C : Cf} {w : Wd} {d : D} {v : V} (h : Rep C w d v) : HS.clo w.mu.length d = true :=
  Rep.rec (motive_1 := fun d v _ => HS.clo w.mu.length d = true) (motive_2 := fun ds vs _ => cloL w.mu.length ds = true)
    (by simp [HS.clo]) (fun b => by simp [HS.clo]) (fun b => by simp [HS.clo]) (fun b => by simp [HS.clo]) (fun b => by simp [HS.clo]) (fun b => by simp [HS.clo]) (fun h => by rw [HS.clo]; exact decide_eq_true (List.getElem?_eq_some_iff.mp h).1)
    (fun _ _ _ _ r => by rw [HS.clo]; exact r) (fun _ _ _ r => by rw [HS.clo]; exact r) (fun _ _ _ r => by rw [HS.clo]; exact r) (fun _ _ _ r => by rw [HS.clo]; exact r) (fun _ _ r => by rw [HS.clo]; exact r)
    (fun m _ _ k _ r => by rw [HS.clo]; exact cloK_of (clo_keys k.1) r) (fun _ m _ _ k _ _ r1 r2 => by rw [HS.clo]; exact cloK_of r1 r2) (fun _ _ _ _ _ r => by rw [HS.clo]; exact cloF_of r) (fun _ _ _ r => by rw [HS.clo]; exact r)
    (by rw [cloL]) (fun _ _ r rs => by rw [cloL, r, rs]; rfl) h
theorem RepL.clo {C : Cf} {w : Wd} : ∀ {ds : List D} {vs : List V}, RepL C w ds vs → cloL w.mu.length ds = true
  | _, _, .nil => rfl
  | _, _, .cons r rs => by rw [cloL, r.clo, RepL.clo rs]; rfl
theorem ObjRep.clo {C : Cf} {w : Wd} {p : Addr} {d : D} (h : ObjRep C w p d) : HS.clo w.mu.length d = true := by
  cases d with
  | lst ds => obtain ⟨vs, e, r⟩ := h; rw [HS.clo]; exact r.clo
  | dic kvs =>
    rw [HS.clo]
    rcases h with ⟨m, e, k, r⟩ | ⟨o, m, e, k, r1, r2⟩
    · exact cloK_of (clo_keys k.1) r.clo
    · exact cloK_of r1.clo r2.clo
  | ins c' fs => obtain ⟨a, dx, vs, e, f, n, r⟩ := h; rw [HS.clo]; exact cloF_of r.clo
  | _ => exact h.elim
theorem ObjRepS.clo {C : Cf} {w : Wd} {p : Addr} {d : D} (h : ObjRepS C w p d) : HS.clo w.mu.length d = true := by
  rcases h.two with z | ⟨n, q, rfl, z⟩
  · exact z.clo
  · simp [tabD, HS.clo, HS.cloL]
theorem TabRep.bk {C : Cf} {w w' : Wd} {S' : Sto} {E : List Addr} (b : Bk C w w' S' E) {p : Addr} {n : String} {q : Str} (h : TabRep C w' p n q) : TabRep C (bkW w w' E) p n q := by
  obtain ⟨a, ps, e, t, f⟩ := h
  exact ⟨a, ps, e, t, fun pos cv z => let ⟨k, e1, e2, e3⟩ := f pos cv z; ⟨k, e1, e2, b.wF e3⟩⟩
theorem fzL_rep {C : Cf} {w w2 : Wd} {g : D → Option D} : ∀ {ds es : List D} {vs : List V}, (∀ d ∈ ds, ∀ v d', Rep C w d v → g d = some d' → Rep C w2 d' v) → RepL C w ds vs → ds.mapM g = some es → RepL C w2 es vs
  | [], _, _, _, .nil, h => by
    rw [List.mapM_nil] at h
    cases h
    exact .nil
  | d :: ds, _, _, ih, .cons r rs, h => by
    rw [List.mapM_cons] at h
    obtain ⟨y, h1, h2⟩ := bsome h
    obtain ⟨ys, h3, h4⟩ := bsome h2
    cases h4
    exact .cons (ih d List.mem_cons_self _ _ r h1) (fzL_rep (fun d hd => ih d (List.mem_cons_of_mem _ hd)) rs h3)
theorem fzV_split {α : Type} {g : D → Option D} : ∀ {kvs es : List (α × D)}, (kvs.mapM fun x => (g x.2).map fun y => (x.1, y)) = some es → es.map (·.1) = kvs.map (·.1) ∧ (kvs.map (·.2)).mapM g = some (es.map (·.2))
  | [], _, h => by
    rw [List.mapM_nil] at h
    cases h
    exact ⟨rfl, rfl⟩
  | x :: xs, _, h => by
    rw [List.mapM_cons] at h
    obtain ⟨y, h1, h2⟩ := bsome h
    obtain ⟨ys, h3, h4⟩ := bsome h2
    cases h4
    obtain ⟨z, h5, h6⟩ := Option.map_eq_some_iff.mp h1
    subst h6
    obtain ⟨a, b⟩ := fzV_split h3
    refine ⟨by rw [List.map_cons, List.map_cons, a], ?_⟩
    rw [List.map_cons, List.mapM_cons, h5]
    show ((xs.map (·.2)).mapM g).bind _ = _
    rw [b]; rfl
theorem cloL_keys {n : Nat} : ∀ {kvs : List (D × D)}, (kvs.all fun x => clo n x.1) = true → cloL n (kvs.map (·.1)) = true
  | [], _ => rfl
  | x :: xs, h => by
    rw [List.all_cons, Bool.and_eq_true] at h
    rw [List.map_cons, cloL, h.1, cloL_keys h.2]; rfl
mutual
theorem fzD_rep {C : Cf} {w w' : Wd} {S' : Sto} (b : Bk C w w' S' []) : ∀ (k : Nat) (d : D) (v : V) (d' : D), Rep C w' d v → fzD k w.mu.length S' d = some d' → Rep C (bkW w w' []) d' v
  | 0, _, _, _, _, h => by simp [fzD] at h
  | k + 1, .non, _, _, r, h => by cases h; cases r; exact .non
  | k + 1, .bl _, _, _, r, h => by cases h; cases r; exact .bl _
  | k + 1, .int _, _, _, r, h => by cases h; cases r; exact .int _
  | k + 1, .str _, _, _, r, h => by cases h; cases r; exact .str _
  | k + 1, .ty _, _, _, r, h => by cases h; cases r; exact .ty _
  | k + 1, .fn _, _, _, r, h => by
    cases h
    cases r with
    | fn h => exact .fn h
  | k + 1, .scr xs, _, _, r, h => by
    simp only [fzD] at h
    split at h
    · rename_i hc
      cases h
      exact r.bk b (by rw [clo]; exact hc)
    · cases h
  | k + 1, .tup xs, _, _, r, h => by
    simp only [fzD] at h
    obtain ⟨ys, h1, h2⟩ := Option.map_eq_some_iff.mp h
    subst h2
    cases r with
    | tup e hd hp r => exact .tup e hd (b.wF hp) (fzL_rep (fun d _ v d' => fzD_rep b k d v d') r h1)
    | tupK e hd r => exact .tupK e hd (fzL_rep (fun d _ v d' => fzD_rep b k d v d') r h1)
  | k + 1, .lst xs, _, _, r, h => by
    simp only [fzD] at h
    obtain ⟨ys, h1, h2⟩ := Option.map_eq_some_iff.mp h
    subst h2
    cases r with
    | lst e hp r => exact .lst e (b.wF hp) (fzL_rep (fun d _ v d' => fzD_rep b k d v d') r h1)
  | k + 1, .dic kvs, _, _, r, h => by
    simp only [fzD] at h
    split at h
    · rename_i hc
      obtain ⟨ys, h1, h2⟩ := Option.map_eq_some_iff.mp h
      subst h2
      obtain ⟨e1, e2⟩ := fzV_split h1
      have ek : ∀ {β : Type} (g : D → β), (ys.map fun x => g x.1) = (kvs.map fun x => g x.1) := fun g => by
        have := congrArg (List.map g) e1
        rwa [List.map_map, List.map_map] at this
      cases r with
      | dicK m e hp k' r => exact .dicK m e (b.wF hp) (by rw [ek]; exact k') (fzL_rep (fun d _ v d' => fzD_rep b k d v d') r e2)
      | dicT o m e hp k' r1 r => exact .dicT o m e (b.wF hp) (by rw [ek]; exact k') (by rw [e1]; exact r1.bk b (cloL_keys hc)) (fzL_rep (fun d _ v d' => fzD_rep b k d v d') r e2)
    · cases h
  | k + 1, .ins c fs, _, _, r, h => by
    simp only [fzD] at h
    obtain ⟨ys, h1, h2⟩ := Option.map_eq_some_iff.mp h
    subst h2
    obtain ⟨e1, e2⟩ := fzV_split h1
    cases r with
    | ins e hp f n r => exact .ins e (b.wF hp) f (by rw [e1]; exact n) (fzL_rep (fun d _ v d' => fzD_rep b k d v d') r e2)
  | k + 1, .ref i, _, _, r, h => by
    simp only [fzD] at h
    cases r with
    | ref hi =>
      split at h
      · rename_i hlt
        cases h
        exact .ref (b.low hi hlt)
      · rename_i hlt
        obtain ⟨c, h1, h2⟩ := bsome h
        obtain ⟨_, hF⟩ := b.high hi hlt
        rcases (b.sim.obj i _ c hi h1).two with ob | ⟨n, q, rfl, _⟩
        · exact fzO_rep b k c _ _ ob hF h2
        · cases k <;> simp [tabD, fzD] at h2
theorem fzO_rep {C : Cf} {w w' : Wd} {S' : Sto} (b : Bk C w w' S' []) : ∀ (k : Nat) (c : D) (p : Addr) (d' : D), ObjRep C w' p c → p ∉ w.F → fzD k w.mu.length S' c = some d' → Rep C (bkW w w' []) d' (.ref p)
  | 0, _, _, _, _, _, h => by simp [fzD] at h
  | k + 1, .lst xs, p, _, ob, hF, h => by
    simp only [fzD] at h
    obtain ⟨ys, h1, h2⟩ := Option.map_eq_some_iff.mp h
    subst h2
    obtain ⟨vs, e, r⟩ := ob
    exact .lst e hF (fzL_rep (fun d _ v d' => fzD_rep b k d v d') r h1)
  | k + 1, .dic kvs, p, _, ob, hF, h => by
    simp only [fzD] at h
    split at h
    · rename_i hc
      obtain ⟨ys, h1, h2⟩ := Option.map_eq_some_iff.mp h
      subst h2
      obtain ⟨e1, e2⟩ := fzV_split h1
      have ek : ∀ {β : Type} (g : D → β), (ys.map fun x => g x.1) = (kvs.map fun x => g x.1) := fun g => by
        have := congrArg (List.map g) e1
        rwa [List.map_map, List.map_map] at this
      rcases ob with ⟨m, e, k', r⟩ | ⟨o, m, e, k', r1, r⟩
      · exact .dicK m e hF (by rw [ek]; exact k') (fzL_rep (fun d _ v d' => fzD_rep b k d v d') r e2)
      · exact .dicT o m e hF (by rw [ek]; exact k') (by rw [e1]; exact r1.bk b (cloL_keys hc)) (fzL_rep (fun d _ v d' => fzD_rep b k d v d') r e2)
    · cases h
  | k + 1, .ins c fs, p, _, ob, hF, h => by
    simp only [fzD] at h
    obtain ⟨ys, h1, h2⟩ := Option.map_eq_some_iff.mp h
    subst h2
    obtain ⟨e1, e2⟩ := fzV_split h1
    obtain ⟨a, dx, vs, e, f, n, r⟩ := ob
    exact .ins e hF f (by rw [e1]; exact n) (fzL_rep (fun d _ v d' => fzD_rep b k d v d') r e2)
  | k + 1, .non, _, _, ob, _, _ => ob.elim
  | k + 1, .bl _, _, _, ob, _, _ => ob.elim
  | k + 1, .int _, _, _, ob, _, _ => ob.elim
  | k + 1, .str _, _, _, ob, _, _ => ob.elim
  | k + 1, .ty _, _, _, ob, _, _ => ob.elim
  | k + 1, .fn _, _, _, ob, _, _ => ob.elim
  | k + 1, .scr _, _, _, ob, _, _ => ob.elim
  | k + 1, .tup _, _, _, ob, _, _ => ob.elim
  | k + 1, .ref _, _, _, ob, _, _ => ob.elim
end
/-- the caller's objects behind a call: as they were, or closed -/
def okEnd (n : Nat) (S S' : Sto) : Prop := ∀ i, i < n → S'[i]? = S[i]? ∨ ∃ c, S'[i]? = some c ∧ clo n c = true
theorem Bk.back {C : Cf} {w w' : Wd} {S S' : Sto} {E : List Addr} (b : Bk C w w' S' E) (s : Sim C w S) (ok : okEnd S.length S S') : Sim C (bkW w w' E) (S'.take S.length) := by
  have hl : S.length ≤ S'.length := by
    rw [← s.len, ← b.sim.len]
    apply Nat.le_of_not_lt
    intro h
    have h1 := b.le.mu w'.mu.length w.mu[w'.mu.length] (List.getElem?_eq_getElem h)
    rw [List.getElem?_eq_none (Nat.le_refl _)] at h1
    cases h1
  refine ⟨by rw [List.length_take, Nat.min_eq_left hl]; exact s.len, s.nd, fun q hq => ?_, fun i p d h1 h2 => ?_⟩
  · have hq2 : q ∈ w'.F := by
      rcases List.mem_append.mp hq with z | z
      · obtain ⟨i, h1, h2⟩ := List.mem_iff_getElem.mp z
        exact List.mem_append_left _ (List.mem_of_getElem? (b.le.mu i q (by rw [List.getElem?_eq_getElem h1, h2])))
      · rcases List.mem_append.mp z with z | z
        · exact b.eF q z
        · exact List.mem_append_right _ (b.le.hold q z)
    exact b.sim.trk q hq2
  · have h1 : w.mu[i]? = some p := h1
    have hi : i < S.length := by rw [← s.len]; exact (List.getElem?_eq_some_iff.mp h1).1
    rw [List.getElem?_take_of_lt hi] at h2
    rcases (b.sim.obj i p d (b.le.mu i p h1) h2).two with ob | ⟨n, q, rfl, ob⟩
    rotate_left
    · exact .tab (ob.bk b)
    refine .of (ob.bk b ?_)
    rcases ok i hi with e | ⟨c, e, hc⟩
    · rw [h2] at e
      exact (s.obj i p d h1 e.symm).clo
    · rw [h2] at e
      cases e
      rw [s.len]; exact hc
def RPost (C : Cf) (w : Wd) (d : D) (own : Bool) (S : Sto) (Q : VK) : Prop := match own with
  | true => PostO C w d S Q
  | false => Post C w d S Q
theorem Post.toO {C : Cf} {w : Wd} {d : D} {S S0 : Sto} {Q : VK} (h : Post C w d S Q) (hS : Sim C w S0) : PostO C w d S Q := fun p w' le s n hl hm o => by
  refine h (.ref p) ⟨w'.mu, outL w'.L p, w'.H⟩ (le.drop fun z => hS.fresh n (List.mem_append_right _ z)) (s.less outL_sub) ((o.mono (LeF.less outL_sub) fun _ e => e).rep fun z => ?_)
  rcases List.mem_append.mp z with z | z
  · exact hm z
  · exact outL_not z
theorem RPost.of {C : Cf} {w : Wd} {d : D} {own : Bool} {S S0 : Sto} {Q : VK} (h : Post C w d S Q) (hS : Sim C w S0) : RPost C w d own S Q := by
  cases own with
  | true => exact h.toO hS
  | false => exact h
def FZ : Nat := 40
/-- a container may be handed out: closed, no table -/
def notPr : D → Bool
  | .pr _ => false
  | _ => true
def cloO (n : Nat) (c : D) : Bool := clo n c && notPr c
open Classical in
noncomputable def endF (S S' : Sto) (d : D) : Option (D × Bool × Sto) :=
  if S'.length = S.length then some (d, false, S')
  else if okEnd S.length S S' then
    (match d with
      | .ref i => if i < S.length then some (.ref i, false, S'.take S.length)
        else (S'[i]?).bind fun c => if cloO S.length c = true then some (c, true, S'.take S.length) else (fzD FZ S.length S' d).bind fun d' => some (d', false, S'.take S.length)
      | d => (fzD FZ S.length S' d).bind fun d' => some (d', false, S'.take S.length))
  else none
theorem end_post {C : Cf} {w w' : Wd} {S S' T : Sto} {d d' : D} {own : Bool} {v : V} {Q : VK} (s : Sim C w S) (le : Le w w') (s' : Sim C w' S') (r : Rep C w' d v) (h : endF S S' d = some (d', own, T)) (hQ : RPost C w d' own T Q) : Q v w'.H := by
  have b : Bk C w w' S' [] := ⟨le, s', s.trk, fun _ z => (by cases z), fun _ z => (by cases z)⟩
  have len := s.len
  unfold endF at h
  split at h
  · cases h
    exact hQ v w' le s' r
  · split at h
    · rename_i ok
      have sb := b.back s ok
      have gen : ∀ d', fzD FZ S.length S' d = some d' → Post C w d' (S'.take S.length) Q → Q v w'.H := fun d' h1 h2 => h2 v (bkW w w' []) b.wle sb (fzD_rep b FZ d v d' r (by rw [len]; exact h1))
      split at h
      · rename_i i
        cases r with
        | ref hi =>
          split at h
          · rename_i hlt
            cases h
            exact hQ _ (bkW w w' []) b.wle sb (.ref (b.low hi (by rw [len]; exact hlt)))
          · rename_i hlt
            rename_i p
            obtain ⟨c, h1, h2⟩ := bsome h
            split at h2
            · rename_i hc
              cases h2
              obtain ⟨hn, hF⟩ := b.high hi (by rw [len]; exact hlt)
              have b2 : Bk C w w' S' [p] := ⟨le, s', s.trk, fun q z => (by
                have : q = p := by simpa using z
                subst this
                exact List.mem_append_left _ (List.mem_of_getElem? hi)), fun q z => (by
                have : q = p := by simpa using z
                subst this
                exact hn)⟩
              obtain ⟨hc1, hc2⟩ := Bool.and_eq_true_iff.mp hc
              rcases (s'.obj i p _ hi h1).two with ob | ⟨n, q, rfl, _⟩
              rotate_left
              · cases hc2
              exact hQ p (bkW w w' [p]) b2.wle (b2.back s ok) hn List.mem_cons_self (fun z => hF (List.mem_append_left _ z)) (ob.bk b2 (by rw [len]; exact hc1))
            · obtain ⟨d2, h3, h4⟩ := bsome h2
              cases h4
              exact gen _ h3 hQ
      · obtain ⟨d2, h3, h4⟩ := bsome h
        cases h4
        exact gen _ h3 hQ
    · cases h
end HS
namespace HS
open PySem L2
/-- what a call does: the arguments, the store; the answer, whether it is a new container, the store behind -/
abbrev Cv := List D → Sto → Option (D × Bool × Sto)
def spOf (C : Cf) (c : Cv) (n : Nat) : Sp := fun vs H Q _ => ∃ w S ds d own S', w.H = H ∧ Sim C w S ∧ RepL C w ds vs ∧ ds.length = n ∧ c ds S = some (d, own, S') ∧ RPost C w d own S' Q
noncomputable def endS (S : Sto) (r : Fl × Env × Sto) : Option (D × Bool × Sto) := match r.1 with
  | .ret d => endF S r.2.2 d
  | .nx => endF S r.2.2 .non
  | _ => none
noncomputable def callOf (nN : Nat) (g : Sv) : Cv := fun ds S => (g (ds.map some ++ List.replicate (nN - ds.length) none) S).bind (endS S)
theorem repE_start {C : Cf} {w : Wd} {N : List Str} {ds : List D} {vs : List V} (r : RepL C w ds vs) : RepE C w (ds.map some ++ List.replicate (N.length - ds.length) none) (L2.start N vs) := by
  unfold L2.start
  refine ⟨by simp [r.length], fun i d h => ?_⟩
  by_cases hi : i < ds.length
  · rw [List.getElem?_append_left (by simpa using hi), List.getElem?_map] at h
    obtain ⟨d', h1, h2⟩ := Option.map_eq_some_iff.mp h
    cases h2
    obtain ⟨v, h3, h4⟩ := r.get h1
    refine ⟨v, ?_, h4⟩
    rw [List.getElem?_append_left (by simpa [← r.length] using hi), List.getElem?_map, h3]
    rfl
  · rw [List.getElem?_append_right (by simpa using hi), List.getElem?_replicate] at h
    split at h <;> cases h
section
variable {P : Program} {w : World} {K : PySem.W.Frag} {mg : Str → Option Value} {base : Heap} {fa : String → Option Addr}
end
section
variable {fa : String → Option Addr} {X : Cx} {M : PM} {e : Expr} {es : List Expr} {pos p : Pos} {fs : EvA} {x : Str} {k : Nat} {f : Addr} {fd : FuncData} {ps : List Str} {c : Cv}
/-- f(..): the answer inline -/
def eCall (c : Cv) (n : Nat) (fs : EvA) : Ev := fun η S => (fs η S).bind fun p => if p.1.length = n then (c p.1 p.2).bind fun r => some (r.1, r.2.2) else none
/-- f(..): the answer a new container -/
def eCallO (c : Cv) (n : Nat) (fs : EvA) : Ev := fun η S => (fs η S).bind fun p => if p.1.length = n then (c p.1 p.2).bind fun r => if r.2.1 = true then some (r.1, r.2.2) else none else none
theorem se_call (F : FnOk X.prog X.w X.K X.mg X.base CX0 k f fd ps (spOf (cf fa X) c ps.length)) (hr : Room k X.A) (hg : Gl X x) (hm : X.mg x = some (.ref f)) (hk : PySem.W.keepIn X.K (.ref f) = true) (hb : Binds X.K fd ps [])
    (ha : SA fa X (e :: es) fs) (hdb : (x == ("__debug__" : Str)) = false := by decide) (he : starEach (e :: es) X.env = (false, eval e X.env) :: starEach es X.env := by rfl) (hpl : (backTo pos (starEach es X.env)).any (·.1) = false := by rfl) :
    SE fa X (.Call (.Name x p) (e :: es) [] pos) (eCall c ps.length fs) := by
  obtain ⟨t, q, ha⟩ := ha.ex
  refine ⟨tCall (spOf (cf fa X) c ps.length) [] E0 t, pe_call F hr hg hm hk hb .nil pass0 q hdb he hpl, fun w σ η S d S' hη hS hf Q hQ => ?_⟩
  obtain ⟨⟨ds, S1⟩, h1, hf⟩ := bsome hf
  split at hf
  · rename_i hl
    obtain ⟨⟨d1, own, S2⟩, h2, hf⟩ := bsome hf
    cases hf
    refine ha w σ η S ds S1 hη hS h1 _ fun vs w1 e1 s1 r1 => ?_
    refine ⟨w1, S1, ds, _, own, _, rfl, s1, by rw [List.append_nil]; exact r1, hl, h2, RPost.of (PmOk.mono e1 hQ) s1⟩
  · cases hf
theorem so_call (F : FnOk X.prog X.w X.K X.mg X.base CX0 k f fd ps (spOf (cf fa X) c ps.length)) (hr : Room k X.A) (hg : Gl X x) (hm : X.mg x = some (.ref f)) (hk : PySem.W.keepIn X.K (.ref f) = true) (hb : Binds X.K fd ps [])
    (ha : SA fa X (e :: es) fs) (hdb : (x == ("__debug__" : Str)) = false := by decide) (he : starEach (e :: es) X.env = (false, eval e X.env) :: starEach es X.env := by rfl) (hpl : (backTo pos (starEach es X.env)).any (·.1) = false := by rfl) :
    SO fa X (.Call (.Name x p) (e :: es) [] pos) (eCallO c ps.length fs) := by
  obtain ⟨t, q, ha⟩ := ha.ex
  refine ⟨tCall (spOf (cf fa X) c ps.length) [] E0 t, pe_call F hr hg hm hk hb .nil pass0 q hdb he hpl, fun w σ η S d S' hη hS hf Q hQ => ?_⟩
  obtain ⟨⟨ds, S1⟩, h1, hf⟩ := bsome hf
  split at hf
  · rename_i hl
    obtain ⟨⟨d1, own, S2⟩, h2, hf⟩ := bsome hf
    split at hf
    · rename_i ho
      cases hf
      have ho : own = true := ho
      subst ho
      refine ha w σ η S ds S1 hη hS h1 _ fun vs w1 e1 s1 r1 => ?_
      exact ⟨w1, S1, ds, _, true, _, rfl, s1, by rw [List.append_nil]; exact r1, hl, h2, (PmOk.mono e1 hQ : PostO _ _ _ _ _)⟩
    · cases hf
  · cases hf
end
end HS
namespace HS
open PySem PySem.W PySem.SeqAt PyProof.Rows
theorem tupLt_call {A : Around} {s : Shared} {prog : Program} {w : World} {E : Value → Shared → Prop} {Q : Value → Shared → Prop} {l b : Addr} {items items2 : Array Value} {e r : Nat → Bool} (hl : s.heap.IsTuple l items) (hb : s.heap.IsTuple b items2)
    (he : ∀ j (h1 : j < items.size) (h2 : j < items2.size), EqAt A.in1 s items[j] items2[j] (e j)) (hr : ∀ j (h1 : j < items.size) (h2 : j < items2.size), e j = false → RcLt A.in1 s items[j] items2[j] (r j))
    (h : Q (.bool (firstLt e r (decide (items.size < items2.size)) (List.range (min items.size items2.size)))) s) :
    wpAny (model prog w) A (call (.builtin "tuple.__lt__") [.ref l, .ref b]) Q E s := by
  obtain ⟨⟨c1, d1, t1, s1⟩, h1, g1, m, k1⟩ := id hl
  obtain ⟨⟨c2, d2, t2, s2⟩, h2, g2, m2, k2⟩ := id hb
  simp only at g1 k1 g2 k2
  subst g1 k1 g2 k2
  exact call_meets F.slot_tuple_lt ⟨_, h1, rfl⟩ F.entry_tuple_lt (F.args_tuple_lt_2 _ _)
    (tuple_ltAt l b items items2 m m2 d1 d2 s1 s2 e r) ⟨h1, h2, he, hr, h⟩
section
variable {prog : Program} {w : World} {A : Around} {E : Value → Shared → Prop} {s : Shared}
/-- tuples compared by their own order -/
theorem oneLt_tups {xs ys : List PyData} {a b : Value} {as bs : List Addr} {Q : Bool → Shared → Prop} (ra : Reads s.heap a (.tuple xs) as) (rb : Reads s.heap b (.tuple ys) bs)
    (hal : alikeAll xs ys = true) (hu : A.units + min (PyData.tuple xs).depth (PyData.tuple ys).depth < cLine) (hq : Q (dataLt (.tuple xs) (.tuple ys)) s) :
    wpAny (model prog w) A (oneLt' true a b) Q E s := by
  cases ra with
  | @tuple l o vs n _ as₁ h1 h2 h3 h4 =>
    cases rb with
    | @tuple l' o' vs' n' _ bs₁ k1 k2 k3 k4 =>
      have n1 : vs.size = xs.length := by simpa using ReadsAll.length _ _ _ h4
      have n2 : vs'.size = ys.length := by simpa using ReadsAll.length _ _ _ k4
      rw [dataLt_tuple, ← firstLt_toks xs ys hal, ← n1, ← n2] at hq
      rw [oneLt'_eq, if_pos rfl]
      refine wpAny_bind (wpAny_cRoomFor (room_here hu) ?_)
      refine wpAny_bind (wpAny_callSpecialIfBound?_slot (T := "tuple") ⟨_, h1, h2⟩ F.slot_tuple_lt ?_)
      refine tupLt_call (e := pairEq xs ys) (r := fun j => dataLt (xs.getD j .none) (ys.getD j .none)) ⟨_, h1, h2, _, h3⟩ ⟨_, k1, k2, _, k3⟩ ?_ ?_ (wpAny_truthy_bool hq)
      · intro j j1 j2
        have q := eqAt_alikeAll xs ys A.in1 s vs.toList vs'.toList _ _ h4 k4 hal (room_in hu) j (by simpa using j1) (by simpa using j2)
        simpa using q
      · intro j j1 j2 hj
        have q := rcLt_alikeAll xs ys A.in1 s vs.toList vs'.toList _ _ h4 k4 hal (room_in hu) j (by simpa using j1) (by simpa using j2) hj
        simpa using q
/-- the first item of each, where there is one -/
inductive Firsts (h : Heap) : List Value → List (Option Value) → Prop
  | nil : Firsts h [] []
  | cons {a : Addr} {o : Obj} {xs : Array Value} {n : Nat} {vs : List Value} {fs : List (Option Value)} : h.get? a = some o → o.cls = .type "tuple" → o.data = .seq xs n → Firsts h vs fs → Firsts h (.ref a :: vs) (xs[0]? :: fs)
theorem firsts_run {M : Model} : ∀ (vs : List Value) (fs : List (Option Value)) {Q : List (Option Value) → Shared → Prop}, Firsts s.heap vs fs → Q fs s → wpAny M A (vs.mapM firstOfTuple') Q E s
  | [], _, _, t, h => by
    cases t
    rw [List.mapM_nil]
    exact wpAny_pure h
  | v :: vs, _, Q, t, h => by
    cases t with
    | @cons a o xs n _ fs h1 h2 h3 t =>
      rw [List.mapM_cons]
      refine wpAny_bind ?_
      rw [kas_first_eq]
      have ty : s.TypeIs (.ref a) "tuple" := ⟨o, h1, h2⟩
      refine wpAny_bind (wpAny_typeOf ty ?_)
      rw [if_neg (by decide)]
      refine wpAny_bind (listItems_at h1 h3 (wpAny_pure ?_))
      exact wpAny_bind (firsts_run vs fs t (wpAny_pure h))
theorem hfirsts {h : Heap} : ∀ {vs : List Value} {ds : List PyData}, EachIs (fun v d => ∃ as, Reads h v d as) vs ds → (∀ d ∈ ds, ∃ r, d = .tuple r) → ∃ fs, Firsts h vs fs ∧ fs.length = vs.length ∧ (∀ (i : Nat) (f : Option Value), fs[i]? = some f → (f = none ↔ ds[i]? = some (PyData.tuple [])))
  | _, _, .nil, _ => ⟨[], .nil, rfl, fun i f e => by simp at e⟩
  | _, _, .cons (b := d) ⟨as, r⟩ t, ht => by
    obtain ⟨fs, h1, h2, h3⟩ := hfirsts t fun d hd => ht d (List.mem_cons_of_mem _ hd)
    obtain ⟨xs, rfl⟩ := ht d List.mem_cons_self
    cases r with
    | @tuple l o vs n _ as₁ g1 g2 g3 g4 =>
      refine ⟨vs[0]? :: fs, .cons g1 g2 g3 h1, by simp [h2], fun i f e => ?_⟩
      have n1 : vs.size = xs.length := by simpa using ReadsAll.length _ _ _ g4
      cases i with
      | zero =>
        have e : vs[0]? = f := by simpa using e
        subst e
        cases xs with
        | nil =>
          have : vs.size = 0 := n1
          simp [this]
        | cons x xs =>
          have hp : 0 < vs.size := by rw [n1]; simp
          simp [hp]
      | succ i => simpa using h3 i f (by simpa using e)
/-- keys that are tuples that are alike can be sorted -/
theorem sortsAt_tups {vs : List Value} {ds : List PyData} (e : EachIs (fun v d => ∃ as, Reads s.heap v d as) vs ds) (hal : AllAlike ds) (ht : ∀ d ∈ ds, ∃ r, d = .tuple r) (hu : ∀ d, d ∈ ds → A.units + d.depth < cLine) :
    SortsAt prog w A s (dataKind s.heap ds) vs := by
  by_cases hne : ∀ d ∈ ds, d ≠ .tuple []
  · refine SortsAt.data e hal (.inl fun d hd => ?_) hu
    obtain ⟨r, rfl⟩ := ht d hd
    cases r with
    | nil => exact absurd rfl (hne _ hd)
    | cons x r => exact ⟨x, r, rfl⟩
  · obtain ⟨d0, hd0, e0⟩ : ∃ d, d ∈ ds ∧ d = .tuple [] := by
      apply Classical.byContradiction
      intro hc
      exact hne fun d hd he => hc ⟨d, hd, he⟩
    obtain ⟨fs, f1, f2, f3⟩ := hfirsts e ht
    obtain ⟨i0, hi0, ei0⟩ := List.mem_iff_getElem.mp hd0
    have hlen : vs.length = ds.length := e.length
    have hnone : fs[i0]? = some none := by
      have h1 : i0 < fs.length := by omega
      rw [List.getElem?_eq_getElem h1]
      congr 1
      exact (f3 i0 fs[i0] (List.getElem?_eq_getElem h1)).mpr (by rw [List.getElem?_eq_getElem hi0, ei0, e0])
    have hall : ¬ ((fs.toArray.all fun x => x.isSome) = true) := by
      intro h
      rw [List.all_toArray, List.all_eq_true] at h
      have := h none (List.mem_of_getElem? hnone)
      simp at this
    have lt : ∀ (f : Bool) (A : Around), (∀ d, d ∈ ds → A.units + d.depth < cLine) → ∀ (E : Value → Shared → Prop) (x y : Value) (a b : List (Int ⊕ List Nat)) {Q : Bool → Shared → Prop}, (dataKind s.heap ds).keyOf x = some a → (dataKind s.heap ds).keyOf y = some b → Q ((dataKind s.heap ds).blt a b) s → wpAny (model prog w) A (oneLt' f x y) Q E s := by
      intro f A hu E x y a b Q ha hb hq
      obtain ⟨d, as, hd, ra, rfl⟩ := dataKind_inv ha
      obtain ⟨d', as', hd', rb, rfl⟩ := dataKind_inv hb
      obtain ⟨xs, rfl⟩ := ht d hd
      obtain ⟨ys, rfl⟩ := ht d' hd'
      have ha2 := hal _ hd _ hd'
      have room : A.units + min (PyData.tuple xs).depth (PyData.tuple ys).depth < cLine := Nat.lt_of_le_of_lt (Nat.add_le_add_left (Nat.min_le_left _ _) _) (hu _ hd)
      cases f with
      | false => exact oneLt_alike (fun h => nomatch h) ra rb ha2 (fun h => nomatch h) room hq
      | true => exact oneLt_tups ra rb (by simpa [alike] using ha2) room hq
    refine ⟨fun v hv => ?_, if (fs[0]?.bind id).isSome = true then general' else oneType', ?_, fun h2 E Q hq => ?_⟩
    · obtain ⟨d, hd, as, r⟩ := e.left v hv
      exact ⟨_, dataKind_some hal hd r⟩
    · cases hb : (fs[0]?.bind id).isSome with
      | true => exact fun E x y a b Q h1 h2 h3 => lt false A hu E x y a b h1 h2 h3
      | false => exact fun E x y a b Q h1 h2 h3 => lt true A hu E x y a b h1 h2 h3
    · rw [keyKind'_eq, List.mapM_toArray, map_eq_pure_bind]
      refine wpAny_bind (wpAny_bind (firsts_run vs fs f1 (wpAny_pure ?_)))
      rw [if_neg hall]
      cases hb : (fs[0]?.bind id).isSome with
      | true =>
        rw [hb] at hq
        rw [if_pos (by simpa using hb)]
        exact wpAny_pure hq
      | false =>
        rw [hb] at hq
        rw [if_neg (by rw [List.getElem?_toArray, hb]; decide)]
        rw [oneTypeOnly'_eq, List.mapM_toArray, map_eq_pure_bind]
        refine wpAny_bind (wpAny_bind (wpAny_bind (kas_mapM (r := Value.type "tuple") _ (fun v hv Q' hq' => ?_) (wpAny_pure ?_))))
        · obtain ⟨d, hd, as, r⟩ := e.left v hv
          obtain ⟨xs, rfl⟩ := ht d hd
          cases r with
          | @tuple l o vs n _ as₁ g1 g2 g3 g4 => exact wpAny_typeOf (show s.TypeIs (.ref l) "tuple" from ⟨o, g1, g2⟩) hq'
        · obtain ⟨v1, vr, rfl⟩ : ∃ v1 vr, vs = v1 :: vr := by
            cases vs with
            | nil => simp at h2
            | cons v1 vr => exact ⟨v1, vr, rfl⟩
          have hs : ((List.map (fun _ => Value.type "tuple") (v1 :: vr)).toArray.all fun x => x == Value.type "tuple") = true := by
            rw [List.all_toArray, List.all_map, List.all_eq_true]
            intro _ _
            show (Value.type "tuple" == Value.type "tuple") = true
            decide
          have hz : (List.map (fun _ => Value.type "tuple") (v1 :: vr)).toArray[0]? = some (Value.type "tuple") := by simp
          rw [hz]
          simp only [hs, if_true]
          exact wpAny_pure (wpAny_pure (by simpa using hq))
end
end HS
set_option maxHeartbeats 1000000
namespace HS
open PySem L2
/-- where the new world forgets objects that inline data does not use -/
structure LeR (w w' : Wd) : Prop where
  mu : ∀ (i : Nat) (p : Addr), w.mu[i]? = some p → w'.mu[i]? = some p
  F : ∀ q ∈ w'.F, q ∈ w.F ∨ w.H q = none
  keep : ∀ p o, w.H p = some o → p ∉ w.F → w'.H p = some o
theorem LeR.notF {w w' : Wd} (e : LeR w w') {p : Addr} {o : HO} (h : w.H p = some o) (hp : p ∉ w.F) : p ∉ w'.F := fun z => by
  rcases e.F p z with q | q
  · exact hp q
  · rw [h] at q; cases q
/-- what a key function does, called within a sort -/
def KeyRunJ (J : Wd → Prop) (X : Cx) (C : Cf) (fv : Value) (c : Cv) : Prop := ∀ (pins : List (Addr × Obj)) (s : Shared) (σ : L2.St) (w : Wd) (S : Sto) (d : D) (v : V) (u : Value) (d' : D) (own : Bool) (S' : Sto) (Q : VK), L2.Inv X pins σ w.H s → Sim C w S → Rep C w d v → RelV v u → J w →
  c [d] S = some (d', own, S') → Post C w d' S' Q → wpAny (model X.prog X.w) X.A.in1.in1 (call fv [u]) (EP X pins σ Q) (fun _ _ => False) s
abbrev KeyRun (X : Cx) (C : Cf) (fv : Value) (c : Cv) : Prop := KeyRunJ (fun _ => True) X C fv c
def kdR (c : Cv) : List D → Sto → Option (List D × Sto)
  | [], S => some ([], S)
  | x :: xs, S => (c [x] S).bind fun r => (kdR c xs r.2.2).bind fun q => some (r.1 :: q.1, q.2)
def SortOk (ks : List PyData) : Prop := PySem.W.AllAlike ks ∧ (PySem.W.Sortable ks ∨ ∀ d ∈ ks, ∃ r, d = PyData.tuple r) ∧ ∀ d ∈ ks, PyData.depth d ≤ 50
def sortD (xs : List D) (ks : List PyData) : List D := ((xs.zip ks).mergeSort (PySem.W.dataLe false fun p : D × PyData => p.2)).map (·.1)
open Classical in
noncomputable def bSortK (c : Cv) : D → Sto → Option (D × Sto) := fun d S => (lstOf S d).bind fun xs =>
  if xs.length ≤ SZ then (kdR c xs S).bind fun q => (pyAll q.2 q.1).bind fun ks => if SortOk ks then some (.lst (sortD xs ks), q.2) else none else none
/-- a def as a key function -/
theorem keyRun_fn {fa : String → Option Addr} {X : Cx} {k : Nat} {f : Addr} {fd : FuncData} {ps : List Str} {c : Cv} (F : FnOk X.prog X.w X.K X.mg X.base CX0 k f fd ps (spOf (cf fa X) c 1)) (hr : Room (k + 2) X.A) (hb : Binds X.K fd ps []) :
    KeyRun X (cf fa X) (.ref f) c := by
  intro pins s σ w S d v u d' own S' Q I hS r rv _ hc hQ
  have hsp : spOf (cf fa X) c 1 [v] w.H Q E0 := ⟨w, S, [d], d', own, S', rfl, hS, .cons r .nil, rfl, hc, RPost.of hQ hS⟩
  have hl : ([u] ++ []).length = ps.length := F.len _ _ _ _ hsp
  refine wpAny_call (codeAny_mono (F.run X.A.in1.in1 X.stack s w.H ⟨[u], []⟩ ([u] ++ []) [v] Q E0 (hr.in1.in1) I.env0.in1.in1 (hb s [u] I.kIn hl) (by exact .cons rv .nil) hsp) fun r s' hq => ?_)
  cases r with
  | error e => exact hq.elim
  | ok fl =>
    cases fl with
    | ret u => exact I.after hq
    | next => exact False.elim hq
    | brk => exact False.elim hq
    | cont => exact False.elim hq
theorem depth_room {k : Nat} {A : Around} {d : Nat} (hr : Room k A) (h : d ≤ 50) : A.in1.in1.units + d < cLine := by
  have := hr.un
  show A.units + 1 + 1 + d < cLine
  omega
/-- the values of a list of keys that read as data -/
theorem keys_read {C : Cf} {X : Cx} {pins : List (Addr × Obj)} {σ : L2.St} {H : Hp} {s : Shared} (I : L2.Inv X pins σ H s) : ∀ {ps : List PyData} {vs : List V} {us : List Value}, DpAll X.K H vs ps → Vals vs us → PySem.W.EachIs (fun v d => ∃ as, Reads s.heap v d as) us ps
  | [], _, _, h, r => by
    cases h; cases r
    exact .nil
  | p :: ps, _, _, h, r => by
    cases h with
    | cons h1 h2 =>
      cases r with
      | cons r1 r2 => exact .cons (Dp.reads I p _ _ h1 r1) (keys_read (C := C) I h2 r2)
theorem zip_rep {C : Cf} {w : Wd} : ∀ {xs : List D} {vs : List V} {us : List Value} {ks : List PyData}, RepL C w xs vs → Vals vs us → ks.length = xs.length → PySem.W.EachIs (fun u (b : D × PyData) => ∃ v, RelV v u ∧ Rep C w b.1 v) us (xs.zip ks)
  | [], _, _, ks, .nil, r, h => by
    cases r
    cases ks <;> exact .nil
  | x :: xs, _, _, [], .cons _ _, r, h => by simp at h
  | x :: xs, _, _, k :: ks, .cons r1 r2, r, h => by
    cases r with
    | cons r3 r4 => exact .cons ⟨_, r3, r1⟩ (zip_rep r2 r4 (by simpa using h))
theorem out_rep {C : Cf} {w : Wd} : ∀ {out : List Value} {bs : List (D × PyData)}, PySem.W.EachIs (fun u (b : D × PyData) => ∃ v, RelV v u ∧ Rep C w b.1 v) out bs → ∃ vs, Vals vs out ∧ RepL C w (bs.map (·.1)) vs
  | _, _, .nil => ⟨[], .nil, .nil⟩
  | _, _, .cons ⟨v, r1, r2⟩ t => by
    obtain ⟨vs, h1, h2⟩ := out_rep t
    exact ⟨v :: vs, .cons r1 h1, .cons r2 h2⟩
end HS
namespace HS
open PySem L2 PySem.W PyProof.Rows
section
variable {X : Cx} {pins : List (Addr × Obj)} {σ : L2.St} {H : Hp} {s : Shared} {h' : Heap}
/-- an address behind the heap's end -/
structure Apart (X : Cx) (pins : List (Addr × Obj)) (b : Addr) : Prop where
  z : X.s_0.heap.objs.size ≤ b
  l : b ≠ X.env.locals
  c : ∀ x c, X.env.cells.lookup x = some c → c ≠ b
  p : ∀ p ∈ X.pn ++ pins, p.1 ≠ b
  f : b ∉ X.fs
theorem apart_of (I : L2.Inv X pins σ H s) {b : Addr} (h : s.heap.objs.size ≤ b) : Apart X pins b := by
  refine ⟨Nat.le_trans I.sz h, fun z => ?_, fun x c e z => ?_, fun p hp z => ?_, I.nofs h⟩
  · exact absurd (z ▸ I.lt : b < s.heap.objs.size) (Nat.not_lt.mpr h)
  · obtain ⟨v, o, ho, _⟩ := I.cell x c e
    exact absurd (z ▸ Heap.lt_size ho : b < s.heap.objs.size) (Nat.not_lt.mpr h)
  · exact absurd (z ▸ Heap.lt_size (I.pin p hp).1 : b < s.heap.objs.size) (Nat.not_lt.mpr h)
theorem Apart.inv_turned {t' : Nat} {b : Addr} (n : Apart X pins b) (I : L2.Inv X pins σ H s) (hb : H b = none) (k : ∀ c o, c ≠ b → s.heap.get? c = some o → h'.get? c = some o) : L2.Inv X pins σ H { s with heap := h', toks := t' } :=
  I.turned k hb n.l (.inr n.z) n.c n.p
/-- two records apart have changed, one of them gets tracked -/
theorem inv_two {t' : Nat} {a b : Addr} {o : HO} (na : Apart X pins a) (nb : Apart X pins b) (I : L2.Inv X pins σ H s) (ha : H a = none) (hb : H b = none) (k : ∀ c u, c ≠ a → c ≠ b → s.heap.get? c = some u → h'.get? c = some u)
    (new : ObjOk X.prog X.w (upd H a o) h' a o) : L2.Inv X pins σ (upd H a o) { s with heap := h', toks := t' } := by
  have nit : ∀ c u, H c = some u → c ≠ a ∧ c ≠ b := fun c u e => ⟨fun z => (by rw [z, ha] at e; cases e), fun z => (by rw [z, hb] at e; cases e)⟩
  have up : ∀ {c u}, H c = some u → upd H a o c = some u := fun {c u} e => by rw [upd_ne (nit c u e).1]; exact e
  refine I.step (g' := s.gens) (d' := s.drawn) (ch := [a, b]) (fun c hc => ?_) (fun c u _ _ hc e _ => ?_) (fun c u _ _ hc e _ => ⟨u.slots, ?_⟩) (fun c u hc e n => ?_) (fun c u hc e => ⟨u, ?_⟩) (fun c xs e => up e) (fun c u v e => up e) (fun c ps e => ⟨#[], by rw [up e]; simp⟩) (fun m hm => ?_) (fun c u e => ?_) I.bare
  · rcases List.mem_cons.mp hc with e | hc
    · subst e; exact ⟨.inr na.z, na.l, na.c, na.p⟩
    · obtain rfl : c = b := by simpa using hc
      exact ⟨.inr nb.z, nb.l, nb.c, nb.p⟩
  · exact k c u (fun z => hc (by simp [z])) (fun z => hc (by simp [z])) e
  · exact k c u (fun z => hc (by simp [z])) (fun z => hc (by simp [z])) e
  · rw [upd_ne (fun z => hc (by simp [z]))]; exact n
  · exact k c u (fun z => hc (by simp [z])) (fun z => hc (by simp [z])) e
  · obtain ⟨u, es, ep, ho, r⟩ := hm
    exact ⟨u, es, ep, k _ u (Ne.symm na.l) (Ne.symm nb.l) ho, r⟩
  · by_cases hca : c = a
    · subst hca
      rw [upd_same] at e
      cases e
      exact new
    · rw [upd_ne hca] at e
      refine (I.hok c u e).stay (fun d v hd q => ?_) (fun d q => ?_) fun d xs q => up q
      · have hx : d ≠ a ∧ d ≠ b := by
          rcases hd with z | z
          · rw [z]; exact nit c u e
          · exact nit d _ z
        exact k d v hx.1 hx.2 q
      · exact up q
end
section
variable {fa : String → Option Addr} {X : Cx} {M : PM} {c : Cv}
structure KSt (C : Cf) (c : Cv) (w : Wd) (S1 : Sto) (xs kds : List D) (pins : List (Addr × Obj)) (σ : L2.St) (X : Cx) (a kS : Addr) (e1 : Nat) (i : Nat) (s : Shared) : Prop where
  ex : ∃ w' S' kvs kA e done rst, L2.Inv X pins σ w'.H s ∧ Le w w' ∧ Sim C w' S' ∧ w'.H kS = none ∧ w'.H a = none ∧ s.heap.get? kS = some (seqObj "list" kA e) ∧ s.heap.get? a = some (seqObj "list" #[] e1) ∧
    Vals kvs kA.toList ∧ RepL C w' done kvs ∧ kA.size = i ∧ kdR c (xs.drop i) S' = some (rst, S1) ∧ kds = done ++ rst
theorem vals_snoc {vs : List V} {us : List Value} {v : V} {u : Value} (h : Vals vs us) (r : RelV v u) : Vals (vs ++ [v]) (us ++ [u]) := by
  induction h with
  | nil => exact .cons r .nil
  | cons a _ ih => exact .cons a ih
theorem sortK_step {q : Value} {w : Wd} {S1 : Sto} {xs kds : List D} {vs : List V} {us : List Value} {pins : List (Addr × Obj)} {σ : L2.St} {a kS : Addr} {e1 : Nat} {J : Wd → Prop} (hK : KeyRunJ J X (cf fa X) q c) (hJ : ∀ w', Le w w' → J w')
    (na : Apart X pins a) (nk : Apart X pins kS) (hka : kS ≠ a) (rl : RepL (cf fa X) w xs vs) (rv : Vals vs us) (hz : us.length ≤ sizeLine) (j : Nat) (x : Value) (s' : Shared) (hx : us[j]? = some x) (h : KSt (cf fa X) c w S1 xs kds pins σ X a kS e1 j s') :
    wpAny (model X.prog X.w) X.A.in1.in1 (call q [x]) (fun u s'' => ∀ c2, ∃ kA e, s''.heap.get? kS = some (seqObj "list" kA e) ∧ kA.size ≤ sizeLine ∧ (∀ h', (h'.get? kS = some (seqObj "list" (kA.push u) c2)) → (∀ b o, b ≠ kS → s''.heap.get? b = some o → h'.get? b = some o) →
      KSt (cf fa X) c w S1 xs kds pins σ X a kS e1 (j + 1) { s'' with heap := h' })) (fun _ _ => False) s' := by
  obtain ⟨w', S', kvs, kA, e, done, rst, I, le, hS, hk0, ha0, hk, ha, rk, rd, hsz, hr, hd⟩ := h.ex
  have hjl : j < us.length := (List.getElem?_eq_some_iff.mp hx).1
  have hjx : j < xs.length := by rw [rl.length, rv.length]; exact hjl
  obtain ⟨v, hv1, hv2⟩ : ∃ v, vs[j]? = some v ∧ RelV v x := by
    have := rv.length
    obtain ⟨v, hv⟩ : ∃ v, vs[j]? = some v := ⟨_, List.getElem?_eq_getElem (by omega)⟩
    refine ⟨v, hv, ?_⟩
    obtain ⟨u, hu, r⟩ := rv.get hv
    rw [hx] at hu; cases hu; exact r
  obtain ⟨d, hd1, hd2⟩ := rl.getV hv1
  have hdrop : xs.drop j = d :: xs.drop (j + 1) := by
    rw [List.drop_eq_getElem_cons hjx]
    rw [List.getElem?_eq_getElem hjx] at hd1
    cases hd1; rfl
  rw [hdrop] at hr
  obtain ⟨⟨d', own, S2⟩, h1, hr⟩ := bsome hr
  obtain ⟨⟨rst2, S3⟩, h2, hr⟩ := bsome hr
  cases hr
  have I' : L2.Inv X ((kS, seqObj "list" kA e) :: (a, seqObj "list" #[] e1) :: pins) σ w'.H s' := by
    refine I.pins_of fun p hp => ?_
    rcases List.mem_cons.mp hp with rfl | hp
    · exact ⟨hk, hk0, nk.l, nk.f, fun v z => by cases z⟩
    · rcases List.mem_cons.mp hp with rfl | hp
      · exact ⟨ha, ha0, na.l, na.f, fun v z => by cases z⟩
      · exact I.pin p (List.mem_append_right _ hp)
  refine wpAny_mono (hK _ s' σ w' S' d v x d' own S2 (fun v2 H2 => ∃ w2, H2 = w2.H ∧ Le w' w2 ∧ Sim (cf fa X) w2 S2 ∧ Rep (cf fa X) w2 d' v2) I' hS (hd2.mono le.f) hv2 (hJ w' le) h1 fun v2 w2 e2 s2 r2 => ⟨w2, rfl, e2, s2, r2⟩) (fun u s'' hq => ?_) fun _ _ z => z
  obtain ⟨v2, _, I2, ru, w2, rfl, le2, hS2, r2⟩ := hq
  intro c2
  have pk := I2.pin _ (List.mem_append_right _ List.mem_cons_self)
  have pa := I2.pin _ (List.mem_append_right _ (List.mem_cons_of_mem _ List.mem_cons_self))
  have I3 : L2.Inv X pins σ w2.H s'' := I2.pins_of fun p hp => I2.pin p (List.mem_append_right _ (List.mem_cons_of_mem _ (List.mem_cons_of_mem _ hp)))
  refine ⟨kA, e, pk.1, by rw [hsz]; omega, fun h' hh keep => ⟨w2, S2, kvs ++ [v2], kA.push u, c2, done ++ [d'], rst2, nk.inv_turned (t' := s''.toks) I3 pk.2.1 keep, le.trans le2, hS2, pk.2.1, pa.2.1, hh, keep _ _ hka.symm pa.1, ?_, (rd.mono le2.f).snoc r2, by rw [Array.size_push, hsz], h2, by rw [List.append_assoc]; exact hd⟩⟩
  have : (kA.push u).toList = kA.toList ++ [u] := by simp
  rw [this]
  exact vals_snoc rk ru
theorem sortsAt_any {prog : Program} {w : World} {A : Around} {s : Shared} {vs : List Value} {ds : List PyData} (e : EachIs (fun v d => ∃ as, Reads s.heap v d as) vs ds) (h : SortOk ds) (hu : ∀ d, d ∈ ds → A.units + d.depth < cLine) : SortsAt prog w A s (dataKind s.heap ds) vs := by
  rcases h.2.1 with k | k
  · exact SortsAt.data e h.1 k hu
  · exact sortsAt_tups e h.1 k hu
theorem sortK_run [PmList M] {q : Addr} {l : Addr} {w : Wd} {S S1 : Sto} {xs kds : List D} {vs : List V} {ks : List PyData} {k : Nat} {pins : List (Addr × Obj)} {σ : L2.St} {s : Shared} {Q : VK} (I : L2.Inv X pins σ w.H s) (hS : Sim (cf fa X) w S) {J : Wd → Prop} (hK : KeyRunJ J X (cf fa X) (.ref q) c) (hJ : ∀ w', Le w w' → J w')
    (hl : SqL X.K w.H l vs) (rl : RepL (cf fa X) w xs vs) (hr : Room k X.A) (hZ : xs.length ≤ SZ) (h1 : kdR c xs S = some (kds, S1)) (h2 : pyAll S1 kds = some ks) (h3 : SortOk ks) (hQ : M (cf fa X) w (.lst (sortD xs ks)) S1 Q) :
    wpAny (model X.prog X.w) X.A (call (.builtin "sorted") [.ref l] [(Str.ofString "key", .ref q)]) (EP X pins σ Q) X.xe s := by
  obtain ⟨its, rv, hpl, hz⟩ := I.list hl
  have hlen : its.length = xs.length := by rw [← rv.length, rl.length]
  have hzi : its.length ≤ sizeLine := by rw [hlen]; exact sz hZ
  refine sorted_of_sort hpl.isList hzi (ksk_s1 _ _) (fun _ => ksk_l1 _ _) fun E' => ?_
  rw [ksk_t1]
  obtain ⟨a, ha⟩ : ∃ a, a = s.heap.objs.size + 1 := ⟨_, rfl⟩
  rw [← ha]
  have na : Apart X pins a := apart_of I (by rw [ha]; exact Nat.le_succ _)
  have ha0 : w.H a = none := I.hok.fresh (by rw [ha]; exact Nat.le_succ _)
  have ho : (copyHeap s.heap its).get? a = some (seqObj "list" its.toArray 0) := by rw [ha]; exact copyHeap_at s.heap its
  obtain ⟨g0, hg0⟩ : ∃ g, g = copyHeap s.heap its := ⟨_, rfl⟩
  rw [← hg0] at ho ⊢
  have kg0 : ∀ b o, s.heap.get? b = some o → g0.get? b = some o := fun b o e => by rw [hg0]; exact copyHeap_old e
  obtain ⟨e1, ho1⟩ : ∃ e1, (g0.update a (Obj.mapSeq fun _ => (#[] : Array Value))).get? a = some (seqObj "list" #[] e1) := ⟨_, get?_update_seq ho fun _ => #[]⟩
  unfold ksk_tree
  refine wpAny_bind (listItems_at ho rfl ?_)
  refine wpAny_bind (listUpdate_at ho rfl ?_ (by rw [List.size_toArray]; exact hzi) (Nat.zero_le _))
  refine wpAny_bind (seqEpoch_at ho1 rfl ?_)
  refine wpAny_bind (wpAny_newTuple ?_ (by show its.length ≤ _; exact hzi))
  refine wpAny_bind (wpAny_newList ?_ (Nat.zero_le _))
  refine wpAny_holding ?_
  obtain ⟨kS, hkS⟩ : ∃ kS, kS = ((g0.update a (Obj.mapSeq fun _ => (#[] : Array Value))).push (seqObj "tuple" its.toArray 0)).objs.size := ⟨_, rfl⟩
  obtain ⟨g1, hg1⟩ : ∃ g, g = ((g0.update a (Obj.mapSeq fun _ => (#[] : Array Value))).push (seqObj "tuple" its.toArray 0)).push (seqObj "list" #[] 0) := ⟨_, rfl⟩
  have hsz0 : s.heap.objs.size + 2 ≤ g0.objs.size := by
    have h9 : s.heap.objs.size + 1 < g0.objs.size := ha ▸ Heap.lt_size ho
    exact h9
  have hks0 : kS = g0.objs.size + 1 := by rw [hkS, size_push', Heap.size_update]
  have nk : Apart X pins kS := apart_of I (by omega)
  have hka : kS ≠ a := by omega
  have hk0 : w.H kS = none := I.hok.fresh (by omega)
  have kg1 : ∀ b o, s.heap.get? b = some o → g1.get? b = some o := fun b o e => by
    rw [hg1]
    refine Heap.get?_push_of_some _ (Heap.get?_push_of_some _ ?_)
    rw [Heap.get?_update_ne _ _ _ _ (by have h9 : b < s.heap.objs.size := Heap.lt_size e; exact Nat.ne_of_lt (by rw [ha]; exact Nat.lt_succ_of_lt h9))]
    exact kg0 b o e
  have ga : g1.get? a = some (seqObj "list" #[] e1) := by rw [hg1]; exact Heap.get?_push_of_some _ (Heap.get?_push_of_some _ ho1)
  have gk : g1.get? kS = some (seqObj "list" #[] 0) := by rw [hg1, hkS]; exact Heap.get?_push_size _ rfl
  show wpAny _ _ (ksk_rest a (.ref q) false its.toArray e1 (.ref _)) _ _ { s with heap := _ }
  rw [← hkS, ← hg1]
  unfold ksk_rest
  refine wpAny_bind (wpAny_rule ?_)
  first
    | rw [List.forIn_toArray]
    | (rw [← Array.forIn_toList]; simp only [List.toList_toArray])
    | rw [← Array.forIn_toList]
  refine wpAny_bind (ksk_fold (fun i s' => KSt (cf fa X) c w S1 xs kds pins σ X a kS e1 i s') its 0 { s with heap := g1 } ⟨w, S, [], #[], 0, [], kds, I.kept kg1, Le.refl w, hS, hk0, ha0, gk, ga, .nil, .nil, rfl, h1, rfl⟩ ?step ?done)
  case step =>
    intro j x s' hx hI
    rw [Nat.zero_add] at hI ⊢
    refine wpAny_bind (wpAny_attempt (wpAny_mono (sortK_step hK hJ na nk hka rl rv hzi j x s' hx hI) (fun u s'' hq => ?_) fun _ _ hF => hF.elim))
    obtain ⟨kA, e, hk, hks, _⟩ := hq 0
    try dsimp only
    obtain ⟨c2, hc2⟩ : ∃ c2, (s''.heap.update kS (Obj.mapSeq (·.push u))).get? kS = some (seqObj "list" (kA.push u) c2) := ⟨_, get?_update_seq hk (·.push u)⟩
    have sb := Heap.SameBut.update s''.heap kS (Obj.mapSeq (·.push u))
    refine wpAny_bind (listUpdate_at hk rfl ?_ hks (Nat.le_trans (Nat.le_of_eq (Array.size_push ..)) (Nat.succ_le_succ hks)))
    obtain ⟨kA', e', hk', _, fin⟩ := hq c2
    rw [hk] at hk'
    have ee : kA' = kA := by
      have z := congrArg Obj.data (Option.some.inj hk')
      have z : PySem.Data.seq kA e = PySem.Data.seq kA' e' := z
      injection z with z2
      exact z2.symm
    subst ee
    exact wpAny_pure ⟨rfl, fin _ hc2 fun b o hb ho => (sb.2 b hb).trans ho⟩
  case done =>
    intro s' hI
    obtain ⟨w', S', kvs, kA, e, done, rst, I', le, hS', hk0', ha0', hk, ha', rk, rd, hsz, hrst, hd⟩ := hI.ex
    have hnil : xs.drop (0 + its.length) = [] := List.drop_eq_nil_of_le (by omega)
    rw [hnil] at hrst
    cases hrst
    rw [List.append_nil] at hd
    subst hd
    have hlk : kds.length = its.length := by
      have z1 := rd.length
      have z2 := rk.length
      simp only [Array.length_toList] at z2
      omega
    have hD : DpAll X.K w'.H kvs ks := repL_dp (C := cf fa X) (fun d _ v p r h => rep_dp d v p r h) rd h2
    have hrd := keys_read (C := cf fa X) I' hD rk
    try dsimp only
    refine wpAny_bind (listItems_at hk rfl ?_)
    obtain ⟨G, gg1, gg2⟩ := restrict s'.heap fun b => decide (b ≠ kS)
    have hksz : kA.size = its.length := by omega
    refine keyH_end (κ := dataKind s'.heap ks) (h₁ := G) (fun b o hb e => ?_) (gg2 kS (decide_eq_false fun z => z rfl)) hk ha' hka (sortsAt_any hrd h3 fun d hd => depth_room hr (h3.2.2 d hd)) hksz hzi fun h3' tk3 c3 k3 n3 => ⟨rfl, ?_⟩
    · by_cases hb2 : b = kS
      · rw [hb2, gg2 kS (decide_eq_false fun z => z rfl)] at e; cases e
      · rw [gg1 b (decide_eq_true hb2)] at e; exact e
    · have hlks : ks.length = xs.length := by
        have z1 := hrd.length
        rw [Array.length_toList] at z1
        omega
      obtain ⟨out, ho⟩ : ∃ out, out = sortVals (dataKind s'.heap ks) false kA.toList its := ⟨_, rfl⟩
      rw [← ho] at n3
      have hz2 := zip_rep (rl.mono le.f) rv hlks
      have hko : KeyedOut false ((xs.zip ks).map (·.2)) its out := ⟨s'.heap, kA.toList, by rw [List.map_snd_zip (by omega)]; exact h3.1, by rw [List.map_snd_zip (by omega)]; exact ho, by rw [List.map_snd_zip (by omega)]; exact hrd⟩
      have hout := keyedOut_each (fun p : D × PyData => p.2) hko hz2
      obtain ⟨ovs, ov1, ov2⟩ := out_rep hout
      have hol : ovs.length ≤ sizeLine := by
        have z1 := ov1.length
        have z2 := hko.length (by rw [List.map_snd_zip (by omega)]; omega)
        omega
      have Ifin : L2.Inv X pins σ (upd w'.H a (.lst ovs)) { s' with heap := h3', toks := tk3 } := inv_two na nk I' ha0' hk0' (fun b u h1 h2 e => k3 b u h1 (by rw [gg1 b (decide_eq_true h2)]; exact e)) ⟨hol, out, c3, ov1, n3⟩
      exact ⟨.ref a, _, Ifin, rfl, PmList.newLst (PmOk.mono le hQ) hS' ov2 ha0'⟩
end
end HS
namespace HS
open PySem L2
section
variable {fa : String → Option Addr} {X : Cx} {M : PM} {e : Expr} {pos p p2 p3 : Pos} {f : Ev} {fs : EvA} {x : Str} {k : Nat} {c : Cv}
noncomputable def eSortK (c : Cv) (f : Ev) : Ev := fun η S => (f η S).bind fun r => bSortK c r.1 r.2
def rSK (fa : String → Option Addr) (X : Cx) (M : PM) (c : Cv) (a : Addr) : List V → List V → Hp → VK → Prop := fun vs zs H Q => ∃ w S S1 d D l, w.H = H ∧ vs = [.ref l] ∧ zs = [.ref a] ∧ Sim (cf fa X) w S ∧ Rep (cf fa X) w d (.ref l) ∧ bSortK c d S = some (D, S1) ∧ M (cf fa X) w D S1 Q
theorem cr_SK [PmList M] {a : Addr} (hK : KeyRun X (cf fa X) (.ref a) c) (hr : Room k X.A) : CallRK X (.builtin "sorted") [Str.ofString "key"] (rSK fa X M c a) := by
  intro pins s σ H vs zs us ws Q I r rz h
  obtain ⟨w, S, S1, d, D, l, rfl, rfl, rfl, hS, rd, hb, hQ⟩ := h
  obtain rfl := Vals.ref1 r
  obtain rfl := Vals.ref1 rz
  unfold bSortK at hb
  obtain ⟨xs, h1, hb⟩ := bsome hb
  split at hb
  · rename_i hz
    obtain ⟨⟨kds, S2⟩, h2, hb⟩ := bsome hb
    obtain ⟨ks, h3, hb⟩ := bsome hb
    split at hb
    · rename_i h4
      cases hb
      obtain ⟨p, vs, e1, e2, r2⟩ := rd.lstH hS h1
      cases e1
      exact sortK_run I hS hK (fun _ _ => trivial) (.inl (.inl e2)) r2 hr hz h2 h3 h4 hQ
    · cases hb
  · cases hb
theorem se_sortK [PmList M] {y : Str} {a : Addr} {fd : FuncData} {ps : List Str} (F : FnOk X.prog X.w X.K X.mg X.base CX0 k a fd ps (spOf (cf fa X) c 1)) (hr : Room (k + 2) X.A) (hb : Binds X.K fd ps []) (hg : Gl X "sorted") (hm : X.mg "sorted" = none)
    (hgy : Gl X y) (hmy : X.mg y = some (.ref a)) (ha : SE fa X e f) (hdy : (y == ("__debug__" : Str)) = false := by decide)
    (hs : starEach (e :: []) X.env = (false, eval e X.env) :: starEach [] X.env := by rfl)
    (he : backTo pos (starEach [e] X.env) = (false, eval e X.env) :: backTo pos (starEach [] X.env) := by rfl) (hpl : (backTo pos (starEach [e] X.env)).any (·.1) = false := by rfl)
    (hall : (backToKw pos (keywordEach [⟨some (Str.ofString "key"), .Name y p2, p3⟩] X.env)).all (·.1.isSome) = true := by rfl) (hnone : (backToKw pos (keywordEach [⟨some (Str.ofString "key"), .Name y p2, p3⟩] X.env)).any (·.1.isNone) = false := by rfl)
    (hks : (backToKw pos (keywordEach [⟨some (Str.ofString "key"), .Name y p2, p3⟩] X.env)).filterMap (·.1) = [Str.ofString "key"] := by rfl) :
    SEm fa M X (.Call (.Name "sorted" p) [e] [⟨some (Str.ofString "key"), .Name y p2, p3⟩] pos) (eSortK c f) := by
  obtain ⟨t, q, ha⟩ := ha.ex
  refine ⟨tCKw (rSK fa X M c a) (tCons t tNil) (tCons (tC (.ref a)) tNil), pe_callBK (cr_SK (keyRun_fn F hr hb) hr) hg hm rfl (pa_cons q pa_nil hs) (pk_cons (pe_glob (v := .ref a) hgy hmy rfl hdy) pk_nil) (by decide) (by decide) he hpl hall hnone hks, fun w σ η S d S' hη hS hf Q hQ => ?_⟩
  obtain ⟨⟨d1, S1⟩, h1, h2⟩ := bsome hf
  refine ha w σ η S d1 S1 hη hS h1 _ fun v w1 e1 s1 r1 => ?_
  have : ∃ l, v = .ref l := by
    unfold bSortK at h2
    obtain ⟨xs, h3, _⟩ := bsome h2
    obtain ⟨p, vs, e, _⟩ := r1.lstH s1 h3
    exact ⟨p, e⟩
  obtain ⟨l, rfl⟩ := this
  exact ⟨w1, S1, S', d1, d, l, rfl, rfl, rfl, s1, r1, h2, PmOk.mono e1 hQ⟩
def sortI (is : List Int) : List Int := is.mergeSort fun a b => decide (a ≤ b)
def bSortI : RDs := fun ds S => match ds with
  | [d] => (lstOf S d).bind fun xs => (intsOf xs).bind fun is => some (.lst ((sortI is).map D.int), S)
  | _ => none
theorem repL_ints {C : Cf} {w : Wd} : ∀ is : List Int, RepL C w (is.map D.int) (is.map V.int)
  | [] => .nil
  | i :: is => .cons (.int i) (repL_ints is)
end
end HS
namespace HS
open PySem L2
section
variable {fa : String → Option Addr} {X : Cx} {o i value : Expr} {pos pos' : Pos} {fo fi fv : Ev}
def setIx (S : Sto) (d e v : D) : Option Sto := match e with
  | .int k => (stL S d).bind fun q => (ixN q.2.length k).bind fun j => some (S.set q.1 (.lst (q.2.set j v)))
  | _ => none
/-- xs[i] = value -/
def sSetI (fo fi fv : Ev) : Sv := fun η S => (fv η S).bind fun p => (fo η p.2).bind fun q => (fi η q.2).bind fun r => (setIx r.2 q.1 r.1 p.1).bind fun S' => some (.nx, η, S')
theorem ss_setI (hv : SE fa X value fv) (ho : SE fa X o fo) (hi : SE fa X i fi) (hs : swapsWithSole [.Subscript o i pos'] value pos.line X.env = pure false := by rfl) (hw : swappedStores [.Subscript o i pos'] value X.env = pure none := by rfl)
    (h1 : (assignEach [.Subscript o i pos'] X.env).map (·.2) = [assign (.Subscript o i pos') X.env] := by rfl)
    (ha : ∀ v, assign (.Subscript o i pos') X.env v = (do
      let ov ← holding [v] (eval o X.env)
      let iv ← holding [v, ov] (eval i X.env)
      standAt pos'
      holding [v, ov, iv] (setItem ov iv v)
      release [v, ov, iv] []) := by intro _; rfl) : SS fa X (.Assign [.Subscript o i pos'] value pos) (sSetI fo fi fv) := by
  obtain ⟨tv, pv, hv⟩ := hv.ex
  obtain ⟨to, po, ho⟩ := ho.ex
  obtain ⟨ti, pi, hi⟩ := hi.ex
  refine ⟨tAsg tv (gSub to ti rSetL), ps_asg pv (pg_sub po pi set_list ha) hs hw h1, fun w σ η S fl η' S' hη hS hf Dn hD => ?_⟩
  obtain ⟨⟨d1, S1⟩, h2, hf⟩ := bsome hf
  obtain ⟨⟨d2, S2⟩, h3, hf⟩ := bsome hf
  obtain ⟨⟨d3, S3⟩, h4, hf⟩ := bsome hf
  obtain ⟨S4, h5, hf⟩ := bsome hf
  cases hf
  refine hv w σ η S d1 S1 hη hS h2 _ fun v w1 e1 s1 r1 => ho w1 σ η S1 d2 S2 (hη.mono e1.f) s1 h3 _ fun u w2 e2 s2 r2 => hi w2 σ η S2 d3 S3 (hη.mono (e1.trans e2).f) s2 h4 _ fun x w3 e3 s3 r3 => ?_
  unfold setIx at h5
  simp only at h5
  split at h5
  · rename_i k
    obtain ⟨⟨j, xs⟩, h6, h5⟩ := bsome h5
    obtain ⟨m, h7, h5⟩ := bsome h5
    cases h5
    cases r3
    obtain ⟨p, us, rfl, hi2, e, r4⟩ := (r2.mono e3.f).stL s3 h6
    have le : Le w3 ⟨w3.mu, w3.L, upd w3.H p (.lst (us.set m v))⟩ := Le.put (List.mem_of_getElem? hi2) e
    refine ⟨p, us, k, m, rfl, rfl, e, by rw [← r4.length]; exact h7, hD σ ⟨w3.mu, w3.L, upd w3.H p (.lst (us.set m v))⟩ (((e1.trans e2).trans e3).trans le) (s3.put hi2 e ⟨_, upd_same, (r4.set ((r1.mono e2.f).mono e3.f) m).mono le.f⟩) (hη.mono (((e1.trans e2).trans e3).trans le).f)⟩
  · cases h5
end
end HS
namespace HS
open PySem L2
section
variable {fa : String → Option Addr} {X : Cx} {a b : Expr} {pos : Pos} {f g : Ev}
theorem sem_is {C : Cf} : OpSem Post C (fun x y H Q => y = .non ∧ Q (.bl (decide (x = .non))) H) oIs := by
  intro w S a b x y d S' hS ra rb hf Q hQ
  unfold oIs at hf
  split at hf
  · cases hf; cases rb
    exact ⟨rfl, by rw [ra.isNon]; exact hQ.here hS (.bl _)⟩
  · cases hf
theorem sem_isNot {C : Cf} : OpSem Post C (fun x y H Q => y = .non ∧ Q (.bl (!decide (x = .non))) H) oIsNot := by
  intro w S a b x y d S' hS ra rb hf Q hQ
  unfold oIsNot at hf
  split at hf
  · cases hf; cases rb
    exact ⟨rfl, by rw [ra.isNon]; exact hQ.here hS (.bl _)⟩
  · cases hf
theorem st_is (ha : SE fa X a f) (hb : SE fa X b g) : ST fa X (.Compare a [.Is] [b] pos) (tB (eBin oIs f g)) := st_cmp op_isN sem_is ha hb (nomark _)
theorem st_isNot (ha : SE fa X a f) (hb : SE fa X b g) : ST fa X (.Compare a [.IsNot] [b] pos) (tB (eBin oIsNot f g)) := st_cmp op_notN sem_isNot ha hb (nomark _)
end
end HS
namespace HS
open PySem L2
section
variable {fa : String → Option Addr} {X : Cx} {M : PM} {elt tg iter tg1 iter1 : Expr} {ifs ifs1 : List Expr} {scope : Scope} {own : List (Str × Nat)} {pos : Pos} {it it1 : EvI} {gf gf1 : Tg} {ts ts1 vs1 : List Nat} {tt tt1 : EvB} {fe : Ev}
end
theorem fnOk_none {P : Program} {w : World} {K : PySem.W.Frag} {mg : Str → Option Value} {base : Heap} {fa : String → Option Addr} {k : Nat} {f : Addr} {fd : FuncData} {ps : List Str} {n : Nat} : FnOk P w K mg base CX0 k f fd ps (spOf ⟨P, w, K, fa⟩ (fun _ _ => none) n) :=
  ⟨fun vs H Q E ⟨_, _, _, _, _, _, _, _, _, _, z, _⟩ => (by cases z), fun A outer s H args us vs Q E _ _ _ _ ⟨_, _, _, _, _, _, _, _, _, _, z, _⟩ => by cases z⟩
/-- so many turns at most -/
def wN : Nat := 1000000
end HS
namespace HS
open PySem PySem.Spec L2 PyProof.Rows
/-- a function object that stands at f -/
def FnOb (f : Addr) (o : Obj) : HO := .ext fun h => h.get? f = some o
abbrev lamFn (q : Str) (params : Arguments) (body : Expr) (scope : Scope) (pm : Value) (c : Addr) (ct : Value) : FuncData := PySem.W.kla_fn "<lambda>" q params body scope [] pm (.ref c) ct
abbrev lamOb (q : Str) (params : Arguments) (body : Expr) (scope : Scope) (pm : Value) (c : Addr) (ct : Value) : Obj := ⟨.type "function", none, .func (lamFn q params body scope pm c ct), #[]⟩
/-- the codes of a table stand in the heap -/
def CodesIn (H : Hp) (q : Str) (ps : Array Value) : Prop := ∀ (pos : Pos) (cv : Value), codeAmong pos ps.toList = some cv → ∃ c, cv = .ref c ∧ H c = some (LamX.CodeO c q)
/-- what the making of a lambda changes -/
structure LamStep (q : Str) (P : Addr) (ps : Array Value) (H H1 : Hp) (f c : Addr) (o : Obj) : Prop where
  fn : H f = none
  fo : H1 f = some (FnOb f o)
  co : H1 c = some (LamX.CodeO c q)
  cn : H c = none ∨ ∃ pos, codeAmong pos ps.toList = some (.ref c)
  tab : ∃ ps' : Array Value, H1 P = some (.tbl ps') ∧ TriplesOk ps'.toList ∧ ∀ (pos : Pos) (cv : Value), codeAmong pos ps'.toList = some cv → codeAmong pos ps.toList = some cv ∨ cv = .ref c
  keep : ∀ b u, b ≠ P → H b = some u → H1 b = some u
  dom : ∀ b, H1 b = none → H b = none
def tLam1 (P : Addr) (q : Str) (params : Arguments) (body : Expr) (scope : Scope) : TE := fun _ H Q => ∃ ps : Array Value, H P = some (.tbl ps) ∧ TriplesOk ps.toList ∧ CodesIn H q ps ∧
  ∀ (f c : Addr) (pm ct : Value) (H1 : Hp), LamStep q P ps H H1 f c (lamOb q params body scope pm c ct) → Q (.ref f) H1
section
variable {C : Cf} {w : Wd} {S : Sto} {n : String} {q : Str} {P f c : Addr} {ps : Array Value} {H1 : Hp} {o : Obj} {j : Nat}
end
/-- what a call of the lambda wants of the world -/
structure LamW (q : Str) (f c : Addr) (o : Obj) (w : Wd) : Prop where
  fo : w.H f = some (FnOb f o)
  fm : f ∉ w.mu
  co : w.H c = some (LamX.CodeO c q)
  cm : c ∉ w.mu
theorem LamW.mono {q : Str} {f c : Addr} {o : Obj} {w w' : Wd} (h : LamW q f c o w) (e : Le w w') : LamW q f c o w' := ⟨e.keep _ _ h.fo h.fm, e.notmu h.fo h.fm, e.keep _ _ h.co h.cm, e.notmu h.co h.cm⟩
end HS
set_option maxHeartbeats 4000000
namespace HS
open PySem PySem.Spec L2 PyProof.Rows PySem.Builtin PySem.Builtin.Str PySem.Builtin.Int PySem.Builtin.Float
/-- the digits of a number from 0 on, by base 2 -/
def binS (a : Int) : PySem.Str := ⟨((Nat.toDigits 2 a.natAbs).map Char.toNat).toArray⟩
def fB : FormatSpec := match parseFormatSpec [98] "int" 62 with
  | .ok f => f
  | .error _ => { align := 0 }
end HS
namespace HS
open PySem PySem.Spec L2
def eFmtB (f : Ev) : Ev := fun η S => (f η S).bind fun p => match p.1 with
  | .int i => if 0 ≤ i ∧ (binS i).length ≤ SZ then some (.str (binS i), p.2) else none
  | _ => none
section
variable {fa : String → Option Addr} {X : Cx} {e : Expr} {p1 p2 p3 p4 : Pos} {j : Nat} {f : Ev}
end
def mCount : RM := fun a ds S => match a, ds with
  | .str x, [.str y] => some (.int (Txt.count x y), S)
  | _, _ => none
end HS
namespace HS
open PySem L2
abbrev FnP (K : PySem.W.Frag) (x qual : Str) (st : Stmt) (f : Addr) (fd : FuncData) : Prop := FunD K x qual (defArgs st) (defBody st) (defScope st) [] [] f fd
section
variable {P : Program} {w : World} {K : PySem.W.Frag} {mg : Str → Option Value} {base : Heap} {fa : String → Option Addr}
theorem fn_ruleD {x qual : Str} {st : Stmt} {f : Addr} {fd : FuncData} {N ps : List Str} {k : Nat} {g : Sv} (F : FnP K x qual st f fd) (S : FnScope N ps (defScope st))
    (body : ∀ (cdv : Value) (A : Around) (outer : List PySem.Env) (s : Shared) (H : Hp) (E : XK), Room k (A.deeper (PyProof.Rows.envOfC qual (defScope st) s.heap.objs.size f cdv)) → SSs fa (cxOf CX0 P w K mg base N qual (defScope st) f cdv A outer s H E).nox (defBody st) g) :
    FnOk P w K mg base CX0 (k + 1) f fd ps (spOf ⟨P, w, K, fa⟩ (callOf N.length g) ps.length) := by
  refine FunD.ok F S (fun vs H Q E h => ?_) (fun cdv A outer s H vs Q E hr h => ?_)
  · obtain ⟨w, S, ds, d, own, S', _, _, r, hl, _⟩ := h
    rw [← r.length]; exact hl
  · obtain ⟨w, S, ds, d, own, S', rfl, hS, r, hl, hc, hQ⟩ := h
    obtain ⟨t, pt, sem⟩ := (body cdv A outer s w.H E hr).ex
    refine ⟨t, PSs.nox pt, ?_⟩
    unfold callOf at hc
    obtain ⟨⟨fl, η', S1⟩, h1, h2⟩ := bsome hc
    refine sem w (L2.start N vs) _ S fl η' S1 (repE_start r) hS h1 _ ?_
    unfold endS at h2
    cases fl with
    | nx => exact fun σ' w' e s _ => end_post hS e s .non h2 hQ
    | ret d => exact fun v w' e s r => end_post hS e s r h2 hQ
    | bk => cases h2
    | ct => cases h2
/-- the law's promise to the head -/
def spLaw (K : PySem.W.Frag) : Sp := fun vs H Q _ => ∃ (a : Addr) (ns : List Int), vs = [.ref a] ∧ Only H ∧ SqL K H a (ns.map V.int) ∧ ns.length ≤ 63 ∧ ∀ H', Q (.bl true) H'
theorem law_imp {k : Nat} {f : Addr} {fd : FuncData} {ps : List Str} {c : Cv} (F : FnOk P w K mg base CX0 k f fd ps (spOf ⟨P, w, K, fa⟩ c 1)) (h : ∀ ns : List Int, ns.length ≤ 63 → ∃ S', c [.scr (ns.map D.int)] [] = some (.bl true, false, S')) :
    FnOk P w K mg base CX0 k f fd ps (spLaw K) := by
  refine F.imp fun vs H Q E ⟨a, ns, e, hO, hS, hl, hQ⟩ => ?_
  subst e
  obtain ⟨S', hc⟩ := h ns hl
  have hn : a ∉ (⟨[], [], H⟩ : Wd).F := fun z => by cases z
  refine ⟨⟨[], [], H⟩, [], [.scr (ns.map D.int)], _, _, _, rfl, ⟨rfl, List.nodup_nil, fun q z => (nomatch z), fun i p d z _ => (by have z : ([] : List Addr)[i]? = some p := z; simp at z)⟩, .cons ?_ .nil, rfl, hc, fun v w' e s r => ?_⟩
  · rcases hS with (z | ⟨o, z⟩) | z
    · rcases hO a with q | ⟨o, xs, q⟩
      · rw [z] at q; cases q
      · rw [z] at q; cases q
    · exact .frz z hn (repL_ints ns)
    · exact .scrK z (repL_ints ns)
  · cases r
    exact hQ _
end
end HS
set_option maxHeartbeats 1000000
namespace HS
open PySem PySem.Spec L2 PyProof.Rows
section
variable {fa : String → Option Addr} {X : Cx} {M : PM} {e : Expr} {pos p p2 p3 lpos : Pos} {f : Ev} {k : Nat}
open Classical in
noncomputable def eSortL (j : Nat) (n : String) (q : PySem.Str) (c : Cv) (f : Ev) : Ev := fun η S => (f η S).bind fun r => if r.2[j]? = some (tabD n q) then bSortK c r.1 r.2 else none
def rSL (fa : String → Option Addr) (X : Cx) (M : PM) (c : Cv) : List V → List V → Hp → VK → Prop := fun vs zs H Q => ∃ (w : Wd) (S S1 : Sto) (d D : D) (l g : Addr) (J : Wd → Prop), w.H = H ∧ vs = [.ref l] ∧ zs = [.ref g] ∧ Sim (cf fa X) w S ∧ Rep (cf fa X) w d (.ref l) ∧ KeyRunJ J X (cf fa X) (.ref g) c ∧ (∀ w', Le w w' → J w') ∧ bSortK c d S = some (D, S1) ∧ M (cf fa X) w D S1 Q
end
section
variable {P : Program} {w : World} {K : PySem.W.Frag} {mg : PySem.Str → Option Value} {base : Heap} {fa : String → Option Addr}
/-- the law's promise, with tables -/
def spLawT (K : PySem.W.Frag) (cs : List (Addr × Addr)) : Sp := fun vs H Q _ => ∃ (a : Addr) (ns : List Int), vs = [.ref a] ∧ (∀ p ∈ cs, H p.2 = some (.tbl #[])) ∧ SqL K H a (ns.map V.int) ∧ ns.length ≤ 63 ∧ ∀ H', Q (.bl true) H'
end
end HS
namespace HS
open PySem L2

/-- an entry: the key, the value that it stands as, what it gives -/
abbrev Ent := NestedKey × V × V
def lookE (es : List Ent) (k : NestedKey) : Option V := (es.find? fun e => decide (e.1 = k)).map (·.2.2)
def putE (es : List Ent) (k : NestedKey) (y v : V) : List Ent := if (es.any fun e => decide (e.1 = k)) = true then es.map fun e => if e.1 = k then (e.1, e.2.1, v) else e else es ++ [(k, y, v)]
def isTK : NestedKey → Bool
  | .tup _ => true
  | _ => false
def nkK : Key → NestedKey
  | .inl i => .num i
  | .inr x => .text x
theorem nkK_inj {a b : Key} (e : nkK a = nkK b) : a = b := by
  cases a <;> cases b <;> simp [nkK] at e <;> rw [e]
theorem nkK_tup (a : Key) : isTK (nkK a) = false := by cases a <;> rfl
def entK (m : List (Key × V)) : List Ent := m.map fun x => (nkK x.1, kV x.1, x.2)
def entN (m : List ((NestedKey × Addr) × V)) : List Ent := m.map fun x => (x.1.1, .ref x.1.2, x.2)
/-- the dict at p has these entries -/
def DicH (P : Program) (wd : World) (H : Hp) (p : Addr) (es : List Ent) : Prop :=
  (∃ m : List (Key × V), H p = some (.dK m) ∧ es = entK m ∧ m ≠ []) ∨ ∃ (o : Obj) (m : List ((NestedKey × Addr) × V)), H p = some (nDictP P wd p o m) ∧ es = entN m
/-- the keys are keys -/
def KeyH (K : PySem.W.Frag) (H : Hp) (y : V) (k : NestedKey) : Prop := Dp K H y k.data ∧ k.depth ≤ 8
def KeysH (K : PySem.W.Frag) (H : Hp) (es : List Ent) : Prop := ∀ e ∈ es, KeyH K H e.2.1 e.1

theorem lookE_entK (m : List (Key × V)) (k : Key) : lookE (entK m) (nkK k) = valV m k := by
  induction m with
  | nil => rfl
  | cons x m ih =>
    unfold lookE valV entK at ih ⊢
    rw [List.map_cons, List.find?_cons, List.find?_cons]
    by_cases e : x.1 = k
    · simp [e]
    · have : ¬ nkK x.1 = nkK k := fun z => e (nkK_inj z)
      simp only [decide_eq_false e, decide_eq_false this]
      exact ih
theorem any_entK (m : List (Key × V)) (k : Key) : ((entK m).any fun e => decide (e.1 = nkK k)) = m.any fun e => decide (e.1 = k) := by
  induction m with
  | nil => rfl
  | cons x m ih =>
    unfold entK at ih ⊢
    rw [List.map_cons, List.any_cons, List.any_cons, ih]
    by_cases e : x.1 = k
    · simp [e]
    · have : ¬ nkK x.1 = nkK k := fun z => e (nkK_inj z)
      simp [e, this]
theorem putE_entK (m : List (Key × V)) (k : Key) (y v : V) (hy : y = kV k) : putE (entK m) (nkK k) y v = entK (putK m k v) := by
  unfold putE putK
  rw [any_entK]
  split
  · unfold entK
    rw [List.map_map, List.map_map]
    refine List.map_congr_left fun x _ => ?_
    by_cases e : x.1 = k
    · simp [e]
    · have : ¬ nkK x.1 = nkK k := fun z => e (nkK_inj z)
      simp [e, this]
  · subst hy
    simp [entK]
theorem any_lookE (es : List Ent) (k : NestedKey) : (es.any fun e => decide (e.1 = k)) = (lookE es k).isSome := by
  unfold lookE
  rw [Option.isSome_map]
  induction es with
  | nil => rfl
  | cons x es ih =>
    rw [List.any_cons, List.find?_cons, ih]
    cases decide (x.1 = k) <;> simp

/-- the raw entries of a dict with keys that are tuples -/
abbrev EN (es : List Ent) (xs : List (NestedKey × Addr × Value)) : Prop := Paired (fun (e : Ent) (q : NestedKey × Addr × Value) => e.1 = q.1 ∧ e.2.1 = .ref q.2.1 ∧ RelV e.2.2 q.2.2) es xs
theorem EN.look {es : List Ent} {xs : List (NestedKey × Addr × Value)} (r : EN es xs) (k : NestedKey) : RelO (lookE es k) ((atKey xs k).map (·.2)) := by
  induction r with
  | nil => exact True.intro
  | @cons p q ps qs h t ih =>
    obtain ⟨h1, _, h2⟩ := h
    unfold lookE atKey at ih ⊢
    rw [List.find?_cons, List.find?_cons]
    by_cases e : p.1 = k
    · have e' : q.1 = k := h1.symm.trans e
      simp only [decide_eq_true e, decide_eq_true e']
      exact h2
    · have e' : ¬ q.1 = k := fun z => e (h1.trans z)
      simp only [decide_eq_false e, decide_eq_false e']
      exact ih
theorem EN.put {es : List Ent} {xs : List (NestedKey × Addr × Value)} (r : EN es xs) (k : NestedKey) {a : Addr} {v : V} {u : Value} (rv : RelV v u) : EN (putE es k (.ref a) v) (storedH xs k a u) := by
  unfold putE storedH
  rw [any_lookE, (r.look k).isSome_eq, Option.isSome_map]
  by_cases q : (atKey xs k).isSome = true
  · rw [if_pos q, if_pos q]
    clear q
    induction r with
    | nil => exact .nil
    | @cons p q ps qs h t ih =>
      rw [List.map_cons, List.map_cons]
      refine .cons ?_ ih
      obtain ⟨h1, h2, h3⟩ := h
      unfold putAt
      by_cases e : p.1 = k
      · rw [if_pos e, if_pos (h1.symm.trans e)]; exact ⟨h1, h2, rv⟩
      · rw [if_neg e, if_neg (fun z => e (h1.trans z))]; exact ⟨h1, h2, h3⟩
  · rw [if_neg q, if_neg q]
    exact Paired.snoc r ⟨rfl, rfl, rv⟩
theorem EN.of {m : List ((NestedKey × Addr) × V)} {xs : List (NestedKey × Addr × Value)} (r : Paired (fun (a : (NestedKey × Addr) × V) (q : NestedKey × Addr × Value) => a.1 = (q.1, q.2.1) ∧ RelV a.2 q.2.2) m xs) : EN (entN m) xs := by
  induction r with
  | nil => exact .nil
  | cons h t ih => exact .cons ⟨congrArg Prod.fst h.1, congrArg (fun z => V.ref z.2) h.1, h.2⟩ ih
theorem EN.to {es : List Ent} {xs : List (NestedKey × Addr × Value)} (r : EN es xs) : ∃ m, es = entN m ∧ Paired (fun (a : (NestedKey × Addr) × V) (q : NestedKey × Addr × Value) => a.1 = (q.1, q.2.1) ∧ RelV a.2 q.2.2) m xs := by
  induction r with
  | nil => exact ⟨[], rfl, .nil⟩
  | @cons p q ps qs h t ih =>
    obtain ⟨m, e, r⟩ := ih
    obtain ⟨p1, p2, p3⟩ := p
    obtain ⟨h1, h2, h3⟩ := h
    have h1 : p1 = q.1 := h1
    have h2 : p2 = .ref q.2.1 := h2
    subst h1; subst h2
    exact ⟨((q.1, q.2.1), p3) :: m, by rw [e]; rfl, .cons ⟨rfl, h3⟩ r⟩

section
variable {X : Cx} {pins : List (Addr × Obj)} {σ : L2.St} {H : Hp} {s : Shared}
mutual
theorem key_is (I : Inv X pins σ H s) : ∀ (k : NestedKey) (v : V) (u : Value), Dp X.K H v k.data → RelV v u → NestedIs s.heap k u
  | .none, _, _, h, r => by
    rw [NestedKey.data] at h
    cases h; cases r; exact .none
  | .num i, _, _, h, r => by
    rw [NestedKey.data] at h
    cases h
    obtain ⟨t, rfl⟩ := r
    exact .int _ _
  | .text x, _, _, h, r => by
    rw [NestedKey.data] at h
    cases h
    obtain ⟨t, rfl⟩ := r
    exact .text _ _
  | .tup ks, _, _, h, r => by
    rw [NestedKey.data] at h
    cases h with
    | tup hs hd =>
      cases r
      obtain ⟨its, rv, ⟨o, e1, e2, n, e3⟩, hz⟩ := I.tuple hs
      refine .tup e1 e2 e3 ?_
      simpa using keys_are I ks _ _ hd rv
theorem keys_are (I : Inv X pins σ H s) : ∀ (ks : List NestedKey) (vs : List V) (us : List Value), DpAll X.K H vs (NestedKey.datas ks) → Vals vs us → NestedAll s.heap ks us
  | [], _, _, h, r => by
    rw [NestedKey.datas] at h
    cases h; cases r; exact .nil
  | k :: ks, _, _, h, r => by
    rw [NestedKey.datas] at h
    cases h with
    | cons h1 h2 =>
      cases r with
      | cons r1 r2 => exact .cons (key_is I k _ _ h1 r1) (keys_are I ks _ _ h2 r2)
end
theorem KeyH.tup (I : Inv X pins σ H s) {y : V} {k : NestedKey} {u : Value} (h : KeyH X.K H y k) (ht : isTK k = true) (r : RelV y u) : ∃ a, y = .ref a ∧ u = .ref a ∧ (nestedKind X.prog X.w).is s.heap k a := by
  have q := key_is I k y u h.1 r
  cases k with
  | tup ks =>
    have h1 := h.1
    rw [NestedKey.data] at h1
    cases h1 with
    | tup hs hd =>
      cases r
      exact ⟨_, rfl, rfl, q, h.2⟩
  | _ => cases ht
theorem KeyH.flat {K : PySem.W.Frag} {y : V} {k : NestedKey} (h : KeyH K H y k) (ht : isTK k = false) : y = .non ∨ ∃ j : Key, k = nkK j ∧ y = kV j := by
  have h1 := h.1
  cases k with
  | tup ks => cases ht
  | none =>
    rw [NestedKey.data] at h1
    cases h1
    exact .inl rfl
  | num i =>
    rw [NestedKey.data] at h1
    cases h1
    exact .inr ⟨.inl i, rfl, rfl⟩
  | text x =>
    rw [NestedKey.data] at h1
    cases h1
    exact .inr ⟨.inr x, rfl, rfl⟩
theorem KeyH.key (K : PySem.W.Frag) (H : Hp) (j : Key) : KeyH K H (kV j) (nkK j) := by
  cases j with
  | inl i => exact ⟨by show Dp K H (.int i) (NestedKey.num i).data; rw [NestedKey.data]; exact .int i, by show (NestedKey.num i).depth ≤ 8; simp [NestedKey.depth]⟩
  | inr x => exact ⟨by show Dp K H (.str x) (NestedKey.text x).data; rw [NestedKey.data]; exact .str x, by show (NestedKey.text x).depth ≤ 8; simp [NestedKey.depth]⟩

/-- as a dict with keys that are ints and texts -/
theorem dic_toK {p : Addr} {es : List Ent} (I : Inv X pins σ H s) (d : DicH X.prog X.w H p es) (hk : KeysH X.K H es) (ht : ∀ e ∈ es, isTK e.1 = false) :
    ∃ m vs, es = entK m ∧ KV m vs ∧ (p == sysModules) = false ∧ m.length ≤ sizeLine ∧ s.heap.DictOf (mixKind X.prog X.w) p vs := by
  rcases d with ⟨m, e, rfl, _⟩ | ⟨o, m, e, rfl⟩
  · obtain ⟨z, hd, vs, rel, dd⟩ := dk_of I.hok e
    exact ⟨m, vs, rfl, rel, hd, z, dd⟩
  · have hm : m = [] := by
      cases m with
      | nil => rfl
      | cons x m =>
        exfalso
        have h1 := hk (x.1.1, .ref x.1.2, x.2) (by simp [entN])
        have h2 := ht (x.1.1, .ref x.1.2, x.2) (by simp [entN])
        rcases h1.flat h2 with z | ⟨j, _, z⟩
        · cases z
        · cases j <;> cases z
    subst hm
    obtain ⟨⟨ho, hs, hz, xs, es', ep, r, hx, hd, hes, hn⟩, _, _⟩ := I.hok p _ e
    cases r
    refine ⟨[], [], rfl, .nil, hs, Nat.zero_le _, o, es', ep, ho, hx, hd, fun en hen => ?_, ?_, List.nodup_nil⟩
    · have : en ∈ es'.toList := by simpa using hen
      rw [hes] at this
      simp at this
    · rw [hes]
      exact Pairs.nil
/-- as a dict with keys that are tuples -/
theorem dic_toN {p : Addr} {es : List Ent} (I : Inv X pins σ H s) (d : DicH X.prog X.w H p es) (hk : KeysH X.K H es) (ht : ∀ e ∈ es, isTK e.1 = true) :
    ∃ xs, EN es xs ∧ (p == sysModules) = false ∧ es.length ≤ sizeLine ∧ s.heap.DictOfH (nestedKind X.prog X.w) p xs := by
  have kis : ∀ {es : List Ent} {xs : List (NestedKey × Addr × Value)}, EN es xs → KeysH X.K H es → (∀ e ∈ es, isTK e.1 = true) → ∀ x ∈ xs, (nestedKind X.prog X.w).is s.heap x.1 x.2.1 := by
    intro es xs r
    induction r with
    | nil => intro _ _ x hx; exact nomatch hx
    | @cons p q ps qs h t ih =>
      intro hk ht x hx
      rcases List.mem_cons.mp hx with e | hx
      · subst e
        obtain ⟨a, e1, e2, q⟩ := (hk p List.mem_cons_self).tup I (ht p List.mem_cons_self) (u := .ref x.2.1) (by rw [h.2.1]; rfl)
        cases e2
        rw [← h.1]
        exact q
      · exact ih (fun e he => hk e (List.mem_cons_of_mem _ he)) (fun e he => ht e (List.mem_cons_of_mem _ he)) x hx
  rcases d with ⟨m, e, rfl, _⟩ | ⟨o, m, e, rfl⟩
  · have hm : m = [] := by
      cases m with
      | nil => rfl
      | cons x m =>
        exfalso
        have h2 := ht (nkK x.1, kV x.1, x.2) (by simp [entK])
        rw [nkK_tup] at h2
        cases h2
    subst hm
    obtain ⟨z, hd, vs, rel, o, es', ep, ho, hx, hdd, hks, hp, hn⟩ := dk_of I.hok e
    cases rel
    refine ⟨[], .nil, hd, Nat.zero_le _, o, es', ep, ho, hx, hdd, ?_, fun x hx => (nomatch hx), List.nodup_nil⟩
    cases hl : es'.toList with
    | nil => rfl
    | cons a l => rw [hl] at hp; cases hp
  · obtain ⟨⟨ho, hs, hz, xs, es', ep, r, hx, hd, hes, hn⟩, _, _⟩ := I.hok p _ e
    have r2 := EN.of r
    exact ⟨xs, r2, hs, by simpa [entN] using hz, o, es', ep, ho, hx, hd, hes, kis r2 hk ht, hn⟩
theorem dic_type {p : Addr} {es : List Ent} (I : Inv X pins σ H s) (d : DicH X.prog X.w H p es) : s.TypeIs (.ref p) "dict" ∧ (∀ b, Value.ref p = .ref b → ∃ ob, s.heap.get? b = some ob ∧ ob.dict = none) ∧ (p == sysModules) = false := by
  rcases d with ⟨m, e, rfl, _⟩ | ⟨o, m, e, rfl⟩
  · obtain ⟨z, hd, vs, rel, dd⟩ := dk_of I.hok e
    refine ⟨dd.typeIs, fun b q => ?_, hd⟩
    cases q
    obtain ⟨ob, _, _, h1, h2, _⟩ := dd
    exact ⟨ob, h1, h2.2.1⟩
  · obtain ⟨⟨ho, hs, hz, xs, es', ep, r, hx, hd, hes, hn⟩, _, _⟩ := I.hok p _ e
    refine ⟨⟨o, ho, hx.1⟩, fun b q => ?_, hs⟩
    cases q
    exact ⟨o, ho, hx.2.1⟩

/-- the new entry at p: what the heap is then -/
theorem n_new {p : Addr} {h' : Heap} {H' : Hp} {es : List Ent} {xs : List (NestedKey × Addr × Value)} (r : EN es xs) (hs : (p == sysModules) = false) (hz : es.length ≤ sizeLine) (d : h'.DictOfH (nestedKind X.prog X.w) p xs) :
    ∃ o m, es = entN m ∧ ObjOk X.prog X.w H' h' p (nDictP X.prog X.w p o m) := by
  obtain ⟨o, es', ep, ho, hx, hd, hes, his, hn⟩ := d
  obtain ⟨m, rfl, r2⟩ := r.to
  exact ⟨o, m, rfl, ⟨ho, hs, by simpa [entN] using hz, xs, es', ep, r2, hx, hd, hes, hn⟩, ⟨o, ho⟩, fun h1 h2 a b => ⟨b _ a.1, a.2⟩⟩
theorem putE_len (es : List Ent) (k : NestedKey) (y v : V) : (putE es k y v).length ≤ es.length + 1 := by
  unfold putE
  split
  · rw [List.length_map]; omega
  · simp
end
end HS
namespace HS
open PySem L2
/-- the key fits the dict's keys -/
def FitH (es : List Ent) (k : NestedKey) : Prop := ∀ e ∈ es, isTK e.1 = isTK k
/-- a key that may be looked up: no None -/
def AskH (k : NestedKey) : Prop := k ≠ .none
section
variable {X : Cx} {pins : List (Addr × Obj)} {σ : L2.St} {H : Hp} {s : Shared} {A : Around} {E : Value → Shared → Prop} {p : Addr} {es : List Ent} {k : NestedKey} {y v d : V} {u r : Value}
theorem flat_key {K : PySem.W.Frag} {H : Hp} (hy : KeyH K H y k) (ht : isTK k = false) (ha : AskH k) : ∃ j : Key, k = nkK j ∧ y = kV j := by
  rcases hy.flat ht with e | e
  · subst e
    have h1 := hy.1
    cases k with
    | none => exact absurd rfl ha
    | num i => rw [NestedKey.data] at h1; cases h1
    | text i => rw [NestedKey.data] at h1; cases h1
    | tup i => cases ht
  · exact e
/-- d[y] -/
theorem n_getItem {Q : Value → Shared → Prop} (hu : A.units + 9 < cLine) (I : Inv X pins σ H s) (dh : DicH X.prog X.w H p es) (hk : KeysH X.K H es) (hf : FitH es k) (hy : KeyH X.K H y k) (ha : AskH k) (ry : RelV y u) (l : lookE es k = some v)
    (h : ∀ w' s', Inv X pins σ H s' → RelV v w' → Q w' s') : wpAny (model X.prog X.w) A (getItem (.ref p) u) Q E s := by
  cases ht : isTK k with
  | false =>
    obtain ⟨j, rfl, rfl⟩ := flat_key hy ht ha
    obtain ⟨m, vs, rfl, rel, hs, hz, dd⟩ := dic_toK I dh hk fun e he => (hf e he).trans ht
    rw [lookE_entK] at l
    obtain ⟨w', hw, rw'⟩ := RelO.some_of (v := v) (o := valueAt vs j) (by rw [← l]; exact rel.val j)
    exact wpAny_getItem_of (kV_is ry) dd.mapOf hw (h w' _ (I.tok _) rw')
  | true =>
    obtain ⟨a, rfl, rfl, hi⟩ := hy.tup I ht ry
    obtain ⟨xs, rel, hs, hz, dd⟩ := dic_toN I dh hk fun e he => (hf e he).trans ht
    obtain ⟨w', hw, rw'⟩ := RelO.some_of (v := v) (o := (atKey xs k).map (·.2)) (by rw [← l]; exact rel.look k)
    obtain ⟨q, hq, rfl⟩ := Option.map_eq_some_iff.mp hw
    exact wpAny_getItem_heap (knd := nestedKind X.prog X.w) (show A.in1.units + 8 < cLine from hu) hi dd hq (h _ _ (I.tok _) rw')
theorem n_in {Q : Value → Shared → Prop} (hu : A.units + 9 < cLine) (I : Inv X pins σ H s) (dh : DicH X.prog X.w H p es) (hk : KeysH X.K H es) (hf : FitH es k) (hy : KeyH X.K H y k) (ha : AskH k) (ry : RelV y u)
    (h : ∀ s', Inv X pins σ H s' → Q (.bool (lookE es k).isSome) s') : wpAny (model X.prog X.w) A (compareOp .In u (.ref p)) Q E s := by
  cases ht : isTK k with
  | false =>
    obtain ⟨j, rfl, rfl⟩ := flat_key hy ht ha
    obtain ⟨m, vs, rfl, rel, hs, hz, dd⟩ := dic_toK I dh hk fun e he => (hf e he).trans ht
    rw [lookE_entK, (rel.val j).isSome_eq] at h
    exact wpAny_in_of (kV_is ry) hs dd.mapOf (h _ (I.tok _))
  | true =>
    obtain ⟨a, rfl, rfl, hi⟩ := hy.tup I ht ry
    obtain ⟨xs, rel, hs, hz, dd⟩ := dic_toN I dh hk fun e he => (hf e he).trans ht
    refine wpAny_in_heap (knd := nestedKind X.prog X.w) (show A.in1.units + 8 < cLine from hu) hi hs dd ?_
    have q := (rel.look k).isSome_eq
    rw [Option.isSome_map] at q
    rw [← q]
    exact h _ (I.tok _)
theorem mut_dic (dh : DicH X.prog X.w H p es) : Mut (H p) := by
  rcases dh with ⟨m, e, _⟩ | ⟨o, m, e, _⟩
  · rw [e]; exact True.intro
  · rw [e]; exact True.intro
/-- what is wanted behind a write -/
abbrev PutQ (X : Cx) (H : Hp) (p : Addr) (es : List Ent) (k : NestedKey) (y v : V) (Q : Hp → Prop) : Prop := ∀ ho, DicH X.prog X.w (upd H p ho) p (putE es k y v) → Q (upd H p ho)
theorem putK_ne {m : List (Key × V)} {j : Key} {v : V} : putK m j v ≠ [] := by
  unfold putK
  split
  · rename_i h
    intro e
    rw [List.map_eq_nil_iff] at e
    subst e
    cases h
  · simp
theorem put_K {m : List (Key × V)} {vs : List (Key × Value)} {j : Key} {h' : Heap} {t' : Nat} {Q : Hp → Prop} (I : Inv X pins σ H s) (dh : DicH X.prog X.w H p (entK m)) (rel : KV m vs) (hs : (p == sysModules) = false) (hl : m.length < sizeLine) (rv : RelV v r) (dd : h'.DictOf (mixKind X.prog X.w) p (stored vs j r))
    (sb : Heap.SameBut p s.heap h') (hQ : PutQ X H p (entK m) (nkK j) (kV j) v Q) : ∃ H', Inv X pins σ H' { s with heap := h', toks := t' } ∧ Q H' := by
  have hl2 : (putK m j v).length ≤ sizeLine := by have := length_putK m j v; omega
  have he : ∃ q, h'.get? p = some q := let ⟨q, _, _, hq, _⟩ := dd; ⟨q, hq⟩
  exact ⟨_, d_write (t' := t') I (mut_dic dh) sb he (dk_new hl2 hs (rel.put j rv) dd), hQ _ (.inl ⟨_, upd_same, putE_entK m j _ v rfl, putK_ne⟩)⟩
theorem put_N {xs : List (NestedKey × Addr × Value)} {a : Addr} {h' : Heap} {t' : Nat} {Q : Hp → Prop} (I : Inv X pins σ H s) (dh : DicH X.prog X.w H p es) (rel : EN es xs) (hs : (p == sysModules) = false) (hl : es.length < sizeLine) (rv : RelV v r) (dd : h'.DictOfH (nestedKind X.prog X.w) p (storedH xs k a r))
    (sb : Heap.SameBut p s.heap h') (hQ : PutQ X H p es k (.ref a) v Q) : ∃ H', Inv X pins σ H' { s with heap := h', toks := t' } ∧ Q H' := by
  have he : ∃ q, h'.get? p = some q := let ⟨q, _, _, hq, _⟩ := dd; ⟨q, hq⟩
  have hz : (putE es k (.ref a) v).length ≤ sizeLine := by have := putE_len es k (.ref a) v; omega
  obtain ⟨o, m, e, ok⟩ := n_new (H' := upd H p (.ext fun _ => True)) (rel.put k rv) hs hz dd
  obtain ⟨o, m, e, ok⟩ : ∃ o m, putE es k (.ref a) v = entN m ∧ ObjOk X.prog X.w (upd H p (nDictP X.prog X.w p o m)) h' p (nDictP X.prog X.w p o m) := ⟨o, m, e, ok⟩
  exact ⟨_, d_write (t' := t') I (mut_dic dh) sb he ok, hQ _ (.inr ⟨o, m, upd_same, e⟩)⟩
theorem n_dictSet {Q : Hp → Prop} {R : Unit → Shared → Prop} (hu : A.units + 9 < cLine) (I : Inv X pins σ H s) (dh : DicH X.prog X.w H p es) (hk : KeysH X.K H es) (hf : FitH es k) (hy : KeyH X.K H y k) (ha : AskH k) (ry : RelV y u) (rv : RelV v r) (hl : es.length < sizeLine)
    (hQ : PutQ X H p es k y v Q) (h : ∀ s' H', Inv X pins σ H' s' → Q H' → R () s') : wpAny (model X.prog X.w) A (dictSet p u r) R E s := by
  cases ht : isTK k with
  | false =>
    obtain ⟨j, rfl, rfl⟩ := flat_key hy ht ha
    obtain ⟨m, vs, rfl, rel, hs, hz, dd⟩ := dic_toK I dh hk fun e he => (hf e he).trans ht
    have hlm : m.length < sizeLine := by simpa [entK] using hl
    refine wpAny_dictSet_pairs (hsz := by rw [← rel.length]; exact hz) (kV_is ry) dd fun h' dd' sb => ?_
    obtain ⟨H', I', q⟩ := put_K (t' := s.toks + 1) I dh rel hs hlm rv dd' sb hQ
    exact h _ H' I' q
  | true =>
    obtain ⟨a, rfl, rfl, hi⟩ := hy.tup I ht ry
    obtain ⟨xs, rel, hs, hz, dd⟩ := dic_toN I dh hk fun e he => (hf e he).trans ht
    refine wpAny_dictSet_heap (knd := nestedKind X.prog X.w) (hsz := by rw [← rel.length]; exact hz) (show A.units + 8 < cLine by omega) hi dd fun h' dd' sb => ?_
    obtain ⟨H', I', q⟩ := put_N I dh rel hs hl rv dd' sb hQ
    exact h _ H' I' q
end
end HS
namespace HS
open PySem L2

def dicOf (S : Sto) : D → Option (List (D × D))
  | .dic kvs => some kvs
  | .ref i => match S[i]? with
    | some (.dic kvs) => some kvs
    | _ => none
  | _ => none
/-- the key that a datum is -/
def keyN (d : D) : Option NestedKey := (nkD d).bind fun k => if k.depth ≤ 8 ∧ k ≠ .none then some k else none
def dLook (kvs : List (D × D)) (k : NestedKey) : Option D := (kvs.find? fun e => decide (nkD e.1 = some k)).map (·.2)
def dPut (kvs : List (D × D)) (k : NestedKey) (y v : D) : List (D × D) := if (kvs.any fun e => decide (nkD e.1 = some k)) = true then kvs.map fun e => if nkD e.1 = some k then (e.1, v) else e else kvs ++ [(y, v)]
def fitK (k : NestedKey) (d : D) : Bool := match keyN d with
  | some j => decide (isTK j = isTK k)
  | none => false
def dFit (kvs : List (D × D)) (k : NestedKey) : Bool := kvs.all fun e => fitK k e.1
/-- the dict's entries stand so -/
abbrev RepD (C : Cf) (w : Wd) : List (D × D) → List Ent → Prop := Paired fun (e : D × D) (q : Ent) => nkD e.1 = some q.1 ∧ Rep C w e.1 q.2.1 ∧ Rep C w e.2 q.2.2
section
variable {C : Cf} {w w' : Wd} {kvs : List (D × D)} {es : List Ent}
theorem RepD.mono (e : LeF w w') (r : RepD C w kvs es) : RepD C w' kvs es := Paired.mapP r fun _ _ h => ⟨h.1, h.2.1.mono e, h.2.2.mono e⟩
theorem RepD.len (r : RepD C w kvs es) : kvs.length = es.length := Paired.length r
theorem nk_key {d : D} {k : Key} (h : keyD d = some k) : nkD d = some (nkK k) ∧ ∀ w, Rep C w d (kV k) := by
  cases d <;> simp [keyD] at h <;> subst h
  · exact ⟨by simp [nkD, nkK], fun w => .int _⟩
  · exact ⟨by simp [nkD, nkK], fun w => .str _⟩
theorem nk_key' {d : D} {k : Key} (h : nkD d = some (nkK k)) : keyD d = some k := by
  cases k with
  | inl i => cases d <;> simp [nkD, nkK] at h <;> simp [keyD, h]
  | inr x => cases d <;> simp [nkD, nkK] at h <;> simp [keyD, h]
theorem repD_K : ∀ {kvs : List (D × D)} {m : List (Key × V)}, (kvs.map fun x => keyD x.1) = (m.map fun x => some x.1) → RepL C w (kvs.map (·.2)) (m.map (·.2)) → RepD C w kvs (entK m)
  | [], [], _, _ => .nil
  | [], _ :: _, h, _ => by simp at h
  | _ :: _, [], h, _ => by simp at h
  | x :: kvs, y :: m, h, r => by
    rw [List.map_cons, List.map_cons] at h r
    injection h with h1 h2
    cases r with
    | cons r1 r2 => exact .cons ⟨(nk_key (C := C) h1).1, (nk_key h1).2 w, r1⟩ (repD_K h2 r2)
theorem repD_K' : ∀ {kvs : List (D × D)} {m : List (Key × V)}, RepD C w kvs (entK m) → (kvs.map fun x => keyD x.1) = (m.map fun x => some x.1) ∧ RepL C w (kvs.map (·.2)) (m.map (·.2))
  | [], [], _ => ⟨rfl, .nil⟩
  | x :: kvs, y :: m, .cons h t => by
    obtain ⟨e, r⟩ := repD_K' (m := m) t
    exact ⟨by rw [List.map_cons, List.map_cons, e, nk_key' h.1], .cons h.2.2 r⟩
theorem repD_N : ∀ {kvs : List (D × D)} {m : List ((NestedKey × Addr) × V)}, (kvs.map fun x => nkD x.1) = (m.map fun x => some x.1.1) → RepL C w (kvs.map (·.1)) (m.map fun x => V.ref x.1.2) → RepL C w (kvs.map (·.2)) (m.map (·.2)) → RepD C w kvs (entN m)
  | [], [], _, _, _ => .nil
  | [], _ :: _, h, _, _ => by simp at h
  | _ :: _, [], h, _, _ => by simp at h
  | x :: kvs, y :: m, h, r, q => by
    rw [List.map_cons, List.map_cons] at h r q
    injection h with h1 h2
    cases r with
    | cons r1 r2 =>
      cases q with
      | cons q1 q2 => exact .cons ⟨h1, r1, q1⟩ (repD_N h2 r2 q2)
theorem repD_N' : ∀ {kvs : List (D × D)} {m : List ((NestedKey × Addr) × V)}, RepD C w kvs (entN m) → (kvs.map fun x => nkD x.1) = (m.map fun x => some x.1.1) ∧ RepL C w (kvs.map (·.1)) (m.map fun x => V.ref x.1.2) ∧ RepL C w (kvs.map (·.2)) (m.map (·.2))
  | [], [], _ => ⟨rfl, .nil, .nil⟩
  | x :: kvs, y :: m, .cons h t => by
    obtain ⟨e, r, q⟩ := repD_N' (m := m) t
    refine ⟨?_, .cons h.2.1 r, .cons h.2.2 q⟩
    rw [List.map_cons, List.map_cons, e]
    exact congrArg (· :: _) h.1
theorem objD {p : Addr} (h : ObjRep C w p (.dic kvs)) : ∃ es, DicH C.P C.w w.H p es ∧ RepD C w kvs es := by
  rcases h with ⟨m, e, k, r⟩ | ⟨o, m, e, k, r1, r2⟩
  · exact ⟨entK m, .inl ⟨m, e, rfl, k.2⟩, repD_K k.1 r⟩
  · exact ⟨entN m, .inr ⟨o, m, e, rfl⟩, repD_N k r1 r2⟩
theorem objD' {p : Addr} (h : DicH C.P C.w w.H p es) (r : RepD C w kvs es) : ObjRep C w p (.dic kvs) := by
  rcases h with ⟨m, e, rfl, hne⟩ | ⟨o, m, e, rfl⟩
  · exact .inl ⟨m, e, ⟨(repD_K' r).1, hne⟩, (repD_K' r).2⟩
  · exact .inr ⟨o, m, e, (repD_N' r).1, (repD_N' r).2.1, (repD_N' r).2.2⟩
theorem Rep.dicI {v : V} (r : Rep C w (.dic kvs) v) : ∃ p es, v = .ref p ∧ p ∉ w.F ∧ DicH C.P C.w w.H p es ∧ RepD C w kvs es := by
  cases r with
  | dicK m e hp k r => exact ⟨_, _, rfl, hp, .inl ⟨m, e, rfl, k.2⟩, repD_K k.1 r⟩
  | dicT o m e hp k r1 r2 => exact ⟨_, _, rfl, hp, .inr ⟨o, m, e, rfl⟩, repD_N k r1 r2⟩
theorem Rep.dicH {S : Sto} {d : D} {v : V} (s : Sim C w S) (r : Rep C w d v) (h : dicOf S d = some kvs) : ∃ p es, v = .ref p ∧ DicH C.P C.w w.H p es ∧ RepD C w kvs es := by
  cases d with
  | dic k =>
    cases h
    obtain ⟨p, es, e, _, a, b⟩ := r.dicI
    exact ⟨p, es, e, a, b⟩
  | ref i =>
    cases r with
    | ref hi =>
      simp only [dicOf] at h
      split at h
      · rename_i ys hy
        cases h
        obtain ⟨es, a, b⟩ := objD (s.obj i _ _ hi hy)
        exact ⟨_, es, rfl, a, b⟩
      · cases h
  | _ => cases h
theorem RepD.look (r : RepD C w kvs es) (k : NestedKey) : (dLook kvs k = none ∧ lookE es k = none) ∨ ∃ d v, dLook kvs k = some d ∧ lookE es k = some v ∧ Rep C w d v := by
  induction r with
  | nil => exact .inl ⟨rfl, rfl⟩
  | @cons e q kvs es h t ih =>
    unfold dLook lookE at ih ⊢
    rw [List.find?_cons, List.find?_cons]
    by_cases z : q.1 = k
    · have z2 : nkD e.1 = some k := by rw [h.1, z]
      simp only [decide_eq_true z, decide_eq_true z2]
      exact .inr ⟨_, _, rfl, rfl, h.2.2⟩
    · have z2 : ¬ nkD e.1 = some k := fun y => z (by rw [h.1] at y; exact Option.some.inj y)
      simp only [decide_eq_false z, decide_eq_false z2]
      exact ih
theorem RepD.any (r : RepD C w kvs es) (k : NestedKey) : (kvs.any fun e => decide (nkD e.1 = some k)) = es.any fun e => decide (e.1 = k) := by
  induction r with
  | nil => rfl
  | @cons e q kvs es h t ih =>
    rw [List.any_cons, List.any_cons, ih, h.1]
    congr 1
    by_cases z : q.1 = k
    · simp [z]
    · simp [z]
theorem RepD.put (r : RepD C w kvs es) {k : NestedKey} {y v : D} {yv vv : V} (hk : nkD y = some k) (ry : Rep C w y yv) (rv : Rep C w v vv) : RepD C w (dPut kvs k y v) (putE es k yv vv) := by
  unfold dPut putE
  rw [r.any k]
  split
  · clear hk ry
    induction r with
    | nil => exact .nil
    | @cons e q kvs es h t ih =>
      rename_i hh
      rw [List.map_cons, List.map_cons]
      have step : ∀ {e : D × D} {q : Ent}, (nkD e.1 = some q.1 ∧ Rep C w e.1 q.2.1 ∧ Rep C w e.2 q.2.2) → (fun (e : D × D) (q : Ent) => nkD e.1 = some q.1 ∧ Rep C w e.1 q.2.1 ∧ Rep C w e.2 q.2.2) (if nkD e.1 = some k then (e.1, v) else e) (if q.1 = k then (q.1, q.2.1, vv) else q) := by
        intro e q h
        by_cases z : q.1 = k
        · have z2 : nkD e.1 = some k := by rw [h.1, z]
          rw [if_pos z, if_pos z2]
          exact ⟨h.1, h.2.1, rv⟩
        · have z2 : ¬ nkD e.1 = some k := fun y => z (by rw [h.1] at y; exact Option.some.inj y)
          rw [if_neg z, if_neg z2]
          exact h
      refine .cons (step h) ?_
      clear ih hh h
      induction t with
      | nil => exact .nil
      | cons h t ih => exact .cons (step h) ih
  · exact Paired.snoc r ⟨hk, ry, rv⟩
mutual
theorem nk_py {S : Sto} : ∀ (d : D) (k : NestedKey), nkD d = some k → pyD S d = some k.data
  | .int i, k, h => by
    rw [nkD] at h; cases h
    rw [pyD, NestedKey.data]
  | .str x, k, h => by
    rw [nkD] at h; cases h
    rw [pyD, NestedKey.data]
  | .non, k, h => by
    rw [nkD] at h; cases h
    rw [pyD, NestedKey.data]
  | .tup xs, k, h => by
    rw [nkD] at h
    obtain ⟨ks, h1, h2⟩ := Option.map_eq_some_iff.mp h
    cases h2
    rw [pyD, NestedKey.data, nk_pys xs ks h1]
    rfl
  | .bl _, _, h => by simp [nkD] at h
  | .lst _, _, h => by simp [nkD] at h
  | .scr _, _, h => by simp [nkD] at h
  | .dic _, _, h => by simp [nkD] at h
  | .ins _ _, _, h => by simp [nkD] at h
  | .ref _, _, h => by simp [nkD] at h
  | .fn _, _, h => by simp [nkD] at h
  | .ty _, _, h => by simp [nkD] at h
  | .pr _, _, h => by simp [nkD] at h
theorem nk_pys {S : Sto} : ∀ (ds : List D) (ks : List NestedKey), nkAll ds = some ks → pyAll S ds = some (NestedKey.datas ks)
  | [], ks, h => by
    rw [nkAll] at h; cases h
    rw [pyAll, NestedKey.datas]
  | d :: ds, ks, h => by
    rw [nkAll] at h
    obtain ⟨k, h1, h2⟩ := bsome h
    obtain ⟨js, h3, h4⟩ := Option.map_eq_some_iff.mp h2
    cases h4
    rw [pyAll, NestedKey.datas, nk_py d k h1, nk_pys ds js h3]
    rfl
end
theorem keyN_some {d : D} {k : NestedKey} (h : keyN d = some k) : nkD d = some k ∧ k.depth ≤ 8 ∧ k ≠ .none := by
  unfold keyN at h
  obtain ⟨j, h1, h2⟩ := bsome h
  split at h2
  · rename_i h3
    cases h2
    exact ⟨h1, h3⟩
  · cases h2
theorem key_h {d : D} {k : NestedKey} {v : V} (h : keyN d = some k) (r : Rep C w d v) : KeyH C.K w.H v k ∧ AskH k := by
  obtain ⟨h1, h2, h3⟩ := keyN_some h
  exact ⟨⟨rep_dp (S := []) d v _ r (nk_py d k h1), h2⟩, h3⟩
theorem keys_h {k : NestedKey} (r : RepD C w kvs es) (hf : dFit kvs k = true) : KeysH C.K w.H es ∧ FitH es k := by
  induction r with
  | nil => exact ⟨fun _ h => (nomatch h), fun _ h => (nomatch h)⟩
  | @cons e q kvs es h t ih =>
    unfold dFit at hf ih
    rw [List.all_cons, Bool.and_eq_true] at hf
    obtain ⟨a, b⟩ := ih hf.2
    have h1 := hf.1
    unfold fitK at h1
    split at h1
    · rename_i j hj
      have h2 := keyN_some hj
      rw [h.1] at h2
      have : q.1 = j := Option.some.inj h2.1
      have hk := key_h (C := C) hj h.2.1
      refine ⟨fun x hx => ?_, fun x hx => ?_⟩
      · rcases List.mem_cons.mp hx with z | z
        · rw [z, this]; exact hk.1
        · exact a x z
      · rcases List.mem_cons.mp hx with z | z
        · rw [z, this]; exact of_decide_eq_true h1
        · exact b x z
    · cases h1
end

def rNGet (P : Program) (wd : World) (K : PySem.W.Frag) : R2 := fun x y H Q => ∃ p es k v, x = .ref p ∧ DicH P wd H p es ∧ KeysH K H es ∧ FitH es k ∧ KeyH K H y k ∧ AskH k ∧ lookE es k = some v ∧ Q v H
def rNIn (P : Program) (wd : World) (K : PySem.W.Frag) : R2 := fun y x H Q => ∃ p es k, x = .ref p ∧ DicH P wd H p es ∧ KeysH K H es ∧ FitH es k ∧ KeyH K H y k ∧ AskH k ∧ Q (.bl (lookE es k).isSome) H
def rNNotIn (P : Program) (wd : World) (K : PySem.W.Frag) : R2 := fun y x H Q => ∃ p es k, x = .ref p ∧ DicH P wd H p es ∧ KeysH K H es ∧ FitH es k ∧ KeyH K H y k ∧ AskH k ∧ Q (.bl (!(lookE es k).isSome)) H
section
variable {fa : String → Option Addr} {X : Cx} {M : PM} {a b e : Expr} {pos : Pos} {f g : Ev} {k0 : Nat}
theorem op_nIn (hu : X.A.units + 9 < cLine) : OpR X (compareOp .In) (rNIn X.prog X.w X.K) := by
  intro pins s σ H x y v u Q I rx ry h
  obtain ⟨p, es, k, rfl, h1, h2, h3, h4, h5, q⟩ := h
  cases ry
  exact n_in hu I h1 h2 h3 h4 h5 rx fun s' I' => ⟨.bl _, H, I', rfl, q⟩
/-- what the dict d says of the key y -/
def askD (S : Sto) (d y : D) : Option (Option D) := (dicOf S d).bind fun kvs => (keyN y).bind fun k => if dFit kvs k = true then some (dLook kvs k) else none
theorem askD_some {C : Cf} {w : Wd} {S : Sto} {d y : D} {o : Option D} {v u : V} (s : Sim C w S) (r : Rep C w d v) (ry : Rep C w y u) (h : askD S d y = some o) :
    ∃ p es k, v = .ref p ∧ DicH C.P C.w w.H p es ∧ KeysH C.K w.H es ∧ FitH es k ∧ KeyH C.K w.H u k ∧ AskH k ∧ ((o = none ∧ lookE es k = none) ∨ ∃ x z, o = some x ∧ lookE es k = some z ∧ Rep C w x z) := by
  unfold askD at h
  obtain ⟨kvs, h1, h⟩ := bsome h
  obtain ⟨k, h2, h⟩ := bsome h
  split at h
  · rename_i h3
    cases h
    obtain ⟨p, es, e, dh, rd⟩ := r.dicH s h1
    obtain ⟨a, b⟩ := keys_h rd h3
    obtain ⟨c, d⟩ := key_h h2 ry
    exact ⟨p, es, k, e, dh, a, b, c, d, rd.look k⟩
  · cases h
def oDIn : RD := fun y d S => (askD S d y).bind fun o => some (.bl o.isSome, S)
def oDNotIn : RD := fun y d S => (askD S d y).bind fun o => some (.bl (!o.isSome), S)
def oDGet : RD := fun d y S => (askD S d y).bind fun o => o.bind fun v => some (v, S)
theorem sem_dIn {C : Cf} : OpSem Post C (rNIn C.P C.w C.K) oDIn := by
  intro w S y d x v d' S' hS ry rd hf Q hQ
  obtain ⟨o, h1, h2⟩ := bsome hf
  cases h2
  obtain ⟨p, es, k, e, a1, a2, a3, a4, a5, q⟩ := askD_some hS rd ry h1
  refine ⟨p, es, k, e, a1, a2, a3, a4, a5, ?_⟩
  rcases q with ⟨rfl, q⟩ | ⟨x, z, rfl, q, _⟩
  · rw [q]; exact hQ.here hS (.bl _)
  · rw [q]; exact hQ.here hS (.bl _)
theorem sem_dGet {C : Cf} : OpSem Post C (rNGet C.P C.w C.K) oDGet := by
  intro w S d y v x d' S' hS rd ry hf Q hQ
  obtain ⟨o, h1, h2⟩ := bsome hf
  obtain ⟨u, h3, h4⟩ := bsome h2
  cases h4
  subst h3
  obtain ⟨p, es, k, e, a1, a2, a3, a4, a5, q⟩ := askD_some hS rd ry h1
  rcases q with ⟨z, _⟩ | ⟨x, z, e2, q, r⟩
  · cases z
  · cases e2
    exact ⟨p, es, k, z, e, a1, a2, a3, a4, a5, q, hQ.here hS r⟩
theorem room9 {k : Nat} {A : Around} (hr : Room k A) : A.units + 9 < cLine := by have := hr.un; omega
theorem st_dIn (hr : Room k0 X.A) (ha : SE fa X a f) (hb : SE fa X b g) (hm : behindInMarks .In b = false := by rfl) : ST fa X (.Compare a [.In] [b] pos) (tB (eBin oDIn f g)) := st_cmp (op_nIn (room9 hr)) sem_dIn ha hb hm
theorem pe_nGet {td ty : TE} (hu : X.A.units + 9 < cLine) (ho : PE X a td) (hi : PE X b ty) (hs : NoSl b) : PE X (.Subscript a b pos) (tOp (rNGet X.prog X.w X.K) td ty) := by
  refine ⟨fun pins s σ H Q I h => ?_⟩
  refine subD_of PySem.F.slot_dict_getitem.lookup hs (thn (ho.run pins s σ H _ I h) fun u s1 ⟨x, H1, I1, rx, q1⟩ => thn (hi.run pins s1 σ H1 _ I1 q1) fun iv s2 ⟨y, H2, I2, ry, p, es, k, v, ex, h1, h2, h3, h4, h5, l, q2⟩ => ?_)
  subst ex
  cases rx
  exact ⟨(dic_type I2 h1).1, n_getItem hu I2 h1 h2 h3 h4 h5 ry l fun w' s3 I3 rw' => ⟨v, H2, I3, rw', q2⟩⟩
theorem se_dGet (hr : Room k0 X.A) (ha : SE fa X a f) (hb : SE fa X b g) (hs : NoSl b := by exact fun _ _ => rfl) : SE fa X (.Subscript a b pos) (eBin oDGet f g) := by
  obtain ⟨ta, pa, ha⟩ := ha.ex
  obtain ⟨tb, pb, hb⟩ := hb.ex
  exact ⟨tOp (rNGet X.prog X.w X.K) ta tb, pe_nGet (room9 hr) pa pb hs, op_core sem_dGet ha hb⟩
theorem nd_empty {P : Program} {wd : World} {H : Hp} (h : Heap) (hb : sysModules < h.objs.size) : ObjOk P wd H (h.push { cls := .type "dict", data := .dict #[] }) h.objs.size (nDictP P wd h.objs.size { cls := .type "dict", data := .dict #[] } []) :=
  ⟨⟨Heap.get?_push_size _ rfl, beq_eq_false_iff_ne.mpr (Ne.symm (Nat.ne_of_lt hb)), Nat.zero_le _, [], #[], 0, .nil, ⟨rfl, rfl, rfl⟩, rfl, rfl, List.nodup_nil⟩, ⟨_, Heap.get?_push_size _ rfl⟩, fun h1 h2 a b => ⟨b _ a.1, a.2⟩⟩
def nEmpty (P : Program) (wd : World) (p : Addr) : HO := nDictP P wd p { cls := .type "dict", data := .dict #[] } []
def tNNew (P : Program) (wd : World) : TE := fun _ H Q => ∀ p, H p = none → Q (.ref p) (upd H p (nEmpty P wd p))
def eDNew : Ev := fun _ S => some (.dic [], S)
theorem empty_h {P : Program} {wd : World} {H : Hp} {p : Addr} : DicH P wd (upd H p (nEmpty P wd p)) p [] := .inr ⟨_, [], upd_same, rfl⟩
end
end HS
namespace HS
open PySem L2
section
open Sem (wp)
variable {prog : Program} {w : World} {A : Around} {E : Value → Shared → Prop} {s : Shared}
set_option maxHeartbeats 1000000 in
theorem enumT_new (t : Addr) (its : Array Value) : Meets (Builtin.«enumerate.__new__» ⟨[.type "enumerate", .ref t], []⟩) (fun _ R s => s.heap.IsTuple t its ∧
      R (.ok (.ret (.ref (s.heap.push { cls := .type "tuple_iterator", data := .fields #[.ref t, .int 0 0] }).objs.size)))
        { s with heap := (s.heap.push { cls := .type "tuple_iterator", data := .fields #[.ref t, .int 0 0] }).push { cls := .type "enumerate", data := .fields #[.none, .bool false, .ref s.heap.objs.size, rawInt 0, .none, .none] } }) :=
  .of_wp fun prog w A R s h => by
    obtain ⟨hp, g, d, tk, os⟩ := s
    obtain ⟨ht, h⟩ := h
    have hsub := sub_enumerate
    have q1 : ∀ {A' : Around} {E : Value → Shared → Prop} {Q : Value → Shared → Prop}, Q (.ref hp.objs.size) ⟨hp.push { cls := .type "tuple_iterator", data := .fields #[.ref t, .int 0 0] }, g, d, tk, os⟩ → wpAny (model prog w) A' (pyIter (.ref t)) Q E ⟨hp, g, d, tk, os⟩ :=
      fun q => wpAny_pyIter_tuple ht q
    wp_walk using q1
    refine wpAny_stack_any fun st => wpAny_pure ?_
    split
    · rename_i c _ _ _ _ _
      cases (c == Value.type "enumerate") <;> (wp_walk using q1; exact ⟨_, rfl, h⟩)
    · wp_walk using q1
      exact ⟨_, rfl, h⟩
theorem enumT_call {t : Addr} {its : Array Value} {Q : Value → Shared → Prop} (ht : s.heap.IsTuple t its)
    (h : ∀ h', IsEnum h' (s.heap.objs.size + 1) s.heap.objs.size 0 .none → h'.IsTupleIter s.heap.objs.size t 0 → h'.objs.size = s.heap.objs.size + 2 →
      (∀ b o, s.heap.get? b = some o → h'.get? b = some o) → Q (.ref (s.heap.objs.size + 1)) { s with heap := h' }) : wpAny (model prog w) A (call (.type "enumerate") [.ref t]) Q E s := by
  refine callType_new F.called_enumerate (by decide) (F.typeCall_enumerate_1 _) (F.newCall_enumerate_1 _) (fun x => F.args_object_init_2 x _) F.entry_enumerate_new (enumT_new t its) ⟨ht, ?_⟩
  obtain ⟨o1, ho1⟩ : ∃ o : Obj, o = { cls := .type "tuple_iterator", data := .fields #[.ref t, .int 0 0] } := ⟨_, rfl⟩
  rw [← ho1]
  have hf : o1.isFreed = false := by rw [ho1]; rfl
  obtain ⟨o2, ho2⟩ : ∃ o : Obj, o = { cls := .type "enumerate", data := .fields #[.none, .bool false, .ref s.heap.objs.size, rawInt 0, .none, .none] } := ⟨_, rfl⟩
  rw [← ho2]
  have hz : (s.heap.push o1).objs.size = s.heap.objs.size + 1 := Heap.size_push ..
  show _ ∧ _
  rw [hz]
  have he : ((s.heap.push o1).push o2).get? (s.heap.objs.size + 1) = some o2 := by
    have := Heap.get?_push_size (s.heap.push o1) (o := o2) (by rw [ho2]; rfl)
    rwa [hz] at this
  have hen : IsEnum ((s.heap.push o1).push o2) (s.heap.objs.size + 1) s.heap.objs.size 0 .none := by rw [ho2] at he ⊢; exact he
  refine ⟨⟨o2, he, by rw [ho2]⟩, h _ hen ⟨o1, Heap.get?_push_of_some _ (Heap.get?_push_size _ hf), by rw [ho1], by rw [ho1]; rfl⟩ (by rw [Heap.size_push, hz]) fun b o x => Heap.get?_push_of_some _ (Heap.get?_push_of_some _ x)⟩
end
/-- the tuple at a, each item with its number in a new pair -/
def IteT (K : PySem.W.Frag) (a : Addr) : It :=
  ⟨fun i H => ∃ (xs : List L2.V) (x : L2.V), SqT K H a xs ∧ xs[i]? = some x, fun i H v H' => ∃ T x, v = .ref T ∧ H T = none ∧ H' = upd H T (.tup [.int (i : Nat), x]) ∧ ∀ xs, SqT K H a xs → xs[i]? = some x, fun i H => ∃ xs : List L2.V, SqT K H a xs ∧ xs.length = i⟩
theorem turn_enumT {P : Program} {w : World} {K : PySem.W.Frag} {elts : List Expr} {kk : Nat} {tpos : Pos} (a e it : Addr) (hai : a ≠ it) :
    Turn P w K (.Tuple elts kk tpos) (IteT K a) [e, it] e (fun i h => (∃ old, IsEnum h e it ((i : Nat) : Int) old) ∧ h.IsTupleIter it a i ∧ e ≠ it ∧ e ≠ a) where
  mem := by simp
  obj := fun i h st b hb => by
    obtain ⟨⟨old, he⟩, ⟨o, ho, hc, hd⟩, _⟩ := st
    rcases (by simpa using hb : b = e ∨ b = it) with z | z
    · rw [z]; exact ⟨_, he, fun v q => nomatch q⟩
    · rw [z]; exact ⟨o, ho, fun v q => by rw [hd] at q; cases q⟩
  keep := fun i h h' ⟨⟨old, he⟩, hi, hne⟩ k => ⟨⟨old, k e (by simp) _ he⟩, hi.at fun o q => k it (by simp) o q, hne⟩
  item := by
    intro X hP hw hK hc i pins s σ H E I hf st ⟨xs, x, hq, hx⟩
    subst hP hw hK
    obtain ⟨⟨old, he⟩, hit, hne, hea⟩ := st
    obtain ⟨its, rv, p, hz⟩ := I.tuple hq
    have p : s.heap.IsTuple a its.toArray := p
    obtain ⟨u, hu, ru⟩ := rv.get hx
    have ht : e < s.heap.objs.size ∧ it < s.heap.objs.size := ⟨Heap.lt_size he, by obtain ⟨_, q, _⟩ := hit; exact Heap.lt_size q⟩
    have hlt : i < its.toArray.size := by have := (List.getElem?_eq_some_iff.mp hu).1; simpa using this
    refine wpAny_pyNext_enum_itemD (Draws.tuple (A := X.A.in1) (I.ok.hd hc) it a hai its.toArray) he ⟨hit, p⟩ hlt hne (by simp [hne, hea]) fun y g tk hy ho hst hT hsz hk => ?_
    have hyu : y = u := by
      have : its.toArray[i]? = some y := hy
      rw [List.getElem?_toArray, hu] at this
      exact (Option.some.inj this).symm
    subst hyu
    refine ⟨_, rfl, wpAny_letOwnedTupleGo_enum (s := { s with heap := g, toks := tk + 1 }) ho fun h2 he' sb => ?_⟩
    have hT2 : h2.get? s.heap.objs.size = some { cls := .type "tuple", data := .seq #[.int i tk, y] } := (sb.2 _ (Nat.ne_of_gt ht.1)).trans hT
    have new : ObjOk X.prog X.w (upd H s.heap.objs.size (.tup [.int (i : Nat), x])) h2 s.heap.objs.size (.tup [.int (i : Nat), x]) :=
      ⟨by show 2 ≤ sizeLine; decide, [.int i tk, y], .cons ⟨_, rfl⟩ (.cons ru .nil), ⟨_, hT2, rfl, _, rfl⟩⟩
    have J : Inv X pins σ (upd H s.heap.objs.size (.tup [.int (i : Nat), x])) { s with heap := h2, toks := tk + 1 } :=
      I.turnedNew (ch := [e, it]) (fun b ob hb q => (sb.2 b (fun z => hb (by simp [z]))).trans (hk b ob (fun z => hb (by simp [z])) (fun z => hb (by simp [z])) q)) hf (Nat.le_refl _) new
    refine ⟨.ref s.heap.objs.size, _, J, rfl, ⟨_, x, rfl, I.hok.fresh (Nat.le_refl _), rfl, fun ys hy => by rw [I.tuple_inj hy hq]; exact hx⟩, ⟨⟨y, ?_⟩, hst.1.at fun o q => (sb.2 it (Ne.symm hne)).trans q, hne, hea⟩, fun b hb => ?_⟩
    · rw [show ((i + 1 : Nat) : Int) = (i : Int) + 1 by omega]; exact he'
    · have hb' : b < s.heap.objs.size := by
        rcases (by simpa using hb : b = e ∨ b = it) with z | z
        · rw [z]; exact ht.1
        · rw [z]; exact ht.2
      rw [upd_ne (Nat.ne_of_lt hb')]
      exact (hf b hb).1
  done := by
    intro X hP hw hK hc i pins s σ H E I hf st ⟨xs, hq, hx⟩
    subst hP hw hK
    obtain ⟨⟨old, he⟩, hit, hne, hea⟩ := st
    obtain ⟨its, rv, p, hz⟩ := I.tuple hq
    have p : s.heap.IsTuple a its.toArray := p
    obtain ⟨f0, f1, f2, f3, f4, f5⟩ := hf it (by simp)
    have hl := rv.length
    have hi : i = its.toArray.size := by simp; omega
    have hit2 : s.heap.IsTupleIter it a its.toArray.size := by rw [← hi]; exact hit
    exact wpAny_pyNext_enum_endD (Draws.tuple (A := X.A.in1) (I.ok.hd hc) it a hai its.toArray) he ⟨hit2, p⟩ fun h' eb => ⟨rfl, I.turned (t' := s.toks) (fun b o hb q => eb b o hb q) f0 f1 f3 f4 f5⟩
  self := fun A i s Q E st h => let ⟨⟨_, he⟩, _⟩ := st; wpAny_pyIter_enum he h

def iEnumA (K : PySem.W.Frag) (ta : TA) : TI := fun σ H R => ta σ H fun vs H1 => ∃ a, vs = [.ref a] ∧ (((∃ xs, SqL K H1 a xs) ∧ R (Ite K a) H1) ∨ ((∃ xs, SqT K H1 a xs) ∧ R (IteT K a) H1))
theorem pi_enumA {X : Cx} {e : Expr} {ta : TA} {p pos tpos : Pos} {elts : List Expr} {kk : Nat} (hg : Gl X "enumerate") (hm : X.mg "enumerate" = none) (ha : PA X [e] ta) (hs : starEach [e] X.env = [(false, eval e X.env)] := by rfl) :
    PI X (.Tuple elts kk tpos) (.Call (.Name "enumerate" p) [e] [] pos) (iEnumA X.K ta) := by
  refine ⟨fun pins s σ H R I h => ?_⟩
  refine PyProof.Rows.Call_ (ld_blt I hg hm PyProof.Rows.boot_enumerate (PyProof.Rows.callWith_type1 (thn (ha.run pos pins s σ H _ I h) fun us s1 ⟨vs, H1, I1, r1, q1⟩ => ?_) hs rfl))
  obtain ⟨a, rfl, q⟩ := q1
  obtain rfl := Vals.ref1 r1
  have fp : ∀ b ∈ [s1.heap.objs.size + 1, s1.heap.objs.size], s1.heap.objs.size ≤ b := fun b hb => by
    rcases (by simpa using hb : b = s1.heap.objs.size + 1 ∨ b = s1.heap.objs.size) with z | z
    · rw [z]; exact Nat.le_add_right _ _
    · rw [z]; exact Nat.le_refl _
  rcases q with ⟨⟨xs, hq⟩, q⟩ | ⟨⟨xs, hq⟩, q⟩
  · obtain ⟨its, rv, p', hz⟩ := I1.list hq
    refine call_enumerate_list p'.isList fun h' he hit hsz hk => wpAny_pyIter_enum he ?_
    exact ⟨s1.heap.objs.size + 1, [s1.heap.objs.size + 1, s1.heap.objs.size], _, _, H1, rfl, I1.kept (t' := s1.toks) hk, turn_enum a (s1.heap.objs.size + 1) s1.heap.objs.size, ⟨⟨.none, he⟩, hit, Nat.succ_ne_self _⟩, fun b hb => I1.fpOk (fp b hb) (I1.hok.fresh (fp b hb)), q⟩
  · obtain ⟨its, rv, p', hz⟩ := I1.tuple hq
    have p' : s1.heap.IsTuple a its.toArray := p'
    have hlt : a < s1.heap.objs.size := by obtain ⟨_, q, _⟩ := p'; exact Heap.lt_size q
    refine enumT_call p' fun h' he hit hsz hk => wpAny_pyIter_enum he ?_
    exact ⟨s1.heap.objs.size + 1, [s1.heap.objs.size + 1, s1.heap.objs.size], _, _, H1, rfl, I1.kept (t' := s1.toks) hk, turn_enumT a (s1.heap.objs.size + 1) s1.heap.objs.size (Nat.ne_of_lt hlt), ⟨⟨.none, he⟩, hit, Nat.succ_ne_self _, Nat.ne_of_gt (Nat.lt_succ_of_lt hlt)⟩, fun b hb => I1.fpOk (fp b hb) (I1.hok.fresh (fp b hb)), q⟩
def enumD (xs : List D) : List D := (xs.zipIdx).map fun p => .pr [.int (p.2 : Nat), p.1]
theorem enumD_get {xs : List D} {i : Nat} {x : D} (h : xs[i]? = some x) : (enumD xs)[i]? = some (.pr [.int (i : Nat), x]) := by
  unfold enumD
  rw [List.getElem?_map, List.getElem?_zipIdx, h]
  simp
theorem enumD_len {xs : List D} : (enumD xs).length = xs.length := by simp [enumD]
def iEnumD (fs : EvA) : EvI := fun η S => (fs η S).bind fun q => match q.1 with
  | [d] => (seqOf q.2 d).bind fun xs => some (⟨enumD xs, fun S => seqOf S d = some xs⟩, q.2)
  | _ => none
theorem ite_ok {C : Cf} {w : Wd} {p : Addr} {d : D} {xs : List D} (hl : ∀ w1 S1, LeF w w1 → Sim C w1 S1 → seqOf S1 d = some xs → ∃ vs, SqL C.K w1.H p vs ∧ RepL C w1 xs vs) : ItOk C w (Ite C.K p) (enumD xs) (fun S => seqOf S d = some xs) where
  go := fun i w1 S1 e s hc hi => by
    rw [enumD_len] at hi
    obtain ⟨vs, hv, rv⟩ := hl w1 S1 e s hc
    obtain ⟨v, h1, _⟩ := rv.get (List.getElem?_eq_getElem hi)
    exact ⟨vs, v, hv, h1⟩
  yld := fun i w1 S1 x H' e s hc _ ⟨T, v, ex, hT, eH, h1⟩ => by
    obtain ⟨vs, hv, rv⟩ := hl w1 S1 e s hc
    obtain ⟨d1, h3, h4⟩ := rv.getV (h1 vs hv)
    subst ex
    exact ⟨⟨w1.mu, w1.L, upd w1.H T (.tup [.int (i : Nat), v])⟩, .pr [.int (i : Nat), d1], eH.symm, Le.new' hT, s.new hT, rfl, rfl, enumD_get h3, .pr upd_same (s.fresh hT) (.cons (.int _) (.cons (h4.mono (Le.new' hT).f) .nil))⟩
  stop := fun w1 S1 e s hc => by
    obtain ⟨vs, hv, rv⟩ := hl w1 S1 e s hc
    exact ⟨vs, hv, by rw [enumD_len, rv.length]; exact Nat.le_refl _⟩
theorem iteT_ok {C : Cf} {w : Wd} {p : Addr} {d : D} {xs : List D} (hl : ∀ w1 S1, LeF w w1 → Sim C w1 S1 → seqOf S1 d = some xs → ∃ vs, SqT C.K w1.H p vs ∧ RepL C w1 xs vs) : ItOk C w (IteT C.K p) (enumD xs) (fun S => seqOf S d = some xs) where
  go := fun i w1 S1 e s hc hi => by
    rw [enumD_len] at hi
    obtain ⟨vs, hv, rv⟩ := hl w1 S1 e s hc
    obtain ⟨v, h1, _⟩ := rv.get (List.getElem?_eq_getElem hi)
    exact ⟨vs, v, hv, h1⟩
  yld := fun i w1 S1 x H' e s hc _ ⟨T, v, ex, hT, eH, h1⟩ => by
    obtain ⟨vs, hv, rv⟩ := hl w1 S1 e s hc
    obtain ⟨d1, h3, h4⟩ := rv.getV (h1 vs hv)
    subst ex
    exact ⟨⟨w1.mu, w1.L, upd w1.H T (.tup [.int (i : Nat), v])⟩, .pr [.int (i : Nat), d1], eH.symm, Le.new' hT, s.new hT, rfl, rfl, enumD_get h3, .pr upd_same (s.fresh hT) (.cons (.int _) (.cons (h4.mono (Le.new' hT).f) .nil))⟩
  stop := fun w1 S1 e s hc => by
    obtain ⟨vs, hv, rv⟩ := hl w1 S1 e s hc
    exact ⟨vs, hv, by rw [enumD_len, rv.length]⟩
section
variable {fa : String → Option Addr} {X : Cx} {e : Expr} {pos p tpos : Pos} {elts : List Expr} {kk : Nat} {fs : EvA}
theorem si_enum (hg : Gl X "enumerate") (hm : X.mg "enumerate" = none) (ha : SA fa X [e] fs) (hs : starEach [e] X.env = [(false, eval e X.env)] := by rfl) : SI fa X (.Tuple elts kk tpos) (.Call (.Name "enumerate" p) [e] [] pos) (iEnumD fs) := by
  obtain ⟨t, q, h⟩ := ha.ex
  refine ⟨_, pi_enumA hg hm q hs, fun w σ η S I S' hη hS hf R hR => ?_⟩
  obtain ⟨⟨ds, S1⟩, h1, hf⟩ := bsome hf
  refine h w σ η S ds S1 hη hS h1 _ fun vs w1 e1 s1 r1 => ?_
  simp only at hf
  split at hf
  · rename_i d
    obtain ⟨xs, h2, hf⟩ := bsome hf
    cases hf
    obtain ⟨v, rfl, r⟩ := r1.inv1
    obtain ⟨a, vs, rfl, _, _⟩ := r.seqH s1 h2
    refine ⟨a, rfl, ?_⟩
    cases ht : isTup d with
    | false =>
      obtain ⟨vs, hv, _⟩ := r.seqL s1 h2 ht
      exact .inl ⟨⟨vs, hv⟩, hR _ w1 e1 s1 (ite_ok fun w2 S2 e2 s2 h => (r.mono e2).seqL s2 h ht)⟩
    | true =>
      obtain ⟨vs, hv, _⟩ := r.seqT h2 ht
      exact .inr ⟨⟨vs, hv⟩, hR _ w1 e1 s1 (iteT_ok fun w2 S2 e2 s2 h => (r.mono e2).seqT h ht)⟩
  · cases hf
end
end HS
namespace HS
open PySem L2
/-- what is asked of a turn's key and value: D the new dict, Nx what must hold behind the store -/
def tPut (P : Program) (wd : World) (K : PySem.W.Frag) (D : Addr) (Nx : Hp → Prop) (y z : L2.V) (H : Hp) : Prop :=
  ∃ es k, DicH P wd H D es ∧ KeysH K H es ∧ FitH es k ∧ KeyH K H y k ∧ AskH k ∧ es.length < sizeLine ∧ ∀ ho, DicH P wd (upd H D ho) D (putE es k y z) → Nx (upd H D ho)
def tDcN (P : Program) (wd : World) (K : PySem.W.Frag) (wi : TI) (g : TG) (tt : TT) (tk tv : TE) (vs : List Nat) : TE := fun σ H Q => wi σ H fun J H1 => ∀ D, H1 D = none → ∃ W : Nat → Nat → Hp → Prop, (∃ m, W 0 m (upd H1 D (nEmpty P wd D))) ∧ ∀ i m H, W i m H →
  (J.stop i H ∧ Q (.ref D) H) ∨ (J.go i H ∧ ∃ Nx : Hp → Prop, (∀ H', Nx H' → ∃ m', m' < m ∧ W (i + 1) m' H') ∧ ∀ x H', J.yld i H x H' → g x (L2.wipe σ vs) H' fun τ H2 => L2.wipe τ vs = L2.wipe σ vs ∧ tt τ H2 fun b H3 =>
    if b = true then tk τ H3 fun y H4 => tv τ H4 fun z H5 => tPut P wd K D Nx y z H5 else Nx H3)
section
variable {X : Cx}
theorem dcN_core {pins : List (Addr × Obj)} {s : Shared} {σ : L2.St} {H : Hp} {Q : VK} {kx vx tg iter : Expr} {ifs : List Expr} {scope : Scope} {own : List (Str × Nat)} {pos pos' : Pos} {wi : TI} {g : TG} {tt : TT} {tk tv : TE} {use : Option (Value → Sem Unit)} {Qf : Value → Shared → Prop}
    (hu : X.A.units + 9 < cLine) (hc : X.calm = true) (hN : X.N.Nodup) (I : L2.Inv X pins σ H s) (hi : PI X tg iter wi) (ok : BlkOk X.N X.env.scope scope own)
    (hg : ∀ (s : Shared) (H : Hp) (C : Addr) (cl : List (Str × Addr)) (fp : List Addr), PG (X.blk s H scope (compEnvC scope cl C X.env) fp) tg g) (ht : ∀ (s : Shared) (H : Hp) (C : Addr) (cl : List (Str × Addr)) (fp : List Addr), PTs (X.blk s H scope (compEnvC scope cl C X.env) fp) ifs tt)
    (hk : ∀ (s : Shared) (H : Hp) (C : Addr) (cl : List (Str × Addr)) (fp : List Addr), PE (X.blk s H scope (compEnvC scope cl C X.env) fp) kx tk) (he : ∀ (s : Shared) (H : Hp) (C : Addr) (cl : List (Str × Addr)) (fp : List Addr), PE (X.blk s H scope (compEnvC scope cl C X.env) fp) vx tv)
    (hs : ∀ x, foldedSetIterable iter X.env x = pure x) (h : tDcN X.prog X.w X.K wi g tt tk tv (own.map (·.2)) σ H Q)
    (fin : ∀ D C s' m H', L2.Inv X pins σ H' s' → Q (.ref D) H' → s'.heap.Ns C m → FpOk X pins H' C → compPost (model X.prog X.w) X.A X.xe use Qf (.ref D) C (.ok .next) s') :
    wpAny (model X.prog X.w) X.A (comprehension (.DictComp kx vx [⟨tg, iter, ifs, 0⟩] scope pos) scope X.env pos' newDict false (eval iter X.env) use) Qf X.xe s := by
  have free : ∀ y ∈ scope.names, y.2 = .free → ∃ c, X.env.cells.lookup y.1 = some c := fun y hy e => (ok.free y hy e).elim (fun k => I.ok.has _ (.inl k)) fun k => I.ok.has _ (.inr k)
  refine wpAny_comprehension_free (use := use) rfl hs (closure_ok free) ok.kind (fun y hy e => by rw [ok.uniq y hy, e]) (thn (hi.run pins s σ H _ I h) fun xv a1 hx => thn hx fun itv a2 ⟨it, fp, tn, J, G, eit, J2, T, t2, f2, q⟩ => ?_)
  subst eit
  refine wpAny_newObj_type (newEnv_comp ?_)
  obtain ⟨D, hD⟩ : ∃ D, D = a2.heap.objs.size := ⟨_, rfl⟩
  rw [← hD]
  have hn : G D = none := J2.hok.fresh (Nat.le_of_eq hD.symm)
  obtain ⟨W, ⟨m0, w0⟩, turn⟩ := q D hn
  obtain ⟨a3, ha3⟩ : ∃ a : Shared, a = { a2 with heap := a2.heap.push { cls := .type "dict", data := .dict #[] } } := ⟨_, rfl⟩
  have hp3 : a3.heap = a2.heap.push { cls := .type "dict", data := .dict #[] } := by rw [ha3]
  have J3 : L2.Inv X pins σ (upd G D (nEmpty X.prog X.w D)) a3 := by
    rw [ha3]
    refine J2.laid (t' := a2.toks) (fun b o e => Heap.get?_push_of_some _ e) (Nat.le_of_eq hD.symm) ?_
    rw [hD]
    exact nd_empty a2.heap J2.big
  have sz : ∀ b ∈ fp, b < a2.heap.objs.size := fun b hb => let ⟨o, e, _⟩ := T.obj _ _ t2 b hb; Heap.lt_size e
  have f3 : ∀ b ∈ fp, FpOk X pins (upd G D (nEmpty X.prog X.w D)) b ∧ b < a3.heap.objs.size := fun b hb => by
    refine ⟨⟨?_, (f2 b hb).2⟩, by rw [hp3, Heap.size_push]; exact Nat.lt_succ_of_lt (sz b hb)⟩
    rw [upd_ne (by rw [hD]; exact Nat.ne_of_lt (sz b hb))]
    exact (f2 b hb).1
  have t3 : tn 0 a3.heap := T.keep _ _ _ t2 fun b _ o e => by rw [hp3]; exact Heap.get?_push_of_some _ e
  have J4 := block_start J3 ok hN f3
  obtain ⟨cl, hcl⟩ : ∃ cl, cl = cellsFrom (a3.heap.objs.size + 1) scope.names (cloFrom X.env.cells scope.names []) := ⟨_, rfl⟩
  rw [← hcl] at J4
  obtain ⟨F, hF⟩ : ∃ F, F = upd G D (nEmpty X.prog X.w D) := ⟨_, rfl⟩
  rw [← hF] at J3 J4 w0 f3
  have pg := hg a3 F a3.heap.objs.size cl fp
  have pt := ht a3 F a3.heap.objs.size cl fp
  have pk := hk a3 F a3.heap.objs.size cl fp
  have pv := he a3 F a3.heap.objs.size cl fp
  have go : codeAny (model X.prog X.w) X.A (.compStart (.DictComp kx vx [⟨tg, iter, ifs, 0⟩] scope pos) 0 (.ref it) (.ref D) (compEnvC scope cl a3.heap.objs.size X.env)) (compPost (model X.prog X.w) X.A X.xe use Qf (.ref D) a3.heap.objs.size) { a3 with heap := pushCells (a3.heap.push { cls := .type "dict", data := .dict #[] }) scope.names } := by
    have nfp : ∀ b ∈ fp, F b = none := fun b hb => (f3 b hb).1.1
    obtain ⟨ce, hce⟩ : ∃ ce, ce = compEnvC scope cl a3.heap.objs.size X.env := ⟨_, rfl⟩
    rw [← hce] at J4 pg pt pk pv ⊢
    have cL : ce.locals = a3.heap.objs.size := by rw [hce]; rfl
    obtain ⟨a4, ha4⟩ : ∃ a : Shared, a = { a3 with heap := pushCells (a3.heap.push { cls := .type "dict", data := .dict #[] }) scope.names } := ⟨_, rfl⟩
    rw [← ha4] at J4 ⊢
    have t4 : tn 0 a4.heap := T.keep _ _ _ t3 fun b _ o e => by rw [ha4]; exact pushCells_keeps _ _ _ _ (Heap.get?_push_of_some _ e)
    have stat : ∀ {τ : L2.St} {G' : Hp} {s' : Shared}, L2.Inv (X.blk a3 F scope ce fp) [] τ G' s' → (∀ b ∈ fp, G' b = none) → ∀ b ∈ fp, FpOk (X.blk a3 F scope ce fp) [] G' b := fun {τ G' s'} K hz b hb =>
      ⟨hz b hb, (K.ok.exf b hb).1, K.ok.exfs b hb, .inl hb, fun x c e => (K.ok.exf b hb).2 x c e, fun p hp => absurd (show p ∈ ([] : List (Addr × Obj)) ++ [] from hp) (by simp)⟩
    have loop : codeAny (model X.prog X.w) X.A (.compLoop (.DictComp kx vx [⟨tg, iter, ifs, 0⟩] scope pos) 0 (.ref it) (.ref D) ce) (compPost (model X.prog X.w) X.A X.xe use Qf (.ref D) a3.heap.objs.size) a4 := by
      refine compLoop_anyD (fun n s' => ∃ i G', L2.Inv (X.blk a3 F scope ce fp) [] (L2.wipe σ (own.map (·.2))) G' s' ∧ tn i s'.heap ∧ (∀ b ∈ fp, G' b = none) ∧ W i n G') ?_ m0 ⟨0, F, J4, t4, nfp, w0⟩
      rintro n a5 ⟨i, G5, J5, t5, n5, w5⟩
      rcases turn i n G5 w5 with ⟨stop, qq⟩ | ⟨goes, Nx, hNx, step⟩
      · refine thnF (T.done (X.blk a3 F scope ce fp) rfl rfl rfl hc i [] a5 _ G5 (fun _ _ => False) J5 (stat J5 n5) t5 stop) fun r a6 ⟨hr, J6⟩ => ?_
        subst hr
        have J7 : L2.Inv X pins σ G5 a6 := J3.call' (ch := fp) J6.os J6.base J6.hok J6.bare fun b hb => let z := (f3 b hb).1.2; ⟨z.2.2.1, z.1, z.2.2.2.1, z.2.2.2.2⟩
        have nC : G5 a3.heap.objs.size = none := by
          have z : G5 ce.locals = none := J6.free
          rwa [cL] at z
        obtain ⟨m, hm, _⟩ := J6.loc
        have hm : a6.heap.Ns ce.locals m := hm
        rw [cL] at hm
        exact fin D a3.heap.objs.size a6 m G5 J7 qq hm (J3.fpOk (Nat.le_refl _) nC)
      · refine thnF (T.item (X.blk a3 F scope ce fp) rfl rfl rfl hc i [] a5 _ G5 (fun _ _ => False) J5 (stat J5 n5) t5 goes) fun r a6 ⟨u, hr, h6⟩ => ?_
        subst hr
        refine thnF h6 fun _ a7 ⟨x, G7, J7, r7, y7, t7, n7⟩ => ?_
        refine thnF (pg.run _ a7 _ G7 x u _ (J7.pinned (stat J7 n7) (T.obj _ _ t7)) r7 (step x G7 y7)) fun _ a8 ⟨τ, G8, J8, hw8, q8⟩ => ?_
        have back : ∀ {s' : Shared} {G' : Hp}, L2.Inv (X.blk a3 F scope ce fp) ([] ++ pinsAt fp a7.heap) τ G' s' → Nx G' → ∃ m, m < n ∧ ∃ i G', L2.Inv (X.blk a3 F scope ce fp) [] (L2.wipe σ (own.map (·.2))) G' s' ∧ tn i s'.heap ∧ (∀ b ∈ fp, G' b = none) ∧ W i m G' := fun {s' G'} K nx => by
          obtain ⟨m', lt', w'⟩ := hNx G' nx
          have pin' : ∀ b ∈ fp, ∀ o, a7.heap.get? b = some o → s'.heap.get? b = some o ∧ G' b = none := fun b hb o e => let z := K.pin (b, o) (List.mem_append_right _ (List.mem_append_right _ (mem_pinsAt hb e))); ⟨z.1, z.2.1⟩
          refine ⟨m', lt', i + 1, G', (K.unpinned (pins := [])).weak (by rw [← hw8, wipe_length]) (fun j v e => ?_), T.keep _ _ _ t7 fun b hb o e => (pin' b hb o e).1, fun b hb => ?_, w'⟩
          · rw [← hw8] at e
            exact (wipe_some e).1
          · obtain ⟨o, e, _⟩ := T.obj _ _ t7 b hb
            exact (pin' b hb o e).2
        refine thnF (pt.run _ a8 τ G8 _ J8 q8) fun b a9 ⟨G9, J9, q9⟩ => ?_
        cases b with
        | false =>
          simp only [Bool.false_eq_true, if_false] at q9 ⊢
          exact back J9 q9
        | true =>
          simp only [if_true] at q9 ⊢
          refine thnF (pk.run _ a9 τ G9 _ J9 q9) fun z b1 ⟨yk, H10, J10, r10, q10⟩ => thnF (pv.run _ b1 τ H10 _ J10 q10) fun z2 b2 ⟨yv, H11, J11, r11, es, k, d1, d2, d3, d4, d5, d6, nx⟩ => ?_
          exact n_dictSet (X := X.blk a3 F scope ce fp) (Q := Nx) hu J11 d1 d2 d3 d4 d5 r10 r11 d6 nx fun b3 H12 J12 q12 => back J12 q12
    exact codeAny_compStart_dict loop (T.self X.A 0 _ _ _ t4 loop)
  rw [hcl] at go
  subst ha3
  exact go
theorem pe_dcN {kx vx tg iter : Expr} {ifs : List Expr} {scope : Scope} {own : List (Str × Nat)} {pos : Pos} {wi : TI} {g : TG} {tt : TT} {tk tv : TE} (hu : X.A.units + 9 < cLine) (hc : X.calm = true) (hN : X.N.Nodup) (hi : PI X tg iter wi) (ok : BlkOk X.N X.env.scope scope own)
    (hg : ∀ (s : Shared) (H : Hp) (C : Addr) (cl : List (Str × Addr)) (fp : List Addr), PG (X.blk s H scope (compEnvC scope cl C X.env) fp) tg g) (ht : ∀ (s : Shared) (H : Hp) (C : Addr) (cl : List (Str × Addr)) (fp : List Addr), PTs (X.blk s H scope (compEnvC scope cl C X.env) fp) ifs tt)
    (hk : ∀ (s : Shared) (H : Hp) (C : Addr) (cl : List (Str × Addr)) (fp : List Addr), PE (X.blk s H scope (compEnvC scope cl C X.env) fp) kx tk) (he : ∀ (s : Shared) (H : Hp) (C : Addr) (cl : List (Str × Addr)) (fp : List Addr), PE (X.blk s H scope (compEnvC scope cl C X.env) fp) vx tv)
    (hs : ∀ x, foldedSetIterable iter X.env x = pure x) : PE X (.DictComp kx vx [⟨tg, iter, ifs, 0⟩] scope pos) (tDcN X.prog X.w X.K wi g tt tk tv (own.map (·.2))) := by
  refine ⟨fun pins s σ H Q I h => ?_⟩
  rw [arm_eval_DictComp]
  refine dcN_core hu hc hN I hi ok hg ht hk he hs h fun D C s' m H' I' q hn f => ⟨m, hn, fun h2 sb => ?_⟩
  obtain ⟨g0, g1, g2, g3, g4, g5⟩ := f
  exact ⟨.ref D, H', I'.turned (t' := s'.toks) (fun b o hb e => (sb.2 b hb).trans e) g0 g1 g3 g4 g5, rfl, q⟩
end

open Classical in
noncomputable def dcR (chk : Sto → Prop) (tg : Tg) (tt : EvB) (fk fv : Ev) (η0 : Env) : List D → List (D × D) → Sto → Option (List (D × D) × Sto)
  | [], acc, S => if chk S then some (acc, S) else none
  | x :: xs, acc, S => if chk S then (tg x η0).bind fun η1 => (tt η1 S).bind fun q =>
      if q.1 then (fk η1 q.2).bind fun r => (fv η1 r.2).bind fun z => (keyN r.1).bind fun k => if acc.length < SZ ∧ dFit acc k = true then dcR chk tg tt fk fv η0 xs (dPut acc k r.1 z.1) z.2 else none
      else dcR chk tg tt fk fv η0 xs acc q.2 else none
noncomputable def eDc (it : EvI) (vs : List Nat) (tg : Tg) (tt : EvB) (fk fv : Ev) : Ev := fun η S => (it η S).bind fun p =>
  (dcR p.1.chk tg tt fk fv (wipeE η vs) p.1.xs [] p.2).bind fun q => some (.dic q.1, q.2)
/-- the dict so far stands at p, where nothing else looks -/
structure DN (C : Cf) (w : Wd) (p : Addr) (acc : List (D × D)) : Prop where
  l : p ∈ w.L
  m : p ∉ w.mu
  o : ∃ es, DicH C.P C.w w.H p es ∧ RepD C w acc es
theorem DicH.at {P : Program} {wd : World} {H : Hp} {p : Addr} {es : List Ent} (h : DicH P wd H p es) : ∃ o, H p = some o := by
  rcases h with ⟨m, e, _⟩ | ⟨o, m, e, _⟩
  · exact ⟨_, e⟩
  · exact ⟨_, e⟩
theorem DicH.to {P : Program} {wd : World} {H H' : Hp} {p : Addr} {es : List Ent} (h : DicH P wd H p es) (k : ∀ o, H p = some o → H' p = some o) : DicH P wd H' p es := by
  rcases h with ⟨m, e, r⟩ | ⟨o, m, e, r⟩
  · exact .inl ⟨m, k _ e, r⟩
  · exact .inr ⟨o, m, k _ e, r⟩
theorem DN.mono {C : Cf} {w w' : Wd} {p : Addr} {acc : List (D × D)} (h : DN C w p acc) (e : Le w w') : DN C w' p acc := by
  obtain ⟨es, h1, h2⟩ := h.o
  obtain ⟨o, ho⟩ := h1.at
  exact ⟨e.hold p h.l, e.notmu ho h.m, es, h1.to fun o q => e.keep p o q h.m, h2.mono e.f⟩
section
variable {C : Cf} {w0 wS wJ : Wd} {J : It} {xs : List D} {acc ys : List (D × D)} {chk : Sto → Prop} {p : Addr} {gf : Tg} {ts vs : List Nat} {tt : EvB} {fk fv : Ev} {η : Env} {σ : L2.St} {S1 S' : Sto} {Qd : Hp → Prop}
theorem dc_loop (hJ : ItOk C wJ J xs chk) (hts : ∀ j ∈ ts, j ∈ vs) (hn : w0.H p = none) (e0 : Le w0 wS) (eJ : LeF wJ wS) (s : Sim C wS S1) (hη : RepE C wS η σ) (dd : DN C wS p acc) (run : dcR chk gf tt fk fv (wipeE η vs) xs acc S1 = some (ys, S'))
    (hQ : ∀ w', Le w0 w' → LeF wS w' → Sim C w' S' → DN C w' p ys → Qd w'.H) :
    ∃ W : Nat → Nat → Hp → Prop, (∃ m, W 0 m wS.H) ∧ ∀ i m H, W i m H → (J.stop i H ∧ Qd H) ∨ (J.go i H ∧ ∃ Nx : Hp → Prop, (∀ H', Nx H' → ∃ m', m' < m ∧ W (i + 1) m' H') ∧
      ∀ x H', J.yld i H x H' → gOf C gf ts x (L2.wipe σ vs) H' fun τ H2 => L2.wipe τ vs = L2.wipe σ vs ∧ ttOf C tt τ H2 fun b H3 =>
        if b = true then tOf C Post fk τ H3 fun y H4 => tOf C Post fv τ H4 fun z H5 => tPut C.P C.w C.K p Nx y z H5 else Nx H3) := by
  refine ⟨fun i m H => ∃ w1 S1 acc, w1.H = H ∧ Le w0 w1 ∧ LeF wS w1 ∧ Sim C w1 S1 ∧ DN C w1 p acc ∧ dcR chk gf tt fk fv (wipeE η vs) (xs.drop i) acc S1 = some (ys, S') ∧ i ≤ xs.length ∧ m = xs.length - i,
    ⟨xs.length, wS, S1, acc, rfl, e0, LeF.refl _, s, dd, run, Nat.zero_le _, rfl⟩, ?_⟩
  rintro i m H ⟨w1, S1, acc, rfl, e1, f1, s1, d1, hr, hi, rfl⟩
  by_cases hlt : i < xs.length
  · refine .inr ?_
    rw [List.drop_eq_getElem_cons hlt] at hr
    unfold dcR at hr
    split at hr
    · rename_i hck
      obtain ⟨η1, h1, hr⟩ := bsome hr
      obtain ⟨⟨b, S3⟩, h2, hr⟩ := bsome hr
      refine ⟨hJ.go i w1 S1 (eJ.trans f1) s1 hck hlt, fun H' => ∃ w5 S5 acc, w5.H = H' ∧ Le w0 w5 ∧ LeF wS w5 ∧ Sim C w5 S5 ∧ DN C w5 p acc ∧ dcR chk gf tt fk fv (wipeE η vs) (xs.drop (i + 1)) acc S5 = some (ys, S'), ?_, ?_⟩
      · rintro H' ⟨w5, S5, acc5, b1, b2, b3, b4, b5, b6⟩
        exact ⟨xs.length - (i + 1), by omega, w5, S5, acc5, b1, b2, b3, b4, b5, b6, hlt, rfl⟩
      · intro x H' hy
        obtain ⟨w2, d, rfl, e2, s2, _, _, hd, rd⟩ := hJ.yld i w1 S1 x H' (eJ.trans f1) s1 hck hlt hy
        rw [List.getElem?_eq_getElem hlt] at hd
        cases hd
        refine ⟨w2, wipeE η vs, S1, _, η1, rfl, (hη.mono (f1.trans e2.f)).wipe vs, s2, rd, h1, fun τ hη2 hl2 k2 => ⟨?_, ?_⟩⟩
        · refine wipe_eq (hl2.trans (wipe_length _ _)) fun j hj => ?_
          rw [k2 j (fun z => hj (hts j z)), wipe_get hj]
        · refine ⟨w2, η1, S1, b, S3, rfl, hη2, s2, h2, fun w3 e3 s3 => ?_⟩
          cases b with
          | false =>
            simp only [Bool.false_eq_true, if_false] at hr ⊢
            exact ⟨w3, S3, acc, rfl, (e1.trans e2).trans e3, f1.trans (e2.trans e3).f, s3, d1.mono (e2.trans e3), hr⟩
          | true =>
            simp only [if_true] at hr ⊢
            obtain ⟨⟨y, S4⟩, h3, hr⟩ := bsome hr
            obtain ⟨⟨z, S5⟩, h4, hr⟩ := bsome hr
            obtain ⟨k, h5, hr⟩ := bsome hr
            split at hr
            · rename_i hz
              refine ⟨w3, η1, S3, y, S4, rfl, hη2.mono e3.f, s3, h3, fun yv w4 e4 s4 r4 => ⟨w4, η1, S4, z, S5, rfl, hη2.mono (e3.trans e4).f, s4, h4, fun zv w5 e5 s5 r5 => ?_⟩⟩
              have d5 := d1.mono (((e2.trans e3).trans e4).trans e5)
              obtain ⟨es, h6, h7⟩ := d5.o
              obtain ⟨ob, hob⟩ := h6.at
              have ry := r4.mono e5.f
              obtain ⟨c1, c2⟩ := keys_h h7 hz.2
              obtain ⟨c3, c4⟩ := key_h h5 ry
              refine ⟨es, k, h6, c1, c2, c3, c4, by rw [← h7.len]; exact sz_lt hz.1, fun ho hd => ?_⟩
              have fc : LeF w5 ⟨w5.mu, w5.L, upd w5.H p ho⟩ := LeF.chg (List.mem_append_right _ d5.l) hob
              exact ⟨⟨w5.mu, w5.L, upd w5.H p ho⟩, S5, _, rfl, ((((e1.trans e2).trans e3).trans e4).trans e5).chg hn, (f1.trans (((e2.trans e3).trans e4).trans e5).f).trans fc, s5.chg d5.l d5.m hob,
                ⟨d5.l, d5.m, _, hd, (h7.put (keyN_some h5).1 ry r5).mono fc⟩, hr⟩
            · cases hr
    · cases hr
  · have e : i = xs.length := by omega
    subst e
    rw [List.drop_length] at hr
    unfold dcR at hr
    split at hr
    · rename_i hck
      cases hr
      exact .inl ⟨hJ.stop w1 _ (eJ.trans f1) s1 hck, hQ w1 e1 f1 s1 d1⟩
    · cases hr
end
theorem dicI' {C : Cf} {w : Wd} {p : Addr} {kvs : List (D × D)} {es : List Ent} (h : DicH C.P C.w w.H p es) (r : RepD C w kvs es) (hp : p ∉ w.F) : Rep C w (.dic kvs) (.ref p) := (objD' h r).rep hp
class PmDc (M : PM) : Prop extends PmOk M where
  dc : ∀ {C : Cf} {w w' : Wd} {ys : List (D × D)} {S S' : Sto} {p : Addr} {Q : VK}, M C w (.dic ys) S' Q → Sim C w S → Le w w' → w.H p = none → Sim C w' S' → DN C w' p ys → Q (.ref p) w'.H
instance : PmDc Post := ⟨fun {C w w' ys S S' p Q} h hS e hn s d => by
  obtain ⟨es, h1, h2⟩ := d.o
  refine h (.ref p) ⟨w'.mu, outL w'.L p, w'.H⟩ (e.drop fun z => hS.fresh hn (List.mem_append_right _ z)) (s.less outL_sub) (dicI' (w := ⟨w'.mu, outL w'.L p, w'.H⟩) h1 (h2.mono (LeF.less outL_sub)) fun z => ?_)
  rcases List.mem_append.mp z with z | z
  · exact d.m z
  · exact outL_not z⟩
instance : PmDc PostO := ⟨fun {C w w' ys S S' p Q} h _ e hn s d => let ⟨es, h1, h2⟩ := d.o; h p w' e s hn d.l d.m (objD' h1 h2)⟩
section
variable {fa : String → Option Addr} {X : Cx} {M : PM} {kx vx tg iter : Expr} {ifs : List Expr} {scope : Scope} {own : List (Str × Nat)} {pos : Pos} {it : EvI} {gf : Tg} {ts : List Nat} {tt : EvB} {fk fv : Ev} {k0 : Nat}
theorem se_dc [PmDc M] (hr : Room k0 X.A) (hc : X.calm = true) (hN : X.N.Nodup) (hi : SI fa X tg iter it) (ok : BlkOk X.N X.env.scope scope own)
    (hg : ∀ (s : Shared) (H : Hp) (C : Addr) (cl : List (Str × Addr)) (fp : List Addr), SG fa (X.blk s H scope (compEnvC scope cl C X.env) fp) tg gf ts) (hts : ∀ j ∈ ts, j ∈ own.map (·.2))
    (ht : ∀ (s : Shared) (H : Hp) (C : Addr) (cl : List (Str × Addr)) (fp : List Addr), STs fa (X.blk s H scope (compEnvC scope cl C X.env) fp) ifs tt)
    (hk : ∀ (s : Shared) (H : Hp) (C : Addr) (cl : List (Str × Addr)) (fp : List Addr), SE fa (X.blk s H scope (compEnvC scope cl C X.env) fp) kx fk)
    (hv : ∀ (s : Shared) (H : Hp) (C : Addr) (cl : List (Str × Addr)) (fp : List Addr), SE fa (X.blk s H scope (compEnvC scope cl C X.env) fp) vx fv) (hs : ∀ x, foldedSetIterable iter X.env x = pure x := by intro _; rfl) :
    SEm fa M X (.DictComp kx vx [⟨tg, iter, ifs, 0⟩] scope pos) (eDc it (own.map (·.2)) gf tt fk fv) := by
  obtain ⟨wi, p, hi⟩ := hi.ex
  refine ⟨_, pe_dcN (g := gOf (cf fa X) gf ts) (tt := ttOf (cf fa X) tt) (tk := tOf (cf fa X) Post fk) (tv := tOf (cf fa X) Post fv) (room9 hr) hc hN p ok (fun s H C cl fp => (hg s H C cl fp).canon) (fun s H C cl fp => (ht s H C cl fp).can) (fun s H C cl fp => (hk s H C cl fp).canon) (fun s H C cl fp => (hv s H C cl fp).canon) hs, ?_⟩
  intro w σ η S d S' hη hS hf Q hQ
  obtain ⟨⟨I, S1⟩, h1, hf⟩ := bsome hf
  obtain ⟨⟨ys, S2⟩, h2, hf⟩ := bsome hf
  cases hf
  refine hi w σ η S I S1 hη hS h1 _ fun J w1 e1 s1 hJ D hD => ?_
  have hDw : w.H D = none := e1.dom D hD
  exact dc_loop (wS := ⟨w1.mu, D :: w1.L, upd w1.H D (nEmpty X.prog X.w D)⟩) hJ hts hDw (e1.trans (Le.newL hD)) (Le.newL hD).f (s1.newL hD) ((hη.mono e1.f).mono (Le.newL hD).f) ⟨List.mem_cons_self, s1.freshm hD, [], empty_h, .nil⟩ h2
    fun w' e' _ s' d' => PmDc.dc hQ hS e' hDw s' d'
end
end HS
namespace HS
open PySem L2
def insOf (S : Sto) : D → Option (String × List (Str × D))
  | .ins c fs => some (c, fs)
  | .ref i => match S[i]? with
    | some (.ins c fs) => some (c, fs)
    | _ => none
  | _ => none
theorem Rep.insH {C : Cf} {w : Wd} {S : Sto} {d : D} {v : V} {c : String} {fs : List (Str × D)} (s : Sim C w S) (r : Rep C w d v) (h : insOf S d = some (c, fs)) :
    ∃ p a dx vs, v = .ref p ∧ w.H p = some (.ins a dx vs) ∧ C.fa c = some a ∧ fs.map (·.1) = vs.map (·.1) ∧ RepL C w (fs.map (·.2)) (vs.map (·.2)) := by
  cases d with
  | ins c' fs' =>
    cases h
    cases r with
    | ins e hp f n r => exact ⟨_, _, _, _, rfl, e, f, n, r⟩
  | ref i =>
    cases r with
    | ref hi =>
      simp only [insOf] at h
      split at h
      · rename_i c' fs' hy
        cases h
        obtain ⟨a, dx, vs, e, f, n, r⟩ := s.obj i _ _ hi hy
        exact ⟨_, a, dx, vs, rfl, e, f, n, r⟩
      · cases h
  | _ => cases h
theorem fld_look {C : Cf} {w : Wd} {x : Str} : ∀ {fs : List (Str × D)} {vs : List (Str × V)}, fs.map (·.1) = vs.map (·.1) → RepL C w (fs.map (·.2)) (vs.map (·.2)) →
    (fs.lookup x = none ∧ vs.lookup x = none) ∨ ∃ d v, fs.lookup x = some d ∧ vs.lookup x = some v ∧ Rep C w d v
  | [], [], _, _ => .inl ⟨rfl, rfl⟩
  | [], _ :: _, h, _ => by simp at h
  | _ :: _, [], h, _ => by simp at h
  | (y, d) :: fs, (z, v) :: vs, h, r => by
    rw [List.map_cons, List.map_cons] at h
    injection h with h1 h2
    have h1 : y = z := h1
    subst h1
    cases r with
    | cons r1 r2 =>
      rw [List.lookup_cons, List.lookup_cons]
      cases x == y with
      | true => exact .inr ⟨d, v, rfl, rfl, r1⟩
      | false => exact fld_look h2 r2
def putFD (x : Str) (d : D) : List (Str × D) → List (Str × D)
  | [] => [(x, d)]
  | (y, e) :: r => if y = x then (y, d) :: r else (y, e) :: putFD x d r
theorem fld_put {C : Cf} {w : Wd} {x : Str} {d : D} {v : V} (rv : Rep C w d v) : ∀ {fs : List (Str × D)} {vs : List (Str × V)}, fs.map (·.1) = vs.map (·.1) → RepL C w (fs.map (·.2)) (vs.map (·.2)) →
    (putFD x d fs).map (·.1) = (putF x v vs).map (·.1) ∧ RepL C w ((putFD x d fs).map (·.2)) ((putF x v vs).map (·.2))
  | [], [], _, _ => ⟨rfl, .cons rv .nil⟩
  | [], _ :: _, h, _ => by simp at h
  | _ :: _, [], h, _ => by simp at h
  | (y, e) :: fs, (z, u) :: vs, h, r => by
    rw [List.map_cons, List.map_cons] at h
    injection h with h1 h2
    have h1 : y = z := h1
    subst h1
    cases r with
    | cons r1 r2 =>
      unfold putFD putF
      by_cases hyx : y = x
      · simp only [hyx, if_true]
        exact ⟨by simp [h2], .cons rv r2⟩
      · obtain ⟨a, b⟩ := fld_put (x := x) rv h2 r2
        simp only [if_neg hyx]
        exact ⟨by simp [a], .cons r1 b⟩
def eFld (cn : String) (x : Str) (f : Ev) : Ev := fun η S => (f η S).bind fun p => (insOf p.2 p.1).bind fun q => if q.1 = cn then (q.2.lookup x).bind fun d => some (d, p.2) else none
section
variable {fa : String → Option Addr} {X : Cx} {M : PM} {e o value : Expr} {es : List Expr} {pos pos' apos p : Pos} {f fo fv : Ev} {fs : EvA} {x m : Str} {cn : String} {a : Addr} {k : Nat} {g : Addr} {fd : FuncData} {ps : List Str} {c : Cv}
theorem se_fld (hc : fa cn = some a) (cl : Cls X.K a) (na : NoAttr X.K a x) (h : SE fa X e f) (hb : attributeBase e x X.env (eval e X.env) = eval e X.env := by rfl) : SE fa X (.Attribute e x pos) (eFld cn x f) := by
  obtain ⟨t, q, h⟩ := h.ex
  refine ⟨tFld X.K t x, pe_fld q hb, fun w σ η S d S' hη hS hf Q hQ => ?_⟩
  obtain ⟨⟨d1, S1⟩, h1, hf⟩ := bsome hf
  obtain ⟨⟨c', fs⟩, h2, hf⟩ := bsome hf
  split at hf
  · rename_i h3
    obtain ⟨d2, h4, hf⟩ := bsome hf
    cases hf
    refine h w σ η S d1 S1 hη hS h1 _ fun v w1 e1 s1 r1 => ?_
    obtain ⟨p, b, dx, vs, rfl, e2, e3, e4, r2⟩ := r1.insH s1 h2
    have h3 : c' = cn := h3
    subst h3
    have e3 : fa c' = some b := e3
    rw [hc] at e3
    cases e3
    rcases fld_look (x := x) e4 r2 with ⟨z, _⟩ | ⟨d3, u, z1, z2, z3⟩
    · rw [h4] at z; cases z
    · rw [h4] at z1
      cases z1
      exact ⟨p, a, dx, vs, u, rfl, e2, cl, na, z2, (PmOk.mono e1 hQ : Post _ _ _ _ _).here s1 z3⟩
  · cases hf
def stI (S : Sto) (d : D) : Option (Nat × String × List (Str × D)) := match d with
  | .ref i => match S[i]? with
    | some (.ins c fs) => some (i, c, fs)
    | _ => none
  | _ => none
theorem Rep.stI {C : Cf} {w : Wd} {S : Sto} {d : D} {v : V} {i : Nat} {c : String} {fs : List (Str × D)} (s : Sim C w S) (r : Rep C w d v) (h : HS.stI S d = some (i, c, fs)) :
    ∃ p a dx vs, v = .ref p ∧ w.mu[i]? = some p ∧ w.H p = some (.ins a dx vs) ∧ C.fa c = some a ∧ fs.map (·.1) = vs.map (·.1) ∧ RepL C w (fs.map (·.2)) (vs.map (·.2)) := by
  unfold HS.stI at h
  split at h
  · rename_i j
    split at h
    · rename_i c' fs' hy
      cases h
      cases r with
      | ref hi =>
        obtain ⟨a, dx, vs, e, f, n, r⟩ := s.obj _ _ _ hi hy
        exact ⟨_, a, dx, vs, rfl, hi, e, f, n, r⟩
    · cases h
  · cases h
def sSetF (cn : String) (x : Str) (fo fv : Ev) : Sv := fun η S => (fv η S).bind fun p => (fo η p.2).bind fun q => (stI q.2 q.1).bind fun r => if r.2.1 = cn ∧ r.2.2.length < 1000 then some (.nx, η, q.2.set r.1 (.ins cn (putFD x p.1 r.2.2))) else none
theorem ss_setF (hc : fa cn = some a) (cl : Cls X.K a) (na : NoAttr X.K a x) (hv : SE fa X value fv) (ho : SE fa X o fo) (hs : swapsWith value (some (.Attribute o x pos')) pos.line X.env = pure false := by rfl) :
    SS fa X (.Assign [.Attribute o x pos'] value pos) (sSetF cn x fo fv) := by
  obtain ⟨tv, pv, hv⟩ := hv.ex
  obtain ⟨to, po, ho⟩ := ho.ex
  refine ⟨sFld X.K to tv x, ps_fld po pv hs, fun w σ η S fl η' S' hη hS hf Dn hD => ?_⟩
  obtain ⟨⟨d1, S1⟩, h1, hf⟩ := bsome hf
  obtain ⟨⟨d2, S2⟩, h2, hf⟩ := bsome hf
  obtain ⟨⟨i, c', fs⟩, h3, hf⟩ := bsome hf
  split at hf
  · rename_i h4
    cases hf
    refine hv w σ η S d1 S1 hη hS h1 _ fun v w1 e1 s1 r1 => ho w1 σ η S1 d2 S2 (hη.mono e1.f) s1 h2 _ fun u w2 e2 s2 r2 => ?_
    obtain ⟨p, b, dx, vs, rfl, hi, e3, e4, e5, r3⟩ := r2.stI s2 h3
    obtain ⟨h5, h6⟩ := h4
    have h5 : c' = cn := h5
    subst h5
    have e4 : fa c' = some b := e4
    rw [hc] at e4
    cases e4
    have hl : vs.length < 1000 := by
      have := congrArg List.length e5
      simp at this
      have h6 : fs.length < 1000 := h6
      omega
    refine ⟨p, a, dx, vs, rfl, e3, cl, na, hl, ?_⟩
    have le : Le w2 ⟨w2.mu, w2.L, upd w2.H p (.ins a dx (putF x v vs))⟩ := Le.put (List.mem_of_getElem? hi) e3
    obtain ⟨z1, z2⟩ := fld_put (x := x) (r1.mono e2.f) e5 r3
    exact hD σ ⟨w2.mu, w2.L, upd w2.H p (.ins a dx (putF x v vs))⟩ ((e1.trans e2).trans le) (s2.put hi e3 ⟨a, dx, _, upd_same, hc, z1, z2.mono le.f⟩) (hη.mono ((e1.trans e2).trans le).f)
  · cases hf
def eMeth (cn : String) (m : Str) (c : Cv) (n : Nat) (fo : Ev) (fs : EvA) : Ev := fun η S => (fo η S).bind fun p => (insOf p.2 p.1).bind fun q => if q.1 = cn ∧ q.2.lookup m = none then
  (fs η p.2).bind fun r => if r.1.length + 1 = n then (c (p.1 :: r.1) r.2).bind fun z => some (z.1, z.2.2) else none else none
theorem meth_sem (hc : fa cn = some a) {to : TE} {t : TA}
    (ho : ∀ w σ η S d S', RepE (cf fa X) w η σ → Sim (cf fa X) w S → fo η S = some (d, S') → ∀ Q : VK, Post (cf fa X) w d S' Q → to σ w.H Q)
    (ha : ∀ w σ η S ds S', RepE (cf fa X) w η σ → Sim (cf fa X) w S → fs η S = some (ds, S') → ∀ Q : List V → Hp → Prop, (∀ vs w', Le w w' → Sim (cf fa X) w' S' → RepL (cf fa X) w' ds vs → Q vs w'.H) → t σ w.H Q) :
    ∀ w σ η S d S', RepE (cf fa X) w η σ → Sim (cf fa X) w S → eMeth cn m c ps.length fo fs η S = some (d, S') → ∀ Q : VK, Post (cf fa X) w d S' Q → tMeth a m (spOf (cf fa X) c ps.length) [] E0 to t σ w.H Q := by
  intro w σ η S d S' hη hS hf Q hQ
  obtain ⟨⟨d1, S1⟩, h1, hf⟩ := bsome hf
  obtain ⟨⟨c', gs⟩, h2, hf⟩ := bsome hf
  split at hf
  · rename_i h3
    obtain ⟨⟨ds, S2⟩, h4, hf⟩ := bsome hf
    split at hf
    · rename_i h5
      obtain ⟨⟨d2, own, S3⟩, h6, hf⟩ := bsome hf
      cases hf
      refine ho w σ η S d1 S1 hη hS h1 _ fun v w1 e1 s1 r1 => ?_
      obtain ⟨p, b, dx, vs, rfl, e2, e3, e4, r2⟩ := r1.insH s1 h2
      obtain ⟨h7, h8⟩ := h3
      have h7 : c' = cn := h7
      subst h7
      have e3 : fa c' = some b := e3
      rw [hc] at e3
      cases e3
      refine ⟨p, dx, vs, rfl, e2, ?_, ha w1 σ η S1 ds S2 (hη.mono e1.f) s1 h4 _ fun us w2 e5 s2 r3 => ?_⟩
      · rcases fld_look (x := m) e4 r2 with ⟨_, z⟩ | ⟨d3, u, z1, _, _⟩
        · exact z
        · rw [h8] at z1; cases z1
      · exact ⟨w2, S2, d1 :: ds, _, own, _, rfl, s2, by rw [List.append_nil]; exact .cons (r1.mono e5.f) r3, h5, h6, RPost.of (PmOk.mono (e1.trans e5) hQ) s2⟩
    · cases hf
  · cases hf
theorem se_meth {pl : Sem Bool} (hc : fa cn = some a) (cl : Cls X.K a) (hm : Meth X.K a m g) (F : FnOk X.prog X.w X.K X.mg X.base CX0 k g fd ps (spOf (cf fa X) c ps.length)) (hr : Room k X.A) (hb : Binds X.K fd ps []) (ho : SE fa X o fo) (ha : SA fa X (e :: es) fs)
    (hst : starEach (e :: es) X.env = (false, eval e X.env) :: starEach es X.env := by rfl) (hpl : (backTo pos (starEach es X.env)).any (·.1) = false := by rfl)
    (ht : eval (.Call (.Attribute o m apos) (e :: es) [] pos) X.env = (do
      let ov ← eval o X.env
      standAt apos.atName
      let (f, first) ← holding [ov] (getMethod ov m pl)
      callWith pos f first (backTo pos (starEach (e :: es) X.env)) (backToKw pos (keywordEach [] X.env))) := by rfl) :
    SE fa X (.Call (.Attribute o m apos) (e :: es) [] pos) (eMeth cn m c ps.length fo fs) := by
  obtain ⟨to, po, ho⟩ := ho.ex
  obtain ⟨t, q, ha⟩ := ha.ex
  exact ⟨_, pe_meth (pl := pl) po cl hm F hr hb .nil pass0 q hst hpl ht, meth_sem hc ho ha⟩
theorem se_meth0 {pl : Sem Bool} (hc : fa cn = some a) (cl : Cls X.K a) (hm : Meth X.K a m g) (F : FnOk X.prog X.w X.K X.mg X.base CX0 k g fd ps (spOf (cf fa X) c ps.length)) (hr : Room k X.A) (hb : Binds X.K fd ps []) (ho : SE fa X o fo)
    (ht : eval (.Call (.Attribute o m apos) [] [] pos) X.env = (do
      let ov ← eval o X.env
      standAt apos.atName
      let (f, first) ← holding [ov] (getMethod ov m pl)
      callWith pos f first (backTo pos (starEach [] X.env)) (backToKw pos (keywordEach [] X.env))) := by rfl) :
    SE fa X (.Call (.Attribute o m apos) [] [] pos) (eMeth cn m c ps.length fo aNil) := by
  obtain ⟨to, po, ho⟩ := ho.ex
  exact ⟨_, pe_meth0 (pl := pl) po cl hm F hr hb .nil pass0 ht, meth_sem hc ho fun w σ η S ds S' hη hS hf Q hQ => by
    cases hf
    exact hQ [] w (Le.refl w) hS .nil⟩
noncomputable def eNew (cn : String) (c : Cv) (n : Nat) (fs : EvA) : Ev := fun η S => (fs η S).bind fun p => if p.1.length + 1 = n then (c (.ref p.2.length :: p.1) (p.2 ++ [.ins cn []])).bind fun r => match r.1 with
  | .non => (endF p.2 r.2.2 (.ref p.2.length)).bind fun q => some (q.1, q.2.2)
  | _ => none else none
noncomputable def eNewO (cn : String) (c : Cv) (n : Nat) (fs : EvA) : Ev := fun η S => (fs η S).bind fun p => if p.1.length + 1 = n then (c (.ref p.2.length :: p.1) (p.2 ++ [.ins cn []])).bind fun r => match r.1 with
  | .non => (endF p.2 r.2.2 (.ref p.2.length)).bind fun q => if q.2.1 = true then some (q.1, q.2.2) else none
  | _ => none else none
theorem new_sem {t : TA} {w : Wd} {σ : L2.St} {H1 : Hp} {S1 S2 T : Sto} {ds : List D} {vs : List V} {d' : D} {own own2 : Bool} {Q : VK} (hc : fa cn = some a) (eH : w.H = H1) (s1 : Sim (cf fa X) w S1) (r1 : RepL (cf fa X) w ds vs) (hl : ds.length + 1 = ps.length)
    (h2 : c (.ref S1.length :: ds) (S1 ++ [.ins cn []]) = some (.non, own, S2)) (h3 : endF S1 S2 (.ref S1.length) = some (d', own2, T)) (hQ : RPost (cf fa X) w d' own2 T Q) :
    ∀ x dx, H1 x = none → H1 dx = none → dx ≠ x → spOf (cf fa X) c ps.length (.ref x :: (vs ++ [])) (upd (upd H1 dx (.own x)) x (.ins a dx [])) (fun v H2 => v = .non ∧ Q (.ref x) H2) E0 := by
  subst eH
  intro x dx hx hdx hne
  obtain ⟨wa, hwa⟩ : ∃ wa : Wd, wa = ⟨w.mu, w.L, upd w.H dx (.own x)⟩ := ⟨_, rfl⟩
  have ea : Le w wa := by rw [hwa]; exact Le.new' hdx
  have sa : Sim (cf fa X) wa S1 := by rw [hwa]; exact s1.new hdx
  have hxa : wa.H x = none := by rw [hwa]; show upd w.H dx (.own x) x = none; rw [upd_ne (Ne.symm hne)]; exact hx
  obtain ⟨wb, hwb⟩ : ∃ wb : Wd, wb = ⟨wa.mu, x :: wa.L, upd wa.H x (.ins a dx [])⟩ := ⟨_, rfl⟩
  have eb : Le wa wb := by rw [hwb]; exact Le.newL hxa
  have sb : Sim (cf fa X) wb S1 := by rw [hwb]; exact sa.newL hxa
  have hlb : x ∈ wb.L := by rw [hwb]; exact List.mem_cons_self
  have hmb : x ∉ wb.mu := by rw [hwb]; exact sa.freshm hxa
  have ob : ObjRep (cf fa X) wb x (.ins cn []) := by rw [hwb]; exact ⟨a, dx, [], upd_same, hc, rfl, .nil⟩
  have le : Le w ⟨wb.mu ++ [x], wb.L, wb.H⟩ := (ea.trans eb).grow hx hlb
  have sc : Sim (cf fa X) ⟨wb.mu ++ [x], wb.L, wb.H⟩ (S1 ++ [.ins cn []]) := sb.grow hmb hlb ob
  have hx2 : (wb.mu ++ [x])[S1.length]? = some x := by
    rw [← sb.len, List.getElem?_append_right (Nat.le_refl _)]
    simp
  have hH : wb.H = upd (upd w.H dx (.own x)) x (.ins a dx []) := by rw [hwb, hwa]
  refine ⟨⟨wb.mu ++ [x], wb.L, wb.H⟩, S1 ++ [.ins cn []], .ref S1.length :: ds, .non, own, S2, hH, sc, .cons (.ref hx2) (by rw [List.append_nil]; exact r1.mono le.f), hl, h2, RPost.of (fun v w' le' s' r' => ?_) sc⟩
  cases r'
  exact ⟨rfl, end_post s1 (le.trans le') s' (.ref (le'.mu _ _ hx2)) h3 hQ⟩
theorem se_new (hc : fa cn = some a) (Mk0 : Mk X.K a g) (F : FnOk X.prog X.w X.K X.mg X.base CX0 k g fd ps (spOf (cf fa X) c ps.length)) (hr : Room (k + 1) X.A) (hg : Gl X x) (hm : X.mg x = some (.ref a)) (hb : Binds X.K fd ps [])
    (ha : SA fa X (e :: es) fs) (hdb : (x == ("__debug__" : Str)) = false := by decide) (he : starEach (e :: es) X.env = (false, eval e X.env) :: starEach es X.env := by rfl) (hpl : (backTo pos (starEach es X.env)).any (·.1) = false := by rfl) :
    SE fa X (.Call (.Name x p) (e :: es) [] pos) (eNew cn c ps.length fs) := by
  obtain ⟨t, q, ha⟩ := ha.ex
  refine ⟨_, pe_make Mk0 F hr hg hm hb .nil pass0 q hdb he hpl, fun w σ η S d S' hη hS hf Q hQ => ?_⟩
  obtain ⟨⟨ds, S1⟩, h1, hf⟩ := bsome hf
  split at hf
  · rename_i hl
    obtain ⟨⟨d1, own, S2⟩, h2, hf⟩ := bsome hf
    simp only at hf
    split at hf
    · obtain ⟨⟨d2, own2, T⟩, h3, hf⟩ := bsome hf
      cases hf
      refine ha w σ η S ds S1 hη hS h1 _ fun vs w1 e1 s1 r1 => ?_
      exact new_sem (t := t) (σ := σ) hc rfl s1 r1 hl h2 h3 (RPost.of (PmOk.mono e1 hQ) s1)
    · cases hf
  · cases hf
end
def endI (r : Fl × Env × Sto) : Option (D × Bool × Sto) := match r.1 with
  | .nx => some (.non, false, r.2.2)
  | .ret .non => some (.non, false, r.2.2)
  | _ => none
def callI (nN : Nat) (g : Sv) : Cv := fun ds S => (g (ds.map some ++ List.replicate (nN - ds.length) none) S).bind endI
theorem fn_ruleI {P : Program} {w : World} {K : PySem.W.Frag} {mg : Str → Option Value} {base : Heap} {fa : String → Option Addr} {x qual : Str} {st : Stmt} {f : Addr} {fd : FuncData} {N ps : List Str} {k : Nat} {g : Sv} (F : FnP K x qual st f fd) (S : FnScope N ps (defScope st))
    (body : ∀ (cdv : Value) (A : Around) (outer : List PySem.Env) (s : Shared) (H : Hp) (E : XK), Room k (A.deeper (PyProof.Rows.envOfC qual (defScope st) s.heap.objs.size f cdv)) → SSs fa (cxOf CX0 P w K mg base N qual (defScope st) f cdv A outer s H E).nox (defBody st) g) :
    FnOk P w K mg base CX0 (k + 1) f fd ps (spOf ⟨P, w, K, fa⟩ (callI N.length g) ps.length) := by
  refine FunD.ok F S (fun vs H Q E h => ?_) (fun cdv A outer s H vs Q E hr h => ?_)
  · obtain ⟨w, S, ds, d, own, S', _, _, r, hl, _⟩ := h
    rw [← r.length]; exact hl
  · obtain ⟨w, S, ds, d, own, S', rfl, hS, r, hl, hc, hQ⟩ := h
    obtain ⟨t, pt, sem⟩ := (body cdv A outer s w.H E hr).ex
    refine ⟨t, PSs.nox pt, ?_⟩
    unfold callI at hc
    obtain ⟨⟨fl, η', S1⟩, h1, h2⟩ := bsome hc
    refine sem w (L2.start N vs) _ S fl η' S1 (repE_start r) hS h1 _ ?_
    unfold endI at h2
    simp only at h2
    split at h2
    · cases h2
      exact fun σ' w' e s _ => hQ .non w' e s .non
    · cases h2
      exact fun v w' e s r => by
        cases r
        exact hQ .non w' e s .non
    · cases h2
end HS
namespace HS
open PySem L2
def rIndexT (K : PySem.W.Frag) : V → List V → Hp → VK → Prop := fun x xs H Q => ∃ (y : V) (d : PyData) (ds : List PyData) (j : Nat) (z : PyData), xs = [y] ∧ Dp K H x (.tuple ds) ∧ Dp K H y d ∧ SeqAt.shaped (.tuple ds) = true ∧ SeqAt.shaped d = true ∧ ds[j]? = some z ∧ PyData.eqv z d = true ∧ (∀ (m : Nat) (z' : PyData), m < j → ds[m]? = some z' → PyData.eqv z' d = false) ∧ Q (.int (j : Nat)) H
/-- the first place -/
def findP (ds : List PyData) (d : PyData) : Option Nat := ds.findIdx? fun z => PyData.eqv z d
def mIndex : RM := fun a ds S => match a, ds with
  | .tup xs, [y] => (pyR S (.tup xs)).bind fun p => (pyR S y).bind fun d => if SeqAt.shaped p && SeqAt.shaped d then (match p with
    | .tuple zs => (findP zs d).bind fun j => some (.int (j : Nat), S)
    | _ => none) else none
  | _, _ => none
def mIndexL : RM := fun a ds S => match ds with
  | [y] => (pyR S a).bind fun p => (pyR S y).bind fun d => if SeqAt.shaped p && SeqAt.shaped d then (match p with
    | .list zs => (findP zs d).bind fun j => some (.int (j : Nat), S)
    | _ => none) else none
  | _ => none
/-- a method of a built-in type, the type told by ty -/
def eMT (ty : Sto → D → Bool) (rD : RM) (f : Ev) (fs : EvA) : Ev := fun η S => (f η S).bind fun p => if ty p.2 p.1 then (fs η p.2).bind fun q => rD p.1 q.1 q.2 else none
section
variable {fa : String → Option Addr} {X : Cx} {M : PM} {o e : Expr} {es : List Expr} {apos cpos p pos : Pos} {f : Ev} {fs : EvA} {name : Str} {T id : String} {r : V → List V → Hp → VK → Prop} {rD : RM} {tyH : V → Hp → Prop} {tyD : Sto → D → Bool} {k0 : Nat}
def tyTup (K : PySem.W.Frag) (x : V) (H : Hp) : Prop := ∃ p, x = .ref p ∧ ((∃ o vs, H p = some (.frz o (.tup vs)) ∧ o.dict = none) ∨ ∃ o, K.lookup p = some o ∧ o.cls = .type "tuple" ∧ o.dict = none)
def isTupD (_ : Sto) (d : D) : Bool := isTup d
def eBits (f : Ev) : Ev := fun η S => (f η S).bind fun p => match p.1 with
  | .int i => some (.int (Builtin.Int.intBits i : Nat), p.2)
  | _ => none
theorem se_bits (ho : SE fa X o f) (hbase : attributeBase o "bit_length" X.env (eval o X.env) = eval o X.env := by rfl) (hline : (apos.endLine == pos.line) = true := by rfl) : SE fa X (.Call (.Attribute o "bit_length" apos) [] [] pos) (eBits f) := by
  obtain ⟨t, q, ho⟩ := ho.ex
  refine ⟨tBits t, pe_bits q hbase hline, fun w σ η S d S' hη hS hf Q hQ => ?_⟩
  obtain ⟨⟨d1, S1⟩, h1, hf⟩ := bsome hf
  cases d1 with
  | int i =>
    cases hf
    exact ho w σ η S _ S1 hη hS h1 _ fun v w1 e1 s1 r1 => by
      cases r1
      exact ⟨i, rfl, (PmOk.mono e1 hQ : Post _ _ _ _ _).here s1 (.int _)⟩
  | _ => cases hf
def eLRg (f : Ev) : Ev := fun η S => (f η S).bind fun p => match p.1 with
  | .int n => if 0 ≤ n ∧ n ≤ SZ then some (.lst (rangeD 0 n.toNat), p.2) else none
  | _ => none
theorem rg_rep {C : Cf} {w : Wd} (n : Nat) : RepL C w (rangeD 0 n) (rgV 0 n) := by
  unfold rangeD rgV
  rw [show (((n : Nat) : Int) - 0).toNat = n by omega]
  generalize List.range n = l
  induction l with
  | nil => exact .nil
  | cons x l ih => exact .cons (.int _) ih
end
end HS
namespace HS
open PySem L2
def mExtend : RM := fun a ds S => match ds with
  | [d] => (stL S a).bind fun q => (lstOf S d).bind fun ys => if q.2.length + ys.length ≤ SZ then some (.non, S.set q.1 (.lst (q.2 ++ ys))) else none
  | _ => none
section
variable {fa : String → Option Addr} {X : Cx} {M : PM} {e value : Expr} {es : List Expr} {pos p : Pos} {fs : EvA} {x : Str} {k i n : Nat} {c : Cv}
structure HeldX (X : Cx) (f : Addr) (sp : Sp) : Prop where
  ex : ∃ (k : Nat) (fd : FuncData) (ps : List Str), Room k X.A ∧ FnOk X.prog X.w X.K X.mg X.base CX0 k f fd ps sp ∧ PySem.W.keepIn X.K (.ref f) = true ∧ Binds X.K fd ps []
inductive Fns (fa : String → Option Addr) (X : Cx) (n : Nat) : List (String × Cv) → Prop where
  | nil : Fns fa X n []
  | cons {nm : String} {c : Cv} {f : Addr} {L : List (String × Cv)} : fa nm = some f → HeldX X f (spOf (cf fa X) c n) → Fns fa X n L → Fns fa X n ((nm, c) :: L)
theorem Fns.get {L : List (String × Cv)} (h : Fns fa X n L) {nm : String} {c : Cv} (hl : L.lookup nm = some c) : ∃ f, fa nm = some f ∧ HeldX X f (spOf (cf fa X) c n) := by
  induction h with
  | nil => cases hl
  | @cons m c' f L h1 h2 _ ih =>
    rw [List.lookup_cons] at hl
    by_cases e : nm = m
    · subst e
      simp at hl
      subst hl
      exact ⟨f, h1, h2⟩
    · have : (nm == m) = false := by simpa using e
      rw [this] at hl
      exact ih hl
def eCallM (L : List (String × Cv)) (n i : Nat) (fs : EvA) : Ev := fun η S => match η[i]? with
  | some (some (.fn nm)) => (L.lookup nm).bind fun c => (fs η S).bind fun p => if p.1.length = n then (c p.1 p.2).bind fun r => some (r.1, r.2.2) else none
  | _ => none
def tCallM (C : Cf) (n i : Nat) (X : Cx) (t : TA) : TE := fun σ H Q => ∃ (f : Addr) (c : Cv), HeldX X f (spOf C c n) ∧ σ[i]? = some (some (.ref f)) ∧ t σ H fun vs H1 => spOf C c n (vs ++ []) H1 Q E0
def gFld (K : PySem.W.Frag) (to : TE) (f : Str) : TG := fun v σ H Q => to σ H fun x H1 => ∃ a C dx fs, x = .ref a ∧ H1 a = some (.ins C dx fs) ∧ Cls K C ∧ NoAttr K C f ∧ fs.length < 1000 ∧ Q σ (upd H1 a (.ins C dx (putF f v fs)))
def sAsg2F (cn : String) (x y : Str) (fo fv : Ev) : Sv := fun η S => (fv η S).bind fun p => match p.1 with
  | .tup [a, b] => (fo η p.2).bind fun q => (stI q.2 q.1).bind fun r => if r.2.1 = cn ∧ r.2.2.length < 1000 then
      (fo η (q.2.set r.1 (.ins cn (putFD x a r.2.2)))).bind fun q2 => (stI q2.2 q2.1).bind fun r2 => if r2.2.1 = cn ∧ r2.2.2.length < 1000 then some (.nx, η, q2.2.set r2.1 (.ins cn (putFD y b r2.2.2))) else none
    else none
  | _ => none
end
end HS
set_option maxHeartbeats 4000000
namespace HS
open PySem PySem.Spec PyProof.Rows L2
/-- t * k: the object of a new tuple is known -/
def rRepF (K : PySem.W.Frag) : R2 := fun x y H Q => ∃ l k xs, x = .ref l ∧ y = .int k ∧ SqT K H l xs ∧ xs ≠ [] ∧ 0 ≤ k ∧ k ≤ 1000 ∧ xs.length ≤ 1000 ∧ (k = 1 → Q (.ref l) H) ∧
  (k ≠ 1 → ∀ p o, H p = none → o.dict = none → Q (.ref p) (upd H p (.frz o (.tup (List.replicate k.toNat xs).flatten))))
def oMulT : RD := fun a b S => match a, b with
  | .tup xs, .int k => if xs ≠ [] ∧ 0 ≤ k ∧ k ≤ 1000 ∧ xs.length ≤ 1000 then some (.tup (List.replicate k.toNat xs).flatten, S) else none
  | _, _ => none
def oIsB : RD := fun a b S => match a, b with
  | .bl x, .bl y => some (.bl (decide (x = y)), S)
  | _, _ => none
def oIsNotB : RD := fun a b S => match a, b with
  | .bl x, .bl y => some (.bl (!decide (x = y)), S)
  | _, _ => none
section
variable {fa : String → Option Addr} {X : Cx} {M : PM} {a b : Expr} {pos : Pos} {f g : Ev}
end
end HS
namespace HS
open PySem PySem.Spec PyProof.Rows L2
def bGcd : RDs := fun ds S => match ds with
  | [.int a, .int b] => some (.int ((Nat.gcd a.natAbs b.natAbs : Nat) : Int), S)
  | _ => none
section
variable {fa : String → Option Addr} {X : Cx} {M : PM} {e : Expr} {es : List Expr} {pos p : Pos} {fs : EvA} {x : Str}
end
def kOne : D → Value → Bool
  | .int i, .int j _ => decide (i = j)
  | .str x, .str y _ => decide (x = y)
  | .non, .none => true
  | _, _ => false
def kAll : List D → List Value → Bool
  | [], [] => true
  | d :: ds, v :: vs => kOne d v && kAll ds vs
  | _, _ => false
def kVal : D → V
  | .int i => .int i
  | .str x => .str x
  | _ => .non
theorem kOne_ok {d : D} {v : Value} (h : kOne d v = true) : RelV (kVal d) v ∧ ∀ (C : Cf) (w : Wd), Rep C w d (kVal d) := by
  unfold kOne at h
  split at h
  · have := of_decide_eq_true h
    subst this
    exact ⟨⟨_, rfl⟩, fun _ _ => .int _⟩
  · have := of_decide_eq_true h
    subst this
    exact ⟨⟨_, rfl⟩, fun _ _ => .str _⟩
  · exact ⟨rfl, fun _ _ => .non⟩
  · cases h
theorem kAll_ok : ∀ {ds : List D} {vs : List Value}, kAll ds vs = true → Vals (ds.map kVal) vs ∧ ∀ (C : Cf) (w : Wd), RepL C w ds (ds.map kVal)
  | [], [], _ => ⟨.nil, fun _ _ => .nil⟩
  | [], _ :: _, h => by cases h
  | _ :: _, [], h => by cases h
  | d :: ds, v :: vs, h => by
    unfold kAll at h
    rw [Bool.and_eq_true] at h
    obtain ⟨a, b⟩ := kOne_ok h.1
    obtain ⟨c, e⟩ := kAll_ok h.2
    exact ⟨.cons a c, fun C w => .cons (b C w) (e C w)⟩
def tupB (x : Str) (ds : List D) (K : PySem.W.Frag) : Bool := match PySem.W.nsIn K mainGlobals x with
  | some (some (.ref a)) => (match K.lookup a with
    | some ⟨c, none, .seq its _, _⟩ => decide (c = .type "tuple") && (decide (its.size ≤ sizeLine) && kAll ds its.toList)
    | _ => false)
  | _ => false
structure KTup (K : PySem.W.Frag) (mg : Str → Option Value) (x : Str) (ds : List D) : Prop where
  ex : ∃ a vs, mg x = some (.ref a) ∧ TupK K a vs ∧ (∃ o, K.lookup a = some o ∧ o.dict = none) ∧ ∀ (C : Cf) (w : Wd), RepL C w ds vs
theorem tupB_ok {K : PySem.W.Frag} {h : Heap} {mg : Str → Option Value} (X : K.In h) (G : h.Ns mainGlobals mg) {x : Str} {ds : List D} (c : tupB x ds K = true) : KTup K mg x ds := by
  unfold tupB at c
  split at c
  · rename_i a hn
    split at c
    · rename_i cl its n sl hl
      rw [Bool.and_eq_true, Bool.and_eq_true] at c
      obtain ⟨c1, c2, c3⟩ := c
      have c1 := of_decide_eq_true c1
      have c2 := of_decide_eq_true c2
      obtain ⟨r1, r2⟩ := kAll_ok c3
      exact ⟨a, _, PySem.W.mg_of X G hn, ⟨_, its, n, hl, c1, rfl, c2, r1⟩, ⟨_, hl, rfl⟩, r2⟩
    · cases c
  · cases c
theorem se_ktup {fa : String → Option Addr} {X : Cx} {x : Str} {pos : Pos} {ds : List D} (hg : Gl X x) (hk : KTup X.K X.mg x ds) (hd : (x == ("__debug__" : Str)) = false := by decide) : SE fa X (.Name x pos) (eC (.tup ds)) := by
  obtain ⟨a, vs, hm, h1, h2, h3⟩ := hk.ex
  exact se_c (pe_glob (v := .ref a) hg hm rfl hd) fun w => .tupK h1 h2 (h3 _ w)
/-- a name for a function of another module -/
def bfunB (x : Str) (id : String) (K : PySem.W.Frag) : Bool := He.eqO (PySem.W.nsIn K mainGlobals x) (some (some (.builtin id)))
/-- what the module's names reach: their objects, classes' dicts, methods, codes -/
def refsQ (o : Obj) : List Addr := match o.data with
  | .fields _ => []
  | _ => He.refsD o
def nxtQ (g : Addr → Option Obj) (as : List Addr) : List Addr := as.flatMap fun a => match g a with
  | some o => refsQ o
  | none => []
def asQ (g : Addr → Option Obj) : List Addr :=
  let l1 := nxtQ g [mainGlobals]
  let l2 := nxtQ g l1
  let l3 := nxtQ g l2
  mainGlobals :: (l1 ++ (l2 ++ (l3 ++ nxtQ g l3)))
abbrev AlX : Type := He.AlD × List Bool
abbrev Fb : Type := PySem.W.Frag → Bool
def obsX (fa : List He.Fa) (fn : List He.DefD) (bs : List Fb) (K : PySem.W.Frag) : AlX := (He.obsD fa fn K, bs.map fun b => b K)
def valX (fn : List He.DefD) (bs : List Fb) : AlX := (He.valD fn, bs.map fun _ => true)
def obsXG (n : Nat) (fa : List He.Fa) (fn : List He.DefD) (bs : List Fb) (g : Addr → Option Obj) : AlX := obsX fa fn bs (He.frG g (asQ g))
def SaysX (fa : List He.Fa) (fn : List He.DefD) (bs : List Fb) (K : PySem.W.Frag) : Prop := obsX fa fn bs K = valX fn bs
def hookX (n : Nat) (fa : List He.Fa) (fn : List He.DefD) (bs : List Fb) : PySem.W.Hook where
  α := AlX
  obs := fun s => obsXG n fa fn bs s.heap.get?
  val := fun _ => valX fn bs
  says := fun _ h => ∃ K : PySem.W.Frag, K.In h ∧ SaysX fa fn bs K
  of := fun _ _ e => ⟨_, He.frG_in, e⟩
  keeps := fun _ _ _ ⟨K, hK, c⟩ k => ⟨K, PySem.W.Frag.In.keeps hK k, c⟩
theorem obsXG_eq {n : Nat} {fa : List He.Fa} {fn : List He.DefD} {bs : List Fb} {g : Addr → Option Obj} {s : Shared} (h : ∀ a, g a = s.heap.get? a) : obsXG n fa fn bs g = (hookX n fa fn bs).obs s := by
  have e : g = s.heap.get? := funext h
  rw [e] <;> rfl
section
variable {fa : List He.Fa} {fn : List He.DefD} {bs : List Fb} {K : PySem.W.Frag}
theorem SaysX.d (c : SaysX fa fn bs K) : He.SaysD fa fn K := congrArg (fun z : AlX => z.1) c
theorem SaysX.b (c : SaysX fa fn bs K) (i : Nat) {b : Fb} (h : bs[i]? = some b := by rfl) : b K = true := by
  have e : bs.map (fun b => b K) = bs.map fun _ => true := congrArg (fun z : AlX => z.2) c
  have e2 : (bs.map fun b => b K)[i]? = (bs.map fun _ => true)[i]? := by rw [e]
  rw [List.getElem?_map, List.getElem?_map, h] at e2
  exact Option.some.inj e2
end
end HS
namespace HS
open PySem L2 HandSHeadRun
end HS
set_option maxHeartbeats 1000000
namespace HS
open PySem PySem.Spec PyProof.Rows L2
def rmK (T : List Addr) (K : PySem.W.Frag) : PySem.W.Frag := K.filter fun e => decide (e.1 ∉ T)
/-- the code object of a def, its table -/
def fnCode (K : PySem.W.Frag) (x : PySem.Str) : Addr := match K.lookup (He.ga K x) with
  | some ⟨_, _, .func fd, _⟩ => (match fd.code with
    | .ref c => c
    | _ => 0)
  | _ => 0
def fnTab (K : PySem.W.Frag) (x : PySem.Str) : Addr := match K.lookup (fnCode K x) with
  | some ⟨_, _, .fields (vs : Array Value), _⟩ => (match (vs[11]? : Option Value) with
    | some (Value.ref p) => p
    | _ => 0)
  | _ => 0
def tabs (xs : List PySem.Str) (K : PySem.W.Frag) : List Addr := xs.map (fnTab K)
def isRef (v : Value) (a : Addr) : Bool := match v with
  | .ref b => decide (b = a)
  | _ => false
def codeRecB (vs : Array Value) (P : Addr) : Bool := (match vs[11]? with
  | some v => isRef v P
  | none => false) && (match vs.getD 18 .none, vs.getD 7 .none, vs.getD 9 .none, vs.getD 10 .none with
  | .str _ _, .int _ _, .bool _, .int _ _ => true
  | _, _, _, _ => false)
def fnCodeB (K : PySem.W.Frag) (x : PySem.Str) : Bool := match K.lookup (He.ga K x) with
  | some ⟨_, _, .func fd, _⟩ => isRef fd.code (fnCode K x)
  | _ => false
def codeB (K : PySem.W.Frag) (c P : Addr) : Bool := match K.lookup c with
  | some ⟨.type "code", _, .fields vs, _⟩ => codeRecB vs P && !decide (c = P)
  | _ => false
def tabEmptyB (K : PySem.W.Frag) (P : Addr) : Bool := match K.lookup P with
  | some ⟨.none, none, .fields vs, sl⟩ => decide (vs.size = 0) && decide (sl.size = 0)
  | _ => false
def tabOkB (xs : List PySem.Str) (K : PySem.W.Frag) (x : PySem.Str) : Bool := fnCodeB (rmK (tabs xs K) K) x && decide (fnCode (rmK (tabs xs K) K) x = fnCode K x) && codeB K (fnCode K x) (fnTab K x) && tabEmptyB K (fnTab K x)
structure TabOk (K K2 : PySem.W.Frag) (h : Heap) (x : PySem.Str) : Prop where
  code : ∀ fd oc od sl, K.lookup (He.ga K x) = some ⟨oc, od, .func fd, sl⟩ → fd.code = .ref (fnCode K2 x)
  hd : PySem.W.CodeHd h (fnCode K2 x) (fnTab K2 x)
  tab : h.get? (fnTab K2 x) = some { cls := .none, data := .fields #[] }
abbrev AlT : Type := AlX × List Bool × Bool
def obsT (fa : List He.Fa) (fn : List He.DefD) (bs : List Fb) (xs : List PySem.Str) (K : PySem.W.Frag) : AlT := (obsX fa fn bs (rmK (tabs xs K) K), xs.map (tabOkB xs K), decide (tabs xs K).Nodup)
def valT (fn : List He.DefD) (bs : List Fb) (xs : List PySem.Str) : AlT := (valX fn bs, xs.map fun _ => true, true)
def asT (xs : List PySem.Str) (g : Addr → Option Obj) : List Addr :=
  let l := asQ g
  l ++ tabs xs (He.frG g l)
def obsTG (n : Nat) (fa : List He.Fa) (fn : List He.DefD) (bs : List Fb) (xs : List PySem.Str) (g : Addr → Option Obj) : AlT := obsT fa fn bs xs (He.frG g (asT xs g))
structure SaysT (fa : List He.Fa) (fn : List He.DefD) (bs : List Fb) (xs : List PySem.Str) (K2 : PySem.W.Frag) (h : Heap) : Prop where
  cx : SaysX fa fn bs (rmK (tabs xs K2) K2)
  ok : ∀ x ∈ xs, TabOk (rmK (tabs xs K2) K2) K2 h x
  nd : (tabs xs K2).Nodup
def hookT (n : Nat) (fa : List He.Fa) (fn : List He.DefD) (bs : List Fb) (xs : List PySem.Str) : PySem.W.Hook where
  α := AlT
  obs := fun s => obsTG n fa fn bs xs s.heap.get?
  val := fun _ => valT fn bs xs
  says := fun _ h => ∃ K : PySem.W.Frag, K.In h ∧ obsT fa fn bs xs K = valT fn bs xs
  of := fun _ _ e => ⟨_, He.frG_in, e⟩
  keeps := fun _ _ _ ⟨K, hK, c⟩ k => ⟨K, PySem.W.Frag.In.keeps hK k, c⟩
/-- (code object, table) of each -/
def csT (xs : List PySem.Str) (K2 : PySem.W.Frag) : List (Addr × Addr) := xs.map fun x => (fnCode K2 x, fnTab K2 x)
end HS
namespace HS
open PySem L2 PySem.W PyProof.Rows
section
variable {fa : String → Option Addr} {X : Cx} {M : PM} {o e : Expr} {es : List Expr} {apos cpos p pos : Pos} {f : Ev} {fs : EvA}
def tTupRgF (te : L2.St → Hp → (Int → Int → Hp → Prop) → Prop) : TE := fun σ H Q => te σ H fun a b H1 => RgOk a b ∧ ∀ q o, H1 q = none → o.dict = none → Q (.ref q) (upd H1 q (.frz o (.tup (rgV a b))))
theorem pe_tupRgF {te : L2.St → Hp → (Int → Int → Hp → Prop) → Prop} {e : Expr} {p pos : Pos} (hc : X.calm = true) (hg : Gl X "tuple") (hm : X.mg "tuple" = none) (he : PRg X e te) (na : starEach [e] X.env = (false, eval e X.env) :: starEach [] X.env := by rfl) : PE X (.Call (.Name "tuple" p) [e] [] pos) (tTupRgF te) := by
  refine ⟨fun pins s σ H Q I h => ?_⟩
  refine Call_ (ld_blt I hg hm boot_tuple (PyProof.Rows.callWith_type1 (args_cons (thn (he pins s σ H _ I h) fun x s1 ⟨r, a, b, t, u, v, H1, ex, hr, I1, ok, q⟩ => args_nil ?_) na) na))
  subst ex
  obtain ⟨b1, b2, b3, b4, b5⟩ := ok
  refine call_tuple_range (n := (b - a).toNat) (I1.ok.hd hc) hr (small_one b1 b2 b3 b4) (rangeSize_nat a b) b5 fun h' tk acc hk hi => ?_
  have I2 : L2.Inv X pins σ H1 { s1 with heap := h', toks := tk } := I1.kept hk
  exact ep_tup (s := { s1 with heap := h', toks := tk }) (t' := tk) I2 (fun b o e => Heap.get?_push_of_some _ e) (Nat.le_refl _) (Heap.get?_push_size _ rfl) rfl (by rw [rgV_length, sizeLine_eq]; omega) (vals_rg hi) (by rw [Array.toArray_toList]; exact PyProof.Rows.IsTup.new _ _) q
def eTRg (f : Ev) : Ev := fun η S => (f η S).bind fun p => match p.1 with
  | .int n => if 0 ≤ n ∧ n ≤ SZ then some (.tup (rangeD 0 n.toNat), p.2) else none
  | _ => none
theorem se_trg {a : Expr} {p2 pos2 : Pos} (hc : X.calm = true) (hg : Gl X "tuple") (hm : X.mg "tuple" = none) (hg2 : Gl X "range") (hm2 : X.mg "range" = none) (ha : SE fa X a f)
    (na : starEach [.Call (.Name "range" p2) [a] [] pos2] X.env = (false, eval (.Call (.Name "range" p2) [a] [] pos2) X.env) :: starEach [] X.env := by rfl) (nb : starEach [a] X.env = (false, eval a X.env) :: starEach [] X.env := by rfl) :
    SE fa X (.Call (.Name "tuple" p) [.Call (.Name "range" p2) [a] [] pos2] [] pos) (eTRg f) := by
  obtain ⟨t, q, ha⟩ := ha.ex
  refine ⟨_, pe_tupRgF hc hg hm (prg_1 hg2 hm2 q nb) na, fun w σ η S d S' hη hS hf Q hQ => ?_⟩
  obtain ⟨⟨d1, S1⟩, h1, hf⟩ := bsome hf
  cases d1 with
  | int n =>
    simp only at hf
    split at hf
    · rename_i hn
      cases hf
      refine ha w σ η S _ _ hη hS h1 _ fun v w1 e1 s1 r1 => ?_
      cases r1
      have hz : (SZ : Int) = 100000 := rfl
      obtain ⟨m, rfl⟩ : ∃ m : Nat, n = (m : Int) := ⟨n.toNat, by omega⟩
      exact ⟨(m : Int), rfl, ⟨by omega, by omega, by omega, by omega, by omega⟩, fun l o hl hd => (PmOk.mono e1 hQ : Post _ _ _ _ _).newTup s1 (by simpa using rg_rep m) hl hd⟩
    · cases hf
  | _ => cases hf
open Classical in
noncomputable def bSortT : RDs := fun ds S => match ds with
  | [d] => (lstOf S d).bind fun xs => if xs.length ≤ SZ then (pyAll S xs).bind fun ks => if SortOk ks then some (.lst (sortD xs ks), S) else none else none
  | _ => none
def rSortT (fa : String → Option Addr) (X : Cx) (M : PM) : List V → Hp → VK → Prop := fun vs H Q => ∃ w S d D l, w.H = H ∧ vs = [.ref l] ∧ Sim (cf fa X) w S ∧ Rep (cf fa X) w d (.ref l) ∧ bSortT [d] S = some (D, S) ∧ M (cf fa X) w D S Q
def bListD : RDs := fun ds S => match ds with
  | [.dic kvs] => some (.lst (kvs.map (·.1)), S)
  | _ => none
def rListN (P : Program) (wd : World) : List V → Hp → VK → Prop := fun xs H Q => rListD xs H Q ∨ ∃ p o m, xs = [.ref p] ∧ H p = some (nDictP P wd p o m) ∧ ∀ q, H q = none → Q (.ref q) (upd H q (.lst (m.map fun x => V.ref x.1.2)))
end
end HS
namespace HS
open PySem L2
section
variable {X : Cx}
end
section
variable {fa : String → Option Addr} {X : Cx} {kx vx tg iter : Expr} {ifs : List Expr} {scope : Scope} {own : List (Str × Nat)} {pos : Pos} {it : EvI} {gf : Tg} {ts : List Nat} {tt : EvB} {fk fv : Ev} {k0 : Nat}
end
end HS
namespace HS
open PySem L2
def tyDic (P : Program) (wd : World) (x : V) (H : Hp) : Prop := ∃ p es, x = .ref p ∧ DicH P wd H p es
def isDicD (S : Sto) (d : D) : Bool := (dicOf S d).isSome
def rNGet2 (P : Program) (wd : World) (K : PySem.W.Frag) : V → List V → Hp → VK → Prop := fun x xs H Q => ∃ p es k y z, x = .ref p ∧ xs = [y, z] ∧ DicH P wd H p es ∧ KeysH K H es ∧ FitH es k ∧ KeyH K H y k ∧ AskH k ∧ Q ((lookE es k).getD z) H
def mGet2 : RM := fun d ds S => match ds with
  | [y, z] => (askD S d y).bind fun o => some (o.getD z, S)
  | _ => none
section
variable {fa : String → Option Addr} {X : Cx} {o e : Expr} {es : List Expr} {apos cpos : Pos} {f : Ev} {fs : EvA} {k0 : Nat}
end
end HS
namespace HS
open PySem L2 PySem.W PyProof.Rows
def Itn' (P : Program) (wd : World) (d : Addr) (o : Obj) (m : List ((NestedKey × Addr) × V)) : It :=
  ⟨fun i H => H d = some (nDictP P wd d o m) ∧ i < m.length, fun i H x H' => H' = H ∧ ∃ y, m[i]? = some y ∧ x = .ref y.1.2, fun i H => H d = some (nDictP P wd d o m) ∧ m.length ≤ i⟩
section
variable {P : Program} {w : World} {K : PySem.W.Frag} {tg : Expr} {d : Addr} {o : Obj} {es : Array DictEntry} {ep : Nat}
end
def iNK (P : Program) (wd : World) (td : TE) : TI := fun σ H R => td σ H fun x H1 => ∃ d o m, x = .ref d ∧ H1 d = some (nDictP P wd d o m) ∧ R (Itn' P wd d o m) H1
section
variable {X : Cx} {tg e : Expr} {td : TE}
end
/-- the keys of a dict, as an iterable: keys that are tuples (or none) -/
def tupKeys (kvs : List (D × D)) : Bool := kvs.all fun x => isTup x.1
def iEK (f : Ev) : EvI := fun η S => (f η S).bind fun p => match p.1 with
  | .dic kvs => if tupKeys kvs = true then some (⟨kvs.map (·.1), fun _ => True⟩, p.2) else none
  | _ => none
end HS
namespace HS
open PySem L2
def pl : Nat → D → Bool
  | _, .non => true
  | _, .bl _ => true
  | _, .int _ => true
  | _, .str _ => true
  | n + 1, .tup xs => xs.all (pl n)
  | n + 1, .lst xs => xs.all (pl n)
  | _, _ => false
theorem pl_mono : ∀ {n m : Nat} {d : D}, n ≤ m → pl n d = true → pl m d = true
  | 0, m, d, h, e => by cases d <;> cases m <;> simp [pl] at e ⊢
  | n + 1, 0, d, h, e => by omega
  | n + 1, m + 1, d, h, e => by
    cases d <;> simp [pl] at e ⊢
    · exact fun x hx => pl_mono (by omega) (e x hx)
    · exact fun x hx => pl_mono (by omega) (e x hx)
theorem pl_clo : ∀ {n k : Nat} {d : D}, pl n d = true → clo k d = true
  | n, k, .non, _ => by simp [clo]
  | n, k, .bl _, _ => by simp [clo]
  | n, k, .int _, _ => by simp [clo]
  | n, k, .str _, _ => by simp [clo]
  | n + 1, k, .tup xs, e => by
    rw [clo]
    have h : ∀ x ∈ xs, pl n x = true := by simpa [pl] using e
    clear e
    induction xs with
    | nil => rw [cloL]
    | cons x xs ih => rw [cloL, pl_clo (h x List.mem_cons_self), ih fun y hy => h y (List.mem_cons_of_mem _ hy)]; rfl
  | n + 1, k, .lst xs, e => by
    rw [clo]
    have h : ∀ x ∈ xs, pl n x = true := by simpa [pl] using e
    clear e
    induction xs with
    | nil => rw [cloL]
    | cons x xs ih => rw [cloL, pl_clo (h x List.mem_cons_self), ih fun y hy => h y (List.mem_cons_of_mem _ hy)]; rfl
  | 0, k, .tup xs, e => by simp [pl] at e
  | 0, k, .lst xs, e => by simp [pl] at e
  | n, k, .scr _, e => by cases n <;> simp [pl] at e
  | n, k, .dic _, e => by cases n <;> simp [pl] at e
  | n, k, .ins _ _, e => by cases n <;> simp [pl] at e
  | n, k, .ref _, e => by cases n <;> simp [pl] at e
  | n, k, .fn _, e => by cases n <;> simp [pl] at e
  | n, k, .ty _, e => by cases n <;> simp [pl] at e
  | n, k, .pr _, e => by cases n <;> simp [pl] at e
theorem pl_cloO {n k : Nat} {d : D} (h : pl n d = true) : cloO k d = true := by
  unfold cloO
  rw [pl_clo h]
  cases d with
  | pr _ => cases n <;> simp [pl] at h
  | _ => rfl
theorem mapM_self {f : D → Option D} : ∀ {xs : List D}, (∀ x ∈ xs, f x = some x) → xs.mapM f = some xs
  | [], _ => rfl
  | x :: xs, h => by
    rw [List.mapM_cons, h x List.mem_cons_self, mapM_self fun y hy => h y (List.mem_cons_of_mem _ hy)]
    rfl
theorem pl_fz : ∀ {n k m : Nat} {S : Sto} {d : D}, pl n d = true → n < k → fzD k m S d = some d
  | n, 0, m, S, d, e, h => by omega
  | n, k + 1, m, S, d, e, h => by
    cases d with
    | non => rfl
    | bl b => rfl
    | int i => rfl
    | str x => rfl
    | tup xs =>
      cases n with
      | zero => simp [pl] at e
      | succ n =>
        have hh : ∀ x ∈ xs, pl n x = true := by simpa [pl] using e
        unfold fzD
        have hm : xs.mapM (fzD k m S) = some xs := mapM_self fun x hx => pl_fz (n := n) (hh x hx) (by omega)
        simp only [hm]; rfl
    | lst xs =>
      cases n with
      | zero => simp [pl] at e
      | succ n =>
        have hh : ∀ x ∈ xs, pl n x = true := by simpa [pl] using e
        unfold fzD
        have hm : xs.mapM (fzD k m S) = some xs := mapM_self fun x hx => pl_fz (n := n) (hh x hx) (by omega)
        simp only [hm]; rfl
    | scr _ => cases n <;> simp [pl] at e
    | dic _ => cases n <;> simp [pl] at e
    | ins _ _ => cases n <;> simp [pl] at e
    | ref _ => cases n <;> simp [pl] at e
    | fn _ => cases n <;> simp [pl] at e
    | pr _ => cases n <;> simp [pl] at e
    | ty _ => cases n <;> simp [pl] at e
/-- S, with the list of draws at i, and the local containers E -/
def IL (ds : List Int) : D := .lst (ds.map .int)
def W (A : Sto) (i : Nat) (ds : List Int) (E : Sto) : Sto := A.set i (IL ds) ++ E
def V (A : Sto) (E : Sto) : Sto := A ++ E
section
variable {A E : Sto} {i j : Nat} {ds es : List Int} {x : D}
theorem W_in (h : A[i]? = some (IL ds)) : A = W A i ds [] := by
  unfold W
  rw [List.append_nil]
  obtain ⟨hi, e⟩ := List.getElem?_eq_some_iff.mp h
  rw [← e, List.set_getElem_self]
theorem W_out : W A i ds [] = A.set i (IL ds) := List.append_nil _
theorem V_out : V A [] = A := List.append_nil _
@[simp] theorem W_len : (W A i ds E).length = A.length + E.length := by simp [W]
@[simp] theorem V_len : (V A E).length = A.length + E.length := by simp [V]
theorem W_i (hi : i < A.length) : (W A i ds E)[i]? = some (IL ds) := by
  unfold W
  rw [List.getElem?_append_left (by simpa using hi), List.getElem?_set_self hi]
theorem W_E : (W A i ds E)[A.length + j]? = E[j]? := by
  unfold W
  rw [List.getElem?_append_right (by simp)]
  simp
theorem V_E : (V A E)[A.length + j]? = E[j]? := by
  unfold V
  rw [List.getElem?_append_right (by simp)]
  simp
theorem V_A (hi : i < A.length) : (V A E)[i]? = A[i]? := by
  unfold V
  rw [List.getElem?_append_left hi]
theorem W_A {k : Nat} (hi : k < A.length) (hk : k ≠ i) : (W A i ds E)[k]? = A[k]? := by
  unfold W
  rw [List.getElem?_append_left (by simpa using hi), List.getElem?_set_ne (Ne.symm hk)]
theorem W_si (hi : i < A.length) : (W A i ds E).set i (IL es) = W A i es E := by
  unfold W
  rw [List.set_append_left _ _ (by simpa using hi), List.set_set]
theorem W_sE : (W A i ds E).set (A.length + j) x = W A i ds (E.set j x) := by
  unfold W
  rw [List.set_append_right _ _ (by simp)]
  simp
theorem V_sE : (V A E).set (A.length + j) x = V A (E.set j x) := by
  unfold V
  rw [List.set_append_right _ _ (by simp)]
  simp
@[simp] theorem W_app {F : Sto} : W A i ds E ++ F = W A i ds (E ++ F) := by simp [W]
@[simp] theorem V_app {F : Sto} : V A E ++ F = V A (E ++ F) := by simp [V]
theorem end_W {n : Nat} {d : D} (hd : pl n d = true) (hn : n < 40) : endF A (W A i ds E) d = some (d, false, A.set i (IL ds)) := by
  unfold endF
  by_cases hE : E = []
  · subst hE
    rw [if_pos (by simp), W_out]
  · have h1 : ¬ (W A i ds E).length = A.length := by
      simp
      exact hE
    rw [if_neg h1, if_pos]
    · have ht : (W A i ds E).take A.length = A.set i (IL ds) := by
        unfold W
        rw [List.take_append_of_le_length (by simp)]
        rw [List.take_of_length_le (by simp)]
      rw [ht]
      have hz : fzD FZ A.length (W A i ds E) d = some d := pl_fz hd hn
      cases d with
      | ref k => cases n <;> simp [pl] at hd
      | _ => simp only [hz, Option.bind_some]
    · intro k hk
      by_cases hki : k = i
      · subst hki
        refine .inr ⟨IL ds, W_i hk, ?_⟩
        exact pl_clo (n := 1) (by simp [IL, pl])
      · exact .inl (W_A hk hki)
theorem end_Wr {n j : Nat} {c : D} (hj : E[j]? = some c) (hd : pl n c = true) : endF A (W A i ds E) (.ref (A.length + j)) = some (c, true, A.set i (IL ds)) := by
  unfold endF
  have h1 : ¬ (W A i ds E).length = A.length := by
    have := (List.getElem?_eq_some_iff.mp hj).1
    simp
    rintro rfl
    simp at this
  rw [if_neg h1, if_pos]
  · have ht : (W A i ds E).take A.length = A.set i (IL ds) := by
      unfold W
      rw [List.take_append_of_le_length (by simp)]
      rw [List.take_of_length_le (by simp)]
    simp only [ht]
    rw [if_neg (by omega), W_E, hj]
    simp only [Option.bind_some, pl_cloO hd, if_true]
  · intro k hk
    by_cases hki : k = i
    · subst hki
      refine .inr ⟨IL ds, W_i hk, ?_⟩
      exact pl_clo (n := 1) (by simp [IL, pl])
    · exact .inl (W_A hk hki)
theorem end_V {n : Nat} {d : D} (hd : pl n d = true) (hn : n < 40) : endF A (V A E) d = some (d, false, A) := by
  unfold endF
  by_cases hE : E = []
  · subst hE
    rw [if_pos (by simp), V_out]
  · have h1 : ¬ (V A E).length = A.length := by
      simp
      exact hE
    rw [if_neg h1, if_pos]
    · have ht : (V A E).take A.length = A := by
        unfold V
        rw [List.take_append_of_le_length (by simp)]
        rw [List.take_of_length_le (by simp)]
      rw [ht]
      have hz : fzD FZ A.length (V A E) d = some d := pl_fz hd hn
      cases d with
      | ref k => cases n <;> simp [pl] at hd
      | _ => simp only [hz, Option.bind_some]
    · intro k hk
      exact .inl (V_A hk)
theorem end_Vr {n j : Nat} {c : D} (hj : E[j]? = some c) (hd : pl n c = true) : endF A (V A E) (.ref (A.length + j)) = some (c, true, A) := by
  unfold endF
  have h1 : ¬ (V A E).length = A.length := by
    have := (List.getElem?_eq_some_iff.mp hj).1
    simp
    rintro rfl
    simp at this
  rw [if_neg h1, if_pos]
  · have ht : (V A E).take A.length = A := by
      unfold V
      rw [List.take_append_of_le_length (by simp)]
      rw [List.take_of_length_le (by simp)]
    simp only [ht]
    rw [if_neg (by omega), V_E, hj]
    simp only [Option.bind_some, pl_cloO hd, if_true]
  · intro k hk
    exact .inl (V_A hk)
end
theorem forR_ind {chk : Sto → Prop} {tg : Tg} {body : Sv} (I : Nat → Env → Sto → Prop) : ∀ (xs : List D) (k0 : Nat) (η : Env) (S : Sto), I k0 η S → (∀ k η S, k0 ≤ k → k ≤ k0 + xs.length → I k η S → chk S) →
    (∀ k x η S, xs[k]? = some x → I (k0 + k) η S → ∃ η1 η2 S2, tg x η = some η1 ∧ (body η1 S = some (.nx, η2, S2) ∨ body η1 S = some (.ct, η2, S2)) ∧ I (k0 + k + 1) η2 S2) →
    ∃ η' S', forR chk tg body xs η S = some (.nx, η', S') ∧ I (k0 + xs.length) η' S'
  | [], k0, η, S, h, hc, _ => ⟨η, S, by unfold forR; rw [if_pos (hc k0 η S (Nat.le_refl _) (Nat.le_add_right _ _) h)], h⟩
  | x :: xs, k0, η, S, h, hc, hs => by
    obtain ⟨η1, η2, S2, h1, h2, h3⟩ := hs 0 x η S rfl h
    obtain ⟨η', S', h4, h5⟩ := forR_ind I xs (k0 + 1) η2 S2 h3 (fun k η S a b hI => hc k η S (by omega) (by simp; omega) hI) (fun k y η S hk hI => by
      have := hs (k + 1) y η S (by simpa using hk)
      have e : k0 + 1 + k = k0 + (k + 1) := by omega
      rw [e] at hI ⊢
      exact this hI)
    refine ⟨η', S', ?_, by have e : k0 + (x :: xs).length = k0 + 1 + xs.length := by simp; omega
                           rw [e]; exact h5⟩
    unfold forR
    rw [if_pos (hc k0 η S (Nat.le_refl _) (by omega) h), h1]
    rcases h2 with h2 | h2 <;> simp only [Option.bind_some, h2, h4]
theorem for_ind {it : EvI} {tg : Tg} {body : Sv} {η : Env} {S S0 : Sto} {xs : List D} {chk : Sto → Prop} (I : Nat → Env → Sto → Prop) (hi : it η S0 = some (⟨xs, chk⟩, S)) (h0 : I 0 η S) (hc : ∀ k η S, k ≤ xs.length → I k η S → chk S)
    (hs : ∀ k x η S, xs[k]? = some x → I k η S → ∃ η1 η2 S2, tg x η = some η1 ∧ (body η1 S = some (.nx, η2, S2) ∨ body η1 S = some (.ct, η2, S2)) ∧ I (k + 1) η2 S2) :
    ∃ η' S', sFor it tg body η S0 = some (.nx, η', S') ∧ I xs.length η' S' := by
  obtain ⟨η', S', h1, h2⟩ := forR_ind I xs 0 η S h0 (fun k η S _ b hI => hc k η S (by omega) hI) (fun k x η S hx hI => by
    rw [Nat.zero_add] at hI ⊢
    exact hs k x η S hx hI)
  rw [Nat.zero_add] at h2
  exact ⟨η', S', by unfold sFor; rw [hi]; exact h1, h2⟩
theorem lcR_ind {chk : Sto → Prop} {tg : Tg} {tt : EvB} {fe : Ev} {η0 : Env} (I : Nat → List D → Sto → Prop) : ∀ (xs : List D) (k0 : Nat) (acc : List D) (S : Sto), I k0 acc S → (∀ k acc S, I k acc S → chk S) → (∀ k acc S, I k acc S → acc.length ≤ k) → k0 + xs.length ≤ SZ →
    (∀ k x acc S, xs[k]? = some x → I (k0 + k) acc S → ∃ η1 b S1, tg x η0 = some η1 ∧ tt η1 S = some (b, S1) ∧ ((b = true ∧ ∃ y S2, fe η1 S1 = some (y, S2) ∧ I (k0 + k + 1) (acc ++ [y]) S2) ∨ (b = false ∧ I (k0 + k + 1) acc S1))) →
    ∃ ys S', lcR chk tg tt fe η0 xs acc S = some (ys, S') ∧ I (k0 + xs.length) ys S'
  | [], k0, acc, S, h, hc, _, _, _ => ⟨acc, S, by unfold lcR; rw [if_pos (hc _ _ _ h)], h⟩
  | x :: xs, k0, acc, S, h, hc, hl, hz, hs => by
    obtain ⟨η1, b, S1, h1, h2, h3⟩ := hs 0 x acc S rfl h
    have hs' : ∀ k y acc S, xs[k]? = some y → I (k0 + 1 + k) acc S → ∃ η1 b S1, tg y η0 = some η1 ∧ tt η1 S = some (b, S1) ∧ ((b = true ∧ ∃ y S2, fe η1 S1 = some (y, S2) ∧ I (k0 + 1 + k + 1) (acc ++ [y]) S2) ∨ (b = false ∧ I (k0 + 1 + k + 1) acc S1)) := fun k y acc S hk hI => by
      have := hs (k + 1) y acc S (by simpa using hk)
      have e : k0 + 1 + k = k0 + (k + 1) := by omega
      rw [e] at hI ⊢
      exact this hI
    have e : k0 + (x :: xs).length = k0 + 1 + xs.length := by simp; omega
    unfold lcR
    rw [if_pos (hc _ _ _ h), h1, e]
    simp only [Option.bind_some, h2]
    rcases h3 with ⟨rfl, y, S2, h4, h5⟩ | ⟨rfl, h5⟩
    · rw [if_pos rfl, h4]
      simp only [Option.bind_some]
      have := hl _ _ _ h
      rw [if_pos (by simp at hz; omega)]
      exact lcR_ind I xs (k0 + 1) (acc ++ [y]) S2 h5 hc hl (by simp at hz; omega) hs'
    · rw [if_neg (by decide)]
      exact lcR_ind I xs (k0 + 1) acc S1 h5 hc hl (by simp at hz; omega) hs'
theorem lc_ind {it : EvI} {vs : List Nat} {tg : Tg} {tt : EvB} {fe : Ev} {η : Env} {S S0 : Sto} {xs : List D} {chk : Sto → Prop} (I : Nat → List D → Sto → Prop) (hi : it η S0 = some (⟨xs, chk⟩, S)) (h0 : I 0 [] S) (hc : ∀ k acc S, I k acc S → chk S) (hl : ∀ k acc S, I k acc S → acc.length ≤ k) (hz : xs.length ≤ SZ)
    (hs : ∀ k x acc S, xs[k]? = some x → I k acc S → ∃ η1 b S1, tg x (wipeE η vs) = some η1 ∧ tt η1 S = some (b, S1) ∧ ((b = true ∧ ∃ y S2, fe η1 S1 = some (y, S2) ∧ I (k + 1) (acc ++ [y]) S2) ∨ (b = false ∧ I (k + 1) acc S1))) :
    ∃ ys S', eLc it vs tg tt fe η S0 = some (.lst ys, S') ∧ I xs.length ys S' := by
  obtain ⟨ys, S', h1, h2⟩ := lcR_ind I xs 0 [] S h0 hc hl (by omega) (fun k x acc S hx hI => by
    rw [Nat.zero_add] at hI ⊢
    exact hs k x acc S hx hI)
  rw [Nat.zero_add] at h2
  exact ⟨ys, S', by unfold eLc; rw [hi]; simp only [Option.bind_some]; rw [h1]; rfl, h2⟩
/-- a comprehension that changes no store -/
theorem lcR_pure {chk : Sto → Prop} {tg : Tg} {tt : EvB} {fe : Ev} {η0 : Env} {α : Type} {g f : α → D} {b : α → Bool} {S : Sto} (hc : chk S) : ∀ (as : List α) (acc : List D), acc.length + as.length ≤ SZ →
    (∀ a ∈ as, ∃ η1, tg (g a) η0 = some η1 ∧ tt η1 S = some (b a, S) ∧ (b a = true → fe η1 S = some (f a, S))) → lcR chk tg tt fe η0 (as.map g) acc S = some (acc ++ (as.filter b).map f, S)
  | [], acc, _, _ => by
    rw [List.map_nil]
    unfold lcR
    rw [if_pos hc]
    simp
  | a :: as, acc, hz, h => by
    obtain ⟨η1, h1, h2, h3⟩ := h a List.mem_cons_self
    rw [List.map_cons]
    unfold lcR
    rw [if_pos hc, h1]
    simp only [Option.bind_some, h2]
    have hr := fun acc hz => lcR_pure (f := f) (b := b) hc as acc hz fun x hx => h x (List.mem_cons_of_mem _ hx)
    by_cases hb : b a = true
    · rw [if_pos hb, h3 hb]
      simp only [Option.bind_some]
      rw [if_pos (by simp at hz; omega), hr _ (by simp at hz ⊢; omega), List.filter_cons_of_pos hb]
      simp
    · rw [if_neg hb, hr _ (by simp at hz ⊢; omega), List.filter_cons_of_neg hb]
theorem lc_pure {it : EvI} {vs : List Nat} {tg : Tg} {tt : EvB} {fe : Ev} {η : Env} {α : Type} {g f : α → D} {b : α → Bool} {S S0 : Sto} {chk : Sto → Prop} {as : List α} (hi : it η S0 = some (⟨as.map g, chk⟩, S)) (hc : chk S) (hz : as.length ≤ SZ)
    (h : ∀ a ∈ as, ∃ η1, tg (g a) (wipeE η vs) = some η1 ∧ tt η1 S = some (b a, S) ∧ (b a = true → fe η1 S = some (f a, S))) : eLc it vs tg tt fe η S0 = some (.lst ((as.filter b).map f), S) := by
  unfold eLc
  rw [hi]
  simp only [Option.bind_some]
  rw [lcR_pure hc as [] (by simpa using hz) h]
  simp
/-- .. without a test -/
theorem lc_all {it : EvI} {vs : List Nat} {tg : Tg} {tt : EvB} {fe : Ev} {η : Env} {α : Type} {g f : α → D} {S S0 : Sto} {chk : Sto → Prop} {as : List α} (hi : it η S0 = some (⟨as.map g, chk⟩, S)) (hc : chk S) (hz : as.length ≤ SZ)
    (h : ∀ a ∈ as, ∃ η1, tg (g a) (wipeE η vs) = some η1 ∧ tt η1 S = some (true, S) ∧ fe η1 S = some (f a, S)) : eLc it vs tg tt fe η S0 = some (.lst (as.map f), S) := by
  rw [lc_pure (f := f) (b := fun _ => true) hi hc hz fun a ha => ?_, List.filter_eq_self.mpr fun _ _ => rfl]
  obtain ⟨η1, h1, h2, h3⟩ := h a ha
  exact ⟨η1, h1, h2, fun _ => h3⟩
end HS
namespace HS
open PySem L2
/-- a text that can be compared and laid -/
abbrev Tx := { x : Str // PyData.strOk x = true }
/-- what stands for data -/
class DV (α : Type) where
  d : α → D
  n : Nat
  py : α → PyData
  hpl : ∀ x, pl n (d x) = true
  hpy : ∀ S x, pyD S (d x) = some (py x)
  lay : ∀ x, (py x).canLay0 = true
  dep : ∀ x, (py x).depth ≤ n
  eqv : ∀ x y, PyData.eqv (py x) (py y) = true ↔ x = y
abbrev dv {α : Type} [DV α] : α → D := DV.d
instance : DV Int := ⟨.int, 0, .int, fun x => by simp [pl], fun S x => by rw [pyD], fun x => by simp [PyData.canLay0], fun x => by simp [PyData.depth], fun x y => by simp [PyData.eqv]⟩
instance : DV Tx := ⟨fun x => .str x.1, 0, fun x => .str x.1, fun x => by simp [pl], fun S x => by rw [pyD], fun x => by simp [PyData.canLay0, x.2], fun x => by simp [PyData.depth], fun x y => by simp [PyData.eqv, Subtype.ext_iff]⟩
theorem pl_up {n m : Nat} {x : D} (h : pl n x = true) (hm : n ≤ m) : pl m x = true := pl_mono hm h
theorem pyAll_map {α : Type} [DV α] {S : Sto} : ∀ xs : List α, pyAll S (xs.map dv) = some (xs.map DV.py)
  | [] => by rw [List.map_nil, List.map_nil, pyAll]
  | x :: xs => by
    rw [List.map_cons, pyAll, DV.hpy, pyAll_map xs]
    rfl
theorem layAll_map {α : Type} [DV α] : ∀ xs : List α, PyData.canLayAll0 (xs.map DV.py) = true
  | [] => by simp [PyData.canLayAll0]
  | x :: xs => by simp [PyData.canLayAll0, DV.lay x, layAll_map xs]
theorem depAll_map {α : Type} [DV α] : ∀ xs : List α, PyData.depthAll (xs.map DV.py) ≤ DV.n α
  | [] => by simp [PyData.depthAll]
  | x :: xs => by
    rw [List.map_cons, PyData.depthAll]
    exact Nat.max_le.mpr ⟨DV.dep x, depAll_map xs⟩
theorem eqvAll_map {α : Type} [DV α] : ∀ xs ys : List α, PyData.eqvAll (xs.map DV.py) (ys.map DV.py) = true ↔ xs = ys
  | [], [] => by simp [PyData.eqvAll]
  | [], y :: ys => by simp [PyData.eqvAll]
  | x :: xs, [] => by simp [PyData.eqvAll]
  | x :: xs, y :: ys => by simp [PyData.eqvAll, DV.eqv, eqvAll_map xs ys]
/-- a tuple of things of one kind -/
instance {α : Type} [DV α] : DV (List α) where
  d xs := .tup (xs.map dv)
  n := DV.n α + 1
  py xs := .tuple (xs.map DV.py)
  hpl xs := by simp [pl, DV.hpl]
  hpy S xs := by rw [pyD, pyAll_map]; rfl
  lay xs := by simp [PyData.canLay0, layAll_map]
  dep xs := by
    rw [PyData.depth]
    exact Nat.succ_le_succ (depAll_map xs)
  eqv xs ys := by simp [PyData.eqv, eqvAll_map]
/-- a pair -/
instance {α β : Type} [DV α] [DV β] : DV (α × β) where
  d p := .tup [dv p.1, dv p.2]
  n := max (DV.n α) (DV.n β) + 1
  py p := .tuple [DV.py p.1, DV.py p.2]
  hpl p := by simp [pl, pl_up (DV.hpl p.1) (Nat.le_max_left _ (DV.n β)), pl_up (DV.hpl p.2) (Nat.le_max_right (DV.n α) _)]
  hpy S p := by
    rw [pyD, pyAll, pyAll, pyAll, DV.hpy, DV.hpy]
    rfl
  lay p := by simp [PyData.canLay0, PyData.canLayAll0, DV.lay p.1, DV.lay p.2]
  dep p := by
    have h1 := DV.dep p.1
    have h2 := DV.dep p.2
    simp only [PyData.depth, PyData.depthAll]
    omega
  eqv p q := by simp [PyData.eqv, PyData.eqvAll, DV.eqv, Prod.ext_iff]
/-- a whole number or a text -/
inductive Val where
  | num (i : Int)
  | txt (x : Tx)
deriving DecidableEq
instance : DV Val where
  d | .num i => .int i
    | .txt x => .str x.1
  n := 0
  py | .num i => .int i
     | .txt x => .str x.1
  hpl x := by cases x <;> simp [pl]
  hpy S x := by cases x <;> simp [pyD]
  lay x := by
    cases x with
    | num i => simp [PyData.canLay0]
    | txt x => simp [PyData.canLay0, x.2]
  dep x := by cases x <;> simp [PyData.depth]
  eqv x y := by cases x <;> cases y <;> simp [PyData.eqv, Subtype.ext_iff]
/-- a list of such -/
def dl {α : Type} [DV α] (xs : List α) : D := .lst (xs.map dv)
section
variable {α : Type} [DV α] {S : Sto} {x y : α} {xs : List α}
theorem pyR_pl {n : Nat} {e : D} (h : pl n e = true) : pyR S e = pyD S e := by
  cases e with
  | ref i => cases n <;> simp [pl] at h
  | _ => rfl
theorem pyR_d : pyR S (dv x) = some (DV.py x) := (pyR_pl (DV.hpl x)).trans (DV.hpy S x)
theorem eqP_d (hn : DV.n α ≤ 60) [DecidableEq α] : eqP S (dv x) (dv y) = some (decide (x = y)) := by
  unfold eqP
  rw [pyR_d, pyR_d]
  simp only [Option.bind_some]
  have h1 : SeqAt.shaped (DV.py x) = true := by
    unfold SeqAt.shaped
    rw [DV.lay, Bool.true_and]
    exact decide_eq_true (Nat.le_trans (DV.dep x) (by omega))
  have h2 : SeqAt.shaped (DV.py y) = true := by
    unfold SeqAt.shaped
    rw [DV.lay, Bool.true_and]
    exact decide_eq_true (Nat.le_trans (DV.dep y) (by omega))
  rw [h1, h2, if_pos (by rfl)]
  congr 1
  rw [Bool.eq_iff_iff, DV.eqv, decide_eq_true_iff]
theorem any_eqv [DecidableEq α] : ((xs.map DV.py).any fun z => PyData.eqv z (DV.py x)) = decide (x ∈ xs) := by
  rw [Bool.eq_iff_iff]
  simp only [List.any_eq_true, List.mem_map, decide_eq_true_eq]
  constructor
  · rintro ⟨_, ⟨a, ha, rfl⟩, e⟩
    rw [DV.eqv] at e
    rw [← e]; exact ha
  · exact fun h => ⟨_, ⟨x, h, rfl⟩, (DV.eqv x x).mpr rfl⟩
theorem inP_t (hn : DV.n α ≤ 60) [DecidableEq α] : inP S (dv x) (dv xs) = some (decide (x ∈ xs)) := by
  unfold inP
  rw [pyR_d, pyR_d]
  simp only [Option.bind_some]
  have h1 : SeqAt.shaped (DV.py x) = true := by
    unfold SeqAt.shaped
    rw [DV.lay, Bool.true_and]
    exact decide_eq_true (Nat.le_trans (DV.dep x) (by omega))
  have h2 : SeqAt.shaped (DV.py xs) = true := by
    unfold SeqAt.shaped
    rw [DV.lay, Bool.true_and]
    exact decide_eq_true (Nat.le_trans (DV.dep xs) (show DV.n α + 1 ≤ 64 by omega))
  show (if (SeqAt.shaped (DV.py x) && SeqAt.shaped (DV.py xs)) = true then some ((xs.map DV.py).any fun z => PyData.eqv z (DV.py x)) else none) = _
  rw [h1, h2, if_pos (by rfl), any_eqv]
theorem inP_l (hn : DV.n α ≤ 60) [DecidableEq α] {e : D} (he : lstOf S e = some (xs.map dv)) : inP S (dv x) e = some (decide (x ∈ xs)) := by
  have hr : pyR S e = some (.list (xs.map DV.py)) := by
    unfold lstOf at he
    cases e with
    | lst ys =>
      cases he
      show (pyAll S (xs.map dv)).map PyData.list = _
      rw [pyAll_map]; rfl
    | ref i =>
      simp only at he
      unfold pyR
      cases h : S[i]? with
      | none => rw [h] at he; cases he
      | some c =>
        rw [h] at he
        cases c with
        | lst ys =>
          cases he
          simp only [h]
          show (pyAll S (xs.map dv)).map PyData.list = _
          rw [pyAll_map]; rfl
        | _ => cases he
    | _ => cases he
  unfold inP
  rw [pyR_d, hr]
  simp only [Option.bind_some]
  have h1 : SeqAt.shaped (DV.py x) = true := by
    unfold SeqAt.shaped
    rw [DV.lay, Bool.true_and]
    exact decide_eq_true (Nat.le_trans (DV.dep x) (by omega))
  have h2 : SeqAt.shaped (.list (xs.map DV.py)) = true := by
    unfold SeqAt.shaped
    rw [show PyData.canLay0 (.list (xs.map DV.py)) = true by simp [PyData.canLay0, layAll_map], Bool.true_and]
    refine decide_eq_true ?_
    rw [PyData.depth]
    have := depAll_map xs
    omega
  rw [h1, h2, if_pos (by rfl), any_eqv]
end
end HS
namespace HS
open PySem L2
section
variable {η η' : Env} {S : Sto} {f g : Ev} {fs : EvA} {tg : EvB} {sv sw : Sv} {i j n : Nat} {x y d e : D} {l xs ys : List D} {b : Bool}
def varK (S : Sto) : Option (Option D) → Option (D × Sto)
  | some (some d) => some (d, S)
  | _ => none
@[simp] theorem varK_ : varK S (some (some d)) = some (d, S) := id rfl
def consK (fs : EvA) (η : Env) : Option (D × Sto) → Option (List D × Sto) := fun o => o.bind fun p => (fs η p.2).bind fun q => some (p.1 :: q.1, q.2)
def consK2 (d : D) : Option (List D × Sto) → Option (List D × Sto) := fun o => o.bind fun q => some (d :: q.1, q.2)
@[simp] theorem consK_ : consK fs η (some (d, S)) = consK2 d (fs η S) := id rfl
@[simp] theorem consK2_ : consK2 d (some (l, S)) = some (d :: l, S) := id rfl
def tupK : Option (List D × Sto) → Option (D × Sto) := fun o => o.bind fun p => some (.tup p.1, p.2)
@[simp] theorem tupK_ : tupK (some (l, S)) = some (.tup l, S) := id rfl
def tupPK : Option (List D × Sto) → Option (D × Sto) := fun o => o.bind fun p => some (.pr p.1, p.2)
@[simp] theorem tupPK_ : tupPK (some (l, S)) = some (.pr l, S) := id rfl
def lstK : Option (List D × Sto) → Option (D × Sto) := fun o => o.bind fun p => some (.lst p.1, p.2)
@[simp] theorem lstK_ : lstK (some (l, S)) = some (.lst l, S) := id rfl
def binK (r : RD) (g : Ev) (η : Env) : Option (D × Sto) → Option (D × Sto) := fun o => o.bind fun p => (g η p.2).bind fun q => r p.1 q.1 q.2
def binK2 (r : RD) (d : D) : Option (D × Sto) → Option (D × Sto) := fun o => o.bind fun q => r d q.1 q.2
@[simp] theorem binK_ {r : RD} : binK r g η (some (d, S)) = binK2 r d (g η S) := id rfl
@[simp] theorem binK2_ {r : RD} : binK2 r d (some (e, S)) = r d e S := id rfl
def bK (r : RDs) : Option (List D × Sto) → Option (D × Sto) := fun o => o.bind fun p => r p.1 p.2
@[simp] theorem bK_ {r : RDs} : bK r (some (l, S)) = r l S := id rfl
def mKc (b : Bool) (r : RM) (d : D) (o : Option (List D × Sto)) : Option (D × Sto) := if b then o.bind fun q => r d q.1 q.2 else none
def mK (T : String) (r : RM) (fs : EvA) (η : Env) : Option (D × Sto) → Option (D × Sto) := fun o => o.bind fun p => mKc (isT T p.2 p.1) r p.1 (fs η p.2)
@[simp] theorem mK_ {T : String} {r : RM} : mK T r fs η (some (d, S)) = mKc (isT T S d) r d (fs η S) := id rfl
@[simp] theorem mKc_ {r : RM} : mKc true r d (some (l, S)) = r d l S := id rfl
def m0c (b : Bool) (o : Option (D × Sto)) : Option (D × Sto) := if b then o else none
def m0K (T : String) (r : RM) : Option (D × Sto) → Option (D × Sto) := fun o => o.bind fun p => m0c (isT T p.2 p.1) (r p.1 [] p.2)
@[simp] theorem m0K_ {T : String} {r : RM} : m0K T r (some (d, S)) = m0c (isT T S d) (r d [] S) := id rfl
@[simp] theorem m0c_ {o : Option (D × Sto)} : m0c true o = o := id rfl
def tbK : Option (D × Sto) → Option (Bool × Sto) := fun o => o.bind fun p => match p.1 with | .bl b => some (b, p.2) | _ => none
@[simp] theorem tbK_ : tbK (some (.bl b, S)) = some (b, S) := id rfl
def andK (tg : EvB) (η : Env) : Option (Bool × Sto) → Option (Bool × Sto) := fun o => o.bind fun p => if p.1 then tg η p.2 else some (false, p.2)
@[simp] theorem andK_t : andK tg η (some (true, S)) = tg η S := id rfl
@[simp] theorem andK_f : andK tg η (some (false, S)) = some (false, S) := id rfl
def orK (tg : EvB) (η : Env) : Option (Bool × Sto) → Option (Bool × Sto) := fun o => o.bind fun p => if p.1 then some (true, p.2) else tg η p.2
@[simp] theorem orK_t : orK tg η (some (true, S)) = some (true, S) := id rfl
@[simp] theorem orK_f : orK tg η (some (false, S)) = tg η S := id rfl
def notK : Option (Bool × Sto) → Option (Bool × Sto) := fun o => o.bind fun p => some (!p.1, p.2)
@[simp] theorem notK_ : notK (some (b, S)) = some (!b, S) := id rfl
def vandK (g : Ev) (η : Env) : Option (D × Sto) → Option (D × Sto) := fun o => o.bind fun p => match p.1 with | .bl true => g η p.2 | .bl false => some (.bl false, p.2) | _ => none
@[simp] theorem vandK_t : vandK g η (some (.bl true, S)) = g η S := id rfl
@[simp] theorem vandK_f : vandK g η (some (.bl false, S)) = some (.bl false, S) := id rfl
def vorK (g : Ev) (η : Env) : Option (D × Sto) → Option (D × Sto) := fun o => o.bind fun p => match p.1 with | .bl false => g η p.2 | .bl true => some (.bl true, p.2) | _ => none
@[simp] theorem vorK_t : vorK g η (some (.bl true, S)) = some (.bl true, S) := id rfl
@[simp] theorem vorK_f : vorK g η (some (.bl false, S)) = g η S := id rfl
def vnotK : Option (D × Sto) → Option (D × Sto) := fun o => o.bind fun p => match p.1 with | .bl b => some (.bl (!b), p.2) | _ => none
@[simp] theorem vnotK_ : vnotK (some (.bl b, S)) = some (.bl (!b), S) := id rfl
def unK (u : Int → Int) : Option (D × Sto) → Option (D × Sto) := fun o => o.bind fun p => match p.1 with | .int i => some (.int (u i), p.2) | _ => none
@[simp] theorem unK_ {u : Int → Int} {a : Int} : unK u (some (.int a, S)) = some (.int (u a), S) := id rfl
def eifK (f g : Ev) (η : Env) : Option (Bool × Sto) → Option (D × Sto) := fun o => o.bind fun p => if p.1 then f η p.2 else g η p.2
@[simp] theorem eifK_t : eifK f g η (some (true, S)) = f η S := id rfl
@[simp] theorem eifK_f : eifK f g η (some (false, S)) = g η S := id rfl
def alK : Option (D × Sto) → Option (D × Sto) := fun o => o.bind fun p => some (.ref p.2.length, p.2 ++ [p.1])
@[simp] theorem alK_ : alK (some (d, S)) = some (.ref S.length, S ++ [d]) := id rfl
def ansK : Option (D × Bool × Sto) → Option (D × Sto) := fun o => o.bind fun r => some (r.1, r.2.2)
@[simp] theorem ansK_ : ansK (some (d, b, S)) = some (d, S) := id rfl
def ansOK : Option (D × Bool × Sto) → Option (D × Sto) := fun o => o.bind fun r => if r.2.1 = true then some (r.1, r.2.2) else none
@[simp] theorem ansOK_ : ansOK (some (d, true, S)) = some (d, S) := id rfl
def callK (c : Cv) (n : Nat) : Option (List D × Sto) → Option (D × Sto) := fun o => o.bind fun p => if p.1.length = n then ansK (c p.1 p.2) else none
@[simp] theorem callK_ {c : Cv} (h : l.length = n) : callK c n (some (l, S)) = ansK (c l S) := if_pos h
def callOK (c : Cv) (n : Nat) : Option (List D × Sto) → Option (D × Sto) := fun o => o.bind fun p => if p.1.length = n then ansOK (c p.1 p.2) else none
@[simp] theorem callOK_ {c : Cv} (h : l.length = n) : callOK c n (some (l, S)) = ansOK (c l S) := if_pos h
def slK3 (S : Sto) : Option D → Option (D × Sto) := fun o => o.bind fun d => some (d, S)
@[simp] theorem slK3_ : slK3 S (some d) = some (d, S) := id rfl
abbrev SlF := Sto → D → Option Int → Option Int → Option D
def slK2 (u : SlF) (d : D) (l : Option Int) : Option (Option Int × Sto) → Option (D × Sto) := fun o => o.bind fun r => slK3 r.2 (u r.2 d l r.1)
@[simp] theorem slK2_ {u : SlF} {lo hi : Option Int} : slK2 u d lo (some (hi, S)) = slK3 S (u S d lo hi) := id rfl
def slK1 (u : SlF) (d : D) (hi : EvO) (η : Env) : Option (Option Int × Sto) → Option (D × Sto) := fun o => o.bind fun q => slK2 u d q.1 (hi η q.2)
@[simp] theorem slK1_ {u : SlF} {lo : Option Int} {hi : EvO} : slK1 u d hi η (some (lo, S)) = slK2 u d lo (hi η S) := id rfl
def slK (u : SlF) (lo hi : EvO) (η : Env) : Option (D × Sto) → Option (D × Sto) := fun o => o.bind fun p => slK1 u p.1 hi η (lo η p.2)
@[simp] theorem slK_ {u : SlF} {lo hi : EvO} : slK u lo hi η (some (d, S)) = slK1 u d hi η (lo η S) := id rfl
def osoK : Option (D × Sto) → Option (Option Int × Sto) := fun o => o.bind fun p => match p.1 with | .int i => some (some i, p.2) | _ => none
@[simp] theorem osoK_ {a : Int} : osoK (some (.int a, S)) = some (some a, S) := id rfl
def seqK (g : Sv) : Option (Fl × Env × Sto) → Option (Fl × Env × Sto) := fun o => o.bind fun p => match p.1 with | .nx => g p.2.1 p.2.2 | _ => some p
@[simp] theorem seqK_n : seqK sv (some (.nx, η, S)) = sv η S := id rfl
@[simp] theorem seqK_r : seqK sv (some (.ret d, η, S)) = some (.ret d, η, S) := id rfl
@[simp] theorem seqK_b : seqK sv (some (.bk, η, S)) = some (.bk, η, S) := id rfl
@[simp] theorem seqK_c : seqK sv (some (.ct, η, S)) = some (.ct, η, S) := id rfl
def retK (η : Env) : Option (D × Sto) → Option (Fl × Env × Sto) := fun o => o.bind fun p => some (.ret p.1, η, p.2)
@[simp] theorem retK_ : retK η (some (d, S)) = some (.ret d, η, S) := id rfl
def expK (η : Env) : Option (D × Sto) → Option (Fl × Env × Sto) := fun o => o.bind fun p => some (.nx, η, p.2)
@[simp] theorem expK_ : expK η (some (d, S)) = some (.nx, η, S) := id rfl
def ifK (sv sw : Sv) (η : Env) : Option (Bool × Sto) → Option (Fl × Env × Sto) := fun o => o.bind fun p => if p.1 then sv η p.2 else sw η p.2
@[simp] theorem ifK_t : ifK sv sw η (some (true, S)) = sv η S := id rfl
@[simp] theorem ifK_f : ifK sv sw η (some (false, S)) = sw η S := id rfl
def setK (i : Nat) (η : Env) : Option (D × Sto) → Option (Fl × Env × Sto) := fun o => o.bind fun p => some (.nx, η.set i (some p.1), p.2)
@[simp] theorem setK_ : setK i η (some (d, S)) = some (.nx, η.set i (some d), S) := id rfl
def asgK1 (S : Sto) : Option Env → Option (Fl × Env × Sto) := fun o => o.bind fun η' => some (.nx, η', S)
@[simp] theorem asgK1_ : asgK1 S (some η) = some (.nx, η, S) := id rfl
def asgK (t : Tg) (η : Env) : Option (D × Sto) → Option (Fl × Env × Sto) := fun o => o.bind fun p => asgK1 p.2 (t p.1 η)
@[simp] theorem asgK_ {t : Tg} : asgK t η (some (d, S)) = asgK1 S (t d η) := id rfl
def setiK3 (η : Env) : Option Sto → Option (Fl × Env × Sto) := fun o => o.bind fun S => some (.nx, η, S)
@[simp] theorem setiK3_ : setiK3 η (some S) = some (.nx, η, S) := id rfl
def setiK2 (v o : D) (η : Env) : Option (D × Sto) → Option (Fl × Env × Sto) := fun k => k.bind fun r => setiK3 η (setIx r.2 o r.1 v)
@[simp] theorem setiK2_ {v o : D} : setiK2 v o η (some (d, S)) = setiK3 η (setIx S o d v) := id rfl
def setiK1 (v : D) (fi : Ev) (η : Env) : Option (D × Sto) → Option (Fl × Env × Sto) := fun k => k.bind fun q => setiK2 v q.1 η (fi η q.2)
@[simp] theorem setiK1_ {v : D} {fi : Ev} : setiK1 v fi η (some (d, S)) = setiK2 v d η (fi η S) := id rfl
def setiK (fo fi : Ev) (η : Env) : Option (D × Sto) → Option (Fl × Env × Sto) := fun k => k.bind fun p => setiK1 p.1 fi η (fo η p.2)
@[simp] theorem setiK_ {fo fi : Ev} : setiK fo fi η (some (d, S)) = setiK1 d fi η (fo η S) := id rfl
def gconsK (u : List D → Env → Option Env) (xs : List D) : Option Env → Option Env := fun o => o.bind fun η' => u xs η'
@[simp] theorem gconsK_ {u : List D → Env → Option Env} : gconsK u xs (some η) = u xs η := id rfl
/-- the sequence still reads as it did -/
def chkS (d : D) (xs : List D) : Sto → Prop := fun S => seqOf S d = some xs
def chkZ (d e : D) (xs ys : List D) : Sto → Prop := fun S => seqOf S d = some xs ∧ seqOf S e = some ys
def chkT : Sto → Prop := fun _ => True
def ieK1 (d : D) (S : Sto) : Option (List D) → Option (Iter × Sto) := fun o => o.bind fun xs => some (⟨xs, chkS d xs⟩, S)
@[simp] theorem ieK1_ : ieK1 d S (some xs) = some (⟨xs, chkS d xs⟩, S) := id rfl
def ieK : Option (D × Sto) → Option (Iter × Sto) := fun o => o.bind fun p => ieK1 p.1 p.2 (seqOf p.2 p.1)
@[simp] theorem ieK_ : ieK (some (d, S)) = ieK1 d S (seqOf S d) := id rfl
def ir1K : Option (List D × Sto) → Option (Iter × Sto) := fun o => o.bind fun q => match q.1 with | [.int j] => if -(2 ^ 62) ≤ j ∧ j < 2 ^ 62 then some (⟨rangeD 0 j.toNat, chkT⟩, q.2) else none | _ => none
theorem ir1K_ {a : Int} (h : -4000000000000000000 ≤ a ∧ a < 4000000000000000000) : ir1K (some ([.int a], S)) = some (⟨rangeD 0 a.toNat, chkT⟩, S) := if_pos (by omega)
@[simp] theorem ir1K_n {n : Nat} (h : n ≤ SZ) : ir1K (some ([.int (n : Int)], S)) = some (⟨rangeD 0 n, chkT⟩, S) := by
  have hz : (SZ : Nat) = 100000 := rfl
  rw [ir1K_ (by omega), Int.toNat_natCast]
def ir2K : Option (List D × Sto) → Option (Iter × Sto) := fun o => o.bind fun q => match q.1 with | [.int i, .int j] => if -(2 ^ 62) ≤ i ∧ i < 2 ^ 62 ∧ -(2 ^ 62) ≤ j ∧ j < 2 ^ 62 then some (⟨rangeD i (j - i).toNat, chkT⟩, q.2) else none | _ => none
theorem ir2K_ {a c : Int} (h : -4000000000000000000 ≤ a ∧ a < 4000000000000000000 ∧ -4000000000000000000 ≤ c ∧ c < 4000000000000000000) : ir2K (some ([.int a, .int c], S)) = some (⟨rangeD a (c - a).toNat, chkT⟩, S) := if_pos (by omega)
def izK2 (a b : D) (S : Sto) (xs : List D) : Option (List D) → Option (Iter × Sto) := fun o => o.bind fun ys => some (⟨zipD xs ys, chkZ a b xs ys⟩, S)
@[simp] theorem izK2_ : izK2 d e S xs (some ys) = some (⟨zipD xs ys, chkZ d e xs ys⟩, S) := id rfl
def izK1 (a b : D) (S : Sto) : Option (List D) → Option (Iter × Sto) := fun o => o.bind fun xs => izK2 a b S xs (seqOf S b)
@[simp] theorem izK1_ : izK1 d e S (some xs) = izK2 d e S xs (seqOf S e) := id rfl
def izK : Option (List D × Sto) → Option (Iter × Sto) := fun o => o.bind fun q => match q.1 with | [a, b] => if isTup a = isTup b then izK1 a b q.2 (seqOf q.2 a) else none | _ => none
@[simp] theorem izK_ (h : isTup d = isTup e) : izK (some ([d, e], S)) = izK1 d e S (seqOf S d) := if_pos h
noncomputable def endK (A : Sto) : Option (Fl × Env × Sto) → Option (D × Bool × Sto) := fun o => o.bind fun r => match r.1 with | .ret d => endF A r.2.2 d | .nx => endF A r.2.2 .non | _ => none
@[simp] theorem endK_r {A : Sto} : endK A (some (.ret d, η, S)) = endF A S d := id rfl
@[simp] theorem endK_n {A : Sto} : endK A (some (.nx, η, S)) = endF A S .non := id rfl
def lK : Option D → Option (List D)
  | some (.lst xs) => some xs
  | _ => none
@[simp] theorem lK_ : lK (some (.lst xs)) = some xs := id rfl
def stK (i : Nat) : Option D → Option (Nat × List D)
  | some (.lst xs) => some (i, xs)
  | _ => none
@[simp] theorem stK_ : stK i (some (.lst xs)) = some (i, xs) := id rfl
def appK (x : D) (S : Sto) : Option (Nat × List D) → Option (D × Sto) := fun o => o.bind fun q => if q.2.length < SZ then some (.non, S.set q.1 (.lst (q.2 ++ [x]))) else none
@[simp] theorem appK_ (h : xs.length < SZ) : appK x S (some (i, xs)) = some (.non, S.set i (.lst (xs ++ [x]))) := if_pos h
def popK1 (S : Sto) (i : Nat) (xs : List D) : Option D → Option (D × Sto) := fun o => o.bind fun y => some (y, S.set i (.lst xs.dropLast))
@[simp] theorem popK1_ : popK1 S i xs (some y) = some (y, S.set i (.lst xs.dropLast)) := id rfl
def popK (S : Sto) : Option (Nat × List D) → Option (D × Sto) := fun o => o.bind fun q => popK1 S q.1 q.2 q.2[q.2.length - 1]?
@[simp] theorem popK_ : popK S (some (i, xs)) = popK1 S i xs xs[xs.length - 1]? := id rfl
def paK (S : Sto) (k : Int) : Option (Nat × List D) → Option (D × Sto) := fun o => o.bind fun q => if -(2 ^ 63) ≤ k ∧ k < 2 ^ 63 then (seqIndex? k q.2.length).bind fun j => (q.2[j]?).bind fun y => some (y, S.set q.1 (.lst (q.2.eraseIdx j))) else none
theorem paK_ {k : Nat} (h : xs[k]? = some y) (hk : k ≤ SZ) : paK S (k : Int) (some (i, xs)) = some (y, S.set i (.lst (xs.eraseIdx k))) := by
  have hz : (SZ : Nat) = 100000 := rfl
  have hl := (List.getElem?_eq_some_iff.mp h).1
  have hx : seqIndex? (k : Int) xs.length = some k := (ixN_seq (by unfold ixN; rw [if_pos (by omega), if_pos (by omega), Int.toNat_natCast])).1
  have hc : -(2 ^ 63) ≤ (k : Int) ∧ (k : Int) < 2 ^ 63 := by omega
  unfold paK
  rw [Option.bind_some, if_pos hc, hx, Option.bind_some, h, Option.bind_some]
def revK (S : Sto) : Option (Nat × List D) → Option (D × Sto) := fun o => o.bind fun q => some (.non, S.set q.1 (.lst q.2.reverse))
@[simp] theorem revK_ : revK S (some (i, xs)) = some (.non, S.set i (.lst xs.reverse)) := id rfl
def sixK1 (S : Sto) (i : Nat) (xs : List D) (x : D) : Option Nat → Option Sto := fun o => o.bind fun j => some (S.set i (.lst (xs.set j x)))
@[simp] theorem sixK1_ : sixK1 S i xs x (some j) = some (S.set i (.lst (xs.set j x))) := id rfl
def sixK (S : Sto) (n : Int) (x : D) : Option (Nat × List D) → Option Sto := fun o => o.bind fun q => sixK1 S q.1 q.2 x (ixN q.2.length n)
@[simp] theorem sixK_ {n : Int} : sixK S n x (some (i, xs)) = sixK1 S i xs x (ixN xs.length n) := id rfl
def ixK1 (S : Sto) : Option D → Option (D × Sto) := fun o => o.bind fun d => some (d, S)
@[simp] theorem ixK1_ : ixK1 S (some d) = some (d, S) := id rfl
def ixK (S : Sto) (a : Int) : Option (List D) → Option (D × Sto) := fun o => o.bind fun xs => ixK1 S (atI xs a)
@[simp] theorem ixK_ {a : Int} : ixK S a (some xs) = ixK1 S (atI xs a) := id rfl
def lenK (S : Sto) : Option (List D) → Option (D × Sto) := fun o => o.bind fun xs => some (.int xs.length, S)
@[simp] theorem lenK_ : lenK S (some xs) = some (.int xs.length, S) := id rfl
def listK (S : Sto) : Option (List D) → Option (D × Sto) := fun o => o.bind fun xs => some (.lst xs, S)
@[simp] theorem listK_ : listK S (some xs) = some (.lst xs, S) := id rfl
def tuplK (S : Sto) : Option (List D) → Option (D × Sto) := fun o => o.bind fun xs => some (.tup xs, S)
@[simp] theorem tuplK_ : tuplK S (some xs) = some (.tup xs, S) := id rfl
end
section
variable {η : Env} {S A E : Sto} {f g h : Ev} {fs : EvA} {tf tg tc : EvB} {sv sw : Sv} {i j k : Nat} {x y e : D} {xs ys : List D} {ds es : List Int}
@[simp] theorem q_var : eVar i η S = varK S η[i]? := by
  unfold eVar varK
  exact id rfl
@[simp] theorem q_c : eC x η S = some (x, S) := id rfl
@[simp] theorem q_anil : aNil η S = some ([], S) := id rfl
@[simp] theorem q_acons : aCons f fs η S = consK fs η (f η S) := id rfl
@[simp] theorem q_tup : eTup fs η S = tupK (fs η S) := id rfl
@[simp] theorem q_tupP : eTupP fs η S = tupPK (fs η S) := id rfl
@[simp] theorem q_lst : eLst fs η S = lstK (fs η S) := id rfl
@[simp] theorem q_bin {r : RD} : eBin r f g η S = binK r g η (f η S) := id rfl
@[simp] theorem q_b {r : RDs} : eB r fs η S = bK r (fs η S) := id rfl
@[simp] theorem q_m {T : String} {r : RM} : eM T r f fs η S = mK T r fs η (f η S) := id rfl
@[simp] theorem q_m0 {T : String} {r : RM} : eM0 T r f η S = m0K T r (f η S) := id rfl
@[simp] theorem q_tb : tB f η S = tbK (f η S) := id rfl
@[simp] theorem q_tand : tAndE tf tg η S = andK tg η (tf η S) := id rfl
@[simp] theorem q_tor : tOrE tf tg η S = orK tg η (tf η S) := id rfl
@[simp] theorem q_tnot : tNotE tf η S = notK (tf η S) := id rfl
@[simp] theorem q_yes : tYesE η S = some (true, S) := id rfl
@[simp] theorem q_and : eAnd f g η S = vandK g η (f η S) := id rfl
@[simp] theorem q_or : eOr f g η S = vorK g η (f η S) := id rfl
@[simp] theorem q_not : eNot f η S = vnotK (f η S) := id rfl
@[simp] theorem q_un {u : Int → Int} : eUn u f η S = unK u (f η S) := id rfl
@[simp] theorem q_eif : eIf tc f g η S = eifK f g η (tc η S) := id rfl
@[simp] theorem q_al : eAl f η S = alK (f η S) := id rfl
@[simp] theorem q_call {c : Cv} {n : Nat} : eCall c n fs η S = callK c n (fs η S) := id rfl
@[simp] theorem q_callO {c : Cv} {n : Nat} : eCallO c n fs η S = callOK c n (fs η S) := id rfl
@[simp] theorem q_sl {u : SlF} {lo hi : EvO} : eSl u f lo hi η S = slK u lo hi η (f η S) := id rfl
@[simp] theorem q_ono : oNo η S = some (none, S) := id rfl
@[simp] theorem q_oso : oSo f η S = osoK (f η S) := id rfl
@[simp] theorem q_snil : sNil η S = some (.nx, η, S) := id rfl
@[simp] theorem q_seq : sSeq sv sw η S = seqK sw (sv η S) := id rfl
@[simp] theorem q_ret : sRet f η S = retK η (f η S) := id rfl
@[simp] theorem q_retn : sRetN η S = some (.ret .non, η, S) := id rfl
@[simp] theorem q_bk : sBk η S = some (.bk, η, S) := id rfl
@[simp] theorem q_ct : sCt η S = some (.ct, η, S) := id rfl
@[simp] theorem q_exp : sExp f η S = expK η (f η S) := id rfl
@[simp] theorem q_if : sIf tc sv sw η S = ifK sv sw η (tc η S) := id rfl
@[simp] theorem q_set : sSet i f η S = setK i η (f η S) := id rfl
@[simp] theorem q_asg {t : Tg} : sAsg t f η S = asgK t η (f η S) := id rfl
@[simp] theorem q_seti {fo fi fv : Ev} : sSetI fo fi fv η S = setiK fo fi η (fv η S) := id rfl
@[simp] theorem q_gn : gN i x η = some (η.set i (some x)) := id rfl
@[simp] theorem q_gnil : HS.gNil [] η = some η := id rfl
@[simp] theorem q_gcons {t : Tg} {u : List D → Env → Option Env} : HS.gCons t u (x :: xs) η = gconsK u xs (t x η) := id rfl
@[simp] theorem q_gt {n : Nat} {u : List D → Env → Option Env} (h : xs.length = n) : gT n u (.tup xs) η = u xs η := if_pos h
@[simp] theorem q_gtp {n : Nat} {u : List D → Env → Option Env} (h : xs.length = n) : gT n u (.pr xs) η = u xs η := if_pos h
@[simp] theorem q_ie : iE f η S = ieK (f η S) := id rfl
@[simp] theorem q_ir1 : iRange1 fs η S = ir1K (fs η S) := id rfl
@[simp] theorem q_ir2 : iRange2 fs η S = ir2K (fs η S) := id rfl
@[simp] theorem q_izip : iZip fs η S = izK (fs η S) := id rfl
@[simp] theorem q_wipe0 : wipeE η [] = η := id rfl
@[simp] theorem q_wipe {l : List Nat} : wipeE η (i :: l) = (wipeE η l).set i none := id rfl
theorem q_calls {n : Nat} {c : Sv} {l : List D} : callOf n c l S = endK S (c (l.map some ++ List.replicate (n - l.length) none) S) := rfl
@[simp] theorem q_lo1 : lstOf S (.lst xs) = some xs := id rfl
@[simp] theorem q_lo2 : lstOf S (.ref i) = lK S[i]? := id rfl
@[simp] theorem q_so1 : seqOf S (.tup xs) = some xs := id rfl
@[simp] theorem q_so2 : seqOf S (.lst xs) = some xs := id rfl
@[simp] theorem q_so3 : seqOf S (.ref i) = lK S[i]? := id rfl
@[simp] theorem q_so4 : seqOf S (.scr xs) = some xs := id rfl
@[simp] theorem q_sl2 : stL S (.ref i) = stK i S[i]? := id rfl
@[simp] theorem q_it1 : isT "list" S (.ref i) = (lK S[i]?).isSome := by simp [isT]
@[simp] theorem q_it2 : isT "list" S (.lst xs) = true := by simp [isT]
@[simp] theorem q_it3 {z : Str} : isT "str" S (.str z) = true := by simp [isT]
section
variable {a b : Int} {z u : Str}
@[simp] theorem q_sub : oSub (.int a) (.int b) S = some (.int (a - b), S) := id rfl
@[simp] theorem q_add : oAdd (.int a) (.int b) S = some (.int (a + b), S) := id rfl
@[simp] theorem q_mod (h : 0 < b) : oMod (.int a) (.int b) S = some (.int (a % b), S) := by
  show (modI a b).bind _ = _
  unfold modI
  rw [if_pos h]; rfl
@[simp] theorem q_fdiv (h : 0 < b) (h2 : b < 1073741824) : oFdiv (.int a) (.int b) S = some (.int (a / b), S) := by
  show (fdivI a b).bind _ = _
  unfold fdivI
  rw [if_pos ⟨h, .inl h2⟩]; rfl
theorem q_mul (h : smallI a = true ∨ smallI b = true) : oMul (.int a) (.int b) S = some (.int (a * b), S) := by
  show (mulI a b).bind _ = _
  unfold mulI
  rw [if_pos (by rcases h with h | h <;> simp [h])]
  rfl
theorem q_pow (h : 0 ≤ b ∧ b ≤ 1000000 ∧ a.natAbs < 2 ^ 64) : oPow (.int a) (.int b) S = some (.int (a ^ b.toNat), S) := by
  show (powI a b).bind _ = _
  unfold powI
  rw [if_pos h]
  rfl
@[simp] theorem q_lt : oLt (.int a) (.int b) S = some (.bl (decide (a < b)), S) := id rfl
@[simp] theorem q_le : oLe (.int a) (.int b) S = some (.bl (decide (a ≤ b)), S) := id rfl
@[simp] theorem q_gt2 : oGt (.int a) (.int b) S = some (.bl (decide (b < a)), S) := id rfl
@[simp] theorem q_ge : oGe (.int a) (.int b) S = some (.bl (decide (b ≤ a)), S) := id rfl
@[simp] theorem q_eqi : oEq (.int a) (.int b) S = some (.bl (decide (a = b)), S) := by
  show (eqP S (dv a) (dv b)).bind _ = _
  rw [eqP_d (by decide)]; rfl
@[simp] theorem q_nei : oNe (.int a) (.int b) S = some (.bl (!decide (a = b)), S) := by
  show (eqP S (dv a) (dv b)).bind _ = _
  rw [eqP_d (by decide)]; rfl
theorem q_eq {α : Type} [DV α] [DecidableEq α] (x y : α) (hn : DV.n α ≤ 60) : oEq (dv x) (dv y) S = some (.bl (decide (x = y)), S) := by
  show (eqP S (dv x) (dv y)).bind _ = _
  rw [eqP_d hn]; rfl
theorem q_ne {α : Type} [DV α] [DecidableEq α] (x y : α) (hn : DV.n α ≤ 60) : oNe (dv x) (dv y) S = some (.bl (!decide (x = y)), S) := by
  show (eqP S (dv x) (dv y)).bind _ = _
  rw [eqP_d hn]; rfl
theorem q_int {α : Type} [DV α] [DecidableEq α] (x : α) (xs : List α) (hn : DV.n α ≤ 60) : oIn (dv x) (dv xs) S = some (.bl (decide (x ∈ xs)), S) := by
  show (inP S (dv x) (dv xs)).bind _ = _
  rw [inP_t hn]; rfl
theorem q_nint {α : Type} [DV α] [DecidableEq α] (x : α) (xs : List α) (hn : DV.n α ≤ 60) : oNotIn (dv x) (dv xs) S = some (.bl (!decide (x ∈ xs)), S) := by
  show (inP S (dv x) (dv xs)).bind _ = _
  rw [inP_t hn]; rfl
theorem q_inl {α : Type} [DV α] [DecidableEq α] (x : α) {e : D} (xs : List α) (hn : DV.n α ≤ 60) (he : lstOf S e = some (xs.map dv)) : oIn (dv x) e S = some (.bl (decide (x ∈ xs)), S) := by
  show (inP S (dv x) e).bind _ = _
  rw [inP_l hn he]; rfl
theorem q_ninl {α : Type} [DV α] [DecidableEq α] (x : α) {e : D} (xs : List α) (hn : DV.n α ≤ 60) (he : lstOf S e = some (xs.map dv)) : oNotIn (dv x) e S = some (.bl (!decide (x ∈ xs)), S) := by
  show (inP S (dv x) e).bind _ = _
  rw [inP_l hn he]; rfl
@[simp] theorem q_is : oIs x .non S = some (.bl (isNon x), S) := id rfl
@[simp] theorem q_isn : oIsNot x .non S = some (.bl (!isNon x), S) := id rfl
@[simp] theorem q_ixt : oIx (.tup xs) (.int a) S = ixK1 S (atI xs a) := id rfl
@[simp] theorem q_ixl : oIx (.lst xs) (.int a) S = ixK1 S (atI xs a) := id rfl
@[simp] theorem q_ixs : oIx (.scr xs) (.int a) S = ixK1 S (atI xs a) := id rfl
@[simp] theorem q_ixr : oIx (.ref i) (.int a) S = ixK S a (lK S[i]?) := id rfl
@[simp] theorem q_addt (h : xs.length + ys.length ≤ SZ) : oAdd (.tup xs) (.tup ys) S = some (.tup (xs ++ ys), S) := if_pos h
@[simp] theorem q_addl (h : xs.length + ys.length ≤ SZ) : oAdd (.lst xs) (.lst ys) S = some (.lst (xs ++ ys), S) := by
  show ((lstOf S (.lst xs)).bind fun xs => (lstOf S (.lst ys)).bind fun ys => if xs.length + ys.length ≤ SZ then some (xs ++ ys) else none).bind _ = _
  simp only [q_lo1, Option.bind_some]
  rw [if_pos h]; rfl
end
@[simp] theorem q_lent : bLen [.tup xs] S = some (.int xs.length, S) := id rfl
@[simp] theorem q_lenl : bLen [.lst xs] S = some (.int xs.length, S) := id rfl
@[simp] theorem q_lens : bLen [.scr xs] S = some (.int xs.length, S) := id rfl
@[simp] theorem q_lenr : bLen [.ref i] S = lenK S (lK S[i]?) := id rfl
@[simp] theorem q_lenx {z : Str} (h : z.length ≤ SZ) : bLen [.str z] S = some (.int z.length, S) := if_pos h
@[simp] theorem q_inti {a : Int} : bInt [.int a] S = some (.int a, S) := id rfl
@[simp] theorem q_intb {b : Bool} : bInt [.bl b] S = some (.int (if b then 1 else 0), S) := id rfl
@[simp] theorem q_list : bList [x] S = listK S (seqOf S x) := id rfl
@[simp] theorem q_tupt : bTuple [.tup xs] S = some (.tup xs, S) := id rfl
@[simp] theorem q_tupl : bTuple [.lst xs] S = some (.tup xs, S) := id rfl
@[simp] theorem q_tupr : bTuple [.ref i] S = tuplK S (lK S[i]?) := id rfl
@[simp] theorem q_app {a : D} : mAppend a [x] S = appK x S (stL S a) := id rfl
@[simp] theorem q_pop {a : D} : mPop a [] S = popK S (stL S a) := id rfl
@[simp] theorem q_popat {a : D} {n : Int} : mPopAt a [.int n] S = paK S n (stL S a) := id rfl
@[simp] theorem q_rev {a : D} : mReverse a [] S = revK S (stL S a) := id rfl
@[simp] theorem q_six {a : D} {n : Int} : setIx S a (.int n) x = sixK S n x (stL S a) := id rfl
@[simp high] theorem w_E0 : (W A i ds (x :: E))[A.length]? = some x := W_E (j := 0)
@[simp high] theorem w_E1 : (W A i ds (x :: y :: E))[A.length + 1]? = some y := W_E (j := 1)
@[simp high] theorem w_E2 {z : D} : (W A i ds (x :: y :: z :: E))[A.length + 2]? = some z := W_E (j := 2)
@[simp high] theorem w_s0 {e : D} : (W A i ds (x :: E)).set A.length e = W A i ds (e :: E) := W_sE (j := 0)
@[simp high] theorem w_s1 {e : D} : (W A i ds (x :: y :: E)).set (A.length + 1) e = W A i ds (x :: e :: E) := W_sE (j := 1)
@[simp high] theorem w_s2 {z e : D} : (W A i ds (x :: y :: z :: E)).set (A.length + 2) e = W A i ds (x :: y :: e :: E) := W_sE (j := 2)
@[simp high] theorem v_E0 : (V A (x :: E))[A.length]? = some x := V_E (j := 0)
@[simp high] theorem v_E1 : (V A (x :: y :: E))[A.length + 1]? = some y := V_E (j := 1)
@[simp high] theorem v_s0 {e : D} : (V A (x :: E)).set A.length e = V A (e :: E) := V_sE (j := 0)
@[simp high] theorem v_s1 {e : D} : (V A (x :: y :: E)).set (A.length + 1) e = V A (x :: e :: E) := V_sE (j := 1)
end
end HS
namespace HS
open PySem L2
section
variable {η : Env} {S A E : Sto} {f g h : Ev} {fs : EvA} {x y e : D} {xs ys : List D}
theorem end_len {S S' : Sto} {d : D} (h : S'.length = S.length) : endF S S' d = some (d, false, S') := by
  unfold endF
  rw [if_pos h]
@[simp] theorem end_self {S : Sto} {d : D} : endF S S d = some (d, false, S) := end_len rfl
theorem atIn {α : Type} {xs : List α} {k : Nat} {x : α} (h : xs[k]? = some x) : atI xs (k : Int) = some x := by
  have hk := (List.getElem?_eq_some_iff.mp h).1
  unfold atI ixN
  rw [if_pos (by omega), if_pos (by omega)]
  simpa using h
@[simp] theorem atI_0 {α : Type} {xs : List α} {x : α} : atI (x :: xs) 0 = some x := atIn (k := 0) rfl
@[simp] theorem atI_1 {α : Type} {xs : List α} {x y : α} : atI (x :: y :: xs) 1 = some y := atIn (k := 1) rfl
@[simp] theorem atI_2 {α : Type} {xs : List α} {x y z : α} : atI (x :: y :: z :: xs) 2 = some z := atIn (k := 2) rfl
theorem atI_last {α : Type} {xs : List α} {x : α} : atI (xs ++ [x]) (-1) = some x := by
  unfold atI ixN
  rw [if_neg (by omega), if_pos (by simp; omega)]
  have : ((-1 : Int) + ((xs ++ [x]).length : Int)).toNat = xs.length := by simp; omega
  simp only [Option.bind_some, this]
  simp
section
variable {c : String}
theorem q_isi {t : String} {b : Bool} (h1 : tyN S x = some t) (h2 : subT t c = some b) : bIsi [x, .ty c] S = some (.bl b, S) := by
  unfold bIsi
  simp only [h1, h2, Option.bind_some]
theorem q_isis {t : String} {b : Bool} {cs : List D} {ns : List String} (h1 : tyN S x = some t) (h3 : tysOf cs = some ns) (h2 : subTs t ns = some b) : bIsi [x, .pr cs] S = some (.bl b, S) := by
  unfold bIsi
  simp only [h1, h2, h3, Option.bind_some]
end
def isL : D → Bool
  | .tup _ => true
  | .lst _ => true
  | _ => false
/-- what can be compared by parts -/
def sm : Nat → D → Bool
  | _, .non => true
  | _, .bl _ => true
  | _, .int _ => true
  | _, .str x => PyData.strOk x
  | n + 1, .tup xs => decide (xs.length ≤ SZ) && xs.all (sm n)
  | n + 1, .lst xs => decide (xs.length ≤ SZ) && xs.all (sm n)
  | _, _ => false
theorem eq_self_atom {S : Sto} {n : Nat} {x : D} (h : sm n x = true) (hx : isL x = false) : oEq x x S = some (.bl true, S) := by
  show (eqP S x x).bind _ = _
  unfold eqP
  cases x with
  | non => simp [pyR, pyD, SeqAt.shaped, PyData.canLay0, PyData.depth, PyData.eqv]
  | bl b => simp [pyR, pyD, SeqAt.shaped, PyData.canLay0, PyData.depth, PyData.eqv]
  | int i => simp [pyR, pyD, SeqAt.shaped, PyData.canLay0, PyData.depth, PyData.eqv]
  | str z =>
    have hz : PyData.strOk z = true := by cases n <;> simpa [sm] using h
    simp [pyR, pyD, SeqAt.shaped, PyData.canLay0, PyData.depth, PyData.eqv, hz]
  | tup _ => cases hx
  | lst _ => cases hx
  | _ => cases n <;> simp [sm] at h
theorem ne_bl {S : Sto} {a b : Bool} : oNe (.bl a) (.bl b) S = some (.bl (!decide (a = b)), S) := by
  show (eqP S (.bl a) (.bl b)).bind _ = _
  unfold eqP
  cases a <;> cases b <;> simp [pyR, pyD, SeqAt.shaped, PyData.canLay0, PyData.depth, PyData.eqv]
/-- False not in [True, True, ..] -/
theorem nin_bls {S : Sto} {bs : List Bool} (h : ∀ b ∈ bs, b = true) : oNotIn (.bl false) (.lst (bs.map D.bl)) S = some (.bl true, S) := by
  have hp : ∀ l : List Bool, pyAll S (l.map D.bl) = some (l.map PyData.bool) := fun l => by
    induction l with
    | nil => rfl
    | cons b l ih => rw [List.map_cons, pyAll, ih]; rfl
  have hl : ∀ l : List Bool, PyData.canLayAll0 (l.map PyData.bool) = true := fun l => by
    induction l with
    | nil => rfl
    | cons b l ih => simp [PyData.canLayAll0, PyData.canLay0, ih]
  have hd : ∀ l : List Bool, PyData.depthAll (l.map PyData.bool) = 0 := fun l => by
    induction l with
    | nil => rfl
    | cons b l ih => rw [List.map_cons, PyData.depthAll, ih]; rfl
  have e1 : pyR S (.lst (bs.map D.bl)) = some (.list (bs.map PyData.bool)) := by
    show (pyAll S (bs.map D.bl)).map PyData.list = _
    rw [hp]; rfl
  have e2 : pyR S (.bl false) = some (.bool false) := rfl
  show (inP S (.bl false) (.lst (bs.map D.bl))).bind _ = _
  unfold inP
  rw [e1, e2]
  simp only [Option.bind_some]
  have s1 : SeqAt.shaped (.bool false) = true := by rfl
  have s2 : SeqAt.shaped (.list (bs.map PyData.bool)) = true := by
    unfold SeqAt.shaped
    rw [PyData.canLay0, hl, PyData.depth, hd]
    rfl
  rw [s1, s2, if_pos (by rfl)]
  have : ((bs.map PyData.bool).any fun z => PyData.eqv z (.bool false)) = false := by
    rw [List.any_eq_false]
    intro z hz
    obtain ⟨b, hb, rfl⟩ := List.mem_map.mp hz
    rw [h b hb]
    simp [PyData.eqv]
  rw [this]; rfl
end
end HS
namespace HS
open PySem L2
section
variable {A E : Sto} {i : Nat} {ds : List Int} {η : Env} {S0 : Sto} {xs : List D} {chk : Sto → Prop} {it : EvI} {vs : List Nat} {tg : Tg} {tt : EvB} {fe : Ev}
@[simp high] theorem v_E2 {x y z : D} {E : Sto} : (V A (x :: y :: z :: E))[A.length + 2]? = some z := V_E (j := 2)
@[simp high] theorem v_s2 {x y z e : D} {E : Sto} : (V A (x :: y :: z :: E)).set (A.length + 2) e = V A (x :: y :: e :: E) := V_sE (j := 2)
theorem callsV {n : Nat} {c : Sv} {l : List D} : callOf n c l A = endK A (c (l.map some ++ List.replicate (n - l.length) none) (V A [])) := by
  rw [V_out]; exact id rfl
theorem callsW {n : Nat} {c : Sv} {l : List D} (h : A[i]? = some (IL ds)) : callOf n c l A = endK A (c (l.map some ++ List.replicate (n - l.length) none) (W A i ds [])) := by
  rw [← W_in h]; exact id rfl
/-- a comprehension that draws: typed things -/
theorem lc_T {α : Type} [DV α] (Q : α → Prop) (hi : it η S0 = some (⟨xs, chk⟩, W A i ds E)) (hc : ∀ ds, chk (W A i ds E)) (hz : xs.length ≤ SZ)
    (hs : ∀ x ∈ xs, ∀ ds, ∃ η1, tg x (wipeE η vs) = some η1 ∧ tt η1 (W A i ds E) = some (true, W A i ds E) ∧ ∃ (a : α) (ds' : List Int), fe η1 (W A i ds E) = some (dv a, W A i ds' E) ∧ Q a) :
    ∃ (as : List α) (ds' : List Int), eLc it vs tg tt fe η S0 = some (.lst (as.map dv), W A i ds' E) ∧ as.length = xs.length ∧ ∀ a ∈ as, Q a := by
  obtain ⟨ys, S', h, as, ds', rfl, rfl, h3, h4⟩ := lc_ind (I := fun k acc S => ∃ (as : List α) (ds : List Int), S = W A i ds E ∧ acc = as.map dv ∧ as.length = k ∧ ∀ a ∈ as, Q a) hi ⟨[], ds, rfl, rfl, rfl, by simp⟩
    (fun k acc S ⟨as, ds, h, _⟩ => h ▸ hc ds) (fun k acc S ⟨as, ds, _, h, h2, _⟩ => by rw [h]; simp [h2]) hz (fun k x acc S hx ⟨as, ds, h1, h2, h3, h4⟩ => by
      subst h1 h2
      obtain ⟨η1, h5, h6, a, ds', h7, h8⟩ := hs x (List.mem_of_getElem? hx) ds
      refine ⟨η1, true, _, h5, h6, .inl ⟨rfl, dv a, _, h7, as ++ [a], ds', rfl, by simp, by simp [h3], fun b hb => ?_⟩⟩
      rcases List.mem_append.mp hb with hb | hb
      · exact h4 b hb
      · have : b = a := by simpa using hb
        subst this; exact h8)
  exact ⟨as, ds', h, h3, h4⟩
@[simp] theorem rangeD_len {lo : Int} {n : Nat} : (rangeD lo n).length = n := by simp [rangeD]
theorem rangeD_mem {n : Nat} {x : D} (h : x ∈ rangeD 0 n) : ∃ k : Nat, k < n ∧ x = .int k := by
  unfold rangeD at h
  obtain ⟨k, hk, rfl⟩ := List.mem_map.mp h
  exact ⟨k, by simpa using hk, by simp⟩
theorem rangeD_get {n k : Nat} {x : D} (h : (rangeD 0 n)[k]? = some x) : k < n ∧ x = .int k := by
  unfold rangeD at h
  rw [List.getElem?_map] at h
  obtain ⟨j, h1, h2⟩ := Option.map_eq_some_iff.mp h
  have hk := (List.getElem?_eq_some_iff.mp h1)
  obtain ⟨h3, h4⟩ := hk
  simp at h3 h4
  subst h4
  exact ⟨h3, by rw [← h2]; simp⟩
@[simp] theorem chkT_ {S : Sto} : chkT S := trivial
@[simp] theorem chkS_t {S : Sto} {l : List D} : chkS (.tup l) l S := id rfl
@[simp] theorem chkS_l {S : Sto} {l : List D} : chkS (.lst l) l S := id rfl
@[simp] theorem chkS_s {S : Sto} {l : List D} : chkS (.scr l) l S := id rfl
end
end HS
namespace HS
open PySem L2
section
variable {α : Type} [DV α] {c : Cv} {kD : α → D} {kp : α → PyData} {S : Sto} {e : D} {xs : List α}
theorem kdR_map (hc : ∀ x ∈ xs, ∃ o, c [dv x] S = some (kD x, o, S)) : kdR c (xs.map dv) S = some (xs.map kD, S) := by
  induction xs with
  | nil => rfl
  | cons x xs ih =>
    obtain ⟨o, h⟩ := hc x List.mem_cons_self
    rw [List.map_cons, kdR, h, Option.bind_some, ih fun y hy => hc y (List.mem_cons_of_mem _ hy)]
    rfl
theorem pyAll_keys (hp : ∀ x, pyD S (kD x) = some (kp x)) : pyAll S (xs.map kD) = some (xs.map kp) := by
  induction xs with
  | nil => rfl
  | cons x xs ih =>
    rw [List.map_cons, pyAll, hp, ih]
    rfl
def srt (kp : α → PyData) (xs : List α) : List α := xs.mergeSort (PySem.W.dataLe false kp)
theorem sortD_map : sortD (xs.map dv) (xs.map kp) = (srt kp xs).map dv := by
  unfold sortD srt
  have hz : (xs.map dv).zip (xs.map kp) = xs.map fun x => (dv x, kp x) := by
    rw [List.zip_map']
  rw [hz, ← List.map_mergeSort (r := PySem.W.dataLe false kp) (s := PySem.W.dataLe false fun p : D × PyData => p.2) (f := fun x => (dv x, kp x)) (fun a _ b _ => rfl), List.map_map]
  rfl
theorem bSortK_spec (hc : ∀ x ∈ xs, ∃ o, c [dv x] S = some (kD x, o, S)) (hp : ∀ x, pyD S (kD x) = some (kp x)) (ha : ∀ x y, PySem.W.alike (kp x) (kp y) = true) (ht : ∀ x, ∃ r, kp x = .tuple r) (hd : ∀ x, (kp x).depth ≤ 50) (hz : xs.length ≤ SZ) (hl : lstOf S e = some (xs.map dv)) :
    bSortK c e S = some (.lst ((srt kp xs).map dv), S) := by
  have ok : SortOk (xs.map kp) := by
    refine ⟨fun a ha' b hb => ?_, .inr fun a ha' => ?_, fun a ha' => ?_⟩
    · obtain ⟨x, _, rfl⟩ := List.mem_map.mp ha'
      obtain ⟨y, _, rfl⟩ := List.mem_map.mp hb
      exact ha x y
    · obtain ⟨x, _, rfl⟩ := List.mem_map.mp ha'
      exact ht x
    · obtain ⟨x, _, rfl⟩ := List.mem_map.mp ha'
      exact hd x
  unfold bSortK
  rw [hl, Option.bind_some, if_pos (by simpa using hz), kdR_map hc]
  simp only [Option.bind_some]
  rw [pyAll_keys hp, Option.bind_some, if_pos ok, sortD_map]
theorem srt_perm : (srt kp xs).Perm xs := List.mergeSort_perm _ _
@[simp] theorem srt_len : (srt kp xs).length = xs.length := List.length_mergeSort _
end
noncomputable def eSortKK (c : Cv) : Option (D × Sto) → Option (D × Sto) := fun o => o.bind fun r => bSortK c r.1 r.2
@[simp] theorem q_sortk {c : Cv} {f : Ev} {η : Env} {S : Sto} : eSortK c f η S = eSortKK c (f η S) := id rfl
@[simp] theorem eSortKK_ {c : Cv} {d : D} {S : Sto} : eSortKK c (some (d, S)) = bSortK c d S := id rfl
/-- adjacent doubles dropped -/
def ddF {α : Type} [DecidableEq α] (f : List α) (x : α) : List α := if f.getLast? = some x then f else f ++ [x]
def dd {α : Type} [DecidableEq α] (xs : List α) : List α := xs.foldl ddF []
section
variable {α : Type} [DecidableEq α]
theorem dd_mem {x : α} : ∀ (xs f : List α), x ∈ xs.foldl ddF f ↔ x ∈ f ∨ x ∈ xs
  | [], f => by simp
  | y :: xs, f => by
    rw [List.foldl_cons, dd_mem xs]
    unfold ddF
    split
    · rename_i h
      have hy : y ∈ f := List.mem_of_getLast? h
      constructor
      · rintro (h | h)
        · exact .inl h
        · exact .inr (List.mem_cons_of_mem _ h)
      · rintro (h | h)
        · exact .inl h
        · rcases List.mem_cons.mp h with rfl | h
          · exact .inl hy
          · exact .inr h
    · simp only [List.mem_append, List.mem_cons, List.not_mem_nil, or_false]
      constructor
      · rintro ((h | h) | h)
        · exact .inl h
        · exact .inr (.inl h)
        · exact .inr (.inr h)
      · rintro (h | h | h)
        · exact .inl (.inl h)
        · exact .inl (.inr h)
        · exact .inr h
theorem mem_dd {x : α} {xs : List α} : x ∈ dd xs ↔ x ∈ xs := by
  unfold dd
  rw [dd_mem]
  simp
theorem dd_len : ∀ (xs f : List α), (xs.foldl ddF f).length ≤ f.length + xs.length
  | [], f => by simp
  | y :: xs, f => by
    rw [List.foldl_cons]
    have := dd_len xs (ddF f y)
    have h2 : (ddF f y).length ≤ f.length + 1 := by
      unfold ddF
      split <;> simp
    simp
    omega
theorem len_dd {xs : List α} : (dd xs).length ≤ xs.length := by
  have := dd_len xs []
  simpa [dd] using this
theorem dd_nodup_aux : ∀ (xs f : List α), (f ++ xs).Nodup → xs.foldl ddF f = f ++ xs
  | [], f, _ => by simp
  | y :: xs, f, h => by
    rw [List.foldl_cons]
    have hy : y ∉ f := fun z => by
      rw [List.nodup_append] at h
      exact h.2.2 y z y List.mem_cons_self rfl
    have e : ddF f y = f ++ [y] := by
      unfold ddF
      rw [if_neg fun z => hy (List.mem_of_getLast? z)]
    rw [e, dd_nodup_aux xs (f ++ [y]) (by simpa using h)]
    simp
theorem dd_nodup {xs : List α} (h : xs.Nodup) : dd xs = xs := by
  unfold dd
  rw [dd_nodup_aux xs [] (by simpa using h)]
  rfl
end
theorem nin_bl {S : Sto} {a : Bool} {bs : List Bool} : oNotIn (.bl a) (.lst (bs.map D.bl)) S = some (.bl (!(bs.any fun b => b == a)), S) := by
  have hp : ∀ l : List Bool, pyAll S (l.map D.bl) = some (l.map PyData.bool) := fun l => by
    induction l with
    | nil => rfl
    | cons b l ih => rw [List.map_cons, pyAll, ih]; rfl
  have hl : ∀ l : List Bool, PyData.canLayAll0 (l.map PyData.bool) = true := fun l => by
    induction l with
    | nil => rfl
    | cons b l ih => simp [PyData.canLayAll0, PyData.canLay0, ih]
  have hd : ∀ l : List Bool, PyData.depthAll (l.map PyData.bool) = 0 := fun l => by
    induction l with
    | nil => rfl
    | cons b l ih => rw [List.map_cons, PyData.depthAll, ih]; rfl
  have e1 : pyR S (.lst (bs.map D.bl)) = some (.list (bs.map PyData.bool)) := by
    show (pyAll S (bs.map D.bl)).map PyData.list = _
    rw [hp]; rfl
  have e2 : pyR S (.bl a) = some (.bool a) := rfl
  show (inP S (.bl a) (.lst (bs.map D.bl))).bind _ = _
  unfold inP
  rw [e1, e2]
  simp only [Option.bind_some]
  have s1 : SeqAt.shaped (.bool a) = true := by rfl
  have s2 : SeqAt.shaped (.list (bs.map PyData.bool)) = true := by
    unfold SeqAt.shaped
    rw [PyData.canLay0, hl, PyData.depth, hd]
    rfl
  rw [s1, s2, if_pos (by rfl), List.any_map]
  rfl
end HS
namespace HS
open PySem L2
theorem end_Vr0 {A E : Sto} {n : Nat} {c : D} (hd : pl n c = true) : endF A (V A (c :: E)) (.ref A.length) = some (c, true, A) := end_Vr (j := 0) rfl hd
theorem end_Wr0 {A E : Sto} {i n : Nat} {ds : List Int} {c : D} (hd : pl n c = true) : endF A (W A i ds (c :: E)) (.ref A.length) = some (c, true, A.set i (IL ds)) := end_Wr (j := 0) rfl hd
theorem end_Wr1 {A E : Sto} {i n : Nat} {ds : List Int} {b c : D} (hd : pl n c = true) : endF A (W A i ds (b :: c :: E)) (.ref (A.length + 1)) = some (c, true, A.set i (IL ds)) := end_Wr (j := 1) rfl hd
theorem lst_V {A E : Sto} {e : D} {xs : List D} (h : lstOf A e = some xs) : lstOf (V A E) e = some xs := by
  cases e with
  | lst ys => exact h
  | ref i =>
    rw [q_lo2] at h ⊢
    have hi : i < A.length := by
      apply Nat.lt_of_not_le
      intro hle
      rw [List.getElem?_eq_none hle] at h
      cases h
    rw [V_A hi]; exact h
  | _ => cases h
theorem pl_map {α : Type} [DV α] {xs : List α} : pl (DV.n α + 1) (.lst (xs.map dv)) = true := by
  simp only [pl, List.all_map, List.all_eq_true]
  exact fun x _ => DV.hpl x
theorem for_fold {α β : Type} {it : EvI} {tg : Tg} {body : Sv} {S0 : Sto} {chk : Sto → Prop} {as : List α} {g : α → D} {b0 : β} {o0 : Option D} (F : β → α → β) (st : β → Sto) (env : Option D → HS.Env) (Inv : Nat → β → Prop)
    (hi : it (env o0) S0 = some (⟨as.map g, chk⟩, st b0)) (hc : ∀ b, chk (st b)) (ht : ∀ x o, tg x (env o) = some (env (some x))) (h0 : Inv 0 b0)
    (hb : ∀ k a b, as[k]? = some a → Inv k b → body (env (some (g a))) (st b) = some (.nx, env (some (g a)), st (F b a)) ∧ Inv (k + 1) (F b a)) :
    ∃ o, sFor it tg body (env o0) S0 = some (.nx, env o, st (as.foldl F b0)) ∧ Inv as.length (as.foldl F b0) := by
  obtain ⟨η', S', h1, b, o, h2, rfl, rfl, h3⟩ := for_ind (η := env o0) (fun k η S => ∃ (b : β) (o : Option D), b = (as.take k).foldl F b0 ∧ η = env o ∧ S = st b ∧ Inv k b) hi ⟨b0, o0, rfl, rfl, rfl, h0⟩ (fun k η S _ ⟨b, o, _, _, h, _⟩ => h ▸ hc b)
    (fun k x η S hx ⟨b, o, h1, h2, h3, h4⟩ => by
      subst h2 h3
      rw [List.getElem?_map] at hx
      obtain ⟨a, h5, rfl⟩ := Option.map_eq_some_iff.mp hx
      obtain ⟨h6, h7⟩ := hb k a b h5 h4
      refine ⟨_, _, _, ht _ _, .inl h6, F b a, _, ?_, rfl, rfl, h7⟩
      rw [List.take_add_one, h5, List.foldl_append, ← h1]
      rfl)
  rw [List.take_of_length_le (by simp)] at h2
  subst h2
  rw [List.length_map] at h3
  exact ⟨o, h1, h3⟩
end HS
namespace HS
open PySem L2
/-- the mask of the places below n with p -/
def mk : Nat → (Nat → Bool) → Nat
  | 0, _ => 0
  | n + 1, p => mk n p + if p n = true then 2 ^ n else 0
theorem mk_lt : ∀ (n : Nat) (p : Nat → Bool), mk n p < 2 ^ n
  | 0, p => by simp [mk]
  | n + 1, p => by
    have h := mk_lt n p
    rw [mk, Nat.pow_succ]
    split <;> omega
theorem mk_test : ∀ (n : Nat) (p : Nat → Bool) (k : Nat), (mk n p).testBit k = (decide (k < n) && p k)
  | 0, p, k => by simp [mk]
  | n + 1, p, k => by
    have h := mk_lt n p
    have ih := mk_test n p k
    rw [mk]
    by_cases hp : p n = true
    · rw [if_pos hp, Nat.add_comm]
      by_cases hk : k = n
      · subst hk
        rw [Nat.testBit_two_pow_add_eq, Nat.testBit_lt_two_pow h]
        simp [hp]
      · by_cases hlt : k < n
        · rw [Nat.testBit_two_pow_add_gt hlt, ih]
          simp [hlt, Nat.lt_succ_of_lt hlt]
        · have hb : 2 ^ n + mk n p < 2 ^ k := by
            have h1 : 2 ^ (n + 1) ≤ 2 ^ k := Nat.pow_le_pow_right (by omega) (by omega)
            rw [Nat.pow_succ] at h1
            omega
          rw [Nat.testBit_lt_two_pow hb]
          have : ¬ k < n + 1 := by omega
          simp [this]
    · rw [if_neg hp, Nat.add_zero, ih]
      by_cases hk : k = n
      · subst hk
        simp at hp
        simp [hp]
      · have : (k < n + 1) = (k < n) := by apply propext; omega
        simp [this]
theorem mk_congr {n : Nat} {p q : Nat → Bool} (h : ∀ k, k < n → p k = q k) : mk n p = mk n q := by
  apply Nat.eq_of_testBit_eq
  intro k
  rw [mk_test, mk_test]
  by_cases hk : k < n
  · rw [h k hk]
  · simp [hk]
theorem mk_inj {n : Nat} {p q : Nat → Bool} (h : mk n p = mk n q) : ∀ k, k < n → p k = q k := fun k hk => by
  have := congrArg (fun m => m.testBit k) h
  simp only [mk_test, decide_eq_true hk, Bool.true_and] at this
  exact this
theorem mk_and {n : Nat} {p q : Nat → Bool} : mk n p &&& mk n q = mk n fun k => p k && q k := by
  apply Nat.eq_of_testBit_eq
  intro k
  rw [Nat.testBit_and, mk_test, mk_test, mk_test]
  cases decide (k < n) <;> simp
theorem mk_or {n : Nat} {p q : Nat → Bool} : mk n p ||| mk n q = mk n fun k => p k || q k := by
  apply Nat.eq_of_testBit_eq
  intro k
  rw [Nat.testBit_or, mk_test, mk_test, mk_test]
  cases decide (k < n) <;> simp
theorem mk_split (p q : Nat → Bool) : ∀ n, mk n p = (mk n fun k => p k && q k) + mk n fun k => p k && !q k
  | 0 => rfl
  | n + 1 => by
    have ih := mk_split p q n
    simp only [mk]
    rcases Bool.eq_false_or_eq_true (p n) with hp | hp <;> rcases Bool.eq_false_or_eq_true (q n) with hq | hq <;> simp [hp, hq] <;> omega
theorem mk_false (n : Nat) : (mk n fun _ => false) = 0 := by
  induction n with
  | zero => rfl
  | succ n ih => simp [mk, ih]
theorem mk_true : ∀ n : Nat, (mk n fun _ => true) + 1 = 2 ^ n
  | 0 => rfl
  | n + 1 => by
    have ih := mk_true n
    rw [mk, Nat.pow_succ]
    simp
    omega
theorem mk_one {n k : Nat} (h : k < n) : (mk n fun j => decide (j = k)) = 2 ^ k := by
  apply Nat.eq_of_testBit_eq
  intro j
  rw [mk_test, Nat.testBit_two_pow]
  by_cases hj : j = k
  · subst hj; simp [h]
  · have : ¬ k = j := fun e => hj e.symm
    simp [hj, this]
/-- as an integer -/
def IM (n : Nat) (p : Nat → Bool) : Int := (mk n p : Nat)
section
variable {n k : Nat} {p q : Nat → Bool}
theorem IM_nn : 0 ≤ IM n p := Int.natCast_nonneg _
theorem IM_eq : IM n p = IM n q ↔ ∀ k, k < n → p k = q k := by
  unfold IM
  constructor
  · intro h; exact mk_inj (Int.ofNat.inj h)
  · intro h; rw [mk_congr h]
theorem IM_congr (h : ∀ k, k < n → p k = q k) : IM n p = IM n q := IM_eq.mpr h
theorem IM_zero : IM n (fun _ => false) = 0 := by unfold IM; rw [mk_false]; rfl
theorem IM_eq0 : IM n p = 0 ↔ ∀ k, k < n → p k = false := by rw [← IM_zero (n := n), IM_eq]
theorem IM_one (h : k < n) : (2 : Int) ^ k = IM n fun j => decide (j = k) := by
  unfold IM
  rw [mk_one h]
  simp
theorem IM_and : Builtin.bitAnd (IM n p) (IM n q) = IM n fun k => p k && q k := by
  rw [PyProof.Rows.bitAnd_pp IM_nn IM_nn]
  unfold IM
  rw [Int.toNat_natCast, Int.toNat_natCast, mk_and]
theorem IM_or : Builtin.bitOr (IM n p) (IM n q) = IM n fun k => p k || q k := by
  rw [L2.bitOr_nn IM_nn IM_nn]
  unfold IM
  rw [Int.toNat_natCast, Int.toNat_natCast, mk_or]
/-- the lowest place -/
theorem IM_pos : 0 < IM n p ↔ ∃ k, k < n ∧ p k = true := by
  constructor
  · intro h
    apply Classical.byContradiction
    intro hc
    have : IM n p = 0 := IM_eq0.mpr fun k hk => by
      cases hp : p k with
      | false => rfl
      | true => exact absurd ⟨k, hk, hp⟩ hc
    omega
  · rintro ⟨k, hk, hp⟩
    have h1 := IM_nn (n := n) (p := p)
    have h2 : IM n p ≠ 0 := fun e => by
      have := IM_eq0.mp e k hk
      rw [hp] at this; cases this
    omega
theorem mk_pred : ∀ {m : Nat}, k < m → p k = true → (∀ j, j < k → p j = false) → (mk m fun j => if j < k then true else if j = k then false else p j) + 1 = mk m p
  | 0, h, _, _ => by omega
  | m + 1, h, hp, hl => by
    by_cases hk : k = m
    · subst hk
      have e1 : (mk k fun j => if j < k then true else if j = k then false else p j) = mk k fun _ => true := mk_congr fun j hj => by simp [hj]
      have e2 : mk k p = mk k fun _ => false := mk_congr fun j hj => hl j hj
      have e3 := mk_true k
      simp only [mk, e1, e2, mk_false]
      simp [hp]
      omega
    · have ih := mk_pred (m := m) (by omega) hp hl
      simp only [mk]
      have h1 : ¬ m < k := by omega
      have h2 : ¬ m = k := fun e => hk e.symm
      simp only [h1, h2, if_false]
      omega
theorem IM_low (hk : k < n) (hp : p k = true) (hl : ∀ j, j < k → p j = false) : Builtin.bitAnd (IM n p) (-IM n p) = 2 ^ k := by
  have h0 : 0 < IM n p := IM_pos.mpr ⟨k, hk, hp⟩
  rw [PyProof.Rows.bitAnd_pn IM_nn (by omega)]
  have e1 : Builtin.bitNot (-IM n p) = IM n fun j => if j < k then true else if j = k then false else p j := by
    have := mk_pred hk hp hl
    unfold Builtin.bitNot IM
    omega
  rw [e1]
  unfold IM
  rw [Int.toNat_natCast, Int.toNat_natCast, mk_and]
  have e2 := mk_split p (fun j => decide (j = k)) n
  have e3 : (mk n fun j => p j && decide (j = k)) = 2 ^ k := by
    rw [← mk_one hk]
    refine mk_congr fun j hj => ?_
    by_cases e : j = k
    · subst e; simp [hp]
    · simp [e]
  have e4 : (mk n fun j => p j && (if j < k then true else if j = k then false else p j)) = mk n fun j => p j && !decide (j = k) := mk_congr fun j hj => by
    by_cases e : j = k
    · subst e; simp [hp]
    · by_cases h2 : j < k
      · simp [hl j h2]
      · simp [e, h2]
  rw [e4]
  rw [e3] at e2
  have h2 : ((2 ^ k : Nat) : Int) = (2 : Int) ^ k := by simp
  omega
theorem IM_xor (hk : k < n) (hp : p k = true) : Builtin.bitXor (IM n p) (2 ^ k) = IM n fun j => p j && !decide (j = k) := by
  unfold Builtin.bitXor
  rw [IM_one hk, IM_or, IM_and]
  have e1 : (IM n fun j => p j || decide (j = k)) = IM n p := IM_congr fun j hj => by
    by_cases e : j = k
    · subst e; simp [hp]
    · simp [e]
  rw [e1]
  unfold IM
  have := mk_split p (fun j => decide (j = k)) n
  omega
theorem bits_pow (k : Nat) : Builtin.Int.intBits ((2 : Int) ^ k) = k + 1 := by
  unfold Builtin.Int.intBits
  have h1 : (2 : Int) ^ k = ((2 ^ k : Nat) : Int) := by simp
  rw [h1]
  have h2 : ¬ ((2 ^ k : Nat) : Int) = 0 := by
    have := Nat.two_pow_pos k
    omega
  rw [if_neg (by simpa using h2)]
  rw [Int.natAbs_natCast, Nat.log2_two_pow]
end
/-- the places of a mask -/
def plsF (n : Nat) (p : Nat → Bool) : List Nat := (List.range n).filter p
end HS
namespace HS
open PySem L2
abbrev Pl := Nat → Bool
def leM (n : Nat) (p q : Pl) : Prop := ∀ k, k < n → p k = true → q k = true
def eqM (n : Nat) (p q : Pl) : Prop := ∀ k, k < n → p k = q k
section
variable {n : Nat} {p q r : Pl}
theorem leM.refl : leM n p p := fun _ _ h => h
theorem leM.trans (a : leM n p q) (b : leM n q r) : leM n p r := fun k h e => b k h (a k h e)
theorem eqM.refl : eqM n p p := fun _ _ => rfl
theorem eqM.symm (a : eqM n p q) : eqM n q p := fun k h => (a k h).symm
theorem eqM.trans (a : eqM n p q) (b : eqM n q r) : eqM n p r := fun k h => (a k h).trans (b k h)
theorem eqM.le (a : eqM n p q) : leM n p q := fun k h e => by rw [← a k h]; exact e
theorem leM.anti (a : leM n p q) (b : leM n q p) : eqM n p q := fun k h => by
  cases h1 : p k with
  | true => rw [a k h h1]
  | false =>
    cases h2 : q k with
    | false => rfl
    | true => rw [b k h h2] at h1; cases h1
theorem leM.bot : leM n (fun _ => false) p := fun _ _ e => by cases e
end
def cntM : Nat → Pl → Nat
  | 0, _ => 0
  | n + 1, p => cntM n p + if p n = true then 1 else 0
theorem cntM_le (p : Pl) : ∀ n, cntM n p ≤ n
  | 0 => Nat.le_refl _
  | n + 1 => by
    have := cntM_le p n
    rw [cntM]
    split <;> omega
theorem cntM_mono {p q : Pl} : ∀ {n : Nat}, leM n p q → cntM n p ≤ cntM n q
  | 0, _ => Nat.le_refl _
  | n + 1, h => by
    have ih := cntM_mono (n := n) fun k hk e => h k (by omega) e
    rw [cntM, cntM]
    by_cases hp : p n = true
    · rw [if_pos hp, if_pos (h n (by omega) hp)]; omega
    · rw [if_neg hp]; split <;> omega
theorem cntM_eq {p q : Pl} : ∀ {n : Nat}, leM n p q → cntM n p = cntM n q → eqM n p q
  | 0, _, _ => fun k hk => by omega
  | n + 1, h, e => by
    have h' : leM n p q := fun k hk e => h k (by omega) e
    have ih := cntM_mono h'
    rw [cntM, cntM] at e
    intro k hk
    by_cases hp : p n = true
    · rw [if_pos hp, if_pos (h n (by omega) hp)] at e
      by_cases hkn : k = n
      · subst hkn; rw [hp, h k (by omega) hp]
      · exact cntM_eq h' (by omega) k (by omega)
    · rw [if_neg hp] at e
      by_cases hq : q n = true
      · rw [if_pos hq] at e; omega
      · rw [if_neg hq] at e
        by_cases hkn : k = n
        · subst hkn; simp at hp hq; rw [hp, hq]
        · exact cntM_eq h' (by omega) k (by omega)
def itF (F : Pl → Pl) : Nat → Pl
  | 0 => fun _ => false
  | t + 1 => F (itF F t)
def MonoM (n : Nat) (F : Pl → Pl) : Prop := ∀ p q, leM n p q → leM n (F p) (F q)
section
variable {n : Nat} {F : Pl → Pl}
theorem MonoM.eq (m : MonoM n F) {p q : Pl} (h : eqM n p q) : eqM n (F p) (F q) := (m _ _ h.le).anti (m _ _ h.symm.le)
theorem least_of {P : Nat → Prop} : ∀ t, P t → ∃ t, P t ∧ ∀ s, s < t → ¬ P s := fun t => by
  induction t using Nat.strongRecOn with
  | _ t ih =>
    intro h
    by_cases hc : ∃ s, s < t ∧ P s
    · obtain ⟨s, hs, hp⟩ := hc
      exact ih s hs hp
    · exact ⟨t, h, fun s hs hp => hc ⟨s, hs, hp⟩⟩
/-- what is grown to -/
def lfp (n : Nat) (F : Pl → Pl) : Pl := itF F n
end
abbrev Cd := List (Pl × Nat)
def subB (n : Nat) (s m : Pl) : Bool := (List.range n).all fun j => !s j || m j
def meetB (n : Nat) (s m : Pl) : Bool := (List.range n).any fun j => s j && m j
/-- what m attacks -/
def hitF (n : Nat) (cs : Cd) (m : Pl) : Pl := fun k => cs.any fun c => decide (c.2 = k) && subB n c.1 m
/-- whose attacks all meet o -/
def safeF (n : Nat) (cs : Cd) (o : Pl) : Pl := fun k => cs.all fun c => !decide (c.2 = k) || meetB n c.1 o
section
variable {n : Nat} {s m p q : Pl} {cs ds : Cd}
theorem subB_iff : subB n s m = true ↔ leM n s m := by
  simp only [subB, List.all_eq_true, List.mem_range, Bool.or_eq_true, Bool.not_eq_true', leM]
  constructor
  · intro h k hk e
    rcases h k hk with z | z
    · rw [z] at e; cases e
    · exact z
  · intro h k hk
    cases e : s k with
    | false => exact .inl rfl
    | true => exact .inr (h k hk e)
theorem meetB_iff : meetB n s m = true ↔ ∃ k, k < n ∧ s k = true ∧ m k = true := by
  simp [meetB]
theorem hitF_iff {k : Nat} : hitF n cs m k = true ↔ ∃ c ∈ cs, c.2 = k ∧ leM n c.1 m := by
  simp [hitF, subB_iff]
theorem safeF_iff {k : Nat} : safeF n cs m k = true ↔ ∀ c ∈ cs, c.2 = k → ∃ j, j < n ∧ c.1 j = true ∧ m j = true := by
  simp only [safeF, List.all_eq_true, Bool.or_eq_true, Bool.not_eq_true', decide_eq_false_iff_not, meetB_iff]
  constructor
  · intro h c hc e
    rcases h c hc with z | z
    · exact absurd e z
    · exact z
  · intro h c hc
    by_cases e : c.2 = k
    · exact .inr (h c hc e)
    · exact .inl e
theorem hitF_mono (h1 : ∀ c ∈ cs, c ∈ ds) (h2 : leM n p q) : leM n (hitF n cs p) (hitF n ds q) := fun k _ e => by
  rw [hitF_iff] at e ⊢
  obtain ⟨c, hc, e1, e2⟩ := e
  exact ⟨c, h1 c hc, e1, e2.trans h2⟩
theorem safeF_mono (h1 : ∀ c ∈ ds, c ∈ cs) (h2 : leM n p q) : leM n (safeF n cs p) (safeF n ds q) := fun k _ e => by
  rw [safeF_iff] at e ⊢
  intro c hc z
  obtain ⟨j, hj, a, b⟩ := e c (h1 c hc) z
  exact ⟨j, hj, a, h2 j hj b⟩
/-- what m defends -/
def defF (n : Nat) (cs : Cd) : Pl → Pl := fun m => safeF n cs (hitF n cs m)
theorem defF_mono : MonoM n (defF n cs) := fun p q h => safeF_mono (fun _ h => h) (hitF_mono (fun _ h => h) h)
/-- .. with some attacks that are surely there -/
def mrkF (n : Nat) (cs ds : Cd) : Pl → Pl := fun m => safeF n cs (hitF n ds m)
def twoF (n : Nat) (cs ds : Cd) : Pl → Pl := fun m k => if k < n then safeF n cs (fun j => m (n + j)) k else hitF n ds m (k - n)
end
end HS
namespace HS
open PySem L2
abbrev PcT := Tx × List Val
def vK : Val → NestedKey
  | .num i => .num i
  | .txt x => .text x.1
def pK (p : PcT) : NestedKey := .tup [.text p.1.1, .tup (p.2.map vK)]
theorem nkV (v : Val) : nkD (dv v) = some (vK v) := by cases v <;> rfl
theorem nkVs : ∀ r : List Val, nkAll (r.map dv) = some (r.map vK)
  | [] => rfl
  | v :: r => by
    rw [List.map_cons, nkAll, nkV, nkVs r]
    rfl
theorem nkP (p : PcT) : nkD (dv p) = some (pK p) := by
  have e : (dv p : D) = .tup [.str p.1.1, .tup (p.2.map dv)] := rfl
  rw [e, nkD, nkAll, nkAll, nkAll, nkD, nkD, nkVs]
  rfl
theorem vK_dep : ∀ r : List Val, NestedKey.depthAll (r.map vK) = 0
  | [] => rfl
  | v :: r => by
    rw [List.map_cons, NestedKey.depthAll, vK_dep r]
    cases v <;> rfl
theorem keyP (p : PcT) : keyN (dv p) = some (pK p) := by
  unfold keyN
  rw [nkP, Option.bind_some, if_pos]
  refine ⟨?_, fun h => by cases h⟩
  have := vK_dep p.2
  simp only [pK, NestedKey.depth, NestedKey.depthAll, this]
  decide
theorem pK_inj {p q : PcT} (h : pK p = pK q) : p = q := by
  have h1 := nk_py (S := []) _ _ (nkP p)
  have h2 := nk_py (S := []) _ _ (nkP q)
  rw [h, ← h2, DV.hpy, DV.hpy] at h1
  have h3 : (DV.py p : PyData) = DV.py q := Option.some.inj h1
  exact (DV.eqv p q).mp (by rw [h3]; exact (DV.eqv q q).mpr rfl)
/-- the places of things -/
def dicQ (l : List (PcT × Nat)) : List (D × D) := l.map fun q => (dv q.1, D.int (q.2 : Nat))
def dicP (ps : List PcT) : D := .dic (dicQ ps.zipIdx)
theorem fitQ (l : List (PcT × Nat)) (p : PcT) : dFit (dicQ l) (pK p) = true := by
  unfold dFit dicQ
  rw [List.all_map, List.all_eq_true]
  intro q _
  show fitK (pK p) (dv q.1) = true
  unfold fitK
  rw [keyP]
  rfl
theorem anyQ {l : List (PcT × Nat)} {p : PcT} (h : p ∉ l.map (·.1)) : ((dicQ l).any fun e => decide (nkD e.1 = some (pK p))) = false := by
  rw [List.any_eq_false]
  intro e he
  unfold dicQ at he
  obtain ⟨q, hq, rfl⟩ := List.mem_map.mp he
  simp only [nkP, decide_eq_true_eq]
  intro z
  have := pK_inj (Option.some.inj z)
  exact h (by rw [← this]; exact List.mem_map.mpr ⟨q, hq, rfl⟩)
theorem lookQ (p : PcT) : ∀ (ps : List PcT) (k : Nat), dLook (dicQ (ps.zipIdx k)) (pK p) = if p ∈ ps then some (D.int ((k + ps.idxOf p : Nat) : Int)) else none
  | [], k => rfl
  | q :: ps, k => by
    rw [List.zipIdx_cons]
    unfold dicQ
    rw [List.map_cons]
    unfold dLook
    rw [List.find?_cons]
    by_cases h : q = p
    · subst h
      simp only [nkP, decide_true]
      simp
    · have : ¬ (nkD (dv q) = some (pK p)) := fun z => h (pK_inj (by rw [nkP] at z; exact Option.some.inj z))
      simp only [decide_eq_false this]
      have ih := lookQ p ps (k + 1)
      unfold dicQ dLook at ih
      rw [ih]
      have hm : (p ∈ q :: ps) ↔ p ∈ ps := by
        rw [List.mem_cons]
        exact ⟨fun z => z.resolve_left fun e => h e.symm, .inr⟩
      have hi : (q :: ps).idxOf p = ps.idxOf p + 1 := by
        rw [List.idxOf_cons]
        have : (q == p) = false := by simpa using h
        rw [this]; rfl
      rw [hi]
      by_cases h2 : p ∈ ps
      · rw [if_pos h2, if_pos (hm.mpr h2)]
        congr 2
        omega
      · rw [if_neg h2, if_neg fun z => h2 (hm.mp z)]
section
variable {η η' : Env} {S A E : Sto} {f g : Ev} {fs : EvA} {i j n : Nat} {x y d : D} {l xs ys : List D} {ps : List PcT} {p : PcT} {cn : String} {m : Str} {c : Cv}
theorem askP : askD S (dicP ps) (dv p) = some (if p ∈ ps then some (D.int (ps.idxOf p : Nat)) else none) := by
  unfold askD dicP
  show (some (dicQ ps.zipIdx)).bind _ = _
  rw [Option.bind_some, keyP, Option.bind_some, if_pos (fitQ _ _), lookQ]
  simp
@[simp] theorem q_dIn : oDIn (dv p) (dicP ps) S = some (.bl (decide (p ∈ ps)), S) := by
  unfold oDIn
  rw [askP, Option.bind_some]
  by_cases h : p ∈ ps
  · rw [if_pos h]; simp [h]
  · rw [if_neg h]; simp [h]
@[simp] theorem q_dGet (h : p ∈ ps) : oDGet (dicP ps) (dv p) S = some (.int (ps.idxOf p : Nat), S) := by
  unfold oDGet
  rw [askP, if_pos h]
  rfl
/-- the dict that enumerate makes -/
theorem dcQ {chk : Sto → Prop} {η0 : Env} (hc : chk S) {tg : Tg} {fk fv : Ev} (ht : ∀ q : PcT × Nat, ∃ η1, tg (.pr [.int (q.2 : Nat), dv q.1]) η0 = some η1 ∧ fk η1 S = some (dv q.1, S) ∧ fv η1 S = some (.int (q.2 : Nat), S)) : ∀ (l a : List (PcT × Nat)), ((a ++ l).map (·.1)).Nodup → a.length + l.length ≤ SZ →
    dcR chk tg tYesE fk fv η0 (l.map fun q => .pr [.int (q.2 : Nat), dv q.1]) (dicQ a) S = some (dicQ (a ++ l), S)
  | [], a, _, _ => by
    rw [List.map_nil]
    unfold dcR
    rw [if_pos hc, List.append_nil]
  | q :: l, a, h, hz => by
    rw [List.map_cons]
    unfold dcR
    obtain ⟨η1, h1, h2, h3⟩ := ht q
    rw [if_pos hc, h1]
    simp only [Option.bind_some, q_yes, if_true, h2, h3, keyP]
    have hq : q.1 ∉ a.map (·.1) := fun z => by
      rw [List.map_append, List.nodup_append] at h
      exact h.2.2 _ z _ (by simp) rfl
    have hp : dPut (dicQ a) (pK q.1) (dv q.1) (.int (q.2 : Nat)) = dicQ (a ++ [q]) := by
      unfold dPut
      rw [anyQ hq]
      simp [dicQ]
    rw [if_pos ⟨by simp [dicQ]; simp at hz; omega, fitQ _ _⟩, hp, dcQ hc ht l (a ++ [q]) (by simpa using h) (by simp at hz ⊢; omega)]
    simp
theorem enum_map {α : Type} [DV α] (xs : List α) : enumD (xs.map dv) = xs.zipIdx.map fun q => .pr [.int (q.2 : Nat), dv q.1] := by
  unfold enumD
  rw [List.zipIdx_map, List.map_map]
  rfl
def fldK2 (cn : String) (x : Str) (S : Sto) : Option (String × List (Str × D)) → Option (D × Sto) := fun o => o.bind fun q => if q.1 = cn then (q.2.lookup x).bind fun d => some (d, S) else none
def fldK (cn : String) (x : Str) : Option (D × Sto) → Option (D × Sto) := fun o => o.bind fun p => fldK2 cn x p.2 (insOf p.2 p.1)
def fldK3 (S : Sto) : Option D → Option (D × Sto) := fun o => o.bind fun d => some (d, S)
@[simp] theorem fldK3_ : fldK3 S (some d) = some (d, S) := id rfl
@[simp] theorem q_fld {z : Str} : eFld cn z f η S = fldK cn z (f η S) := id rfl
@[simp] theorem fldK_ {z : Str} : fldK cn z (some (d, S)) = fldK2 cn z S (insOf S d) := id rfl
@[simp] theorem fldK2_ {z : Str} {fl : List (Str × D)} : fldK2 cn z S (some (cn, fl)) = fldK3 S (fl.lookup z) := if_pos rfl
def insK : Option D → Option (String × List (Str × D))
  | some (.ins c fs) => some (c, fs)
  | _ => none
@[simp] theorem insK_ {fl : List (Str × D)} : insK (some (.ins cn fl)) = some (cn, fl) := id rfl
@[simp] theorem q_ins1 {fl : List (Str × D)} : insOf S (.ins cn fl) = some (cn, fl) := id rfl
@[simp] theorem q_ins2 : insOf S (.ref i) = insK S[i]? := by
  unfold insK
  exact id rfl
def methK4 : Option (D × Bool × Sto) → Option (D × Sto) := fun o => o.bind fun z => some (z.1, z.2.2)
@[simp] theorem methK4_ {b : Bool} : methK4 (some (d, b, S)) = some (d, S) := id rfl
def methK3 (c : Cv) (n : Nat) (d : D) : Option (List D × Sto) → Option (D × Sto) := fun o => o.bind fun r => if r.1.length + 1 = n then methK4 (c (d :: r.1) r.2) else none
@[simp] theorem methK3_ (h : l.length + 1 = n) : methK3 c n d (some (l, S)) = methK4 (c (d :: l) S) := if_pos h
def methK2 (cn : String) (m : Str) (c : Cv) (n : Nat) (d : D) (r : Option (List D × Sto)) : Option (String × List (Str × D)) → Option (D × Sto) := fun o => o.bind fun q => if q.1 = cn ∧ q.2.lookup m = none then methK3 c n d r else none
theorem methK2_ {r : Option (List D × Sto)} {fl : List (Str × D)} (h : fl.lookup m = none) : methK2 cn m c n d r (some (cn, fl)) = methK3 c n d r := if_pos ⟨rfl, h⟩
def methK (cn : String) (m : Str) (c : Cv) (n : Nat) (fs : EvA) (η : Env) : Option (D × Sto) → Option (D × Sto) := fun o => o.bind fun p => methK2 cn m c n p.1 (fs η p.2) (insOf p.2 p.1)
@[simp] theorem q_meth : eMeth cn m c n f fs η S = methK cn m c n fs η (f η S) := id rfl
@[simp] theorem methK_ : methK cn m c n fs η (some (d, S)) = methK2 cn m c n d (fs η S) (insOf S d) := id rfl
noncomputable def newK (cn : String) (c : Cv) (n : Nat) : Option (List D × Sto) → Option (D × Sto) := fun o => o.bind fun p => if p.1.length + 1 = n then (c (.ref p.2.length :: p.1) (p.2 ++ [.ins cn []])).bind fun r => match r.1 with
  | .non => (endF p.2 r.2.2 (.ref p.2.length)).bind fun q => some (q.1, q.2.2)
  | _ => none else none
@[simp] theorem q_new : eNew cn c n fs η S = newK cn c n (fs η S) := id rfl
def stIK (i : Nat) : Option D → Option (Nat × String × List (Str × D))
  | some (.ins c fs) => some (i, c, fs)
  | _ => none
@[simp] theorem stIK_ {fl : List (Str × D)} : stIK i (some (.ins cn fl)) = some (i, cn, fl) := id rfl
@[simp] theorem q_stI : HS.stI S (.ref i) = stIK i S[i]? := by
  unfold stIK
  exact id rfl
def sfK3 (cn : String) (x : Str) (v : D) (η : Env) (S : Sto) : Option (Nat × String × List (Str × D)) → Option (Fl × Env × Sto) := fun o => o.bind fun r => if r.2.1 = cn ∧ r.2.2.length < 1000 then some (.nx, η, S.set r.1 (.ins cn (putFD x v r.2.2))) else none
theorem sfK3_ {z : Str} {fl : List (Str × D)} (h : fl.length < 1000) : sfK3 cn z d η S (some (i, cn, fl)) = some (.nx, η, S.set i (.ins cn (putFD z d fl))) := if_pos ⟨rfl, h⟩
def sfK2 (cn : String) (x : Str) (v : D) (η : Env) : Option (D × Sto) → Option (Fl × Env × Sto) := fun o => o.bind fun q => sfK3 cn x v η q.2 (HS.stI q.2 q.1)
@[simp] theorem sfK2_ {z : Str} {v : D} : sfK2 cn z v η (some (d, S)) = sfK3 cn z v η S (HS.stI S d) := id rfl
def sfK (cn : String) (x : Str) (fo : Ev) (η : Env) : Option (D × Sto) → Option (Fl × Env × Sto) := fun o => o.bind fun p => sfK2 cn x p.1 η (fo η p.2)
@[simp] theorem q_setF {z : Str} : sSetF cn z f g η S = sfK cn z f η (g η S) := id rfl
@[simp] theorem sfK_ {z : Str} : sfK cn z f η (some (d, S)) = sfK2 cn z d η (f η S) := id rfl
def mtK2 (b : Bool) (rD : RM) (d : D) (o : Option (List D × Sto)) : Option (D × Sto) := if b then o.bind fun q => rD d q.1 q.2 else none
def mtK (ty : Sto → D → Bool) (rD : RM) (fs : EvA) (η : Env) : Option (D × Sto) → Option (D × Sto) := fun o => o.bind fun p => mtK2 (ty p.2 p.1) rD p.1 (fs η p.2)
@[simp] theorem q_mt {ty : Sto → D → Bool} {rD : RM} : eMT ty rD f fs η S = mtK ty rD fs η (f η S) := id rfl
@[simp] theorem mtK_ {ty : Sto → D → Bool} {rD : RM} : mtK ty rD fs η (some (d, S)) = mtK2 (ty S d) rD d (fs η S) := id rfl
@[simp] theorem mtK2_ {rD : RM} : mtK2 true rD d (some (l, S)) = rD d l S := id rfl
@[simp] theorem q_istup : isTupD S (.tup xs) = true := id rfl
def bitsK : Option (D × Sto) → Option (D × Sto) := fun o => o.bind fun p => match p.1 with
  | .int i => some (.int (Builtin.Int.intBits i : Nat), p.2)
  | _ => none
@[simp] theorem q_bits : eBits f η S = bitsK (f η S) := id rfl
@[simp] theorem bitsK_ {a : Int} : bitsK (some (.int a, S)) = some (.int (Builtin.Int.intBits a : Nat), S) := id rfl
def lrgK : Option (D × Sto) → Option (D × Sto) := fun o => o.bind fun p => match p.1 with
  | .int n => if 0 ≤ n ∧ n ≤ SZ then some (.lst (rangeD 0 n.toNat), p.2) else none
  | _ => none
@[simp] theorem q_lrg : eLRg f η S = lrgK (f η S) := id rfl
def enK : Option (List D × Sto) → Option (Iter × Sto) := fun o => o.bind fun q => match q.1 with
  | [d] => (seqOf q.2 d).bind fun xs => some (⟨enumD xs, fun S => seqOf S d = some xs⟩, q.2)
  | _ => none
@[simp] theorem q_enum : iEnumD fs η S = enK (fs η S) := id rfl
theorem enK_ (h : seqOf S d = some xs) : enK (some ([d], S)) = some (⟨enumD xs, fun S => seqOf S d = some xs⟩, S) := by
  show (seqOf S d).bind _ = _
  rw [h]; rfl
@[simp] theorem q_band {a b : Int} : oBand (.int a) (.int b) S = some (.int (Builtin.bitAnd a b), S) := id rfl
@[simp] theorem q_bor {a b : Int} : oBor (.int a) (.int b) S = some (.int (Builtin.bitOr a b), S) := id rfl
@[simp] theorem q_bxor {a b : Int} : oBxor (.int a) (.int b) S = some (.int (Builtin.bitXor a b), S) := id rfl
@[simp] theorem q_shr {a : Int} : oShr (.int a) (.int (n : Int)) S = some (.int (a / 2 ^ n), S) := by
  show (shrI a (n : Int)).bind (fun d => some (d, S)) = some (D.int (a / 2 ^ n), S)
  unfold shrI
  rw [if_pos (by omega), Int.toNat_natCast]
  exact id rfl
theorem q_shl1 (h : n ≤ 1000000) : oShl (.int 1) (.int (n : Int)) S = some (.int (2 ^ n), S) := by
  show (shlI 1 n).bind _ = _
  unfold shlI
  have h1 : Builtin.Int.intBits 1 = 1 := by decide
  have h2 : (2 : Int) ^ 27 = 134217728 := by decide
  rw [if_pos (by rw [h1, h2]; omega), Int.toNat_natCast, Int.one_mul]
  rfl
end
theorem whR_ind {c : EvB} {body : Sv} (I : Nat → Env → Sto → Prop) {Fin : Fl × Env × Sto → Prop} : ∀ (m fuel : Nat) (η : Env) (S : Sto), m < fuel → I m η S →
    (∀ k η S, I k η S → ∃ b S1, c η S = some (b, S1) ∧ ((b = false ∧ Fin (.nx, η, S1)) ∨ (b = true ∧ ∃ r, body η S1 = some r ∧ ((∃ d, r.1 = .ret d ∧ Fin r) ∨ (r.1 = .nx ∧ ∃ j, j < k ∧ I j r.2.1 r.2.2))))) →
    ∃ r, whR c body fuel η S = some r ∧ Fin r := by
  intro m
  induction m using Nat.strongRecOn with
  | _ m ih =>
    intro fuel η S hm h hs
    cases fuel with
    | zero => omega
    | succ fuel =>
      unfold whR
      obtain ⟨b, S1, h1, h2⟩ := hs m η S h
      rw [h1]
      simp only [Option.bind_some]
      rcases h2 with ⟨rfl, h3⟩ | ⟨rfl, r, h3, h4⟩
      · exact ⟨_, rfl, h3⟩
      · obtain ⟨fl, η2, S2⟩ := r
        rw [if_pos rfl, h3]
        simp only [Option.bind_some]
        rcases h4 with ⟨d, h5, h6⟩ | ⟨h5, j, h6, h7⟩
        · have h5 : fl = .ret d := h5
          subst h5
          exact ⟨_, rfl, h6⟩
        · have h5 : fl = .nx := h5
          subst h5
          exact ih j h6 fuel η2 S2 (by omega) h7 hs
theorem wh_ind {c : EvB} {body : Sv} {n : Nat} {η : Env} {S : Sto} (I : Nat → Env → Sto → Prop) {Fin : Fl × Env × Sto → Prop} (m : Nat) (hm : m < n) (h : I m η S)
    (hs : ∀ k η S, I k η S → ∃ b S1, c η S = some (b, S1) ∧ ((b = false ∧ Fin (.nx, η, S1)) ∨ (b = true ∧ ∃ r, body η S1 = some r ∧ ((∃ d, r.1 = .ret d ∧ Fin r) ∨ (r.1 = .nx ∧ ∃ j, j < k ∧ I j r.2.1 r.2.2))))) :
    ∃ r, sWhile n c body η S = some r ∧ Fin r := whR_ind I m n η S hm h hs
end HS
namespace HS
open PySem L2
section
variable {η η' : Env} {S A E : Sto} {f g : Ev} {fs : EvA} {i j n : Nat} {x y d : D} {l xs ys : List D} {c : Cv}
def extK (ys : List D) (S : Sto) : Option (Nat × List D) → Option (D × Sto) := fun o => o.bind fun q => if q.2.length + ys.length ≤ SZ then some (.non, S.set q.1 (.lst (q.2 ++ ys))) else none
@[simp] theorem q_ext {a : D} : mExtend a [.lst ys] S = extK ys S (stL S a) := id rfl
@[simp] theorem q_isB {a b : Bool} : oIsB (.bl a) (.bl b) S = some (.bl (decide (a = b)), S) := id rfl
@[simp] theorem q_isNotB {a b : Bool} : oIsNotB (.bl a) (.bl b) S = some (.bl (!decide (a = b)), S) := id rfl
end
end HS
namespace HS
open PySem L2
class KV (α : Type) [DV α] where
  key : α → NestedKey
  nk : ∀ x, nkD (dv x) = some (key x)
  hk : ∀ x, keyN (dv x) = some (key x)
  inj : ∀ x y, key x = key y → x = y
  tk : ∀ x y, isTK (key x) = isTK (key y)
instance : KV PcT := ⟨pK, nkP, keyP, fun _ _ => pK_inj, fun _ _ => rfl⟩
instance : KV Int := ⟨fun i => .num i, fun i => rfl, fun i => by
  have e : nkD (dv i) = some (.num i) := rfl
  unfold keyN
  rw [e, Option.bind_some, if_pos]
  exact ⟨by simp [NestedKey.depth], fun h => by cases h⟩, fun x y h => by injection h, fun _ _ => rfl⟩
section
variable {α : Type} [DV α] [DecidableEq α] [KV α] {S : Sto} {l : List (α × D)} {x y : α} {v d : D}
def entD (l : List (α × D)) : List (D × D) := l.map fun p => (dv p.1, p.2)
def dicD (l : List (α × D)) : D := .dic (entD l)
def putL (x : α) (v : D) (l : List (α × D)) : List (α × D) := if x ∈ l.map (·.1) then l.map fun p => if p.1 = x then (p.1, v) else p else l ++ [(x, v)]
def getL (l : List (α × D)) (x : α) : Option D := (l.find? fun p => decide (p.1 = x)).map (·.2)
@[simp] theorem dicOf_d : dicOf S (dicD l) = some (entD l) := rfl
/-- the different things, in their first order -/
def undup (xs : List α) : List α := xs.foldl (fun acc x => if x ∈ acc then acc else acc ++ [x]) []
end
end HS
namespace HS
open PySem L2
def rSetN (P : Program) (wd : World) (K : PySem.W.Frag) : TSet := fun o i v H Q => ∃ p es k, o = .ref p ∧ DicH P wd H p es ∧ KeysH K H es ∧ FitH es k ∧ KeyH K H i k ∧ AskH k ∧ es.length < sizeLine ∧ ∀ ho, DicH P wd (upd H p ho) p (putE es k i v) → Q (upd H p ho)
def setDx (S : Sto) (d e v : D) : Option Sto := match d with
  | .ref i => (dicOf S (.ref i)).bind fun kvs => (keyN e).bind fun k => if dFit kvs k = true ∧ kvs.length < SZ then some (S.set i (.dic (dPut kvs k e v))) else none
  | _ => none
/-- d[k] = value -/
def sSetD (fo fi fv : Ev) : Sv := fun η S => (fv η S).bind fun p => (fo η p.2).bind fun q => (fi η q.2).bind fun r => (setDx r.2 q.1 r.1 p.1).bind fun S' => some (.nx, η, S')
section
variable {fa : String → Option Addr} {X : Cx} {o i value : Expr} {pos pos' : Pos} {fo fi fv : Ev} {k0 : Nat}
end
section
variable {η : Env} {S : Sto} {fo fi fv : Ev} {d v o : D}
def setdK2 (v o : D) (η : Env) : Option (D × Sto) → Option (Fl × Env × Sto) := fun k => k.bind fun r => setiK3 η (setDx r.2 o r.1 v)
@[simp] theorem setdK2_ : setdK2 v o η (some (d, S)) = setiK3 η (setDx S o d v) := id rfl
def setdK1 (v : D) (fi : Ev) (η : Env) : Option (D × Sto) → Option (Fl × Env × Sto) := fun k => k.bind fun q => setdK2 v q.1 η (fi η q.2)
@[simp] theorem setdK1_ : setdK1 v fi η (some (d, S)) = setdK2 v d η (fi η S) := id rfl
def setdK (fo fi : Ev) (η : Env) : Option (D × Sto) → Option (Fl × Env × Sto) := fun k => k.bind fun p => setdK1 p.1 fi η (fo η p.2)
@[simp] theorem setdK_ : setdK fo fi η (some (d, S)) = setdK1 d fi η (fo η S) := id rfl
@[simp] theorem q_setd : sSetD fo fi fv η S = setdK fo fi η (fv η S) := id rfl
end
class KS (α : Type) [DV α] where
  k : α → NestedKey
  m : Nat
  nk : ∀ x, nkD (dv x) = some (k x)
  dp : ∀ x, (k x).depth ≤ m
section
variable {α β : Type} [DV α] [DV β]
theorem ks_inj [KS α] {x y : α} (h : KS.k x = KS.k y) : x = y := by
  have h1 := nk_py (S := []) _ _ (KS.nk x)
  have h2 := nk_py (S := []) _ _ (KS.nk y)
  rw [h, ← h2, DV.hpy, DV.hpy] at h1
  have h3 : (DV.py x : PyData) = DV.py y := Option.some.inj h1
  exact (DV.eqv x y).mp (by rw [h3]; exact (DV.eqv y y).mpr rfl)
theorem ks_all [KS α] : ∀ xs : List α, nkAll (xs.map dv) = some (xs.map KS.k)
  | [] => rfl
  | x :: xs => by
    rw [List.map_cons, nkAll, KS.nk, ks_all xs]
    rfl
theorem ks_dep [KS α] : ∀ xs : List α, NestedKey.depthAll (xs.map KS.k) ≤ KS.m α
  | [] => by rw [List.map_nil, NestedKey.depthAll]; exact Nat.zero_le _
  | x :: xs => by
    rw [List.map_cons, NestedKey.depthAll]
    exact Nat.max_le.mpr ⟨KS.dp x, ks_dep xs⟩
instance : KS Int := ⟨.num, 0, fun i => rfl, fun i => by simp [NestedKey.depth]⟩
instance : KS Tx := ⟨fun x => .text x.1, 0, fun i => rfl, fun i => by simp [NestedKey.depth]⟩
instance : KS Val := ⟨vK, 0, nkV, fun v => by cases v <;> simp [vK, NestedKey.depth]⟩
instance [KS α] : KS (List α) := ⟨fun xs => .tup (xs.map KS.k), KS.m α + 1, fun xs => by
  have e : (dv xs : D) = .tup (xs.map dv) := rfl
  rw [e, nkD, ks_all]
  rfl, fun xs => by
  rw [NestedKey.depth]
  have := ks_dep xs
  omega⟩
instance [KS α] [KS β] : KS (α × β) := ⟨fun p => .tup [KS.k p.1, KS.k p.2], max (KS.m α) (KS.m β) + 1, fun p => by
  have e : (dv p : D) = .tup [dv p.1, dv p.2] := rfl
  rw [e, nkD, nkAll, nkAll, nkAll, KS.nk, KS.nk]
  rfl, fun p => by
  rw [NestedKey.depth, NestedKey.depthAll, NestedKey.depthAll, NestedKey.depthAll]
  have h1 := KS.dp p.1
  have h2 := KS.dp p.2
  omega⟩
theorem ks_key [KS α] (hm : KS.m α ≤ 8) (x : α) (hx : KS.k x ≠ .none) : keyN (dv x) = some (KS.k x) := by
  unfold keyN
  rw [KS.nk, Option.bind_some, if_pos ⟨Nat.le_trans (KS.dp x) hm, hx⟩]
end
instance : KV (List PcT) := ⟨KS.k, KS.nk, fun x => ks_key (by decide) x (fun h => by cases h), fun _ _ => ks_inj, fun _ _ => rfl⟩
instance : KV (List PcT × PcT) := ⟨KS.k, KS.nk, fun x => ks_key (by decide) x (fun h => by cases h), fun _ _ => ks_inj, fun _ _ => rfl⟩
section
variable {α : Type} [DV α] [DecidableEq α] [KV α] {S A E : Sto} {l : List (α × D)} {x : α} {v : D} {i : Nat}
end
end HS
namespace HS
open PySem L2
def eFldM (cs : List String) (x : Str) (f : Ev) : Ev := fun η S => (f η S).bind fun p => (insOf p.2 p.1).bind fun q => if q.1 ∈ cs then (q.2.lookup x).bind fun d => some (d, p.2) else none
def FldM (fa : String → Option Addr) (K : PySem.W.Frag) (x : Str) (cs : List String) : Prop := ∀ c ∈ cs, ∃ a, fa c = some a ∧ Cls K a ∧ NoAttr K a x
section
variable {fa : String → Option Addr} {X : Cx} {e : Expr} {pos : Pos} {f : Ev} {x : Str} {cn : String} {cs : List String} {a : Addr}
theorem FldM.nil : FldM fa X.K x [] := fun c hc => by cases hc
theorem FldM.cons (hc : fa cn = some a) (cl : Cls X.K a) (na : NoAttr X.K a x) (h : FldM fa X.K x cs) : FldM fa X.K x (cn :: cs) := fun c h2 => by
  rcases List.mem_cons.mp h2 with e | e
  · rw [e]; exact ⟨a, hc, cl, na⟩
  · exact h c e
end
section
variable {η : Env} {S : Sto} {f : Ev} {x : Str} {cs : List String} {cn : String} {d : D} {fl : List (Str × D)}
def fldMK2 (cs : List String) (x : Str) (S : Sto) : Option (String × List (Str × D)) → Option (D × Sto) := fun o => o.bind fun q => if q.1 ∈ cs then (q.2.lookup x).bind fun d => some (d, S) else none
def fldMK (cs : List String) (x : Str) : Option (D × Sto) → Option (D × Sto) := fun o => o.bind fun p => fldMK2 cs x p.2 (insOf p.2 p.1)
@[simp] theorem q_fldM : eFldM cs x f η S = fldMK cs x (f η S) := id rfl
@[simp] theorem fldMK_ : fldMK cs x (some (d, S)) = fldMK2 cs x S (insOf S d) := id rfl
end
end HS
namespace HS
open PySem L2
def rNSetd (P : Program) (wd : World) (K : PySem.W.Frag) : L2.V → List L2.V → Hp → VK → Prop := fun x xs H Q => ∃ p es k y z, x = .ref p ∧ xs = [y, z] ∧ DicH P wd H p es ∧ KeysH K H es ∧ FitH es k ∧ KeyH K H y k ∧ AskH k ∧ es.length < sizeLine ∧
  (∀ v', lookE es k = some v' → Q v' H) ∧ (lookE es k = none → ∀ ho, DicH P wd (upd H p ho) p (putE es k y z) → Q z (upd H p ho))
def mSetd : RM := fun d ds S => match d, ds with
  | .ref i, [y, v] => (dicOf S (.ref i)).bind fun kvs => (keyN y).bind fun k => if dFit kvs k = true ∧ kvs.length < SZ then (match dLook kvs k with
    | some v' => some (v', S)
    | none => some (v, S.set i (.dic (dPut kvs k y v)))) else none
  | _, _ => none
section
variable {fa : String → Option Addr} {X : Cx} {o e : Expr} {es : List Expr} {apos cpos : Pos} {f : Ev} {fs : EvA} {k0 : Nat}
end
section
variable {α : Type} [DV α] [DecidableEq α] [KV α] {S A E : Sto} {l : List (α × D)} {x : α} {v : D} {i : Nat}
end
end HS
namespace HS
open PySem L2
def bListDS : RDs := fun ds S => match ds with
  | [d] => (dicOf S d).bind fun kvs => some (.lst (kvs.map (·.1)), S)
  | _ => none
section
variable {fa : String → Option Addr} {X : Cx} {M : PM} {e : Expr} {es : List Expr} {pos p : Pos} {fs : EvA}
end
end HS
namespace HS
open PySem L2 PyProof.Rows
section
variable {fa : String → Option Addr} {X : Cx} {kx vx tg iter : Expr} {ifs : List Expr} {scope : Scope} {own : List (Str × Nat)} {pos : Pos} {it : EvI} {gf : Tg} {ts : List Nat} {tt : EvB} {fk fv : Ev} {k0 : Nat}
end
def tD1 (P : Program) (wd : World) (K : PySem.W.Frag) (tk tv : TE) : TE := fun σ H Q => ∀ D, H D = none → tk σ (upd H D (nEmpty P wd D)) fun y H4 => tv σ H4 fun z H5 => tPut P wd K D (fun H' => Q (.ref D) H') y z H5
section
variable {X : Cx}
end
def eD1 (fk fv : Ev) : Ev := fun η S => (fk η S).bind fun r => (fv η r.2).bind fun z => (keyN r.1).bind fun _ => some (.dic [(r.1, z.1)], z.2)
section
variable {fa : String → Option Addr} {X : Cx} {M : PM} {kx vx : Expr} {pos : Pos} {fk fv : Ev} {k0 : Nat}
end
def eRevL (f : Ev) : Ev := fun η S => (f η S).bind fun p => (lstOf p.2 p.1).bind fun xs => some (.lst xs.reverse, p.2)
section
variable {fa : String → Option Addr} {X : Cx} {M : PM} {e : Expr} {f : Ev} {k : Nat} {p1 p2 p3 pos : Pos}
end
section
variable {η : Env} {S : Sto} {f fk fv : Ev} {d y : D}
def rvsK : Option (D × Sto) → Option (D × Sto) := fun o => o.bind fun p => (lstOf p.2 p.1).bind fun xs => some (.lst xs.reverse, p.2)
@[simp] theorem q_revL : eRevL f η S = rvsK (f η S) := id rfl
def d1K (fv : Ev) (η : Env) : Option (D × Sto) → Option (D × Sto) := fun o => o.bind fun r => (fv η r.2).bind fun z => (keyN r.1).bind fun _ => some (.dic [(r.1, z.1)], z.2)
@[simp] theorem q_d1 : eD1 fk fv η S = d1K fv η (fk η S) := id rfl
def d1K2 (y : D) : Option (D × Sto) → Option (D × Sto) := fun o => o.bind fun z => (keyN y).bind fun _ => some (.dic [(y, z.1)], z.2)
@[simp] theorem d1K_ : d1K fv η (some (y, S)) = d1K2 y (fv η S) := id rfl
@[simp] theorem d1K2_ {α : Type} [DV α] [DecidableEq α] [KV α] {x : α} : d1K2 (dv x) (some (d, S)) = some (dicD [(x, d)], S) := by
  unfold d1K2
  rw [Option.bind_some, KV.hk]
  rfl
end
end HS
namespace PySem
open Sem AutoSeq1
set_option maxRecDepth 8000 in
theorem ext_tup (l : Addr) (items : Array Value) (n : Nat) (b : Addr) (items2 : Array Value) (n2 : Nat) (dc : Option Addr) (sl : Array (Option Value)) (hs0 : ¬(!items.isEmpty && Builtin.List.listTooLong (items.size + items2.size)) = true) (hs1 : items.size ≤ sizeLine) (hs2 : items.size + items2.size ≤ sizeLine + 1) :
    Meets (Builtin.«list.extend» ⟨[.ref l, .ref b], []⟩) (fun _ R s => s.heap.get? l = some { cls := .type "list", dict := none, data := .seq items n, slots := #[] } ∧ s.heap.get? b = some { cls := .type "tuple", dict := dc, data := .seq items2 n2, slots := sl } ∧ R (.ok (.ret Value.none)) { s with heap := s.heap.update l (Obj.mapSeq fun x => x ++ items2), toks := s.toks }) :=
  .of_wp fun prog w A R s h => by
    obtain ⟨hp, g, d, tk, os⟩ := s; obtain ⟨hl, hb, h⟩ := h; have f1 := idx_int; have f2 := sub_tuple_tuple; have f3 := sub_list_list; have f4 := sub_tuple_list; have f5 := sub_list_tuple;
    have hz' : (items ++ items2).size ≤ sizeLine + 1 := by rw [Array.size_append]; exact hs2
    wp_walk using (wpAny_updateSeq hl rfl (hz := hs1) (_hz' := hz')), wpAny_loadPart' hl, wpAny_loadPart' hb; exact ⟨_, rfl, h⟩
end PySem
namespace HS
open PySem L2
def rExtT (K : PySem.W.Frag) : L2.V → List L2.V → Hp → VK → Prop := fun x vs H Q => ∃ l b xs zs, x = .ref l ∧ vs = [.ref b] ∧ H l = some (.lst xs) ∧ SqT K H b zs ∧ xs.length + zs.length ≤ sizeLine ∧ Q .non (upd H l (.lst (xs ++ zs)))
def mExtT : RM := fun a ds S => match ds with
  | [.tup ys] => (stL S a).bind fun q => if q.2.length + ys.length ≤ SZ then some (.non, S.set q.1 (.lst (q.2 ++ ys))) else none
  | _ => none
section
variable {S : Sto} {i : Nat} {a : D} {xs ys : List D}
def extTK (ys : List D) (S : Sto) : Option (Nat × List D) → Option (D × Sto) := fun o => o.bind fun q => if q.2.length + ys.length ≤ SZ then some (.non, S.set q.1 (.lst (q.2 ++ ys))) else none
@[simp] theorem q_extT : mExtT a [.tup ys] S = extTK ys S (stL S a) := id rfl
end
end HS
namespace PySem.W
open PySem PySem.Calls PyProof.Rows
section
variable {prog : Program} {w : World} {A : Around} {E : Value → Shared → Prop} {s : Shared}
theorem collect_tup {l : Addr} {vs : List Value} {Q : List Value → Shared → Prop} (hl : IsTup s.heap l vs.toArray)
    (h : Q vs { s with heap := (s.heap.push (seqObj "list" #[] 0)).update s.heap.objs.size (Obj.mapSeq (· ++ vs.toArray)) }) (hsz : vs.length ≤ sizeLine) :
    wpAny (model prog w) A (collect (.ref l)) Q E s := by
  obtain ⟨o, ho, hc, n, hd⟩ := id hl
  unfold collect
  refine wpAny_bind (wpAny_runValue (codeAny_builtin entry_proto_collect' ?_))
  show wpAny _ _ (do again (.builtin "list.__iadd__" ⟨[← newList [], .ref l], []⟩)) _ _ s
  refine wpAny_bind (wpAny_newList (wpAny_pure ⟨Code.quiet_builtin _ (by decide +kernel), codeAny_builtin entry_list_iadd' ?_⟩))
  show wpAny _ _ (Builtin.List.listExtendWith (.ref s.heap.objs.size) (.ref l) (.ref s.heap.objs.size)) _ _ { s with heap := s.heap.push (seqObj "list" #[] 0) }
  unfold Builtin.List.listExtendWith
  have ho' : (s.heap.push (seqObj "list" #[] 0)).get? l = some o := Heap.get?_push_of_some _ ho
  refine wpAny_bind (wpAny_typeOf (T := "tuple") ⟨o, ho', hc⟩ ?_)
  have ht : (Value.type "tuple" == Value.type "tuple") = true := by rfl
  rw [if_pos (by rw [ht]; simp)]
  refine wpAny_bind (listItems_at ho' hd ?_)
  refine wpAny_bind (listItems_at (xs := #[]) (n := 0) (Heap.get?_push_size _ rfl) rfl ?_)
  rw [if_neg (by simp)]
  refine wpAny_bind (listUpdate_at (xs := #[]) (n := 0) (Heap.get?_push_size _ rfl) rfl ?_ (Nat.zero_le _) (by show (#[] ++ vs.toArray).size ≤ sizeLine + 1; simp only [Array.size_append, List.size_toArray, List.length_nil]; omega))
  refine wpAny_pure ?_
  show wpAny (model prog w) A (do
      let o ← load s.heap.objs.size
      match o.data with
      | .seq xs _ => pure xs.toList
      | _ => unsupported "internal:collect") Q E { s with heap := (s.heap.push (seqObj "list" #[] 0)).update s.heap.objs.size (Obj.mapSeq (· ++ vs.toArray)) }
  refine wpAny_bind (wpAny_load (get?_update_seq (Heap.get?_push_size _ rfl) _) ?_)
  show wpAny _ _ (pure ((#[] : Array Value) ++ vs.toArray).toList) Q E _
  rw [show ((#[] : Array Value) ++ vs.toArray).toList = vs by simp]
  exact wpAny_pure h
theorem sorted_of_sortT {l : Addr} {vs : List Value} {kw : List (Str × Value)} {Q : Value → Shared → Prop} (hl : IsTup s.heap l vs.toArray) (hL : vs.length ≤ sizeLine) (ha1 : argsOk "sorted" ⟨[.ref l], kw⟩) (ha2 : ∀ x, argsOk "list.sort" ⟨[.ref x], kw⟩)
    (body : ∀ E' : Value → Shared → Prop, wpAny (model prog w) A.in1.in1 (Builtin.«list.sort» ⟨[.ref (s.heap.objs.size + 1)], kw⟩) (fun f s' => f = .done (.ret .none) ∧ Q (.ref (s.heap.objs.size + 1)) s') E' { s with heap := copyHeap s.heap vs }) :
    wpAny (model prog w) A (call (.builtin "sorted") [.ref l] kw) Q E s := by
  refine call_function_entry_kw kind_sorted plain_sorted entry_sorted ha1 ?_
  unfold Builtin.«sorted»
  refine wpAny_bind (m := checkCount "sorted" 1 1 _) (wpAny_pure ?_)
  refine wpAny_bind (collect_tup hl ?_ hL)
  refine wpAny_bind (wpAny_newList ?_ hL)
  have hsz : ((s.heap.push (seqObj "list" #[] 0)).update s.heap.objs.size (Obj.mapSeq (· ++ vs.toArray))).objs.size = s.heap.objs.size + 1 := by
    rw [Heap.size_update, size_push']
  show wpAny _ _ _ _ _ { s with heap := copyHeap s.heap vs }
  rw [hsz]
  refine wpAny_bind (wpAny_holding (wpAny_call_entry_kw slot_list_sort ⟨_, copyHeap_at s.heap vs, rfl⟩ entry_list_sort ?body (ha2 _)))
  case body =>
    show wpAny (model prog w) A.in1.in1 (Builtin.«list.sort» ⟨[.ref (s.heap.objs.size + 1)], kw⟩) _ _ _
    refine wpAny_mono (body _) (fun f s' hf => ?_) fun _ _ e => e
    obtain ⟨rfl, hq⟩ := hf
    exact ⟨_, rfl, wpAny_pure ⟨_, rfl, hq⟩⟩
end
end PySem.W

namespace HS
open PySem L2 PySem.W PyProof.Rows
section
variable {fa : String → Option Addr} {X : Cx} {M : PM} {c : Cv}
theorem sortK_runT [PmList M] {q : Addr} {l : Addr} {w : Wd} {S S1 : Sto} {xs kds : List D} {vs : List L2.V} {ks : List PyData} {k : Nat} {pins : List (Addr × Obj)} {σ : L2.St} {s : Shared} {Q : VK} (I : L2.Inv X pins σ w.H s) (hS : Sim (cf fa X) w S) {J : Wd → Prop} (hK : KeyRunJ J X (cf fa X) (.ref q) c) (hJ : ∀ w', Le w w' → J w')
    (hl : SqT X.K w.H l vs) (rl : RepL (cf fa X) w xs vs) (hr : Room k X.A) (hZ : xs.length ≤ SZ) (h1 : kdR c xs S = some (kds, S1)) (h2 : pyAll S1 kds = some ks) (h3 : SortOk ks) (hQ : M (cf fa X) w (.lst (sortD xs ks)) S1 Q) :
    wpAny (model X.prog X.w) X.A (call (.builtin "sorted") [.ref l] [(Str.ofString "key", .ref q)]) (EP X pins σ Q) X.xe s := by
  obtain ⟨its, rv, hpl, hz⟩ := I.tuple hl
  have hlen : its.length = xs.length := by rw [← rv.length, rl.length]
  have hzi : its.length ≤ sizeLine := by rw [hlen]; exact sz hZ
  refine sorted_of_sortT hpl hzi (ksk_s1 _ _) (fun _ => ksk_l1 _ _) fun E' => ?_
  rw [ksk_t1]
  obtain ⟨a, ha⟩ : ∃ a, a = s.heap.objs.size + 1 := ⟨_, rfl⟩
  rw [← ha]
  have na : Apart X pins a := apart_of I (by rw [ha]; exact Nat.le_succ _)
  have ha0 : w.H a = none := I.hok.fresh (by rw [ha]; exact Nat.le_succ _)
  have ho : (copyHeap s.heap its).get? a = some (seqObj "list" its.toArray 0) := by rw [ha]; exact copyHeap_at s.heap its
  obtain ⟨g0, hg0⟩ : ∃ g, g = copyHeap s.heap its := ⟨_, rfl⟩
  rw [← hg0] at ho ⊢
  have kg0 : ∀ b o, s.heap.get? b = some o → g0.get? b = some o := fun b o e => by rw [hg0]; exact copyHeap_old e
  obtain ⟨e1, ho1⟩ : ∃ e1, (g0.update a (Obj.mapSeq fun _ => (#[] : Array Value))).get? a = some (seqObj "list" #[] e1) := ⟨_, get?_update_seq ho fun _ => #[]⟩
  unfold ksk_tree
  refine wpAny_bind (listItems_at ho rfl ?_)
  refine wpAny_bind (listUpdate_at ho rfl ?_ (by rw [List.size_toArray]; exact hzi) (Nat.zero_le _))
  refine wpAny_bind (seqEpoch_at ho1 rfl ?_)
  refine wpAny_bind (wpAny_newTuple ?_ (by show its.length ≤ _; exact hzi))
  refine wpAny_bind (wpAny_newList ?_ (Nat.zero_le _))
  refine wpAny_holding ?_
  obtain ⟨kS, hkS⟩ : ∃ kS, kS = ((g0.update a (Obj.mapSeq fun _ => (#[] : Array Value))).push (seqObj "tuple" its.toArray 0)).objs.size := ⟨_, rfl⟩
  obtain ⟨g1, hg1⟩ : ∃ g, g = ((g0.update a (Obj.mapSeq fun _ => (#[] : Array Value))).push (seqObj "tuple" its.toArray 0)).push (seqObj "list" #[] 0) := ⟨_, rfl⟩
  have hsz0 : s.heap.objs.size + 2 ≤ g0.objs.size := by
    have h9 : s.heap.objs.size + 1 < g0.objs.size := ha ▸ Heap.lt_size ho
    exact h9
  have hks0 : kS = g0.objs.size + 1 := by rw [hkS, size_push', Heap.size_update]
  have nk : Apart X pins kS := apart_of I (by omega)
  have hka : kS ≠ a := by omega
  have hk0 : w.H kS = none := I.hok.fresh (by omega)
  have kg1 : ∀ b o, s.heap.get? b = some o → g1.get? b = some o := fun b o e => by
    rw [hg1]
    refine Heap.get?_push_of_some _ (Heap.get?_push_of_some _ ?_)
    rw [Heap.get?_update_ne _ _ _ _ (by have h9 : b < s.heap.objs.size := Heap.lt_size e; exact Nat.ne_of_lt (by rw [ha]; exact Nat.lt_succ_of_lt h9))]
    exact kg0 b o e
  have ga : g1.get? a = some (seqObj "list" #[] e1) := by rw [hg1]; exact Heap.get?_push_of_some _ (Heap.get?_push_of_some _ ho1)
  have gk : g1.get? kS = some (seqObj "list" #[] 0) := by rw [hg1, hkS]; exact Heap.get?_push_size _ rfl
  show wpAny _ _ (ksk_rest a (.ref q) false its.toArray e1 (.ref _)) _ _ { s with heap := _ }
  rw [← hkS, ← hg1]
  unfold ksk_rest
  refine wpAny_bind (wpAny_rule ?_)
  first
    | rw [List.forIn_toArray]
    | (rw [← Array.forIn_toList]; simp only [List.toList_toArray])
    | rw [← Array.forIn_toList]
  refine wpAny_bind (ksk_fold (fun i s' => KSt (cf fa X) c w S1 xs kds pins σ X a kS e1 i s') its 0 { s with heap := g1 } ⟨w, S, [], #[], 0, [], kds, I.kept kg1, Le.refl w, hS, hk0, ha0, gk, ga, .nil, .nil, rfl, h1, rfl⟩ ?step ?done)
  case step =>
    intro j x s' hx hI
    rw [Nat.zero_add] at hI ⊢
    refine wpAny_bind (wpAny_attempt (wpAny_mono (sortK_step hK hJ na nk hka rl rv hzi j x s' hx hI) (fun u s'' hq => ?_) fun _ _ hF => hF.elim))
    obtain ⟨kA, e, hk, hks, _⟩ := hq 0
    try dsimp only
    obtain ⟨c2, hc2⟩ : ∃ c2, (s''.heap.update kS (Obj.mapSeq (·.push u))).get? kS = some (seqObj "list" (kA.push u) c2) := ⟨_, get?_update_seq hk (·.push u)⟩
    have sb := Heap.SameBut.update s''.heap kS (Obj.mapSeq (·.push u))
    refine wpAny_bind (listUpdate_at hk rfl ?_ hks (Nat.le_trans (Nat.le_of_eq (Array.size_push ..)) (Nat.succ_le_succ hks)))
    obtain ⟨kA', e', hk', _, fin⟩ := hq c2
    rw [hk] at hk'
    have ee : kA' = kA := by
      have z := congrArg Obj.data (Option.some.inj hk')
      have z : PySem.Data.seq kA e = PySem.Data.seq kA' e' := z
      injection z with z2
      exact z2.symm
    subst ee
    exact wpAny_pure ⟨rfl, fin _ hc2 fun b o hb ho => (sb.2 b hb).trans ho⟩
  case done =>
    intro s' hI
    obtain ⟨w', S', kvs, kA, e, done, rst, I', le, hS', hk0', ha0', hk, ha', rk, rd, hsz, hrst, hd⟩ := hI.ex
    have hnil : xs.drop (0 + its.length) = [] := List.drop_eq_nil_of_le (by omega)
    rw [hnil] at hrst
    cases hrst
    rw [List.append_nil] at hd
    subst hd
    have hlk : kds.length = its.length := by
      have z1 := rd.length
      have z2 := rk.length
      simp only [Array.length_toList] at z2
      omega
    have hD : DpAll X.K w'.H kvs ks := repL_dp (C := cf fa X) (fun d _ v p r h => rep_dp d v p r h) rd h2
    have hrd := keys_read (C := cf fa X) I' hD rk
    try dsimp only
    refine wpAny_bind (listItems_at hk rfl ?_)
    obtain ⟨G, gg1, gg2⟩ := restrict s'.heap fun b => decide (b ≠ kS)
    have hksz : kA.size = its.length := by omega
    refine keyH_end (κ := dataKind s'.heap ks) (h₁ := G) (fun b o hb e => ?_) (gg2 kS (decide_eq_false fun z => z rfl)) hk ha' hka (sortsAt_any hrd h3 fun d hd => depth_room hr (h3.2.2 d hd)) hksz hzi fun h3' tk3 c3 k3 n3 => ⟨rfl, ?_⟩
    · by_cases hb2 : b = kS
      · rw [hb2, gg2 kS (decide_eq_false fun z => z rfl)] at e; cases e
      · rw [gg1 b (decide_eq_true hb2)] at e; exact e
    · have hlks : ks.length = xs.length := by
        have z1 := hrd.length
        rw [Array.length_toList] at z1
        omega
      obtain ⟨out, ho⟩ : ∃ out, out = sortVals (dataKind s'.heap ks) false kA.toList its := ⟨_, rfl⟩
      rw [← ho] at n3
      have hz2 := zip_rep (rl.mono le.f) rv hlks
      have hko : KeyedOut false ((xs.zip ks).map (·.2)) its out := ⟨s'.heap, kA.toList, by rw [List.map_snd_zip (by omega)]; exact h3.1, by rw [List.map_snd_zip (by omega)]; exact ho, by rw [List.map_snd_zip (by omega)]; exact hrd⟩
      have hout := keyedOut_each (fun p : D × PyData => p.2) hko hz2
      obtain ⟨ovs, ov1, ov2⟩ := out_rep hout
      have hol : ovs.length ≤ sizeLine := by
        have z1 := ov1.length
        have z2 := hko.length (by rw [List.map_snd_zip (by omega)]; omega)
        omega
      have Ifin : L2.Inv X pins σ (upd w'.H a (.lst ovs)) { s' with heap := h3', toks := tk3 } := inv_two na nk I' ha0' hk0' (fun b u h1 h2 e => k3 b u h1 (by rw [gg1 b (decide_eq_true h2)]; exact e)) ⟨hol, out, c3, ov1, n3⟩
      exact ⟨.ref a, _, Ifin, rfl, PmList.newLst (PmOk.mono le hQ) hS' ov2 ha0'⟩
end
noncomputable def bSortKU (c : Cv) : D → Sto → Option (D × Sto) := fun d S => match d with
  | .tup xs => bSortK c (.lst xs) S
  | d => bSortK c d S
noncomputable def eSortKU (c : Cv) (f : Ev) : Ev := fun η S => (f η S).bind fun r => bSortKU c r.1 r.2
section
variable {fa : String → Option Addr} {X : Cx} {M : PM} {e : Expr} {pos p p2 p3 : Pos} {f : Ev} {fs : EvA} {x : Str} {k : Nat} {c : Cv}
def rSKU (fa : String → Option Addr) (X : Cx) (M : PM) (c : Cv) (a : Addr) : List L2.V → List L2.V → Hp → VK → Prop := fun vs zs H Q => ∃ w S S1 d D l, w.H = H ∧ vs = [.ref l] ∧ zs = [.ref a] ∧ Sim (cf fa X) w S ∧ Rep (cf fa X) w d (.ref l) ∧ bSortKU c d S = some (D, S1) ∧ M (cf fa X) w D S1 Q
theorem cr_SKU [PmList M] {a : Addr} (hK : KeyRun X (cf fa X) (.ref a) c) (hr : Room k X.A) : CallRK X (.builtin "sorted") [Str.ofString "key"] (rSKU fa X M c a) := by
  intro pins s σ H vs zs us ws Q I r rz h
  obtain ⟨w, S, S1, d, D, l, rfl, rfl, rfl, hS, rd, hb, hQ⟩ := h
  by_cases ht : ∃ xs, d = .tup xs
  · obtain ⟨xs, rfl⟩ := ht
    obtain rfl := Vals.ref1 r
    obtain rfl := Vals.ref1 rz
    unfold bSortKU bSortK at hb
    obtain ⟨xs', h1, hb⟩ := bsome hb
    cases h1
    split at hb
    · rename_i hz
      obtain ⟨⟨kds, S2⟩, h2, hb⟩ := bsome hb
      obtain ⟨ks, h3, hb⟩ := bsome hb
      split at hb
      · rename_i h4
        cases hb
        obtain ⟨p, vs, e1, e2, r2⟩ := rd.tupH
        cases e1
        exact sortK_runT I hS hK (fun _ _ => trivial) e2 r2 hr hz h2 h3 h4 hQ
      · cases hb
    · cases hb
  · have hb2 : bSortK c d S = some (D, S1) := by
      unfold bSortKU at hb
      cases d with
      | tup xs => exact absurd ⟨xs, rfl⟩ ht
      | _ => exact hb
    exact cr_SK hK hr pins s σ w.H [.ref l] [.ref a] us ws Q I r rz ⟨w, S, S1, d, D, l, rfl, rfl, rfl, hS, rd, hb2, hQ⟩
theorem se_sortKU [PmList M] {y : Str} {a : Addr} {fd : FuncData} {ps : List Str} (F : FnOk X.prog X.w X.K X.mg X.base CX0 k a fd ps (spOf (cf fa X) c 1)) (hr : Room (k + 2) X.A) (hb : Binds X.K fd ps []) (hg : Gl X "sorted") (hm : X.mg "sorted" = none)
    (hgy : Gl X y) (hmy : X.mg y = some (.ref a)) (ha : SE fa X e f) (hdy : (y == ("__debug__" : Str)) = false := by decide)
    (hs : starEach (e :: []) X.env = (false, eval e X.env) :: starEach [] X.env := by rfl)
    (he : backTo pos (starEach [e] X.env) = (false, eval e X.env) :: backTo pos (starEach [] X.env) := by rfl) (hpl : (backTo pos (starEach [e] X.env)).any (·.1) = false := by rfl)
    (hall : (backToKw pos (keywordEach [⟨some (Str.ofString "key"), .Name y p2, p3⟩] X.env)).all (·.1.isSome) = true := by rfl) (hnone : (backToKw pos (keywordEach [⟨some (Str.ofString "key"), .Name y p2, p3⟩] X.env)).any (·.1.isNone) = false := by rfl)
    (hks : (backToKw pos (keywordEach [⟨some (Str.ofString "key"), .Name y p2, p3⟩] X.env)).filterMap (·.1) = [Str.ofString "key"] := by rfl) :
    SEm fa M X (.Call (.Name "sorted" p) [e] [⟨some (Str.ofString "key"), .Name y p2, p3⟩] pos) (eSortKU c f) := by
  obtain ⟨t, q, ha⟩ := ha.ex
  refine ⟨tCKw (rSKU fa X M c a) (tCons t tNil) (tCons (tC (.ref a)) tNil), pe_callBK (cr_SKU (keyRun_fn F hr hb) hr) hg hm rfl (pa_cons q pa_nil hs) (pk_cons (pe_glob (v := .ref a) hgy hmy rfl hdy) pk_nil) (by decide) (by decide) he hpl hall hnone hks, fun w σ η S d S' hη hS hf Q hQ => ?_⟩
  obtain ⟨⟨d1, S1⟩, h1, h2⟩ := bsome hf
  refine ha w σ η S d1 S1 hη hS h1 _ fun v w1 e1 s1 r1 => ?_
  have : ∃ l, v = .ref l := by
    have key : ∀ d1, Rep (cf fa X) w1 d1 v → bSortK c d1 S1 = some (d, S') → ∃ l, v = .ref l := fun d1 r1 h2 => by
      unfold bSortK at h2
      obtain ⟨xs, h3, _⟩ := bsome h2
      obtain ⟨p, vs, e, _⟩ := r1.lstH s1 h3
      exact ⟨p, e⟩
    unfold bSortKU at h2
    cases d1 with
    | tup xs =>
      obtain ⟨p, vs, e, _⟩ := r1.tupH
      exact ⟨p, e⟩
    | _ => exact key _ r1 h2
  obtain ⟨l, rfl⟩ := this
  exact ⟨w1, S1, S', d1, d, l, rfl, rfl, rfl, s1, r1, h2, PmOk.mono e1 hQ⟩
end
section
variable {η : Env} {S : Sto} {f : Ev} {c : Cv} {d : D} {xs : List D}
noncomputable def sortKUK (c : Cv) : Option (D × Sto) → Option (D × Sto) := fun o => o.bind fun r => bSortKU c r.1 r.2
@[simp] theorem q_sortKU : eSortKU c f η S = sortKUK c (f η S) := id rfl
@[simp] theorem sortKUK_ : sortKUK c (some (d, S)) = bSortKU c d S := id rfl
theorem sortKU_l (h : lstOf S d = some xs) : bSortKU c d S = bSortK c d S := by
  cases d with
  | tup ys => cases h
  | _ => rfl
theorem sortKU_t : bSortKU c (.tup xs) S = bSortK c (.lst xs) S := rfl
end
end HS
namespace HS
open PySem L2
def augK (i : Nat) (η : Env) (g : Int → Int → Int) (a : Int) : Option (D × Sto) → Option (Fl × Env × Sto) := fun o => o.bind fun p => match p.1 with
  | .int b => some (.nx, η.set i (some (.int (g a b))), p.2)
  | _ => none
def sAug (i : Nat) (g : Int → Int → Int) (f : Ev) : Sv := fun η S => match η[i]? with
  | some (some (.int a)) => augK i η g a (f η S)
  | _ => none
section
variable {fa : String → Option Addr} {X : Cx} {e : Expr} {fe : Ev} {pos : Pos}
end
section
variable {η : Env} {S : Sto} {f : Ev} {i : Nat} {g : Int → Int → Int} {a b : Int}
@[simp] theorem augK_ : augK i η g a (some (.int b, S)) = some (.nx, η.set i (some (.int (g a b))), S) := id rfl
end
end HS
namespace HS
open PySem PySem.Spec PyProof.Rows L2
section
variable {P : Program} {w : World}
/-- v is of no class statement, as n levels tell -/
def NoCls (P : Program) (w : World) (n : Nat) (s : Shared) (v : Value) : Prop := ∀ (A : Around) (E : Value → Shared → Prop) (Q : Bool → Shared → Prop), Q false s → wpAny (model P w) A (ofAClassStatement n v) Q E s
/-- whether v is hashed by value can be asked -/
def HashAsk (P : Program) (w : World) (n : Nat) (s : Shared) (v : Value) : Prop := ∀ (A : Around) (E : Value → Shared → Prop) (Q : Bool → Shared → Prop), (∀ b, Q b s) → wpAny (model P w) A (hashByValue n v) Q E s
theorem NoCls.seq {n : Nat} {s : Shared} {a : Addr} {o : Obj} {vs : Array Value} {m : Nat} (ho : s.heap.get? a = some o) (hc : o.cls = .type "tuple") (hd : o.data = .seq vs m) (hq : ∀ v ∈ vs.toList, NoCls P w n s v) : NoCls P w (n + 1) s (.ref a) := fun A E Q h => by
  have ht : s.TypeIs (.ref a) "tuple" := ⟨o, ho, hc⟩
  have et : ("tuple" == ("tuple" : String)) = true := by decide
  unfold ofAClassStatement
  refine wpAny_bind (wpAny_typeOf ht ?_)
  dsimp only
  simp only [et, if_true, Bool.not_true, Bool.false_eq_true, if_false]
  try refine wpAny_bind (wpAny_pure ?_)
  try simp only [Bool.not_true, Bool.false_eq_true, if_false]
  refine wpAny_bind (m := seqItems? (.ref a)) (wpAny_seqItems ho hd ?_)
  dsimp only
  refine wpAny_bind (m := forIn vs _ _) ?_
  rw [← Array.forIn_toList]
  refine wpAny_forIn_list _ (fun l r t => r.1 = none ∧ t = s ∧ ∀ v ∈ l, NoCls P w n s v) _ ?_ ?_ _ _ ⟨rfl, rfl, hq⟩
  · intro v l r t ⟨e1, e2, hl⟩
    subst e2
    refine wpAny_bind (hl v List.mem_cons_self _ _ _ ?_)
    simp only [Bool.false_eq_true, if_false]
    exact wpAny_pure ⟨rfl, rfl, fun u hu => hl u (List.mem_cons_of_mem _ hu)⟩
  · intro ⟨r1, r2⟩ t ⟨e1, e2, _⟩
    subst e2
    have e1 : r1 = none := e1
    subst e1
    exact wpAny_pure h
theorem HashAsk.seq {n : Nat} {s : Shared} {a : Addr} {o : Obj} {vs : Array Value} {m : Nat} (ho : s.heap.get? a = some o) (hc : o.cls = .type "tuple") (hd : o.data = .seq vs m) (hq : ∀ v ∈ vs.toList, HashAsk P w n s v) : HashAsk P w (n + 1) s (.ref a) := fun A E Q h => by
  have ht : s.TypeIs (.ref a) "tuple" := ⟨o, ho, hc⟩
  unfold hashByValue
  refine wpAny_bind (wpAny_specialOf ht F.slot_tuple_hash.lookup ?_)
  dsimp only
  refine wpAny_bind (m := seqItems? (.ref a)) (wpAny_seqItems ho hd ?_)
  dsimp only [Option.getD_some]
  refine wpAny_bind (m := forIn vs _ _) ?_
  rw [← Array.forIn_toList]
  refine wpAny_forIn_list _ (fun l r t => (r.1 = none ∨ r.1 = some false) ∧ t = s ∧ ∀ v ∈ l, HashAsk P w n s v) _ ?_ ?_ _ _ ⟨.inl rfl, rfl, hq⟩
  · intro v l r t ⟨e1, e2, hl⟩
    subst e2
    refine wpAny_bind (hl v List.mem_cons_self _ _ _ fun b => ?_)
    cases b with
    | true =>
      simp only [Bool.not_true, Bool.false_eq_true, if_false]
      exact wpAny_pure ⟨.inl rfl, rfl, fun u hu => hl u (List.mem_cons_of_mem _ hu)⟩
    | false =>
      simp only [Bool.not_false, if_true]
      exact wpAny_pure (wpAny_pure (h _))
  · intro ⟨r1, r2⟩ t ⟨e1, e2, _⟩
    subst e2
    have e1 : r1 = none ∨ r1 = some false := e1
    rcases e1 with e1 | e1
    · subst e1
      exact wpAny_pure (h _)
    · subst e1
      exact wpAny_pure (h _)
mutual
theorem noCls_key : ∀ (k : NestedKey) (v : Value) (n : Nat) (s : Shared), NestedIs s.heap k v → k.depth ≤ n → NoCls P w n s v
  | .none, _, n, s, x, _ => by cases x; intro A E Q h; cases n <;> exact wpAny_pure h
  | .num i, _, n, s, x, _ => by cases x <;> (intro A E Q h; cases n <;> exact wpAny_pure h)
  | .text y, _, n, s, x, _ => by cases x; intro A E Q h; cases n <;> exact wpAny_pure h
  | .tup ks, _, n, s, x, hn => by
    cases x with
    | tup hg hc hd hk =>
      simp only [NestedKey.depth] at hn
      cases n with
      | zero => omega
      | succ n => exact .seq hg hc hd (noCls_keys ks _ n s hk (by omega))
theorem noCls_keys : ∀ (ks : List NestedKey) (vs : List Value) (n : Nat) (s : Shared), NestedAll s.heap ks vs → NestedKey.depthAll ks ≤ n → ∀ v ∈ vs, NoCls P w n s v
  | [], _, n, s, x, _, v, hv => by cases x; cases hv
  | k :: ks, _, n, s, x, hn, v, hv => by
    cases x with
    | cons x1 x2 =>
      simp only [NestedKey.depthAll] at hn
      rcases List.mem_cons.mp hv with e | hv
      · rw [e]; exact noCls_key k _ n s x1 (by omega)
      · exact noCls_keys ks _ n s x2 (by omega) v hv
end
mutual
theorem hashAsk_key : ∀ (k : NestedKey) (v : Value) (n : Nat) (s : Shared), NestedIs s.heap k v → k.depth ≤ n → HashAsk P w n s v
  | .none, _, n, s, x, _ => by cases x; intro A E Q h; cases n <;> exact wpAny_pure (h _)
  | .num i, _, n, s, x, _ => by cases x <;> (intro A E Q h; cases n <;> exact wpAny_pure (h _))
  | .text y, _, n, s, x, _ => by cases x; intro A E Q h; cases n <;> exact wpAny_pure (h _)
  | .tup ks, _, n, s, x, hn => by
    cases x with
    | tup hg hc hd hk =>
      simp only [NestedKey.depth] at hn
      cases n with
      | zero => omega
      | succ n => exact .seq hg hc hd (hashAsk_keys ks _ n s hk (by omega))
theorem hashAsk_keys : ∀ (ks : List NestedKey) (vs : List Value) (n : Nat) (s : Shared), NestedAll s.heap ks vs → NestedKey.depthAll ks ≤ n → ∀ v ∈ vs, HashAsk P w n s v
  | [], _, n, s, x, _, v, hv => by cases x; cases hv
  | k :: ks, _, n, s, x, hn, v, hv => by
    cases x with
    | cons x1 x2 =>
      simp only [NestedKey.depthAll] at hn
      rcases List.mem_cons.mp hv with e | hv
      · rw [e]; exact hashAsk_key k _ n s x1 (by omega)
      · exact hashAsk_keys ks _ n s x2 (by omega) v hv
end
end
section
variable {P : Program} {w : World} {A : Around} {E : Value → Shared → Prop} {s : Shared}
/-- the tuple at b is the key k -/
abbrev KAt (P : Program) (w : World) (h : Heap) (k : NestedKey) (b : Addr) : Prop := (nestedKind P w).is h k b
end
end HS
namespace HS
open PySem PySem.Spec PyProof.Rows L2
/-- the c-th state of a search for the hash h -/
abbrev atN (m : Nat) (h : Int) (c : Nat) : SetTable.Probe := nth m (runAt m (SetTable.bits h % (m + 1)) (SetTable.bits h)) c
/-- the rows of a set -/
abbrev rowN (w : World) (p : Addr × NestedKey) : Int × Value := (p.2.hash w, .ref p.1)
/-- the set at a has these keys, by the tuples at these addresses -/
structure SetN (w : World) (h : Heap) (a : Addr) (L : List (Addr × NestedKey)) (es : Array (Int × Value)) (ep : Nat) (t : SetTable) : Prop where
  ob : ∃ o, h.get? a = some o ∧ o.ExactSet ∧ o.data = .set es ep t
  rows : es.toList = L.map (rowN w)
  tab : L2.TabOk t (L.map fun p => p.2.hash w)
  nd : (L.map (·.2)).Nodup
  room : L.length * 5 < t.mask * 3
  few : L.length < 64
section
variable {P : Program} {w : World} {A : Around} {E : Value → Shared → Prop} {s : Shared} {a : Addr} {L : List (Addr × NestedKey)} {es : Array (Int × Value)} {ep : Nat} {t : SetTable}
theorem SetN.size {h : Heap} (R : SetN w h a L es ep t) : es.size = L.length := by
  rw [← Array.length_toList, R.rows, List.length_map]
theorem SetN.psz {h : Heap} (R : SetN w h a L es ep t) : t.place.toList.length = L.length := by
  rw [Array.length_toList, R.tab.sz, List.length_map]
theorem SetN.fits {h : Heap} (R : SetN w h a L es ep t) : t.fits es.size = true := by
  have h1 := R.psz
  rw [Array.length_toList] at h1
  have h2 := R.size
  have h3 := R.room
  unfold SetTable.fits SetTable.fill
  rw [R.tab.dm]
  have : (#[] : Array Nat).size = 0 := rfl
  simp only [this, Bool.and_eq_true, beq_iff_eq, decide_eq_true_eq]
  omega
theorem SetN.row {h : Heap} (R : SetN w h a L es ep t) {i : Nat} {p : Addr × NestedKey} (hp : L[i]? = some p) : es[i]? = some (rowN w p) := by
  rw [← Array.getElem?_toList, R.rows, List.getElem?_map, hp]
  rfl
theorem SetN.calm {h : Heap} (R : SetN w h a L es ep t) : ¬ t.gaveWay = true := by
  unfold SetTable.gaveWay
  rw [mask_odd R.tab.mok]
  decide
end
end HS
namespace HS
open PySem PySem.Spec PyProof.Rows L2
section
variable {P : Program} {w : World} {A : Around} {E : Value → Shared → Prop} {s : Shared} {a : Addr} {L : List (Addr × NestedKey)} {es : Array (Int × Value)} {ep : Nat} {t : SetTable}
end
end HS
namespace HS
open PySem L2
/-- the set at D -/
def setHO (wd : World) (D : Addr) (L : List (Addr × NestedKey)) : HO := .ext fun h => ∃ es ep t, SetN wd h D L es ep t
/-- one more key -/
def tSPut (K : PySem.W.Frag) (wd : World) (D : Addr) (Nx : Hp → Prop) (y : L2.V) (H : Hp) : Prop :=
  ∃ L k, H D = some (setHO wd D L) ∧ (∀ p ∈ L, KeyH K H (.ref p.1) p.2) ∧ KeyH K H y k ∧ isTK k = true ∧ L.length + 1 < 64 ∧
    ∀ L' : List (Addr × NestedKey), (k ∈ L.map (·.2) → L' = L) → (k ∉ L.map (·.2) → ∃ x, y = .ref x ∧ L'.Perm ((x, k) :: L)) → Nx (upd H D (setHO wd D L'))
section
variable {X : Cx} {pins : List (Addr × Obj)} {σ : L2.St} {H : Hp} {s : Shared} {D : Addr} {y : L2.V} {u : Value} {Nx : Hp → Prop}
end
end HS
namespace HS
open PySem L2
abbrev nSet (wd : World) : Obj := { cls := .type "set", dict := none, data := .set #[] 0 (.fresh 0 0 (!wd.params.followText "set-order")) }
def tScN (wd : World) (K : PySem.W.Frag) (wi : TI) (g : TG) (tt : TT) (tk : TE) (vs : List Nat) : TE := fun σ H Q => wi σ H fun J H1 => ∀ D, H1 D = none → ∃ W : Nat → Nat → Hp → Prop, (∃ m, W 0 m (upd H1 D (setHO wd D []))) ∧ ∀ i m H, W i m H →
  (J.stop i H ∧ Q (.ref D) H) ∨ (J.go i H ∧ ∃ Nx : Hp → Prop, (∀ H', Nx H' → ∃ m', m' < m ∧ W (i + 1) m' H') ∧ ∀ x H', J.yld i H x H' → g x (L2.wipe σ vs) H' fun τ H2 => L2.wipe τ vs = L2.wipe σ vs ∧ tt τ H2 fun b H3 =>
    if b = true then tk τ H3 fun y H4 => tSPut K wd D Nx y H4 else Nx H3)
section
variable {X : Cx}
end

end HS
namespace HS
open PySem L2
open Classical in
noncomputable def scR (chk : Sto → Prop) (tg : Tg) (tt : EvB) (fk : Ev) (η0 : Env) : List D → List NestedKey → Sto → Option (List NestedKey × Sto)
  | [], acc, S => if chk S then some (acc, S) else none
  | x :: xs, acc, S => if chk S then (tg x η0).bind fun η1 => (tt η1 S).bind fun q =>
      if q.1 then (fk η1 q.2).bind fun r => (keyN r.1).bind fun k => if acc.length + 1 < 64 ∧ isTK k = true then scR chk tg tt fk η0 xs (if k ∈ acc then acc else acc ++ [k]) r.2 else none
      else scR chk tg tt fk η0 xs acc q.2 else none
noncomputable def eLenSc (it : EvI) (vs : List Nat) (tg : Tg) (tt : EvB) (fk : Ev) : Ev := fun η S => (it η S).bind fun p =>
  (scR p.1.chk tg tt fk (wipeE η vs) p.1.xs [] p.2).bind fun q => some (.int (q.1.length : Nat), q.2)
/-- the set so far stands at p, where nothing else looks -/
structure SN (C : Cf) (w : Wd) (p : Addr) (acc : List NestedKey) : Prop where
  l : p ∈ w.L
  m : p ∉ w.mu
  o : ∃ L : List (Addr × NestedKey), w.H p = some (setHO C.w p L) ∧ (L.map (·.2)).Perm acc ∧ ∀ q ∈ L, ∃ d, keyN d = some q.2 ∧ Rep C w d (.ref q.1)
theorem SN.mono {C : Cf} {w w' : Wd} {p : Addr} {acc : List NestedKey} (h : SN C w p acc) (e : Le w w') : SN C w' p acc := by
  obtain ⟨L, h1, h2, h3⟩ := h.o
  exact ⟨e.hold p h.l, e.notmu h1 h.m, L, e.keep p _ h1 h.m, h2, fun q hq => let ⟨d, a, b⟩ := h3 q hq; ⟨d, a, b.mono e.f⟩⟩
section
variable {C : Cf} {w0 wS wJ : Wd} {J : It} {xs : List D} {acc ys : List NestedKey} {chk : Sto → Prop} {p : Addr} {gf : Tg} {ts vs : List Nat} {tt : EvB} {fk : Ev} {η : Env} {σ : L2.St} {S1 S' : Sto} {Qd : Hp → Prop}
end
/-- len of such a set -/
def rLenN (wd : World) : List L2.V → Hp → VK → Prop := fun xs H Q => ∃ D L, xs = [.ref D] ∧ H D = some (setHO wd D L) ∧ Q (.int (L.length : Nat)) H
section
variable {fa : String → Option Addr} {X : Cx} {kx tg iter : Expr} {ifs : List Expr} {scope : Scope} {own : List (Str × Nat)} {pos p1 p2 : Pos} {it : EvI} {gf : Tg} {ts : List Nat} {tt : EvB} {fk : Ev} {k0 : Nat} {x : Str}
end
end HS
namespace HS
open PySem L2
def sgD (x : Str) : List D := x.cps.toList.map fun c => D.str ⟨#[c]⟩
def strK : Option (D × Sto) → Option (Iter × Sto) := fun o => o.bind fun p => match p.1 with
  | .str x => some (⟨sgD x, fun _ => True⟩, p.2)
  | _ => none
def iStrE (f : Ev) : EvI := fun η S => strK (f η S)
section
variable {fa : String → Option Addr} {X : Cx} {tg e a b : Expr} {f g : Ev} {pos : Pos}
end
def oInS : RD := fun a b S => match a, b with
  | .str x, .str z => match x.cps.toList with
    | [c] => some (.bl (decide (c ∈ z.cps.toList)), S)
    | _ => none
  | _, _ => none
section
variable {fa : String → Option Addr} {X : Cx} {a b : Expr} {f g : Ev} {pos : Pos} {k : Nat}
end
section
variable {η : Env} {S : Sto} {f : Ev} {x z : Str} {c : Nat}
@[simp] theorem q_iStr : iStrE f η S = strK (f η S) := id rfl
@[simp] theorem strK_ : strK (some (.str x, S)) = some (⟨sgD x, fun _ => True⟩, S) := id rfl
@[simp] theorem q_inS : oInS (.str ⟨#[c]⟩) (.str z) S = some (.bl (decide (c ∈ z.cps.toList)), S) := id rfl
end
def nt : Nat → D → Bool
  | _, .int _ => true
  | _, .str x => PyData.strOk x && decide (x.length ≤ 1000)
  | n + 1, .tup xs => decide (xs.length ≤ 1000) && xs.all (nt n)
  | _, _ => false
theorem nt_tup {n : Nat} {xs : List D} (h : nt n (.tup xs) = true) : ∃ m, n = m + 1 ∧ xs.length ≤ 1000 ∧ ∀ x ∈ xs, nt m x = true := by
  cases n with
  | zero => simp [nt] at h
  | succ m =>
    rw [nt, Bool.and_eq_true, decide_eq_true_eq] at h
    exact ⟨m, rfl, h.1, List.all_eq_true.mp h.2⟩
theorem nt_cases {n : Nat} {d : D} (h : nt n d = true) : (∃ i, d = .int i) ∨ (∃ x, d = .str x ∧ PyData.strOk x = true ∧ x.length ≤ 1000) ∨ ∃ xs m, d = .tup xs ∧ n = m + 1 ∧ xs.length ≤ 1000 ∧ ∀ x ∈ xs, nt m x = true := by
  cases d with
  | int i => exact .inl ⟨i, rfl⟩
  | str x =>
    have : PyData.strOk x = true ∧ x.length ≤ 1000 := by cases n <;> simpa [nt] using h
    exact .inr (.inl ⟨x, rfl, this⟩)
  | tup xs =>
    obtain ⟨m, e, h1, h2⟩ := nt_tup h
    exact .inr (.inr ⟨xs, m, rfl, e, h1, h2⟩)
  | _ => cases n <;> simp [nt] at h
/-- as data -/
def ntP (n : Nat) : D → PyData
  | .int i => .int i
  | .str x => .str x
  | .tup xs => match n with
    | 0 => .none
    | m + 1 => .tuple (xs.map (ntP m))
  | _ => .none
theorem nt_pl : ∀ {n : Nat} {d : D}, nt n d = true → pl n d = true := by
  intro n
  induction n with
  | zero =>
    intro d h
    rcases nt_cases h with ⟨i, rfl⟩ | ⟨x, rfl, h1, h2⟩ | ⟨xs, k, rfl, e, _⟩
    · rfl
    · rfl
    · cases e
  | succ n ih =>
    intro d h
    rcases nt_cases h with ⟨i, rfl⟩ | ⟨x, rfl, h1, h2⟩ | ⟨xs, k, rfl, e, h1, h2⟩
    · rfl
    · rfl
    · cases e
      rw [pl]
      exact List.all_eq_true.mpr fun x hx => ih (h2 x hx)
theorem nt_py {S : Sto} : ∀ {n : Nat} {d : D}, nt n d = true → pyD S d = some (ntP n d) := by
  intro n
  induction n with
  | zero =>
    intro d h
    rcases nt_cases h with ⟨i, rfl⟩ | ⟨x, rfl, h1, h2⟩ | ⟨xs, k, rfl, e, _⟩
    · rw [pyD]; rfl
    · rw [pyD]; rfl
    · cases e
  | succ n ih =>
    intro d h
    rcases nt_cases h with ⟨i, rfl⟩ | ⟨x, rfl, h1, h2⟩ | ⟨xs, k, rfl, e, h1, h2⟩
    · rw [pyD]; rfl
    · rw [pyD]; rfl
    · cases e
      have go : ∀ l : List D, (∀ x ∈ l, nt n x = true) → pyAll S l = some (l.map (ntP n)) := fun l => by
        induction l with
        | nil => intro _; rw [pyAll]; rfl
        | cons x l ih2 =>
          intro hl
          rw [pyAll, ih (hl x List.mem_cons_self), Option.bind_some, ih2 fun y hy => hl y (List.mem_cons_of_mem _ hy)]
          rfl
      rw [pyD, go xs h2]
      rfl
theorem nt_lay : ∀ {n : Nat} {d : D}, nt n d = true → (ntP n d).canLay0 = true ∧ (ntP n d).depth ≤ n := by
  intro n
  induction n with
  | zero =>
    intro d h
    rcases nt_cases h with ⟨i, rfl⟩ | ⟨x, rfl, h1, h2⟩ | ⟨xs, k, rfl, e, _⟩
    · exact ⟨by simp [ntP, PyData.canLay0], by simp [ntP, PyData.depth]⟩
    · exact ⟨by simp [ntP, PyData.canLay0, h1], by simp [ntP, PyData.depth]⟩
    · cases e
  | succ n ih =>
    intro d h
    rcases nt_cases h with ⟨i, rfl⟩ | ⟨x, rfl, h1, h2⟩ | ⟨xs, k, rfl, e, h1, h2⟩
    · exact ⟨by simp [ntP, PyData.canLay0], by simp [ntP, PyData.depth]⟩
    · exact ⟨by simp [ntP, PyData.canLay0, h1], by simp [ntP, PyData.depth]⟩
    · cases e
      have go : ∀ l : List D, (∀ x ∈ l, nt n x = true) → PyData.canLayAll0 (l.map (ntP n)) = true ∧ PyData.depthAll (l.map (ntP n)) ≤ n := fun l => by
        induction l with
        | nil => intro _; exact ⟨by simp [PyData.canLayAll0], by simp [PyData.depthAll]⟩
        | cons x l ih2 =>
          intro hl
          obtain ⟨a1, a2⟩ := ih (hl x List.mem_cons_self)
          obtain ⟨b1, b2⟩ := ih2 fun y hy => hl y (List.mem_cons_of_mem _ hy)
          exact ⟨by simp [PyData.canLayAll0, a1, b1], by simp only [List.map_cons, PyData.depthAll]; omega⟩
      obtain ⟨a1, a2⟩ := go xs h2
      exact ⟨by simp [ntP, PyData.canLay0, a1], by simp only [ntP, PyData.depth]; omega⟩
theorem nt_eqv : ∀ {n : Nat} {d e : D}, nt n d = true → nt n e = true → (PyData.eqv (ntP n d) (ntP n e) = true ↔ d = e) := by
  intro n
  induction n with
  | zero =>
    intro d e h h'
    rcases nt_cases h with ⟨i, rfl⟩ | ⟨x, rfl, h1, h2⟩ | ⟨xs, k, rfl, e, _⟩
    · rcases nt_cases h' with ⟨j, rfl⟩ | ⟨y, rfl, _, _⟩ | ⟨ys, k, rfl, e, _⟩
      · simp [ntP, PyData.eqv]
      · simp [ntP, PyData.eqv]
      · cases e
    · rcases nt_cases h' with ⟨j, rfl⟩ | ⟨y, rfl, _, _⟩ | ⟨ys, k, rfl, e, _⟩
      · simp [ntP, PyData.eqv]
      · simp [ntP, PyData.eqv]
      · cases e
    · cases e
  | succ n ih =>
    intro d e h h'
    rcases nt_cases h with ⟨i, rfl⟩ | ⟨x, rfl, h1, h2⟩ | ⟨xs, k, rfl, ek, h1, h2⟩
    · rcases nt_cases h' with ⟨j, rfl⟩ | ⟨y, rfl, _, _⟩ | ⟨ys, k, rfl, e, _⟩
      · simp [ntP, PyData.eqv]
      · simp [ntP, PyData.eqv]
      · simp [ntP, PyData.eqv]
    · rcases nt_cases h' with ⟨j, rfl⟩ | ⟨y, rfl, _, _⟩ | ⟨ys, k, rfl, e, _⟩
      · simp [ntP, PyData.eqv]
      · simp [ntP, PyData.eqv]
      · simp [ntP, PyData.eqv]
    · rcases nt_cases h' with ⟨j, rfl⟩ | ⟨y, rfl, _, _⟩ | ⟨ys, k', rfl, e', h3, h4⟩
      · simp [ntP, PyData.eqv]
      · simp [ntP, PyData.eqv]
      · cases ek
        cases e'
        have go : ∀ l m : List D, (∀ x ∈ l, nt n x = true) → (∀ x ∈ m, nt n x = true) → (PyData.eqvAll (l.map (ntP n)) (m.map (ntP n)) = true ↔ l = m) := fun l => by
          induction l with
          | nil => intro m _ _; cases m <;> simp [PyData.eqvAll]
          | cons x l ih2 =>
            intro m hl hm
            cases m with
            | nil => simp [PyData.eqvAll]
            | cons y m =>
              have a := ih (hl x List.mem_cons_self) (hm y List.mem_cons_self)
              have b := ih2 m (fun z hz => hl z (List.mem_cons_of_mem _ hz)) fun z hz => hm z (List.mem_cons_of_mem _ hz)
              simp only [List.map_cons, PyData.eqvAll, Bool.and_eq_true, a, b, List.cons.injEq]
        have := go xs ys h2 h4
        simp only [ntP, PyData.eqv, this, D.tup.injEq]
/-- a nested tuple -/
abbrev NT := { d : D // nt 8 d = true }
noncomputable instance : DecidableEq NT := fun _ _ => Classical.propDecidable _
instance : DV NT := ⟨fun x => x.1, 8, fun x => ntP 8 x.1, fun x => nt_pl x.2, fun S x => nt_py x.2, fun x => (nt_lay x.2).1, fun x => (nt_lay x.2).2, fun x y => (nt_eqv x.2 y.2).trans Subtype.ext_iff.symm⟩
end HS
namespace HS
open PySem L2
structure T3 (α β γ : Type) where
  a : α
  b : β
  c : γ
deriving DecidableEq
instance {α β γ : Type} [DV α] [DV β] [DV γ] : DV (T3 α β γ) where
  d p := .tup [dv p.a, dv p.b, dv p.c]
  n := max (DV.n α) (max (DV.n β) (DV.n γ)) + 1
  py p := .tuple [DV.py p.a, DV.py p.b, DV.py p.c]
  hpl p := by
    have h1 : pl (max (DV.n α) (max (DV.n β) (DV.n γ))) (dv p.a : D) = true := pl_up (DV.hpl p.a) (by omega)
    have h2 : pl (max (DV.n α) (max (DV.n β) (DV.n γ))) (dv p.b : D) = true := pl_up (DV.hpl p.b) (by omega)
    have h3 : pl (max (DV.n α) (max (DV.n β) (DV.n γ))) (dv p.c : D) = true := pl_up (DV.hpl p.c) (by omega)
    simp [pl, h1, h2, h3]
  hpy S p := by
    rw [pyD, pyAll, pyAll, pyAll, pyAll, DV.hpy, DV.hpy, DV.hpy]
    rfl
  lay p := by simp [PyData.canLay0, PyData.canLayAll0, DV.lay p.a, DV.lay p.b, DV.lay p.c]
  dep p := by
    have h1 := DV.dep p.a
    have h2 := DV.dep p.b
    have h3 := DV.dep p.c
    simp only [PyData.depth, PyData.depthAll]
    omega
  eqv p q := by
    cases p; cases q
    simp [PyData.eqv, PyData.eqvAll, DV.eqv]
instance {α β γ : Type} [DV α] [DV β] [DV γ] [KS α] [KS β] [KS γ] : KS (T3 α β γ) := ⟨fun p => .tup [KS.k p.a, KS.k p.b, KS.k p.c], max (KS.m α) (max (KS.m β) (KS.m γ)) + 1, fun p => by
  have e : (dv p : D) = .tup [dv p.a, dv p.b, dv p.c] := rfl
  rw [e, nkD, nkAll, nkAll, nkAll, nkAll, KS.nk, KS.nk, KS.nk]
  rfl, fun p => by
  rw [NestedKey.depth, NestedKey.depthAll, NestedKey.depthAll, NestedKey.depthAll, NestedKey.depthAll]
  have h1 := KS.dp p.a
  have h2 := KS.dp p.b
  have h3 := KS.dp p.c
  omega⟩
instance : KV (T3 PcT Tx PcT) := ⟨KS.k, KS.nk, fun x => ks_key (by decide) x (fun h => by cases h), fun _ _ => ks_inj, fun _ _ => rfl⟩
section
variable {α β γ : Type} [DecidableEq α]
def addG (x : α) (y : β) (G : List (α × List β)) : List (α × List β) := if x ∈ G.map (·.1) then G.map fun p => if p.1 = x then (p.1, p.2 ++ [y]) else p else G ++ [(x, [y])]
def grp (f : γ → α) (g : γ → β) (xs : List γ) : List (α × List β) := xs.foldl (fun G z => addG (f z) (g z) G) []
def gget (G : List (α × List β)) (x : α) : List β := ((G.find? fun p => decide (p.1 = x)).map (·.2)).getD []
end
end HS
namespace HS
open PySem L2
end HS
namespace HS
open PySem L2 PySem.W PyProof.Rows
section
variable {fa : String → Option Addr} {X : Cx} {M : PM} {c : Cv}
/-- len, of a tuple -/
def cLenT : Cv := fun ds S => match ds with
  | [.tup xs] => some (.int xs.length, false, S)
  | _ => none
def rSKB (fa : String → Option Addr) (X : Cx) (M : PM) (c : Cv) : List L2.V → Hp → VK → Prop := fun vs H Q => ∃ w S S1 d D l, w.H = H ∧ vs = [.ref l] ∧ Sim (cf fa X) w S ∧ Rep (cf fa X) w d (.ref l) ∧ bSortK c d S = some (D, S1) ∧ M (cf fa X) w D S1 Q
end
end HS
namespace HS
open PySem L2
def tI (f : Ev) : EvB := fun η S => (f η S).bind fun p => match p.1 with
  | .int i => some (i != 0, p.2)
  | _ => none
def tiK : Option (D × Sto) → Option (Bool × Sto) := fun o => o.bind fun p => match p.1 with
  | .int i => some (i != 0, p.2)
  | _ => none
section
variable {fa : String → Option Addr} {X : Cx} {e : Expr} {f : Ev} {η : HS.Env} {S : Sto} {i : Int}
@[simp] theorem tiK_ : tiK (some (.int i, S)) = some (i != 0, S) := id rfl
@[simp] theorem q_ti : tI f η S = tiK (f η S) := id rfl
end
end HS
namespace HS
open PySem L2
/-- a statement that is never reached -/
def sBot : Sv := fun _ _ => none
noncomputable def eNewM (cn : String) (c : Cv) (n : Nat) (fs : EvA) : Ev := fun η S => (fs η S).bind fun p => if p.1.length + 1 = n then (c (.ref p.2.length :: p.1) (p.2 ++ [.ins cn []])).bind fun r => match r.1 with
  | .non => some (.ref p.2.length, r.2.2)
  | _ => none else none
section
variable {fa : String → Option Addr} {X : Cx} {st : Stmt} {k : Nat} {a g : Addr} {cn : String} {c : Cv} {fd : FuncData} {ps : List PySem.Str} {e : Expr} {es : List Expr} {pos p : Pos} {fs : EvA} {x : PySem.Str}
theorem ss_bot : SS fa X st sBot := ⟨_, ⟨fun pins s σ H D I (h : (fun _ _ _ => False : TS) D σ H) => h.elim⟩, fun w σ η S fl η' S' hη hS hf => by cases hf⟩
theorem newM_sem {w : Wd} {S1 S2 : Sto} {ds : List D} {vs : List L2.V} {own : Bool} {Q : VK} (hc : fa cn = some a) (s1 : Sim (cf fa X) w S1) (r1 : RepL (cf fa X) w ds vs) (hl : ds.length + 1 = ps.length)
    (h2 : c (.ref S1.length :: ds) (S1 ++ [.ins cn []]) = some (.non, own, S2)) (hQ : Post (cf fa X) w (.ref S1.length) S2 Q) :
    ∀ x dx, w.H x = none → w.H dx = none → dx ≠ x → spOf (cf fa X) c ps.length (.ref x :: (vs ++ [])) (upd (upd w.H dx (.own x)) x (.ins a dx [])) (fun v H2 => v = .non ∧ Q (.ref x) H2) E0 := by
  intro x dx hx hdx hne
  obtain ⟨wa, hwa⟩ : ∃ wa : Wd, wa = ⟨w.mu, w.L, upd w.H dx (.own x)⟩ := ⟨_, rfl⟩
  have ea : Le w wa := by rw [hwa]; exact Le.new' hdx
  have sa : Sim (cf fa X) wa S1 := by rw [hwa]; exact s1.new hdx
  have hxa : wa.H x = none := by rw [hwa]; show upd w.H dx (.own x) x = none; rw [upd_ne (Ne.symm hne)]; exact hx
  obtain ⟨wb, hwb⟩ : ∃ wb : Wd, wb = ⟨wa.mu, x :: wa.L, upd wa.H x (.ins a dx [])⟩ := ⟨_, rfl⟩
  have eb : Le wa wb := by rw [hwb]; exact Le.newL hxa
  have sb : Sim (cf fa X) wb S1 := by rw [hwb]; exact sa.newL hxa
  have hlb : x ∈ wb.L := by rw [hwb]; exact List.mem_cons_self
  have hmb : x ∉ wb.mu := by rw [hwb]; exact sa.freshm hxa
  have ob : ObjRep (cf fa X) wb x (.ins cn []) := by rw [hwb]; exact ⟨a, dx, [], upd_same, hc, rfl, .nil⟩
  have le : Le w ⟨wb.mu ++ [x], wb.L, wb.H⟩ := (ea.trans eb).grow hx hlb
  have sc : Sim (cf fa X) ⟨wb.mu ++ [x], wb.L, wb.H⟩ (S1 ++ [.ins cn []]) := sb.grow hmb hlb ob
  have hx2 : (wb.mu ++ [x])[S1.length]? = some x := by
    rw [← sb.len, List.getElem?_append_right (Nat.le_refl _)]
    simp
  have hH : wb.H = upd (upd w.H dx (.own x)) x (.ins a dx []) := by rw [hwb, hwa]
  refine ⟨⟨wb.mu ++ [x], wb.L, wb.H⟩, S1 ++ [.ins cn []], .ref S1.length :: ds, .non, own, S2, hH, sc, .cons (.ref hx2) (by rw [List.append_nil]; exact r1.mono le.f), hl, h2, RPost.of (fun v w' le' s' r' => ?_) sc⟩
  cases r'
  exact ⟨rfl, hQ (.ref x) w' (le.trans le') s' (.ref (le'.mu _ _ hx2))⟩
theorem se_newM (hc : fa cn = some a) (Mk0 : Mk X.K a g) (F : FnOk X.prog X.w X.K X.mg X.base CX0 k g fd ps (spOf (cf fa X) c ps.length)) (hr : Room (k + 1) X.A) (hg : Gl X x) (hm : X.mg x = some (.ref a)) (hb : Binds X.K fd ps [])
    (ha : SA fa X (e :: es) fs) (hdb : (x == ("__debug__" : PySem.Str)) = false := by decide) (he : starEach (e :: es) X.env = (false, eval e X.env) :: starEach es X.env := by rfl) (hpl : (backTo pos (starEach es X.env)).any (·.1) = false := by rfl) :
    SE fa X (.Call (.Name x p) (e :: es) [] pos) (eNewM cn c ps.length fs) := by
  obtain ⟨t, q, ha⟩ := ha.ex
  refine ⟨_, pe_make Mk0 F hr hg hm hb .nil pass0 q hdb he hpl, fun w σ η S d S' hη hS hf Q hQ => ?_⟩
  obtain ⟨⟨ds, S1⟩, h1, hf⟩ := bsome hf
  split at hf
  · rename_i hl
    obtain ⟨⟨d1, own, S2⟩, h2, hf⟩ := bsome hf
    simp only at hf
    split at hf
    · cases hf
      refine ha w σ η S ds S1 hη hS h1 _ fun vs w1 e1 s1 r1 => ?_
      exact newM_sem hc s1 r1 hl h2 (PmOk.mono e1 hQ)
    · cases hf
  · cases hf
end
end HS
set_option maxHeartbeats 4000000
namespace K93
open PySem L2 HS
def top (i : Nat) : Stmt := PySem.Challenge.pw_heldstanding_k93_moves_of_tables.main.body.getD i (.Pass ⟨0, 0, 0, 0⟩)
def clsB (s : Stmt) : List Stmt := match s with
  | .ClassDef (body := b) .. => b
  | _ => []
abbrev s_law_draws : Stmt := top 22
abbrev s_law_take : Stmt := top 23
abbrev s_law_pick : Stmt := top 24
abbrev s_law_value_key : Stmt := top 27
abbrev s_law_row_key : Stmt := top 28
abbrev s_law_statement_key : Stmt := top 29
abbrev s_law_set : Stmt := top 30
abbrev s_law_words : Stmt := top 26
abbrev s_law_value : Stmt := top 34
abbrev s_law_pieces : Stmt := top 35
abbrev s_law_shuffled : Stmt := top 36
abbrev s_law_set_key : Stmt := top 31
abbrev s_law_within : Stmt := top 32
abbrev s_law_thinned : Stmt := top 33
abbrev s_law_board_of_raw : Stmt := top 40
abbrev s_law_support : Stmt := top 37
abbrev s_law_raw : Stmt := top 38
abbrev s_law_shape : Stmt := top 39
abbrev s_law_sure_board : Stmt := top 41
abbrev s_law_boards : Stmt := top 42
abbrev s_law_claim : Stmt := top 43
abbrev s_law_cut_board : Stmt := top 48
abbrev s_law_tables : Stmt := top 49
abbrev s_law_same : Stmt := top 25
abbrev s_law_play : Stmt := top 44
abbrev s_law_side : Stmt := top 45
abbrev s_law_moves : Stmt := top 46
abbrev s_side_at : Stmt := top 14
abbrev s_Table_side : Stmt := (clsB (top 20)).getD 1 (.Pass ⟨0, 0, 0, 0⟩)
abbrev s_places_of : Stmt := top 2
abbrev s_moves_against : Stmt := top 15
abbrev s_moves_answering : Stmt := top 16
abbrev s_moves_at : Stmt := top 17
abbrev s_Table_moves : Stmt := (clsB (top 20)).getD 2 (.Pass ⟨0, 0, 0, 0⟩)
abbrev s_Table_loser : Stmt := (clsB (top 20)).getD 4 (.Pass ⟨0, 0, 0, 0⟩)
abbrev s_Table_said : Stmt := (clsB (top 20)).getD 5 (.Pass ⟨0, 0, 0, 0⟩)
abbrev s_law_shows : Stmt := top 50
abbrev s_law_moved : Stmt := top 47
abbrev s_time_behind : Stmt := top 18
abbrev s_Table_move : Stmt := (clsB (top 20)).getD 3 (.Pass ⟨0, 0, 0, 0⟩)
abbrev s_Table_back : Stmt := (clsB (top 20)).getD 8 (.Pass ⟨0, 0, 0, 0⟩)
abbrev s_law_step : Stmt := top 51
abbrev s_places_by : Stmt := top 3
abbrev s_mask_of : Stmt := top 4
abbrev s_BitBoard___init__ : Stmt := (clsB (top 6)).getD 0 (.Pass ⟨0, 0, 0, 0⟩)
abbrev s_BitBoard_masks_for : Stmt := (clsB (top 6)).getD 2 (.Pass ⟨0, 0, 0, 0⟩)
abbrev s_Table___init__ : Stmt := (clsB (top 20)).getD 0 (.Pass ⟨0, 0, 0, 0⟩)
abbrev s_law_are_right : Stmt := top 52
abbrev s_law : Stmt := top 53
def fa (a : Nat → Addr) : String → Option Addr := fun n => if n = "Table" then some (a 49) else if n = "BitBoard" then some (a 50) else none
theorem fa_Table (a : Nat → Addr) : fa a "Table" = some (a 49) := by simp [fa]
theorem fa_BitBoard (a : Nat → Addr) : fa a "BitBoard" = some (a 50) := by simp [fa]
noncomputable def k_law_draws_1 : Ev := eLc (iE (eVar 0)) [8] (gN 8) tYesE (eB bInt (aCons (eVar 8) aNil))
noncomputable def b_law_draws_1 : Sv := (sSeq (sSet 6 (eBin oMod (eVar 5) (eB bLen (aCons (eVar 2) aNil))))
    (sIf (tAndE (tB (eBin oGe (eBin oIx (eVar 2) (eVar 6)) (eBin oPow (eC (.int 10)) (eC (.int 18))))) (tB (eBin oGt (eBin oIx (eVar 3) (eVar 6)) (eC (.int 0))))) (sSeq (sExp (eM "list" mAppend (eVar 4) (aCons (eBin oMod (eB bInt (aCons (eBin oIx (eVar 3) (eVar 6)) aNil)) (eC (.int 1000))) aNil)))
    (sSetI (eVar 3) (eVar 6) (eBin oFdiv (eBin oIx (eVar 3) (eVar 6)) (eC (.int 1000))))) (sSeq (sSet 7 (eBin oMod (eB bInt (aCons (eBin oAdd (eBin oAdd (eBin oMul (eBin oIx (eVar 2) (eVar 6)) (eC (.int 48271))) (eBin oMul (eVar 5) (eC (.int 69621)))) (eC (.int 11))) aNil)) (eC (.int 2147483647))))
    (sExp (eM "list" mAppend (eVar 4) (aCons (eBin oMod (eB bInt (aCons (eBin oAdd (eBin oAdd (eBin oMul (eVar 7) (eVar 7)) (eBin oMul (eC (.int 3)) (eVar 7))) (eVar 5)) aNil)) (eC (.int 1000003))) aNil))))))
noncomputable def l_law_draws_1 : Sv := sFor (iRange1 (aCons (eVar 1) aNil)) (gN 5) b_law_draws_1
noncomputable def m_law_draws : Sv := (sSeq (sSet 2 (eAl k_law_draws_1))
    (sSeq (sIf (tB (eBin oEq (eB bLen (aCons (eVar 2) aNil)) (eC (.int 0)))) (sExp (eM "list" mAppend (eVar 2) (aCons (eC (.int 0)) aNil))) sNil)
    (sSeq (sSet 3 (eAl (eB bList (aCons (eVar 2) aNil))))
    (sSeq (sSet 4 (eAl (eLst aNil)))
    (sSeq l_law_draws_1
    (sSeq (sExp (eM0 "list" mReverse (eVar 4)))
    (sRet (eVar 4))))))))
noncomputable def c_law_draws : Cv := callOf 9 m_law_draws
noncomputable def m_law_take : Sv := (sSeq (sIf (tB (eBin oEq (eB bLen (aCons (eVar 0) aNil)) (eC (.int 0)))) (sRet (eC (.int 0))) sNil)
    (sRet (eBin oMod (eB bInt (aCons (eM0 "list" mPop (eVar 0)) aNil)) (eVar 1))))
noncomputable def c_law_take : Cv := callOf 2 m_law_take
noncomputable def m_law_pick : Sv := (sRet (eBin oIx (eVar 1) (eCall c_law_take 2 (aCons (eVar 0) (aCons (eB bLen (aCons (eVar 1) aNil)) aNil)))))
noncomputable def c_law_pick : Cv := callOf 2 m_law_pick
noncomputable def m_law_value_key : Sv := (sSeq (sIf (tB (eB bIsi (aCons (eVar 0) (aCons (eC (.ty "str")) aNil)))) (sRet (eTup (aCons (eC (.int 1)) (aCons (eC (.int 0)) (aCons (eVar 0) aNil))))) sNil)
    (sRet (eTup (aCons (eC (.int 0)) (aCons (eVar 0) (aCons (eC (.str "")) aNil))))))
noncomputable def c_law_value_key : Cv := callOf 1 m_law_value_key
noncomputable def k_law_row_key_1 : Ev := eLc (iE (eVar 0)) [1] (gN 1) tYesE (eCall c_law_value_key 1 (aCons (eVar 1) aNil))
noncomputable def m_law_row_key : Sv := (sRet (eB bTuple (aCons k_law_row_key_1 aNil)))
noncomputable def c_law_row_key : Cv := callOf 2 m_law_row_key
noncomputable def m_law_statement_key : Sv := (sRet (eTup (aCons (eBin oIx (eVar 0) (eC (.int 0))) (aCons (eCall c_law_row_key 1 (aCons (eBin oIx (eVar 0) (eC (.int 1))) aNil)) aNil))))
noncomputable def c_law_statement_key : Cv := callOf 1 m_law_statement_key
noncomputable def b_law_set_1 : Sv := (sIf (tOrE (tB (eBin oEq (eB bLen (aCons (eVar 1) aNil)) (eC (.int 0)))) (tB (eBin oNe (eBin oIx (eVar 1) (eUn (fun i => -i) (eC (.int 1)))) (eVar 2)))) (sExp (eM "list" mAppend (eVar 1) (aCons (eVar 2) aNil))) sNil)
noncomputable def l_law_set_1 : Sv := sFor (iE (eSortKU c_law_statement_key (eVar 0))) (gN 2) b_law_set_1
noncomputable def m_law_set : Sv := (sSeq (sSet 1 (eAl (eLst aNil)))
    (sSeq l_law_set_1
    (sRet (eB bTuple (aCons (eVar 1) aNil)))))
noncomputable def c_law_set : Cv := callOf 3 m_law_set
noncomputable def k_law_words_1 : Ev := eLc (iRange1 (aCons (eVar 4) aNil)) [6] (gN 6) tYesE (eBin oIx (eC (.str "abcdefghijklmnopqrstuvwxyz")) (eCall c_law_take 2 (aCons (eVar 0) (aCons (eC (.int 26)) aNil))))
noncomputable def k_law_words_2 : Ev := eLc (iE (eVar 2)) [7] (gN 7) tYesE (eB bLen (aCons (eVar 7) aNil))
noncomputable def b_law_words_1 : Sv := (sSeq (sSet 4 (eBin oAdd (eC (.int 1)) (eCall c_law_take 2 (aCons (eVar 0) (aCons (eC (.int 3)) aNil)))))
    (sSeq (sIf (tB (eBin oEq (eCall c_law_take 2 (aCons (eVar 0) (aCons (eC (.int 9)) aNil))) (eC (.int 0)))) (sSet 4 (eBin oAdd (eBin oAdd (eVar 4) (eC (.int 3))) (eCall c_law_take 2 (aCons (eVar 0) (aCons (eC (.int 20)) aNil))))) sNil)
    (sSeq (sSet 5 (eM "str" mJoin (eC (.str "")) (aCons k_law_words_1 aNil)))
    (sSeq (sIf (tOrE (tB (eBin oIn (eVar 5) (eVar 2))) (tB (eBin oIn (eVar 5) (eLst (aCons (eC (.str "pick")) (aCons (eC (.str "kept")) (aCons (eC (.str "used")) (aCons (eC (.str "maybe")) aNil)))))))) (sSet 5 (eBin oMul (eC (.str "z")) (eBin oAdd (eC (.int 1)) (eB bMax (aCons (eBin oAdd (eLst (aCons (eC (.int 4)) aNil)) k_law_words_2) aNil))))) sNil)
    (sExp (eM "list" mAppend (eVar 2) (aCons (eVar 5) aNil)))))))
noncomputable def l_law_words_1 : Sv := sFor (iRange1 (aCons (eVar 1) aNil)) (gN 3) b_law_words_1
noncomputable def m_law_words : Sv := (sSeq (sSet 2 (eAl (eLst aNil)))
    (sSeq l_law_words_1
    (sRet (eVar 2))))
noncomputable def c_law_words : Cv := callOf 8 m_law_words
noncomputable def m_law_value : Sv := (sSeq (sSet 2 (eCall c_law_take 2 (aCons (eVar 0) (aCons (eC (.int 6)) aNil))))
    (sSeq (sIf (tB (eBin oEq (eVar 2) (eC (.int 0)))) (sRet (eCall c_law_pick 2 (aCons (eVar 0) (aCons (eVar 1) aNil)))) sNil)
    (sSeq (sIf (tB (eBin oEq (eVar 2) (eC (.int 1)))) (sRet (eBin oMul (eBin oSub (eCall c_law_take 2 (aCons (eVar 0) (aCons (eC (.int 900)) aNil))) (eC (.int 450))) (eCall c_law_pick 2 (aCons (eVar 0) (aCons (eLst (aCons (eC (.int 1)) (aCons (eC (.int 1000003)) (aCons (eBin oAdd (eBin oPow (eC (.int 10)) (eC (.int 15))) (eC (.int 37))) (aCons (eBin oAdd (eBin oPow (eC (.int 10)) (eC (.int 40))) (eC (.int 121))) aNil))))) aNil))))) sNil)
    (sRet (eBin oSub (eCall c_law_take 2 (aCons (eVar 0) (aCons (eC (.int 9)) aNil))) (eC (.int 3)))))))
noncomputable def c_law_value : Cv := callOf 3 m_law_value
noncomputable def k_law_pieces_1 : Ev := eLc (iRange1 (aCons (eCall c_law_pick 2 (aCons (eVar 0) (aCons (eLst (aCons (eC (.int 0)) (aCons (eC (.int 1)) (aCons (eC (.int 0)) (aCons (eC (.int 1)) (aCons (eC (.int 2)) (aCons (eC (.int 3)) (aCons (eC (.int 4)) aNil)))))))) aNil))) aNil)) [7] (gN 7) tYesE (eCall c_law_value 2 (aCons (eVar 0) (aCons (eVar 2) aNil)))
noncomputable def b_law_pieces_1 : Sv := (sSeq (sSet 5 (eB bTuple (aCons k_law_pieces_1 aNil)))
    (sSeq (sSet 6 (eTup (aCons (eCall c_law_pick 2 (aCons (eVar 0) (aCons (eSl slD (eVar 2) oNo (oSo (eC (.int 3)))) aNil))) (aCons (eVar 5) aNil))))
    (sSeq (sIf (tB (eBin oIn (eVar 6) (eVar 3))) (sSet 6 (eTup (aCons (eBin oMul (eC (.str "z")) (eC (.int 40))) (aCons (eTup (aCons (eVar 4) aNil)) aNil)))) sNil)
    (sExp (eM "list" mAppend (eVar 3) (aCons (eVar 6) aNil))))))
noncomputable def l_law_pieces_1 : Sv := sFor (iRange1 (aCons (eVar 1) aNil)) (gN 4) b_law_pieces_1
noncomputable def m_law_pieces : Sv := (sSeq (sSet 2 (eCall c_law_words 2 (aCons (eVar 0) (aCons (eC (.int 4)) aNil))))
    (sSeq (sSet 3 (eAl (eLst aNil)))
    (sSeq l_law_pieces_1
    (sRet (eCall c_law_set 1 (aCons (eVar 3) aNil))))))
noncomputable def c_law_pieces : Cv := callOf 8 m_law_pieces
noncomputable def b_law_shuffled_1 : Sv := (sExp (eM "list" mAppend (eVar 3) (aCons (eM "list" mPopAt (eVar 2) (aCons (eCall c_law_take 2 (aCons (eVar 0) (aCons (eB bLen (aCons (eVar 2) aNil)) aNil))) aNil)) aNil)))
noncomputable def l_law_shuffled_1 : Sv := sFor (iRange1 (aCons (eB bLen (aCons (eVar 1) aNil)) aNil)) (gN 4) b_law_shuffled_1
noncomputable def m_law_shuffled : Sv := (sSeq (sSet 2 (eAl (eB bList (aCons (eVar 1) aNil))))
    (sSeq (sSet 3 (eAl (eLst aNil)))
    (sSeq l_law_shuffled_1
    (sRet (eVar 3)))))
noncomputable def c_law_shuffled : Cv := callOf 5 m_law_shuffled
noncomputable def k_law_set_key_1 : Ev := eLc (iE (eVar 0)) [1] (gN 1) tYesE (eCall c_law_statement_key 1 (aCons (eVar 1) aNil))
noncomputable def m_law_set_key : Sv := (sRet (eB bTuple (aCons k_law_set_key_1 aNil)))
noncomputable def c_law_set_key : Cv := callOf 2 m_law_set_key
noncomputable def k_law_within_1 : Ev := eLc (iE (eVar 0)) [2] (gN 2) tYesE (eBin oIn (eVar 2) (eVar 1))
noncomputable def m_law_within : Sv := (sRet (eBin oNotIn (eC (.bl false)) k_law_within_1))
noncomputable def c_law_within : Cv := callOf 3 m_law_within
noncomputable def k_law_thinned_1 : Ev := eLc (iE (eVar 0)) [3] (gN 3) tYesE (eAnd (eBin oNe (eVar 3) (eVar 2)) (eCall c_law_within 2 (aCons (eVar 3) (aCons (eVar 2) aNil))))
noncomputable def b_law_thinned_1 : Sv := (sIf (tAndE (tB (eBin oNotIn (eVar 2) (eVar 1))) (tB (eBin oNotIn (eC (.bl true)) k_law_thinned_1))) (sExp (eM "list" mAppend (eVar 1) (aCons (eVar 2) aNil))) sNil)
noncomputable def l_law_thinned_1 : Sv := sFor (iE (eSortK c_law_set_key (eVar 0))) (gN 2) b_law_thinned_1
noncomputable def m_law_thinned : Sv := (sSeq (sSet 1 (eAl (eLst aNil)))
    (sSeq l_law_thinned_1
    (sRet (eB bTuple (aCons (eVar 1) aNil)))))
noncomputable def c_law_thinned : Cv := callOf 4 m_law_thinned
noncomputable def k_law_board_of_raw_1 : Ev := eLc (iE (eVar 1)) [5] (gN 5) (tB (eBin oEq (eBin oIx (eVar 5) (eC (.int 1))) (eVar 3))) (eBin oIx (eVar 5) (eC (.int 0)))
noncomputable def b_law_board_of_raw_1 : Sv := (sExp (eM "list" mAppend (eVar 2) (aCons (eTup (aCons (eVar 4) (aCons (eVar 3) aNil))) aNil)))
noncomputable def l_law_board_of_raw_1 : Sv := sFor (iE (eCall c_law_thinned 1 (aCons k_law_board_of_raw_1 aNil))) (gN 4) b_law_board_of_raw_1
noncomputable def l_law_board_of_raw_2 : Sv := sFor (iE (eVar 0)) (gN 3) l_law_board_of_raw_1
noncomputable def m_law_board_of_raw : Sv := (sSeq (sSet 2 (eAl (eLst aNil)))
    (sSeq l_law_board_of_raw_2
    (sRet (eTup (aCons (eVar 0) (aCons (eB bTuple (aCons (eVar 2) aNil)) aNil))))))
noncomputable def c_law_board_of_raw : Cv := callOf 6 m_law_board_of_raw
noncomputable def k_law_support_1 : Ev := eLc (iRange1 (aCons (eVar 2) aNil)) [3] (gN 3) tYesE (eCall c_law_pick 2 (aCons (eVar 0) (aCons (eVar 1) aNil)))
noncomputable def m_law_support : Sv := (sSeq (sSet 2 (eCall c_law_pick 2 (aCons (eVar 0) (aCons (eLst (aCons (eC (.int 1)) (aCons (eC (.int 1)) (aCons (eC (.int 2)) (aCons (eC (.int 1)) (aCons (eC (.int 2)) (aCons (eC (.int 1)) (aCons (eC (.int 3)) (aCons (eC (.int 1)) (aCons (eC (.int 2)) (aCons (eC (.int 1)) (aCons (eC (.int 2)) (aCons (eC (.int 1)) (aCons (eC (.int 3)) (aCons (eC (.int 1)) (aCons (eC (.int 5)) (aCons (eC (.int 0)) aNil))))))))))))))))) aNil))))
    (sRet (eCall c_law_set 1 (aCons k_law_support_1 aNil))))
noncomputable def c_law_support : Cv := callOf 4 m_law_support
noncomputable def b_law_raw_1 : Sv := (sExp (eM "list" mAppend (eVar 3) (aCons (eTup (aCons (eCall c_law_support 2 (aCons (eVar 0) (aCons (eVar 1) aNil))) (aCons (eCall c_law_pick 2 (aCons (eVar 0) (aCons (eVar 1) aNil))) aNil))) aNil)))
noncomputable def l_law_raw_1 : Sv := sFor (iRange1 (aCons (eBin oMul (eCall c_law_take 2 (aCons (eVar 0) (aCons (eBin oAdd (eVar 2) (eC (.int 1))) aNil))) (eB bInt (aCons (eBin oGt (eB bLen (aCons (eVar 1) aNil)) (eC (.int 0))) aNil))) aNil)) (gN 4) b_law_raw_1
noncomputable def m_law_raw : Sv := (sSeq (sSet 3 (eAl (eLst aNil)))
    (sSeq l_law_raw_1
    (sRet (eVar 3))))
noncomputable def c_law_raw : Cv := callOf 5 m_law_raw
noncomputable def k_law_shape_1 : Ev := eLc (iRange1 (aCons (eBin oSub (eVar 3) (eC (.int 1))) aNil)) [11] (gN 11) tYesE (eTup (aCons (eLst (aCons (eVar 11) aNil)) (aCons (eBin oAdd (eVar 11) (eC (.int 1))) aNil)))
noncomputable def k_law_shape_2 : Ev := eLc (iRange1 (aCons (eVar 3) aNil)) [11] (gN 11) tYesE (eTup (aCons (eLst (aCons (eVar 11) aNil)) (aCons (eBin oSub (eBin oAdd (eVar 11) (eC (.int 1))) (eBin oMul (eC (.int 2)) (eBin oMod (eB bInt (aCons (eVar 11) aNil)) (eC (.int 2))))) aNil)))
noncomputable def k_law_shape_3 : Ev := eLc (iRange2 (aCons (eC (.int 4)) (aCons (eBin oMul (eC (.int 2)) (eVar 3)) aNil))) [11] (gN 11) tYesE (eTup (aCons (eLst (aCons (eBin oMod (eB bInt (aCons (eVar 11) aNil)) (eC (.int 2))) aNil)) (aCons (eBin oFdiv (eVar 11) (eC (.int 2))) aNil)))
noncomputable def k_law_shape_4 : Ev := eLc (iE (eVar 9)) [12] (gN 12) (tB (eBin oLt (eB bMax (aCons (eBin oAdd (eBin oIx (eVar 12) (eC (.int 0))) (eLst (aCons (eBin oIx (eVar 12) (eC (.int 1))) aNil))) aNil)) (eVar 3))) (eVar 12)
noncomputable def k_law_shape_5 : Ev := eLc (iE (eBin oIx (eVar 12) (eC (.int 0)))) [13] (gN 13) tYesE (eBin oIx (eVar 2) (eVar 13))
noncomputable def k_law_shape_6 : Ev := eLc (iE (eVar 10)) [12] (gN 12) tYesE (eTup (aCons (eCall c_law_set 1 (aCons k_law_shape_5 aNil)) (aCons (eBin oIx (eVar 2) (eBin oIx (eVar 12) (eC (.int 1)))) aNil)))
noncomputable def m_law_shape : Sv := (sSeq (sSet 2 (eCall c_law_shuffled 2 (aCons (eVar 0) (aCons (eVar 1) aNil))))
    (sSeq (sSet 3 (eB bLen (aCons (eVar 2) aNil)))
    (sSeq (sSet 4 k_law_shape_1)
    (sSeq (sSet 5 k_law_shape_2)
    (sSeq (sSet 6 (eBin oAdd (eLst (aCons (eTup (aCons (eLst (aCons (eC (.int 0)) aNil)) (aCons (eC (.int 1)) aNil))) (aCons (eTup (aCons (eLst (aCons (eC (.int 1)) aNil)) (aCons (eC (.int 0)) aNil))) (aCons (eTup (aCons (eLst (aCons (eBin oSub (eVar 3) (eC (.int 1))) aNil)) (aCons (eBin oSub (eVar 3) (eC (.int 1))) aNil))) aNil)))) k_law_shape_3))
    (sSeq (sSet 7 (eLst (aCons (eTup (aCons (eLst (aCons (eC (.int 0)) aNil)) (aCons (eC (.int 1)) aNil))) (aCons (eTup (aCons (eLst (aCons (eC (.int 1)) aNil)) (aCons (eC (.int 0)) aNil))) (aCons (eTup (aCons (eLst (aCons (eC (.int 0)) aNil)) (aCons (eC (.int 2)) aNil))) (aCons (eTup (aCons (eLst (aCons (eC (.int 1)) aNil)) (aCons (eC (.int 2)) aNil))) (aCons (eTup (aCons (eLst (aCons (eC (.int 2)) aNil)) (aCons (eC (.int 3)) aNil))) (aCons (eTup (aCons (eLst (aCons (eC (.int 4)) aNil)) (aCons (eC (.int 5)) aNil))) (aCons (eTup (aCons (eLst (aCons (eC (.int 5)) aNil)) (aCons (eC (.int 4)) aNil))) (aCons (eTup (aCons (eLst (aCons (eC (.int 5)) aNil)) (aCons (eC (.int 5)) aNil))) aNil))))))))))
    (sSeq (sSet 8 (eLst (aCons (eTup (aCons (eLst (aCons (eC (.int 0)) (aCons (eC (.int 1)) aNil))) (aCons (eC (.int 2)) aNil))) (aCons (eTup (aCons (eLst (aCons (eC (.int 2)) aNil)) (aCons (eC (.int 0)) aNil))) (aCons (eTup (aCons (eLst (aCons (eC (.int 2)) (aCons (eC (.int 3)) aNil))) (aCons (eC (.int 1)) aNil))) (aCons (eTup (aCons (eLst (aCons (eC (.int 1)) aNil)) (aCons (eC (.int 3)) aNil))) (aCons (eTup (aCons (eLst (aCons (eC (.int 0)) (aCons (eC (.int 3)) aNil))) (aCons (eC (.int 4)) aNil))) (aCons (eTup (aCons (eLst (aCons (eC (.int 4)) aNil)) (aCons (eC (.int 4)) aNil))) aNil))))))))
    (sSeq (sSet 9 (eCall c_law_pick 2 (aCons (eVar 0) (aCons (eLst (aCons (eLst aNil) (aCons (eLst aNil) (aCons (eLst aNil) (aCons (eVar 4) (aCons (eBin oAdd (eVar 4) (eLst (aCons (eTup (aCons (eLst (aCons (eBin oSub (eVar 3) (eC (.int 1))) aNil)) (aCons (eC (.int 0)) aNil))) aNil))) (aCons (eVar 5) (aCons (eVar 6) (aCons (eVar 7) (aCons (eVar 8) aNil)))))))))) aNil))))
    (sSeq (sIf (tB (eBin oEq (eVar 3) (eC (.int 0)))) (sRet (eLst aNil)) sNil)
    (sSeq (sSet 10 k_law_shape_4)
    (sRet k_law_shape_6)))))))))))
noncomputable def c_law_shape : Cv := callOf 14 m_law_shape
noncomputable def m_law_sure_board : Sv := (sSeq (sSet 1 (eCall c_law_pieces 2 (aCons (eVar 0) (aCons (eC (.int 4)) aNil))))
    (sSeq (sSet 2 (eCall c_law_shuffled 2 (aCons (eVar 0) (aCons (eVar 1) aNil))))
    (sSeq (sSet 3 (eLst (aCons (eTup (aCons (eTup (aCons (eBin oIx (eVar 2) (eC (.int 0))) aNil)) (aCons (eBin oIx (eVar 2) (eC (.int 1))) aNil))) (aCons (eTup (aCons (eTup (aCons (eBin oIx (eVar 2) (eC (.int 1))) aNil)) (aCons (eBin oIx (eVar 2) (eC (.int 0))) aNil))) (aCons (eTup (aCons (eTup (aCons (eBin oIx (eVar 2) (eC (.int 0))) aNil)) (aCons (eBin oIx (eVar 2) (eC (.int 2))) aNil))) (aCons (eTup (aCons (eTup (aCons (eBin oIx (eVar 2) (eC (.int 2))) aNil)) (aCons (eBin oIx (eVar 2) (eC (.int 2))) aNil))) aNil))))))
    (sRet (eCall c_law_board_of_raw 2 (aCons (eVar 1) (aCons (eVar 3) aNil)))))))
noncomputable def c_law_sure_board : Cv := callOf 4 m_law_sure_board
noncomputable def m_law_boards : Sv := (sSeq (sSet 3 (eCall c_law_pieces 2 (aCons (eVar 0) (aCons (eBin oSub (eVar 1) (eCall c_law_pick 2 (aCons (eVar 0) (aCons (eLst (aCons (eC (.int 0)) (aCons (eC (.int 1)) (aCons (eC (.int 0)) (aCons (eC (.int 2)) (aCons (eC (.int 1)) (aCons (eC (.int 0)) (aCons (eVar 1) (aCons (eC (.int 3)) aNil))))))))) aNil)))) aNil))))
    (sSeq (sSet 4 (eCall c_law_board_of_raw 2 (aCons (eVar 3) (aCons (eBin oAdd (eCall c_law_shape 2 (aCons (eVar 0) (aCons (eVar 3) aNil))) (eCall c_law_raw 3 (aCons (eVar 0) (aCons (eVar 3) (aCons (eVar 2) aNil))))) aNil))))
    (sSeq (sIf (tB (eBin oEq (eCall c_law_take 2 (aCons (eVar 0) (aCons (eC (.int 2)) aNil))) (eC (.int 0)))) (sSet 3 (eCall c_law_pieces 2 (aCons (eVar 0) (aCons (eBin oSub (eVar 1) (eCall c_law_take 2 (aCons (eVar 0) (aCons (eC (.int 3)) aNil)))) aNil)))) sNil)
    (sSeq (sSet 5 (eCall c_law_board_of_raw 2 (aCons (eVar 3) (aCons (eBin oAdd (eCall c_law_shape 2 (aCons (eVar 0) (aCons (eVar 3) aNil))) (eCall c_law_raw 3 (aCons (eVar 0) (aCons (eVar 3) (aCons (eVar 2) aNil))))) aNil))))
    (sRet (eAl (eLst (aCons (eVar 4) (aCons (eVar 5) (aCons (eCall c_law_sure_board 1 (aCons (eVar 0) aNil)) aNil))))))))))
noncomputable def c_law_boards : Cv := callOf 6 m_law_boards
noncomputable def k_law_claim_1 : Ev := eLc (iRange1 (aCons (eVar 2) aNil)) [3] (gN 3) tYesE (eCall c_law_support 2 (aCons (eVar 0) (aCons (eVar 1) aNil)))
noncomputable def m_law_claim : Sv := (sSeq (sSet 2 (eBin oMul (eCall c_law_pick 2 (aCons (eVar 0) (aCons (eLst (aCons (eC (.int 1)) (aCons (eC (.int 2)) (aCons (eC (.int 1)) (aCons (eC (.int 2)) (aCons (eC (.int 3)) (aCons (eC (.int 0)) (aCons (eC (.int 5)) aNil)))))))) aNil))) (eB bInt (aCons (eBin oGt (eB bLen (aCons (eVar 1) aNil)) (eC (.int 0))) aNil))))
    (sRet (eCall c_law_thinned 1 (aCons k_law_claim_1 aNil))))
noncomputable def c_law_claim : Cv := callOf 4 m_law_claim
noncomputable def m_law_cut_board : Sv := (sRet (eTup (aCons (eBin oIx (eVar 0) (eC (.int 0))) (aCons (eSl slD (eBin oIx (eVar 0) (eC (.int 1))) oNo (oSo (eVar 1))) aNil))))
noncomputable def c_law_cut_board : Cv := callOf 2 m_law_cut_board
noncomputable def k_law_tables_1 : Ev := eLc (iRange1 (aCons (eC (.int 4)) aNil)) [8] (gN 8) tYesE (eTup (aCons (eTup (aCons (eBin oIx (eVar 4) (eBin oAdd (eVar 8) (eC (.int 1)))) aNil)) (aCons (eBin oIx (eVar 4) (eVar 8)) aNil)))
noncomputable def k_law_tables_2 : Ev := eLc (iE (eVar 3)) [9] (gN 9) tYesE (eAl (eLst (aCons (eCall c_law_cut_board 2 (aCons (eVar 9) (aCons (eVar 2) aNil))) (aCons (eCall c_law_claim 2 (aCons (eVar 0) (aCons (eBin oIx (eVar 9) (eC (.int 0))) aNil))) aNil))))
noncomputable def m_law_tables : Sv := (sSeq (sSet 3 (eAl (eCallO c_law_boards 3 (aCons (eVar 0) (aCons (eVar 1) (aCons (eVar 2) aNil))))))
    (sSeq (sSet 4 (eCall c_law_shuffled 2 (aCons (eVar 0) (aCons (eCall c_law_pieces 2 (aCons (eVar 0) (aCons (eC (.int 5)) aNil))) aNil))))
    (sSeq (sSet 5 k_law_tables_1)
    (sSeq (sExp (eM "list" mAppend (eVar 3) (aCons (eCall c_law_board_of_raw 2 (aCons (eCall c_law_set 1 (aCons (eVar 4) aNil)) (aCons (eSl slD (eVar 5) oNo (oSo (eBin oAdd (eC (.int 1)) (eCall c_law_take 2 (aCons (eVar 0) (aCons (eC (.int 4)) aNil)))))) aNil))) aNil)))
    (sSeq (sSet 6 (eAl k_law_tables_2))
    (sSeq (sSetI (eBin oIx (eVar 6) (eC (.int 3))) (eC (.int 1)) (eTup (aCons (eTup (aCons (eBin oIx (eVar 4) (eC (.int 0))) aNil)) aNil)))
    (sSeq (sExp (eM "list" mAppend (eVar 6) (aCons (eLst (aCons (eBin oIx (eVar 3) (eC (.int 2))) (aCons (eTup aNil) aNil))) aNil)))
    (sSeq (sExp (eM "list" mAppend (eVar 6) (aCons (eLst (aCons (eBin oIx (eVar 3) (eC (.int 2))) (aCons (eTup (aCons (eTup aNil) aNil)) aNil))) aNil)))
    (sSeq (sSet 7 (eCall c_law_pick 2 (aCons (eVar 0) (aCons (eBin oIx (eBin oIx (eVar 3) (eC (.int 2))) (eC (.int 0))) aNil))))
    (sSeq (sExp (eM "list" mAppend (eVar 6) (aCons (eLst (aCons (eBin oIx (eVar 3) (eC (.int 2))) (aCons (eTup (aCons (eTup (aCons (eVar 7) aNil)) aNil)) aNil))) aNil)))
    (sRet (eVar 6))))))))))))
noncomputable def c_law_tables : Cv := callOf 10 m_law_tables
noncomputable def k_law_same_1 (c : Cv) : Ev := eLc (iRange1 (aCons (eB bLen (aCons (eVar 1) aNil)) aNil)) [2] (gN 2) tYesE (eCall c 2 (aCons (eBin oIx (eVar 0) (eVar 2)) (aCons (eBin oIx (eVar 1) (eVar 2)) aNil)))
noncomputable def m_law_same (c : Cv) : Sv := (sSeq (sIf (tB (eB bIsi (aCons (eVar 1) (aCons (eTupP (aCons (eC (.ty "tuple")) (aCons (eC (.ty "list")) aNil))) aNil)))) (sSeq (sIf (tOrE (tB (eBin oNe (eB bIsi (aCons (eVar 0) (aCons (eC (.ty "tuple")) aNil))) (eB bIsi (aCons (eVar 1) (aCons (eC (.ty "tuple")) aNil))))) (tB (eBin oNe (eB bIsi (aCons (eVar 0) (aCons (eC (.ty "list")) aNil))) (eB bIsi (aCons (eVar 1) (aCons (eC (.ty "list")) aNil)))))) (sRet (eC (.bl false))) sNil)
    (sSeq (sIf (tB (eBin oNe (eB bLen (aCons (eVar 0) aNil)) (eB bLen (aCons (eVar 1) aNil)))) (sRet (eC (.bl false))) sNil)
    (sRet (eBin oNotIn (eC (.bl false)) (k_law_same_1 c))))) sNil)
    (sSeq (sIf (tOrE (tB (eBin oNe (eB bIsi (aCons (eVar 0) (aCons (eC (.ty "bool")) aNil))) (eB bIsi (aCons (eVar 1) (aCons (eC (.ty "bool")) aNil))))) (tB (eBin oNe (eB bIsi (aCons (eVar 0) (aCons (eC (.ty "int")) aNil))) (eB bIsi (aCons (eVar 1) (aCons (eC (.ty "int")) aNil)))))) (sRet (eC (.bl false))) sNil)
    (sSeq (sIf (tOrE (tB (eBin oNe (eB bIsi (aCons (eVar 0) (aCons (eC (.ty "str")) aNil))) (eB bIsi (aCons (eVar 1) (aCons (eC (.ty "str")) aNil))))) (tB (eBin oNe (eBin oIs (eVar 0) (eC .non)) (eBin oIs (eVar 1) (eC .non))))) (sRet (eC (.bl false))) sNil)
    (sRet (eBin oEq (eVar 0) (eVar 1))))))
noncomputable def c_law_same : Nat → Cv
  | 0 => fun _ _ => none
  | k + 1 => callOf 3 (m_law_same (c_law_same k))
noncomputable def m_law_play : Sv := (sRet (eLst (aCons (eC (.int 0)) (aCons (eTup aNil) (aCons (eC (.int 0)) (aCons (eTup aNil) aNil))))))
noncomputable def c_law_play : Cv := callOf 2 m_law_play
noncomputable def m_law_side : Sv := (sRet (eBin oIx (eLst (aCons (eC (.str "speaker")) (aCons (eC (.str "doubter")) (aCons (eC (.str "speaker")) aNil)))) (eBin oIx (eVar 0) (eC (.int 0)))))
noncomputable def c_law_side : Cv := callOf 1 m_law_side
noncomputable def k_law_moves_1 : Ev := eLc (iRange1 (aCons (eB bLen (aCons (eVar 1) aNil)) aNil)) [6] (gN 6) tYesE (eVar 6)
noncomputable def k_law_moves_2 : Ev := eLc (iE (eBin oIx (eVar 2) (eC (.int 3)))) [8] (gN 8) tYesE (eBin oIn (eVar 8) (eBin oIx (eBin oIx (eBin oIx (eVar 0) (eC (.int 1))) (eVar 6)) (eC (.int 0))))
noncomputable def b_law_moves_1 : Sv := (sSeq (sSet 7 (eAnd (eBin oEq (eBin oIx (eVar 2) (eC (.int 0))) (eC (.int 2))) (eBin oIn (eC (.bl true)) k_law_moves_2)))
    (sIf (tAndE (tB (eBin oEq (eBin oIx (eBin oIx (eBin oIx (eVar 0) (eC (.int 1))) (eVar 6)) (eC (.int 1))) (eVar 5))) (tNotE (tB (eVar 7)))) (sExp (eM "list" mAppend (eVar 4) (aCons (eTup (aCons (eVar 5) (aCons (eVar 6) aNil))) aNil))) sNil))
noncomputable def l_law_moves_1 : Sv := sFor (iRange1 (aCons (eB bLen (aCons (eBin oIx (eVar 0) (eC (.int 1))) aNil)) aNil)) (gN 6) b_law_moves_1
noncomputable def l_law_moves_2 : Sv := sFor (iE (eVar 3)) (gN 5) l_law_moves_1
noncomputable def m_law_moves : Sv := (sSeq (sIf (tB (eBin oEq (eBin oIx (eVar 2) (eC (.int 0))) (eC (.int 0)))) (sRet k_law_moves_1) sNil)
    (sSeq (sSet 3 (eBin oIx (eVar 2) (eC (.int 1))))
    (sSeq (sIf (tB (eBin oEq (eBin oIx (eVar 2) (eC (.int 0))) (eC (.int 2)))) (sSet 3 (eBin oIx (eBin oIx (eBin oIx (eVar 0) (eC (.int 1))) (eBin oIx (eVar 2) (eC (.int 2)))) (eC (.int 0)))) sNil)
    (sSeq (sSet 4 (eAl (eLst aNil)))
    (sSeq l_law_moves_2
    (sRet (eVar 4)))))))
noncomputable def c_law_moves : Cv := callOf 9 m_law_moves
noncomputable def m_side_at : Sv := (sRet (eIf (tB (eBin oIs (eBin oIx (eVar 0) (eC (.int 0))) (eC .non))) (eC (.str "speaker")) (eC (.str "doubter"))))
noncomputable def c_side_at : Cv := callOf 1 m_side_at
noncomputable def m_Table_side : Sv := (sRet (eCall c_side_at 1 (aCons (eBin oIx (eFld "Table" "times" (eVar 0)) (eUn (fun i => -i) (eC (.int 1)))) aNil)))
noncomputable def c_Table_side : Cv := callOf 1 m_Table_side
noncomputable def m_places_of : Sv := (sSeq (sSet 1 (eAl (eLst aNil)))
    (sSeq (sWhile wN (tB (eBin oGt (eVar 0) (eC (.int 0)))) (sSeq (sSet 2 (eBin oBand (eVar 0) (eUn (fun i => -i) (eVar 0))))
    (sSeq (sExp (eM "list" mAppend (eVar 1) (aCons (eBin oSub (eBits (eVar 2)) (eC (.int 1))) aNil)))
    (sSet 0 (eBin oBxor (eVar 0) (eVar 2))))))
    (sRet (eVar 1))))
noncomputable def c_places_of : Cv := callOf 3 m_places_of
noncomputable def k_moves_against_1 : Ev := eLc2 (iE (eCall c_places_of 1 (aCons (eVar 1) aNil))) [2, 3] (gN 2) tYesE (iE (eBin oIx (eFld "BitBoard" "onto" (eVar 0)) (eVar 2))) [3] (gN 3) tYesE (eTup (aCons (eBin oIx (eFld "BitBoard" "pieces" (eVar 0)) (eVar 2)) (aCons (eVar 3) aNil)))
noncomputable def m_moves_against : Sv := (sRet (eB bTuple (aCons k_moves_against_1 aNil)))
noncomputable def c_moves_against : Cv := callOf 4 m_moves_against
noncomputable def b_moves_answering_1 : Sv := (sIf (tB (eBin oEq (eBin oBand (eBin oIx (eBin oIx (eFld "BitBoard" "attacks" (eVar 0)) (eVar 5)) (eC (.int 0))) (eVar 2)) (eC (.int 0)))) (sExp (eM "list" mAppend (eVar 3) (aCons (eTup (aCons (eBin oIx (eFld "BitBoard" "pieces" (eVar 0)) (eVar 4)) (aCons (eVar 5) aNil))) aNil))) sNil)
noncomputable def l_moves_answering_1 : Sv := sFor (iE (eBin oIx (eFld "BitBoard" "onto" (eVar 0)) (eVar 4))) (gN 5) b_moves_answering_1
noncomputable def l_moves_answering_2 : Sv := sFor (iE (eCall c_places_of 1 (aCons (eBin oIx (eBin oIx (eFld "BitBoard" "attacks" (eVar 0)) (eVar 1)) (eC (.int 0))) aNil))) (gN 4) l_moves_answering_1
noncomputable def m_moves_answering : Sv := (sSeq (sSet 3 (eAl (eLst aNil)))
    (sSeq l_moves_answering_2
    (sRet (eB bTuple (aCons (eVar 3) aNil)))))
noncomputable def c_moves_answering : Cv := callOf 6 m_moves_answering
noncomputable def m_moves_at : Sv := (sSeq (sAsg (gT 3 (gCons (gN 3) (gCons (gN 4) (gCons (gN 5) gNil)))) (eVar 2))
    (sSeq (sIf (tB (eBin oIsNot (eVar 3) (eC .non))) (sRet (eCall c_moves_against 2 (aCons (eVar 0) (aCons (eVar 3) aNil)))) sNil)
    (sSeq (sIf (tB (eBin oIsNot (eVar 4) (eC .non))) (sRet (eCall c_moves_answering 3 (aCons (eVar 0) (aCons (eVar 4) (aCons (eVar 5) aNil))))) sNil)
    (sRet (eTRg (eB bLen (aCons (eVar 1) aNil)))))))
noncomputable def c_moves_at : Cv := callOf 6 m_moves_at
noncomputable def m_Table_moves : Sv := (sRet (eCall c_moves_at 3 (aCons (eFld "Table" "bits" (eVar 0)) (aCons (eFld "Table" "parts" (eVar 0)) (aCons (eBin oIx (eFld "Table" "times" (eVar 0)) (eUn (fun i => -i) (eC (.int 1)))) aNil)))))
noncomputable def c_Table_moves : Cv := callOf 1 m_Table_moves
noncomputable def m_Table_loser : Sv := (sSeq (sIf (tB (eBin oGt (eB bLen (aCons (eMeth "Table" "moves" c_Table_moves 1 (eVar 0) aNil) aNil)) (eC (.int 0)))) (sRet (eC .non)) sNil)
    (sRet (eMeth "Table" "side" c_Table_side 1 (eVar 0) aNil)))
noncomputable def c_Table_loser : Cv := callOf 1 m_Table_loser
noncomputable def m_Table_said : Sv := (sRet (eB bTuple (aCons (eFld "Table" "made" (eVar 0)) aNil)))
noncomputable def c_Table_said : Cv := callOf 1 m_Table_said
noncomputable def m_law_shows : Sv := (sSeq (sSet 5 (eBin oIx (eVar 3) (eUn (fun i => -i) (eC (.int 1)))))
    (sSeq (sSet 6 (eCall c_law_moves 3 (aCons (eVar 1) (aCons (eVar 2) (aCons (eVar 5) aNil)))))
    (sSeq (sSet 7 (eC .non))
    (sSeq (sIf (tB (eBin oEq (eB bLen (aCons (eVar 6) aNil)) (eC (.int 0)))) (sSet 7 (eCall c_law_side 1 (aCons (eVar 5) aNil))) sNil)
    (sSeq (sIf (tOrE (tNotE (tB (eCall (c_law_same 40) 2 (aCons (eMeth "Table" "side" c_Table_side 1 (eVar 0) aNil) (aCons (eCall c_law_side 1 (aCons (eVar 5) aNil)) aNil))))) (tNotE (tB (eCall (c_law_same 40) 2 (aCons (eMeth "Table" "moves" c_Table_moves 1 (eVar 0) aNil) (aCons (eB bTuple (aCons (eVar 6) aNil)) aNil)))))) (sRet (eC (.bl false))) sNil)
    (sRet (eAnd (eCall (c_law_same 40) 2 (aCons (eMeth "Table" "loser" c_Table_loser 1 (eVar 0) aNil) (aCons (eVar 7) aNil))) (eCall (c_law_same 40) 2 (aCons (eMeth "Table" "said" c_Table_said 1 (eVar 0) aNil) (aCons (eB bTuple (aCons (eVar 4) aNil)) aNil))))))))))
noncomputable def c_law_shows : Cv := callOf 8 m_law_shows
noncomputable def m_law_moved : Sv := (sSeq (sIf (tB (eBin oEq (eBin oIx (eVar 2) (eC (.int 0))) (eC (.int 0)))) (sRet (eLst (aCons (eC (.int 1)) (aCons (eBin oIx (eVar 1) (eVar 3)) (aCons (eC (.int 0)) (aCons (eTup aNil) aNil)))))) sNil)
    (sSeq (sIf (tB (eBin oEq (eBin oIx (eVar 2) (eC (.int 0))) (eC (.int 1)))) (sRet (eLst (aCons (eC (.int 2)) (aCons (eBin oIx (eVar 2) (eC (.int 1))) (aCons (eBin oIx (eVar 3) (eC (.int 1))) (aCons (eCall c_law_set 1 (aCons (eBin oAdd (eBin oIx (eVar 2) (eC (.int 3))) (eTup (aCons (eBin oIx (eVar 3) (eC (.int 0))) aNil))) aNil)) aNil)))))) sNil)
    (sRet (eLst (aCons (eC (.int 1)) (aCons (eBin oIx (eBin oIx (eBin oIx (eVar 0) (eC (.int 1))) (eBin oIx (eVar 3) (eC (.int 1)))) (eC (.int 0))) (aCons (eC (.int 0)) (aCons (eBin oIx (eVar 2) (eC (.int 3))) aNil))))))))
noncomputable def c_law_moved : Cv := callOf 4 m_law_moved
noncomputable def m_time_behind : Sv := (sSeq (sAsg (gT 3 (gCons (gN 4) (gCons (gN 5) (gCons (gN 6) gNil)))) (eVar 2))
    (sSeq (sIf (tB (eBin oIsNot (eVar 4) (eC .non))) (sSeq (sAsg (gT 2 (gCons (gN 7) (gCons (gN 8) gNil))) (eVar 3))
    (sRet (eTup (aCons (eC .non) (aCons (eVar 8) (aCons (eBin oBor (eVar 6) (eBin oShl (eC (.int 1)) (eBin oDGet (eFld "BitBoard" "places" (eVar 0)) (eVar 7)))) aNil)))))) sNil)
    (sSeq (sIf (tB (eBin oIs (eVar 5) (eC .non))) (sRet (eTup (aCons (eBin oIx (eVar 1) (eVar 3)) (aCons (eC .non) (aCons (eVar 6) aNil))))) sNil)
    (sSeq (sAsg (gT 2 (gCons (gN 7) (gCons (gN 8) gNil))) (eVar 3))
    (sRet (eTup (aCons (eBin oIx (eBin oIx (eFld "BitBoard" "attacks" (eVar 0)) (eVar 8)) (eC (.int 0))) (aCons (eC .non) (aCons (eVar 6) aNil)))))))))
noncomputable def c_time_behind : Cv := callOf 9 m_time_behind
noncomputable def m_Table_move : Sv := (sSeq (sIf (tB (eBin oNotIn (eVar 1) (eMeth "Table" "moves" c_Table_moves 1 (eVar 0) aNil))) sBot sNil)
    (sSeq (sExp (eM "list" mAppend (eFld "Table" "times" (eVar 0)) (aCons (eCall c_time_behind 4 (aCons (eFld "Table" "bits" (eVar 0)) (aCons (eFld "Table" "parts" (eVar 0)) (aCons (eBin oIx (eFld "Table" "times" (eVar 0)) (eUn (fun i => -i) (eC (.int 1)))) (aCons (eVar 1) aNil))))) aNil)))
    (sExp (eM "list" mAppend (eFld "Table" "made" (eVar 0)) (aCons (eVar 1) aNil)))))
noncomputable def c_Table_move : Cv := callOf 2 m_Table_move
noncomputable def m_Table_back : Sv := (sSeq (sIf (tB (eBin oEq (eB bLen (aCons (eFld "Table" "made" (eVar 0)) aNil)) (eC (.int 0)))) (sRet (eC (.bl false))) sNil)
    (sSeq (sExp (eM0 "list" mPop (eFld "Table" "times" (eVar 0))))
    (sSeq (sExp (eM0 "list" mPop (eFld "Table" "made" (eVar 0))))
    (sRet (eC (.bl true))))))
noncomputable def c_Table_back : Cv := callOf 1 m_Table_back
noncomputable def m_law_step : Sv := (sSeq (sSet 6 (eCall c_law_moves 3 (aCons (eVar 2) (aCons (eVar 3) (aCons (eBin oIx (eVar 4) (eUn (fun i => -i) (eC (.int 1)))) aNil)))))
    (sSeq (sIf (tOrE (tB (eBin oEq (eB bLen (aCons (eVar 6) aNil)) (eC (.int 0)))) (tAndE (tB (eBin oGt (eB bLen (aCons (eVar 5) aNil)) (eC (.int 0)))) (tB (eBin oEq (eCall c_law_take 2 (aCons (eVar 0) (aCons (eC (.int 6)) aNil))) (eC (.int 0)))))) (sSeq (sIf (tNotE (tB (eCall (c_law_same 40) 2 (aCons (eMeth "Table" "back" c_Table_back 1 (eVar 1) aNil) (aCons (eBin oGt (eB bLen (aCons (eVar 5) aNil)) (eC (.int 0))) aNil))))) (sRet (eC (.bl false))) sNil)
    (sSeq (sIf (tB (eBin oGt (eB bLen (aCons (eVar 5) aNil)) (eC (.int 0)))) (sSeq (sExp (eM0 "list" mPop (eVar 5)))
    (sExp (eM0 "list" mPop (eVar 4)))) sNil)
    (sRet (eC (.bl true))))) sNil)
    (sSeq (sSet 7 (eCall c_law_pick 2 (aCons (eVar 0) (aCons (eVar 6) aNil))))
    (sSeq (sIf (tB (eBin oIsNot (eMeth "Table" "move" c_Table_move 2 (eVar 1) (aCons (eVar 7) aNil)) (eC .non))) (sRet (eC (.bl false))) sNil)
    (sSeq (sExp (eM "list" mAppend (eVar 4) (aCons (eCall c_law_moved 4 (aCons (eVar 2) (aCons (eVar 3) (aCons (eBin oIx (eVar 4) (eUn (fun i => -i) (eC (.int 1)))) (aCons (eVar 7) aNil))))) aNil)))
    (sSeq (sExp (eM "list" mAppend (eVar 5) (aCons (eVar 7) aNil)))
    (sRet (eC (.bl true)))))))))
noncomputable def c_law_step : Cv := callOf 8 m_law_step
noncomputable def k_places_by_1 : Ev := eDc (iEnumD (aCons (eVar 0) aNil)) [1, 2] (gT 2 (gCons (gN 1) (gCons (gN 2) gNil))) tYesE (eVar 2) (eVar 1)
noncomputable def m_places_by : Sv := (sRet k_places_by_1)
noncomputable def c_places_by : Cv := callOf 3 m_places_by
noncomputable def b_mask_of_1 : Sv := (sIf (tB (eBin oDIn (eVar 3) (eVar 0))) (sSet 2 (eBin oBor (eVar 2) (eBin oShl (eC (.int 1)) (eBin oDGet (eVar 0) (eVar 3))))) sNil)
noncomputable def l_mask_of_1 : Sv := sFor (iE (eVar 1)) (gN 3) b_mask_of_1
noncomputable def m_mask_of : Sv := (sSeq (sSet 2 (eC (.int 0)))
    (sSeq l_mask_of_1
    (sRet (eVar 2))))
noncomputable def c_mask_of : Cv := callOf 4 m_mask_of
noncomputable def k_BitBoard___init___1 : Ev := eLc (iE (eVar 3)) [5, 6] (gT 2 (gCons (gN 5) (gCons (gN 6) gNil))) tYesE (eTup (aCons (eCall c_mask_of 2 (aCons (eFld "BitBoard" "places" (eVar 0)) (aCons (eVar 5) aNil))) (aCons (eBin oShl (eC (.int 1)) (eBin oDGet (eFld "BitBoard" "places" (eVar 0)) (eVar 6))) aNil)))
noncomputable def k_BitBoard___init___2 : Ev := eLc (iE (eVar 2)) [6] (gN 6) tYesE (eAl (eLst aNil))
noncomputable def b_BitBoard___init___1 : Sv := (sExp (eM "list" mAppend (eBin oIx (eFld "BitBoard" "onto" (eVar 0)) (eBin oDGet (eFld "BitBoard" "places" (eVar 0)) (eVar 6))) (aCons (eVar 4) aNil)))
noncomputable def l_BitBoard___init___1 : Sv := sFor (iEnumD (aCons (eVar 3) aNil)) (gT 2 (gCons (gN 4) (gCons (gT 2 (gCons (gN 5) (gCons (gN 6) gNil))) gNil))) b_BitBoard___init___1
noncomputable def m_BitBoard___init__ : Sv := (sSeq (sAsg (gT 2 (gCons (gN 2) (gCons (gN 3) gNil))) (eVar 1))
    (sSeq (sSetF "BitBoard" "pieces" (eVar 0) (eVar 2))
    (sSeq (sSetF "BitBoard" "places" (eVar 0) (eCall c_places_by 1 (aCons (eVar 2) aNil)))
    (sSeq (sSetF "BitBoard" "whole" (eVar 0) (eBin oSub (eBin oShl (eC (.int 1)) (eB bLen (aCons (eVar 2) aNil))) (eC (.int 1))))
    (sSeq (sSetF "BitBoard" "attacks" (eVar 0) k_BitBoard___init___1)
    (sSeq (sSetF "BitBoard" "onto" (eVar 0) k_BitBoard___init___2)
    l_BitBoard___init___1))))))
noncomputable def c_BitBoard___init__ : Cv := callI 7 m_BitBoard___init__
noncomputable def k_BitBoard_masks_for_1 : Ev := eLc (iE (eVar 1)) [2] (gN 2) tYesE (eCall c_mask_of 2 (aCons (eFld "BitBoard" "places" (eVar 0)) (aCons (eVar 2) aNil)))
noncomputable def m_BitBoard_masks_for : Sv := (sRet k_BitBoard_masks_for_1)
noncomputable def c_BitBoard_masks_for : Cv := callOf 3 m_BitBoard_masks_for
noncomputable def m_Table___init__ : Sv := (sSeq (sSetF "Table" "bits" (eVar 0) (eNew "BitBoard" c_BitBoard___init__ 2 (aCons (eVar 1) aNil)))
    (sSeq (sSetF "Table" "parts" (eVar 0) (eMeth "BitBoard" "masks_for" c_BitBoard_masks_for 2 (eFld "Table" "bits" (eVar 0)) (aCons (eVar 2) aNil)))
    (sSeq (sSetF "Table" "times" (eVar 0) (eAl (eLst (aCons (eC (.tup [.non, .non, .int 0])) aNil))))
    (sSetF "Table" "made" (eVar 0) (eAl (eLst aNil))))))
noncomputable def c_Table___init__ : Cv := callI 3 m_Table___init__
noncomputable def k_law_are_right_1 : Ev := eLc (iE (eVar 1)) [9] (gN 9) tYesE (eNewM "Table" c_Table___init__ 3 (aCons (eBin oIx (eVar 9) (eC (.int 0))) (aCons (eBin oIx (eVar 9) (eC (.int 1))) aNil)))
noncomputable def k_law_are_right_2 : Ev := eLc (iE (eVar 1)) [9] (gN 9) tYesE (eAl (eLst (aCons (eCall c_law_play 2 (aCons (eBin oIx (eVar 9) (eC (.int 0))) (aCons (eBin oIx (eVar 9) (eC (.int 1))) aNil))) aNil)))
noncomputable def k_law_are_right_3 : Ev := eLc (iE (eVar 1)) [9] (gN 9) tYesE (eAl (eLst aNil))
noncomputable def b_law_are_right_1 : Sv := (sSeq (sSet 7 (eBin oIx (eBin oIx (eVar 1) (eVar 6)) (eC (.int 0))))
    (sSeq (sSet 8 (eBin oIx (eBin oIx (eVar 1) (eVar 6)) (eC (.int 1))))
    (sSeq (sIf (tNotE (tB (eCall c_law_shows 5 (aCons (eBin oIx (eVar 2) (eVar 6)) (aCons (eVar 7) (aCons (eVar 8) (aCons (eBin oIx (eVar 3) (eVar 6)) (aCons (eBin oIx (eVar 4) (eVar 6)) aNil)))))))) (sRet (eC (.bl false))) sNil)
    (sIf (tNotE (tB (eCall c_law_step 6 (aCons (eVar 0) (aCons (eBin oIx (eVar 2) (eVar 6)) (aCons (eVar 7) (aCons (eVar 8) (aCons (eBin oIx (eVar 3) (eVar 6)) (aCons (eBin oIx (eVar 4) (eVar 6)) aNil))))))))) (sRet (eC (.bl false))) sNil))))
noncomputable def l_law_are_right_1 : Sv := sFor (iRange1 (aCons (eB bLen (aCons (eVar 1) aNil)) aNil)) (gN 6) b_law_are_right_1
noncomputable def l_law_are_right_2 : Sv := sFor (iRange1 (aCons (eC (.int 14)) aNil)) (gN 5) l_law_are_right_1
noncomputable def b_law_are_right_2 : Sv := (sIf (tNotE (tB (eCall (c_law_same 40) 2 (aCons (eMeth "Table" "back" c_Table_back 1 (eBin oIx (eVar 2) (eVar 6)) aNil) (aCons (eC (.bl true)) aNil))))) (sRet (eC (.bl false))) sNil)
noncomputable def l_law_are_right_3 : Sv := sFor (iRange1 (aCons (eB bLen (aCons (eBin oIx (eVar 4) (eVar 6)) aNil)) aNil)) (gN 5) b_law_are_right_2
noncomputable def b_law_are_right_3 : Sv := (sSeq (sIf (tNotE (tB (eCall c_law_shows 5 (aCons (eBin oIx (eVar 2) (eVar 6)) (aCons (eBin oIx (eBin oIx (eVar 1) (eVar 6)) (eC (.int 0))) (aCons (eBin oIx (eBin oIx (eVar 1) (eVar 6)) (eC (.int 1))) (aCons (eBin oIx (eVar 3) (eVar 6)) (aCons (eBin oIx (eVar 4) (eVar 6)) aNil)))))))) (sRet (eC (.bl false))) sNil)
    (sSeq l_law_are_right_3
    (sSeq (sIf (tNotE (tB (eCall (c_law_same 40) 2 (aCons (eMeth "Table" "back" c_Table_back 1 (eBin oIx (eVar 2) (eVar 6)) aNil) (aCons (eC (.bl false)) aNil))))) (sRet (eC (.bl false))) sNil)
    (sIf (tNotE (tB (eCall c_law_shows 5 (aCons (eBin oIx (eVar 2) (eVar 6)) (aCons (eBin oIx (eBin oIx (eVar 1) (eVar 6)) (eC (.int 0))) (aCons (eBin oIx (eBin oIx (eVar 1) (eVar 6)) (eC (.int 1))) (aCons (eSl slD (eBin oIx (eVar 3) (eVar 6)) oNo (oSo (eC (.int 1)))) (aCons (eLst aNil) aNil)))))))) (sRet (eC (.bl false))) sNil))))
noncomputable def l_law_are_right_4 : Sv := sFor (iRange1 (aCons (eB bLen (aCons (eVar 1) aNil)) aNil)) (gN 6) b_law_are_right_3
noncomputable def m_law_are_right : Sv := (sSeq (sSet 2 k_law_are_right_1)
    (sSeq (sSet 3 k_law_are_right_2)
    (sSeq (sSet 4 k_law_are_right_3)
    (sSeq l_law_are_right_2
    (sSeq l_law_are_right_4
    (sRet (eC (.bl true))))))))
noncomputable def c_law_are_right : Cv := callOf 10 m_law_are_right
noncomputable def b_law_1 : Sv := (sIf (tNotE (tB (eCall c_law_are_right 2 (aCons (eVar 1) (aCons (eVar 3) aNil))))) (sRet (eC (.bl false))) sNil)
noncomputable def l_law_1 : Sv := sFor (iE (eLst (aCons (eLst (aCons (eBin oIx (eVar 2) (eC (.int 0))) (aCons (eBin oIx (eVar 2) (eC (.int 3))) aNil))) (aCons (eLst (aCons (eBin oIx (eVar 2) (eC (.int 1))) (aCons (eBin oIx (eVar 2) (eC (.int 2))) aNil))) (aCons (eLst (aCons (eBin oIx (eVar 2) (eC (.int 4))) (aCons (eBin oIx (eVar 2) (eC (.int 5))) (aCons (eBin oIx (eVar 2) (eC (.int 6))) aNil)))) aNil))))) (gN 3) b_law_1
noncomputable def m_law : Sv := (sSeq (sSet 1 (eAl (eCallO c_law_draws 2 (aCons (eVar 0) (aCons (eC (.int 1200)) aNil)))))
    (sSeq (sSet 2 (eCall c_law_tables 3 (aCons (eVar 1) (aCons (eC (.int 6)) (aCons (eC (.int 10)) aNil)))))
    (sSeq l_law_1
    (sRet (eC (.bl true))))))
noncomputable def c_law : Cv := callOf 4 m_law
structure Txt (K : PySem.W.Frag) (mg : Str → Option Value) (a : Nat → Addr) (fd : Nat → FuncData) : Prop where
  g_law_draws : mg "_law_draws" = some (.ref (a 0))
  F_law_draws : FnP K "_law_draws" "_law_draws" s_law_draws (a 0) (fd 0)
  b_law_draws : Binds K (fd 0) ["script", "many"] []
  g_law_take : mg "_law_take" = some (.ref (a 1))
  F_law_take : FnP K "_law_take" "_law_take" s_law_take (a 1) (fd 1)
  b_law_take : Binds K (fd 1) ["draws", "many"] []
  g_law_pick : mg "_law_pick" = some (.ref (a 2))
  F_law_pick : FnP K "_law_pick" "_law_pick" s_law_pick (a 2) (fd 2)
  b_law_pick : Binds K (fd 2) ["draws", "row"] []
  g_law_value_key : mg "_law_value_key" = some (.ref (a 3))
  F_law_value_key : FnP K "_law_value_key" "_law_value_key" s_law_value_key (a 3) (fd 3)
  b_law_value_key : Binds K (fd 3) ["value"] []
  g_law_row_key : mg "_law_row_key" = some (.ref (a 4))
  F_law_row_key : FnP K "_law_row_key" "_law_row_key" s_law_row_key (a 4) (fd 4)
  b_law_row_key : Binds K (fd 4) ["row"] []
  g_law_statement_key : mg "_law_statement_key" = some (.ref (a 5))
  F_law_statement_key : FnP K "_law_statement_key" "_law_statement_key" s_law_statement_key (a 5) (fd 5)
  b_law_statement_key : Binds K (fd 5) ["statement"] []
  g_law_set : mg "_law_set" = some (.ref (a 6))
  F_law_set : FnP K "_law_set" "_law_set" s_law_set (a 6) (fd 6)
  b_law_set : Binds K (fd 6) ["statements"] []
  g_law_words : mg "_law_words" = some (.ref (a 7))
  F_law_words : FnP K "_law_words" "_law_words" s_law_words (a 7) (fd 7)
  b_law_words : Binds K (fd 7) ["draws", "many"] []
  g_law_value : mg "_law_value" = some (.ref (a 8))
  F_law_value : FnP K "_law_value" "_law_value" s_law_value (a 8) (fd 8)
  b_law_value : Binds K (fd 8) ["draws", "words"] []
  g_law_pieces : mg "_law_pieces" = some (.ref (a 9))
  F_law_pieces : FnP K "_law_pieces" "_law_pieces" s_law_pieces (a 9) (fd 9)
  b_law_pieces : Binds K (fd 9) ["draws", "many"] []
  g_law_shuffled : mg "_law_shuffled" = some (.ref (a 10))
  F_law_shuffled : FnP K "_law_shuffled" "_law_shuffled" s_law_shuffled (a 10) (fd 10)
  b_law_shuffled : Binds K (fd 10) ["draws", "row"] []
  g_law_set_key : mg "_law_set_key" = some (.ref (a 11))
  F_law_set_key : FnP K "_law_set_key" "_law_set_key" s_law_set_key (a 11) (fd 11)
  b_law_set_key : Binds K (fd 11) ["statements"] []
  g_law_within : mg "_law_within" = some (.ref (a 12))
  F_law_within : FnP K "_law_within" "_law_within" s_law_within (a 12) (fd 12)
  b_law_within : Binds K (fd 12) ["part", "whole"] []
  g_law_thinned : mg "_law_thinned" = some (.ref (a 13))
  F_law_thinned : FnP K "_law_thinned" "_law_thinned" s_law_thinned (a 13) (fd 13)
  b_law_thinned : Binds K (fd 13) ["sets"] []
  g_law_board_of_raw : mg "_law_board_of_raw" = some (.ref (a 14))
  F_law_board_of_raw : FnP K "_law_board_of_raw" "_law_board_of_raw" s_law_board_of_raw (a 14) (fd 14)
  b_law_board_of_raw : Binds K (fd 14) ["pieces", "raw"] []
  g_law_support : mg "_law_support" = some (.ref (a 15))
  F_law_support : FnP K "_law_support" "_law_support" s_law_support (a 15) (fd 15)
  b_law_support : Binds K (fd 15) ["draws", "pieces"] []
  g_law_raw : mg "_law_raw" = some (.ref (a 16))
  F_law_raw : FnP K "_law_raw" "_law_raw" s_law_raw (a 16) (fd 16)
  b_law_raw : Binds K (fd 16) ["draws", "pieces", "most"] []
  g_law_shape : mg "_law_shape" = some (.ref (a 17))
  F_law_shape : FnP K "_law_shape" "_law_shape" s_law_shape (a 17) (fd 17)
  b_law_shape : Binds K (fd 17) ["draws", "pieces"] []
  g_law_sure_board : mg "_law_sure_board" = some (.ref (a 18))
  F_law_sure_board : FnP K "_law_sure_board" "_law_sure_board" s_law_sure_board (a 18) (fd 18)
  b_law_sure_board : Binds K (fd 18) ["draws"] []
  g_law_boards : mg "_law_boards" = some (.ref (a 19))
  F_law_boards : FnP K "_law_boards" "_law_boards" s_law_boards (a 19) (fd 19)
  b_law_boards : Binds K (fd 19) ["draws", "many", "most"] []
  g_law_claim : mg "_law_claim" = some (.ref (a 20))
  F_law_claim : FnP K "_law_claim" "_law_claim" s_law_claim (a 20) (fd 20)
  b_law_claim : Binds K (fd 20) ["draws", "pieces"] []
  g_law_cut_board : mg "_law_cut_board" = some (.ref (a 21))
  F_law_cut_board : FnP K "_law_cut_board" "_law_cut_board" s_law_cut_board (a 21) (fd 21)
  b_law_cut_board : Binds K (fd 21) ["board", "most"] []
  g_law_tables : mg "_law_tables" = some (.ref (a 22))
  F_law_tables : FnP K "_law_tables" "_law_tables" s_law_tables (a 22) (fd 22)
  b_law_tables : Binds K (fd 22) ["draws", "many", "most"] []
  g_law_same : mg "_law_same" = some (.ref (a 23))
  F_law_same : FnP K "_law_same" "_law_same" s_law_same (a 23) (fd 23)
  b_law_same : Binds K (fd 23) ["actual", "due"] []
  g_law_play : mg "_law_play" = some (.ref (a 24))
  F_law_play : FnP K "_law_play" "_law_play" s_law_play (a 24) (fd 24)
  b_law_play : Binds K (fd 24) ["board", "claim"] []
  g_law_side : mg "_law_side" = some (.ref (a 25))
  F_law_side : FnP K "_law_side" "_law_side" s_law_side (a 25) (fd 25)
  b_law_side : Binds K (fd 25) ["state"] []
  g_law_moves : mg "_law_moves" = some (.ref (a 26))
  F_law_moves : FnP K "_law_moves" "_law_moves" s_law_moves (a 26) (fd 26)
  b_law_moves : Binds K (fd 26) ["board", "claim", "state"] []
  g_side_at : mg "side_at" = some (.ref (a 27))
  F_side_at : FnP K "side_at" "side_at" s_side_at (a 27) (fd 27)
  b_side_at : Binds K (fd 27) ["time"] []
  F_Table_side : FnP K "side" "Table.side" s_Table_side (a 28) (fd 28)
  b_Table_side : Binds K (fd 28) ["self"] []
  g_places_of : mg "places_of" = some (.ref (a 29))
  F_places_of : FnP K "places_of" "places_of" s_places_of (a 29) (fd 29)
  b_places_of : Binds K (fd 29) ["mask"] []
  g_moves_against : mg "moves_against" = some (.ref (a 30))
  F_moves_against : FnP K "moves_against" "moves_against" s_moves_against (a 30) (fd 30)
  b_moves_against : Binds K (fd 30) ["bits", "held"] []
  g_moves_answering : mg "moves_answering" = some (.ref (a 31))
  F_moves_answering : FnP K "moves_answering" "moves_answering" s_moves_answering (a 31) (fd 31)
  b_moves_answering : Binds K (fd 31) ["bits", "attack", "named"] []
  g_moves_at : mg "moves_at" = some (.ref (a 32))
  F_moves_at : FnP K "moves_at" "moves_at" s_moves_at (a 32) (fd 32)
  b_moves_at : Binds K (fd 32) ["bits", "parts", "time"] []
  F_Table_moves : FnP K "moves" "Table.moves" s_Table_moves (a 33) (fd 33)
  b_Table_moves : Binds K (fd 33) ["self"] []
  F_Table_loser : FnP K "loser" "Table.loser" s_Table_loser (a 34) (fd 34)
  b_Table_loser : Binds K (fd 34) ["self"] []
  F_Table_said : FnP K "said" "Table.said" s_Table_said (a 35) (fd 35)
  b_Table_said : Binds K (fd 35) ["self"] []
  g_law_shows : mg "_law_shows" = some (.ref (a 36))
  F_law_shows : FnP K "_law_shows" "_law_shows" s_law_shows (a 36) (fd 36)
  b_law_shows : Binds K (fd 36) ["table", "board", "claim", "states", "moves"] []
  g_law_moved : mg "_law_moved" = some (.ref (a 37))
  F_law_moved : FnP K "_law_moved" "_law_moved" s_law_moved (a 37) (fd 37)
  b_law_moved : Binds K (fd 37) ["board", "claim", "state", "move"] []
  g_time_behind : mg "time_behind" = some (.ref (a 38))
  F_time_behind : FnP K "time_behind" "time_behind" s_time_behind (a 38) (fd 38)
  b_time_behind : Binds K (fd 38) ["bits", "parts", "time", "move"] []
  F_Table_move : FnP K "move" "Table.move" s_Table_move (a 39) (fd 39)
  b_Table_move : Binds K (fd 39) ["self", "move"] []
  F_Table_back : FnP K "back" "Table.back" s_Table_back (a 40) (fd 40)
  b_Table_back : Binds K (fd 40) ["self"] []
  g_law_step : mg "_law_step" = some (.ref (a 41))
  F_law_step : FnP K "_law_step" "_law_step" s_law_step (a 41) (fd 41)
  b_law_step : Binds K (fd 41) ["draws", "table", "board", "claim", "states", "moves"] []
  g_places_by : mg "places_by" = some (.ref (a 42))
  F_places_by : FnP K "places_by" "places_by" s_places_by (a 42) (fd 42)
  b_places_by : Binds K (fd 42) ["things"] []
  g_mask_of : mg "mask_of" = some (.ref (a 43))
  F_mask_of : FnP K "mask_of" "mask_of" s_mask_of (a 43) (fd 43)
  b_mask_of : Binds K (fd 43) ["places", "things"] []
  F_BitBoard___init__ : FnP K "__init__" "BitBoard.__init__" s_BitBoard___init__ (a 44) (fd 44)
  b_BitBoard___init__ : Binds K (fd 44) ["self", "board"] []
  F_BitBoard_masks_for : FnP K "masks_for" "BitBoard.masks_for" s_BitBoard_masks_for (a 45) (fd 45)
  b_BitBoard_masks_for : Binds K (fd 45) ["self", "claim"] []
  F_Table___init__ : FnP K "__init__" "Table.__init__" s_Table___init__ (a 46) (fd 46)
  b_Table___init__ : Binds K (fd 46) ["self", "board", "claim"] []
  g_law_are_right : mg "_law_are_right" = some (.ref (a 47))
  F_law_are_right : FnP K "_law_are_right" "_law_are_right" s_law_are_right (a 47) (fd 47)
  b_law_are_right : Binds K (fd 47) ["draws", "cases"] []
  g_law : mg "law" = some (.ref (a 48))
  F_law : FnP K "law" "law" s_law (a 48) (fd 48)
  b_law : Binds K (fd 48) ["script"] []
  gc_Table : mg "Table" = some (.ref (a 49))
  C_Table : Cls K (a 49)
  gc_BitBoard : mg "BitBoard" = some (.ref (a 50))
  C_BitBoard : Cls K (a 50)
  na_Table_times : NoAttr K (a 49) "times"
  na_BitBoard_pieces : NoAttr K (a 50) "pieces"
  na_BitBoard_onto : NoAttr K (a 50) "onto"
  na_BitBoard_attacks : NoAttr K (a 50) "attacks"
  na_Table_parts : NoAttr K (a 49) "parts"
  na_Table_bits : NoAttr K (a 49) "bits"
  na_Table_made : NoAttr K (a 49) "made"
  na_BitBoard_places : NoAttr K (a 50) "places"
  na_BitBoard_whole : NoAttr K (a 50) "whole"
  m_Table_moves : Meth K (a 49) "moves" (a 33)
  m_Table_side : Meth K (a 49) "side" (a 28)
  m_Table_loser : Meth K (a 49) "loser" (a 34)
  m_Table_said : Meth K (a 49) "said" (a 35)
  m_Table_back : Meth K (a 49) "back" (a 40)
  m_Table_move : Meth K (a 49) "move" (a 39)
  m_BitBoard_masks_for : Meth K (a 50) "masks_for" (a 45)
  mk_BitBoard : Mk K (a 50) (a 44)
  mk_Table : Mk K (a 49) (a 46)
  z_int : mg "int" = none
  z_len : mg "len" = none
  z_list : mg "list" = none
  z_range : mg "range" = none
  z_str : mg "str" = none
  z_isinstance : mg "isinstance" = none
  z_tuple : mg "tuple" = none
  z_sorted : mg "sorted" = none
  z_max : mg "max" = none
  z_bool : mg "bool" = none
  z_enumerate : mg "enumerate" = none
  k_SPEAKER : ∃ t, mg "SPEAKER" = some (.str "speaker" t)
  k_DOUBTER : ∃ t, mg "DOUBTER" = some (.str "doubter" t)
  k_BEGINNING : KTup K mg "BEGINNING" [.non, .non, .int 0]
theorem sc_law_draws : FnScope ["script", "many", "cells", "left", "draws", "k", "place", "mixed", "cell"] ["script", "many"] (defScope s_law_draws) := ⟨rfl, rfl, rfl, by decide +kernel, rfl, by decide +kernel, by decide +kernel⟩
theorem ok_law_draws {P : Program} {w : World} {K : PySem.W.Frag} {mg : Str → Option Value} {base : Heap} {a : Nat → Addr} {fd : Nat → FuncData} (T : Txt K mg a fd) : FnOk P w K mg base CX0 1 (a 0) (fd 0) ["script", "many"] (spOf ⟨P, w, K, fa a⟩ c_law_draws 2) :=
  fn_ruleD (fa := fa a) (k := 0) T.F_law_draws sc_law_draws fun cdv A outer s H E hr => (sss_cons (ss_setLcA (i := 2) rfl sc_law_draws.nd rfl rfl rfl (si_seq (sv 0)) (blkOk_by (own := [("cell", 8)]) (by kernel_rfl)) (fun _ _ _ _ _ => (sg_name sc_law_draws.nd (i := 8) rfl (by first | exact Or.inl rfl | exact Or.inr rfl))) (by decide) (fun _ _ _ _ _ => sts_nil) (fun _ _ _ _ _ => (se_callTy call_int1 sem_int (by rfl) T.z_int rfl (sa_cons (sv 8) sa_nil))))
    (sss_cons (ss_if (st_eq hr (se_callB call_len sem_len (by rfl) T.z_len rfl (sa_cons (sv 2) sa_nil)) se_int) (sss_one (ss_expr (se_bm PySem.F.plainAttrs_list PySem.F.slot_list_append PySem.F.type_list_append mt_append sem_append (sv 2) (sa_cons se_int sa_nil)))) sss_nil)
    (sss_cons (ss_set sc_law_draws.nd (i := 3) rfl (by first | exact Or.inl rfl | exact Or.inr rfl) (SEm.al (se_callTy call_list_of sem_list (by rfl) T.z_list rfl (sa_cons (sv 2) sa_nil))))
    (sss_cons (ss_set sc_law_draws.nd (i := 4) rfl (by first | exact Or.inl rfl | exact Or.inr rfl) (SEm.al (se_lst sa_nil (al_sz (n := 0) (by decide) al_nil))))
    (sss_cons (ss_for PassesOwn.never rfl (si_range1 (by rfl) T.z_range (sa_cons (sv 1) sa_nil)) (sg_name sc_law_draws.nd (i := 5) rfl (by first | exact Or.inl rfl | exact Or.inr rfl)) (sss_cons (ss_set sc_law_draws.nd (i := 6) rfl (by first | exact Or.inl rfl | exact Or.inr rfl) (se_mod (sv 5) (se_callB call_len sem_len (by rfl) T.z_len rfl (sa_cons (sv 2) sa_nil))))
    (sss_one (ss_if (STw.st (sw_and (st_ge (se_ix (sv 2) (sv 6)) (se_pow se_int se_int)) (sw_and1 (st_gt (se_ix (sv 3) (sv 6)) se_int)))) (sss_cons (ss_expr (se_bm PySem.F.plainAttrs_list PySem.F.slot_list_append PySem.F.type_list_append mt_append sem_append (sv 4) (sa_cons (se_mod (se_callTy call_int1 sem_int (by rfl) T.z_int rfl (sa_cons (se_ix (sv 3) (sv 6)) sa_nil)) se_int) sa_nil)))
    (sss_one (ss_setI (se_fdiv (se_ix (sv 3) (sv 6)) se_int) (sv 3) (sv 6)))) (sss_cons (ss_set sc_law_draws.nd (i := 7) rfl (by first | exact Or.inl rfl | exact Or.inr rfl) (se_mod (se_callTy call_int1 sem_int (by rfl) T.z_int rfl (sa_cons (se_add (se_add (se_mul (se_ix (sv 2) (sv 6)) se_int) (se_mul (sv 5) se_int)) se_int) sa_nil)) se_int))
    (sss_one (ss_expr (se_bm PySem.F.plainAttrs_list PySem.F.slot_list_append PySem.F.type_list_append mt_append sem_append (sv 4) (sa_cons (se_mod (se_callTy call_int1 sem_int (by rfl) T.z_int rfl (sa_cons (se_add (se_add (se_mul (sv 7) (sv 7)) (se_mul se_int (sv 7))) (sv 5)) sa_nil)) se_int) sa_nil)))))))))
    (sss_cons (ss_expr (se_bm0 PySem.F.plainAttrs_list PySem.F.slot_list_reverse PySem.F.type_list_reverse mt_reverse sem_reverse (sv 4)))
    (sss_one (ss_ret (sv 4)))))))))
theorem sc_law_take : FnScope ["draws", "many"] ["draws", "many"] (defScope s_law_take) := ⟨rfl, rfl, rfl, by decide +kernel, rfl, by decide +kernel, by decide +kernel⟩
theorem ok_law_take {P : Program} {w : World} {K : PySem.W.Frag} {mg : Str → Option Value} {base : Heap} {a : Nat → Addr} {fd : Nat → FuncData} (T : Txt K mg a fd) : FnOk P w K mg base CX0 1 (a 1) (fd 1) ["draws", "many"] (spOf ⟨P, w, K, fa a⟩ c_law_take 2) :=
  fn_ruleD (fa := fa a) (k := 0) T.F_law_take sc_law_take fun cdv A outer s H E hr => (sss_cons (ss_if (st_eq hr (se_callB call_len sem_len (by rfl) T.z_len rfl (sa_cons (sv 0) sa_nil)) se_int) (sss_one (ss_ret se_int)) sss_nil)
    (sss_one (ss_ret (se_mod (se_callTy call_int1 sem_int (by rfl) T.z_int rfl (sa_cons (se_bm0 PySem.F.plainAttrs_list PySem.F.slot_list_pop PySem.F.type_list_pop mt_pop sem_pop (sv 0)) sa_nil)) (sv 1)))))
theorem sc_law_pick : FnScope ["draws", "row"] ["draws", "row"] (defScope s_law_pick) := ⟨rfl, rfl, rfl, by decide +kernel, rfl, by decide +kernel, by decide +kernel⟩
theorem ok_law_pick {P : Program} {w : World} {K : PySem.W.Frag} {mg : Str → Option Value} {base : Heap} {a : Nat → Addr} {fd : Nat → FuncData} (T : Txt K mg a fd) : FnOk P w K mg base CX0 2 (a 2) (fd 2) ["draws", "row"] (spOf ⟨P, w, K, fa a⟩ c_law_pick 2) :=
  fn_ruleD (fa := fa a) (k := 1) T.F_law_pick sc_law_pick fun cdv A outer s H E hr => (sss_one (ss_ret (se_ix (sv 1) (se_call (ps := ["draws", "many"]) (ok_law_take T) (hr.mono (by decide)) (by rfl) T.g_law_take T.F_law_take.kp T.b_law_take (sa_cons (sv 0) (sa_cons (se_callB call_len sem_len (by rfl) T.z_len rfl (sa_cons (sv 1) sa_nil)) sa_nil))))))
theorem sc_law_value_key : FnScope ["value"] ["value"] (defScope s_law_value_key) := ⟨rfl, rfl, rfl, by decide +kernel, rfl, by decide +kernel, by decide +kernel⟩
theorem ok_law_value_key {P : Program} {w : World} {K : PySem.W.Frag} {mg : Str → Option Value} {base : Heap} {a : Nat → Addr} {fd : Nat → FuncData} (T : Txt K mg a fd) : FnOk P w K mg base CX0 1 (a 3) (fd 3) ["value"] (spOf ⟨P, w, K, fa a⟩ c_law_value_key 1) :=
  fn_ruleD (fa := fa a) (k := 0) T.F_law_value_key sc_law_value_key fun cdv A outer s H E hr => (sss_cons (ss_if (st_val (se_callB cr_isi sem_isi (by rfl) T.z_isinstance rfl (sa_cons (sv 0) (sa_cons (se_ty (by rfl) T.z_str rfl) sa_nil)))) (sss_one (ss_ret (se_tup (sa_cons se_int (sa_cons se_int (sa_cons (sv 0) sa_nil))) (al_sz (n := 3) (by decide) (al_cons (al_cons (al_cons al_nil))))))) sss_nil)
    (sss_one (ss_ret (se_tup (sa_cons se_int (sa_cons (sv 0) (sa_cons se_str sa_nil))) (al_sz (n := 3) (by decide) (al_cons (al_cons (al_cons al_nil))))))))
theorem sc_law_row_key : FnScope ["row", "value"] ["row"] (defScope s_law_row_key) := ⟨rfl, rfl, rfl, by decide +kernel, rfl, by decide +kernel, by decide +kernel⟩
theorem ok_law_row_key {P : Program} {w : World} {K : PySem.W.Frag} {mg : Str → Option Value} {base : Heap} {a : Nat → Addr} {fd : Nat → FuncData} (T : Txt K mg a fd) : FnOk P w K mg base CX0 2 (a 4) (fd 4) ["row"] (spOf ⟨P, w, K, fa a⟩ c_law_row_key 1) :=
  fn_ruleD (fa := fa a) (k := 1) T.F_law_row_key sc_law_row_key fun cdv A outer s H E hr => (sss_one (ss_ret (se_callTy call_tupleF sem_tuple (by rfl) T.z_tuple rfl (sa_cons (se_lc rfl sc_law_row_key.nd (si_seq (sv 0)) (blkOk_by (own := [("value", 1)]) (by kernel_rfl)) (fun _ _ _ _ _ => (sg_name sc_law_row_key.nd (i := 1) rfl (by first | exact Or.inl rfl | exact Or.inr rfl))) (by decide) (fun _ _ _ _ _ => sts_nil) (fun _ _ _ _ _ => (se_call (ps := ["value"]) (ok_law_value_key T) (hr.mono (by decide)) (by rfl) T.g_law_value_key T.F_law_value_key.kp T.b_law_value_key (sa_cons (sv 1) sa_nil)))) sa_nil))))
theorem sc_law_statement_key : FnScope ["statement"] ["statement"] (defScope s_law_statement_key) := ⟨rfl, rfl, rfl, by decide +kernel, rfl, by decide +kernel, by decide +kernel⟩
theorem ok_law_statement_key {P : Program} {w : World} {K : PySem.W.Frag} {mg : Str → Option Value} {base : Heap} {a : Nat → Addr} {fd : Nat → FuncData} (T : Txt K mg a fd) : FnOk P w K mg base CX0 3 (a 5) (fd 5) ["statement"] (spOf ⟨P, w, K, fa a⟩ c_law_statement_key 1) :=
  fn_ruleD (fa := fa a) (k := 2) T.F_law_statement_key sc_law_statement_key fun cdv A outer s H E hr => (sss_one (ss_ret (se_tup (sa_cons (se_ix (sv 0) se_int) (sa_cons (se_call (ps := ["row"]) (ok_law_row_key T) (hr.mono (by decide)) (by rfl) T.g_law_row_key T.F_law_row_key.kp T.b_law_row_key (sa_cons (se_ix (sv 0) se_int) sa_nil)) sa_nil)) (al_sz (n := 2) (by decide) (al_cons (al_cons al_nil))))))
theorem sc_law_set : FnScope ["statements", "found", "statement"] ["statements"] (defScope s_law_set) := ⟨rfl, rfl, rfl, by decide +kernel, rfl, by decide +kernel, by decide +kernel⟩
theorem ok_law_set {P : Program} {w : World} {K : PySem.W.Frag} {mg : Str → Option Value} {base : Heap} {a : Nat → Addr} {fd : Nat → FuncData} (T : Txt K mg a fd) : FnOk P w K mg base CX0 6 (a 6) (fd 6) ["statements"] (spOf ⟨P, w, K, fa a⟩ c_law_set 1) :=
  fn_ruleD (fa := fa a) (k := 5) T.F_law_set sc_law_set fun cdv A outer s H E hr => (sss_cons (ss_set sc_law_set.nd (i := 1) rfl (by first | exact Or.inl rfl | exact Or.inr rfl) (SEm.al (se_lst sa_nil (al_sz (n := 0) (by decide) al_nil))))
    (sss_cons (ss_for PassesOwn.never rfl (si_seq (se_sortKU (ok_law_statement_key T) (hr.mono (by decide)) T.b_law_statement_key (by rfl) T.z_sorted (by rfl) T.g_law_statement_key (sv 0))) (sg_name sc_law_set.nd (i := 2) rfl (by first | exact Or.inl rfl | exact Or.inr rfl)) (sss_one (ss_if (STw.st (sw_or (st_eq hr (se_callB call_len sem_len (by rfl) T.z_len rfl (sa_cons (sv 1) sa_nil)) se_int) (sw_or1 (st_ne hr (se_ix (sv 1) (se_neg se_int)) (sv 2))))) (sss_one (ss_expr (se_bm PySem.F.plainAttrs_list PySem.F.slot_list_append PySem.F.type_list_append mt_append sem_append (sv 1) (sa_cons (sv 2) sa_nil)))) sss_nil)))
    (sss_one (ss_ret (se_callTy call_tupleF sem_tuple (by rfl) T.z_tuple rfl (sa_cons (sv 1) sa_nil))))))
theorem sc_law_words : FnScope ["draws", "many", "words", "k", "size", "word", "j", "other"] ["draws", "many"] (defScope s_law_words) := ⟨rfl, rfl, rfl, by decide +kernel, rfl, by decide +kernel, by decide +kernel⟩
theorem ok_law_words {P : Program} {w : World} {K : PySem.W.Frag} {mg : Str → Option Value} {base : Heap} {a : Nat → Addr} {fd : Nat → FuncData} (T : Txt K mg a fd) : FnOk P w K mg base CX0 2 (a 7) (fd 7) ["draws", "many"] (spOf ⟨P, w, K, fa a⟩ c_law_words 2) :=
  fn_ruleD (fa := fa a) (k := 1) T.F_law_words sc_law_words fun cdv A outer s H E hr => (sss_cons (ss_set sc_law_words.nd (i := 2) rfl (by first | exact Or.inl rfl | exact Or.inr rfl) (SEm.al (se_lst sa_nil (al_sz (n := 0) (by decide) al_nil))))
    (sss_cons (ss_for PassesOwn.never rfl (si_range1 (by rfl) T.z_range (sa_cons (sv 1) sa_nil)) (sg_name sc_law_words.nd (i := 3) rfl (by first | exact Or.inl rfl | exact Or.inr rfl)) (sss_cons (ss_set sc_law_words.nd (i := 4) rfl (by first | exact Or.inl rfl | exact Or.inr rfl) (se_add se_int (se_call (ps := ["draws", "many"]) (ok_law_take T) (hr.mono (by decide)) (by rfl) T.g_law_take T.F_law_take.kp T.b_law_take (sa_cons (sv 0) (sa_cons se_int sa_nil)))))
    (sss_cons (ss_if (st_eq hr (se_call (ps := ["draws", "many"]) (ok_law_take T) (hr.mono (by decide)) (by rfl) T.g_law_take T.F_law_take.kp T.b_law_take (sa_cons (sv 0) (sa_cons se_int sa_nil))) se_int) (sss_one (ss_set sc_law_words.nd (i := 4) rfl (by first | exact Or.inl rfl | exact Or.inr rfl) (se_add (se_add (sv 4) se_int) (se_call (ps := ["draws", "many"]) (ok_law_take T) (hr.mono (by decide)) (by rfl) T.g_law_take T.F_law_take.kp T.b_law_take (sa_cons (sv 0) (sa_cons se_int sa_nil)))))) sss_nil)
    (sss_cons (ss_set sc_law_words.nd (i := 5) rfl (by first | exact Or.inl rfl | exact Or.inr rfl) (se_bm PySem.F.plainAttrs_str PySem.F.slot_str_join PySem.F.type_str_join mt_join sem_join se_str (sa_cons (se_lc rfl sc_law_words.nd (si_range1 (by rfl) T.z_range (sa_cons (sv 4) sa_nil)) (blkOk_by (own := [("j", 6)]) (by kernel_rfl)) (fun _ _ _ _ _ => (sg_name sc_law_words.nd (i := 6) rfl (by first | exact Or.inl rfl | exact Or.inr rfl))) (by decide) (fun _ _ _ _ _ => sts_nil) (fun _ _ _ _ _ => (se_ix se_str (se_call (ps := ["draws", "many"]) (ok_law_take T) (hr.mono (by decide)) (by rfl) T.g_law_take T.F_law_take.kp T.b_law_take (sa_cons (sv 0) (sa_cons se_int sa_nil)))))) sa_nil)))
    (sss_cons (ss_if (STw.st (sw_or (st_in hr (sv 5) (sv 2)) (sw_or1 (st_in hr (sv 5) (se_lst (sa_cons se_str (sa_cons se_str (sa_cons se_str (sa_cons se_str sa_nil)))) (al_sz (n := 4) (by decide) (al_cons (al_cons (al_cons (al_cons al_nil)))))))))) (sss_one (ss_set sc_law_words.nd (i := 5) rfl (by first | exact Or.inl rfl | exact Or.inr rfl) (se_mul se_str (se_add se_int (se_callB (cr_max rfl) sem_max (by rfl) T.z_max rfl (sa_cons (se_add (se_lst (sa_cons se_int sa_nil) (al_sz (n := 1) (by decide) (al_cons al_nil))) (se_lc rfl sc_law_words.nd (si_seq (sv 2)) (blkOk_by (own := [("other", 7)]) (by kernel_rfl)) (fun _ _ _ _ _ => (sg_name sc_law_words.nd (i := 7) rfl (by first | exact Or.inl rfl | exact Or.inr rfl))) (by decide) (fun _ _ _ _ _ => sts_nil) (fun _ _ _ _ _ => (se_callB call_len sem_len (by rfl) T.z_len rfl (sa_cons (sv 7) sa_nil))))) sa_nil)))))) sss_nil)
    (sss_one (ss_expr (se_bm PySem.F.plainAttrs_list PySem.F.slot_list_append PySem.F.type_list_append mt_append sem_append (sv 2) (sa_cons (sv 5) sa_nil)))))))))
    (sss_one (ss_ret (sv 2)))))
theorem sc_law_value : FnScope ["draws", "words", "kind"] ["draws", "words"] (defScope s_law_value) := ⟨rfl, rfl, rfl, by decide +kernel, rfl, by decide +kernel, by decide +kernel⟩
theorem ok_law_value {P : Program} {w : World} {K : PySem.W.Frag} {mg : Str → Option Value} {base : Heap} {a : Nat → Addr} {fd : Nat → FuncData} (T : Txt K mg a fd) : FnOk P w K mg base CX0 3 (a 8) (fd 8) ["draws", "words"] (spOf ⟨P, w, K, fa a⟩ c_law_value 2) :=
  fn_ruleD (fa := fa a) (k := 2) T.F_law_value sc_law_value fun cdv A outer s H E hr => (sss_cons (ss_set sc_law_value.nd (i := 2) rfl (by first | exact Or.inl rfl | exact Or.inr rfl) (se_call (ps := ["draws", "many"]) (ok_law_take T) (hr.mono (by decide)) (by rfl) T.g_law_take T.F_law_take.kp T.b_law_take (sa_cons (sv 0) (sa_cons se_int sa_nil))))
    (sss_cons (ss_if (st_eq hr (sv 2) se_int) (sss_one (ss_ret (se_call (ps := ["draws", "row"]) (ok_law_pick T) (hr.mono (by decide)) (by rfl) T.g_law_pick T.F_law_pick.kp T.b_law_pick (sa_cons (sv 0) (sa_cons (sv 1) sa_nil))))) sss_nil)
    (sss_cons (ss_if (st_eq hr (sv 2) se_int) (sss_one (ss_ret (se_mul (se_sub (se_call (ps := ["draws", "many"]) (ok_law_take T) (hr.mono (by decide)) (by rfl) T.g_law_take T.F_law_take.kp T.b_law_take (sa_cons (sv 0) (sa_cons se_int sa_nil))) se_int) (se_call (ps := ["draws", "row"]) (ok_law_pick T) (hr.mono (by decide)) (by rfl) T.g_law_pick T.F_law_pick.kp T.b_law_pick (sa_cons (sv 0) (sa_cons (se_lst (sa_cons se_int (sa_cons se_int (sa_cons (se_add (se_pow se_int se_int) se_int) (sa_cons (se_add (se_pow se_int se_int) se_int) sa_nil)))) (al_sz (n := 4) (by decide) (al_cons (al_cons (al_cons (al_cons al_nil)))))) sa_nil)))))) sss_nil)
    (sss_one (ss_ret (se_sub (se_call (ps := ["draws", "many"]) (ok_law_take T) (hr.mono (by decide)) (by rfl) T.g_law_take T.F_law_take.kp T.b_law_take (sa_cons (sv 0) (sa_cons se_int sa_nil))) se_int))))))
theorem sc_law_pieces : FnScope ["draws", "many", "words", "found", "k", "row", "piece", "j"] ["draws", "many"] (defScope s_law_pieces) := ⟨rfl, rfl, rfl, by decide +kernel, rfl, by decide +kernel, by decide +kernel⟩
theorem ok_law_pieces {P : Program} {w : World} {K : PySem.W.Frag} {mg : Str → Option Value} {base : Heap} {a : Nat → Addr} {fd : Nat → FuncData} (T : Txt K mg a fd) : FnOk P w K mg base CX0 7 (a 9) (fd 9) ["draws", "many"] (spOf ⟨P, w, K, fa a⟩ c_law_pieces 2) :=
  fn_ruleD (fa := fa a) (k := 6) T.F_law_pieces sc_law_pieces fun cdv A outer s H E hr => (sss_cons (ss_set sc_law_pieces.nd (i := 2) rfl (by first | exact Or.inl rfl | exact Or.inr rfl) (se_call (ps := ["draws", "many"]) (ok_law_words T) (hr.mono (by decide)) (by rfl) T.g_law_words T.F_law_words.kp T.b_law_words (sa_cons (sv 0) (sa_cons se_int sa_nil))))
    (sss_cons (ss_set sc_law_pieces.nd (i := 3) rfl (by first | exact Or.inl rfl | exact Or.inr rfl) (SEm.al (se_lst sa_nil (al_sz (n := 0) (by decide) al_nil))))
    (sss_cons (ss_for PassesOwn.never rfl (si_range1 (by rfl) T.z_range (sa_cons (sv 1) sa_nil)) (sg_name sc_law_pieces.nd (i := 4) rfl (by first | exact Or.inl rfl | exact Or.inr rfl)) (sss_cons (ss_set sc_law_pieces.nd (i := 5) rfl (by first | exact Or.inl rfl | exact Or.inr rfl) (se_callTy call_tupleF sem_tuple (by rfl) T.z_tuple rfl (sa_cons (se_lc rfl sc_law_pieces.nd (si_range1 (by rfl) T.z_range (sa_cons (se_call (ps := ["draws", "row"]) (ok_law_pick T) (hr.mono (by decide)) (by rfl) T.g_law_pick T.F_law_pick.kp T.b_law_pick (sa_cons (sv 0) (sa_cons (se_lst (sa_cons se_int (sa_cons se_int (sa_cons se_int (sa_cons se_int (sa_cons se_int (sa_cons se_int (sa_cons se_int sa_nil))))))) (al_sz (n := 7) (by decide) (al_cons (al_cons (al_cons (al_cons (al_cons (al_cons (al_cons al_nil))))))))) sa_nil))) sa_nil)) (blkOk_by (own := [("j", 7)]) (by kernel_rfl)) (fun _ _ _ _ _ => (sg_name sc_law_pieces.nd (i := 7) rfl (by first | exact Or.inl rfl | exact Or.inr rfl))) (by decide) (fun _ _ _ _ _ => sts_nil) (fun _ _ _ _ _ => (se_call (ps := ["draws", "words"]) (ok_law_value T) (hr.mono (by decide)) (by rfl) T.g_law_value T.F_law_value.kp T.b_law_value (sa_cons (sv 0) (sa_cons (sv 2) sa_nil))))) sa_nil)))
    (sss_cons (ss_set sc_law_pieces.nd (i := 6) rfl (by first | exact Or.inl rfl | exact Or.inr rfl) (se_tup (sa_cons (se_call (ps := ["draws", "row"]) (ok_law_pick T) (hr.mono (by decide)) (by rfl) T.g_law_pick T.F_law_pick.kp T.b_law_pick (sa_cons (sv 0) (sa_cons (se_sl (sv 2) sop_none (sop_some se_int)) sa_nil))) (sa_cons (sv 5) sa_nil)) (al_sz (n := 2) (by decide) (al_cons (al_cons al_nil)))))
    (sss_cons (ss_if (st_in hr (sv 6) (sv 3)) (sss_one (ss_set sc_law_pieces.nd (i := 6) rfl (by first | exact Or.inl rfl | exact Or.inr rfl) (se_tup (sa_cons (se_mul se_str se_int) (sa_cons (se_tup (sa_cons (sv 4) sa_nil) (al_sz (n := 1) (by decide) (al_cons al_nil))) sa_nil)) (al_sz (n := 2) (by decide) (al_cons (al_cons al_nil)))))) sss_nil)
    (sss_one (ss_expr (se_bm PySem.F.plainAttrs_list PySem.F.slot_list_append PySem.F.type_list_append mt_append sem_append (sv 3) (sa_cons (sv 6) sa_nil))))))))
    (sss_one (ss_ret (se_call (ps := ["statements"]) (ok_law_set T) (hr.mono (by decide)) (by rfl) T.g_law_set T.F_law_set.kp T.b_law_set (sa_cons (sv 3) sa_nil)))))))
theorem sc_law_shuffled : FnScope ["draws", "row", "left", "found", "k"] ["draws", "row"] (defScope s_law_shuffled) := ⟨rfl, rfl, rfl, by decide +kernel, rfl, by decide +kernel, by decide +kernel⟩
theorem ok_law_shuffled {P : Program} {w : World} {K : PySem.W.Frag} {mg : Str → Option Value} {base : Heap} {a : Nat → Addr} {fd : Nat → FuncData} (T : Txt K mg a fd) : FnOk P w K mg base CX0 2 (a 10) (fd 10) ["draws", "row"] (spOf ⟨P, w, K, fa a⟩ c_law_shuffled 2) :=
  fn_ruleD (fa := fa a) (k := 1) T.F_law_shuffled sc_law_shuffled fun cdv A outer s H E hr => (sss_cons (ss_set sc_law_shuffled.nd (i := 2) rfl (by first | exact Or.inl rfl | exact Or.inr rfl) (SEm.al (se_callTy call_list_of sem_list (by rfl) T.z_list rfl (sa_cons (sv 1) sa_nil))))
    (sss_cons (ss_set sc_law_shuffled.nd (i := 3) rfl (by first | exact Or.inl rfl | exact Or.inr rfl) (SEm.al (se_lst sa_nil (al_sz (n := 0) (by decide) al_nil))))
    (sss_cons (ss_for PassesOwn.never rfl (si_range1 (by rfl) T.z_range (sa_cons (se_callB call_len sem_len (by rfl) T.z_len rfl (sa_cons (sv 1) sa_nil)) sa_nil)) (sg_name sc_law_shuffled.nd (i := 4) rfl (by first | exact Or.inl rfl | exact Or.inr rfl)) (sss_one (ss_expr (se_bm PySem.F.plainAttrs_list PySem.F.slot_list_append PySem.F.type_list_append mt_append sem_append (sv 3) (sa_cons (se_bm PySem.F.plainAttrs_list PySem.F.slot_list_pop PySem.F.type_list_pop mt_popAt sem_popAt (sv 2) (sa_cons (se_call (ps := ["draws", "many"]) (ok_law_take T) (hr.mono (by decide)) (by rfl) T.g_law_take T.F_law_take.kp T.b_law_take (sa_cons (sv 0) (sa_cons (se_callB call_len sem_len (by rfl) T.z_len rfl (sa_cons (sv 2) sa_nil)) sa_nil))) sa_nil)) sa_nil)))))
    (sss_one (ss_ret (sv 3))))))
theorem sc_law_set_key : FnScope ["statements", "statement"] ["statements"] (defScope s_law_set_key) := ⟨rfl, rfl, rfl, by decide +kernel, rfl, by decide +kernel, by decide +kernel⟩
theorem ok_law_set_key {P : Program} {w : World} {K : PySem.W.Frag} {mg : Str → Option Value} {base : Heap} {a : Nat → Addr} {fd : Nat → FuncData} (T : Txt K mg a fd) : FnOk P w K mg base CX0 4 (a 11) (fd 11) ["statements"] (spOf ⟨P, w, K, fa a⟩ c_law_set_key 1) :=
  fn_ruleD (fa := fa a) (k := 3) T.F_law_set_key sc_law_set_key fun cdv A outer s H E hr => (sss_one (ss_ret (se_callTy call_tupleF sem_tuple (by rfl) T.z_tuple rfl (sa_cons (se_lc rfl sc_law_set_key.nd (si_seq (sv 0)) (blkOk_by (own := [("statement", 1)]) (by kernel_rfl)) (fun _ _ _ _ _ => (sg_name sc_law_set_key.nd (i := 1) rfl (by first | exact Or.inl rfl | exact Or.inr rfl))) (by decide) (fun _ _ _ _ _ => sts_nil) (fun _ _ _ _ _ => (se_call (ps := ["statement"]) (ok_law_statement_key T) (hr.mono (by decide)) (by rfl) T.g_law_statement_key T.F_law_statement_key.kp T.b_law_statement_key (sa_cons (sv 1) sa_nil)))) sa_nil))))
theorem sc_law_within : FnScope ["part", "whole", "statement"] ["part", "whole"] (defScope s_law_within) := ⟨rfl, rfl, rfl, by decide +kernel, rfl, by decide +kernel, by decide +kernel⟩
theorem ok_law_within {P : Program} {w : World} {K : PySem.W.Frag} {mg : Str → Option Value} {base : Heap} {a : Nat → Addr} {fd : Nat → FuncData} (T : Txt K mg a fd) : FnOk P w K mg base CX0 1 (a 12) (fd 12) ["part", "whole"] (spOf ⟨P, w, K, fa a⟩ c_law_within 2) :=
  fn_ruleD (fa := fa a) (k := 0) T.F_law_within sc_law_within fun cdv A outer s H E hr => (sss_one (ss_ret (se_notIn hr se_bl (se_lc rfl sc_law_within.nd (si_seq (sv 0)) (blkOk_by (own := [("statement", 2)]) (by kernel_rfl)) (fun _ _ _ _ _ => (sg_name sc_law_within.nd (i := 2) rfl (by first | exact Or.inl rfl | exact Or.inr rfl))) (by decide) (fun _ _ _ _ _ => sts_nil) (fun _ _ _ _ _ => (se_in hr (sv 2) (sv 1)))))))
theorem sc_law_thinned : FnScope ["sets", "found", "one", "other"] ["sets"] (defScope s_law_thinned) := ⟨rfl, rfl, rfl, by decide +kernel, rfl, by decide +kernel, by decide +kernel⟩
theorem ok_law_thinned {P : Program} {w : World} {K : PySem.W.Frag} {mg : Str → Option Value} {base : Heap} {a : Nat → Addr} {fd : Nat → FuncData} (T : Txt K mg a fd) : FnOk P w K mg base CX0 7 (a 13) (fd 13) ["sets"] (spOf ⟨P, w, K, fa a⟩ c_law_thinned 1) :=
  fn_ruleD (fa := fa a) (k := 6) T.F_law_thinned sc_law_thinned fun cdv A outer s H E hr => (sss_cons (ss_set sc_law_thinned.nd (i := 1) rfl (by first | exact Or.inl rfl | exact Or.inr rfl) (SEm.al (se_lst sa_nil (al_sz (n := 0) (by decide) al_nil))))
    (sss_cons (ss_for PassesOwn.never rfl (si_seq (se_sortK (ok_law_set_key T) (hr.mono (by decide)) T.b_law_set_key (by rfl) T.z_sorted (by rfl) T.g_law_set_key (sv 0))) (sg_name sc_law_thinned.nd (i := 2) rfl (by first | exact Or.inl rfl | exact Or.inr rfl)) (sss_one (ss_if (STw.st (sw_and (st_notIn hr (sv 2) (sv 1)) (sw_and1 (st_notIn hr se_bl (se_lc rfl sc_law_thinned.nd (si_seq (sv 0)) (blkOk_by (own := [("other", 3)]) (by kernel_rfl)) (fun _ _ _ _ _ => (sg_name sc_law_thinned.nd (i := 3) rfl (by first | exact Or.inl rfl | exact Or.inr rfl))) (by decide) (fun _ _ _ _ _ => sts_nil) (fun _ _ _ _ _ => (se_and (se_ne hr (sv 3) (sv 2)) (se_one (se_call (ps := ["part", "whole"]) (ok_law_within T) (hr.mono (by decide)) (by rfl) T.g_law_within T.F_law_within.kp T.b_law_within (sa_cons (sv 3) (sa_cons (sv 2) sa_nil))))))))))) (sss_one (ss_expr (se_bm PySem.F.plainAttrs_list PySem.F.slot_list_append PySem.F.type_list_append mt_append sem_append (sv 1) (sa_cons (sv 2) sa_nil)))) sss_nil)))
    (sss_one (ss_ret (se_callTy call_tupleF sem_tuple (by rfl) T.z_tuple rfl (sa_cons (sv 1) sa_nil))))))
theorem sc_law_board_of_raw : FnScope ["pieces", "raw", "attacks", "piece", "support", "pair"] ["pieces", "raw"] (defScope s_law_board_of_raw) := ⟨rfl, rfl, rfl, by decide +kernel, rfl, by decide +kernel, by decide +kernel⟩
theorem ok_law_board_of_raw {P : Program} {w : World} {K : PySem.W.Frag} {mg : Str → Option Value} {base : Heap} {a : Nat → Addr} {fd : Nat → FuncData} (T : Txt K mg a fd) : FnOk P w K mg base CX0 8 (a 14) (fd 14) ["pieces", "raw"] (spOf ⟨P, w, K, fa a⟩ c_law_board_of_raw 2) :=
  fn_ruleD (fa := fa a) (k := 7) T.F_law_board_of_raw sc_law_board_of_raw fun cdv A outer s H E hr => (sss_cons (ss_set sc_law_board_of_raw.nd (i := 2) rfl (by first | exact Or.inl rfl | exact Or.inr rfl) (SEm.al (se_lst sa_nil (al_sz (n := 0) (by decide) al_nil))))
    (sss_cons (ss_for PassesOwn.never rfl (si_seq (sv 0)) (sg_name sc_law_board_of_raw.nd (i := 3) rfl (by first | exact Or.inl rfl | exact Or.inr rfl)) (sss_one (ss_for PassesOwn.never rfl (si_seq (se_call (ps := ["sets"]) (ok_law_thinned T) (hr.mono (by decide)) (by rfl) T.g_law_thinned T.F_law_thinned.kp T.b_law_thinned (sa_cons (se_lc rfl sc_law_board_of_raw.nd (si_seq (sv 1)) (blkOk_by (own := [("pair", 5)]) (by kernel_rfl)) (fun _ _ _ _ _ => (sg_name sc_law_board_of_raw.nd (i := 5) rfl (by first | exact Or.inl rfl | exact Or.inr rfl))) (by decide) (fun _ _ _ _ _ => (sts_one (st_eq hr (se_ix (sv 5) se_int) (sv 3)))) (fun _ _ _ _ _ => (se_ix (sv 5) se_int))) sa_nil))) (sg_name sc_law_board_of_raw.nd (i := 4) rfl (by first | exact Or.inl rfl | exact Or.inr rfl)) (sss_one (ss_expr (se_bm PySem.F.plainAttrs_list PySem.F.slot_list_append PySem.F.type_list_append mt_append sem_append (sv 2) (sa_cons (se_tup (sa_cons (sv 4) (sa_cons (sv 3) sa_nil)) (al_sz (n := 2) (by decide) (al_cons (al_cons al_nil)))) sa_nil)))))))
    (sss_one (ss_ret (se_tup (sa_cons (sv 0) (sa_cons (se_callTy call_tupleF sem_tuple (by rfl) T.z_tuple rfl (sa_cons (sv 2) sa_nil)) sa_nil)) (al_sz (n := 2) (by decide) (al_cons (al_cons al_nil))))))))
theorem sc_law_support : FnScope ["draws", "pieces", "size", "k"] ["draws", "pieces"] (defScope s_law_support) := ⟨rfl, rfl, rfl, by decide +kernel, rfl, by decide +kernel, by decide +kernel⟩
theorem ok_law_support {P : Program} {w : World} {K : PySem.W.Frag} {mg : Str → Option Value} {base : Heap} {a : Nat → Addr} {fd : Nat → FuncData} (T : Txt K mg a fd) : FnOk P w K mg base CX0 7 (a 15) (fd 15) ["draws", "pieces"] (spOf ⟨P, w, K, fa a⟩ c_law_support 2) :=
  fn_ruleD (fa := fa a) (k := 6) T.F_law_support sc_law_support fun cdv A outer s H E hr => (sss_cons (ss_set sc_law_support.nd (i := 2) rfl (by first | exact Or.inl rfl | exact Or.inr rfl) (se_call (ps := ["draws", "row"]) (ok_law_pick T) (hr.mono (by decide)) (by rfl) T.g_law_pick T.F_law_pick.kp T.b_law_pick (sa_cons (sv 0) (sa_cons (se_lst (sa_cons se_int (sa_cons se_int (sa_cons se_int (sa_cons se_int (sa_cons se_int (sa_cons se_int (sa_cons se_int (sa_cons se_int (sa_cons se_int (sa_cons se_int (sa_cons se_int (sa_cons se_int (sa_cons se_int (sa_cons se_int (sa_cons se_int (sa_cons se_int sa_nil)))))))))))))))) (al_sz (n := 16) (by decide) (al_cons (al_cons (al_cons (al_cons (al_cons (al_cons (al_cons (al_cons (al_cons (al_cons (al_cons (al_cons (al_cons (al_cons (al_cons (al_cons al_nil)))))))))))))))))) sa_nil))))
    (sss_one (ss_ret (se_call (ps := ["statements"]) (ok_law_set T) (hr.mono (by decide)) (by rfl) T.g_law_set T.F_law_set.kp T.b_law_set (sa_cons (se_lc rfl sc_law_support.nd (si_range1 (by rfl) T.z_range (sa_cons (sv 2) sa_nil)) (blkOk_by (own := [("k", 3)]) (by kernel_rfl)) (fun _ _ _ _ _ => (sg_name sc_law_support.nd (i := 3) rfl (by first | exact Or.inl rfl | exact Or.inr rfl))) (by decide) (fun _ _ _ _ _ => sts_nil) (fun _ _ _ _ _ => (se_call (ps := ["draws", "row"]) (ok_law_pick T) (hr.mono (by decide)) (by rfl) T.g_law_pick T.F_law_pick.kp T.b_law_pick (sa_cons (sv 0) (sa_cons (sv 1) sa_nil))))) sa_nil)))))
theorem sc_law_raw : FnScope ["draws", "pieces", "most", "found", "k"] ["draws", "pieces", "most"] (defScope s_law_raw) := ⟨rfl, rfl, rfl, by decide +kernel, rfl, by decide +kernel, by decide +kernel⟩
theorem ok_law_raw {P : Program} {w : World} {K : PySem.W.Frag} {mg : Str → Option Value} {base : Heap} {a : Nat → Addr} {fd : Nat → FuncData} (T : Txt K mg a fd) : FnOk P w K mg base CX0 8 (a 16) (fd 16) ["draws", "pieces", "most"] (spOf ⟨P, w, K, fa a⟩ c_law_raw 3) :=
  fn_ruleD (fa := fa a) (k := 7) T.F_law_raw sc_law_raw fun cdv A outer s H E hr => (sss_cons (ss_set sc_law_raw.nd (i := 3) rfl (by first | exact Or.inl rfl | exact Or.inr rfl) (SEm.al (se_lst sa_nil (al_sz (n := 0) (by decide) al_nil))))
    (sss_cons (ss_for PassesOwn.never rfl (si_range1 (by rfl) T.z_range (sa_cons (se_mul (se_call (ps := ["draws", "many"]) (ok_law_take T) (hr.mono (by decide)) (by rfl) T.g_law_take T.F_law_take.kp T.b_law_take (sa_cons (sv 0) (sa_cons (se_add (sv 2) se_int) sa_nil))) (se_callTy call_int1 sem_int (by rfl) T.z_int rfl (sa_cons (se_gt (se_callB call_len sem_len (by rfl) T.z_len rfl (sa_cons (sv 1) sa_nil)) se_int) sa_nil))) sa_nil)) (sg_name sc_law_raw.nd (i := 4) rfl (by first | exact Or.inl rfl | exact Or.inr rfl)) (sss_one (ss_expr (se_bm PySem.F.plainAttrs_list PySem.F.slot_list_append PySem.F.type_list_append mt_append sem_append (sv 3) (sa_cons (se_tup (sa_cons (se_call (ps := ["draws", "pieces"]) (ok_law_support T) (hr.mono (by decide)) (by rfl) T.g_law_support T.F_law_support.kp T.b_law_support (sa_cons (sv 0) (sa_cons (sv 1) sa_nil))) (sa_cons (se_call (ps := ["draws", "row"]) (ok_law_pick T) (hr.mono (by decide)) (by rfl) T.g_law_pick T.F_law_pick.kp T.b_law_pick (sa_cons (sv 0) (sa_cons (sv 1) sa_nil))) sa_nil)) (al_sz (n := 2) (by decide) (al_cons (al_cons al_nil)))) sa_nil)))))
    (sss_one (ss_ret (sv 3)))))
theorem sc_law_shape : FnScope ["draws", "pieces", "order", "many", "chain", "pairs", "fans", "floats", "teams", "shape", "fits", "k", "pair", "j"] ["draws", "pieces"] (defScope s_law_shape) := ⟨rfl, rfl, rfl, by decide +kernel, rfl, by decide +kernel, by decide +kernel⟩
theorem ok_law_shape {P : Program} {w : World} {K : PySem.W.Frag} {mg : Str → Option Value} {base : Heap} {a : Nat → Addr} {fd : Nat → FuncData} (T : Txt K mg a fd) : FnOk P w K mg base CX0 7 (a 17) (fd 17) ["draws", "pieces"] (spOf ⟨P, w, K, fa a⟩ c_law_shape 2) :=
  fn_ruleD (fa := fa a) (k := 6) T.F_law_shape sc_law_shape fun cdv A outer s H E hr => (sss_cons (ss_set sc_law_shape.nd (i := 2) rfl (by first | exact Or.inl rfl | exact Or.inr rfl) (se_call (ps := ["draws", "row"]) (ok_law_shuffled T) (hr.mono (by decide)) (by rfl) T.g_law_shuffled T.F_law_shuffled.kp T.b_law_shuffled (sa_cons (sv 0) (sa_cons (sv 1) sa_nil))))
    (sss_cons (ss_set sc_law_shape.nd (i := 3) rfl (by first | exact Or.inl rfl | exact Or.inr rfl) (se_callB call_len sem_len (by rfl) T.z_len rfl (sa_cons (sv 2) sa_nil)))
    (sss_cons (ss_setLc (i := 4) rfl sc_law_shape.nd rfl rfl rfl (si_range1 (by rfl) T.z_range (sa_cons (se_sub (sv 3) se_int) sa_nil)) (blkOk_by (own := [("k", 11)]) (by kernel_rfl)) (fun _ _ _ _ _ => (sg_name sc_law_shape.nd (i := 11) rfl (by first | exact Or.inl rfl | exact Or.inr rfl))) (by decide) (fun _ _ _ _ _ => sts_nil) (fun _ _ _ _ _ => (se_tup (sa_cons (se_lst (sa_cons (sv 11) sa_nil) (al_sz (n := 1) (by decide) (al_cons al_nil))) (sa_cons (se_add (sv 11) se_int) sa_nil)) (al_sz (n := 2) (by decide) (al_cons (al_cons al_nil))))))
    (sss_cons (ss_setLc (i := 5) rfl sc_law_shape.nd rfl rfl rfl (si_range1 (by rfl) T.z_range (sa_cons (sv 3) sa_nil)) (blkOk_by (own := [("k", 11)]) (by kernel_rfl)) (fun _ _ _ _ _ => (sg_name sc_law_shape.nd (i := 11) rfl (by first | exact Or.inl rfl | exact Or.inr rfl))) (by decide) (fun _ _ _ _ _ => sts_nil) (fun _ _ _ _ _ => (se_tup (sa_cons (se_lst (sa_cons (sv 11) sa_nil) (al_sz (n := 1) (by decide) (al_cons al_nil))) (sa_cons (se_sub (se_add (sv 11) se_int) (se_mul se_int (se_mod (se_callTy call_int1 sem_int (by rfl) T.z_int rfl (sa_cons (sv 11) sa_nil)) se_int))) sa_nil)) (al_sz (n := 2) (by decide) (al_cons (al_cons al_nil))))))
    (sss_cons (ss_set sc_law_shape.nd (i := 6) rfl (by first | exact Or.inl rfl | exact Or.inr rfl) (se_add (se_lst (sa_cons (se_tup (sa_cons (se_lst (sa_cons se_int sa_nil) (al_sz (n := 1) (by decide) (al_cons al_nil))) (sa_cons se_int sa_nil)) (al_sz (n := 2) (by decide) (al_cons (al_cons al_nil)))) (sa_cons (se_tup (sa_cons (se_lst (sa_cons se_int sa_nil) (al_sz (n := 1) (by decide) (al_cons al_nil))) (sa_cons se_int sa_nil)) (al_sz (n := 2) (by decide) (al_cons (al_cons al_nil)))) (sa_cons (se_tup (sa_cons (se_lst (sa_cons (se_sub (sv 3) se_int) sa_nil) (al_sz (n := 1) (by decide) (al_cons al_nil))) (sa_cons (se_sub (sv 3) se_int) sa_nil)) (al_sz (n := 2) (by decide) (al_cons (al_cons al_nil)))) sa_nil))) (al_sz (n := 3) (by decide) (al_cons (al_cons (al_cons al_nil))))) (se_lc rfl sc_law_shape.nd (si_range2 (by rfl) T.z_range (sa_cons se_int (sa_cons (se_mul se_int (sv 3)) sa_nil))) (blkOk_by (own := [("k", 11)]) (by kernel_rfl)) (fun _ _ _ _ _ => (sg_name sc_law_shape.nd (i := 11) rfl (by first | exact Or.inl rfl | exact Or.inr rfl))) (by decide) (fun _ _ _ _ _ => sts_nil) (fun _ _ _ _ _ => (se_tup (sa_cons (se_lst (sa_cons (se_mod (se_callTy call_int1 sem_int (by rfl) T.z_int rfl (sa_cons (sv 11) sa_nil)) se_int) sa_nil) (al_sz (n := 1) (by decide) (al_cons al_nil))) (sa_cons (se_fdiv (sv 11) se_int) sa_nil)) (al_sz (n := 2) (by decide) (al_cons (al_cons al_nil))))))))
    (sss_cons (ss_set sc_law_shape.nd (i := 7) rfl (by first | exact Or.inl rfl | exact Or.inr rfl) (se_lst (sa_cons (se_tup (sa_cons (se_lst (sa_cons se_int sa_nil) (al_sz (n := 1) (by decide) (al_cons al_nil))) (sa_cons se_int sa_nil)) (al_sz (n := 2) (by decide) (al_cons (al_cons al_nil)))) (sa_cons (se_tup (sa_cons (se_lst (sa_cons se_int sa_nil) (al_sz (n := 1) (by decide) (al_cons al_nil))) (sa_cons se_int sa_nil)) (al_sz (n := 2) (by decide) (al_cons (al_cons al_nil)))) (sa_cons (se_tup (sa_cons (se_lst (sa_cons se_int sa_nil) (al_sz (n := 1) (by decide) (al_cons al_nil))) (sa_cons se_int sa_nil)) (al_sz (n := 2) (by decide) (al_cons (al_cons al_nil)))) (sa_cons (se_tup (sa_cons (se_lst (sa_cons se_int sa_nil) (al_sz (n := 1) (by decide) (al_cons al_nil))) (sa_cons se_int sa_nil)) (al_sz (n := 2) (by decide) (al_cons (al_cons al_nil)))) (sa_cons (se_tup (sa_cons (se_lst (sa_cons se_int sa_nil) (al_sz (n := 1) (by decide) (al_cons al_nil))) (sa_cons se_int sa_nil)) (al_sz (n := 2) (by decide) (al_cons (al_cons al_nil)))) (sa_cons (se_tup (sa_cons (se_lst (sa_cons se_int sa_nil) (al_sz (n := 1) (by decide) (al_cons al_nil))) (sa_cons se_int sa_nil)) (al_sz (n := 2) (by decide) (al_cons (al_cons al_nil)))) (sa_cons (se_tup (sa_cons (se_lst (sa_cons se_int sa_nil) (al_sz (n := 1) (by decide) (al_cons al_nil))) (sa_cons se_int sa_nil)) (al_sz (n := 2) (by decide) (al_cons (al_cons al_nil)))) (sa_cons (se_tup (sa_cons (se_lst (sa_cons se_int sa_nil) (al_sz (n := 1) (by decide) (al_cons al_nil))) (sa_cons se_int sa_nil)) (al_sz (n := 2) (by decide) (al_cons (al_cons al_nil)))) sa_nil)))))))) (al_sz (n := 8) (by decide) (al_cons (al_cons (al_cons (al_cons (al_cons (al_cons (al_cons (al_cons al_nil)))))))))))
    (sss_cons (ss_set sc_law_shape.nd (i := 8) rfl (by first | exact Or.inl rfl | exact Or.inr rfl) (se_lst (sa_cons (se_tup (sa_cons (se_lst (sa_cons se_int (sa_cons se_int sa_nil)) (al_sz (n := 2) (by decide) (al_cons (al_cons al_nil)))) (sa_cons se_int sa_nil)) (al_sz (n := 2) (by decide) (al_cons (al_cons al_nil)))) (sa_cons (se_tup (sa_cons (se_lst (sa_cons se_int sa_nil) (al_sz (n := 1) (by decide) (al_cons al_nil))) (sa_cons se_int sa_nil)) (al_sz (n := 2) (by decide) (al_cons (al_cons al_nil)))) (sa_cons (se_tup (sa_cons (se_lst (sa_cons se_int (sa_cons se_int sa_nil)) (al_sz (n := 2) (by decide) (al_cons (al_cons al_nil)))) (sa_cons se_int sa_nil)) (al_sz (n := 2) (by decide) (al_cons (al_cons al_nil)))) (sa_cons (se_tup (sa_cons (se_lst (sa_cons se_int sa_nil) (al_sz (n := 1) (by decide) (al_cons al_nil))) (sa_cons se_int sa_nil)) (al_sz (n := 2) (by decide) (al_cons (al_cons al_nil)))) (sa_cons (se_tup (sa_cons (se_lst (sa_cons se_int (sa_cons se_int sa_nil)) (al_sz (n := 2) (by decide) (al_cons (al_cons al_nil)))) (sa_cons se_int sa_nil)) (al_sz (n := 2) (by decide) (al_cons (al_cons al_nil)))) (sa_cons (se_tup (sa_cons (se_lst (sa_cons se_int sa_nil) (al_sz (n := 1) (by decide) (al_cons al_nil))) (sa_cons se_int sa_nil)) (al_sz (n := 2) (by decide) (al_cons (al_cons al_nil)))) sa_nil)))))) (al_sz (n := 6) (by decide) (al_cons (al_cons (al_cons (al_cons (al_cons (al_cons al_nil)))))))))
    (sss_cons (ss_set sc_law_shape.nd (i := 9) rfl (by first | exact Or.inl rfl | exact Or.inr rfl) (se_call (ps := ["draws", "row"]) (ok_law_pick T) (hr.mono (by decide)) (by rfl) T.g_law_pick T.F_law_pick.kp T.b_law_pick (sa_cons (sv 0) (sa_cons (se_lst (sa_cons (se_lst sa_nil (al_sz (n := 0) (by decide) al_nil)) (sa_cons (se_lst sa_nil (al_sz (n := 0) (by decide) al_nil)) (sa_cons (se_lst sa_nil (al_sz (n := 0) (by decide) al_nil)) (sa_cons (sv 4) (sa_cons (se_add (sv 4) (se_lst (sa_cons (se_tup (sa_cons (se_lst (sa_cons (se_sub (sv 3) se_int) sa_nil) (al_sz (n := 1) (by decide) (al_cons al_nil))) (sa_cons se_int sa_nil)) (al_sz (n := 2) (by decide) (al_cons (al_cons al_nil)))) sa_nil) (al_sz (n := 1) (by decide) (al_cons al_nil)))) (sa_cons (sv 5) (sa_cons (sv 6) (sa_cons (sv 7) (sa_cons (sv 8) sa_nil))))))))) (al_sz (n := 9) (by decide) (al_cons (al_cons (al_cons (al_cons (al_cons (al_cons (al_cons (al_cons (al_cons al_nil))))))))))) sa_nil))))
    (sss_cons (ss_if (st_eq hr (sv 3) se_int) (sss_one (ss_ret (se_lst sa_nil (al_sz (n := 0) (by decide) al_nil)))) sss_nil)
    (sss_cons (ss_setLc (i := 10) rfl sc_law_shape.nd rfl rfl rfl (si_seq (sv 9)) (blkOk_by (own := [("pair", 12)]) (by kernel_rfl)) (fun _ _ _ _ _ => (sg_name sc_law_shape.nd (i := 12) rfl (by first | exact Or.inl rfl | exact Or.inr rfl))) (by decide) (fun _ _ _ _ _ => (sts_one (st_lt (se_callB (cr_max rfl) sem_max (by rfl) T.z_max rfl (sa_cons (se_add (se_ix (sv 12) se_int) (se_lst (sa_cons (se_ix (sv 12) se_int) sa_nil) (al_sz (n := 1) (by decide) (al_cons al_nil)))) sa_nil)) (sv 3)))) (fun _ _ _ _ _ => (sv 12)))
    (sss_one (ss_ret (se_lc rfl sc_law_shape.nd (si_seq (sv 10)) (blkOk_by (own := [("pair", 12)]) (by kernel_rfl)) (fun _ _ _ _ _ => (sg_name sc_law_shape.nd (i := 12) rfl (by first | exact Or.inl rfl | exact Or.inr rfl))) (by decide) (fun _ _ _ _ _ => sts_nil) (fun _ _ _ _ _ => (se_tup (sa_cons (se_call (ps := ["statements"]) (ok_law_set T) (hr.mono (by decide)) (by rfl) T.g_law_set T.F_law_set.kp T.b_law_set (sa_cons (se_lc rfl sc_law_shape.nd (si_seq (se_ix (sv 12) se_int)) (blkOk_by (own := [("j", 13)]) (by kernel_rfl)) (fun _ _ _ _ _ => (sg_name sc_law_shape.nd (i := 13) rfl (by first | exact Or.inl rfl | exact Or.inr rfl))) (by decide) (fun _ _ _ _ _ => sts_nil) (fun _ _ _ _ _ => (se_ix (sv 2) (sv 13)))) sa_nil)) (sa_cons (se_ix (sv 2) (se_ix (sv 12) se_int)) sa_nil)) (al_sz (n := 2) (by decide) (al_cons (al_cons al_nil))))))))))))))))))
theorem sc_law_sure_board : FnScope ["draws", "pieces", "order", "raw"] ["draws"] (defScope s_law_sure_board) := ⟨rfl, rfl, rfl, by decide +kernel, rfl, by decide +kernel, by decide +kernel⟩
theorem ok_law_sure_board {P : Program} {w : World} {K : PySem.W.Frag} {mg : Str → Option Value} {base : Heap} {a : Nat → Addr} {fd : Nat → FuncData} (T : Txt K mg a fd) : FnOk P w K mg base CX0 9 (a 18) (fd 18) ["draws"] (spOf ⟨P, w, K, fa a⟩ c_law_sure_board 1) :=
  fn_ruleD (fa := fa a) (k := 8) T.F_law_sure_board sc_law_sure_board fun cdv A outer s H E hr => (sss_cons (ss_set sc_law_sure_board.nd (i := 1) rfl (by first | exact Or.inl rfl | exact Or.inr rfl) (se_call (ps := ["draws", "many"]) (ok_law_pieces T) (hr.mono (by decide)) (by rfl) T.g_law_pieces T.F_law_pieces.kp T.b_law_pieces (sa_cons (sv 0) (sa_cons se_int sa_nil))))
    (sss_cons (ss_set sc_law_sure_board.nd (i := 2) rfl (by first | exact Or.inl rfl | exact Or.inr rfl) (se_call (ps := ["draws", "row"]) (ok_law_shuffled T) (hr.mono (by decide)) (by rfl) T.g_law_shuffled T.F_law_shuffled.kp T.b_law_shuffled (sa_cons (sv 0) (sa_cons (sv 1) sa_nil))))
    (sss_cons (ss_set sc_law_sure_board.nd (i := 3) rfl (by first | exact Or.inl rfl | exact Or.inr rfl) (se_lst (sa_cons (se_tup (sa_cons (se_tup (sa_cons (se_ix (sv 2) se_int) sa_nil) (al_sz (n := 1) (by decide) (al_cons al_nil))) (sa_cons (se_ix (sv 2) se_int) sa_nil)) (al_sz (n := 2) (by decide) (al_cons (al_cons al_nil)))) (sa_cons (se_tup (sa_cons (se_tup (sa_cons (se_ix (sv 2) se_int) sa_nil) (al_sz (n := 1) (by decide) (al_cons al_nil))) (sa_cons (se_ix (sv 2) se_int) sa_nil)) (al_sz (n := 2) (by decide) (al_cons (al_cons al_nil)))) (sa_cons (se_tup (sa_cons (se_tup (sa_cons (se_ix (sv 2) se_int) sa_nil) (al_sz (n := 1) (by decide) (al_cons al_nil))) (sa_cons (se_ix (sv 2) se_int) sa_nil)) (al_sz (n := 2) (by decide) (al_cons (al_cons al_nil)))) (sa_cons (se_tup (sa_cons (se_tup (sa_cons (se_ix (sv 2) se_int) sa_nil) (al_sz (n := 1) (by decide) (al_cons al_nil))) (sa_cons (se_ix (sv 2) se_int) sa_nil)) (al_sz (n := 2) (by decide) (al_cons (al_cons al_nil)))) sa_nil)))) (al_sz (n := 4) (by decide) (al_cons (al_cons (al_cons (al_cons al_nil)))))))
    (sss_one (ss_ret (se_call (ps := ["pieces", "raw"]) (ok_law_board_of_raw T) (hr.mono (by decide)) (by rfl) T.g_law_board_of_raw T.F_law_board_of_raw.kp T.b_law_board_of_raw (sa_cons (sv 1) (sa_cons (sv 3) sa_nil))))))))
theorem sc_law_boards : FnScope ["draws", "many", "most", "pieces", "first", "second"] ["draws", "many", "most"] (defScope s_law_boards) := ⟨rfl, rfl, rfl, by decide +kernel, rfl, by decide +kernel, by decide +kernel⟩
theorem ok_law_boards {P : Program} {w : World} {K : PySem.W.Frag} {mg : Str → Option Value} {base : Heap} {a : Nat → Addr} {fd : Nat → FuncData} (T : Txt K mg a fd) : FnOk P w K mg base CX0 10 (a 19) (fd 19) ["draws", "many", "most"] (spOf ⟨P, w, K, fa a⟩ c_law_boards 3) :=
  fn_ruleD (fa := fa a) (k := 9) T.F_law_boards sc_law_boards fun cdv A outer s H E hr => (sss_cons (ss_set sc_law_boards.nd (i := 3) rfl (by first | exact Or.inl rfl | exact Or.inr rfl) (se_call (ps := ["draws", "many"]) (ok_law_pieces T) (hr.mono (by decide)) (by rfl) T.g_law_pieces T.F_law_pieces.kp T.b_law_pieces (sa_cons (sv 0) (sa_cons (se_sub (sv 1) (se_call (ps := ["draws", "row"]) (ok_law_pick T) (hr.mono (by decide)) (by rfl) T.g_law_pick T.F_law_pick.kp T.b_law_pick (sa_cons (sv 0) (sa_cons (se_lst (sa_cons se_int (sa_cons se_int (sa_cons se_int (sa_cons se_int (sa_cons se_int (sa_cons se_int (sa_cons (sv 1) (sa_cons se_int sa_nil)))))))) (al_sz (n := 8) (by decide) (al_cons (al_cons (al_cons (al_cons (al_cons (al_cons (al_cons (al_cons al_nil)))))))))) sa_nil)))) sa_nil))))
    (sss_cons (ss_set sc_law_boards.nd (i := 4) rfl (by first | exact Or.inl rfl | exact Or.inr rfl) (se_call (ps := ["pieces", "raw"]) (ok_law_board_of_raw T) (hr.mono (by decide)) (by rfl) T.g_law_board_of_raw T.F_law_board_of_raw.kp T.b_law_board_of_raw (sa_cons (sv 3) (sa_cons (se_add (se_call (ps := ["draws", "pieces"]) (ok_law_shape T) (hr.mono (by decide)) (by rfl) T.g_law_shape T.F_law_shape.kp T.b_law_shape (sa_cons (sv 0) (sa_cons (sv 3) sa_nil))) (se_call (ps := ["draws", "pieces", "most"]) (ok_law_raw T) (hr.mono (by decide)) (by rfl) T.g_law_raw T.F_law_raw.kp T.b_law_raw (sa_cons (sv 0) (sa_cons (sv 3) (sa_cons (sv 2) sa_nil))))) sa_nil))))
    (sss_cons (ss_if (st_eq hr (se_call (ps := ["draws", "many"]) (ok_law_take T) (hr.mono (by decide)) (by rfl) T.g_law_take T.F_law_take.kp T.b_law_take (sa_cons (sv 0) (sa_cons se_int sa_nil))) se_int) (sss_one (ss_set sc_law_boards.nd (i := 3) rfl (by first | exact Or.inl rfl | exact Or.inr rfl) (se_call (ps := ["draws", "many"]) (ok_law_pieces T) (hr.mono (by decide)) (by rfl) T.g_law_pieces T.F_law_pieces.kp T.b_law_pieces (sa_cons (sv 0) (sa_cons (se_sub (sv 1) (se_call (ps := ["draws", "many"]) (ok_law_take T) (hr.mono (by decide)) (by rfl) T.g_law_take T.F_law_take.kp T.b_law_take (sa_cons (sv 0) (sa_cons se_int sa_nil)))) sa_nil))))) sss_nil)
    (sss_cons (ss_set sc_law_boards.nd (i := 5) rfl (by first | exact Or.inl rfl | exact Or.inr rfl) (se_call (ps := ["pieces", "raw"]) (ok_law_board_of_raw T) (hr.mono (by decide)) (by rfl) T.g_law_board_of_raw T.F_law_board_of_raw.kp T.b_law_board_of_raw (sa_cons (sv 3) (sa_cons (se_add (se_call (ps := ["draws", "pieces"]) (ok_law_shape T) (hr.mono (by decide)) (by rfl) T.g_law_shape T.F_law_shape.kp T.b_law_shape (sa_cons (sv 0) (sa_cons (sv 3) sa_nil))) (se_call (ps := ["draws", "pieces", "most"]) (ok_law_raw T) (hr.mono (by decide)) (by rfl) T.g_law_raw T.F_law_raw.kp T.b_law_raw (sa_cons (sv 0) (sa_cons (sv 3) (sa_cons (sv 2) sa_nil))))) sa_nil))))
    (sss_one (ss_ret (SEm.al (se_lst (sa_cons (sv 4) (sa_cons (sv 5) (sa_cons (se_call (ps := ["draws"]) (ok_law_sure_board T) (hr.mono (by decide)) (by rfl) T.g_law_sure_board T.F_law_sure_board.kp T.b_law_sure_board (sa_cons (sv 0) sa_nil)) sa_nil))) (al_sz (n := 3) (by decide) (al_cons (al_cons (al_cons al_nil))))))))))))
theorem sc_law_claim : FnScope ["draws", "pieces", "many", "k"] ["draws", "pieces"] (defScope s_law_claim) := ⟨rfl, rfl, rfl, by decide +kernel, rfl, by decide +kernel, by decide +kernel⟩
theorem ok_law_claim {P : Program} {w : World} {K : PySem.W.Frag} {mg : Str → Option Value} {base : Heap} {a : Nat → Addr} {fd : Nat → FuncData} (T : Txt K mg a fd) : FnOk P w K mg base CX0 8 (a 20) (fd 20) ["draws", "pieces"] (spOf ⟨P, w, K, fa a⟩ c_law_claim 2) :=
  fn_ruleD (fa := fa a) (k := 7) T.F_law_claim sc_law_claim fun cdv A outer s H E hr => (sss_cons (ss_set sc_law_claim.nd (i := 2) rfl (by first | exact Or.inl rfl | exact Or.inr rfl) (se_mul (se_call (ps := ["draws", "row"]) (ok_law_pick T) (hr.mono (by decide)) (by rfl) T.g_law_pick T.F_law_pick.kp T.b_law_pick (sa_cons (sv 0) (sa_cons (se_lst (sa_cons se_int (sa_cons se_int (sa_cons se_int (sa_cons se_int (sa_cons se_int (sa_cons se_int (sa_cons se_int sa_nil))))))) (al_sz (n := 7) (by decide) (al_cons (al_cons (al_cons (al_cons (al_cons (al_cons (al_cons al_nil))))))))) sa_nil))) (se_callTy call_int1 sem_int (by rfl) T.z_int rfl (sa_cons (se_gt (se_callB call_len sem_len (by rfl) T.z_len rfl (sa_cons (sv 1) sa_nil)) se_int) sa_nil))))
    (sss_one (ss_ret (se_call (ps := ["sets"]) (ok_law_thinned T) (hr.mono (by decide)) (by rfl) T.g_law_thinned T.F_law_thinned.kp T.b_law_thinned (sa_cons (se_lc rfl sc_law_claim.nd (si_range1 (by rfl) T.z_range (sa_cons (sv 2) sa_nil)) (blkOk_by (own := [("k", 3)]) (by kernel_rfl)) (fun _ _ _ _ _ => (sg_name sc_law_claim.nd (i := 3) rfl (by first | exact Or.inl rfl | exact Or.inr rfl))) (by decide) (fun _ _ _ _ _ => sts_nil) (fun _ _ _ _ _ => (se_call (ps := ["draws", "pieces"]) (ok_law_support T) (hr.mono (by decide)) (by rfl) T.g_law_support T.F_law_support.kp T.b_law_support (sa_cons (sv 0) (sa_cons (sv 1) sa_nil))))) sa_nil)))))
theorem sc_law_cut_board : FnScope ["board", "most"] ["board", "most"] (defScope s_law_cut_board) := ⟨rfl, rfl, rfl, by decide +kernel, rfl, by decide +kernel, by decide +kernel⟩
theorem ok_law_cut_board {P : Program} {w : World} {K : PySem.W.Frag} {mg : Str → Option Value} {base : Heap} {a : Nat → Addr} {fd : Nat → FuncData} (T : Txt K mg a fd) : FnOk P w K mg base CX0 1 (a 21) (fd 21) ["board", "most"] (spOf ⟨P, w, K, fa a⟩ c_law_cut_board 2) :=
  fn_ruleD (fa := fa a) (k := 0) T.F_law_cut_board sc_law_cut_board fun cdv A outer s H E hr => (sss_one (ss_ret (se_tup (sa_cons (se_ix (sv 0) se_int) (sa_cons (se_sl (se_ix (sv 0) se_int) sop_none (sop_some (sv 1))) sa_nil)) (al_sz (n := 2) (by decide) (al_cons (al_cons al_nil))))))
theorem sc_law_tables : FnScope ["draws", "many", "most", "boards", "pieces", "chain", "cases", "one", "k", "board"] ["draws", "many", "most"] (defScope s_law_tables) := ⟨rfl, rfl, rfl, by decide +kernel, rfl, by decide +kernel, by decide +kernel⟩
theorem ok_law_tables {P : Program} {w : World} {K : PySem.W.Frag} {mg : Str → Option Value} {base : Heap} {a : Nat → Addr} {fd : Nat → FuncData} (T : Txt K mg a fd) : FnOk P w K mg base CX0 11 (a 22) (fd 22) ["draws", "many", "most"] (spOf ⟨P, w, K, fa a⟩ c_law_tables 3) :=
  fn_ruleD (fa := fa a) (k := 10) T.F_law_tables sc_law_tables fun cdv A outer s H E hr => (sss_cons (ss_set sc_law_tables.nd (i := 3) rfl (by first | exact Or.inl rfl | exact Or.inr rfl) (SEm.al (so_call (ps := ["draws", "many", "most"]) (ok_law_boards T) (hr.mono (by decide)) (by rfl) T.g_law_boards T.F_law_boards.kp T.b_law_boards (sa_cons (sv 0) (sa_cons (sv 1) (sa_cons (sv 2) sa_nil))))))
    (sss_cons (ss_set sc_law_tables.nd (i := 4) rfl (by first | exact Or.inl rfl | exact Or.inr rfl) (se_call (ps := ["draws", "row"]) (ok_law_shuffled T) (hr.mono (by decide)) (by rfl) T.g_law_shuffled T.F_law_shuffled.kp T.b_law_shuffled (sa_cons (sv 0) (sa_cons (se_call (ps := ["draws", "many"]) (ok_law_pieces T) (hr.mono (by decide)) (by rfl) T.g_law_pieces T.F_law_pieces.kp T.b_law_pieces (sa_cons (sv 0) (sa_cons se_int sa_nil))) sa_nil))))
    (sss_cons (ss_setLc (i := 5) rfl sc_law_tables.nd rfl rfl rfl (si_range1 (by rfl) T.z_range (sa_cons se_int sa_nil)) (blkOk_by (own := [("k", 8)]) (by kernel_rfl)) (fun _ _ _ _ _ => (sg_name sc_law_tables.nd (i := 8) rfl (by first | exact Or.inl rfl | exact Or.inr rfl))) (by decide) (fun _ _ _ _ _ => sts_nil) (fun _ _ _ _ _ => (se_tup (sa_cons (se_tup (sa_cons (se_ix (sv 4) (se_add (sv 8) se_int)) sa_nil) (al_sz (n := 1) (by decide) (al_cons al_nil))) (sa_cons (se_ix (sv 4) (sv 8)) sa_nil)) (al_sz (n := 2) (by decide) (al_cons (al_cons al_nil))))))
    (sss_cons (ss_expr (se_bm PySem.F.plainAttrs_list PySem.F.slot_list_append PySem.F.type_list_append mt_append sem_append (sv 3) (sa_cons (se_call (ps := ["pieces", "raw"]) (ok_law_board_of_raw T) (hr.mono (by decide)) (by rfl) T.g_law_board_of_raw T.F_law_board_of_raw.kp T.b_law_board_of_raw (sa_cons (se_call (ps := ["statements"]) (ok_law_set T) (hr.mono (by decide)) (by rfl) T.g_law_set T.F_law_set.kp T.b_law_set (sa_cons (sv 4) sa_nil)) (sa_cons (se_sl (sv 5) sop_none (sop_some (se_add se_int (se_call (ps := ["draws", "many"]) (ok_law_take T) (hr.mono (by decide)) (by rfl) T.g_law_take T.F_law_take.kp T.b_law_take (sa_cons (sv 0) (sa_cons se_int sa_nil)))))) sa_nil))) sa_nil)))
    (sss_cons (ss_setLcA (i := 6) rfl sc_law_tables.nd rfl rfl rfl (si_seq (sv 3)) (blkOk_by (own := [("board", 9)]) (by kernel_rfl)) (fun _ _ _ _ _ => (sg_name sc_law_tables.nd (i := 9) rfl (by first | exact Or.inl rfl | exact Or.inr rfl))) (by decide) (fun _ _ _ _ _ => sts_nil) (fun _ _ _ _ _ => (SEm.al (se_lst (sa_cons (se_call (ps := ["board", "most"]) (ok_law_cut_board T) (hr.mono (by decide)) (by rfl) T.g_law_cut_board T.F_law_cut_board.kp T.b_law_cut_board (sa_cons (sv 9) (sa_cons (sv 2) sa_nil))) (sa_cons (se_call (ps := ["draws", "pieces"]) (ok_law_claim T) (hr.mono (by decide)) (by rfl) T.g_law_claim T.F_law_claim.kp T.b_law_claim (sa_cons (sv 0) (sa_cons (se_ix (sv 9) se_int) sa_nil))) sa_nil)) (al_sz (n := 2) (by decide) (al_cons (al_cons al_nil)))))))
    (sss_cons (ss_setI (se_tup (sa_cons (se_tup (sa_cons (se_ix (sv 4) se_int) sa_nil) (al_sz (n := 1) (by decide) (al_cons al_nil))) sa_nil) (al_sz (n := 1) (by decide) (al_cons al_nil))) (se_ix (sv 6) se_int) se_int)
    (sss_cons (ss_expr (se_bm PySem.F.plainAttrs_list PySem.F.slot_list_append PySem.F.type_list_append mt_append sem_append (sv 6) (sa_cons (se_lst (sa_cons (se_ix (sv 3) se_int) (sa_cons (se_tup sa_nil (al_sz (n := 0) (by decide) al_nil)) sa_nil)) (al_sz (n := 2) (by decide) (al_cons (al_cons al_nil)))) sa_nil)))
    (sss_cons (ss_expr (se_bm PySem.F.plainAttrs_list PySem.F.slot_list_append PySem.F.type_list_append mt_append sem_append (sv 6) (sa_cons (se_lst (sa_cons (se_ix (sv 3) se_int) (sa_cons (se_tup (sa_cons (se_tup sa_nil (al_sz (n := 0) (by decide) al_nil)) sa_nil) (al_sz (n := 1) (by decide) (al_cons al_nil))) sa_nil)) (al_sz (n := 2) (by decide) (al_cons (al_cons al_nil)))) sa_nil)))
    (sss_cons (ss_set sc_law_tables.nd (i := 7) rfl (by first | exact Or.inl rfl | exact Or.inr rfl) (se_call (ps := ["draws", "row"]) (ok_law_pick T) (hr.mono (by decide)) (by rfl) T.g_law_pick T.F_law_pick.kp T.b_law_pick (sa_cons (sv 0) (sa_cons (se_ix (se_ix (sv 3) se_int) se_int) sa_nil))))
    (sss_cons (ss_expr (se_bm PySem.F.plainAttrs_list PySem.F.slot_list_append PySem.F.type_list_append mt_append sem_append (sv 6) (sa_cons (se_lst (sa_cons (se_ix (sv 3) se_int) (sa_cons (se_tup (sa_cons (se_tup (sa_cons (sv 7) sa_nil) (al_sz (n := 1) (by decide) (al_cons al_nil))) sa_nil) (al_sz (n := 1) (by decide) (al_cons al_nil))) sa_nil)) (al_sz (n := 2) (by decide) (al_cons (al_cons al_nil)))) sa_nil)))
    (sss_one (ss_ret (sv 6)))))))))))))
theorem sc_law_same : FnScope ["actual", "due", "k"] ["actual", "due"] (defScope s_law_same) := ⟨rfl, rfl, rfl, by decide +kernel, rfl, by decide +kernel, by decide +kernel⟩
theorem st_law_same {P : Program} {w : World} {K : PySem.W.Frag} {mg : Str → Option Value} {base : Heap} {a : Nat → Addr} {fd : Nat → FuncData} (T : Txt K mg a fd) {n : Nat} {c : Cv} (ih : FnOk P w K mg base CX0 (1 + n) (a 23) (fd 23) ["actual", "due"] (spOf ⟨P, w, K, fa a⟩ c 2)) :
    FnOk P w K mg base CX0 (1 + n + 1) (a 23) (fd 23) ["actual", "due"] (spOf ⟨P, w, K, fa a⟩ (callOf 3 (m_law_same c)) 2) :=
  fn_ruleD (fa := fa a) (k := 1 + n) T.F_law_same sc_law_same fun cdv A outer s H E hr => (sss_cons (ss_if (st_val (se_callB cr_isi sem_isi (by rfl) T.z_isinstance rfl (sa_cons (sv 1) (sa_cons (se_tupP (sa_cons (se_ty (by rfl) T.z_tuple rfl) (sa_cons (se_ty (by rfl) T.z_list rfl) sa_nil)) (al_sz (n := 2) (by decide) (al_cons (al_cons al_nil)))) sa_nil)))) (sss_cons (ss_if (STw.st (sw_or (st_ne hr (se_callB cr_isi sem_isi (by rfl) T.z_isinstance rfl (sa_cons (sv 0) (sa_cons (se_ty (by rfl) T.z_tuple rfl) sa_nil))) (se_callB cr_isi sem_isi (by rfl) T.z_isinstance rfl (sa_cons (sv 1) (sa_cons (se_ty (by rfl) T.z_tuple rfl) sa_nil)))) (sw_or1 (st_ne hr (se_callB cr_isi sem_isi (by rfl) T.z_isinstance rfl (sa_cons (sv 0) (sa_cons (se_ty (by rfl) T.z_list rfl) sa_nil))) (se_callB cr_isi sem_isi (by rfl) T.z_isinstance rfl (sa_cons (sv 1) (sa_cons (se_ty (by rfl) T.z_list rfl) sa_nil))))))) (sss_one (ss_ret se_bl)) sss_nil)
    (sss_cons (ss_if (st_ne hr (se_callB call_len sem_len (by rfl) T.z_len rfl (sa_cons (sv 0) sa_nil)) (se_callB call_len sem_len (by rfl) T.z_len rfl (sa_cons (sv 1) sa_nil))) (sss_one (ss_ret se_bl)) sss_nil)
    (sss_one (ss_ret (se_notIn hr se_bl (se_lc rfl sc_law_same.nd (si_range1 (by rfl) T.z_range (sa_cons (se_callB call_len sem_len (by rfl) T.z_len rfl (sa_cons (sv 1) sa_nil)) sa_nil)) (blkOk_by (own := [("k", 2)]) (by kernel_rfl)) (fun _ _ _ _ _ => (sg_name sc_law_same.nd (i := 2) rfl (by first | exact Or.inl rfl | exact Or.inr rfl))) (by decide) (fun _ _ _ _ _ => sts_nil) (fun _ _ _ _ _ => (se_call (ps := ["actual", "due"]) (c := c) ih (hr.mono (Nat.le_refl _)) (by rfl) T.g_law_same T.F_law_same.kp T.b_law_same (sa_cons (se_ix (sv 0) (sv 2)) (sa_cons (se_ix (sv 1) (sv 2)) sa_nil)))))))))) sss_nil)
    (sss_cons (ss_if (STw.st (sw_or (st_ne hr (se_callB cr_isi sem_isi (by rfl) T.z_isinstance rfl (sa_cons (sv 0) (sa_cons (se_ty (by rfl) T.z_bool rfl) sa_nil))) (se_callB cr_isi sem_isi (by rfl) T.z_isinstance rfl (sa_cons (sv 1) (sa_cons (se_ty (by rfl) T.z_bool rfl) sa_nil)))) (sw_or1 (st_ne hr (se_callB cr_isi sem_isi (by rfl) T.z_isinstance rfl (sa_cons (sv 0) (sa_cons (se_ty (by rfl) T.z_int rfl) sa_nil))) (se_callB cr_isi sem_isi (by rfl) T.z_isinstance rfl (sa_cons (sv 1) (sa_cons (se_ty (by rfl) T.z_int rfl) sa_nil))))))) (sss_one (ss_ret se_bl)) sss_nil)
    (sss_cons (ss_if (STw.st (sw_or (st_ne hr (se_callB cr_isi sem_isi (by rfl) T.z_isinstance rfl (sa_cons (sv 0) (sa_cons (se_ty (by rfl) T.z_str rfl) sa_nil))) (se_callB cr_isi sem_isi (by rfl) T.z_isinstance rfl (sa_cons (sv 1) (sa_cons (se_ty (by rfl) T.z_str rfl) sa_nil)))) (sw_or1 (st_ne hr (se_is (sv 0) se_non) (se_is (sv 1) se_non))))) (sss_one (ss_ret se_bl)) sss_nil)
    (sss_one (ss_ret (se_eq hr (sv 0) (sv 1)))))))
theorem ok_law_same {P : Program} {w : World} {K : PySem.W.Frag} {mg : Str → Option Value} {base : Heap} {a : Nat → Addr} {fd : Nat → FuncData} (T : Txt K mg a fd) (n : Nat) : FnOk P w K mg base CX0 (1 + n) (a 23) (fd 23) ["actual", "due"] (spOf ⟨P, w, K, fa a⟩ (c_law_same n) 2) := by
  induction n with
  | zero => exact fnOk_none
  | succ n ih => exact st_law_same T ih
theorem sc_law_play : FnScope ["board", "claim"] ["board", "claim"] (defScope s_law_play) := ⟨rfl, rfl, rfl, by decide +kernel, rfl, by decide +kernel, by decide +kernel⟩
theorem ok_law_play {P : Program} {w : World} {K : PySem.W.Frag} {mg : Str → Option Value} {base : Heap} {a : Nat → Addr} {fd : Nat → FuncData} (T : Txt K mg a fd) : FnOk P w K mg base CX0 1 (a 24) (fd 24) ["board", "claim"] (spOf ⟨P, w, K, fa a⟩ c_law_play 2) :=
  fn_ruleD (fa := fa a) (k := 0) T.F_law_play sc_law_play fun cdv A outer s H E hr => (sss_one (ss_ret (se_lst (sa_cons se_int (sa_cons (se_tup sa_nil (al_sz (n := 0) (by decide) al_nil)) (sa_cons se_int (sa_cons (se_tup sa_nil (al_sz (n := 0) (by decide) al_nil)) sa_nil)))) (al_sz (n := 4) (by decide) (al_cons (al_cons (al_cons (al_cons al_nil))))))))
theorem sc_law_side : FnScope ["state"] ["state"] (defScope s_law_side) := ⟨rfl, rfl, rfl, by decide +kernel, rfl, by decide +kernel, by decide +kernel⟩
theorem ok_law_side {P : Program} {w : World} {K : PySem.W.Frag} {mg : Str → Option Value} {base : Heap} {a : Nat → Addr} {fd : Nat → FuncData} (T : Txt K mg a fd) : FnOk P w K mg base CX0 1 (a 25) (fd 25) ["state"] (spOf ⟨P, w, K, fa a⟩ c_law_side 1) :=
  fn_ruleD (fa := fa a) (k := 0) T.F_law_side sc_law_side fun cdv A outer s H E hr => (sss_one (ss_ret (se_ix (se_lst (sa_cons se_str (sa_cons se_str (sa_cons se_str sa_nil))) (al_sz (n := 3) (by decide) (al_cons (al_cons (al_cons al_nil))))) (se_ix (sv 0) se_int))))
theorem sc_law_moves : FnScope ["board", "claim", "state", "chosen", "found", "piece", "k", "barred", "one"] ["board", "claim", "state"] (defScope s_law_moves) := ⟨rfl, rfl, rfl, by decide +kernel, rfl, by decide +kernel, by decide +kernel⟩
theorem ok_law_moves {P : Program} {w : World} {K : PySem.W.Frag} {mg : Str → Option Value} {base : Heap} {a : Nat → Addr} {fd : Nat → FuncData} (T : Txt K mg a fd) : FnOk P w K mg base CX0 1 (a 26) (fd 26) ["board", "claim", "state"] (spOf ⟨P, w, K, fa a⟩ c_law_moves 3) :=
  fn_ruleD (fa := fa a) (k := 0) T.F_law_moves sc_law_moves fun cdv A outer s H E hr => (sss_cons (ss_if (st_eq hr (se_ix (sv 2) se_int) se_int) (sss_one (ss_ret (se_lc rfl sc_law_moves.nd (si_range1 (by rfl) T.z_range (sa_cons (se_callB call_len sem_len (by rfl) T.z_len rfl (sa_cons (sv 1) sa_nil)) sa_nil)) (blkOk_by (own := [("k", 6)]) (by kernel_rfl)) (fun _ _ _ _ _ => (sg_name sc_law_moves.nd (i := 6) rfl (by first | exact Or.inl rfl | exact Or.inr rfl))) (by decide) (fun _ _ _ _ _ => sts_nil) (fun _ _ _ _ _ => (sv 6))))) sss_nil)
    (sss_cons (ss_set sc_law_moves.nd (i := 3) rfl (by first | exact Or.inl rfl | exact Or.inr rfl) (se_ix (sv 2) se_int))
    (sss_cons (ss_if (st_eq hr (se_ix (sv 2) se_int) se_int) (sss_one (ss_set sc_law_moves.nd (i := 3) rfl (by first | exact Or.inl rfl | exact Or.inr rfl) (se_ix (se_ix (se_ix (sv 0) se_int) (se_ix (sv 2) se_int)) se_int))) sss_nil)
    (sss_cons (ss_set sc_law_moves.nd (i := 4) rfl (by first | exact Or.inl rfl | exact Or.inr rfl) (SEm.al (se_lst sa_nil (al_sz (n := 0) (by decide) al_nil))))
    (sss_cons (ss_for PassesOwn.never rfl (si_seq (sv 3)) (sg_name sc_law_moves.nd (i := 5) rfl (by first | exact Or.inl rfl | exact Or.inr rfl)) (sss_one (ss_for PassesOwn.never rfl (si_range1 (by rfl) T.z_range (sa_cons (se_callB call_len sem_len (by rfl) T.z_len rfl (sa_cons (se_ix (sv 0) se_int) sa_nil)) sa_nil)) (sg_name sc_law_moves.nd (i := 6) rfl (by first | exact Or.inl rfl | exact Or.inr rfl)) (sss_cons (ss_set sc_law_moves.nd (i := 7) rfl (by first | exact Or.inl rfl | exact Or.inr rfl) (se_and (se_eq hr (se_ix (sv 2) se_int) se_int) (se_one (se_in hr se_bl (se_lc rfl sc_law_moves.nd (si_seq (se_ix (sv 2) se_int)) (blkOk_by (own := [("one", 8)]) (by kernel_rfl)) (fun _ _ _ _ _ => (sg_name sc_law_moves.nd (i := 8) rfl (by first | exact Or.inl rfl | exact Or.inr rfl))) (by decide) (fun _ _ _ _ _ => sts_nil) (fun _ _ _ _ _ => (se_in hr (sv 8) (se_ix (se_ix (se_ix (sv 0) se_int) (sv 6)) se_int))))))))
    (sss_one (ss_if (STw.st (sw_and (st_eq hr (se_ix (se_ix (se_ix (sv 0) se_int) (sv 6)) se_int) (sv 5)) (sw_and1 (st_not (st_val (sv 7)))))) (sss_one (ss_expr (se_bm PySem.F.plainAttrs_list PySem.F.slot_list_append PySem.F.type_list_append mt_append sem_append (sv 4) (sa_cons (se_tup (sa_cons (sv 5) (sa_cons (sv 6) sa_nil)) (al_sz (n := 2) (by decide) (al_cons (al_cons al_nil)))) sa_nil)))) sss_nil))))))
    (sss_one (ss_ret (sv 4))))))))
theorem sc_side_at : FnScope ["time"] ["time"] (defScope s_side_at) := ⟨rfl, rfl, rfl, by decide +kernel, rfl, by decide +kernel, by decide +kernel⟩
theorem ok_side_at {P : Program} {w : World} {K : PySem.W.Frag} {mg : Str → Option Value} {base : Heap} {a : Nat → Addr} {fd : Nat → FuncData} (T : Txt K mg a fd) : FnOk P w K mg base CX0 1 (a 27) (fd 27) ["time"] (spOf ⟨P, w, K, fa a⟩ c_side_at 1) :=
  fn_ruleD (fa := fa a) (k := 0) T.F_side_at sc_side_at fun cdv A outer s H E hr => (sss_one (ss_ret (se_if (st_is (se_ix (sv 0) se_int) se_non) (se_kstr (by rfl) T.k_SPEAKER.choose_spec) (se_kstr (by rfl) T.k_DOUBTER.choose_spec))))
theorem sc_Table_side : FnScope ["self"] ["self"] (defScope s_Table_side) := ⟨rfl, rfl, rfl, by decide +kernel, rfl, by decide +kernel, by decide +kernel⟩
theorem ok_Table_side {P : Program} {w : World} {K : PySem.W.Frag} {mg : Str → Option Value} {base : Heap} {a : Nat → Addr} {fd : Nat → FuncData} (T : Txt K mg a fd) : FnOk P w K mg base CX0 2 (a 28) (fd 28) ["self"] (spOf ⟨P, w, K, fa a⟩ c_Table_side 1) :=
  fn_ruleD (fa := fa a) (k := 1) T.F_Table_side sc_Table_side fun cdv A outer s H E hr => (sss_one (ss_ret (se_call (ps := ["time"]) (ok_side_at T) (hr.mono (by decide)) (by rfl) T.g_side_at T.F_side_at.kp T.b_side_at (sa_cons (se_ix (se_fld (fa_Table a) T.C_Table T.na_Table_times (sv 0)) (se_neg se_int)) sa_nil))))
theorem sc_places_of : FnScope ["mask", "places", "lowest"] ["mask"] (defScope s_places_of) := ⟨rfl, rfl, rfl, by decide +kernel, rfl, by decide +kernel, by decide +kernel⟩
theorem ok_places_of {P : Program} {w : World} {K : PySem.W.Frag} {mg : Str → Option Value} {base : Heap} {a : Nat → Addr} {fd : Nat → FuncData} (T : Txt K mg a fd) : FnOk P w K mg base CX0 1 (a 29) (fd 29) ["mask"] (spOf ⟨P, w, K, fa a⟩ c_places_of 1) :=
  fn_ruleD (fa := fa a) (k := 0) T.F_places_of sc_places_of fun cdv A outer s H E hr => (sss_cons (ss_set sc_places_of.nd (i := 1) rfl (by first | exact Or.inl rfl | exact Or.inr rfl) (SEm.al (se_lst sa_nil (al_sz (n := 0) (by decide) al_nil))))
    (sss_cons (ss_while wN PassesOwn.never (st_gt (sv 0) se_int) (sss_cons (ss_set sc_places_of.nd (i := 2) rfl (by first | exact Or.inl rfl | exact Or.inr rfl) (se_band (sv 0) (se_neg (sv 0))))
    (sss_cons (ss_expr (se_bm PySem.F.plainAttrs_list PySem.F.slot_list_append PySem.F.type_list_append mt_append sem_append (sv 1) (sa_cons (se_sub (se_bits (sv 2)) se_int) sa_nil)))
    (sss_one (ss_set sc_places_of.nd (i := 0) rfl (by first | exact Or.inl rfl | exact Or.inr rfl) (se_bxor (sv 0) (sv 2)))))))
    (sss_one (ss_ret (sv 1)))))
theorem sc_moves_against : FnScope ["bits", "held", "place", "index"] ["bits", "held"] (defScope s_moves_against) := ⟨rfl, rfl, rfl, by decide +kernel, rfl, by decide +kernel, by decide +kernel⟩
theorem ok_moves_against {P : Program} {w : World} {K : PySem.W.Frag} {mg : Str → Option Value} {base : Heap} {a : Nat → Addr} {fd : Nat → FuncData} (T : Txt K mg a fd) : FnOk P w K mg base CX0 2 (a 30) (fd 30) ["bits", "held"] (spOf ⟨P, w, K, fa a⟩ c_moves_against 2) :=
  fn_ruleD (fa := fa a) (k := 1) T.F_moves_against sc_moves_against fun cdv A outer s H E hr => (sss_one (ss_ret (se_callTy call_tupleF sem_tuple (by rfl) T.z_tuple rfl (sa_cons (se_lc2 rfl sc_moves_against.nd (si_seq (se_call (ps := ["mask"]) (ok_places_of T) (hr.mono (by decide)) (by rfl) T.g_places_of T.F_places_of.kp T.b_places_of (sa_cons (sv 1) sa_nil))) (blkOk_by (own := [("place", 2), ("index", 3)]) (by kernel_rfl)) (by decide) (fun _ _ _ _ _ => (sg_name sc_moves_against.nd (i := 2) rfl (by first | exact Or.inl rfl | exact Or.inr rfl))) (by decide) (fun _ _ _ _ _ => sts_nil) (fun _ _ _ _ _ => (si_seq (se_ix (se_fld (fa_BitBoard a) T.C_BitBoard T.na_BitBoard_onto (sv 0)) (sv 2)))) (fun _ _ _ _ _ => (sg_name sc_moves_against.nd (i := 3) rfl (by first | exact Or.inl rfl | exact Or.inr rfl))) (by decide) (fun _ _ _ _ _ => sts_nil) (fun _ _ _ _ _ => (se_tup (sa_cons (se_ix (se_fld (fa_BitBoard a) T.C_BitBoard T.na_BitBoard_pieces (sv 0)) (sv 2)) (sa_cons (sv 3) sa_nil)) (al_sz (n := 2) (by decide) (al_cons (al_cons al_nil)))))) sa_nil))))
theorem sc_moves_answering : FnScope ["bits", "attack", "named", "found", "place", "index"] ["bits", "attack", "named"] (defScope s_moves_answering) := ⟨rfl, rfl, rfl, by decide +kernel, rfl, by decide +kernel, by decide +kernel⟩
theorem ok_moves_answering {P : Program} {w : World} {K : PySem.W.Frag} {mg : Str → Option Value} {base : Heap} {a : Nat → Addr} {fd : Nat → FuncData} (T : Txt K mg a fd) : FnOk P w K mg base CX0 2 (a 31) (fd 31) ["bits", "attack", "named"] (spOf ⟨P, w, K, fa a⟩ c_moves_answering 3) :=
  fn_ruleD (fa := fa a) (k := 1) T.F_moves_answering sc_moves_answering fun cdv A outer s H E hr => (sss_cons (ss_set sc_moves_answering.nd (i := 3) rfl (by first | exact Or.inl rfl | exact Or.inr rfl) (SEm.al (se_lst sa_nil (al_sz (n := 0) (by decide) al_nil))))
    (sss_cons (ss_for PassesOwn.never rfl (si_seq (se_call (ps := ["mask"]) (ok_places_of T) (hr.mono (by decide)) (by rfl) T.g_places_of T.F_places_of.kp T.b_places_of (sa_cons (se_ix (se_ix (se_fld (fa_BitBoard a) T.C_BitBoard T.na_BitBoard_attacks (sv 0)) (sv 1)) se_int) sa_nil))) (sg_name sc_moves_answering.nd (i := 4) rfl (by first | exact Or.inl rfl | exact Or.inr rfl)) (sss_one (ss_for PassesOwn.never rfl (si_seq (se_ix (se_fld (fa_BitBoard a) T.C_BitBoard T.na_BitBoard_onto (sv 0)) (sv 4))) (sg_name sc_moves_answering.nd (i := 5) rfl (by first | exact Or.inl rfl | exact Or.inr rfl)) (sss_one (ss_if (st_eq hr (se_band (se_ix (se_ix (se_fld (fa_BitBoard a) T.C_BitBoard T.na_BitBoard_attacks (sv 0)) (sv 5)) se_int) (sv 2)) se_int) (sss_one (ss_expr (se_bm PySem.F.plainAttrs_list PySem.F.slot_list_append PySem.F.type_list_append mt_append sem_append (sv 3) (sa_cons (se_tup (sa_cons (se_ix (se_fld (fa_BitBoard a) T.C_BitBoard T.na_BitBoard_pieces (sv 0)) (sv 4)) (sa_cons (sv 5) sa_nil)) (al_sz (n := 2) (by decide) (al_cons (al_cons al_nil)))) sa_nil)))) sss_nil)))))
    (sss_one (ss_ret (se_callTy call_tupleF sem_tuple (by rfl) T.z_tuple rfl (sa_cons (sv 3) sa_nil))))))
theorem sc_moves_at : FnScope ["bits", "parts", "time", "held", "attack", "named"] ["bits", "parts", "time"] (defScope s_moves_at) := ⟨rfl, rfl, rfl, by decide +kernel, rfl, by decide +kernel, by decide +kernel⟩
theorem ok_moves_at {P : Program} {w : World} {K : PySem.W.Frag} {mg : Str → Option Value} {base : Heap} {a : Nat → Addr} {fd : Nat → FuncData} (T : Txt K mg a fd) : FnOk P w K mg base CX0 3 (a 32) (fd 32) ["bits", "parts", "time"] (spOf ⟨P, w, K, fa a⟩ c_moves_at 3) :=
  fn_ruleD (fa := fa a) (k := 2) T.F_moves_at sc_moves_at fun cdv A outer s H E hr => (sss_cons (ss_asg (sv 2) (sg_tup rfl (sgs_cons (sg_name sc_moves_at.nd (i := 3) rfl (by first | exact Or.inl rfl | exact Or.inr rfl)) (sgs_cons (sg_name sc_moves_at.nd (i := 4) rfl (by first | exact Or.inl rfl | exact Or.inr rfl)) (sgs_cons (sg_name sc_moves_at.nd (i := 5) rfl (by first | exact Or.inl rfl | exact Or.inr rfl)) sgs_nil)))))
    (sss_cons (ss_if (st_isNot (sv 3) se_non) (sss_one (ss_ret (se_call (ps := ["bits", "held"]) (ok_moves_against T) (hr.mono (by decide)) (by rfl) T.g_moves_against T.F_moves_against.kp T.b_moves_against (sa_cons (sv 0) (sa_cons (sv 3) sa_nil))))) sss_nil)
    (sss_cons (ss_if (st_isNot (sv 4) se_non) (sss_one (ss_ret (se_call (ps := ["bits", "attack", "named"]) (ok_moves_answering T) (hr.mono (by decide)) (by rfl) T.g_moves_answering T.F_moves_answering.kp T.b_moves_answering (sa_cons (sv 0) (sa_cons (sv 4) (sa_cons (sv 5) sa_nil)))))) sss_nil)
    (sss_one (ss_ret (se_trg rfl (by rfl) T.z_tuple (by rfl) T.z_range (se_callB call_len sem_len (by rfl) T.z_len rfl (sa_cons (sv 1) sa_nil))))))))
theorem sc_Table_moves : FnScope ["self"] ["self"] (defScope s_Table_moves) := ⟨rfl, rfl, rfl, by decide +kernel, rfl, by decide +kernel, by decide +kernel⟩
theorem ok_Table_moves {P : Program} {w : World} {K : PySem.W.Frag} {mg : Str → Option Value} {base : Heap} {a : Nat → Addr} {fd : Nat → FuncData} (T : Txt K mg a fd) : FnOk P w K mg base CX0 4 (a 33) (fd 33) ["self"] (spOf ⟨P, w, K, fa a⟩ c_Table_moves 1) :=
  fn_ruleD (fa := fa a) (k := 3) T.F_Table_moves sc_Table_moves fun cdv A outer s H E hr => (sss_one (ss_ret (se_call (ps := ["bits", "parts", "time"]) (ok_moves_at T) (hr.mono (by decide)) (by rfl) T.g_moves_at T.F_moves_at.kp T.b_moves_at (sa_cons (se_fld (fa_Table a) T.C_Table T.na_Table_bits (sv 0)) (sa_cons (se_fld (fa_Table a) T.C_Table T.na_Table_parts (sv 0)) (sa_cons (se_ix (se_fld (fa_Table a) T.C_Table T.na_Table_times (sv 0)) (se_neg se_int)) sa_nil))))))
theorem sc_Table_loser : FnScope ["self"] ["self"] (defScope s_Table_loser) := ⟨rfl, rfl, rfl, by decide +kernel, rfl, by decide +kernel, by decide +kernel⟩
theorem ok_Table_loser {P : Program} {w : World} {K : PySem.W.Frag} {mg : Str → Option Value} {base : Heap} {a : Nat → Addr} {fd : Nat → FuncData} (T : Txt K mg a fd) : FnOk P w K mg base CX0 5 (a 34) (fd 34) ["self"] (spOf ⟨P, w, K, fa a⟩ c_Table_loser 1) :=
  fn_ruleD (fa := fa a) (k := 4) T.F_Table_loser sc_Table_loser fun cdv A outer s H E hr => (sss_cons (ss_if (st_gt (se_callB call_len sem_len (by rfl) T.z_len rfl (sa_cons (se_meth0 (ps := ["self"]) (fa_Table a) T.C_Table T.m_Table_moves (ok_Table_moves T) (hr.mono (by decide)) T.b_Table_moves (sv 0)) sa_nil)) se_int) (sss_one (ss_ret se_non)) sss_nil)
    (sss_one (ss_ret (se_meth0 (ps := ["self"]) (fa_Table a) T.C_Table T.m_Table_side (ok_Table_side T) (hr.mono (by decide)) T.b_Table_side (sv 0)))))
theorem sc_Table_said : FnScope ["self"] ["self"] (defScope s_Table_said) := ⟨rfl, rfl, rfl, by decide +kernel, rfl, by decide +kernel, by decide +kernel⟩
theorem ok_Table_said {P : Program} {w : World} {K : PySem.W.Frag} {mg : Str → Option Value} {base : Heap} {a : Nat → Addr} {fd : Nat → FuncData} (T : Txt K mg a fd) : FnOk P w K mg base CX0 1 (a 35) (fd 35) ["self"] (spOf ⟨P, w, K, fa a⟩ c_Table_said 1) :=
  fn_ruleD (fa := fa a) (k := 0) T.F_Table_said sc_Table_said fun cdv A outer s H E hr => (sss_one (ss_ret (se_callTy call_tupleF sem_tuple (by rfl) T.z_tuple rfl (sa_cons (se_fld (fa_Table a) T.C_Table T.na_Table_made (sv 0)) sa_nil))))
theorem sc_law_shows : FnScope ["table", "board", "claim", "states", "moves", "state", "due", "loser"] ["table", "board", "claim", "states", "moves"] (defScope s_law_shows) := ⟨rfl, rfl, rfl, by decide +kernel, rfl, by decide +kernel, by decide +kernel⟩
theorem ok_law_shows {P : Program} {w : World} {K : PySem.W.Frag} {mg : Str → Option Value} {base : Heap} {a : Nat → Addr} {fd : Nat → FuncData} (T : Txt K mg a fd) : FnOk P w K mg base CX0 42 (a 36) (fd 36) ["table", "board", "claim", "states", "moves"] (spOf ⟨P, w, K, fa a⟩ c_law_shows 5) :=
  fn_ruleD (fa := fa a) (k := 41) T.F_law_shows sc_law_shows fun cdv A outer s H E hr => (sss_cons (ss_set sc_law_shows.nd (i := 5) rfl (by first | exact Or.inl rfl | exact Or.inr rfl) (se_ix (sv 3) (se_neg se_int)))
    (sss_cons (ss_set sc_law_shows.nd (i := 6) rfl (by first | exact Or.inl rfl | exact Or.inr rfl) (se_call (ps := ["board", "claim", "state"]) (ok_law_moves T) (hr.mono (by decide)) (by rfl) T.g_law_moves T.F_law_moves.kp T.b_law_moves (sa_cons (sv 1) (sa_cons (sv 2) (sa_cons (sv 5) sa_nil)))))
    (sss_cons (ss_set sc_law_shows.nd (i := 7) rfl (by first | exact Or.inl rfl | exact Or.inr rfl) se_non)
    (sss_cons (ss_if (st_eq hr (se_callB call_len sem_len (by rfl) T.z_len rfl (sa_cons (sv 6) sa_nil)) se_int) (sss_one (ss_set sc_law_shows.nd (i := 7) rfl (by first | exact Or.inl rfl | exact Or.inr rfl) (se_call (ps := ["state"]) (ok_law_side T) (hr.mono (by decide)) (by rfl) T.g_law_side T.F_law_side.kp T.b_law_side (sa_cons (sv 5) sa_nil)))) sss_nil)
    (sss_cons (ss_if (STw.st (sw_or (st_not (st_val (se_call (ps := ["actual", "due"]) (ok_law_same T 40) (hr.mono (by decide)) (by rfl) T.g_law_same T.F_law_same.kp T.b_law_same (sa_cons (se_meth0 (ps := ["self"]) (fa_Table a) T.C_Table T.m_Table_side (ok_Table_side T) (hr.mono (by decide)) T.b_Table_side (sv 0)) (sa_cons (se_call (ps := ["state"]) (ok_law_side T) (hr.mono (by decide)) (by rfl) T.g_law_side T.F_law_side.kp T.b_law_side (sa_cons (sv 5) sa_nil)) sa_nil))))) (sw_or1 (st_not (st_val (se_call (ps := ["actual", "due"]) (ok_law_same T 40) (hr.mono (by decide)) (by rfl) T.g_law_same T.F_law_same.kp T.b_law_same (sa_cons (se_meth0 (ps := ["self"]) (fa_Table a) T.C_Table T.m_Table_moves (ok_Table_moves T) (hr.mono (by decide)) T.b_Table_moves (sv 0)) (sa_cons (se_callTy call_tupleF sem_tuple (by rfl) T.z_tuple rfl (sa_cons (sv 6) sa_nil)) sa_nil)))))))) (sss_one (ss_ret se_bl)) sss_nil)
    (sss_one (ss_ret (se_and (se_call (ps := ["actual", "due"]) (ok_law_same T 40) (hr.mono (by decide)) (by rfl) T.g_law_same T.F_law_same.kp T.b_law_same (sa_cons (se_meth0 (ps := ["self"]) (fa_Table a) T.C_Table T.m_Table_loser (ok_Table_loser T) (hr.mono (by decide)) T.b_Table_loser (sv 0)) (sa_cons (sv 7) sa_nil))) (se_one (se_call (ps := ["actual", "due"]) (ok_law_same T 40) (hr.mono (by decide)) (by rfl) T.g_law_same T.F_law_same.kp T.b_law_same (sa_cons (se_meth0 (ps := ["self"]) (fa_Table a) T.C_Table T.m_Table_said (ok_Table_said T) (hr.mono (by decide)) T.b_Table_said (sv 0)) (sa_cons (se_callTy call_tupleF sem_tuple (by rfl) T.z_tuple rfl (sa_cons (sv 4) sa_nil)) sa_nil))))))))))))
theorem sc_law_moved : FnScope ["board", "claim", "state", "move"] ["board", "claim", "state", "move"] (defScope s_law_moved) := ⟨rfl, rfl, rfl, by decide +kernel, rfl, by decide +kernel, by decide +kernel⟩
theorem ok_law_moved {P : Program} {w : World} {K : PySem.W.Frag} {mg : Str → Option Value} {base : Heap} {a : Nat → Addr} {fd : Nat → FuncData} (T : Txt K mg a fd) : FnOk P w K mg base CX0 7 (a 37) (fd 37) ["board", "claim", "state", "move"] (spOf ⟨P, w, K, fa a⟩ c_law_moved 4) :=
  fn_ruleD (fa := fa a) (k := 6) T.F_law_moved sc_law_moved fun cdv A outer s H E hr => (sss_cons (ss_if (st_eq hr (se_ix (sv 2) se_int) se_int) (sss_one (ss_ret (se_lst (sa_cons se_int (sa_cons (se_ix (sv 1) (sv 3)) (sa_cons se_int (sa_cons (se_tup sa_nil (al_sz (n := 0) (by decide) al_nil)) sa_nil)))) (al_sz (n := 4) (by decide) (al_cons (al_cons (al_cons (al_cons al_nil)))))))) sss_nil)
    (sss_cons (ss_if (st_eq hr (se_ix (sv 2) se_int) se_int) (sss_one (ss_ret (se_lst (sa_cons se_int (sa_cons (se_ix (sv 2) se_int) (sa_cons (se_ix (sv 3) se_int) (sa_cons (se_call (ps := ["statements"]) (ok_law_set T) (hr.mono (by decide)) (by rfl) T.g_law_set T.F_law_set.kp T.b_law_set (sa_cons (se_add (se_ix (sv 2) se_int) (se_tup (sa_cons (se_ix (sv 3) se_int) sa_nil) (al_sz (n := 1) (by decide) (al_cons al_nil)))) sa_nil)) sa_nil)))) (al_sz (n := 4) (by decide) (al_cons (al_cons (al_cons (al_cons al_nil)))))))) sss_nil)
    (sss_one (ss_ret (se_lst (sa_cons se_int (sa_cons (se_ix (se_ix (se_ix (sv 0) se_int) (se_ix (sv 3) se_int)) se_int) (sa_cons se_int (sa_cons (se_ix (sv 2) se_int) sa_nil)))) (al_sz (n := 4) (by decide) (al_cons (al_cons (al_cons (al_cons al_nil))))))))))
theorem sc_time_behind : FnScope ["bits", "parts", "time", "move", "held", "attack", "named", "piece", "index"] ["bits", "parts", "time", "move"] (defScope s_time_behind) := ⟨rfl, rfl, rfl, by decide +kernel, rfl, by decide +kernel, by decide +kernel⟩
theorem ok_time_behind {P : Program} {w : World} {K : PySem.W.Frag} {mg : Str → Option Value} {base : Heap} {a : Nat → Addr} {fd : Nat → FuncData} (T : Txt K mg a fd) : FnOk P w K mg base CX0 1 (a 38) (fd 38) ["bits", "parts", "time", "move"] (spOf ⟨P, w, K, fa a⟩ c_time_behind 4) :=
  fn_ruleD (fa := fa a) (k := 0) T.F_time_behind sc_time_behind fun cdv A outer s H E hr => (sss_cons (ss_asg (sv 2) (sg_tup rfl (sgs_cons (sg_name sc_time_behind.nd (i := 4) rfl (by first | exact Or.inl rfl | exact Or.inr rfl)) (sgs_cons (sg_name sc_time_behind.nd (i := 5) rfl (by first | exact Or.inl rfl | exact Or.inr rfl)) (sgs_cons (sg_name sc_time_behind.nd (i := 6) rfl (by first | exact Or.inl rfl | exact Or.inr rfl)) sgs_nil)))))
    (sss_cons (ss_if (st_isNot (sv 4) se_non) (sss_cons (ss_asg (sv 3) (sg_tup rfl (sgs_cons (sg_name sc_time_behind.nd (i := 7) rfl (by first | exact Or.inl rfl | exact Or.inr rfl)) (sgs_cons (sg_name sc_time_behind.nd (i := 8) rfl (by first | exact Or.inl rfl | exact Or.inr rfl)) sgs_nil))))
    (sss_one (ss_ret (se_tup (sa_cons se_non (sa_cons (sv 8) (sa_cons (se_bor (sv 6) (se_shl se_int (se_dGet hr (se_fld (fa_BitBoard a) T.C_BitBoard T.na_BitBoard_places (sv 0)) (sv 7)))) sa_nil))) (al_sz (n := 3) (by decide) (al_cons (al_cons (al_cons al_nil)))))))) sss_nil)
    (sss_cons (ss_if (st_is (sv 5) se_non) (sss_one (ss_ret (se_tup (sa_cons (se_ix (sv 1) (sv 3)) (sa_cons se_non (sa_cons (sv 6) sa_nil))) (al_sz (n := 3) (by decide) (al_cons (al_cons (al_cons al_nil))))))) sss_nil)
    (sss_cons (ss_asg (sv 3) (sg_tup rfl (sgs_cons (sg_name sc_time_behind.nd (i := 7) rfl (by first | exact Or.inl rfl | exact Or.inr rfl)) (sgs_cons (sg_name sc_time_behind.nd (i := 8) rfl (by first | exact Or.inl rfl | exact Or.inr rfl)) sgs_nil))))
    (sss_one (ss_ret (se_tup (sa_cons (se_ix (se_ix (se_fld (fa_BitBoard a) T.C_BitBoard T.na_BitBoard_attacks (sv 0)) (sv 8)) se_int) (sa_cons se_non (sa_cons (sv 6) sa_nil))) (al_sz (n := 3) (by decide) (al_cons (al_cons (al_cons al_nil)))))))))))
theorem sc_Table_move : FnScope ["self", "move"] ["self", "move"] (defScope s_Table_move) := ⟨rfl, rfl, rfl, by decide +kernel, rfl, by decide +kernel, by decide +kernel⟩
theorem ok_Table_move {P : Program} {w : World} {K : PySem.W.Frag} {mg : Str → Option Value} {base : Heap} {a : Nat → Addr} {fd : Nat → FuncData} (T : Txt K mg a fd) : FnOk P w K mg base CX0 5 (a 39) (fd 39) ["self", "move"] (spOf ⟨P, w, K, fa a⟩ c_Table_move 2) :=
  fn_ruleD (fa := fa a) (k := 4) T.F_Table_move sc_Table_move fun cdv A outer s H E hr => (sss_cons (ss_if (st_notIn hr (sv 1) (se_meth0 (ps := ["self"]) (fa_Table a) T.C_Table T.m_Table_moves (ok_Table_moves T) (hr.mono (by decide)) T.b_Table_moves (sv 0))) (sss_one ss_bot) sss_nil)
    (sss_cons (ss_expr (se_bm PySem.F.plainAttrs_list PySem.F.slot_list_append PySem.F.type_list_append mt_append sem_append (se_fld (fa_Table a) T.C_Table T.na_Table_times (sv 0)) (sa_cons (se_call (ps := ["bits", "parts", "time", "move"]) (ok_time_behind T) (hr.mono (by decide)) (by rfl) T.g_time_behind T.F_time_behind.kp T.b_time_behind (sa_cons (se_fld (fa_Table a) T.C_Table T.na_Table_bits (sv 0)) (sa_cons (se_fld (fa_Table a) T.C_Table T.na_Table_parts (sv 0)) (sa_cons (se_ix (se_fld (fa_Table a) T.C_Table T.na_Table_times (sv 0)) (se_neg se_int)) (sa_cons (sv 1) sa_nil))))) sa_nil)))
    (sss_one (ss_expr (se_bm PySem.F.plainAttrs_list PySem.F.slot_list_append PySem.F.type_list_append mt_append sem_append (se_fld (fa_Table a) T.C_Table T.na_Table_made (sv 0)) (sa_cons (sv 1) sa_nil))))))
theorem sc_Table_back : FnScope ["self"] ["self"] (defScope s_Table_back) := ⟨rfl, rfl, rfl, by decide +kernel, rfl, by decide +kernel, by decide +kernel⟩
theorem ok_Table_back {P : Program} {w : World} {K : PySem.W.Frag} {mg : Str → Option Value} {base : Heap} {a : Nat → Addr} {fd : Nat → FuncData} (T : Txt K mg a fd) : FnOk P w K mg base CX0 1 (a 40) (fd 40) ["self"] (spOf ⟨P, w, K, fa a⟩ c_Table_back 1) :=
  fn_ruleD (fa := fa a) (k := 0) T.F_Table_back sc_Table_back fun cdv A outer s H E hr => (sss_cons (ss_if (st_eq hr (se_callB call_len sem_len (by rfl) T.z_len rfl (sa_cons (se_fld (fa_Table a) T.C_Table T.na_Table_made (sv 0)) sa_nil)) se_int) (sss_one (ss_ret se_bl)) sss_nil)
    (sss_cons (ss_expr (se_bm0 PySem.F.plainAttrs_list PySem.F.slot_list_pop PySem.F.type_list_pop mt_pop sem_pop (se_fld (fa_Table a) T.C_Table T.na_Table_times (sv 0))))
    (sss_cons (ss_expr (se_bm0 PySem.F.plainAttrs_list PySem.F.slot_list_pop PySem.F.type_list_pop mt_pop sem_pop (se_fld (fa_Table a) T.C_Table T.na_Table_made (sv 0))))
    (sss_one (ss_ret se_bl)))))
theorem sc_law_step : FnScope ["draws", "table", "board", "claim", "states", "moves", "due", "move"] ["draws", "table", "board", "claim", "states", "moves"] (defScope s_law_step) := ⟨rfl, rfl, rfl, by decide +kernel, rfl, by decide +kernel, by decide +kernel⟩
theorem ok_law_step {P : Program} {w : World} {K : PySem.W.Frag} {mg : Str → Option Value} {base : Heap} {a : Nat → Addr} {fd : Nat → FuncData} (T : Txt K mg a fd) : FnOk P w K mg base CX0 42 (a 41) (fd 41) ["draws", "table", "board", "claim", "states", "moves"] (spOf ⟨P, w, K, fa a⟩ c_law_step 6) :=
  fn_ruleD (fa := fa a) (k := 41) T.F_law_step sc_law_step fun cdv A outer s H E hr => (sss_cons (ss_set sc_law_step.nd (i := 6) rfl (by first | exact Or.inl rfl | exact Or.inr rfl) (se_call (ps := ["board", "claim", "state"]) (ok_law_moves T) (hr.mono (by decide)) (by rfl) T.g_law_moves T.F_law_moves.kp T.b_law_moves (sa_cons (sv 2) (sa_cons (sv 3) (sa_cons (se_ix (sv 4) (se_neg se_int)) sa_nil)))))
    (sss_cons (ss_if (STw.st (sw_or (st_eq hr (se_callB call_len sem_len (by rfl) T.z_len rfl (sa_cons (sv 6) sa_nil)) se_int) (sw_or1 (STw.st (sw_and (st_gt (se_callB call_len sem_len (by rfl) T.z_len rfl (sa_cons (sv 5) sa_nil)) se_int) (sw_and1 (st_eq hr (se_call (ps := ["draws", "many"]) (ok_law_take T) (hr.mono (by decide)) (by rfl) T.g_law_take T.F_law_take.kp T.b_law_take (sa_cons (sv 0) (sa_cons se_int sa_nil))) se_int))))))) (sss_cons (ss_if (st_not (st_val (se_call (ps := ["actual", "due"]) (ok_law_same T 40) (hr.mono (by decide)) (by rfl) T.g_law_same T.F_law_same.kp T.b_law_same (sa_cons (se_meth0 (ps := ["self"]) (fa_Table a) T.C_Table T.m_Table_back (ok_Table_back T) (hr.mono (by decide)) T.b_Table_back (sv 1)) (sa_cons (se_gt (se_callB call_len sem_len (by rfl) T.z_len rfl (sa_cons (sv 5) sa_nil)) se_int) sa_nil))))) (sss_one (ss_ret se_bl)) sss_nil)
    (sss_cons (ss_if (st_gt (se_callB call_len sem_len (by rfl) T.z_len rfl (sa_cons (sv 5) sa_nil)) se_int) (sss_cons (ss_expr (se_bm0 PySem.F.plainAttrs_list PySem.F.slot_list_pop PySem.F.type_list_pop mt_pop sem_pop (sv 5)))
    (sss_one (ss_expr (se_bm0 PySem.F.plainAttrs_list PySem.F.slot_list_pop PySem.F.type_list_pop mt_pop sem_pop (sv 4))))) sss_nil)
    (sss_one (ss_ret se_bl)))) sss_nil)
    (sss_cons (ss_set sc_law_step.nd (i := 7) rfl (by first | exact Or.inl rfl | exact Or.inr rfl) (se_call (ps := ["draws", "row"]) (ok_law_pick T) (hr.mono (by decide)) (by rfl) T.g_law_pick T.F_law_pick.kp T.b_law_pick (sa_cons (sv 0) (sa_cons (sv 6) sa_nil))))
    (sss_cons (ss_if (st_isNot (se_meth (ps := ["self", "move"]) (fa_Table a) T.C_Table T.m_Table_move (ok_Table_move T) (hr.mono (by decide)) T.b_Table_move (sv 1) (sa_cons (sv 7) sa_nil)) se_non) (sss_one (ss_ret se_bl)) sss_nil)
    (sss_cons (ss_expr (se_bm PySem.F.plainAttrs_list PySem.F.slot_list_append PySem.F.type_list_append mt_append sem_append (sv 4) (sa_cons (se_call (ps := ["board", "claim", "state", "move"]) (ok_law_moved T) (hr.mono (by decide)) (by rfl) T.g_law_moved T.F_law_moved.kp T.b_law_moved (sa_cons (sv 2) (sa_cons (sv 3) (sa_cons (se_ix (sv 4) (se_neg se_int)) (sa_cons (sv 7) sa_nil))))) sa_nil)))
    (sss_cons (ss_expr (se_bm PySem.F.plainAttrs_list PySem.F.slot_list_append PySem.F.type_list_append mt_append sem_append (sv 5) (sa_cons (sv 7) sa_nil)))
    (sss_one (ss_ret se_bl))))))))
theorem sc_places_by : FnScope ["things", "place", "thing"] ["things"] (defScope s_places_by) := ⟨rfl, rfl, rfl, by decide +kernel, rfl, by decide +kernel, by decide +kernel⟩
theorem ok_places_by {P : Program} {w : World} {K : PySem.W.Frag} {mg : Str → Option Value} {base : Heap} {a : Nat → Addr} {fd : Nat → FuncData} (T : Txt K mg a fd) : FnOk P w K mg base CX0 1 (a 42) (fd 42) ["things"] (spOf ⟨P, w, K, fa a⟩ c_places_by 1) :=
  fn_ruleD (fa := fa a) (k := 0) T.F_places_by sc_places_by fun cdv A outer s H E hr => (sss_one (ss_ret (se_dc hr rfl sc_places_by.nd (si_enum (by rfl) T.z_enumerate (sa_cons (sv 0) sa_nil)) (blkOk_by (own := [("place", 1), ("thing", 2)]) (by kernel_rfl)) (fun _ _ _ _ _ => (sg_tup rfl (sgs_cons (sg_name sc_places_by.nd (i := 1) rfl (by first | exact Or.inl rfl | exact Or.inr rfl)) (sgs_cons (sg_name sc_places_by.nd (i := 2) rfl (by first | exact Or.inl rfl | exact Or.inr rfl)) sgs_nil)))) (by decide) (fun _ _ _ _ _ => sts_nil) (fun _ _ _ _ _ => (sv 2)) (fun _ _ _ _ _ => (sv 1)))))
theorem sc_mask_of : FnScope ["places", "things", "mask", "thing"] ["places", "things"] (defScope s_mask_of) := ⟨rfl, rfl, rfl, by decide +kernel, rfl, by decide +kernel, by decide +kernel⟩
theorem ok_mask_of {P : Program} {w : World} {K : PySem.W.Frag} {mg : Str → Option Value} {base : Heap} {a : Nat → Addr} {fd : Nat → FuncData} (T : Txt K mg a fd) : FnOk P w K mg base CX0 1 (a 43) (fd 43) ["places", "things"] (spOf ⟨P, w, K, fa a⟩ c_mask_of 2) :=
  fn_ruleD (fa := fa a) (k := 0) T.F_mask_of sc_mask_of fun cdv A outer s H E hr => (sss_cons (ss_set sc_mask_of.nd (i := 2) rfl (by first | exact Or.inl rfl | exact Or.inr rfl) se_int)
    (sss_cons (ss_for PassesOwn.never rfl (si_seq (sv 1)) (sg_name sc_mask_of.nd (i := 3) rfl (by first | exact Or.inl rfl | exact Or.inr rfl)) (sss_one (ss_if (st_dIn hr (sv 3) (sv 0)) (sss_one (ss_set sc_mask_of.nd (i := 2) rfl (by first | exact Or.inl rfl | exact Or.inr rfl) (se_bor (sv 2) (se_shl se_int (se_dGet hr (sv 0) (sv 3)))))) sss_nil)))
    (sss_one (ss_ret (sv 2)))))
theorem sc_BitBoard___init__ : FnScope ["self", "board", "pieces", "attacks", "at", "support", "piece"] ["self", "board"] (defScope s_BitBoard___init__) := ⟨rfl, rfl, rfl, by decide +kernel, rfl, by decide +kernel, by decide +kernel⟩
theorem ok_BitBoard___init__ {P : Program} {w : World} {K : PySem.W.Frag} {mg : Str → Option Value} {base : Heap} {a : Nat → Addr} {fd : Nat → FuncData} (T : Txt K mg a fd) : FnOk P w K mg base CX0 2 (a 44) (fd 44) ["self", "board"] (spOf ⟨P, w, K, fa a⟩ c_BitBoard___init__ 2) :=
  fn_ruleI (fa := fa a) (k := 1) T.F_BitBoard___init__ sc_BitBoard___init__ fun cdv A outer s H E hr => (sss_cons (ss_asg (sv 1) (sg_tup rfl (sgs_cons (sg_name sc_BitBoard___init__.nd (i := 2) rfl (by first | exact Or.inl rfl | exact Or.inr rfl)) (sgs_cons (sg_name sc_BitBoard___init__.nd (i := 3) rfl (by first | exact Or.inl rfl | exact Or.inr rfl)) sgs_nil))))
    (sss_cons (ss_setF (fa_BitBoard a) T.C_BitBoard T.na_BitBoard_pieces (sv 2) (sv 0))
    (sss_cons (ss_setF (fa_BitBoard a) T.C_BitBoard T.na_BitBoard_places (se_call (ps := ["things"]) (ok_places_by T) (hr.mono (by decide)) (by rfl) T.g_places_by T.F_places_by.kp T.b_places_by (sa_cons (sv 2) sa_nil)) (sv 0))
    (sss_cons (ss_setF (fa_BitBoard a) T.C_BitBoard T.na_BitBoard_whole (se_sub (se_shl se_int (se_callB call_len sem_len (by rfl) T.z_len rfl (sa_cons (sv 2) sa_nil))) se_int) (sv 0))
    (sss_cons (ss_setF (fa_BitBoard a) T.C_BitBoard T.na_BitBoard_attacks (se_lc rfl sc_BitBoard___init__.nd (si_seq (sv 3)) (blkOk_by (own := [("support", 5), ("piece", 6)]) (by kernel_rfl)) (fun _ _ _ _ _ => (sg_tup rfl (sgs_cons (sg_name sc_BitBoard___init__.nd (i := 5) rfl (by first | exact Or.inl rfl | exact Or.inr rfl)) (sgs_cons (sg_name sc_BitBoard___init__.nd (i := 6) rfl (by first | exact Or.inl rfl | exact Or.inr rfl)) sgs_nil)))) (by decide) (fun _ _ _ _ _ => sts_nil) (fun _ _ _ _ _ => (se_tup (sa_cons (se_call (ps := ["places", "things"]) (ok_mask_of T) (hr.mono (by decide)) (by rfl) T.g_mask_of T.F_mask_of.kp T.b_mask_of (sa_cons (se_fld (fa_BitBoard a) T.C_BitBoard T.na_BitBoard_places (sv 0)) (sa_cons (sv 5) sa_nil))) (sa_cons (se_shl se_int (se_dGet hr (se_fld (fa_BitBoard a) T.C_BitBoard T.na_BitBoard_places (sv 0)) (sv 6))) sa_nil)) (al_sz (n := 2) (by decide) (al_cons (al_cons al_nil)))))) (sv 0))
    (sss_cons (ss_setF (fa_BitBoard a) T.C_BitBoard T.na_BitBoard_onto (se_lc rfl sc_BitBoard___init__.nd (si_seq (sv 2)) (blkOk_by (own := [("piece", 6)]) (by kernel_rfl)) (fun _ _ _ _ _ => (sg_name sc_BitBoard___init__.nd (i := 6) rfl (by first | exact Or.inl rfl | exact Or.inr rfl))) (by decide) (fun _ _ _ _ _ => sts_nil) (fun _ _ _ _ _ => (SEm.al (se_lst sa_nil (al_sz (n := 0) (by decide) al_nil))))) (sv 0))
    (sss_one (ss_for PassesOwn.never rfl (si_enum (by rfl) T.z_enumerate (sa_cons (sv 3) sa_nil)) (sg_tup rfl (sgs_cons (sg_name sc_BitBoard___init__.nd (i := 4) rfl (by first | exact Or.inl rfl | exact Or.inr rfl)) (sgs_cons (sg_tup rfl (sgs_cons (sg_name sc_BitBoard___init__.nd (i := 5) rfl (by first | exact Or.inl rfl | exact Or.inr rfl)) (sgs_cons (sg_name sc_BitBoard___init__.nd (i := 6) rfl (by first | exact Or.inl rfl | exact Or.inr rfl)) sgs_nil))) sgs_nil))) (sss_one (ss_expr (se_bm PySem.F.plainAttrs_list PySem.F.slot_list_append PySem.F.type_list_append mt_append sem_append (se_ix (se_fld (fa_BitBoard a) T.C_BitBoard T.na_BitBoard_onto (sv 0)) (se_dGet hr (se_fld (fa_BitBoard a) T.C_BitBoard T.na_BitBoard_places (sv 0)) (sv 6))) (sa_cons (sv 4) sa_nil))))))))))))
theorem sc_BitBoard_masks_for : FnScope ["self", "claim", "part"] ["self", "claim"] (defScope s_BitBoard_masks_for) := ⟨rfl, rfl, rfl, by decide +kernel, rfl, by decide +kernel, by decide +kernel⟩
theorem ok_BitBoard_masks_for {P : Program} {w : World} {K : PySem.W.Frag} {mg : Str → Option Value} {base : Heap} {a : Nat → Addr} {fd : Nat → FuncData} (T : Txt K mg a fd) : FnOk P w K mg base CX0 2 (a 45) (fd 45) ["self", "claim"] (spOf ⟨P, w, K, fa a⟩ c_BitBoard_masks_for 2) :=
  fn_ruleD (fa := fa a) (k := 1) T.F_BitBoard_masks_for sc_BitBoard_masks_for fun cdv A outer s H E hr => (sss_one (ss_ret (se_lc rfl sc_BitBoard_masks_for.nd (si_seq (sv 1)) (blkOk_by (own := [("part", 2)]) (by kernel_rfl)) (fun _ _ _ _ _ => (sg_name sc_BitBoard_masks_for.nd (i := 2) rfl (by first | exact Or.inl rfl | exact Or.inr rfl))) (by decide) (fun _ _ _ _ _ => sts_nil) (fun _ _ _ _ _ => (se_call (ps := ["places", "things"]) (ok_mask_of T) (hr.mono (by decide)) (by rfl) T.g_mask_of T.F_mask_of.kp T.b_mask_of (sa_cons (se_fld (fa_BitBoard a) T.C_BitBoard T.na_BitBoard_places (sv 0)) (sa_cons (sv 2) sa_nil)))))))
theorem sc_Table___init__ : FnScope ["self", "board", "claim"] ["self", "board", "claim"] (defScope s_Table___init__) := ⟨rfl, rfl, rfl, by decide +kernel, rfl, by decide +kernel, by decide +kernel⟩
theorem ok_Table___init__ {P : Program} {w : World} {K : PySem.W.Frag} {mg : Str → Option Value} {base : Heap} {a : Nat → Addr} {fd : Nat → FuncData} (T : Txt K mg a fd) : FnOk P w K mg base CX0 4 (a 46) (fd 46) ["self", "board", "claim"] (spOf ⟨P, w, K, fa a⟩ c_Table___init__ 3) :=
  fn_ruleI (fa := fa a) (k := 3) T.F_Table___init__ sc_Table___init__ fun cdv A outer s H E hr => (sss_cons (ss_setF (fa_Table a) T.C_Table T.na_Table_bits (se_new (ps := ["self", "board"]) (fa_BitBoard a) T.mk_BitBoard (ok_BitBoard___init__ T) (hr.mono (by decide)) (by rfl) T.gc_BitBoard T.b_BitBoard___init__ (sa_cons (sv 1) sa_nil)) (sv 0))
    (sss_cons (ss_setF (fa_Table a) T.C_Table T.na_Table_parts (se_meth (ps := ["self", "claim"]) (fa_BitBoard a) T.C_BitBoard T.m_BitBoard_masks_for (ok_BitBoard_masks_for T) (hr.mono (by decide)) T.b_BitBoard_masks_for (se_fld (fa_Table a) T.C_Table T.na_Table_bits (sv 0)) (sa_cons (sv 2) sa_nil)) (sv 0))
    (sss_cons (ss_setF (fa_Table a) T.C_Table T.na_Table_times (SEm.al (se_lst (sa_cons (se_ktup (by rfl) T.k_BEGINNING) sa_nil) (al_sz (n := 1) (by decide) (al_cons al_nil)))) (sv 0))
    (sss_one (ss_setF (fa_Table a) T.C_Table T.na_Table_made (SEm.al (se_lst sa_nil (al_sz (n := 0) (by decide) al_nil))) (sv 0))))))
theorem sc_law_are_right : FnScope ["draws", "cases", "tables", "states", "moves", "turn", "k", "board", "claim", "case"] ["draws", "cases"] (defScope s_law_are_right) := ⟨rfl, rfl, rfl, by decide +kernel, rfl, by decide +kernel, by decide +kernel⟩
theorem ok_law_are_right {P : Program} {w : World} {K : PySem.W.Frag} {mg : Str → Option Value} {base : Heap} {a : Nat → Addr} {fd : Nat → FuncData} (T : Txt K mg a fd) : FnOk P w K mg base CX0 43 (a 47) (fd 47) ["draws", "cases"] (spOf ⟨P, w, K, fa a⟩ c_law_are_right 2) :=
  fn_ruleD (fa := fa a) (k := 42) T.F_law_are_right sc_law_are_right fun cdv A outer s H E hr => (sss_cons (ss_setLc (i := 2) rfl sc_law_are_right.nd rfl rfl rfl (si_seq (sv 1)) (blkOk_by (own := [("case", 9)]) (by kernel_rfl)) (fun _ _ _ _ _ => (sg_name sc_law_are_right.nd (i := 9) rfl (by first | exact Or.inl rfl | exact Or.inr rfl))) (by decide) (fun _ _ _ _ _ => sts_nil) (fun _ _ _ _ _ => (se_newM (ps := ["self", "board", "claim"]) (fa_Table a) T.mk_Table (ok_Table___init__ T) (hr.mono (by decide)) (by rfl) T.gc_Table T.b_Table___init__ (sa_cons (se_ix (sv 9) se_int) (sa_cons (se_ix (sv 9) se_int) sa_nil)))))
    (sss_cons (ss_setLc (i := 3) rfl sc_law_are_right.nd rfl rfl rfl (si_seq (sv 1)) (blkOk_by (own := [("case", 9)]) (by kernel_rfl)) (fun _ _ _ _ _ => (sg_name sc_law_are_right.nd (i := 9) rfl (by first | exact Or.inl rfl | exact Or.inr rfl))) (by decide) (fun _ _ _ _ _ => sts_nil) (fun _ _ _ _ _ => (SEm.al (se_lst (sa_cons (se_call (ps := ["board", "claim"]) (ok_law_play T) (hr.mono (by decide)) (by rfl) T.g_law_play T.F_law_play.kp T.b_law_play (sa_cons (se_ix (sv 9) se_int) (sa_cons (se_ix (sv 9) se_int) sa_nil))) sa_nil) (al_sz (n := 1) (by decide) (al_cons al_nil))))))
    (sss_cons (ss_setLc (i := 4) rfl sc_law_are_right.nd rfl rfl rfl (si_seq (sv 1)) (blkOk_by (own := [("case", 9)]) (by kernel_rfl)) (fun _ _ _ _ _ => (sg_name sc_law_are_right.nd (i := 9) rfl (by first | exact Or.inl rfl | exact Or.inr rfl))) (by decide) (fun _ _ _ _ _ => sts_nil) (fun _ _ _ _ _ => (SEm.al (se_lst sa_nil (al_sz (n := 0) (by decide) al_nil)))))
    (sss_cons (ss_for PassesOwn.never rfl (si_range1 (by rfl) T.z_range (sa_cons se_int sa_nil)) (sg_name sc_law_are_right.nd (i := 5) rfl (by first | exact Or.inl rfl | exact Or.inr rfl)) (sss_one (ss_for PassesOwn.never rfl (si_range1 (by rfl) T.z_range (sa_cons (se_callB call_len sem_len (by rfl) T.z_len rfl (sa_cons (sv 1) sa_nil)) sa_nil)) (sg_name sc_law_are_right.nd (i := 6) rfl (by first | exact Or.inl rfl | exact Or.inr rfl)) (sss_cons (ss_set sc_law_are_right.nd (i := 7) rfl (by first | exact Or.inl rfl | exact Or.inr rfl) (se_ix (se_ix (sv 1) (sv 6)) se_int))
    (sss_cons (ss_set sc_law_are_right.nd (i := 8) rfl (by first | exact Or.inl rfl | exact Or.inr rfl) (se_ix (se_ix (sv 1) (sv 6)) se_int))
    (sss_cons (ss_if (st_not (st_val (se_call (ps := ["table", "board", "claim", "states", "moves"]) (ok_law_shows T) (hr.mono (by decide)) (by rfl) T.g_law_shows T.F_law_shows.kp T.b_law_shows (sa_cons (se_ix (sv 2) (sv 6)) (sa_cons (sv 7) (sa_cons (sv 8) (sa_cons (se_ix (sv 3) (sv 6)) (sa_cons (se_ix (sv 4) (sv 6)) sa_nil)))))))) (sss_one (ss_ret se_bl)) sss_nil)
    (sss_one (ss_if (st_not (st_val (se_call (ps := ["draws", "table", "board", "claim", "states", "moves"]) (ok_law_step T) (hr.mono (by decide)) (by rfl) T.g_law_step T.F_law_step.kp T.b_law_step (sa_cons (sv 0) (sa_cons (se_ix (sv 2) (sv 6)) (sa_cons (sv 7) (sa_cons (sv 8) (sa_cons (se_ix (sv 3) (sv 6)) (sa_cons (se_ix (sv 4) (sv 6)) sa_nil))))))))) (sss_one (ss_ret se_bl)) sss_nil))))))))
    (sss_cons (ss_for PassesOwn.never rfl (si_range1 (by rfl) T.z_range (sa_cons (se_callB call_len sem_len (by rfl) T.z_len rfl (sa_cons (sv 1) sa_nil)) sa_nil)) (sg_name sc_law_are_right.nd (i := 6) rfl (by first | exact Or.inl rfl | exact Or.inr rfl)) (sss_cons (ss_if (st_not (st_val (se_call (ps := ["table", "board", "claim", "states", "moves"]) (ok_law_shows T) (hr.mono (by decide)) (by rfl) T.g_law_shows T.F_law_shows.kp T.b_law_shows (sa_cons (se_ix (sv 2) (sv 6)) (sa_cons (se_ix (se_ix (sv 1) (sv 6)) se_int) (sa_cons (se_ix (se_ix (sv 1) (sv 6)) se_int) (sa_cons (se_ix (sv 3) (sv 6)) (sa_cons (se_ix (sv 4) (sv 6)) sa_nil)))))))) (sss_one (ss_ret se_bl)) sss_nil)
    (sss_cons (ss_for PassesOwn.never rfl (si_range1 (by rfl) T.z_range (sa_cons (se_callB call_len sem_len (by rfl) T.z_len rfl (sa_cons (se_ix (sv 4) (sv 6)) sa_nil)) sa_nil)) (sg_name sc_law_are_right.nd (i := 5) rfl (by first | exact Or.inl rfl | exact Or.inr rfl)) (sss_one (ss_if (st_not (st_val (se_call (ps := ["actual", "due"]) (ok_law_same T 40) (hr.mono (by decide)) (by rfl) T.g_law_same T.F_law_same.kp T.b_law_same (sa_cons (se_meth0 (ps := ["self"]) (fa_Table a) T.C_Table T.m_Table_back (ok_Table_back T) (hr.mono (by decide)) T.b_Table_back (se_ix (sv 2) (sv 6))) (sa_cons se_bl sa_nil))))) (sss_one (ss_ret se_bl)) sss_nil)))
    (sss_cons (ss_if (st_not (st_val (se_call (ps := ["actual", "due"]) (ok_law_same T 40) (hr.mono (by decide)) (by rfl) T.g_law_same T.F_law_same.kp T.b_law_same (sa_cons (se_meth0 (ps := ["self"]) (fa_Table a) T.C_Table T.m_Table_back (ok_Table_back T) (hr.mono (by decide)) T.b_Table_back (se_ix (sv 2) (sv 6))) (sa_cons se_bl sa_nil))))) (sss_one (ss_ret se_bl)) sss_nil)
    (sss_one (ss_if (st_not (st_val (se_call (ps := ["table", "board", "claim", "states", "moves"]) (ok_law_shows T) (hr.mono (by decide)) (by rfl) T.g_law_shows T.F_law_shows.kp T.b_law_shows (sa_cons (se_ix (sv 2) (sv 6)) (sa_cons (se_ix (se_ix (sv 1) (sv 6)) se_int) (sa_cons (se_ix (se_ix (sv 1) (sv 6)) se_int) (sa_cons (se_sl (se_ix (sv 3) (sv 6)) sop_none (sop_some se_int)) (sa_cons (se_lst sa_nil (al_sz (n := 0) (by decide) al_nil)) sa_nil)))))))) (sss_one (ss_ret se_bl)) sss_nil))))))
    (sss_one (ss_ret se_bl)))))))
theorem sc_law : FnScope ["script", "draws", "cases", "pair"] ["script"] (defScope s_law) := ⟨rfl, rfl, rfl, by decide +kernel, rfl, by decide +kernel, by decide +kernel⟩
theorem ok_law {P : Program} {w : World} {K : PySem.W.Frag} {mg : Str → Option Value} {base : Heap} {a : Nat → Addr} {fd : Nat → FuncData} (T : Txt K mg a fd) : FnOk P w K mg base CX0 44 (a 48) (fd 48) ["script"] (spOf ⟨P, w, K, fa a⟩ c_law 1) :=
  fn_ruleD (fa := fa a) (k := 43) T.F_law sc_law fun cdv A outer s H E hr => (sss_cons (ss_set sc_law.nd (i := 1) rfl (by first | exact Or.inl rfl | exact Or.inr rfl) (SEm.al (so_call (ps := ["script", "many"]) (ok_law_draws T) (hr.mono (by decide)) (by rfl) T.g_law_draws T.F_law_draws.kp T.b_law_draws (sa_cons (sv 0) (sa_cons se_int sa_nil)))))
    (sss_cons (ss_set sc_law.nd (i := 2) rfl (by first | exact Or.inl rfl | exact Or.inr rfl) (se_call (ps := ["draws", "many", "most"]) (ok_law_tables T) (hr.mono (by decide)) (by rfl) T.g_law_tables T.F_law_tables.kp T.b_law_tables (sa_cons (sv 1) (sa_cons se_int (sa_cons se_int sa_nil)))))
    (sss_cons (ss_for PassesOwn.never rfl (si_seq (se_lst (sa_cons (se_lst (sa_cons (se_ix (sv 2) se_int) (sa_cons (se_ix (sv 2) se_int) sa_nil)) (al_sz (n := 2) (by decide) (al_cons (al_cons al_nil)))) (sa_cons (se_lst (sa_cons (se_ix (sv 2) se_int) (sa_cons (se_ix (sv 2) se_int) sa_nil)) (al_sz (n := 2) (by decide) (al_cons (al_cons al_nil)))) (sa_cons (se_lst (sa_cons (se_ix (sv 2) se_int) (sa_cons (se_ix (sv 2) se_int) (sa_cons (se_ix (sv 2) se_int) sa_nil))) (al_sz (n := 3) (by decide) (al_cons (al_cons (al_cons al_nil))))) sa_nil))) (al_sz (n := 3) (by decide) (al_cons (al_cons (al_cons al_nil)))))) (sg_name sc_law.nd (i := 3) rfl (by first | exact Or.inl rfl | exact Or.inr rfl)) (sss_one (ss_if (st_not (st_val (se_call (ps := ["draws", "cases"]) (ok_law_are_right T) (hr.mono (by decide)) (by rfl) T.g_law_are_right T.F_law_are_right.kp T.b_law_are_right (sa_cons (sv 1) (sa_cons (sv 3) sa_nil))))) (sss_one (ss_ret se_bl)) sss_nil)))
    (sss_one (ss_ret se_bl)))))
end K93
set_option maxHeartbeats 1000000
namespace K93
open PySem L2 HS
section
variable {A E : Sto} {i : Nat} {ds : List Int}
theorem take_spec {m : Int} (h : A[i]? = some (IL ds)) (hm : 0 < m) : ∃ (k : Int) (ds' : List Int), c_law_take [.ref i, .int m] A = some (.int k, false, A.set i (IL ds')) ∧ 0 ≤ k ∧ k < m := by
  have hi : i < A.length := (List.getElem?_eq_some_iff.mp h).1
  unfold c_law_take m_law_take
  rw [q_calls]
  rcases List.eq_nil_or_concat ds with rfl | ⟨ds0, z, rfl⟩
  · refine ⟨0, [], ?_, Int.le_refl _, hm⟩
    simp [h, IL]
    try (unfold endF; rw [if_pos rfl])
    obtain ⟨hi, e⟩ := List.getElem?_eq_some_iff.mp h
    have : (D.lst []) = A[i] := e.symm
    rw [this, List.set_getElem_self]
  · refine ⟨z % m, ds0, ?_, Int.emod_nonneg _ (by omega), Int.emod_lt_of_pos _ hm⟩
    have hz : ¬ ((ds0.length : Int) + 1 = 0) := by omega
    simp [h, IL, hm, hz]
    unfold endF
    rw [if_pos (by simp)]
theorem take_W {m : Int} (hi : i < A.length) (hm : 0 < m) : ∃ (k : Int) (ds' : List Int), c_law_take [.ref i, .int m] (W A i ds E) = some (.int k, false, W A i ds' E) ∧ 0 ≤ k ∧ k < m := by
  obtain ⟨k, ds', h, h2⟩ := take_spec (A := W A i ds E) (W_i hi) hm
  rw [W_si hi] at h
  exact ⟨k, ds', h, h2⟩
/-- pick: any of a row -/
theorem pick_W {row : D} {xs : List D} (hi : i < A.length) (hr : row = .lst xs ∨ row = .tup xs) (hx : xs ≠ []) : ∃ (k : Nat) (x : D) (ds' : List Int), xs[k]? = some x ∧ c_law_pick [.ref i, row] (W A i ds E) = some (x, false, W A i ds' E) := by
  have hl : 0 < xs.length := List.length_pos_iff.mpr hx
  obtain ⟨k, ds', h, h1, h2⟩ := take_W (A := A) (E := E) (ds := ds) (m := (xs.length : Int)) hi (by omega)
  obtain ⟨n, rfl⟩ := Int.eq_ofNat_of_zero_le h1
  have hn : n < xs.length := by omega
  refine ⟨n, xs[n], ds', List.getElem?_eq_getElem hn, ?_⟩
  have hat : atI xs (n : Int) = some xs[n] := by
    unfold atI ixN
    rw [if_pos (by omega), if_pos (by omega)]
    simp [hn]
  have he : endF (W A i ds E) (W A i ds' E) xs[n] = some (xs[n], false, W A i ds' E) := by
    unfold endF
    rw [if_pos (by simp)]
  unfold c_law_pick m_law_pick
  rw [q_calls]
  rcases hr with rfl | rfl
  · simp [h, hat, he]
  · simp [h, hat, he]
end
end K93
namespace K93
open PySem L2 HS
theorem same_seq {A : Sto} {n : Nat} {x : D} {t : String} {xs : List D} (hs : seqOf A x = some xs) (ht : tyN A x = some t) (h1 : subTs t ["tuple", "list"] = some true) (h2 : ∃ b, subT t "tuple" = some b) (h3 : ∃ b, subT t "list" = some b) (hl : xs.length ≤ SZ)
    (hlen : ∀ S, bLen [x] S = lenK S (seqOf S x)) (hix : ∀ S (k : Int), oIx x (.int k) S = ixK S k (seqOf S x))
    (ih : ∀ y ∈ xs, c_law_same n [y, y] A = some (.bl true, false, A)) : c_law_same (n + 1) [x, x] A = some (.bl true, false, A) := by
  obtain ⟨b2, h2⟩ := h2
  obtain ⟨b3, h3⟩ := h3
  have i1 : bIsi [x, .pr [.ty "tuple", .ty "list"]] A = some (.bl true, A) := q_isis ht rfl h1
  have i2 : bIsi [x, .ty "tuple"] A = some (.bl b2, A) := q_isi ht h2
  have i3 : bIsi [x, .ty "list"] A = some (.bl b3, A) := q_isi ht h3
  have hc : k_law_same_1 (c_law_same n) [some x, some x, none] A = some (.lst ((List.range xs.length).map fun _ => .bl true), A) := by
    refine lc_all (as := List.range xs.length) (g := fun i => .int (0 + (i : Nat))) (chk := chkT) (by simp [hlen, hs, hl, rangeD]) trivial (by simpa using hl) fun k hk => ⟨_, rfl, rfl, ?_⟩
    have hk : k < xs.length := by simpa using hk
    have ha : atI xs (k : Int) = some xs[k] := atIn (List.getElem?_eq_getElem hk)
    simp [hix, hs, ha, ih xs[k] (List.getElem_mem hk)]
  have hb : oNotIn (.bl false) (.lst ((List.range xs.length).map fun _ => D.bl true)) A = some (.bl true, A) := by
    have := nin_bls (S := A) (bs := (List.range xs.length).map fun _ => true) (by simp)
    rwa [List.map_map] at this
  show callOf 3 (m_law_same (c_law_same n)) [x, x] A = _
  unfold m_law_same
  rw [q_calls]
  simp [i1, i2, i3, ne_bl, hlen, hs, hc, hb]
theorem same_spec {A : Sto} : ∀ (n : Nat) (x : D), sm n x = true → c_law_same (n + 1) [x, x] A = some (.bl true, false, A)
  | n, .tup xs, h => by
    cases n with
    | zero => simp [sm] at h
    | succ n =>
      simp only [sm, Bool.and_eq_true, decide_eq_true_eq, List.all_eq_true] at h
      exact same_seq (xs := xs) (t := "tuple") rfl rfl (by decide) ⟨true, by decide⟩ ⟨false, by decide⟩ h.1 (fun S => rfl) (fun S k => rfl) fun y hy => same_spec n y (h.2 y hy)
  | n, .lst xs, h => by
    cases n with
    | zero => simp [sm] at h
    | succ n =>
      simp only [sm, Bool.and_eq_true, decide_eq_true_eq, List.all_eq_true] at h
      exact same_seq (xs := xs) (t := "list") rfl rfl (by decide) ⟨false, by decide⟩ ⟨true, by decide⟩ h.1 (fun S => rfl) (fun S k => rfl) fun y hy => same_spec n y (h.2 y hy)
  | n, .non, h => by
    have e := eq_self_atom (S := A) h rfl
    have i1 : bIsi [.non, .pr [.ty "tuple", .ty "list"]] A = some (.bl false, A) := q_isis (t := "NoneType") rfl rfl (by decide)
    have i2 : bIsi [.non, .ty "bool"] A = some (.bl false, A) := q_isi (t := "NoneType") rfl (by decide)
    have i3 : bIsi [.non, .ty "int"] A = some (.bl false, A) := q_isi (t := "NoneType") rfl (by decide)
    have i4 : bIsi [.non, .ty "str"] A = some (.bl false, A) := q_isi (t := "NoneType") rfl (by decide)
    show callOf 3 (m_law_same (c_law_same n)) [_, _] A = _
    unfold m_law_same
    rw [q_calls]
    simp [i1, i2, i3, i4, ne_bl, e]
  | n, .bl b, h => by
    have e := eq_self_atom (S := A) h rfl
    have i1 : bIsi [.bl b, .pr [.ty "tuple", .ty "list"]] A = some (.bl false, A) := q_isis (t := "bool") rfl rfl (by decide)
    have i2 : bIsi [.bl b, .ty "bool"] A = some (.bl true, A) := q_isi (t := "bool") rfl (by decide)
    have i3 : bIsi [.bl b, .ty "int"] A = some (.bl true, A) := q_isi (t := "bool") rfl (by decide)
    have i4 : bIsi [.bl b, .ty "str"] A = some (.bl false, A) := q_isi (t := "bool") rfl (by decide)
    show callOf 3 (m_law_same (c_law_same n)) [_, _] A = _
    unfold m_law_same
    rw [q_calls]
    simp [i1, i2, i3, i4, ne_bl, e]
  | n, .int b, h => by
    have e := eq_self_atom (S := A) h rfl
    have i1 : bIsi [.int b, .pr [.ty "tuple", .ty "list"]] A = some (.bl false, A) := q_isis (t := "int") rfl rfl (by decide)
    have i2 : bIsi [.int b, .ty "bool"] A = some (.bl false, A) := q_isi (t := "int") rfl (by decide)
    have i3 : bIsi [.int b, .ty "int"] A = some (.bl true, A) := q_isi (t := "int") rfl (by decide)
    have i4 : bIsi [.int b, .ty "str"] A = some (.bl false, A) := q_isi (t := "int") rfl (by decide)
    show callOf 3 (m_law_same (c_law_same n)) [_, _] A = _
    unfold m_law_same
    rw [q_calls]
    simp [i1, i2, i3, i4, ne_bl, e]
  | n, .str b, h => by
    have e := eq_self_atom (S := A) h rfl
    have i1 : bIsi [.str b, .pr [.ty "tuple", .ty "list"]] A = some (.bl false, A) := q_isis (t := "str") rfl rfl (by decide)
    have i2 : bIsi [.str b, .ty "bool"] A = some (.bl false, A) := q_isi (t := "str") rfl (by decide)
    have i3 : bIsi [.str b, .ty "int"] A = some (.bl false, A) := q_isi (t := "str") rfl (by decide)
    have i4 : bIsi [.str b, .ty "str"] A = some (.bl true, A) := q_isi (t := "str") rfl (by decide)
    show callOf 3 (m_law_same (c_law_same n)) [_, _] A = _
    unfold m_law_same
    rw [q_calls]
    simp [i1, i2, i3, i4, ne_bl, e]
  | n, .scr _, h => by cases n <;> simp [sm] at h
  | n, .dic _, h => by cases n <;> simp [sm] at h
  | n, .ins _ _, h => by cases n <;> simp [sm] at h
  | n, .ref _, h => by cases n <;> simp [sm] at h
  | n, .fn _, h => by cases n <;> simp [sm] at h
  | n, .ty _, h => by cases n <;> simp [sm] at h
  | n, .pr _, h => by cases n <;> simp [sm] at h
end K93
namespace K93
open PySem L2 HS
theorem mod_small (x : Int) : smallI (x % 2147483647) = true := by
  have h1 := Int.emod_nonneg x (show (2147483647 : Int) ≠ 0 by decide)
  have h2 := Int.emod_lt_of_pos x (show (0 : Int) < 2147483647 by decide)
  unfold smallI
  rw [Bool.and_eq_true, decide_eq_true_eq, decide_eq_true_eq]
  generalize x % 2147483647 = y at *
  constructor
  · have : (-(2 ^ 64) : Int) = -18446744073709551616 := by decide
    omega
  · have : (2 ^ 64 : Int) = 18446744073709551616 := by decide
    omega
theorem draws_k {S : Sto} {ns : List Int} {many x : D} (hx : ∀ S, seqOf S x = some (ns.map D.int)) (hn : ns.length ≤ 63) : k_law_draws_1 [some x, some many, none, none, none, none, none, none, none] S = some (.lst (ns.map D.int), S) := by
  have hz : (63 : Nat) ≤ SZ := by decide
  refine lc_all (as := ns) (g := D.int) (chk := chkS x (ns.map D.int)) (by simp [hx]) (hx S) (by omega) fun n hn => ⟨_, rfl, rfl, ?_⟩
  simp
theorem draws_body {A : Sto} {scr many : D} {cs ls dr : List Int} {k : Nat} {p m : Option D} (hc : 0 < cs.length) (hl : ls.length = cs.length) (hd : dr.length < SZ) : ∃ (p' m' : Option D) (ls' : List Int) (x : Int), b_law_draws_1 [some scr, some many, some (.ref A.length), some (.ref (A.length + 1)), some (.ref (A.length + 2)), some (.int k), p, m, none] (V A [.lst (cs.map .int), .lst (ls.map .int), .lst (dr.map .int)]) =
    some (.nx, [some scr, some many, some (.ref A.length), some (.ref (A.length + 1)), some (.ref (A.length + 2)), some (.int k), p', m', none], V A [.lst (cs.map .int), .lst (ls'.map .int), .lst ((dr ++ [x]).map .int)]) ∧ ls'.length = cs.length := by
  have hj : k % cs.length < cs.length := Nat.mod_lt _ hc
  have hm : (k : Int) % (cs.length : Int) = ((k % cs.length : Nat) : Int) := rfl
  obtain ⟨c, e1⟩ : ∃ c, cs[k % cs.length]? = some c := ⟨_, List.getElem?_eq_getElem hj⟩
  obtain ⟨l, e2⟩ : ∃ l, ls[k % cs.length]? = some l := ⟨_, List.getElem?_eq_getElem (by rw [hl]; exact hj)⟩
  have a1 : atI (cs.map D.int) ((k % cs.length : Nat) : Int) = some (.int c) := atIn (by rw [List.getElem?_map, e1]; rfl)
  have a2 : atI (ls.map D.int) ((k % cs.length : Nat) : Int) = some (.int l) := atIn (by rw [List.getElem?_map, e2]; rfl)
  have a3 : ixN ls.length ((k % cs.length : Nat) : Int) = some (k % cs.length) := by
    unfold ixN
    rw [if_pos (by omega), if_pos (by omega)]
    rfl
  have p18 : ∀ S, oPow (.int 10) (.int 18) S = some (.int (10 ^ 18), S) := fun S => q_pow (by decide)
  generalize hC : (10 : Int) ^ 18 = C at p18
  clear e1 e2 hC
  generalize k % cs.length = j at hm a1 a2 a3
  have hc2 : (0 : Int) < cs.length := by omega
  have m1 : ∀ S, oMul (.int c) (.int 48271) S = some (.int (c * 48271), S) := fun S => q_mul (.inr (by decide))
  have m2 : ∀ S, oMul (.int (k : Int)) (.int 69621) S = some (.int (k * 69621), S) := fun S => q_mul (.inr (by decide))
  obtain ⟨M, hM⟩ : ∃ M, M = (c * 48271 + k * 69621 + 11) % 2147483647 := ⟨_, rfl⟩
  have hMs : smallI M = true := by rw [hM]; exact mod_small _
  have m3 : ∀ S, oMod (.int (c * 48271 + k * 69621 + 11)) (.int 2147483647) S = some (.int M, S) := fun S => by rw [q_mod (by decide), hM]
  have m4 : ∀ S, oMul (.int M) (.int M) S = some (.int (M * M), S) := fun S => q_mul (.inl hMs)
  have m5 : ∀ S, oMul (.int 3) (.int M) S = some (.int (3 * M), S) := fun S => q_mul (.inl (by decide))
  obtain ⟨y, hy⟩ : ∃ y, y = (M * M + 3 * M + k) % 1000003 := ⟨_, rfl⟩
  have m6 : ∀ S, oMod (.int (M * M + 3 * M + k)) (.int 1000003) S = some (.int y, S) := fun S => by rw [q_mod (by decide), hy]
  clear hM hy hMs
  by_cases h1 : C ≤ c
  · by_cases h2 : 0 < l
    · refine ⟨some (.int j), m, ls.set j (l / 1000), l % 1000, ?_, by simp [hl]⟩
      unfold b_law_draws_1
      simp [hc, hc2, hm, a1, a2, a3, p18, h1, h2, hd]
    · refine ⟨some (.int j), some (.int M), ls, y, ?_, hl⟩
      unfold b_law_draws_1
      simp [hc, hc2, hm, a1, a2, a3, p18, h1, h2, hd, m1, m2, m3, m4, m5, m6]
  · refine ⟨some (.int j), some (.int M), ls, y, ?_, hl⟩
    unfold b_law_draws_1
    simp [hc, hc2, hm, a1, a2, a3, p18, h1, hd, m1, m2, m3, m4, m5, m6]
theorem draws_loop {A : Sto} {scr : D} {cs ls : List Int} {many : Nat} (hc : 0 < cs.length) (hl : ls.length = cs.length) (hm : many < SZ) : ∃ (η' : HS.Env) (ls' dr : List Int), l_law_draws_1 [some scr, some (.int many), some (.ref A.length), some (.ref (A.length + 1)), some (.ref (A.length + 2)), none, none, none, none] (V A [.lst (cs.map .int), .lst (ls.map .int), .lst []]) =
    some (.nx, η', V A [.lst (cs.map .int), .lst (ls'.map .int), .lst (dr.map .int)]) ∧ η'[4]? = some (some (.ref (A.length + 2))) := by
  obtain ⟨η', S', h1, ls', dr, q, p, m, rfl, _, _, rfl⟩ := for_ind (it := iRange1 (aCons (eVar 1) aNil)) (tg := HS.gN 5) (body := b_law_draws_1) (η := [some scr, some (.int many), some (.ref A.length), some (.ref (A.length + 1)), some (.ref (A.length + 2)), none, none, none, none]) (S := V A [.lst (cs.map .int), .lst (ls.map .int), .lst []]) (S0 := V A [.lst (cs.map .int), .lst (ls.map .int), .lst []]) (xs := rangeD 0 many) (chk := chkT)
    (fun k η S => ∃ (ls' dr : List Int) (q p m : Option D), S = V A [.lst (cs.map .int), .lst (ls'.map .int), .lst (dr.map .int)] ∧ ls'.length = cs.length ∧ dr.length = k ∧ η = [some scr, some (.int many), some (.ref A.length), some (.ref (A.length + 1)), some (.ref (A.length + 2)), q, p, m, none])
    (by simp [Nat.le_of_lt hm]) ⟨ls, [], none, none, none, rfl, hl, rfl, rfl⟩ (fun _ _ _ _ _ => trivial) (fun k x η S hx ⟨ls', dr, q, p, m, h1, h2, h3, h4⟩ => by
      obtain ⟨hk, rfl⟩ := rangeD_get hx
      subst h1 h4
      obtain ⟨p', m', ls2, y, h5, h6⟩ := draws_body (A := A) (scr := scr) (many := .int many) (cs := cs) (ls := ls') (dr := dr) (k := k) (p := p) (m := m) hc h2 (by omega)
      exact ⟨_, _, _, rfl, .inl h5, ls2, dr ++ [y], _, p', m', rfl, h6, by simp [h3], rfl⟩)
  exact ⟨_, ls', dr, h1, rfl⟩
theorem draws_spec {A : Sto} {ns : List Int} {many : Nat} {x : D} (hx : ∀ S, seqOf S x = some (ns.map D.int)) (hn : ns.length ≤ 63) (hm : many < SZ) : ∃ ds : List Int, c_law_draws [x, .int many] A = some (.lst (ds.map D.int), true, A) := by
  have fin : ∀ (cs : List Int), 0 < cs.length → ∃ ds : List Int, endK A (seqK (sSeq l_law_draws_1 (sSeq (sExp (eM0 "list" mReverse (eVar 4))) (sRet (eVar 4)))) (some (.nx, [some (x), some (.int many), some (.ref A.length), some (.ref (A.length + 1)), some (.ref (A.length + 2)), none, none, none, none], V A [.lst (cs.map .int), .lst (cs.map .int), .lst []]))) = some (.lst (ds.map D.int), true, A) := fun cs hc => by
    obtain ⟨η', ls', dr, h1, h2⟩ := draws_loop (A := A) (scr := x) (cs := cs) (ls := cs) hc rfl hm
    refine ⟨dr.reverse, ?_⟩
    simp [h1, h2]
    rw [end_Vr (n := 1) (c := .lst (dr.map D.int).reverse) rfl (by simp [pl])]
  unfold c_law_draws m_law_draws
  rw [callsV]
  by_cases h0 : ns = []
  · subst h0
    obtain ⟨ds, h⟩ := fin [0] (by simp)
    refine ⟨ds, ?_⟩
    rw [← h]
    have hk := draws_k (S := HS.V A []) (ns := []) (many := .int many) hx (by simp)
    simp at hk
    have z0 : 0 < SZ := by decide
    simp [hk, z0]
  · obtain ⟨ds, h⟩ := fin ns (List.length_pos_iff.mpr h0)
    refine ⟨ds, ?_⟩
    rw [← h]
    have hk := draws_k (S := HS.V A []) (many := .int many) hx hn
    simp [hk, h0]
end K93
namespace K93
open PySem L2 HS
abbrev Row := List Val
abbrev Piece := Tx × Row
abbrev Sup := List Piece
section
variable {A E : Sto} {i : Nat} {ds : List Int}
def kV : Val → D
  | .num a => .tup [.int 0, .int a, .str ""]
  | .txt x => .tup [.int 1, .int 0, .str x.1]
def pV : Val → PyData
  | .num a => .tuple [.int 0, .int a, .str ""]
  | .txt x => .tuple [.int 1, .int 0, .str x.1]
def kR (r : Row) : D := .tup (r.map kV)
def pR (r : Row) : PyData := .tuple (r.map pV)
def kP (p : Piece) : D := .tup [.str p.1.1, kR p.2]
def pP (p : Piece) : PyData := .tuple [.str p.1.1, pR p.2]
def kS (s : Sup) : D := .tup (s.map kP)
def pS (s : Sup) : PyData := .tuple (s.map pP)
theorem valkey_spec (v : Val) : c_law_value_key [dv v] A = some (kV v, false, A) := by
  unfold c_law_value_key m_law_value_key
  rw [callsV]
  cases v with
  | num a =>
    have h : ∀ S, bIsi [.int a, .ty "str"] S = some (.bl false, S) := fun S => q_isi (t := "int") rfl (by decide)
    simp [dv, DV.d, h, V_out, kV]
  | txt x =>
    have h : ∀ S, bIsi [.str x.1, .ty "str"] S = some (.bl true, S) := fun S => q_isi (t := "str") rfl (by decide)
    simp [dv, DV.d, h, V_out, kV]
theorem rowkey_spec {r : Row} (hz : r.length ≤ SZ) : c_law_row_key [dv r] A = some (kR r, false, A) := by
  have hk : ∀ S, k_law_row_key_1 [some (dv r), none] S = some (.lst (r.map kV), S) := fun S => by
    refine lc_all (as := r) (g := dv) (chk := chkS (dv r) (r.map dv)) (by simp [dv, DV.d]) rfl hz fun v hv => ⟨_, rfl, rfl, ?_⟩
    simp [valkey_spec]
  unfold c_law_row_key m_law_row_key
  rw [callsV]
  simp [hk, V_out, kR]
theorem stkey_spec {p : Piece} (hz : p.2.length ≤ SZ) : c_law_statement_key [dv p] A = some (kP p, false, A) := by
  have e : dv p = .tup [.str p.1.1, dv p.2] := rfl
  unfold c_law_statement_key m_law_statement_key
  rw [callsV, e]
  simp [rowkey_spec hz, V_out, kP]
theorem setkey_spec {s : Sup} (hz : s.length ≤ SZ) (hp : ∀ p ∈ s, p.2.length ≤ SZ) : c_law_set_key [dv s] A = some (kS s, false, A) := by
  have hk : ∀ S, k_law_set_key_1 [some (dv s), none] S = some (.lst (s.map kP), S) := fun S => by
    refine lc_all (as := s) (g := dv) (chk := chkS (dv s) (s.map dv)) (by simp [dv, DV.d]) rfl hz fun v hv => ⟨_, rfl, rfl, ?_⟩
    simp [stkey_spec (hp v hv)]
  unfold c_law_set_key m_law_set_key
  rw [callsV]
  simp [hk, V_out, kS]
end
end K93
namespace K93
open PySem L2 HS
section
variable {A E S : Sto} {i : Nat} {ds : List Int}
theorem py_all {α : Type} {k : α → D} {p : α → PyData} (h : ∀ x, pyD S (k x) = some (p x)) : ∀ xs : List α, pyAll S (xs.map k) = some (xs.map p)
  | [] => rfl
  | x :: xs => by rw [List.map_cons, pyAll, h, py_all h xs]; rfl
theorem pyV (v : Val) : pyD S (kV v) = some (pV v) := by cases v <;> rfl
theorem pyRw (r : Row) : pyD S (kR r) = some (pR r) := by
  unfold kR pR
  rw [pyD, py_all pyV]; rfl
theorem pyP (p : Piece) : pyD S (kP p) = some (pP p) := by
  unfold kP pP
  rw [pyD, pyAll, pyAll, pyAll, pyRw]; rfl
theorem pyS (s : Sup) : pyD S (kS s) = some (pS s) := by
  unfold kS pS
  rw [pyD, py_all pyP]; rfl
theorem al_all {α : Type} {p : α → PyData} (h : ∀ x y, PySem.W.alike (p x) (p y) = true) : ∀ xs ys : List α, PySem.W.alikeAll (xs.map p) (ys.map p) = true
  | [], _ => by simp [PySem.W.alikeAll]
  | _ :: _, [] => by simp [PySem.W.alikeAll]
  | x :: xs, y :: ys => by simp [PySem.W.alikeAll, h, al_all h xs ys]
theorem alV (v u : Val) : PySem.W.alike (pV v) (pV u) = true := by cases v <;> cases u <;> simp [pV, PySem.W.alike, PySem.W.alikeAll]
theorem alR (v u : Row) : PySem.W.alike (pR v) (pR u) = true := by simp [pR, PySem.W.alike, al_all alV]
theorem alP (v u : Piece) : PySem.W.alike (pP v) (pP u) = true := by simp [pP, PySem.W.alike, PySem.W.alikeAll, alR]
theorem alS (v u : Sup) : PySem.W.alike (pS v) (pS u) = true := by simp [pS, PySem.W.alike, al_all alP]
theorem dp_all {α : Type} {p : α → PyData} {n : Nat} (h : ∀ x, (p x).depth ≤ n) : ∀ xs : List α, PyData.depthAll (xs.map p) ≤ n
  | [] => by simp [PyData.depthAll]
  | x :: xs => by
    rw [List.map_cons, PyData.depthAll]
    exact Nat.max_le.mpr ⟨h x, dp_all h xs⟩
theorem dpV (v : Val) : (pV v).depth ≤ 1 := by cases v <;> simp [pV, PyData.depth, PyData.depthAll]
theorem dpR (v : Row) : (pR v).depth ≤ 2 := by
  rw [pR, PyData.depth]
  exact Nat.succ_le_succ (dp_all dpV v)
theorem dpP (v : Piece) : (pP v).depth ≤ 3 := by
  have := dpR v.2
  rw [pP, PyData.depth, PyData.depthAll, PyData.depthAll, PyData.depthAll, PyData.depth]
  omega
theorem dpS (v : Sup) : (pS v).depth ≤ 4 := by
  rw [pS, PyData.depth]
  exact Nat.succ_le_succ (dp_all dpP v)
/-- rows that are not too long -/
def okP (p : Piece) : Prop := p.2.length ≤ SZ
theorem sortP {e : D} {ps : List Piece} (hp : ∀ p ∈ ps, okP p) (hz : ps.length ≤ SZ) (hl : lstOf S e = some (ps.map dv)) : bSortK c_law_statement_key e S = some (.lst ((srt pP ps).map dv), S) :=
  bSortK_spec (kD := kP) (fun p h => ⟨false, stkey_spec (hp p h)⟩) pyP alP (fun p => ⟨_, rfl⟩) (fun p => Nat.le_trans (dpP p) (by decide)) hz hl
def setP (ps : List Piece) : Sup := dd (srt pP ps)
theorem set_body {f : List Piece} {x : Piece} {s q : D} {o : Option D} (hf : f.length < SZ) : b_law_set_1 [some s, some (.ref A.length), some (dv x)] (V A [.lst (f.map dv)]) = some (.nx, [some s, some (.ref A.length), some (dv x)], V A [.lst ((ddF f x).map dv)]) := by
  unfold b_law_set_1
  rcases List.eq_nil_or_concat f with rfl | ⟨g, y, rfl⟩
  · have z0 : 0 < SZ := by decide
    simp [z0, ddF]
  · have h1 : ¬ ((g.length : Int) + 1 = 0) := by omega
    have h2 : atI (g.map dv ++ [dv y]) (-1) = some (dv y) := atI_last
    have h3 := fun S => q_ne (S := S) y x (by decide)
    by_cases h : y = x
    · subst h
      simp [h1, h2, h3, ddF]
    · have hf2 : g.length + 1 < SZ := by simpa using hf
      simp [h1, h2, h3, h, ddF, hf2]
theorem set_specU {e : D} {ps : List Piece} (hz : ps.length < SZ) (hs : bSortKU c_law_statement_key e (V A [.lst []]) = some (.lst ((srt pP ps).map dv), V A [.lst []])) : c_law_set [e] A = some (dv (setP ps), false, A) := by
  obtain ⟨η', S', h1, f, o, h2, rfl, rfl⟩ := for_ind (it := iE (eSortKU c_law_statement_key (eVar 0))) (tg := HS.gN 2) (body := b_law_set_1) (η := [some e, some (.ref A.length), none]) (S := V A [.lst []]) (S0 := V A [.lst []]) (xs := (srt pP ps).map dv) (chk := chkS (.lst ((srt pP ps).map dv)) ((srt pP ps).map dv))
    (fun k η S => ∃ (f : List Piece) (o : Option D), f = ((srt pP ps).take k).foldl ddF [] ∧ η = [some e, some (.ref A.length), o] ∧ S = V A [.lst (f.map dv)])
    (by simp [hs]) ⟨[], none, rfl, rfl, rfl⟩ (fun _ _ _ _ _ => rfl) (fun k x η S hx ⟨f, o, h1, h2, h3⟩ => by
      subst h2 h3
      rw [List.getElem?_map] at hx
      obtain ⟨p, h4, rfl⟩ := Option.map_eq_some_iff.mp hx
      have hf : f.length < SZ := by
        have := dd_len ((srt pP ps).take k) []
        rw [← h1] at this
        simp at this
        omega
      refine ⟨_, _, _, rfl, .inl (set_body hf (q := e) (o := o)), ddF f p, _, ?_, rfl, rfl⟩
      rw [List.take_add_one, h4, List.foldl_append, ← h1]
      rfl)
  have h3 : f = setP ps := by
    rw [h2, List.take_of_length_le (by simp)]
    rfl
  unfold c_law_set m_law_set
  rw [callsV]
  have h1' : l_law_set_1 [some e, some (.ref A.length), none] (V A [.lst []]) = _ := h1
  simp [h1', h3]
  exact end_V (n := 3) (DV.hpl (setP ps)) (by decide)
theorem set_spec {e : D} {ps : List Piece} (hp : ∀ p ∈ ps, okP p) (hz : ps.length < SZ) (hl : lstOf A e = some (ps.map dv)) : c_law_set [e] A = some (dv (setP ps), false, A) :=
  set_specU hz (by rw [sortKU_l (lst_V hl)]; exact sortP hp (Nat.le_of_lt hz) (lst_V hl))
theorem set_specT {ps : List Piece} (hp : ∀ p ∈ ps, okP p) (hz : ps.length < SZ) : c_law_set [dv ps] A = some (dv (setP ps), false, A) :=
  set_specU hz (by
    have e : (dv ps : D) = .tup (ps.map dv) := rfl
    rw [e, sortKU_t]
    exact sortP hp (Nat.le_of_lt hz) rfl)
end
end K93
namespace K93
open PySem L2 HS
section
variable {A E S : Sto} {i : Nat} {ds : List Int}
def within (p w : Sup) : Bool := p.all fun x => decide (x ∈ w)
theorem within_spec {p w : Sup} (hz : p.length ≤ SZ) : c_law_within [dv p, dv w] A = some (.bl (within p w), false, A) := by
  have hk : ∀ S, k_law_within_1 [some (dv p), some (dv w), none] S = some (.lst ((p.map fun x => decide (x ∈ w)).map D.bl), S) := fun S => by
    rw [List.map_map]
    refine lc_all (as := p) (g := dv) (f := fun x => .bl (decide (x ∈ w))) (chk := chkS (dv p) (p.map dv)) (by simp [dv, DV.d]) rfl hz fun v hv => ⟨_, rfl, rfl, ?_⟩
    have h := fun S => q_int (S := S) v w (by decide)
    simp [h]
  unfold c_law_within m_law_within
  rw [callsV]
  simp only [q_ret, q_bin, q_c, binK_, List.map_cons, List.map_nil, List.length_cons, List.length_nil, List.cons_append, List.nil_append]
  have e : List.replicate (3 - (0 + 1 + 1)) (none : Option D) = [none] := rfl
  rw [e, hk]
  simp only [binK2_, nin_bl, retK_, endK_r, V_out, end_self]
  congr 3
  unfold within
  rw [List.any_map, Bool.eq_iff_iff]
  simp
def thinF (ss : List Sup) (f : List Sup) (one : Sup) : List Sup := if one ∈ f ∨ ∃ o ∈ ss, o ≠ one ∧ within o one = true then f else f ++ [one]
def thin (ss : List Sup) : List Sup := (srt pS ss).foldl (thinF ss) []
def okS (s : Sup) : Prop := s.length ≤ SZ ∧ ∀ p ∈ s, okP p
theorem thin_k {ss : List Sup} {one : Sup} {e : D} (hs : ∀ s ∈ ss, okS s) (hz : ss.length ≤ SZ) (he : e = .lst (ss.map dv)) {S : Sto} {r : D} : k_law_thinned_1 [some e, some r, some (dv one), none] S = some (.lst ((ss.map fun o => !decide (o = one) && within o one).map D.bl), S) := by
  subst he
  rw [List.map_map]
  refine lc_all (as := ss) (g := dv) (f := fun o => .bl (!decide (o = one) && within o one)) (chk := chkS (.lst (ss.map dv)) (ss.map dv)) (by simp) rfl hz fun o ho => ⟨_, rfl, rfl, ?_⟩
  have h := fun S => q_ne (S := S) o one (by decide)
  have h2 := fun S => within_spec (A := S) (w := one) (hs o ho).1
  by_cases hoo : o = one
  · subst hoo
    simp [h]
  · simp [h, h2, hoo]
theorem thin_body {ss f : List Sup} {one : Sup} {e : D} (hs : ∀ s ∈ ss, okS s) (hz : ss.length ≤ SZ) (he : e = .lst (ss.map dv)) (hf : f.length < SZ) {A : Sto} : b_law_thinned_1 [some e, some (.ref A.length), some (dv one), none] (V A [.lst (f.map dv)]) = some (.nx, [some e, some (.ref A.length), some (dv one), none], V A [.lst ((thinF ss f one).map dv)]) := by
  have h1 := q_ninl (S := V A [.lst (f.map dv)]) one (e := .ref A.length) f (by decide) (by simp)
  have h2 := thin_k (one := one) hs hz he (S := V A [.lst (f.map dv)]) (r := .ref A.length)
  have h3 : ((ss.map fun o => !decide (o = one) && within o one).any fun b => b == true) = decide (∃ o ∈ ss, o ≠ one ∧ within o one = true) := by
    rw [List.any_map, Bool.eq_iff_iff, decide_eq_true_iff]
    simp
  unfold b_law_thinned_1 thinF
  by_cases a : one ∈ f
  · simp [h1, a]
  · by_cases b : ∃ o ∈ ss, o ≠ one ∧ within o one = true
    · simp only [b, decide_true] at h3
      have h4 : ∀ S, oNotIn (.bl true) (.lst ((ss.map fun o => !decide (o = one) && within o one).map D.bl)) S = some (.bl false, S) := fun S => by rw [nin_bl, h3]; rfl
      simp [-List.map_map, h1, a, h2, h4, b]
    · simp only [b, decide_false] at h3
      have h4 : ∀ S, oNotIn (.bl true) (.lst ((ss.map fun o => !decide (o = one) && within o one).map D.bl)) S = some (.bl true, S) := fun S => by rw [nin_bl, h3]; rfl
      simp [-List.map_map, h1, a, h2, h4, b, hf]
theorem thinF_len (ss f : List Sup) (x : Sup) : (thinF ss f x).length ≤ f.length + 1 := by
  unfold thinF
  split <;> simp
theorem thin_spec {ss : List Sup} {e : D} (hs : ∀ s ∈ ss, okS s) (hz : ss.length < SZ) (he : e = .lst (ss.map dv)) : c_law_thinned [e] A = some (dv (thin ss), false, A) := by
  have hsr : ∀ S, bSortK c_law_set_key e S = some (.lst ((srt pS ss).map dv), S) := fun S => bSortK_spec (kD := kS) (fun s h => ⟨false, setkey_spec (hs s h).1 (hs s h).2⟩) pyS alS (fun p => ⟨_, rfl⟩) (fun p => Nat.le_trans (dpS p) (by decide)) (Nat.le_of_lt hz) (by rw [he]; rfl)
  obtain ⟨o, h1, _⟩ := for_fold (it := iE (eSortK c_law_set_key (eVar 0))) (tg := HS.gN 2) (body := b_law_thinned_1) (S0 := V A [.lst []]) (as := srt pS ss) (g := dv) (b0 := []) (o0 := none) (chk := chkS (.lst ((srt pS ss).map dv)) ((srt pS ss).map dv)) (thinF ss) (fun f => V A [.lst (f.map dv)]) (fun o => [some e, some (.ref A.length), o, none]) (fun k f => f.length ≤ k)
    (by simp [hsr]) (fun _ => rfl) (fun _ _ => rfl) (Nat.le_refl _) (fun k s f hk hf => by
      have hk2 := (List.getElem?_eq_some_iff.mp hk).1
      rw [srt_len] at hk2
      exact ⟨thin_body hs (Nat.le_of_lt hz) he (by omega), Nat.le_trans (thinF_len _ _ _) (by omega)⟩)
  have h1' : l_law_thinned_1 [some e, some (.ref A.length), none, none] (V A [.lst []]) = _ := h1
  unfold c_law_thinned m_law_thinned
  rw [callsV]
  simp [h1']
  exact end_V (n := 4) (DV.hpl (thin ss)) (by decide)
end
end K93
namespace K93
open PySem L2 HS
section
variable {A E S : Sto} {i : Nat} {ds : List Int}
/-- pick of typed things -/
theorem pick_T {α : Type} [DV α] {row : D} {xs : List α} (hi : i < A.length) (hr : row = .lst (xs.map dv) ∨ row = .tup (xs.map dv)) (hx : xs ≠ []) : ∃ (x : α) (ds' : List Int), x ∈ xs ∧ c_law_pick [.ref i, row] (W A i ds E) = some (dv x, false, W A i ds' E) := by
  obtain ⟨k, y, ds', h1, h2⟩ := pick_W (A := A) (E := E) (ds := ds) (row := row) (xs := xs.map dv) hi hr (by simpa using hx)
  rw [List.getElem?_map] at h1
  obtain ⟨x, h3, rfl⟩ := Option.map_eq_some_iff.mp h1
  exact ⟨x, ds', List.mem_of_getElem? h3, h2⟩
def abc : Str := "abcdefghijklmnopqrstuvwxyz"
theorem abc_all : (List.range 26).all (fun k => match atI abc.cps.toList (k : Int) with | some c => decide (c < 1114112) | none => false) = true := by decide +kernel
theorem abc_at {k : Nat} (hk : k < 26) : ∃ c : Nat, oIx (.str abc) (.int k) S = some (.str ⟨#[c]⟩, S) ∧ c < 1114112 := by
  have h := List.all_eq_true.mp abc_all k (by simpa using hk)
  split at h
  · rename_i c hc
    refine ⟨c, ?_, by simpa using h⟩
    have hl : abc.length ≤ SZ := by decide +kernel
    show (if abc.length ≤ SZ then (atI abc.cps.toList (k : Int)).bind fun c => some (D.str ⟨#[c]⟩, S) else none) = _
    rw [if_pos hl, hc]; rfl
  · cases h
/-- joined letters -/
theorem strsOf_tx : ∀ ws : List Tx, strsOf (ws.map dv) = some (ws.map (·.1))
  | [] => rfl
  | w :: ws => by
    rw [List.map_cons]
    show (strsOf (ws.map dv)).map _ = _
    rw [strsOf_tx ws]; rfl
theorem strOk_app {a b : Str} (ha : PyData.strOk a = true) (hb : PyData.strOk b = true) : PyData.strOk (a ++ b) = true := by
  show (a.cps ++ b.cps).all _ = true
  rw [Array.all_append]
  unfold PyData.strOk at ha hb
  rw [ha, hb]; rfl
theorem strOk_join {y : Str} (hy : PyData.strOk y = true) : ∀ ws : List Tx, PyData.strOk (Str.join y (ws.map (·.1))) = true
  | [] => (by decide +kernel : PyData.strOk Str.empty = true)
  | [w] => w.2
  | w :: u :: r => by
    show PyData.strOk (w.1 ++ y ++ Str.join y ((u :: r).map (·.1))) = true
    exact strOk_app (strOk_app w.2 hy) (strOk_join hy (u :: r))
/-- joined with nothing between -/
def glue (ws : List Tx) : Tx := ⟨Txt.join "" (ws.map (·.1)), by
  rw [show Txt.join "" (ws.map (·.1)) = Str.join "" (ws.map (·.1)) from StrLaws.glued_eq_join _ _]
  exact strOk_join (by decide +kernel) ws⟩
theorem glue_len (ws : List Tx) : (glue ws).1.length = (ws.map (·.1.length)).sum := by
  show (Builtin.Str.glued "" (ws.map (·.1))).length = _
  rw [size_glued, List.map_map]
  have : ("" : Str).length = 0 := by decide
  rw [this]
  rfl
theorem sum_le {α : Type} {f : α → Nat} {b : Nat} : ∀ {l : List α}, (∀ x ∈ l, f x ≤ b) → (l.map f).sum ≤ l.length * b
  | [], _ => by simp
  | x :: l, h => by
    have := sum_le (l := l) fun y hy => h y (List.mem_cons_of_mem _ hy)
    have h2 := h x List.mem_cons_self
    rw [List.map_cons, List.sum_cons, List.length_cons, Nat.succ_mul]
    omega
theorem join_T {ws : List Tx} (hl : ∀ w ∈ ws, w.1.length ≤ 1) (hz : ws.length ≤ 1000) : mJoin (.str "") [.lst (ws.map dv)] S = some (dv (glue ws), S) := by
  show ((lstOf S (.lst (ws.map dv))).bind fun xs => (strsOf xs).bind fun zs => if (zs.map (·.length)).sum + zs.length * ("" : Str).length ≤ SZ then some (D.str (Txt.join "" zs), S) else none) = _
  rw [q_lo1, Option.bind_some, strsOf_tx, Option.bind_some, if_pos]
  · rfl
  · have : ("" : Str).length = 0 := by decide
    rw [this, List.map_map]
    have h := sum_le (f := fun w : Tx => w.1.length) hl
    have hz2 : (SZ : Nat) = 100000 := rfl
    show (ws.map fun w : Tx => w.1.length).sum + _ ≤ _
    omega
/-- so many z's -/
def zs (n : Nat) : Tx := ⟨repS "z" n, by
  unfold repS PyData.strOk
  rw [Array.all_eq_true_iff_forall_mem]
  intro x hx
  simp at hx
  obtain ⟨l, ⟨_, rfl⟩, h2⟩ := hx
  have : ("z" : Str).cps = #[122] := by decide
  rw [this] at h2
  have : x = 122 := by simpa using h2
  subst this
  decide⟩
theorem zs_len (n : Nat) : (zs n).1.length = n := by
  show ((List.replicate n ("z" : Str).cps.toList).flatten.toArray).size = n
  have : ("z" : Str).cps = #[122] := by decide
  rw [this]
  simp [List.length_flatten]
theorem mul_zs {n : Nat} (h1 : 2 ≤ n) (h2 : n ≤ 1000) : oMul (.str "z") (.int (n : Int)) S = some (dv (zs n), S) := by
  show (if 1 ≤ ("z" : Str).length ∧ ("z" : Str).length ≤ 1000 ∧ (2 : Int) ≤ (n : Int) ∧ (n : Int) ≤ 1000 then some (D.str (repS "z" (n : Int).toNat), S) else none) = _
  rw [if_pos ⟨by decide, by decide, by omega, by omega⟩, Int.toNat_natCast]
  rfl
def bad4 : List Tx := [⟨"pick", by decide +kernel⟩, ⟨"kept", by decide +kernel⟩, ⟨"used", by decide +kernel⟩, ⟨"maybe", by decide +kernel⟩]
theorem letters {η : HS.Env} {n : Nat} (hi : i < A.length) (hn : n ≤ 1000) (h0 : η[0]? = some (some (.ref i))) (h4 : η[4]? = some (some (.int n))) (hl : η.length = 8) : ∃ (ws : List Tx) (ds' : List Int), k_law_words_1 η (W A i ds E) = some (.lst (ws.map dv), W A i ds' E) ∧ ws.length = n ∧ ∀ w ∈ ws, w.1.length = 1 := by
  have hz2 : (SZ : Nat) = 100000 := rfl
  have hn2 : n ≤ SZ := by omega
  obtain ⟨ws, ds', h1, h2, h3⟩ := lc_T (A := A) (E := E) (i := i) (ds := ds) (η := η) (S0 := W A i ds E) (xs := rangeD 0 n) (chk := chkT) (it := iRange1 (aCons (eVar 4) aNil)) (vs := [6]) (tg := HS.gN 6) (tt := tYesE) (fe := eBin oIx (eC (.str "abcdefghijklmnopqrstuvwxyz")) (eCall c_law_take 2 (aCons (eVar 0) (aCons (eC (.int 26)) aNil)))) (fun w : Tx => w.1.length = 1) (by simp [h4, hn2]) (fun _ => trivial) (by simpa using hn2) (fun x hx ds => by
      refine ⟨_, rfl, rfl, ?_⟩
      obtain ⟨k, ds', h5, h6, h7⟩ := take_W (A := A) (E := E) (ds := ds) (m := 26) hi (by decide)
      obtain ⟨n, rfl⟩ := Int.eq_ofNat_of_zero_le h6
      obtain ⟨c, h8, h9⟩ := abc_at (S := W A i ds' E) (k := n) (by omega)
      refine ⟨⟨⟨#[c]⟩, by simp [PyData.strOk, h9]⟩, ds', ?_, rfl⟩
      have h0' : ((wipeE η [6]).set 6 (some x))[0]? = some (some (.ref i)) := by
        simp [h0]
      have h8' : oIx (.str "abcdefghijklmnopqrstuvwxyz") (.int n) (W A i ds' E) = some (.str ⟨#[c]⟩, W A i ds' E) := h8
      simp only [q_bin, q_c, binK_, q_call, q_acons, q_var, h0', varK_, consK_, q_anil, consK2_, callK_, List.length_cons, List.length_nil, h5, ansK_, binK2_, h8']
      rfl)
  exact ⟨ws, ds', h1, by simpa using h2, h3⟩
/-- max([4] + lengths) + 1 -/
theorem maxlen {xs : List Int} {b : Int} (h : ∀ x ∈ xs, x ≤ b) (hb : 4 ≤ b) : ∃ m : Int, bMax [.lst (.int 4 :: xs.map D.int)] S = some (.int m, S) ∧ 4 ≤ m ∧ m ≤ b := by
  refine ⟨mxI (4 :: xs), ?_, mxI_ge List.mem_cons_self, ?_⟩
  · show ((lstOf S (.lst (.int 4 :: xs.map D.int))).bind fun ys => (intsOf ys).bind fun is => (if is = [] then none else some (D.int (mxI is))).bind fun r => some (r, S)) = _
    have hi : intsOf (.int 4 :: xs.map D.int) = some (4 :: xs) := by
      have : ∀ l : List Int, intsOf (l.map D.int) = some l := fun l => by
        induction l with
        | nil => rfl
        | cons x l ih =>
          rw [List.map_cons]
          show (intsOf (l.map D.int)).map _ = _
          rw [ih]; rfl
      exact this (4 :: xs)
    rw [q_lo1, Option.bind_some, hi]
    rfl
  · have := mxI_mem (l := 4 :: xs) (by simp)
    rcases List.mem_cons.mp this with e | e
    · rw [e]; exact hb
    · exact h _ e
end
end K93
namespace K93
open PySem L2 HS
section
variable {A E S : Sto} {i : Nat} {ds : List Int}
abbrev mayT : Tx := ⟨"maybe", by decide +kernel⟩
theorem may_bad : mayT ∈ bad4 := by unfold bad4; simp
theorem zs_may (n : Nat) : zs n ≠ mayT := fun h => by
  have h1 := zs_len n
  rw [h] at h1
  have h2 : mayT.1.length = 5 := by decide +kernel
  rw [h2] at h1
  subst h1
  exact absurd h (by decide +kernel)
/-- a word of these is fit -/
def okW (b : Nat) (w : Tx) : Prop := w.1.length ≤ b ∧ w ≠ mayT
theorem words_k2 {ws : List Tx} {a0 a1 a3 a4 a5 : Option D} {b : Nat} (hz : ws.length ≤ 1000) (hb : ∀ w ∈ ws, okW b w) (hb2 : b ≤ SZ) : k_law_words_2 [a0, a1, some (.ref A.length), a3, a4, a5, none, none] (W A i ds [.lst (ws.map dv)]) = some (.lst ((ws.map fun w => (w.1.length : Int)).map D.int), W A i ds [.lst (ws.map dv)]) := by
  have hz2 : (SZ : Nat) = 100000 := rfl
  have h : k_law_words_2 [a0, a1, some (.ref A.length), a3, a4, a5, none, none] (W A i ds [.lst (ws.map dv)]) = some (.lst (ws.map fun w => .int (w.1.length : Int)), W A i ds [.lst (ws.map dv)]) := by
    refine lc_all (S := W A i ds [.lst (ws.map dv)]) (as := ws) (g := dv) (chk := chkS (.ref A.length) (ws.map dv)) (by simp) (by simp [chkS]) (by omega) fun w hw => ⟨_, rfl, rfl, ?_⟩
    have hw2 : w.1.length ≤ SZ := Nat.le_trans (hb w hw).1 hb2
    have e : (dv w : D) = .str w.1 := rfl
    simp [e, hw2]
  rw [List.map_map]
  exact h
theorem words_body {ws : List Tx} {many : D} {k : Nat} {a4 a5 : Option D} (hi : i < A.length) (hk : ws.length ≤ 100) (hb : ∀ w ∈ ws, okW (25 + ws.length) w) : ∃ (w : Tx) (ds' : List Int) (a4' : Option D), b_law_words_1 [some (.ref i), some many, some (.ref A.length), some (.int k), a4, a5, none, none] (W A i ds [.lst (ws.map dv)]) =
    some (.nx, [some (.ref i), some many, some (.ref A.length), some (.int k), a4', some (dv w), none, none], W A i ds' [.lst ((ws ++ [w]).map dv)]) ∧ okW (25 + (ws.length + 1)) w := by
  have hz2 : (SZ : Nat) = 100000 := rfl
  -- the size
  obtain ⟨t1, d1, h1, p1, q1⟩ := take_W (A := A) (E := [.lst (ws.map dv)]) (ds := ds) (m := 3) hi (by decide)
  obtain ⟨t2, d2, h2, p2, q2⟩ := take_W (A := A) (E := [.lst (ws.map dv)]) (ds := d1) (m := 9) hi (by decide)
  obtain ⟨sz, d3, h3, hsz⟩ : ∃ (sz : Nat) (d3 : List Int), sIf (HS.tB (eBin oEq (eCall c_law_take 2 (aCons (eVar 0) (aCons (eC (.int 9)) aNil))) (eC (.int 0)))) (sSet 4 (eBin oAdd (eBin oAdd (eVar 4) (eC (.int 3))) (eCall c_law_take 2 (aCons (eVar 0) (aCons (eC (.int 20)) aNil))))) sNil [some (.ref i), some many, some (.ref A.length), some (.int k), some (.int (1 + t1)), a5, none, none] (W A i d1 [.lst (ws.map dv)]) =
      some (.nx, [some (.ref i), some many, some (.ref A.length), some (.int k), some (.int sz), a5, none, none], W A i d3 [.lst (ws.map dv)]) ∧ sz ≤ 25 := by
    by_cases h0 : t2 = 0
    · obtain ⟨t3, d3, h3, p3, q3⟩ := take_W (A := A) (E := [.lst (ws.map dv)]) (ds := d2) (m := 20) hi (by decide)
      refine ⟨(1 + t1 + 3 + t3).toNat, d3, ?_, by omega⟩
      have e : ((1 + t1 + 3 + t3).toNat : Int) = 1 + t1 + 3 + t3 := by omega
      rw [e]
      simp [h2, h0, h3]
    · refine ⟨(1 + t1).toNat, d2, ?_, by omega⟩
      have e : ((1 + t1).toNat : Int) = 1 + t1 := by omega
      rw [e]
      simp [h2, h0]
  obtain ⟨ls, d4, h4, hl1, hl2⟩ := letters (A := A) (E := [.lst (ws.map dv)]) (ds := d3) (η := [some (.ref i), some many, some (.ref A.length), some (.int k), some (.int sz), a5, none, none]) (n := sz) hi (by omega) rfl rfl rfl
  have hj := join_T (S := W A i d4 [.lst (ws.map dv)]) (ws := ls) (fun w hw => Nat.le_of_eq (hl2 w hw)) (by omega)
  have hgl : (glue ls).1.length = sz := by
    rw [glue_len]
    have : ∀ l : List Tx, (∀ w ∈ l, w.1.length = 1) → (l.map (·.1.length)).sum = l.length := fun l => by
      induction l with
      | nil => intro _; rfl
      | cons w l ih =>
        intro h
        rw [List.map_cons, List.sum_cons, h w List.mem_cons_self, ih fun y hy => h y (List.mem_cons_of_mem _ hy), List.length_cons]
        omega
    rw [this ls hl2, hl1]
  have ht : ∀ S, isT "str" S (.str "") = true := fun S => q_it3
  have i1 := q_inl (S := W A i d4 [.lst (ws.map dv)]) (glue ls) (e := .ref A.length) ws (by decide) (by simp)
  have i2 : oIn (dv (glue ls)) (.lst [.str "pick", .str "kept", .str "used", .str "maybe"]) (W A i d4 [.lst (ws.map dv)]) = _ := q_inl (glue ls) bad4 (by decide) rfl
  have hk2 := words_k2 (A := A) (i := i) (ds := d4) (ws := ws) (a0 := some (.ref i)) (a1 := some many) (a3 := some (.int k)) (a4 := some (.int sz)) (a5 := some (dv (glue ls))) (by omega) hb (by omega)
  obtain ⟨m, hm1, hm2, hm3⟩ := maxlen (S := W A i d4 [.lst (ws.map dv)]) (xs := ws.map fun w => (w.1.length : Int)) (b := 25 + ws.length) (fun x hx => by
    obtain ⟨w, hw, rfl⟩ := List.mem_map.mp hx
    have := (hb w hw).1
    omega) (by omega)
  obtain ⟨M, rfl⟩ := Int.eq_ofNat_of_zero_le (show 0 ≤ m by omega)
  have hmul : oMul (.str "z") (.int (1 + (M : Int))) (W A i d4 [.lst (ws.map dv)]) = some (dv (zs (1 + M)), W A i d4 [.lst (ws.map dv)]) := by
    have := mul_zs (S := W A i d4 [.lst (ws.map dv)]) (n := 1 + M) (by omega) (by omega)
    rw [Int.natCast_add] at this
    exact this
  have hap : ws.length < SZ := by omega
  have hadd : oAdd (.lst [.int 4]) (.lst ((ws.map fun w => (w.1.length : Int)).map D.int)) (W A i d4 [.lst (ws.map dv)]) = some (.lst (.int 4 :: (ws.map fun w => (w.1.length : Int)).map D.int), W A i d4 [.lst (ws.map dv)]) := q_addl (by simp; omega)
  generalize (ws.map fun w => (w.1.length : Int)).map D.int = Ls at hk2 hadd hm1
  have e1 : sSet 4 (eBin oAdd (eC (.int 1)) (eCall c_law_take 2 (aCons (eVar 0) (aCons (eC (.int 3)) aNil)))) [some (.ref i), some many, some (.ref A.length), some (.int k), a4, a5, none, none] (W A i ds [.lst (ws.map dv)]) = some (.nx, [some (.ref i), some many, some (.ref A.length), some (.int k), some (.int (1 + t1)), a5, none, none], W A i d1 [.lst (ws.map dv)]) := by
    simp [h1]
  by_cases hin : glue ls ∈ ws ∨ glue ls ∈ bad4
  · refine ⟨zs (1 + M), d4, some (.int sz), ?_, by rw [zs_len]; omega, zs_may _⟩
    unfold b_law_words_1
    rw [q_seq, e1, seqK_n, q_seq, h3, seqK_n]
    rcases hin with hin | hin
    · simp [h4, hj, ht, i1, hin, hk2, hm1, hmul, hap, hadd]
    · by_cases hin2 : glue ls ∈ ws
      · simp [h4, hj, ht, i1, hin2, hk2, hm1, hmul, hap, hadd]
      · simp [h4, hj, ht, i1, i2, hin, hin2, hk2, hm1, hmul, hap, hadd]
  · refine ⟨glue ls, d4, some (.int sz), ?_, by rw [hgl]; omega, fun z => hin (.inr (by rw [z]; exact may_bad))⟩
    have n1 : glue ls ∉ ws := fun z => hin (.inl z)
    have n2 : glue ls ∉ bad4 := fun z => hin (.inr z)
    unfold b_law_words_1
    rw [q_seq, e1, seqK_n, q_seq, h3, seqK_n]
    simp [h4, hj, ht, i1, i2, n1, n2, hap]
end
end K93
namespace K93
open PySem L2 HS
section
variable {A E S : Sto} {i : Nat} {ds : List Int}
theorem words_S {many : Nat} (h : A[i]? = some (IL ds)) (hm : many ≤ 100) : ∃ (ws : List Tx) (ds' : List Int), c_law_words [.ref i, .int many] A = some (.lst (ws.map dv), true, A.set i (IL ds')) ∧ ws.length = many ∧ ∀ w ∈ ws, okW (25 + many) w := by
  have hz2 : (SZ : Nat) = 100000 := rfl
  have hm2 : many ≤ SZ := by omega
  have hi : i < A.length := (List.getElem?_eq_some_iff.mp h).1
  obtain ⟨η', S', h1, ws, ds', a3, a4, a5, rfl, rfl, h2, h3⟩ := for_ind (it := iRange1 (aCons (eVar 1) aNil)) (tg := HS.gN 3) (body := b_law_words_1) (η := [some (.ref i), some (.int many), some (.ref A.length), none, none, none, none, none]) (S := W A i ds [.lst []]) (S0 := W A i ds [.lst []]) (xs := rangeD 0 many) (chk := chkT)
    (fun k η S => ∃ (ws : List Tx) (ds' : List Int) (a3 a4 a5 : Option D), η = [some (.ref i), some (.int many), some (.ref A.length), a3, a4, a5, none, none] ∧ S = W A i ds' [.lst (ws.map dv)] ∧ ws.length = k ∧ ∀ w ∈ ws, okW (25 + k) w)
    (by simp [hm2]) ⟨[], ds, none, none, none, rfl, rfl, rfl, by simp⟩ (fun _ _ _ _ _ => trivial) (fun k x η S hx ⟨ws, ds', a3, a4, a5, h1, h2, h3, h4⟩ => by
      obtain ⟨hk, rfl⟩ := rangeD_get hx
      subst h1 h2 h3
      obtain ⟨w, d2, a4', h5, h6⟩ := words_body (A := A) (ds := ds') (many := .int many) (k := ws.length) (a4 := a4) (a5 := a5) (ws := ws) hi (by omega) h4
      refine ⟨_, _, _, rfl, .inl h5, ws ++ [w], d2, _, a4', _, rfl, rfl, by simp, fun u hu => ?_⟩
      rcases List.mem_append.mp hu with hu | hu
      · exact ⟨Nat.le_trans (h4 u hu).1 (by omega), (h4 u hu).2⟩
      · have : u = w := by simpa using hu
        subst this; exact h6)
  refine ⟨ws, ds', ?_, by simpa using h2, fun w hw => by simpa using h3 w hw⟩
  have h1' : l_law_words_1 [some (.ref i), some (.int many), some (.ref A.length), none, none, none, none, none] (W A i ds [.lst []]) = _ := h1
  unfold c_law_words m_law_words
  rw [callsW h]
  simp [h1']
  exact end_Wr0 (pl_map (α := Tx))
theorem words_W {many : Nat} (hi : i < A.length) (hm : many ≤ 100) : ∃ (ws : List Tx) (ds' : List Int), c_law_words [.ref i, .int many] (W A i ds E) = some (.lst (ws.map dv), true, W A i ds' E) ∧ ws.length = many ∧ ∀ w ∈ ws, okW (25 + many) w := by
  obtain ⟨ws, ds', h, h2⟩ := words_S (A := W A i ds E) (W_i hi) hm
  rw [W_si hi] at h
  exact ⟨ws, ds', h, h2⟩
theorem value_W {ws : List Tx} (hi : i < A.length) (hw : ws ≠ []) : ∃ (v : Val) (ds' : List Int), c_law_value [.ref i, .lst (ws.map dv)] (W A i ds E) = some (dv v, false, W A i ds' E) := by
  obtain ⟨t1, d1, h1, p1, q1⟩ := take_W (A := A) (E := E) (ds := ds) (m := 6) hi (by decide)
  by_cases e0 : t1 = 0
  · obtain ⟨w, d2, h2, h3⟩ := pick_T (A := A) (E := E) (ds := d1) (row := .lst (ws.map dv)) hi (.inl rfl) hw
    refine ⟨.txt w, d2, ?_⟩
    unfold c_law_value m_law_value
    rw [q_calls]
    simp [h1, e0, h3]
    exact end_len (by simp)
  · by_cases e1 : t1 = 1
    · obtain ⟨t2, d2, h2, p2, q2⟩ := take_W (A := A) (E := E) (ds := d1) (m := 900) hi (by decide)
      have e15 : ∀ S, oPow (.int 10) (.int 15) S = some (.int (10 ^ 15), S) := fun S => q_pow (by decide)
      have e40 : ∀ S, oPow (.int 10) (.int 40) S = some (.int (10 ^ 40), S) := fun S => q_pow (by decide)
      generalize (10 : Int) ^ 15 = B at e15
      generalize (10 : Int) ^ 40 = C at e40
      obtain ⟨w, d3, h4, h3⟩ := pick_T (α := Int) (A := A) (E := E) (ds := d2) (row := .lst [.int 1, .int 1000003, .int (B + 37), .int (C + 121)]) (xs := [1, 1000003, B + 37, C + 121]) hi (.inl rfl) (by simp)
      have hs : smallI (t2 - 450) = true := by
        unfold smallI
        rw [Bool.and_eq_true, decide_eq_true_eq, decide_eq_true_eq]
        have a : (2 ^ 64 : Int) = 18446744073709551616 := by decide
        rw [a]
        omega
      have hm := fun S => q_mul (S := S) (a := t2 - 450) (b := w) (.inl hs)
      have e : (dv w : D) = .int w := rfl
      rw [e] at h3
      refine ⟨.num ((t2 - 450) * w), d3, ?_⟩
      unfold c_law_value m_law_value
      rw [q_calls]
      simp [h1, e0, e1, h2, h3, e15, e40, hm]
      exact end_len (by simp)
    · obtain ⟨t2, d2, h2, p2, q2⟩ := take_W (A := A) (E := E) (ds := d1) (m := 9) hi (by decide)
      refine ⟨.num (t2 - 3), d2, ?_⟩
      unfold c_law_value m_law_value
      rw [q_calls]
      simp [h1, e0, e1, h2]
      exact end_len (by simp)
end
end K93
namespace K93
open PySem L2 HS
section
variable {A E S : Sto} {i : Nat} {ds : List Int}
theorem cut_to {α : Type} {xs : List α} {n : Nat} : cutL xs none (some (n : Int)) = xs.take n := by
  unfold cutL
  rw [HT.sIx_none, HT.sIx_nat, List.drop_zero, Nat.sub_zero]
  by_cases h : n ≤ xs.length
  · rw [Nat.min_eq_left h]
  · rw [Nat.min_eq_right (by omega), List.take_of_length_le (Nat.le_refl _), List.take_of_length_le (by omega)]
/-- a piece with a name that is not too long -/
def okPc (b : Nat) (p : Piece) : Prop := p.2.length ≤ 4 ∧ okW b p.1
theorem row_W {ws : List Tx} {a1 a3 a4 a5 a6 : Option D} (hi : i < A.length) (hw : ws ≠ []) : ∃ (r : Row) (ds' : List Int), k_law_pieces_1 [some (.ref i), a1, some (.lst (ws.map dv)), a3, a4, a5, a6, none] (W A i ds E) = some (.lst (r.map dv), W A i ds' E) ∧ r.length ≤ 4 := by
  have hz2 : (SZ : Nat) = 100000 := rfl
  obtain ⟨n, d1, h1, h2⟩ := pick_T (α := Int) (A := A) (E := E) (ds := ds) (row := .lst [.int 0, .int 1, .int 0, .int 1, .int 2, .int 3, .int 4]) (xs := [0, 1, 0, 1, 2, 3, 4]) hi (.inl rfl) (by simp)
  have hn : 0 ≤ n ∧ n ≤ 4 := by
    simp at h1
    omega
  obtain ⟨m, rfl⟩ := Int.eq_ofNat_of_zero_le hn.1
  have e : (dv (m : Int) : D) = .int m := rfl
  rw [e] at h2
  have hm : m ≤ SZ := by omega
  obtain ⟨r, d2, h3, h4, h5⟩ := lc_T (α := Val) (A := A) (E := E) (i := i) (ds := d1) (η := [some (.ref i), a1, some (.lst (ws.map dv)), a3, a4, a5, a6, none]) (S0 := W A i ds E) (xs := rangeD 0 m) (chk := chkT) (it := iRange1 (aCons (eCall c_law_pick 2 (aCons (eVar 0) (aCons (eLst (aCons (eC (.int 0)) (aCons (eC (.int 1)) (aCons (eC (.int 0)) (aCons (eC (.int 1)) (aCons (eC (.int 2)) (aCons (eC (.int 3)) (aCons (eC (.int 4)) aNil)))))))) aNil))) aNil)) (vs := [7]) (tg := HS.gN 7) (tt := tYesE) (fe := eCall c_law_value 2 (aCons (eVar 0) (aCons (eVar 2) aNil))) (fun _ => True)
    (by simp [h2, hm]) (fun _ => trivial) (by simpa using hm) (fun x hx ds => by
      obtain ⟨v, d', hv⟩ := value_W (A := A) (E := E) (ds := ds) hi hw
      refine ⟨_, rfl, rfl, v, d', ?_, trivial⟩
      simp [hv])
  exact ⟨r, d2, h3, by rw [h4]; simp; omega⟩
theorem pieces_body {ws : List Tx} {f : List Piece} {many : D} {k : Nat} {a5 a6 : Option D} (hi : i < A.length) (hw : ws.length = 4) (hb : ∀ w ∈ ws, okW 29 w) (hf : f.length < SZ) (hk : f.length = k) (hz : ∀ p ∈ f, okPc 29 p ∨ ∃ j : Nat, j < k ∧ p = (zs 40, [.num j])) : ∃ (p : Piece) (ds' : List Int) (a5' : Option D), b_law_pieces_1 [some (.ref i), some many, some (.lst (ws.map dv)), some (.ref A.length), some (.int k), a5, a6, none] (W A i ds [.lst (f.map dv)]) =
    some (.nx, [some (.ref i), some many, some (.lst (ws.map dv)), some (.ref A.length), some (.int k), a5', some (dv p), none], W A i ds' [.lst ((f ++ [p]).map dv)]) ∧ (okPc 29 p ∨ p = (zs 40, [.num k])) ∧ p ∉ f := by
  obtain ⟨r, d1, h1, h2⟩ := row_W (A := A) (E := [.lst (f.map dv)]) (ds := ds) (ws := ws) (a1 := some many) (a3 := some (.ref A.length)) (a4 := some (.int k)) (a5 := a5) (a6 := a6) hi (by intro z; simp [z] at hw)
  obtain ⟨w, d2, h3, h4⟩ := pick_T (A := A) (E := [.lst (f.map dv)]) (ds := d1) (row := .lst ((ws.take 3).map dv)) (xs := ws.take 3) hi (.inl rfl) (by intro z; have := congrArg List.length z; simp [hw] at this)
  have hcut : ∀ S, slD S (.lst (ws.map dv)) none (some 3) = some (.lst ((ws.take 3).map dv)) := fun S => by
    show (lstOf S (.lst (ws.map dv))).bind (fun xs => some (D.lst (cutL xs none (some 3)))) = _
    rw [q_lo1, Option.bind_some]
    have := cut_to (xs := ws.map dv) (n := 3)
    rw [show ((3 : Nat) : Int) = 3 from rfl] at this
    rw [this, List.map_take]
  generalize (ws.take 3).map dv = T3 at h4 hcut
  have e : (.tup [dv w, .tup (r.map dv)] : D) = dv (w, r) := rfl
  have hin := q_inl (S := W A i d2 [.lst (f.map dv)]) (w, r) (e := .ref A.length) f (by decide) (by simp)
  have hmz : ∀ S, oMul (.str "z") (.int 40) S = some (dv (zs 40), S) := fun S => mul_zs (n := 40) (by omega) (by omega)
  have e2 : (.tup [dv (zs 40), .tup [.int k]] : D) = dv (zs 40, [Val.num k]) := rfl
  by_cases hp : (w, r) ∈ f
  · refine ⟨(zs 40, [.num k]), d2, some (.tup (r.map dv)), ?_, .inr rfl, fun z => ?_⟩
    · unfold b_law_pieces_1
      simp [h1, hcut, h4, e, hin, hp, hmz, e2, hf]
    · rcases hz _ z with q | ⟨j, q1, q2⟩
      · have : (zs 40).1.length ≤ 29 := q.2.1
        rw [zs_len] at this
        omega
      · have := (Prod.ext_iff.mp q2).2
        simp at this
        omega
  · refine ⟨(w, r), d2, some (.tup (r.map dv)), ?_, .inl ⟨h2, hb w (List.mem_of_mem_take h3)⟩, hp⟩
    unfold b_law_pieces_1
    simp [h1, hcut, h4, e, hin, hp, hf]
theorem srt_nodup {ps : List Piece} (h : ps.Nodup) : (srt pP ps).Nodup := srt_perm.nodup_iff.mpr h
theorem setP_nodup {ps : List Piece} (h : ps.Nodup) : setP ps = srt pP ps := dd_nodup (srt_nodup h)
theorem mem_setP {ps : List Piece} {p : Piece} : p ∈ setP ps ↔ p ∈ ps := by
  unfold setP
  rw [mem_dd]
  exact srt_perm.mem_iff
theorem len_setP {ps : List Piece} : (setP ps).length ≤ ps.length := by
  have := len_dd (xs := srt pP ps)
  rw [srt_len] at this
  exact this
theorem pieces_S {many : Nat} (h : A[i]? = some (IL ds)) (hm : many ≤ 100) : ∃ (ps : Sup) (ds' : List Int), c_law_pieces [.ref i, .int many] A = some (dv ps, false, A.set i (IL ds')) ∧ ps.Nodup ∧ ps.length = many ∧ (∀ p ∈ ps, p.2.length ≤ 4) ∧ (∀ p ∈ ps, p.1 ≠ mayT) ∧ ∃ l, ps = setP l := by
  have hz2 : (SZ : Nat) = 100000 := rfl
  have hm2 : many ≤ SZ := by omega
  have hi : i < A.length := (List.getElem?_eq_some_iff.mp h).1
  obtain ⟨ws, d0, hw, hw1, hw2⟩ := words_W (A := A) (E := []) (ds := ds) (many := 4) hi (by omega)
  have hw' : c_law_words [.ref i, .int 4] (W A i ds []) = some (.lst (ws.map dv), true, W A i d0 []) := hw
  obtain ⟨η', S', h1, f, ds', a4, a5, a6, rfl, rfl, h2, h3, h4⟩ := for_ind (it := iRange1 (aCons (eVar 1) aNil)) (tg := HS.gN 4) (body := b_law_pieces_1) (η := [some (.ref i), some (.int many), some (.lst (ws.map dv)), some (.ref A.length), none, none, none, none]) (S := W A i d0 [.lst []]) (S0 := W A i d0 [.lst []]) (xs := rangeD 0 many) (chk := chkT)
    (fun k η S => ∃ (f : List Piece) (ds' : List Int) (a4 a5 a6 : Option D), η = [some (.ref i), some (.int many), some (.lst (ws.map dv)), some (.ref A.length), a4, a5, a6, none] ∧ S = W A i ds' [.lst (f.map dv)] ∧ f.length = k ∧ (∀ p ∈ f, okPc 29 p ∨ ∃ j : Nat, j < k ∧ p = (zs 40, [.num j])) ∧ f.Nodup)
    (by simp [hm2]) ⟨[], d0, none, none, none, rfl, rfl, rfl, by simp, List.nodup_nil⟩ (fun _ _ _ _ _ => trivial) (fun k x η S hx ⟨f, ds', a4, a5, a6, h1, h2, h3, h4, h5⟩ => by
      obtain ⟨hk, rfl⟩ := rangeD_get hx
      subst h1 h2
      obtain ⟨p, d2, a5', h6, h7, h8⟩ := pieces_body (A := A) (ds := ds') (many := .int many) (k := k) (a5 := a5) (a6 := a6) (ws := ws) (f := f) hi hw1 hw2 (by omega) h3 h4
      refine ⟨_, _, _, rfl, .inl h6, f ++ [p], d2, _, a5', _, rfl, rfl, by simp [h3], fun u hu => ?_, ?_⟩
      · rcases List.mem_append.mp hu with hu | hu
        · rcases h4 u hu with q | ⟨j, q1, q2⟩
          · exact .inl q
          · exact .inr ⟨j, by omega, q2⟩
        · have : u = p := by simpa using hu
          subst this
          rcases h7 with q | q
          · exact .inl q
          · exact .inr ⟨k, by omega, q⟩
      · rw [List.nodup_append]
        refine ⟨h5, by simp, fun a ha b hb => ?_⟩
        have : b = p := by simpa using hb
        subst this
        rintro rfl
        exact h8 ha)
  have hlen : f.length = many := by simpa using h2
  have hrow : ∀ p ∈ f, p.2.length ≤ 4 := fun p hp => by
    rcases h3 p hp with q | ⟨j, _, q⟩
    · exact q.1
    · rw [q]; simp
  have hnm : ∀ p ∈ f, p.1 ≠ mayT := fun p hp => by
    rcases h3 p hp with q | ⟨j, _, q⟩
    · exact q.2.2
    · rw [q]; exact zs_may 40
  have hset := set_spec (A := W A i ds' [.lst (f.map dv)]) (e := .ref A.length) (ps := f) (fun p hp => Nat.le_trans (hrow p hp) (by omega)) (by omega) (by simp)
  refine ⟨setP f, ds', ?_, by rw [setP_nodup h4]; exact srt_nodup h4, by rw [setP_nodup h4, srt_len]; exact hlen, fun p hp => hrow p (mem_setP.mp hp), fun p hp => hnm p (mem_setP.mp hp), f, rfl⟩
  have h1' : l_law_pieces_1 [some (.ref i), some (.int many), some (.lst (ws.map dv)), some (.ref A.length), none, none, none, none] (W A i d0 [.lst []]) = _ := h1
  unfold c_law_pieces m_law_pieces
  rw [callsW h]
  simp [hw', h1', hset]
  exact end_W (n := 3) (DV.hpl (setP f)) (by decide)
theorem pieces_W {many : Nat} (hi : i < A.length) (hm : many ≤ 100) : ∃ (ps : Sup) (ds' : List Int), c_law_pieces [.ref i, .int many] (W A i ds E) = some (dv ps, false, W A i ds' E) ∧ ps.Nodup ∧ ps.length = many ∧ (∀ p ∈ ps, p.2.length ≤ 4) ∧ (∀ p ∈ ps, p.1 ≠ mayT) ∧ ∃ l, ps = setP l := by
  obtain ⟨ps, ds', h, h2⟩ := pieces_S (A := W A i ds E) (W_i hi) hm
  rw [W_si hi] at h
  exact ⟨ps, ds', h, h2⟩
/-- pieces of the law -/
structure gW (P : Sup) : Prop where
  nd : P.Nodup
  s : setP P = P
  r : ∀ p ∈ P, p.2.length ≤ 4
  nm : ∀ p ∈ P, p.1 ≠ mayT
end
end K93
namespace K93
open PySem L2 HS
section
variable {A E S : Sto} {i : Nat} {ds : List Int}
theorem perm_erase {α : Type} : ∀ {l : List α} {k : Nat} {x : α}, l[k]? = some x → (x :: l.eraseIdx k).Perm l
  | [], k, x, h => by simp at h
  | a :: l, 0, x, h => by
    simp at h
    subst h
    exact List.Perm.refl _
  | a :: l, k + 1, x, h => by
    rw [List.eraseIdx_cons_succ]
    exact (List.Perm.swap a x _).trans (List.Perm.cons a (perm_erase (l := l) (by simpa using h)))
theorem map_erase {α β : Type} (f : α → β) : ∀ (l : List α) (k : Nat), (l.map f).eraseIdx k = (l.eraseIdx k).map f
  | [], k => rfl
  | a :: l, 0 => rfl
  | a :: l, k + 1 => by rw [List.map_cons, List.eraseIdx_cons_succ, List.eraseIdx_cons_succ, List.map_cons, map_erase f l k]
theorem shuf_body {α : Type} [DV α] {l f : List α} {row : D} {k : D} (hi : i < A.length) (hl : l ≠ []) (hz : l.length ≤ SZ) (hf : f.length < SZ) : ∃ (x : α) (l' : List α) (ds' : List Int), b_law_shuffled_1 [some (.ref i), some row, some (.ref A.length), some (.ref (A.length + 1)), some k] (W A i ds [.lst (l.map dv), .lst (f.map dv)]) =
    some (.nx, [some (.ref i), some row, some (.ref A.length), some (.ref (A.length + 1)), some k], W A i ds' [.lst (l'.map dv), .lst ((f ++ [x]).map dv)]) ∧ (x :: l').Perm l := by
  have hl0 := List.length_pos_iff.mpr hl
  obtain ⟨t, d1, h1, p1, q1⟩ := take_W (A := A) (E := [.lst (l.map dv), .lst (f.map dv)]) (ds := ds) (m := (l.length : Int)) hi (by omega)
  obtain ⟨n, rfl⟩ := Int.eq_ofNat_of_zero_le p1
  have hn : n < l.length := by omega
  have hx : l[n]? = some l[n] := List.getElem?_eq_getElem hn
  have hp := paK_ (S := W A i d1 [.lst (l.map dv), .lst (f.map dv)]) (i := A.length) (xs := l.map dv) (y := dv l[n]) (k := n) (by rw [List.getElem?_map, hx]; rfl) (by omega)
  refine ⟨l[n], l.eraseIdx n, d1, ?_, perm_erase hx⟩
  unfold b_law_shuffled_1
  generalize l[n] = y at *
  simp [h1, hp, hf]
  rw [map_erase]
theorem shuf_S {α : Type} [DV α] {row : D} {xs : List α} (h : A[i]? = some (IL ds)) (hr : row = .lst (xs.map dv) ∨ row = .tup (xs.map dv)) (hz : xs.length < SZ) : ∃ (ys : List α) (ds' : List Int), c_law_shuffled [.ref i, row] A = some (.lst (ys.map dv), true, A.set i (IL ds')) ∧ ys.Perm xs := by
  have hi : i < A.length := (List.getElem?_eq_some_iff.mp h).1
  have hlen : ∀ S, bLen [row] S = some (.int xs.length, S) := fun S => by rcases hr with rfl | rfl <;> simp
  have hlist : ∀ S, bList [row] S = some (.lst (xs.map dv), S) := fun S => by rcases hr with rfl | rfl <;> simp
  obtain ⟨η', S', h1, l, f, ds', k, rfl, rfl, h2, h3⟩ := for_ind (it := iRange1 (aCons (eB bLen (aCons (eVar 1) aNil)) aNil)) (tg := HS.gN 4) (body := b_law_shuffled_1) (η := [some (.ref i), some row, some (.ref A.length), some (.ref (A.length + 1)), none]) (S := W A i ds [.lst (xs.map dv), .lst []]) (S0 := W A i ds [.lst (xs.map dv), .lst []]) (xs := rangeD 0 xs.length) (chk := chkT)
    (fun k η S => ∃ (l f : List α) (ds' : List Int) (a : Option D), η = [some (.ref i), some row, some (.ref A.length), some (.ref (A.length + 1)), a] ∧ S = W A i ds' [.lst (l.map dv), .lst (f.map dv)] ∧ f.length = k ∧ (f ++ l).Perm xs)
    (by simp [hlen, Nat.le_of_lt hz]) ⟨xs, [], ds, none, rfl, rfl, rfl, by simp⟩ (fun _ _ _ _ _ => trivial) (fun k x η S hx ⟨l, f, ds', a, h1, h2, h3, h4⟩ => by
      obtain ⟨hk, rfl⟩ := rangeD_get hx
      subst h1 h2
      have hll := h4.length_eq
      rw [List.length_append] at hll
      obtain ⟨y, l', d2, h6, h7⟩ := shuf_body (A := A) (ds := ds') (l := l) (f := f) (row := row) (k := .int k) hi (by rintro rfl; simp at hll; omega) (by omega) (by omega)
      refine ⟨_, _, _, rfl, .inl h6, l', f ++ [y], d2, _, rfl, rfl, by simp [h3], ?_⟩
      rw [List.append_assoc]
      exact (List.Perm.append_left f h7).trans h4)
  have hf : f.length = xs.length := by simpa using h2
  have hl : l = [] := by
    have := h3.length_eq
    rw [List.length_append] at this
    exact List.length_eq_zero_iff.mp (by omega)
  subst hl
  rw [List.append_nil] at h3
  refine ⟨f, ds', ?_, h3⟩
  have h1' : l_law_shuffled_1 [some (.ref i), some row, some (.ref A.length), some (.ref (A.length + 1)), none] (W A i ds [.lst (xs.map dv), .lst []]) = _ := h1
  unfold c_law_shuffled m_law_shuffled
  rw [callsW h]
  simp [hlist, h1']
  exact end_Wr1 (pl_map (α := α))
theorem shuf_W {α : Type} [DV α] {row : D} {xs : List α} (hi : i < A.length) (hr : row = .lst (xs.map dv) ∨ row = .tup (xs.map dv)) (hz : xs.length < SZ) : ∃ (ys : List α) (ds' : List Int), c_law_shuffled [.ref i, row] (W A i ds E) = some (.lst (ys.map dv), true, W A i ds' E) ∧ ys.Perm xs := by
  obtain ⟨ys, ds', h, h2⟩ := shuf_S (A := W A i ds E) (W_i hi) hr hz
  rw [W_si hi] at h
  exact ⟨ys, ds', h, h2⟩
theorem sup_k {ps : Sup} {n : Nat} (hi : i < A.length) (hp : ps ≠ []) (hn : n ≤ 100) : ∃ (l : List Piece) (ds' : List Int), k_law_support_1 [some (.ref i), some (dv ps), some (.int n), none] (W A i ds E) = some (.lst (l.map dv), W A i ds' E) ∧ l.length = n ∧ ∀ p ∈ l, p ∈ ps := by
  have hz2 : (SZ : Nat) = 100000 := rfl
  have hn2 : n ≤ SZ := by omega
  obtain ⟨l, d2, h3, h4, h5⟩ := lc_T (α := Piece) (A := A) (E := E) (i := i) (ds := ds) (η := [some (.ref i), some (dv ps), some (.int n), none]) (S0 := W A i ds E) (xs := rangeD 0 n) (chk := chkT) (it := iRange1 (aCons (eVar 2) aNil)) (vs := [3]) (tg := HS.gN 3) (tt := tYesE) (fe := eCall c_law_pick 2 (aCons (eVar 0) (aCons (eVar 1) aNil))) (fun p => p ∈ ps)
    (by simp [hn2]) (fun _ => trivial) (by simpa using hn2) (fun x hx ds => by
      obtain ⟨p, d', h1, h2⟩ := pick_T (α := Piece) (A := A) (E := E) (ds := ds) (row := dv ps) (xs := ps) hi (.inr rfl) hp
      exact ⟨_, rfl, rfl, p, d', by simp [h2], h1⟩)
  exact ⟨l, d2, h3, by simpa using h4, h5⟩
/-- a support as the law draws it -/
def okSup (ps : Sup) (s : Sup) : Prop := ∃ l : List Piece, s = setP l ∧ l.length ≤ 5 ∧ ∀ p ∈ l, p ∈ ps
theorem support_W {ps : Sup} (hi : i < A.length) (hp : ps ≠ []) (hr : ∀ p ∈ ps, p.2.length ≤ 4) : ∃ (s : Sup) (ds' : List Int), c_law_support [.ref i, dv ps] (W A i ds E) = some (dv s, false, W A i ds' E) ∧ okSup ps s := by
  have hz2 : (SZ : Nat) = 100000 := rfl
  obtain ⟨n, d1, h1, h2⟩ := pick_T (α := Int) (A := A) (E := E) (ds := ds) (row := .lst [.int 1, .int 1, .int 2, .int 1, .int 2, .int 1, .int 3, .int 1, .int 2, .int 1, .int 2, .int 1, .int 3, .int 1, .int 5, .int 0]) (xs := [1, 1, 2, 1, 2, 1, 3, 1, 2, 1, 2, 1, 3, 1, 5, 0]) hi (.inl rfl) (by simp)
  have hn : 0 ≤ n ∧ n ≤ 5 := by
    simp at h1
    omega
  obtain ⟨m, rfl⟩ := Int.eq_ofNat_of_zero_le hn.1
  have e : (dv (m : Int) : D) = .int m := rfl
  rw [e] at h2
  obtain ⟨l, d2, h3, h4, h5⟩ := sup_k (A := A) (E := E) (ds := d1) (ps := ps) (n := m) hi hp (by omega)
  have hs := set_spec (A := W A i d2 E) (e := .lst (l.map dv)) (ps := l) (fun p h => Nat.le_trans (hr p (h5 p h)) (by omega)) (by omega) rfl
  refine ⟨setP l, d2, ?_, l, rfl, by omega, h5⟩
  unfold c_law_support m_law_support
  rw [q_calls]
  simp [h2, h3, hs]
  exact end_len (by simp)
def okRaw (ps : Sup) (a : Sup × Piece) : Prop := okSup ps a.1 ∧ a.2 ∈ ps
theorem raw_S {ps : Sup} {most : Nat} (h : A[i]? = some (IL ds)) (hr : ∀ p ∈ ps, p.2.length ≤ 4) (hz : ps.length ≤ 100) (hm : most ≤ 100) : ∃ (rs : List (Sup × Piece)) (ds' : List Int), c_law_raw [.ref i, dv ps, .int most] A = some (.lst (rs.map dv), true, A.set i (IL ds')) ∧ rs.length ≤ most ∧ ∀ a ∈ rs, okRaw ps a := by
  have hz2 : (SZ : Nat) = 100000 := rfl
  have hi : i < A.length := (List.getElem?_eq_some_iff.mp h).1
  obtain ⟨t, d1, h1, p1, q1⟩ := take_W (A := A) (E := [.lst []]) (ds := ds) (m := (most : Int) + 1) hi (by omega)
  have hlen : ∀ S, bLen [dv ps] S = some (.int ps.length, S) := fun S => by
    have : (dv ps : D) = .tup (ps.map dv) := rfl
    rw [this]
    simp
  obtain ⟨n, hn1, hn2, hn3⟩ : ∃ n : Nat, n ≤ most ∧ (0 < n → ps ≠ []) ∧ oMul (.int t) (.int (if (0 : Int) < (ps.length : Int) then 1 else 0)) (W A i d1 [.lst []]) = some (.int n, W A i d1 [.lst []]) := by
    by_cases hp : ps = []
    · subst hp
      refine ⟨0, Nat.zero_le _, fun z => absurd z (Nat.lt_irrefl _), ?_⟩
      rw [if_neg (by simp), q_mul (.inr (by decide)), Int.mul_zero]
      rfl
    · have := List.length_pos_iff.mpr hp
      refine ⟨t.toNat, by omega, fun _ => hp, ?_⟩
      rw [if_pos (by omega), q_mul (.inr (by decide)), Int.mul_one, Int.toNat_of_nonneg p1]
  have hn4 : n ≤ SZ := by omega
  have hmul : ∀ b : Bool, b = decide ((0 : Int) < (ps.length : Int)) → oMul (.int t) (.int (if b = true then 1 else 0)) (W A i d1 [.lst []]) = some (.int n, W A i d1 [.lst []]) := fun b hb => by
    subst hb
    simpa using hn3
  have hcmp := hmul _ rfl
  generalize hB : decide ((0 : Int) < (ps.length : Int)) = B at hcmp
  have hgt : ∀ S, oGt (.int (ps.length : Int)) (.int 0) S = some (.bl B, S) := fun S => by rw [q_gt2, hB]
  obtain ⟨η', S', h2, rs, ds', a4, rfl, rfl, h3, h4⟩ := for_ind (it := iRange1 (aCons (eBin oMul (eCall c_law_take 2 (aCons (eVar 0) (aCons (eBin oAdd (eVar 2) (eC (.int 1))) aNil))) (eB bInt (aCons (eBin oGt (eB bLen (aCons (eVar 1) aNil)) (eC (.int 0))) aNil))) aNil)) (tg := HS.gN 4) (body := b_law_raw_1) (η := [some (.ref i), some (dv ps), some (.int most), some (.ref A.length), none]) (S := W A i d1 [.lst []]) (S0 := W A i ds [.lst []]) (xs := rangeD 0 n) (chk := chkT)
    (fun k η S => ∃ (rs : List (Sup × Piece)) (ds' : List Int) (a : Option D), η = [some (.ref i), some (dv ps), some (.int most), some (.ref A.length), a] ∧ S = W A i ds' [.lst (rs.map dv)] ∧ rs.length = k ∧ ∀ a ∈ rs, okRaw ps a)
    (by simp [h1, hlen, hgt, hcmp, hn4, -q_gt2]) ⟨[], d1, none, rfl, rfl, rfl, by simp⟩ (fun _ _ _ _ _ => trivial) (fun k x η S hx ⟨rs, ds', a, h1, h2, h3, h4⟩ => by
      obtain ⟨hk, rfl⟩ := rangeD_get hx
      subst h1 h2
      obtain ⟨s, d2, h5, h6⟩ := support_W (A := A) (E := [.lst (rs.map dv)]) (ds := ds') (ps := ps) hi (hn2 (by omega)) hr
      obtain ⟨p, d3, h7, h8⟩ := pick_T (α := Piece) (A := A) (E := [.lst (rs.map dv)]) (ds := d2) (row := dv ps) (xs := ps) hi (.inr rfl) (hn2 (by omega))
      have hlt : rs.length < SZ := by omega
      refine ⟨_, _, _, rfl, .inl (by unfold b_law_raw_1; simp [h5, h8, hlt]; exact ⟨rfl, rfl⟩), rs ++ [(s, p)], d3, _, rfl, by rw [List.map_append]; rfl, by simp [h3], fun u hu => ?_⟩
      rcases List.mem_append.mp hu with hu | hu
      · exact h4 u hu
      · have : u = (s, p) := by simpa using hu
        subst this; exact ⟨h6, h7⟩)
  refine ⟨rs, ds', ?_, by rw [h3]; simpa using hn1, h4⟩
  have h2' : l_law_raw_1 [some (.ref i), some (dv ps), some (.int most), some (.ref A.length), none] (W A i ds [.lst []]) = _ := h2
  unfold c_law_raw m_law_raw
  rw [callsW h]
  simp [h2']
  exact end_Wr0 (pl_map (α := Sup × Piece))
theorem raw_W {ps : Sup} {most : Nat} (hi : i < A.length) (hr : ∀ p ∈ ps, p.2.length ≤ 4) (hz : ps.length ≤ 100) (hm : most ≤ 100) : ∃ (rs : List (Sup × Piece)) (ds' : List Int), c_law_raw [.ref i, dv ps, .int most] (W A i ds E) = some (.lst (rs.map dv), true, W A i ds' E) ∧ rs.length ≤ most ∧ ∀ a ∈ rs, okRaw ps a := by
  obtain ⟨ys, ds', h, h2⟩ := raw_S (A := W A i ds E) (W_i hi) hr hz hm
  rw [W_si hi] at h
  exact ⟨ys, ds', h, h2⟩
end
end K93
namespace K93
open PySem L2 HS
section
variable {A E S : Sto} {i : Nat} {ds : List Int}
theorem rangeD_from {lo : Int} {n : Nat} : rangeD lo n = (List.range n).map fun k : Nat => D.int (lo + k) := rfl
abbrev Pr := List Int × Int
def prD (p : Pr) : D := .tup [.lst (p.1.map .int), .int p.2]
def okPr (m : Nat) (p : Pr) : Prop := p.1 ≠ [] ∧ p.1.length ≤ 2 ∧ (0 < m → (∀ x ∈ p.1, 0 ≤ x) ∧ 0 ≤ p.2)
def chainL (m : Nat) : List Pr := (List.range (m - 1)).map fun k : Nat => ([(k : Int)], (k : Int) + 1)
def pairsL (m : Nat) : List Pr := (List.range m).map fun k : Nat => ([(k : Int)], (k : Int) + 1 - 2 * ((k : Int) % 2))
def fans2 (m : Nat) : List Pr := (List.range (2 * m - 4)).map fun k : Nat => ([(4 + (k : Int)) % 2], (4 + (k : Int)) / 2)
def floatsL : List Pr := [([0], 1), ([1], 0), ([0], 2), ([1], 2), ([2], 3), ([4], 5), ([5], 4), ([5], 5)]
def teamsL : List Pr := [([0, 1], 2), ([2], 0), ([2, 3], 1), ([1], 3), ([0, 3], 4), ([4], 4)]
section
variable {η : HS.Env} {m : Nat}
theorem shape_k1 {a0 a1 a2 a4 a5 a6 a7 a8 a9 a10 : Option D} (hm : m ≤ 100) : k_law_shape_1 [a0, a1, a2, some (.int m), a4, a5, a6, a7, a8, a9, a10, none, none, none] S = some (.lst ((chainL m).map prD), S) := by
  have hz2 : (SZ : Nat) = 100000 := rfl
  unfold chainL
  rw [List.map_map]
  refine lc_all (as := List.range (m - 1)) (g := fun k : Nat => D.int (0 + (k : Int))) (chk := chkT) ?_ trivial (by simp; omega) fun k hk => ⟨_, rfl, rfl, ?_⟩
  · have h := ir1K_ (S := S) (a := (m : Int) - 1) (by omega)
    have e : ((m : Int) - 1).toNat = m - 1 := by omega
    rw [e] at h
    simp [h, rangeD_from]
  · simp [prD]
theorem shape_k2 {a0 a1 a2 a4 a5 a6 a7 a8 a9 a10 : Option D} (hm : m ≤ 100) : k_law_shape_2 [a0, a1, a2, some (.int m), a4, a5, a6, a7, a8, a9, a10, none, none, none] S = some (.lst ((pairsL m).map prD), S) := by
  have hz2 : (SZ : Nat) = 100000 := rfl
  unfold pairsL
  rw [List.map_map]
  refine lc_all (as := List.range m) (g := fun k : Nat => D.int (0 + (k : Int))) (chk := chkT) ?_ trivial (by simp; omega) fun k hk => ⟨_, rfl, rfl, ?_⟩
  · have h := ir1K_ (S := S) (a := (m : Int)) (by omega)
    rw [Int.toNat_natCast] at h
    simp [h, rangeD_from]
  · have hq := fun S => q_mul (S := S) (a := 2) (b := (k : Int) % 2) (.inl (by decide))
    simp [prD, hq]
theorem shape_k3 {a0 a1 a2 a4 a5 a6 a7 a8 a9 a10 : Option D} (hm : m ≤ 100) : k_law_shape_3 [a0, a1, a2, some (.int m), a4, a5, a6, a7, a8, a9, a10, none, none, none] S = some (.lst ((fans2 m).map prD), S) := by
  have hz2 : (SZ : Nat) = 100000 := rfl
  unfold fans2
  rw [List.map_map]
  refine lc_all (as := List.range (2 * m - 4)) (g := fun k : Nat => D.int (4 + (k : Int))) (chk := chkT) ?_ trivial (by simp; omega) fun k hk => ⟨_, rfl, rfl, ?_⟩
  · have hq := q_mul (S := S) (a := 2) (b := (m : Int)) (.inl (by decide))
    have h := ir2K_ (S := S) (a := 4) (c := 2 * (m : Int)) (by omega)
    have e : (2 * (m : Int) - 4).toNat = 2 * m - 4 := by omega
    rw [e] at h
    simp [hq, h, rangeD_from]
  · simp [prD]
theorem ok_chain {p : Pr} (h : p ∈ chainL m) : okPr m p := by
  obtain ⟨k, _, rfl⟩ := List.mem_map.mp h
  exact ⟨by simp, by simp, fun _ => ⟨by simp, by simp only; omega⟩⟩
theorem ok_pairs {p : Pr} (h : p ∈ pairsL m) : okPr m p := by
  obtain ⟨k, _, rfl⟩ := List.mem_map.mp h
  exact ⟨by simp, by simp, fun _ => ⟨by simp, by simp only; omega⟩⟩
theorem ok_fans2 {p : Pr} (h : p ∈ fans2 m) : okPr m p := by
  obtain ⟨k, _, rfl⟩ := List.mem_map.mp h
  exact ⟨by simp, by simp, fun _ => ⟨by simp; omega, by simp only; omega⟩⟩
theorem ok_floats {p : Pr} (h : p ∈ floatsL) : okPr m p := by
  have : ∀ p ∈ floatsL, p.1 ≠ [] ∧ p.1.length ≤ 2 ∧ (∀ x ∈ p.1, 0 ≤ x) ∧ 0 ≤ p.2 := by decide
  have := this p h
  exact ⟨this.1, this.2.1, fun _ => this.2.2⟩
theorem ok_teams {p : Pr} (h : p ∈ teamsL) : okPr m p := by
  have : ∀ p ∈ teamsL, p.1 ≠ [] ∧ p.1.length ≤ 2 ∧ (∀ x ∈ p.1, 0 ≤ x) ∧ 0 ≤ p.2 := by decide
  have := this p h
  exact ⟨this.1, this.2.1, fun _ => this.2.2⟩
end
end
end K93
namespace K93
open PySem L2 HS
section
variable {A E S : Sto} {i : Nat} {ds : List Int}
theorem bMax_ints {l : List Int} (h : l ≠ []) : bMax [.lst (l.map D.int)] S = some (.int (mxI l), S) := by
  have hi : ∀ l : List Int, intsOf (l.map D.int) = some l := fun l => by
    induction l with
    | nil => rfl
    | cons x l ih =>
      rw [List.map_cons]
      show (intsOf (l.map D.int)).map _ = _
      rw [ih]; rfl
  show ((lstOf S (.lst (l.map D.int))).bind fun ys => (intsOf ys).bind fun is => (if is = [] then none else some (D.int (mxI is))).bind fun r => some (r, S)) = _
  rw [q_lo1, Option.bind_some, hi, Option.bind_some, if_neg h]
  rfl
def fitB (m : Nat) (p : Pr) : Bool := decide (mxI (p.1 ++ [p.2]) < (m : Int))
theorem shape_k4 {a0 a1 a2 a4 a5 a6 a7 a8 a10 : Option D} {prs : List Pr} {m : Nat} (hz : prs.length ≤ SZ) (hp : ∀ p ∈ prs, okPr m p) : k_law_shape_4 [a0, a1, a2, some (.int m), a4, a5, a6, a7, a8, some (.lst (prs.map prD)), a10, none, none, none] S = some (.lst ((prs.filter (fitB m)).map prD), S) := by
  have hz2 : (SZ : Nat) = 100000 := rfl
  refine lc_pure (S := S) (as := prs) (g := prD) (f := prD) (b := fitB m) (chk := chkS (.lst (prs.map prD)) (prs.map prD)) (by simp) (by simp) hz fun p hp' => ⟨_, rfl, ?_, fun _ => ?_⟩
  · have hl := (hp p hp').2.1
    have h1 : ∀ S, oAdd (.lst (p.1.map D.int)) (.lst [.int p.2]) S = some (.lst ((p.1 ++ [p.2]).map D.int), S) := fun S => by
      rw [q_addl (by simp; omega), List.map_append]
      rfl
    have h2 := fun S => bMax_ints (S := S) (l := p.1 ++ [p.2]) (by simp)
    generalize (p.1 ++ [p.2]).map D.int = M at h1 h2
    simp [prD, h1, h2, fitB]
  · simp
/-- the piece at a place -/
def pcAt (o : List Piece) (x : Int) : Piece := o.getD x.toNat (zs 1, [])
theorem ix_at {o : List Piece} {x : Int} (h0 : 0 ≤ x) (h1 : x < o.length) : oIx (.lst (o.map dv)) (.int x) S = some (dv (pcAt o x), S) := by
  obtain ⟨n, rfl⟩ := Int.eq_ofNat_of_zero_le h0
  have hn : n < o.length := by omega
  have h : (o.map dv)[n]? = some (dv (pcAt o n)) := by
    rw [List.getElem?_map, List.getElem?_eq_getElem hn]
    unfold pcAt
    rw [Int.toNat_natCast, List.getD_eq_getElem?_getD, List.getElem?_eq_getElem hn]
    rfl
  rw [q_ixl, atIn h]
  rfl
theorem pcAt_mem {o : List Piece} {x : Int} (h0 : 0 ≤ x) (h1 : x < o.length) : pcAt o x ∈ o := by
  obtain ⟨n, rfl⟩ := Int.eq_ofNat_of_zero_le h0
  have hn : n < o.length := by omega
  unfold pcAt
  rw [Int.toNat_natCast, List.getD_eq_getElem?_getD, List.getElem?_eq_getElem hn]
  exact List.getElem_mem hn
theorem shape_k5 {a0 a1 a3 a4 a5 a6 a7 a8 a9 a10 a11 : Option D} {o : List Piece} {p : Pr} (hz : p.1.length ≤ SZ) (hp : ∀ x ∈ p.1, 0 ≤ x ∧ x < o.length) : k_law_shape_5 [a0, a1, some (.lst (o.map dv)), a3, a4, a5, a6, a7, a8, a9, a10, a11, some (prD p), none] S = some (.lst ((p.1.map (pcAt o)).map dv), S) := by
  rw [List.map_map]
  refine lc_all (as := p.1) (g := D.int) (chk := chkS (.lst (p.1.map D.int)) (p.1.map D.int)) (by simp [prD]) (by simp) hz fun x hx => ⟨_, rfl, rfl, ?_⟩
  have h := ix_at (S := S) (hp x hx).1 (hp x hx).2
  simp only [q_bin, q_var, q_wipe, q_wipe0]
  simp [-q_ixl, h]
/-- what a fitting pair stands for -/
def prA (o : List Piece) (p : Pr) : Sup × Piece := (setP (p.1.map (pcAt o)), pcAt o p.2)
theorem shape_k6 {a0 a1 a3 a4 a5 a6 a7 a8 a9 : Option D} {o : List Piece} {ft : List Pr} (hz : ft.length ≤ SZ) (hl : ∀ p ∈ ft, p.1.length ≤ 2) (hr : ∀ p ∈ o, p.2.length ≤ 4) (hp : ∀ p ∈ ft, (∀ x ∈ p.1, 0 ≤ x ∧ x < o.length) ∧ 0 ≤ p.2 ∧ p.2 < o.length) :
    k_law_shape_6 [a0, a1, some (.lst (o.map dv)), a3, a4, a5, a6, a7, a8, a9, some (.lst (ft.map prD)), none, none, none] S = some (.lst ((ft.map (prA o)).map dv), S) := by
  have hz2 : (SZ : Nat) = 100000 := rfl
  rw [List.map_map]
  refine lc_all (as := ft) (g := prD) (chk := chkS (.lst (ft.map prD)) (ft.map prD)) (by simp) (by simp) hz fun p hp' => ⟨_, rfl, rfl, ?_⟩
  have h5 := fun S => shape_k5 (S := S) (a0 := a0) (a1 := a1) (a3 := a3) (a4 := a4) (a5 := a5) (a6 := a6) (a7 := a7) (a8 := a8) (a9 := a9) (a10 := some (.lst (ft.map prD))) (a11 := none) (o := o) (p := p) (by have := hl p hp'; omega) (hp p hp').1
  have hs := fun S => set_spec (A := S) (e := .lst ((p.1.map (pcAt o)).map dv)) (ps := p.1.map (pcAt o)) (fun q hq => by
    obtain ⟨x, hx, rfl⟩ := List.mem_map.mp hq
    have := (hp p hp').1 x hx
    exact Nat.le_trans (hr _ (pcAt_mem this.1 this.2)) (by omega)) (by have := hl p hp'; simp; omega) rfl
  have hx := fun S => ix_at (S := S) (o := o) (hp p hp').2.1 (hp p hp').2.2
  have e : (Function.comp dv (prA o)) p = .tup [dv (setP (p.1.map (pcAt o))), dv (pcAt o p.2)] := rfl
  rw [e]
  generalize (p.1.map (pcAt o)).map dv = L at h5 hs
  have e2 : ∀ S, oIx (prD p) (.int 1) S = some (.int p.2, S) := fun S => by simp [prD]
  generalize hP : prD p = P at h5 e2
  simp [-q_ixl, h5, hs, hx, e2]
end
end K93
namespace K93
open PySem L2 HS
section
variable {A E S : Sto} {i : Nat} {ds : List Int}
theorem shape_W {ps : Sup} (hi : i < A.length) (hr : ∀ p ∈ ps, p.2.length ≤ 4) (hz : ps.length ≤ 100) : ∃ (rs : List (Sup × Piece)) (ds' : List Int), c_law_shape [.ref i, dv ps] (W A i ds E) = some (.lst (rs.map dv), false, W A i ds' E) ∧ rs.length ≤ 2 * ps.length + 10 ∧ ∀ a ∈ rs, okRaw ps a := by
  have hz2 : (SZ : Nat) = 100000 := rfl
  obtain ⟨o, d1, h1, ho⟩ := shuf_W (α := Piece) (A := A) (E := E) (ds := ds) (row := dv ps) (xs := ps) hi (.inr rfl) (by omega)
  have hol := ho.length_eq
  obtain ⟨m, hm⟩ : ∃ m, m = ps.length := ⟨_, rfl⟩
  have hm2 : m ≤ 100 := by omega
  have hlen : ∀ S, bLen [.lst (o.map dv)] S = some (.int m, S) := fun S => by rw [q_lenl, List.length_map, hol, hm]
  have k1 := fun S a0 a1 a2 a4 a5 a6 a7 a8 a9 a10 => shape_k1 (S := S) (a0 := a0) (a1 := a1) (a2 := a2) (a4 := a4) (a5 := a5) (a6 := a6) (a7 := a7) (a8 := a8) (a9 := a9) (a10 := a10) hm2
  have k2 := fun S a0 a1 a2 a4 a5 a6 a7 a8 a9 a10 => shape_k2 (S := S) (a0 := a0) (a1 := a1) (a2 := a2) (a4 := a4) (a5 := a5) (a6 := a6) (a7 := a7) (a8 := a8) (a9 := a9) (a10 := a10) hm2
  have k3 := fun S a0 a1 a2 a4 a5 a6 a7 a8 a9 a10 => shape_k3 (S := S) (a0 := a0) (a1 := a1) (a2 := a2) (a4 := a4) (a5 := a5) (a6 := a6) (a7 := a7) (a8 := a8) (a9 := a9) (a10 := a10) hm2
  have f1 : ∀ S, oAdd (.lst [.tup [.lst [.int 0], .int 1], .tup [.lst [.int 1], .int 0], .tup [.lst [.int ((m : Int) - 1)], .int ((m : Int) - 1)]]) (.lst ((fans2 m).map prD)) S = some (.lst ((([([0], 1), ([1], 0), ([(m : Int) - 1], (m : Int) - 1)] : List Pr) ++ fans2 m).map prD), S) := fun S => by
    rw [q_addl (by simp [fans2]; omega), List.map_append]
    rfl
  have f2 : ∀ S, oAdd (.lst ((chainL m).map prD)) (.lst [.tup [.lst [.int ((m : Int) - 1)], .int 0]]) S = some (.lst ((chainL m ++ [([(m : Int) - 1], 0)]).map prD), S) := fun S => by
    rw [q_addl (by simp [chainL]; omega), List.map_append]
    rfl
  obtain ⟨k, x, d2, h2, h3⟩ := pick_W (A := A) (E := E) (ds := d1) (row := .lst [.lst [], .lst [], .lst [], .lst ((chainL m).map prD), .lst ((chainL m ++ [([(m : Int) - 1], 0)]).map prD), .lst ((pairsL m).map prD), .lst ((([([0], 1), ([1], 0), ([(m : Int) - 1], (m : Int) - 1)] : List Pr) ++ fans2 m).map prD), .lst (floatsL.map prD), .lst (teamsL.map prD)]) (xs := [.lst [], .lst [], .lst [], .lst ((chainL m).map prD), .lst ((chainL m ++ [([(m : Int) - 1], 0)]).map prD), .lst ((pairsL m).map prD), .lst ((([([0], 1), ([1], 0), ([(m : Int) - 1], (m : Int) - 1)] : List Pr) ++ fans2 m).map prD), .lst (floatsL.map prD), .lst (teamsL.map prD)]) hi (.inl rfl) (by simp)
  obtain ⟨prs, rfl, hpl, hpo⟩ : ∃ prs : List Pr, x = .lst (prs.map prD) ∧ prs.length ≤ 2 * m + 10 ∧ ∀ p ∈ prs, okPr m p := by
    have hx := List.mem_of_getElem? h2
    simp only [List.mem_cons, List.not_mem_nil, or_false] at hx
    rcases hx with rfl | rfl | rfl | rfl | rfl | rfl | rfl | rfl | rfl
    · exact ⟨[], rfl, by simp, by simp⟩
    · exact ⟨[], rfl, by simp, by simp⟩
    · exact ⟨[], rfl, by simp, by simp⟩
    · exact ⟨chainL m, rfl, by simp [chainL]; omega, fun p hp => ok_chain hp⟩
    · refine ⟨_, rfl, by simp [chainL]; omega, fun p hp => ?_⟩
      rcases List.mem_append.mp hp with hp | hp
      · exact ok_chain hp
      · have : p = ([(m : Int) - 1], 0) := by simpa using hp
        subst this
        exact ⟨by simp, by simp, fun _ => ⟨by simp; omega, by simp⟩⟩
    · exact ⟨pairsL m, rfl, by simp [pairsL]; omega, fun p hp => ok_pairs hp⟩
    · refine ⟨_, rfl, by simp [fans2]; omega, fun p hp => ?_⟩
      rcases List.mem_append.mp hp with hp | hp
      · simp only [List.mem_cons, List.not_mem_nil, or_false] at hp
        rcases hp with rfl | rfl | rfl
        · exact ⟨by simp, by simp, fun _ => ⟨by simp, by simp⟩⟩
        · exact ⟨by simp, by simp, fun _ => ⟨by simp, by simp⟩⟩
        · exact ⟨by simp, by simp, fun _ => ⟨by simp; omega, by simp only; omega⟩⟩
      · exact ok_fans2 hp
    · exact ⟨floatsL, rfl, (by show 8 ≤ _; omega), fun p hp => ok_floats hp⟩
    · exact ⟨teamsL, rfl, (by show 6 ≤ _; omega), fun p hp => ok_teams hp⟩
  clear h2
  have fl : (.lst [.tup [.lst [.int 0], .int 1], .tup [.lst [.int 1], .int 0], .tup [.lst [.int 0], .int 2], .tup [.lst [.int 1], .int 2], .tup [.lst [.int 2], .int 3], .tup [.lst [.int 4], .int 5], .tup [.lst [.int 5], .int 4], .tup [.lst [.int 5], .int 5]] : D) = .lst (floatsL.map prD) := rfl
  have tm : (.lst [.tup [.lst [.int 0, .int 1], .int 2], .tup [.lst [.int 2], .int 0], .tup [.lst [.int 2, .int 3], .int 1], .tup [.lst [.int 1], .int 3], .tup [.lst [.int 0, .int 3], .int 4], .tup [.lst [.int 4], .int 4]] : D) = .lst (teamsL.map prD) := rfl
  rw [← fl, ← tm] at h3
  have hft : ∀ p ∈ prs.filter (fitB m), okPr m p ∧ (0 < m → (∀ x ∈ p.1, 0 ≤ x ∧ x < o.length) ∧ 0 ≤ p.2 ∧ p.2 < o.length) := fun p hp => by
    obtain ⟨hp1, hp2⟩ := List.mem_filter.mp hp
    refine ⟨hpo p hp1, fun h0 => ?_⟩
    have hlt : mxI (p.1 ++ [p.2]) < (m : Int) := of_decide_eq_true hp2
    have h5 := (hpo p hp1).2.2 h0
    refine ⟨fun x hx => ⟨h5.1 x hx, ?_⟩, h5.2, ?_⟩
    · have := mxI_ge (l := p.1 ++ [p.2]) (List.mem_append_left _ hx)
      omega
    · have := mxI_ge (l := p.1 ++ [p.2]) (z := p.2) (by simp)
      omega
  have k4 := fun S a0 a1 a2 a4 a5 a6 a7 a8 a10 => shape_k4 (S := S) (a0 := a0) (a1 := a1) (a2 := a2) (a4 := a4) (a5 := a5) (a6 := a6) (a7 := a7) (a8 := a8) (a10 := a10) (prs := prs) (m := m) (by omega) hpo
  by_cases h0 : m = 0
  · refine ⟨[], d2, ?_, by simp, by simp⟩
    generalize (chainL m).map prD = L1 at k1 f2 h3
    generalize (pairsL m).map prD = L2 at k2 h3
    generalize (fans2 m).map prD = L3 at k3 f1
    generalize (([([0], 1), ([1], 0), ([(m : Int) - 1], (m : Int) - 1)] : List Pr) ++ fans2 m).map prD = L4 at f1 h3
    generalize (chainL m ++ [([(m : Int) - 1], 0)]).map prD = L5 at f2 h3
    generalize prs.map prD = L6 at h3
    unfold c_law_shape m_law_shape
    rw [q_calls]
    have hmi : ∀ S, oEq (.int (m : Int)) (.int 0) S = some (.bl true, S) := fun S => by rw [q_eqi]; simp [h0]
    simp [-q_addl, -q_eqi, h1, hlen, k1, k2, k3, f1, f2, h3, hmi]
    exact end_len (by simp)
  · have hpos : 0 < m := by omega
    have k6 := fun S a0 a1 a3 a4 a5 a6 a7 a8 a9 => shape_k6 (S := S) (a0 := a0) (a1 := a1) (a3 := a3) (a4 := a4) (a5 := a5) (a6 := a6) (a7 := a7) (a8 := a8) (a9 := a9) (o := o) (ft := prs.filter (fitB m)) (by
      have := List.length_filter_le (fitB m) prs
      omega) (fun p hp => (hft p hp).1.2.1) (fun p hp => hr p (ho.mem_iff.mp hp)) (fun p hp => (hft p hp).2 hpos)
    refine ⟨(prs.filter (fitB m)).map (prA o), d2, ?_, by have := List.length_filter_le (fitB m) prs; simp; omega, fun a ha => ?_⟩
    · generalize ((prs.filter (fitB m)).map (prA o)).map dv = L0 at k6 ⊢
      generalize (chainL m).map prD = L1 at k1 f2 h3
      generalize (pairsL m).map prD = L2 at k2 h3
      generalize (fans2 m).map prD = L3 at k3 f1
      generalize (([([0], 1), ([1], 0), ([(m : Int) - 1], (m : Int) - 1)] : List Pr) ++ fans2 m).map prD = L4 at f1 h3
      generalize (chainL m ++ [([(m : Int) - 1], 0)]).map prD = L5 at f2 h3
      generalize prs.map prD = L6 at h3 k4
      generalize (prs.filter (fitB m)).map prD = L7 at k4 k6
      unfold c_law_shape m_law_shape
      rw [q_calls]
      have hmi : ¬ (m : Int) = 0 := by omega
      simp [-q_addl, h1, hlen, k1, k2, k3, k4, k6, f1, f2, h3, h0]
      exact end_len (by simp)
    · obtain ⟨p, hp, rfl⟩ := List.mem_map.mp ha
      have h6 := (hft p hp).2 hpos
      refine ⟨⟨p.1.map (pcAt o), rfl, by have := (hft p hp).1.2.1; simp; omega, fun q hq => ?_⟩, ho.mem_iff.mp (pcAt_mem h6.2.1 h6.2.2)⟩
      obtain ⟨x, hx, rfl⟩ := List.mem_map.mp hq
      exact ho.mem_iff.mp (pcAt_mem (h6.1 x hx).1 (h6.1 x hx).2)
end
end K93
namespace K93
open PySem L2 HS
section
variable {A E S : Sto} {i : Nat} {ds : List Int}
abbrev Att := Sup × Piece
abbrev Board := Sup × List Att
def selS (rs : List Att) (p : Piece) : List Sup := (rs.filter fun a => decide (a.2 = p)).map (·.1)
def attsOf (ps : Sup) (rs : List Att) : List Att := ps.flatMap fun p => (thin (selS rs p)).map fun s => (s, p)
theorem thin_len_aux (ss : List Sup) : ∀ (l f : List Sup), (l.foldl (thinF ss) f).length ≤ f.length + l.length
  | [], f => by simp
  | x :: l, f => by
    rw [List.foldl_cons]
    have h1 := thin_len_aux ss l (thinF ss f x)
    have h2 := thinF_len ss f x
    simp
    omega
theorem thin_len (ss : List Sup) : (thin ss).length ≤ ss.length := by
  have := thin_len_aux ss (srt pS ss) []
  rw [srt_len] at this
  simpa [thin] using this
theorem selS_len (rs : List Att) (p : Piece) : (selS rs p).length ≤ rs.length := by
  unfold selS
  rw [List.length_map]
  exact List.length_filter_le _ _
theorem board_k {rs : List Att} {p : Piece} {a0 a2 a4 : Option D} (hz : rs.length ≤ SZ) : k_law_board_of_raw_1 [a0, some (.lst (rs.map dv)), a2, some (dv p), a4, none] S = some (.lst ((selS rs p).map dv), S) := by
  have h : k_law_board_of_raw_1 [a0, some (.lst (rs.map dv)), a2, some (dv p), a4, none] S = some (.lst ((rs.filter fun a => decide (a.2 = p)).map fun a => dv a.1), S) := by
    refine lc_pure (α := Att) (S := S) (as := rs) (g := dv) (f := fun a => dv a.1) (b := fun a => decide (a.2 = p)) (chk := chkS (.lst (rs.map dv)) (rs.map dv)) (by simp) (by simp) hz fun a ha => ⟨_, rfl, ?_, fun _ => ?_⟩
    · have e : (dv a : D) = .tup [dv a.1, dv a.2] := rfl
      have h := fun S => q_eq (S := S) a.2 p (by decide)
      rw [e]
      simp [h]
    · have e : (dv a : D) = .tup [dv a.1, dv a.2] := rfl
      rw [e]
      simp
  unfold selS
  rw [List.map_map]
  exact h
theorem foldl_snoc {β γ : Type} (g : β → γ) : ∀ (l : List β) (f : List γ), l.foldl (fun f s => f ++ [g s]) f = f ++ l.map g
  | [], f => by simp
  | x :: l, f => by rw [List.foldl_cons, foldl_snoc g l]; simp
theorem board_in {rs : List Att} {f : List Att} {p : Piece} {P : D} {a4 : Option D} (hz : rs.length ≤ 1000) (hs : ∀ a ∈ rs, okS a.1) (hf : f.length + rs.length < SZ) : ∃ a4', l_law_board_of_raw_1 [some P, some (.lst (rs.map dv)), some (.ref A.length), some (dv p), a4, none] (V A [.lst (f.map dv)]) =
    some (.nx, [some P, some (.lst (rs.map dv)), some (.ref A.length), some (dv p), a4', none], V A [.lst ((f ++ (thin (selS rs p)).map fun s => (s, p)).map dv)]) := by
  have hz2 : (SZ : Nat) = 100000 := rfl
  have hl := selS_len rs p
  have ht := thin_spec (A := V A [.lst (f.map dv)]) (ss := selS rs p) (e := .lst ((selS rs p).map dv)) (fun s hs' => by
    unfold selS at hs'
    obtain ⟨a, ha, rfl⟩ := List.mem_map.mp hs'
    exact hs a (List.mem_filter.mp ha).1) (by omega) rfl
  have hk := board_k (S := V A [.lst (f.map dv)]) (a0 := some P) (a2 := some (.ref A.length)) (a4 := a4) (rs := rs) (p := p) (by omega)
  have htl := thin_len (selS rs p)
  obtain ⟨o, h1, _⟩ := for_fold (α := Sup) (β := List Att) (it := iE (eCall c_law_thinned 1 (aCons k_law_board_of_raw_1 aNil))) (tg := HS.gN 4) (body := b_law_board_of_raw_1) (S0 := V A [.lst (f.map dv)]) (as := thin (selS rs p)) (g := dv) (b0 := f) (o0 := a4) (chk := chkS (dv (thin (selS rs p))) ((thin (selS rs p)).map dv)) (fun f s => f ++ [(s, p)]) (fun f => V A [.lst (f.map dv)]) (fun o => [some P, some (.lst (rs.map dv)), some (.ref A.length), some (dv p), o, none]) (fun k g => g.length = f.length + k)
    (by
      generalize (selS rs p).map dv = L at hk ht
      have e : ∀ S, seqOf S (dv (thin (selS rs p))) = some ((thin (selS rs p)).map dv) := fun S => rfl
      simp [hk, ht, e]) (fun _ => rfl) (fun _ _ => rfl) rfl (fun k s g hk hg => by
      have hk2 := (List.getElem?_eq_some_iff.mp hk).1
      have hlt : g.length < SZ := by omega
      refine ⟨?_, by simp; omega⟩
      unfold b_law_board_of_raw_1
      have e : (dv (s, p) : D) = .tup [dv s, dv p] := rfl
      simp [hlt, e])
  refine ⟨o, ?_⟩
  rw [← foldl_snoc fun s => (s, p)]
  exact h1
theorem okS_of {ps : Sup} {a : Att} (hr : ∀ p ∈ ps, p.2.length ≤ 4) (h : okRaw ps a) : okS a.1 := by
  have hz2 : (SZ : Nat) = 100000 := rfl
  obtain ⟨l, h1, h2, h3⟩ := h.1
  rw [h1]
  refine ⟨by have := len_setP (ps := l); omega, fun p hp => ?_⟩
  have := hr p (h3 p (mem_setP.mp hp))
  unfold okP
  omega
theorem board_out {ps : Sup} {rs : List Att} (hz : rs.length ≤ 900) (hp : ps.length ≤ 100) (hs : ∀ a ∈ rs, okS a.1) : ∃ η', l_law_board_of_raw_2 [some (dv ps), some (.lst (rs.map dv)), some (.ref A.length), none, none, none] (V A [.lst []]) = some (.nx, η', V A [.lst ((attsOf ps rs).map dv)]) ∧ η'[0]? = some (some (dv ps)) ∧ η'[2]? = some (some (.ref A.length)) := by
  have hz2 : (SZ : Nat) = 100000 := rfl
  obtain ⟨η', S', h1, a3, a4, rfl, rfl⟩ := for_ind (it := iE (eVar 0)) (tg := HS.gN 3) (body := l_law_board_of_raw_1) (η := [some (dv ps), some (.lst (rs.map dv)), some (.ref A.length), none, none, none]) (S := V A [.lst []]) (S0 := V A [.lst []]) (xs := ps.map dv) (chk := chkS (dv ps) (ps.map dv))
    (fun k η S => ∃ (a3 a4 : Option D), η = [some (dv ps), some (.lst (rs.map dv)), some (.ref A.length), a3, a4, none] ∧ S = V A [.lst ((attsOf (ps.take k) rs).map dv)])
    (by
      have e : ∀ S, seqOf S (dv ps) = some (ps.map dv) := fun S => rfl
      simp [e]) ⟨none, none, rfl, rfl⟩ (fun _ _ _ _ _ => rfl) (fun k x η S hx ⟨a3, a4, h1, h2⟩ => by
      subst h1 h2
      rw [List.getElem?_map] at hx
      obtain ⟨p, hk, rfl⟩ := Option.map_eq_some_iff.mp hx
      have hk2 := (List.getElem?_eq_some_iff.mp hk).1
      have hb : ∀ l : Sup, (attsOf l rs).length ≤ l.length * rs.length := fun l => by
        induction l with
        | nil => simp [attsOf]
        | cons q l ih =>
          unfold attsOf at ih ⊢
          rw [List.flatMap_cons, List.length_append, List.length_map, List.length_cons, Nat.succ_mul]
          have h1 := thin_len (selS rs q)
          have h2 := selS_len rs q
          omega
      have hlen := hb (ps.take k)
      have hmul : (ps.take k).length * rs.length ≤ 100 * 900 := Nat.mul_le_mul (by simp; omega) hz
      obtain ⟨a4', h5⟩ := board_in (A := A) (rs := rs) (f := attsOf (ps.take k) rs) (p := p) (P := dv ps) (a4 := a4) (by omega) hs (by omega)
      refine ⟨_, _, _, rfl, .inl h5, _, a4', rfl, ?_⟩
      rw [List.take_add_one, hk]
      unfold attsOf
      rw [List.flatMap_append]
      simp)
  rw [List.length_map, List.take_length] at h1
  exact ⟨_, h1, rfl, rfl⟩
theorem board_spec {ps : Sup} {rs : List Att} (hz : rs.length ≤ 900) (hp : ps.length ≤ 100) (hs : ∀ a ∈ rs, okS a.1) : c_law_board_of_raw [dv ps, .lst (rs.map dv)] A = some (dv (ps, attsOf ps rs), false, A) := by
  obtain ⟨η', h1, h2, h3⟩ := board_out (A := A) hz hp hs
  unfold c_law_board_of_raw m_law_board_of_raw
  rw [callsV]
  simp [h1, h2, h3]
  exact end_V (n := DV.n Board) (DV.hpl ((ps, attsOf ps rs) : Board)) (by decide)
end
end K93
namespace K93
open PySem L2 HS
section
variable {A E S : Sto} {i : Nat} {ds : List Int}
theorem sm_mono : ∀ {n m : Nat} {x : D}, n ≤ m → sm n x = true → sm m x = true
  | 0, m, x, h, e => by cases x <;> cases m <;> simp [sm] at e ⊢ <;> exact e
  | n + 1, 0, x, h, e => by omega
  | n + 1, m + 1, x, h, e => by
    cases x <;> simp [sm] at e ⊢
    · exact e
    · exact ⟨e.1, fun y hy => sm_mono (by omega) (e.2 y hy)⟩
    · exact ⟨e.1, fun y hy => sm_mono (by omega) (e.2 y hy)⟩
theorem sm_list {α : Type} [DV α] {n : Nat} {xs : List α} (hz : xs.length ≤ SZ) (h : ∀ x ∈ xs, sm n (dv x) = true) : sm (n + 1) (dv xs) = true := by
  show sm (n + 1) (.tup (xs.map dv)) = true
  simp only [sm, Bool.and_eq_true, decide_eq_true_eq, List.length_map, List.all_map, List.all_eq_true]
  exact ⟨hz, fun x hx => h x hx⟩
theorem sm_pair {x y : D} {n : Nat} (hx : sm n x = true) (hy : sm n y = true) : sm (n + 1) (.tup [x, y]) = true := by
  have hz2 : 2 ≤ SZ := by decide
  simp [sm, hx, hy, hz2]
theorem sm_val (v : Val) : sm 0 (dv v) = true := by
  cases v with
  | num a => rfl
  | txt x => exact x.2
theorem sm_piece {p : Piece} (h : p.2.length ≤ 4) : sm 2 (dv p) = true :=
  sm_pair (x := .str p.1.1) (y := dv p.2) (by simp only [sm]; exact p.1.2) (sm_list (n := 0) (Nat.le_trans h (by decide)) fun v _ => sm_val v)
/-- what a board is like -/
structure okB (b : Board) : Prop where
  p : b.1.length ≤ 100
  r : ∀ p ∈ b.1, p.2.length ≤ 4
  z : b.2.length ≤ SZ
  a : ∀ a ∈ b.2, a.1.length ≤ SZ ∧ (∀ p ∈ a.1, p.2.length ≤ 4) ∧ a.2.2.length ≤ 4
theorem same_dv {x : D} {n : Nat} (h : sm n x = true) (hn : n < 40) : c_law_same 40 [x, x] A = some (.bl true, false, A) := by
  exact same_spec 39 _ (sm_mono (by omega) h)
end
end K93
namespace K93
open PySem L2 HS
section
variable {A E S : Sto} {i : Nat} {ds : List Int}
theorem mem_thin_aux {ss : List Sup} {x : Sup} : ∀ (l f : List Sup), x ∈ l.foldl (thinF ss) f → x ∈ f ∨ x ∈ l
  | [], f, h => .inl h
  | y :: l, f, h => by
    rw [List.foldl_cons] at h
    rcases mem_thin_aux l _ h with h | h
    · unfold thinF at h
      split at h
      · exact .inl h
      · rcases List.mem_append.mp h with h | h
        · exact .inl h
        · have : x = y := by simpa using h
          subst this; exact .inr List.mem_cons_self
    · exact .inr (List.mem_cons_of_mem _ h)
theorem mem_thin {ss : List Sup} {x : Sup} (h : x ∈ thin ss) : x ∈ ss := by
  rcases mem_thin_aux _ _ h with h | h
  · cases h
  · exact (srt_perm (kp := pS)).mem_iff.mp h
theorem atts_len {rs : List Att} : ∀ l : Sup, (attsOf l rs).length ≤ l.length * rs.length := fun l => by
  induction l with
  | nil => simp [attsOf]
  | cons q l ih =>
    unfold attsOf at ih ⊢
    rw [List.flatMap_cons, List.length_append, List.length_map, List.length_cons, Nat.succ_mul]
    have h1 := thin_len (selS rs q)
    have h2 := selS_len rs q
    omega
theorem okB_of {ps : Sup} {rs : List Att} (hr : ∀ p ∈ ps, p.2.length ≤ 4) (hp : ps.length ≤ 100) (hz : rs.length ≤ 900) (hs : ∀ a ∈ rs, okRaw ps a) : okB (ps, attsOf ps rs) := by
  have hz2 : (SZ : Nat) = 100000 := rfl
  refine ⟨hp, hr, ?_, fun a ha => ?_⟩
  · have h1 := atts_len (rs := rs) ps
    have h2 : ps.length * rs.length ≤ 100 * 900 := Nat.mul_le_mul hp hz
    show (attsOf ps rs).length ≤ SZ
    omega
  · have ha : a ∈ attsOf ps rs := ha
    unfold attsOf at ha
    obtain ⟨p, hp1, hp2⟩ := List.mem_flatMap.mp ha
    obtain ⟨s, hs1, rfl⟩ := List.mem_map.mp hp2
    have hs2 := mem_thin hs1
    unfold selS at hs2
    obtain ⟨r, hr1, rfl⟩ := List.mem_map.mp hs2
    have hr2 := hs r (List.mem_filter.mp hr1).1
    obtain ⟨l, e, h2, h3⟩ := hr2.1
    refine ⟨?_, fun q hq => ?_, hr p hp1⟩
    · show r.1.length ≤ SZ
      rw [e]
      have := len_setP (ps := l)
      omega
    · have hq : q ∈ r.1 := hq
      rw [e] at hq
      exact hr q (h3 q (mem_setP.mp hq))
/-- a board of drawn raw attacks -/
theorem board_W {ps : Sup} {rs : List Att} (hr : ∀ p ∈ ps, p.2.length ≤ 4) (hp : ps.length ≤ 100) (hz : rs.length ≤ 900) (hs : ∀ a ∈ rs, okRaw ps a) : c_law_board_of_raw [dv ps, .lst (rs.map dv)] A = some (dv ((ps, attsOf ps rs) : Board), false, A) ∧ okB (ps, attsOf ps rs) :=
  ⟨board_spec hz hp fun a ha => okS_of hr (hs a ha), okB_of hr hp hz hs⟩
theorem setP_one (p : Piece) : setP [p] = [p] := by
  unfold setP srt
  rw [List.mergeSort_singleton]
  rfl
theorem okRaw_one {ps : Sup} {p q : Piece} (hp : p ∈ ps) (hq : q ∈ ps) : okRaw ps ([p], q) :=
  ⟨⟨[p], (setP_one p).symm, by simp, fun x hx => by
    have : x = p := by simpa using hx
    subst this; exact hp⟩, hq⟩
theorem sure_S (h : A[i]? = some (IL ds)) : ∃ (b : Board) (ds' : List Int), c_law_sure_board [.ref i] A = some (dv b, false, A.set i (IL ds')) ∧ ∃ (ps : Sup) (rs : List Att), b = (ps, attsOf ps rs) ∧ ((∀ p ∈ ps, p.1 ≠ mayT) ∧ ∃ l, ps = setP l) ∧ ps.Nodup ∧ ps.length = 4 ∧ (∀ p ∈ ps, p.2.length ≤ 4) ∧ rs.length ≤ 4 ∧ ∀ a ∈ rs, okRaw ps a := by
  have hz2 : (SZ : Nat) = 100000 := rfl
  have hi : i < A.length := (List.getElem?_eq_some_iff.mp h).1
  obtain ⟨ps, d1, h1, hnd, h2, h3, hnm, hset⟩ := pieces_W (A := A) (E := []) (ds := ds) (many := 4) hi (by omega)
  obtain ⟨o, d2, h4, h5⟩ := shuf_W (α := Piece) (A := A) (E := []) (ds := d1) (row := dv ps) (xs := ps) hi (.inr rfl) (by omega)
  have hol := h5.length_eq
  have h1 : c_law_pieces [.ref i, .int 4] (W A i ds []) = some (dv ps, false, W A i d1 []) := h1
  match o, hol, h4, h5 with
  | [o0, o1, o2, o3], _, h4, h5 =>
    have m0 : o0 ∈ ps := h5.mem_iff.mp (by simp)
    have m1 : o1 ∈ ps := h5.mem_iff.mp (by simp)
    have m2 : o2 ∈ ps := h5.mem_iff.mp (by simp)
    have hraw : ∀ a ∈ [([o0], o1), ([o1], o0), ([o0], o2), ([o2], o2)], okRaw ps a := fun a ha => by
      simp only [List.mem_cons, List.not_mem_nil, or_false] at ha
      rcases ha with rfl | rfl | rfl | rfl
      · exact okRaw_one m0 m1
      · exact okRaw_one m1 m0
      · exact okRaw_one m0 m2
      · exact okRaw_one m2 m2
    obtain ⟨hb, hok⟩ := board_W (A := W A i d2 []) (ps := ps) (rs := [([o0], o1), ([o1], o0), ([o0], o2), ([o2], o2)]) h3 (by omega) (by simp) hraw
    refine ⟨_, d2, ?_, ps, _, rfl, ⟨hnm, hset⟩, hnd, h2, h3, by simp, hraw⟩
    have hb' : c_law_board_of_raw [dv ps, .lst [.tup [.tup [dv o0], dv o1], .tup [.tup [dv o1], dv o0], .tup [.tup [dv o0], dv o2], .tup [.tup [dv o2], dv o2]]] (W A i d2 []) = _ := hb
    unfold c_law_sure_board m_law_sure_board
    rw [callsW h]
    simp only [List.map_cons, List.map_nil] at h4
    simp [h1, h4, hb']
    exact end_W (n := DV.n Board) (DV.hpl ((ps, attsOf ps [([o0], o1), ([o1], o0), ([o0], o2), ([o2], o2)]) : Board)) (by decide)
  | [], hl, _, _ => simp [h2] at hl
  | [_], hl, _, _ => simp [h2] at hl
  | [_, _], hl, _, _ => simp [h2] at hl
  | [_, _, _], hl, _, _ => simp [h2] at hl
  | _ :: _ :: _ :: _ :: _ :: _, hl, _, _ => simp [h2] at hl
theorem sure_W (hi : i < A.length) : ∃ (b : Board) (ds' : List Int), c_law_sure_board [.ref i] (W A i ds E) = some (dv b, false, W A i ds' E) ∧ ∃ (ps : Sup) (rs : List Att), b = (ps, attsOf ps rs) ∧ ((∀ p ∈ ps, p.1 ≠ mayT) ∧ ∃ l, ps = setP l) ∧ ps.Nodup ∧ ps.length = 4 ∧ (∀ p ∈ ps, p.2.length ≤ 4) ∧ rs.length ≤ 4 ∧ ∀ a ∈ rs, okRaw ps a := by
  obtain ⟨b, ds', h, h2⟩ := sure_S (A := W A i ds E) (W_i hi)
  rw [W_si hi] at h
  exact ⟨b, ds', h, h2⟩
end
end K93
namespace K93
open PySem L2 HS
theorem le_trans' {α : Type} {kp : α → PyData} {a b c : α} (h1 : PySem.W.dataLe false kp a b = true) (h2 : PySem.W.dataLe false kp b c = true) : PySem.W.dataLe false kp a c = true :=
  (PySem.W.sortLe_total (PyProof.Rows.listOrd PyProof.Rows.itemOrd) false fun b => PySem.W.keyToks (kp b)).trans a b c h1 h2
theorem le_tot' {α : Type} {kp : α → PyData} (a b : α) : PySem.W.dataLe false kp a b = true ∨ PySem.W.dataLe false kp b a = true :=
  (PySem.W.sortLe_total (PyProof.Rows.listOrd PyProof.Rows.itemOrd) false fun b => PySem.W.keyToks (kp b)).total a b
theorem toks_inj {x y : PyData} (ha : PySem.W.alike x y = true) (h : PySem.W.keyToks x = PySem.W.keyToks y) : PyData.eqv x y = true := by
  cases e : PyData.eqv x y with
  | true => rfl
  | false =>
    have h2 := (PySem.W.toks_eqv x y ha).2 e [] [Sum.inl 0]
    rw [← h, List.append_nil, PyProof.Rows.lex_irrefl] at h2
    have h3 : ∀ t : List (Int ⊕ List Nat), PyProof.Rows.lexLt PyProof.Rows.itemOrd t (t ++ [Sum.inl 0]) = true := fun t => by
      induction t with
      | nil => rfl
      | cons a t ih => rw [List.cons_append, PyProof.Rows.lex_self]; exact ih
    exact absurd ((h3 _).symm.trans h2) (by decide)
theorem le_anti' {α : Type} {kp : α → PyData} (ha : ∀ x y, PySem.W.alike (kp x) (kp y) = true) (he : ∀ x y, PyData.eqv (kp x) (kp y) = true → x = y) {a b : α} (h1 : PySem.W.dataLe false kp a b = true) (h2 : PySem.W.dataLe false kp b a = true) : a = b := by
  rw [PySem.W.dataLe_eq] at h1 h2
  simp only [cond_false, Bool.not_eq_true'] at h1 h2
  exact he a b (toks_inj (ha a b) (PyProof.Rows.lex_total _ _ h2 h1))
theorem srt_sorted {α : Type} {kp : α → PyData} (xs : List α) : (srt kp xs).Pairwise fun a b => PySem.W.dataLe false kp a b = true :=
  List.pairwise_mergeSort (le := PySem.W.dataLe false kp) (fun a b c h1 h2 => le_trans' h1 h2) (fun a b => by
    rcases le_tot' (kp := kp) a b with h | h
    · simp [h]
    · simp [h]) xs
theorem dd_sorted {α : Type} [DecidableEq α] {le : α → α → Bool} (an : ∀ a b, le a b = true → le b a = true → a = b) : ∀ (xs f : List α), f.Nodup → (f ++ xs).Pairwise (fun a b => le a b = true) → (xs.foldl ddF f).Nodup
  | [], f, h, _ => h
  | x :: xs, f, h, p => by
    rw [List.foldl_cons]
    unfold ddF
    have p1 := List.pairwise_append.mp p
    split
    · refine dd_sorted an xs f h ?_
      rw [List.pairwise_append]
      exact ⟨p1.1, (List.pairwise_cons.mp p1.2.1).2, fun a ha b hb => p1.2.2 a ha b (List.mem_cons_of_mem _ hb)⟩
    · rename_i hne
      refine dd_sorted an xs (f ++ [x]) ?_ (by rw [List.append_assoc]; exact p)
      rw [List.nodup_append]
      refine ⟨h, by simp, fun a ha b hb => ?_⟩
      have hb : b = x := by simpa using hb
      subst hb
      intro e
      subst e
      apply hne
      obtain ⟨l, y, rfl⟩ : ∃ l y, f = l ++ [y] := ⟨f.dropLast, f.getLast (List.ne_nil_of_mem ha), (List.dropLast_concat_getLast _).symm⟩
      rw [List.getLast?_append]
      simp only [List.getLast?_singleton, Option.some_or]
      congr 1
      rcases List.mem_append.mp ha with z | z
      · have q1 := (List.pairwise_append.mp p1.1).2.2 a z y (by simp)
        have q2 := p1.2.2 y (by simp) a List.mem_cons_self
        exact (an _ _ q1 q2).symm
      · have z : a = y := by simpa using z
        exact z.symm
theorem ev_all {α : Type} {p : α → PyData} (h : ∀ x y, PyData.eqv (p x) (p y) = true → x = y) : ∀ xs ys : List α, PyData.eqvAll (xs.map p) (ys.map p) = true → xs = ys
  | [], [], _ => rfl
  | [], y :: ys, e => by simp [PyData.eqvAll] at e
  | x :: xs, [], e => by simp [PyData.eqvAll] at e
  | x :: xs, y :: ys, e => by
    rw [List.map_cons, List.map_cons, PyData.eqvAll, Bool.and_eq_true] at e
    rw [h x y e.1, ev_all h xs ys e.2]
theorem evV (v u : Val) (h : PyData.eqv (pV v) (pV u) = true) : v = u := by
  cases v <;> cases u <;> simp [pV, PyData.eqv, PyData.eqvAll] at h
  · rw [h]
  · rw [Subtype.ext h]
theorem evP (v u : Piece) (h : PyData.eqv (pP v) (pP u) = true) : v = u := by
  obtain ⟨x, r⟩ := v
  obtain ⟨y, q⟩ := u
  simp only [pP, pR, PyData.eqv, PyData.eqvAll, Bool.and_eq_true, Bool.and_true] at h
  have h1 : x = y := Subtype.ext (by simpa [PyData.eqv] using h.1)
  have h2 : r = q := ev_all evV r q (by simpa [PyData.eqv] using h.2)
  rw [h1, h2]
theorem setP_nd (l : List Piece) : (setP l).Nodup := by
  unfold setP dd
  refine dd_sorted (le := PySem.W.dataLe false pP) (fun a b h1 h2 => le_anti' alP evP h1 h2) (srt pP l) [] List.nodup_nil ?_
  rw [List.nil_append]
  exact srt_sorted l
structure gB (b : Board) : Prop where
  ok : okB b
  z : b.2.length < SZ
  z2 : b.2.length ≤ 20000
  nd : b.1.Nodup
  n : b.1.length ≤ 12
  t : ∀ a ∈ b.2, a.2 ∈ b.1 ∧ a.1.Nodup ∧ ∀ p ∈ a.1, p ∈ b.1
theorem mem_atts {ps : Sup} {rs : List Att} {a : Att} (h : a ∈ attsOf ps rs) : a ∈ rs ∧ a.2 ∈ ps := by
  unfold attsOf at h
  obtain ⟨p, hp1, hp2⟩ := List.mem_flatMap.mp h
  obtain ⟨s, hs1, rfl⟩ := List.mem_map.mp hp2
  have hs2 := mem_thin hs1
  unfold selS at hs2
  obtain ⟨r, hr1, rfl⟩ := List.mem_map.mp hs2
  obtain ⟨h1, h2⟩ := List.mem_filter.mp hr1
  have h2 := of_decide_eq_true h2
  exact ⟨by rw [← h2]; exact h1, hp1⟩
theorem gB_of {ps : Sup} {rs : List Att} (hn : ps.Nodup) (hr : ∀ p ∈ ps, p.2.length ≤ 4) (hp : ps.length ≤ 12) (hz : rs.length ≤ 900) (hs : ∀ a ∈ rs, okRaw ps a) : gB (ps, attsOf ps rs) := by
  have hz2 : (SZ : Nat) = 100000 := rfl
  have h1 := atts_len (rs := rs) ps
  have h2 : ps.length * rs.length ≤ 12 * 900 := Nat.mul_le_mul hp hz
  refine ⟨okB_of hr (by omega) hz hs, by show (attsOf ps rs).length < SZ; omega, by show (attsOf ps rs).length ≤ 20000; omega, hn, hp, fun a ha => ?_⟩
  obtain ⟨ha1, ha2⟩ := mem_atts (show a ∈ attsOf ps rs from ha)
  obtain ⟨⟨l, e, _, h3⟩, _⟩ := hs a ha1
  exact ⟨ha2, by rw [e]; exact setP_nd l, fun p hp => by rw [e] at hp; exact h3 p (mem_setP.mp hp)⟩
/-- .. with few attacks -/
structure gB2 (b : Board) : Prop where
  g : gB b
  l : b.2.length ≤ 11000
  n8 : b.1.length ≤ 8
theorem gB2_of {ps : Sup} {rs : List Att} (hn : ps.Nodup) (hr : ∀ p ∈ ps, p.2.length ≤ 4) (hp : ps.length ≤ 8) (hz : rs.length ≤ 900) (hs : ∀ a ∈ rs, okRaw ps a) : gB2 (ps, attsOf ps rs) := by
  refine ⟨gB_of hn hr (by omega) hz hs, ?_, hp⟩
  have h1 := atts_len (rs := rs) ps
  have h2 : ps.length * rs.length ≤ 8 * 900 := Nat.mul_le_mul hp hz
  show (attsOf ps rs).length ≤ 11000
  omega
end K93
namespace HS
open PySem L2
def disM (n : Nat) (p q : Pl) : Prop := ∀ k, k < n → p k = true → q k = false
def notM (p : Pl) : Pl := fun k => !p k
def isPos (n : Nat) (cs : Cd) (p : Pl) : Prop := disM n (hitF n cs p) p ∧ leM n p (defF n cs p)
def isFull (n : Nat) (cs : Cd) (p : Pl) : Prop := disM n (hitF n cs p) p ∧ eqM n (defF n cs p) p
def isFirm (n : Nat) (cs : Cd) (p : Pl) : Prop := eqM n (hitF n cs p) (notM p)
def isMax (n : Nat) (cs : Cd) (p : Pl) : Prop := isPos n cs p ∧ ∀ q, isPos n cs q → leM n p q → eqM n p q
section
variable {n : Nat} {cs ds es : Cd} {p q r l h : Pl}
theorem disM.mono (d : disM n p q) (a : leM n r p) (b : leM n l q) : disM n r l := fun k hk e => by
  have h1 := d k hk (a k hk e)
  cases e2 : l k with
  | false => rfl
  | true => rw [b k hk e2] at h1; cases h1
theorem hit_eqM (a : eqM n p q) : eqM n (hitF n cs p) (hitF n cs q) := (hitF_mono (fun _ h => h) a.le).anti (hitF_mono (fun _ h => h) a.symm.le)
theorem def_eqM (a : eqM n p q) : eqM n (defF n cs p) (defF n cs q) := defF_mono.eq a
theorem isPos.congr (a : eqM n p q) (h : isPos n cs p) : isPos n cs q := ⟨h.1.mono (hit_eqM a).symm.le a.symm.le, (a.symm.le.trans h.2).trans (def_eqM a).le⟩
theorem isFull.congr (a : eqM n p q) (h : isFull n cs p) : isFull n cs q := ⟨h.1.mono (hit_eqM a).symm.le a.symm.le, ((def_eqM a).symm.trans h.2).trans a⟩
theorem not_eqM (a : eqM n p q) : eqM n (notM p) (notM q) := fun k hk => by unfold notM; rw [a k hk]
theorem isFirm.congr (a : eqM n p q) (h : isFirm n cs p) : isFirm n cs q := ((hit_eqM a).symm.trans h).trans (not_eqM a)
theorem isFull.pos (h : isFull n cs p) : isPos n cs p := ⟨h.1, h.2.symm.le⟩
theorem isFirm.full (h : isFirm n cs p) : isFull n cs p := by
  have d : disM n (hitF n cs p) p := fun k hk e => by
    have := h k hk
    rw [e] at this
    unfold notM at this
    cases z : p k with
    | false => rfl
    | true => rw [z] at this; cases this
  refine ⟨d, leM.anti (fun k hk e => ?_) (fun k hk e => ?_)⟩
  · cases z : p k with
    | true => rfl
    | false =>
      have h1 : hitF n cs p k = true := by rw [h k hk]; unfold notM; rw [z]; rfl
      obtain ⟨c, hc, e1, e2⟩ := hitF_iff.mp h1
      obtain ⟨j, hj, e3, e4⟩ := safeF_iff.mp e c hc e1
      have := d j hj e4
      rw [e2 j hj e3] at this
      cases this
  · refine safeF_iff.mpr fun c hc e1 => ?_
    apply Classical.byContradiction
    intro hn
    have : hitF n cs p k = true := hitF_iff.mpr ⟨c, hc, e1, fun j hj e2 => by
      cases z : p j with
      | true => rfl
      | false =>
        exfalso
        refine hn ⟨j, hj, e2, ?_⟩
        rw [h j hj]; unfold notM; rw [z]; rfl⟩
    rw [d k hk this] at e
    cases e
/-- what a position defends is a position -/
theorem isPos.next (h : isPos n cs p) : isPos n cs (defF n cs p) := by
  refine ⟨fun k hk e => ?_, defF_mono _ _ h.2⟩
  cases z : defF n cs p k with
  | false => rfl
  | true =>
    obtain ⟨c, hc, e1, e2⟩ := hitF_iff.mp e
    obtain ⟨j, hj, e3, e4⟩ := safeF_iff.mp z c hc e1
    obtain ⟨d, hd, e5, e6⟩ := hitF_iff.mp e4
    obtain ⟨i, hi, e7, e8⟩ := safeF_iff.mp (e2 j hj e3) d hd e5
    have := h.1 i hi e8
    rw [e6 i hi e7] at this
    cases this
/-- around each position lies a greatest one -/
theorem max_around (h : isPos n cs p) : ∃ q, isMax n cs q ∧ leM n p q := by
  obtain ⟨t, ⟨q, h1, h2, h3⟩, h4⟩ := least_of (P := fun t => ∃ q, isPos n cs q ∧ leM n p q ∧ n - cntM n q = t) (n - cntM n p) ⟨p, h, leM.refl, rfl⟩
  refine ⟨q, ⟨h1, fun r hr hle => ?_⟩, h2⟩
  apply Classical.byContradiction
  intro hne
  have c1 := cntM_mono hle
  have c2 : cntM n q ≠ cntM n r := fun e => hne (cntM_eq hle e)
  have c3 := cntM_le r n
  exact h4 (n - cntM n r) (by omega) ⟨r, hr, h2.trans hle, rfl⟩
theorem isMax.full (h : isMax n cs p) : isFull n cs p := ⟨h.1.1, (h.2 _ h.1.next h.1.2).symm⟩
theorem isMax.congr (a : eqM n p q) (h : isMax n cs p) : isMax n cs q := ⟨h.1.congr a, fun r hr hle => a.symm.trans (h.2 r hr (a.le.trans hle))⟩
end
inductive Way where
  | least | some | someFirm | everyFirm | everyGreatest
deriving DecidableEq
/-- one of the sets lies within m -/
def hasP (n : Nat) (P : List Pl) (m : Pl) : Bool := P.any fun s => subB n s m
def stnd (n : Nat) (cs : Cd) (P : List Pl) : Way → Prop
  | .least => hasP n P (lfp n (defF n cs)) = true
  | .some => ∃ p, isPos n cs p ∧ hasP n P p = true
  | .someFirm => ∃ p, isFirm n cs p ∧ hasP n P p = true
  | .everyFirm => ∀ p, isFirm n cs p → hasP n P p = true
  | .everyGreatest => ∀ p, isMax n cs p → hasP n P p = true
section
variable {n : Nat} {cs ds es : Cd} {p q r l h : Pl} {P : List Pl}
end
structure StepOk (n : Nat) (T : Pl → Prop) (st : Pl → Pl → Pl × Pl) : Prop where
  lo : ∀ l h, leM n l (st l h).1
  hi : ∀ l h, leM n (st l h).2 h
  keep : ∀ l h p, T p → leM n l p → leM n p h → leM n (st l h).1 p ∧ leM n p (st l h).2
  fix : ∀ l h, eqM n (st l h).1 l → eqM n (st l h).2 h → eqM n l h → T l
  cong : ∀ p q, eqM n p q → T p → T q
def stFull (n : Nat) (cs : Cd) (l h : Pl) : Pl × Pl := (fun k => l k || safeF n cs (hitF n cs l) k, fun k => (h k && defF n cs h k) && !hitF n cs l k)
def stFirm (n : Nat) (cs : Cd) (l h : Pl) : Pl × Pl := (fun k => l k || !hitF n cs h k, fun k => h k && !hitF n cs l k)
end HS
namespace HS
open PySem L2
abbrev Iv := Pl × Pl
def inI (n : Nat) (v : Iv) (p : Pl) : Prop := leM n v.1 p ∧ leM n p v.2
def gapM (v : Iv) : Pl := fun k => v.2 k && !v.1 k
def und (n : Nat) (v : Iv) : Nat := cntM n (gapM v)
def wt (n : Nat) (v : Iv) : Nat := 2 ^ (und n v + 1) - 1
def wts (n : Nat) (K : List Iv) : Nat := (K.map (wt n)).sum
def allM : Pl := fun _ => true
/-- without, with the place k -/
def vOut (v : Iv) (k : Nat) : Iv := (v.1, fun j => v.2 j && !decide (j = k))
def vIn (v : Iv) (k : Nat) : Iv := (fun j => v.1 j || decide (j = k), v.2)
section
variable {n k : Nat} {v w : Iv} {p q : Pl} {K : List Iv}
theorem cntM_drop {p q : Pl} : ∀ {n k : Nat}, k < n → p k = true → q k = false → (∀ j, j ≠ k → q j = p j) → cntM n q + 1 = cntM n p
  | 0, k, h, _, _, _ => by omega
  | n + 1, k, h, hp, hq, he => by
    rw [cntM, cntM]
    by_cases e : k = n
    · subst e
      rw [if_pos hp, if_neg (by rw [hq]; decide)]
      have : cntM k q = cntM k p := by
        have h1 : eqM k q p := fun j hj => he j (by omega)
        have := cntM_mono h1.le
        have := cntM_mono h1.symm.le
        omega
      omega
    · have ih := cntM_drop (n := n) (by omega) hp hq he
      rw [he n (fun z => e z.symm)]
      omega
theorem wt_pos : 1 ≤ wt n v := by
  unfold wt
  have : 2 ^ 1 ≤ 2 ^ (und n v + 1) := Nat.pow_le_pow_right (by decide) (by omega)
  omega
theorem und_le (h1 : leM n v.1 w.1) (h2 : leM n w.2 v.2) : und n w ≤ und n v := cntM_mono fun k hk e => by
  unfold gapM at e ⊢
  rw [Bool.and_eq_true, Bool.not_eq_true'] at e ⊢
  refine ⟨h2 k hk e.1, ?_⟩
  cases z : v.1 k with
  | false => rfl
  | true => rw [h1 k hk z] at e; cases e.2
theorem wt_le (h1 : leM n v.1 w.1) (h2 : leM n w.2 v.2) : wt n w ≤ wt n v := by
  unfold wt
  have := Nat.pow_le_pow_right (n := 2) (by decide) (Nat.succ_le_succ (und_le h1 h2))
  have h : 2 ^ (und n w + 1) ≤ 2 ^ (und n v + 1) := this
  omega
theorem wt_top : wt n v ≤ 2 ^ (n + 1) - 1 := by
  unfold wt
  have h1 : und n v ≤ n := cntM_le _ n
  have : 2 ^ (und n v + 1) ≤ 2 ^ (n + 1) := Nat.pow_le_pow_right (by decide) (by omega)
  omega
theorem wt_half (hk : k < n) (hg : gapM v k = true) : wt n (vIn v k) + wt n (vOut v k) + 1 ≤ wt n v := by
  have h0 : v.2 k = true ∧ v.1 k = false := by
    unfold gapM at hg
    simpa using hg
  have e1 : und n (vIn v k) + 1 = und n v := cntM_drop hk hg (by simp [gapM, vIn]) fun j hj => by simp [gapM, vIn, hj]
  have e2 : und n (vOut v k) + 1 = und n v := cntM_drop hk hg (by simp [gapM, vOut]) fun j hj => by simp [gapM, vOut, hj]
  unfold wt
  rw [e1, e2, Nat.pow_succ]
  have : 1 ≤ 2 ^ und n v := Nat.one_le_two_pow
  omega
theorem in_half (hk : k < n) (h : inI n v p) : (p k = true → inI n (vIn v k) p) ∧ (p k = false → inI n (vOut v k) p) := by
  refine ⟨fun e => ⟨fun j hj z => ?_, h.2⟩, fun e => ⟨h.1, fun j hj z => ?_⟩⟩
  · simp only [vIn, Bool.or_eq_true, decide_eq_true_eq] at z
    rcases z with z | z
    · exact h.1 j hj z
    · rw [z]; exact e
  · have : j ≠ k := fun y => by rw [y, e] at z; cases z
    simp [vOut, h.2 j hj z, this]
theorem of_in (hk : k < n) (hg : gapM v k = true) (h : inI n (vIn v k) p) : inI n v p ∧ p k = true := ⟨⟨fun j hj z => h.1 j hj (by simp [vIn, z]), h.2⟩, h.1 k hk (by simp [vIn])⟩
theorem of_out (h : inI n (vOut v k) p) : inI n v p := ⟨h.1, fun j hj z => by
  have := h.2 j hj z
  simp only [vOut, Bool.and_eq_true] at this
  exact this.1⟩
theorem in_le : leM n v.1 (vIn v k).1 := fun j _ z => by simp [vIn, z]
/-- what narrowing tells -/
def NarR (n : Nat) (T : Pl → Prop) (v : Iv) : Option Iv → Prop
  | none => ∀ p, T p → ¬ inI n v p
  | some w => leM n w.1 w.2 ∧ leM n v.1 w.1 ∧ leM n w.2 v.2 ∧ (∀ p, T p → inI n v p → inI n w p) ∧ (eqM n w.1 w.2 → T w.1)
structure SInv (n : Nat) (T : Pl → Prop) (need : Pl) (F : List Pl) (K : List Iv) : Prop where
  a : ∀ q ∈ F, T q ∧ leM n need q
  b : ∀ p, T p → leM n need p → (∃ q ∈ F, eqM n q p) ∨ ∃ v ∈ K, inI n v p
  c : ∀ v ∈ K, leM n need v.1
  w : F.length + wts n K ≤ 2 ^ (n + 1)
theorem wts_cons : wts n (v :: K) = wt n v + wts n K := by simp [wts]
theorem SInv.start {T : Pl → Prop} {need : Pl} : SInv n T need [] [(need, allM)] where
  a := fun q h => by cases h
  b := fun p _ h => .inr ⟨_, List.mem_singleton.mpr rfl, h, fun _ _ _ => rfl⟩
  c := fun v h => by rw [List.mem_singleton.mp h]; exact leM.refl
  w := by
    rw [wts_cons]
    have := wt_top (n := n) (v := (need, allM))
    have h1 : 1 ≤ 2 ^ (n + 1) := Nat.one_le_two_pow
    simp [wts]
    omega
section
variable {T : Pl → Prop} {need : Pl} {F : List Pl}
theorem SInv.drop (h : SInv n T need F (v :: K)) (r : NarR n T v none) : SInv n T need F K where
  a := h.a
  b := fun p hp hn => by
    rcases h.b p hp hn with z | ⟨u, hu, z⟩
    · exact .inl z
    · rcases List.mem_cons.mp hu with e | e
      · rw [e] at z; exact absurd z (r p hp)
      · exact .inr ⟨u, e, z⟩
  c := fun u hu => h.c u (List.mem_cons_of_mem _ hu)
  w := by have := h.w; rw [wts_cons] at this; omega
theorem SInv.found (h : SInv n T need F (v :: K)) (r : NarR n T v (some w)) (e : eqM n w.1 w.2) : SInv n T need (F ++ [w.1]) K where
  a := fun q hq => by
    rcases List.mem_append.mp hq with z | z
    · exact h.a q z
    · rw [List.mem_singleton.mp z]
      exact ⟨r.2.2.2.2 e, (h.c v List.mem_cons_self).trans r.2.1⟩
  b := fun p hp hn => by
    rcases h.b p hp hn with ⟨q, hq, z⟩ | ⟨u, hu, z⟩
    · exact .inl ⟨q, List.mem_append_left _ hq, z⟩
    · rcases List.mem_cons.mp hu with y | y
      · rw [y] at z
        have h1 := r.2.2.2.1 p hp z
        exact .inl ⟨w.1, List.mem_append_right _ (List.mem_singleton.mpr rfl), h1.1.anti (h1.2.trans e.symm.le)⟩
      · exact .inr ⟨u, y, z⟩
  c := fun u hu => h.c u (List.mem_cons_of_mem _ hu)
  w := by
    have := h.w
    rw [wts_cons] at this
    have := wt_pos (n := n) (v := v)
    simp
    omega
theorem SInv.split (h : SInv n T need F (v :: K)) (r : NarR n T v (some w)) (hk : k < n) (hg : gapM w k = true) : SInv n T need F (vIn w k :: vOut w k :: K) where
  a := h.a
  b := fun p hp hn => by
    rcases h.b p hp hn with z | ⟨u, hu, z⟩
    · exact .inl z
    · rcases List.mem_cons.mp hu with y | y
      · rw [y] at z
        have h1 := in_half hk (r.2.2.2.1 p hp z)
        cases e : p k with
        | true => exact .inr ⟨_, List.mem_cons_self, h1.1 e⟩
        | false => exact .inr ⟨_, List.mem_cons_of_mem _ List.mem_cons_self, h1.2 e⟩
      · exact .inr ⟨u, List.mem_cons_of_mem _ (List.mem_cons_of_mem _ y), z⟩
  c := fun u hu => by
    have h0 := (h.c v List.mem_cons_self).trans r.2.1
    rcases List.mem_cons.mp hu with y | y
    · rw [y]; exact h0.trans in_le
    · rcases List.mem_cons.mp y with y | y
      · rw [y]; exact h0
      · exact h.c u (List.mem_cons_of_mem _ y)
  w := by
    have h1 := h.w
    rw [wts_cons] at h1
    rw [wts_cons, wts_cons]
    have h2 := wt_half hk hg
    have h3 := wt_le r.2.1 r.2.2.1
    omega
end
def OrdS (n : Nat) (cs : Cd) : (Pl → Prop) → List Iv → Prop
  | _, [] => True
  | C, v :: K => (∀ t t', isFull n cs t → inI n v t → isFull n cs t' → leM n t t' → C t' ∨ inI n v t') ∧ OrdS n cs (fun p => C p ∨ inI n v p) K
section
variable {cs : Cd} {F : List Pl}
theorem OrdS.mono {C D : Pl → Prop} (h : ∀ p, isFull n cs p → C p → D p) : ∀ {K : List Iv}, OrdS n cs C K → OrdS n cs D K
  | [], _ => trivial
  | v :: K, ⟨a, b⟩ => ⟨fun t t' h1 h2 h3 h4 => (a t t' h1 h2 h3 h4).imp (h t' h3) id, OrdS.mono (fun p hp z => z.imp (h p hp) id) b⟩
def covB (n : Nat) (F : List Pl) (p : Pl) : Prop := ∃ f ∈ F, leM n p f
structure GInv (n : Nat) (cs : Cd) (F : List Pl) (K : List Iv) : Prop where
  a : ∀ q ∈ F, isMax n cs q
  b : ∀ p, isMax n cs p → (∃ q ∈ F, eqM n q p) ∨ ∃ v ∈ K, inI n v p
  o : OrdS n cs (covB n F) K
  w : F.length + wts n K ≤ 2 ^ (n + 1)
theorem GInv.start : GInv n cs [] [((fun _ => false), allM)] where
  a := fun q h => by cases h
  b := fun p _ => .inr ⟨_, List.mem_singleton.mpr rfl, leM.bot, fun _ _ _ => rfl⟩
  o := ⟨fun t t' _ _ _ _ => .inr ⟨leM.bot, fun _ _ _ => rfl⟩, trivial⟩
  w := by
    rw [wts_cons]
    have := wt_top (n := n) (v := ((fun _ => false), allM))
    have h1 : 1 ≤ 2 ^ (n + 1) := Nat.one_le_two_pow
    simp [wts]
    omega
theorem GInv.drop (h : GInv n cs F (v :: K)) (r : NarR n (isFull n cs) v none) : GInv n cs F K where
  a := h.a
  b := fun p hp => by
    rcases h.b p hp with z | ⟨u, hu, z⟩
    · exact .inl z
    · rcases List.mem_cons.mp hu with e | e
      · rw [e] at z; exact absurd z (r p hp.full)
      · exact .inr ⟨u, e, z⟩
  o := OrdS.mono (fun p hp z => z.elim id fun y => absurd y (r p hp)) h.o.2
  w := by have := h.w; rw [wts_cons] at this; omega
theorem GInv.found (h : GInv n cs F (v :: K)) (r : NarR n (isFull n cs) v (some w)) (hc : ¬ covB n F w.2) (e : eqM n w.1 w.2) : GInv n cs (F ++ [w.1]) K := by
  have hf := r.2.2.2.2 e
  have hv : inI n v w.1 := ⟨r.2.1, e.le.trans r.2.2.1⟩
  have hm : isMax n cs w.1 := ⟨hf.pos, fun q hq hle => by
    obtain ⟨q2, h1, h2⟩ := max_around hq
    rcases h.o.1 w.1 q2 hf hv h1.full (hle.trans h2) with ⟨f, hf2, hle2⟩ | z
    · exact absurd ⟨f, hf2, e.symm.le.trans ((hle.trans h2).trans hle2)⟩ hc
    · exact hle.anti (h2.trans ((r.2.2.2.1 q2 h1.full z).2.trans e.symm.le))⟩
  refine ⟨fun q hq => ?_, fun p hp => ?_, ?_, ?_⟩
  · rcases List.mem_append.mp hq with z | z
    · exact h.a q z
    · rw [List.mem_singleton.mp z]; exact hm
  · rcases h.b p hp with ⟨q, hq, z⟩ | ⟨u, hu, z⟩
    · exact .inl ⟨q, List.mem_append_left _ hq, z⟩
    · rcases List.mem_cons.mp hu with y | y
      · rw [y] at z
        have h1 := r.2.2.2.1 p hp.full z
        exact .inl ⟨w.1, List.mem_append_right _ (List.mem_singleton.mpr rfl), h1.1.anti (h1.2.trans e.symm.le)⟩
      · exact .inr ⟨u, y, z⟩
  · refine OrdS.mono (fun p hp z => ?_) h.o.2
    rcases z with ⟨f, hf, hle⟩ | z
    · exact ⟨f, List.mem_append_left _ hf, hle⟩
    · exact ⟨w.1, List.mem_append_right _ (List.mem_singleton.mpr rfl), (r.2.2.2.1 p hp z).2.trans e.symm.le⟩
  · have := h.w
    rw [wts_cons] at this
    have := wt_pos (n := n) (v := v)
    simp
    omega
theorem GInv.split (h : GInv n cs F (v :: K)) (r : NarR n (isFull n cs) v (some w)) (hk : k < n) (hg : gapM w k = true) : GInv n cs F (vIn w k :: vOut w k :: K) := by
  have up : ∀ p, inI n w p → inI n v p := fun p hp => ⟨r.2.1.trans hp.1, hp.2.trans r.2.2.1⟩
  refine ⟨h.a, fun p hp => ?_, ⟨fun t t' h1 h2 h3 h4 => ?_, fun t t' h1 h2 h3 h4 => ?_, ?_⟩, ?_⟩
  · rcases h.b p hp with z | ⟨u, hu, z⟩
    · exact .inl z
    · rcases List.mem_cons.mp hu with y | y
      · rw [y] at z
        have h1 := in_half hk (r.2.2.2.1 p hp.full z)
        cases e : p k with
        | true => exact .inr ⟨_, List.mem_cons_self, h1.1 e⟩
        | false => exact .inr ⟨_, List.mem_cons_of_mem _ List.mem_cons_self, h1.2 e⟩
      · exact .inr ⟨u, List.mem_cons_of_mem _ (List.mem_cons_of_mem _ y), z⟩
  · obtain ⟨h5, h6⟩ := of_in hk hg h2
    exact (h.o.1 t t' h1 (up _ h5) h3 h4).imp id fun z => (in_half hk (r.2.2.2.1 t' h3 z)).1 (h4 k hk h6)
  · have h5 := of_out h2
    rcases h.o.1 t t' h1 (up _ h5) h3 h4 with z | z
    · exact .inl (.inl z)
    · have h6 := in_half hk (r.2.2.2.1 t' h3 z)
      cases e : t' k with
      | true => exact .inl (.inr (h6.1 e))
      | false => exact .inr (h6.2 e)
  · refine OrdS.mono (fun p hp z => ?_) h.o.2
    rcases z with z | z
    · exact .inl (.inl z)
    · have h6 := in_half hk (r.2.2.2.1 p hp z)
      cases e : p k with
      | true => exact .inl (.inr (h6.1 e))
      | false => exact .inr (h6.2 e)
  · have h1 := h.w
    rw [wts_cons] at h1
    rw [wts_cons, wts_cons]
    have h2 := wt_half hk hg
    have h3 := wt_le r.2.1 r.2.2.1
    omega
end
end
end HS
namespace K93
open PySem L2 HS
/-- a for loop that changes the locals alone -/
theorem for_acc {α β : Type} {it : EvI} {tg : Tg} {body : Sv} {η : HS.Env} {S S0 : Sto} {chk : Sto → Prop} {as : List α} {g : α → D} {b0 : β} (F : β → α → β) (R : β → HS.Env → Prop) (hi : it η S0 = some (⟨as.map g, chk⟩, S)) (hc : chk S) (h0 : R b0 η)
    (hs : ∀ a ∈ as, ∀ b η, R b η → ∃ η1 η2, tg (g a) η = some η1 ∧ body η1 S = some (.nx, η2, S) ∧ R (F b a) η2) : ∃ η', sFor it tg body η S0 = some (.nx, η', S) ∧ R (as.foldl F b0) η' := by
  obtain ⟨η', S', h1, h2, h3⟩ := for_ind (fun k η S' => S' = S ∧ R ((as.take k).foldl F b0) η) hi ⟨rfl, h0⟩ (fun k η S' _ h => by rw [h.1]; exact hc) (fun k x η S' hx ⟨h1, h2⟩ => by
    subst h1
    rw [List.getElem?_map] at hx
    obtain ⟨a, h5, rfl⟩ := Option.map_eq_some_iff.mp hx
    obtain ⟨η1, η2, h6, h7, h8⟩ := hs a (List.mem_of_getElem? h5) _ η h2
    refine ⟨η1, η2, S', h6, .inl h7, rfl, ?_⟩
    rw [List.take_add_one, h5, List.foldl_append]
    exact h8)
  rw [List.length_map, List.take_of_length_le (Nat.le_refl _)] at h3
  subst h2
  exact ⟨η', h1, h3⟩
/-- places are gathered -/
def orF {α : Type} (t : α → Bool) (pos : α → Nat) : Pl → α → Pl := fun m a k => m k || (decide (pos a = k) && t a)
theorem foldl_orF {α : Type} {t : α → Bool} {pos : α → Nat} {k : Nat} : ∀ (as : List α) (m : Pl), (as.foldl (orF t pos) m) k = (m k || as.any fun a => decide (pos a = k) && t a)
  | [], m => by simp
  | a :: as, m => by
    rw [List.foldl_cons, foldl_orF as, List.any_cons]
    unfold orF
    rw [Bool.or_assoc]
theorem orF_yes {α : Type} {t : α → Bool} {pos : α → Nat} {n : Nat} {m : Pl} {a : α} (h : t a = true) (hp : pos a < n) : Builtin.bitOr (IM n m) (2 ^ pos a) = IM n (orF t pos m a) := by
  rw [IM_one hp, IM_or]
  refine IM_congr fun k hk => ?_
  unfold orF
  rw [h, Bool.and_true]
  simp [eq_comm]
theorem orF_no {α : Type} {t : α → Bool} {pos : α → Nat} {n : Nat} {m : Pl} {a : α} (h : t a = false) : IM n m = IM n (orF t pos m a) := by
  refine IM_congr fun k hk => ?_
  unfold orF
  rw [h, Bool.and_false, Bool.or_false]
def supP (ps : Sup) (s : Sup) : Pl := fun k => match ps[k]? with
  | some x => decide (x ∈ s)
  | none => false
theorem idx_iff {ps : Sup} (hn : ps.Nodup) {k : Nat} (hk : k < ps.length) {x : Piece} : ps.idxOf x = k ∧ x ∈ ps ↔ ps[k] = x := by
  constructor
  · rintro ⟨rfl, h⟩
    exact List.getElem_idxOf hk
  · intro h
    have hm : x ∈ ps := by rw [← h]; exact List.getElem_mem hk
    refine ⟨?_, hm⟩
    have h2 := List.idxOf_lt_length_of_mem hm
    have h3 : ps[ps.idxOf x] = ps[k] := by rw [List.getElem_idxOf h2, h]
    exact Decidable.byContradiction fun z => (List.nodup_iff_pairwise_ne.mp hn |> fun hp => by
      rcases Nat.lt_or_gt_of_ne z with hh | hh
      · exact (List.pairwise_iff_getElem.mp hp _ _ h2 hk hh) h3
      · exact (List.pairwise_iff_getElem.mp hp _ _ hk h2 hh) h3.symm)
theorem sup_any {ps s : Sup} (hn : ps.Nodup) {k : Nat} (hk : k < ps.length) : (s.any fun x => decide (ps.idxOf x = k) && decide (x ∈ ps)) = supP ps s k := by
  unfold supP
  rw [List.getElem?_eq_getElem hk, Bool.eq_iff_iff]
  simp only [List.any_eq_true, Bool.and_eq_true, decide_eq_true_eq]
  constructor
  · rintro ⟨x, hx, h⟩
    rw [(idx_iff hn hk).mp h]; exact hx
  · intro h
    exact ⟨_, h, (idx_iff hn hk).mpr rfl⟩
section
variable {A S : Sto}
theorem mask_of_spec {ps s : Sup} (hn : ps.Nodup) (hz : ps.length ≤ 1000000) : c_mask_of [dicP ps, dv s] A = some (.int (IM ps.length (supP ps s)), false, A) := by
  obtain ⟨η', h1, o, rfl⟩ := for_acc (it := iE (eVar 1)) (tg := HS.gN 3) (body := b_mask_of_1) (η := [some (dicP ps), some (dv s), some (.int 0), none]) (S := A) (S0 := A) (chk := chkS (dv s) (s.map dv)) (as := s) (g := dv) (b0 := fun _ => false) (orF (fun x => decide (x ∈ ps)) (fun x => ps.idxOf x))
    (fun m η => ∃ o, η = [some (dicP ps), some (dv s), some (.int (IM ps.length m)), o]) (by
      have e : (dv s : D) = .tup (s.map dv) := rfl
      generalize s.map dv = L at *
      simp [e]) rfl ⟨none, by rw [IM_zero]⟩ (fun x hx m η ⟨o, e⟩ => by
      subst e
      refine ⟨_, _, rfl, ?_, some (dv x), rfl⟩
      unfold b_mask_of_1
      generalize (dv s : D) = X
      by_cases h : x ∈ ps
      · have h2 := List.idxOf_lt_length_of_mem h
        have h3 := fun S => q_shl1 (S := S) (n := ps.idxOf x) (by omega)
        have h4 := orF_yes (t := fun x => decide (x ∈ ps)) (pos := fun x => ps.idxOf x) (m := m) (n := ps.length) (a := x) (by simpa using h) h2
        simp [h, h3, h4]
      · have h4 := orF_no (t := fun x => decide (x ∈ ps)) (pos := fun x => ps.idxOf x) (m := m) (n := ps.length) (a := x) (by simpa using h)
        simp [h, ← h4])
  have e1 : (IM ps.length (s.foldl (orF (fun x => decide (x ∈ ps)) (fun x => ps.idxOf x)) fun _ => false)) = IM ps.length (supP ps s) := IM_congr fun k hk => by
    rw [foldl_orF, Bool.false_or, sup_any hn hk]
  rw [e1] at h1
  have h1 : l_mask_of_1 _ _ = _ := h1
  unfold c_mask_of m_mask_of
  rw [callsV, V_out]
  generalize (dv s : D) = X at *
  simp [h1]
end
end K93
namespace K93
open PySem L2 HS
section
variable {A E S : Sto}
theorem places_by_spec {ps : Sup} (hn : ps.Nodup) (hz : ps.length ≤ 1000) : c_places_by [dv ps] A = some (dicP ps, false, A) := by
  have hz2 : (SZ : Nat) = 100000 := rfl
  have hk : ∀ a1 a2, k_places_by_1 [some (dv ps), a1, a2] A = some (dicP ps, A) := fun a1 a2 => by
    unfold k_places_by_1 eDc
    have e : (dv ps : D) = .tup (ps.map dv) := rfl
    have h1 : iEnumD (aCons (eVar 0) aNil) [some (dv ps), a1, a2] A = some (⟨enumD (ps.map dv), fun S => seqOf S (dv ps) = some (ps.map dv)⟩, A) := by
      have h2 : seqOf A (dv ps) = some (ps.map dv) := rfl
      have h3 := enK_ h2
      generalize (dv ps : D) = X at *
      simp [h3]
    rw [h1, Option.bind_some]
    simp only
    rw [enum_map]
    have h2 := dcQ (S := A) (chk := fun S => seqOf S (dv ps) = some (ps.map dv)) (η0 := wipeE [some (dv ps), a1, a2] [1, 2]) rfl (tg := gT 2 (HS.gCons (HS.gN 1) (HS.gCons (HS.gN 2) HS.gNil))) (fk := eVar 2) (fv := eVar 1) (fun q => ⟨[some (dv ps), some (.int (q.2 : Nat)), some (dv q.1)], rfl, rfl, rfl⟩) ps.zipIdx [] (by simpa [List.zipIdx_map_fst] using hn) (by simp; omega)
    rw [show ([] : List (D × D)) = dicQ [] from rfl, h2]
    rfl
  unfold c_places_by m_places_by
  rw [callsV, V_out]
  generalize (dv ps : D) = X at *
  generalize dicP ps = Y at *
  simp [hk]
/-- an attack in bits -/
def atD (ps : Sup) (a : Att) : D := .tup [.int (IM ps.length (supP ps a.1)), .int (2 ^ ps.idxOf a.2)]
def flds (b : Board) (x : D) : List (Str × D) := [("pieces", dv b.1), ("places", dicP b.1), ("whole", .int (2 ^ b.1.length - 1)), ("attacks", .lst (b.2.map (atD b.1))), ("onto", x)]
/-- the instance -/
def bbD (b : Board) (x : D) : D := .ins "BitBoard" (flds b x)
theorem init_k1 {b : Board} {fl : List (Str × D)} {a1 a2 a4 : Option D} (hb : gB b) (hf : fl.lookup ("places" : Str) = some (dicP b.1)) : k_BitBoard___init___1 [some (.ref A.length), a1, a2, some (dv b.2), a4, none, none] (V A [.ins "BitBoard" fl]) = some (.lst (b.2.map (atD b.1)), V A [.ins "BitBoard" fl]) := by
  have hz2 : (SZ : Nat) = 100000 := rfl
  have hn := hb.n
  refine lc_all (S := V A [.ins "BitBoard" fl]) (as := b.2) (g := dv) (f := atD b.1) (chk := chkS (dv b.2) (b.2.map dv)) ?_ rfl (Nat.le_of_lt hb.z) fun a ha => ⟨[some (.ref A.length), a1, a2, some (dv b.2), a4, some (dv a.1), some (dv a.2)], rfl, rfl, ?_⟩
  · have e : (dv b.2 : D) = .tup (b.2.map dv) := rfl
    generalize b.2.map dv = L at *
    simp [e]
  · obtain ⟨h1, h2, h3⟩ := hb.t a ha
    have h4 := mask_of_spec (A := V A [.ins "BitBoard" fl]) (ps := b.1) (s := a.1) hb.nd (by omega)
    have h5 := List.idxOf_lt_length_of_mem h1
    have h6 := fun S => q_shl1 (S := S) (n := b.1.idxOf a.2) (by omega)
    have h7 := fun S => q_dGet (S := S) h1
    unfold atD
    generalize (dv b.2 : D) = X at *
    generalize (dv a.1 : D) = Y at *
    generalize (dv a.2 : D) = Z at *
    generalize dicP b.1 = U at *
    simp [hf, h4, h6, h7]
def refL (m n : Nat) : List D := (List.range n).map fun j => D.ref (m + 1 + j)
theorem init_k2 {b : Board} {c : D} {a0 a1 a3 a4 a5 : Option D} (hb : gB b) : k_BitBoard___init___2 [a0, a1, some (dv b.1), a3, a4, a5, none] (V A [c]) = some (.lst (refL A.length b.1.length), V A (c :: List.replicate b.1.length (.lst []))) := by
  have hz2 : (SZ : Nat) = 100000 := rfl
  have hn := hb.n
  obtain ⟨ys, S', h1, h2, h3⟩ := lc_ind (it := iE (eVar 2)) (vs := [6]) (tg := HS.gN 6) (tt := tYesE) (fe := eAl (eLst aNil)) (η := [a0, a1, some (dv b.1), a3, a4, a5, none]) (S0 := V A [c]) (S := V A [c]) (xs := b.1.map dv) (chk := chkS (dv b.1) (b.1.map dv))
    (fun k acc S => acc = refL A.length k ∧ S = V A (c :: List.replicate k (.lst [])))
    (by
      have e : (dv b.1 : D) = .tup (b.1.map dv) := rfl
      generalize b.1.map dv = L at *
      simp [e]) ⟨rfl, rfl⟩ (fun _ _ _ _ => rfl) (fun k acc S h => by rw [h.1]; simp [refL]) (by simp; omega) (fun k x acc S hx ⟨h1, h2⟩ => by
      subst h1 h2
      refine ⟨_, true, _, rfl, rfl, .inl ⟨rfl, .ref (A.length + 1 + k), V A (c :: List.replicate (k + 1) (.lst [])), ?_, ?_, rfl⟩⟩
      · have e : List.replicate (k + 1) (D.lst []) = List.replicate k (.lst []) ++ [.lst []] := by rw [List.replicate_succ']
        rw [e]
        simp
        omega
      · unfold refL
        rw [List.range_succ, List.map_append]
        rfl)
  rw [List.length_map] at h2 h3
  subst h2 h3
  exact h1
def lsD (l : List Nat) : D := .lst (l.map fun k : Nat => D.int k)
end
end K93
namespace K93
open PySem L2 HS
section
variable {A E S : Sto}
theorem len_dv {α : Type} [DV α] {xs : List α} : bLen [dv xs] S = some (.int xs.length, S) := by
  show some (D.int ((xs.map dv).length : Nat), S) = _
  rw [List.length_map]
theorem lk_places {b : Board} : ([("pieces", dv b.1), ("places", dicP b.1), ("whole", .int (2 ^ b.1.length - 1))] : List (Str × D)).lookup ("places" : Str) = some (dicP b.1) := by
  simp only [List.lookup_cons]
  rfl
theorem lk_places2 {b : Board} {x : D} : (flds b x).lookup ("places" : Str) = some (dicP b.1) := by
  unfold flds
  simp only [List.lookup_cons]
  rfl
theorem lk_onto {b : Board} {x : D} : (flds b x).lookup ("onto" : Str) = some x := by
  unfold flds
  simp only [List.lookup_cons]
  rfl
theorem lk_pieces {b : Board} {x : D} : (flds b x).lookup ("pieces" : Str) = some (dv b.1) := by
  unfold flds
  simp only [List.lookup_cons]
  rfl
theorem lk_attacks {b : Board} {x : D} : (flds b x).lookup ("attacks" : Str) = some (.lst (b.2.map (atD b.1))) := by
  unfold flds
  simp only [List.lookup_cons]
  rfl
theorem mapM_to {α β : Type} {f : α → Option β} {g : α → β} : ∀ {xs : List α}, (∀ x ∈ xs, f x = some (g x)) → xs.mapM f = some (xs.map g)
  | [], _ => rfl
  | x :: xs, h => by
    rw [List.mapM_cons, h x List.mem_cons_self, mapM_to fun y hy => h y (List.mem_cons_of_mem _ hy)]
    rfl
theorem fz_dicP {ps : Sup} {k n : Nat} {T : Sto} : fzD (k + 2) n T (dicP ps) = some (dicP ps) := by
  unfold dicP
  rw [fzD]
  have h1 : ((dicQ ps.zipIdx).all fun x => clo n x.1) = true := by
    unfold dicQ
    rw [List.all_map, List.all_eq_true]
    intro q _
    exact pl_clo (DV.hpl q.1)
  rw [if_pos h1]
  have h2 : (dicQ ps.zipIdx).mapM (fun x => (fzD (k + 1) n T x.2).map fun y => (x.1, y)) = some (dicQ ps.zipIdx) := by
    have := mapM_to (xs := dicQ ps.zipIdx) (f := fun x => (fzD (k + 1) n T x.2).map fun y => (x.1, y)) (g := id) fun x hx => by
      unfold dicQ at hx
      obtain ⟨q, _, rfl⟩ := List.mem_map.mp hx
      rfl
    rw [List.map_id] at this
    exact this
  rw [h2]
  rfl
theorem pl_atD {ps : Sup} {l : List Att} : pl 2 (.lst (l.map (atD ps))) = true := by
  simp [pl, atD]
theorem fz_bb {b : Board} {ls : List (List Nat)} {k : Nat} (hk : 10 ≤ k) (hl : ls.length = b.1.length) :
    fzD (k + 1) A.length (V A (.ins "BitBoard" (flds b (.lst (refL A.length b.1.length))) :: ls.map lsD)) (.ins "BitBoard" (flds b (.lst (refL A.length b.1.length)))) = some (bbD b (.lst (ls.map lsD))) := by
  obtain ⟨j, rfl⟩ : ∃ j, k = j + 3 := ⟨k - 3, by omega⟩
  obtain ⟨T, hT⟩ : ∃ T, T = V A (.ins "BitBoard" (flds b (.lst (refL A.length b.1.length))) :: ls.map lsD) := ⟨_, rfl⟩
  rw [← hT, fzD]
  have h1 : fzD (j + 3) A.length T (dv b.1) = some (dv b.1) := pl_fz (n := 3) (DV.hpl b.1) (by omega)
  have h2 : fzD (j + 3) A.length T (dicP b.1) = some (dicP b.1) := fz_dicP
  have h3 : fzD (j + 3) A.length T (.int (2 ^ b.1.length - 1)) = some (.int (2 ^ b.1.length - 1)) := rfl
  have h4 : fzD (j + 3) A.length T (.lst (b.2.map (atD b.1))) = some (.lst (b.2.map (atD b.1))) := pl_fz pl_atD (by omega)
  have h5 : fzD (j + 3) A.length T (.lst (refL A.length b.1.length)) = some (.lst (ls.map lsD)) := by
    rw [fzD]
    have e : (refL A.length b.1.length).mapM (fzD (j + 2) A.length T) = some (ls.map lsD) := by
      unfold refL
      rw [List.mapM_map]
      have := mapM_to (xs := List.range b.1.length) (f := fzD (j + 2) A.length T ∘ fun j => D.ref (A.length + 1 + j)) (g := fun i => lsD (ls.getD i [])) fun i hi => by
        have hi : i < b.1.length := by simpa using hi
        show fzD (j + 2) A.length T (.ref (A.length + 1 + i)) = _
        rw [fzD, if_neg (by omega), hT]
        have e1 : A.length + 1 + i = A.length + (i + 1) := by omega
        rw [e1, V_E, List.getElem?_cons_succ, List.getElem?_map, List.getElem?_eq_getElem (by omega)]
        simp only [Option.map_some, Option.bind_some]
        rw [List.getD_eq_getElem?_getD, List.getElem?_eq_getElem (by omega), Option.getD_some]
        exact pl_fz (n := 1) (by simp [pl, lsD]) (by omega)
      rw [this]
      congr 1
      apply List.ext_getElem
      · simp [hl]
      · intro i h1 h2
        have h1 : i < b.1.length := by simpa using h1
        simp [hl, h1]
    rw [e]; rfl
  unfold flds
  simp only [List.mapM_cons, List.mapM_nil, h1, h2, h3, h4, h5]
  rfl
end
end K93
namespace K93
open PySem L2 HS
/-- the pieces at the places of a mask -/
def pcN (ps : Sup) (k : Nat) : Piece := ps.getD k (zs 1, [])
def setB (ps : Sup) (p : Pl) : Sup := (plsF ps.length p).map (pcN ps)
theorem pls_lt {n k : Nat} {p : Pl} (h : k ∈ plsF n p) : k < n := by
  unfold plsF at h
  simpa using (List.mem_filter.mp h).1
theorem pls_len {n : Nat} {p : Pl} : (plsF n p).length ≤ n := by
  unfold plsF
  have := List.length_filter_le p (List.range n)
  simpa using this
section
variable {A E S : Sto}
theorem pc_ix {ps : Sup} {k : Nat} (h : k < ps.length) : oIx (dv ps) (.int (k : Int)) S = some (dv (pcN ps k), S) := by
  have e : (dv ps : D) = .tup (ps.map dv) := rfl
  rw [e, q_ixt, atIn (k := k) (x := dv (pcN ps k)) ?_]
  · rfl
  · rw [List.getElem?_map, List.getElem?_eq_getElem h]
    unfold pcN
    rw [List.getD_eq_getElem?_getD, List.getElem?_eq_getElem h]
    rfl
end
end K93
namespace K93
open PySem L2 HS
/-- an ascending list of pieces -/
structure Asc (U : Sup) : Prop where
  nd : U.Nodup
  so : U.Pairwise fun a b => PySem.W.dataLe false pP a b = true
theorem dd_sub {α : Type} [DecidableEq α] : ∀ (xs f : List α), List.Sublist (xs.foldl ddF f) (f ++ xs)
  | [], f => by simp
  | x :: xs, f => by
    rw [List.foldl_cons]
    refine (dd_sub xs (ddF f x)).trans ?_
    unfold ddF
    split
    · exact List.Sublist.append (List.Sublist.refl f) (List.sublist_cons_self x xs)
    · rw [List.append_assoc]
      exact List.Sublist.refl _
theorem asc_setP (l : List Piece) : Asc (setP l) := by
  refine ⟨setP_nd l, ?_⟩
  have h := dd_sub (srt pP l) []
  rw [List.nil_append] at h
  exact (srt_sorted (kp := pP) l).sublist h
theorem asc_ext {l r : Sup} (h1 : Asc l) (h2 : Asc r) (h : ∀ x, x ∈ l ↔ x ∈ r) : l = r :=
  List.Perm.eq_of_pairwise (le := fun a b => PySem.W.dataLe false pP a b = true) (fun a b _ _ h1 h2 => le_anti' alP evP h1 h2) h1.so h2.so ((List.perm_ext_iff_of_nodup h1.nd h2.nd).mpr h)
theorem pcN_g {U : Sup} {k : Nat} (h : k < U.length) : pcN U k = U[k] := by
  unfold pcN
  rw [List.getD_eq_getElem?_getD, List.getElem?_eq_getElem h]
  rfl
theorem asc_setB {U : Sup} (hU : Asc U) (p : Pl) : Asc (setB U p) := by
  have hlt : (plsF U.length p).Pairwise fun a b => a < b ∧ a < U.length ∧ b < U.length := by
    have h1 : (plsF U.length p).Pairwise (· < ·) := by
      unfold plsF
      exact List.pairwise_lt_range.sublist List.filter_sublist
    have h2 : (plsF U.length p).Pairwise fun a b => a < U.length ∧ b < U.length := List.pairwise_of_forall_mem_list fun a ha b hb => ⟨pls_lt ha, pls_lt hb⟩
    exact h1.and h2
  constructor
  · unfold setB
    rw [List.nodup_iff_pairwise_ne, List.pairwise_map]
    refine hlt.imp fun {a b} h e => ?_
    rw [pcN_g h.2.1, pcN_g h.2.2] at e
    have := (List.getElem_inj hU.nd).mp e
    omega
  · unfold setB
    rw [List.pairwise_map]
    refine hlt.imp fun {a b} h => ?_
    rw [pcN_g h.2.1, pcN_g h.2.2]
    exact List.pairwise_iff_getElem.mp hU.so a b h.2.1 h.2.2 h.1
theorem mem_sb {U : Sup} {p : Pl} {y : Piece} : y ∈ setB U p ↔ ∃ k, ∃ h : k < U.length, p k = true ∧ U[k] = y := by
  unfold setB plsF
  rw [List.mem_map]
  constructor
  · rintro ⟨k, hk, e⟩
    obtain ⟨h1, h2⟩ := List.mem_filter.mp hk
    have h1 : k < U.length := by simpa using h1
    exact ⟨k, h1, h2, by rw [← pcN_g h1]; exact e⟩
  · rintro ⟨k, h, h2, e⟩
    exact ⟨k, List.mem_filter.mpr ⟨by simpa using h, h2⟩, by rw [pcN_g h]; exact e⟩
end K93
namespace HS
open PySem L2
end HS
namespace HS
open PySem L2
variable {n k : Nat} {v w : Iv} {F : List Pl} {K : List Iv} {T : Pl → Prop} {need p q : Pl}
theorem inI.congr (a : eqM n p q) (h : inI n v p) : inI n v q := ⟨h.1.trans a.le, a.symm.le.trans h.2⟩
/-- nothing twice -/
abbrev difM (n : Nat) (F : List Pl) : Prop := F.Pairwise fun p q => ¬ eqM n p q
structure DInv (n : Nat) (F : List Pl) (K : List Iv) : Prop where
  a : ∀ f ∈ F, ∀ v ∈ K, ¬ inI n v f
  b : K.Pairwise fun v w => ∀ p, inI n v p → ¬ inI n w p
  c : difM n F
theorem DInv.start : DInv n [] [v] := ⟨fun f h => (by cases h), List.pairwise_singleton _ _, List.Pairwise.nil⟩
theorem DInv.drop (h : DInv n F (v :: K)) : DInv n F K := ⟨fun f hf u hu => h.a f hf u (List.mem_cons_of_mem _ hu), (List.pairwise_cons.mp h.b).2, h.c⟩
theorem DInv.found (h : DInv n F (v :: K)) (r : NarR n T v (some w)) (e : eqM n w.1 w.2) : DInv n (F ++ [w.1]) K := by
  have hv : inI n v w.1 := ⟨r.2.1, e.le.trans r.2.2.1⟩
  refine ⟨fun f hf u hu => ?_, (List.pairwise_cons.mp h.b).2, ?_⟩
  · rcases List.mem_append.mp hf with z | z
    · exact h.a f z u (List.mem_cons_of_mem _ hu)
    · rw [List.mem_singleton.mp z]
      exact (List.pairwise_cons.mp h.b).1 u hu _ hv
  · refine List.pairwise_append.mpr ⟨h.c, List.pairwise_singleton _ _, fun f hf g hg z => ?_⟩
    rw [List.mem_singleton.mp hg] at z
    exact h.a f hf v List.mem_cons_self (hv.congr z.symm)
theorem DInv.split (h : DInv n F (v :: K)) (r : NarR n T v (some w)) (hk : k < n) (hg : gapM w k = true) : DInv n F (vIn w k :: vOut w k :: K) := by
  have up : ∀ p, inI n w p → inI n v p := fun p z => ⟨r.2.1.trans z.1, z.2.trans r.2.2.1⟩
  have h1 : ∀ p, inI n (vIn w k) p → inI n v p ∧ p k = true := fun p z => ⟨up p (of_in hk hg z).1, (of_in hk hg z).2⟩
  have h2 : ∀ p, inI n (vOut w k) p → inI n v p := fun p z => up p (of_out z)
  obtain ⟨b1, b2⟩ := List.pairwise_cons.mp h.b
  refine ⟨fun f hf u hu z => ?_, List.pairwise_cons.mpr ⟨fun u hu p z y => ?_, List.pairwise_cons.mpr ⟨fun u hu p z => b1 u hu p (h2 p z), b2⟩⟩, h.c⟩
  · rcases List.mem_cons.mp hu with e | hu
    · rw [e] at z; exact h.a f hf v List.mem_cons_self (h1 f z).1
    · rcases List.mem_cons.mp hu with e | hu
      · rw [e] at z; exact h.a f hf v List.mem_cons_self (h2 f z)
      · exact h.a f hf u (List.mem_cons_of_mem _ hu) z
  · rcases List.mem_cons.mp hu with e | hu
    · rw [e] at y
      have := y.2 k hk (h1 p z).2
      simp [vOut] at this
    · exact b1 u hu p (h1 p z).1 y
/-- both -/
structure SDv (n : Nat) (T : Pl → Prop) (need : Pl) (F : List Pl) (K : List Iv) : Prop where
  s : SInv n T need F K
  d : DInv n F K
theorem SDv.start : SDv n T need [] [(need, allM)] := ⟨SInv.start, DInv.start⟩
theorem SDv.drop (h : SDv n T need F (v :: K)) (r : NarR n T v none) : SDv n T need F K := ⟨h.s.drop r, h.d.drop⟩
theorem SDv.found (h : SDv n T need F (v :: K)) (r : NarR n T v (some w)) (e : eqM n w.1 w.2) : SDv n T need (F ++ [w.1]) K := ⟨h.s.found r e, h.d.found r e⟩
theorem SDv.split (h : SDv n T need F (v :: K)) (r : NarR n T v (some w)) (hk : k < n) (hg : gapM w k = true) : SDv n T need F (vIn w k :: vOut w k :: K) := ⟨h.s.split r hk hg, h.d.split r hk hg⟩
structure GDv (n : Nat) (cs : Cd) (F : List Pl) (K : List Iv) : Prop where
  g : GInv n cs F K
  c : difM n F
section
variable {cs : Cd}
theorem GDv.start : GDv n cs [] [((fun _ => false), allM)] := ⟨GInv.start, List.Pairwise.nil⟩
theorem GDv.drop (h : GDv n cs F (v :: K)) (r : NarR n (isFull n cs) v none) : GDv n cs F K := ⟨h.g.drop r, h.c⟩
theorem GDv.found (h : GDv n cs F (v :: K)) (r : NarR n (isFull n cs) v (some w)) (hc : ¬ covB n F w.2) (e : eqM n w.1 w.2) : GDv n cs (F ++ [w.1]) K := by
  refine ⟨h.g.found r hc e, List.pairwise_append.mpr ⟨h.c, List.pairwise_singleton _ _, fun f hf g hg z => ?_⟩⟩
  rw [List.mem_singleton.mp hg] at z
  exact hc ⟨f, hf, e.symm.le.trans z.symm.le⟩
theorem GDv.split (h : GDv n cs F (v :: K)) (r : NarR n (isFull n cs) v (some w)) (hk : k < n) (hg : gapM w k = true) : GDv n cs F (vIn w k :: vOut w k :: K) := ⟨h.g.split r hk hg, h.c⟩
end
end HS
namespace HS
open PySem L2
section
variable {f : Ev} {η : Env} {S : Sto}
def trgK : Option (D × Sto) → Option (D × Sto) := fun o => o.bind fun p => match p.1 with
  | .int n => if 0 ≤ n ∧ n ≤ SZ then some (.tup (rangeD 0 n.toNat), p.2) else none
  | _ => none
@[simp] theorem q_trg : eTRg f η S = trgK (f η S) := id rfl
theorem trgK_ {n : Nat} (h : n ≤ SZ) : trgK (some (.int (n : Int), S)) = some (.tup (rangeD 0 n), S) := by
  show (if 0 ≤ (n : Int) ∧ (n : Int) ≤ SZ then some (D.tup (rangeD 0 (n : Int).toNat), S) else none) = _
  rw [if_pos (by omega), Int.toNat_natCast]
end
section
variable {α : Type} [DV α] {S : Sto} {e : D} {xs : List α}
end
end HS
namespace HS
open PySem L2
section
variable {α β : Type} {it it1 : EvI} {vs vs1 : List Nat} {tg tg1 : Tg} {fe : Ev} {η : HS.Env} {S S0 : Sto} {chk : Sto → Prop} {as : List α} {g : α → D} {bs : α → List β} {g1 : β → D} {f : α → β → D}
theorem lc2R_flat {η0 : HS.Env} (hc : chk S) : ∀ (as : List α) (acc : List D), acc.length + (as.flatMap bs).length ≤ SZ →
    (∀ a ∈ as, ∃ (η1 : HS.Env) (chk1 : Sto → Prop), tg (g a) η0 = some η1 ∧ it1 η1 S = some (⟨(bs a).map g1, chk1⟩, S) ∧ chk1 S ∧ ∀ b ∈ bs a, ∃ η2, tg1 (g1 b) (wipeE η1 vs1) = some η2 ∧ fe η2 S = some (f a b, S)) →
    lc2R chk tg tYesE it1 vs1 tg1 tYesE fe η0 (as.map g) acc S = some (acc ++ as.flatMap fun a => (bs a).map (f a), S)
  | [], acc, _, _ => by
    rw [List.map_nil]
    unfold lc2R
    rw [if_pos hc]
    simp
  | a :: as, acc, hz, h => by
    obtain ⟨η1, chk1, h1, h2, h3, h4⟩ := h a List.mem_cons_self
    rw [List.flatMap_cons, List.length_append] at hz
    rw [List.map_cons]
    unfold lc2R
    have hl := lcR_pure (tg := tg1) (tt := tYesE) (fe := fe) (η0 := wipeE η1 vs1) (g := g1) (f := f a) (b := fun _ => true) h3 (bs a) acc (by omega) fun b hb => by
      obtain ⟨η2, h5, h6⟩ := h4 b hb
      exact ⟨η2, h5, rfl, fun _ => h6⟩
    rw [List.filter_eq_self.mpr fun _ _ => rfl] at hl
    have ih := lc2R_flat hc as (acc ++ (bs a).map (f a)) (by rw [List.length_append, List.length_map]; omega) fun x hx => h x (List.mem_cons_of_mem _ hx)
    rw [if_pos hc, h1]
    simp only [Option.bind_some, q_yes, if_true, h2, hl, ih]
    rw [List.flatMap_cons, List.append_assoc]
theorem lc2_flat (hi : it η S0 = some (⟨as.map g, chk⟩, S)) (hc : chk S) (hz : (as.flatMap bs).length ≤ SZ)
    (h : ∀ a ∈ as, ∃ (η1 : HS.Env) (chk1 : Sto → Prop), tg (g a) (wipeE η vs) = some η1 ∧ it1 η1 S = some (⟨(bs a).map g1, chk1⟩, S) ∧ chk1 S ∧ ∀ b ∈ bs a, ∃ η2, tg1 (g1 b) (wipeE η1 vs1) = some η2 ∧ fe η2 S = some (f a b, S)) :
    eLc2 it vs tg tYesE it1 vs1 tg1 tYesE fe η S0 = some (.lst (as.flatMap fun a => (bs a).map (f a)), S) := by
  have h2 := lc2R_flat (g := g) (η0 := wipeE η vs) hc as [] (by simpa using hz) h
  unfold eLc2
  rw [hi]
  simp only [Option.bind_some, h2]
  simp
end
end HS
namespace K93
open PySem L2 HS
def iD (n : Nat) (p : Pl) : D := .int (IM n p)
def parts (b : Board) (claim : List Sup) : List Pl := claim.map (supP b.1)
section
variable {A E S : Sto} {b : Board} {x : D}
/-- the places below j, the mask of the others -/
theorem places_of_spec {n : Nat} {p : Pl} (hz : n ≤ 1000) : c_places_of [.int (IM n p)] A = some (.lst ((plsF n p).map fun k : Nat => D.int k), true, A) := by
  have hz2 : (SZ : Nat) = 100000 := rfl
  obtain ⟨⟨fl, η, S⟩, h1, rfl, o1, o2, rfl, rfl⟩ := wh_ind (n := wN) (c := HS.tB (eBin oGt (eVar 0) (eC (.int 0)))) (body := sSeq (sSet 2 (eBin oBand (eVar 0) (eUn (fun i => -i) (eVar 0))))
    (sSeq (sExp (eM "list" mAppend (eVar 1) (aCons (eBin oSub (eBits (eVar 2)) (eC (.int 1))) aNil)))
    (sSet 0 (eBin oBxor (eVar 0) (eVar 2))))) (η := [some (.int (IM n p)), some (.ref A.length), none]) (S := V A [.lst []])
    (fun m η S => ∃ (j : Nat) (o : Option D), j ≤ n ∧ m = n - j ∧ η = [some (.int (IM n fun i => decide (j ≤ i) && p i)), some (.ref A.length), o] ∧ S = V A [.lst (((List.range j).filter p).map fun k : Nat => D.int k)])
    (Fin := fun r => r.1 = .nx ∧ ∃ o1 o2 : Option D, r.2.1 = [o1, some (.ref A.length), o2] ∧ r.2.2 = V A [.lst ((plsF n p).map fun k : Nat => D.int k)]) n
    (by show n < 1000000; omega)
    ⟨0, none, Nat.zero_le _, by omega, by simp, by simp⟩ (fun m η S ⟨j, o, hj, hm, h1, h2⟩ => by
      subst h1 h2 hm
      by_cases hc : ∃ k, j ≤ k ∧ k < n ∧ p k = true
      · obtain ⟨k0, h0⟩ := hc
        obtain ⟨k, ⟨h1, h2, h3⟩, h4⟩ := least_of (P := fun k => j ≤ k ∧ k < n ∧ p k = true) k0 h0
        have hlow : ∀ i, i < k → (decide (j ≤ i) && p i) = false := fun i hi => by
          cases e : decide (j ≤ i) && p i with
          | false => rfl
          | true =>
            rw [Bool.and_eq_true, decide_eq_true_eq] at e
            exact absurd ⟨e.1, by omega, e.2⟩ (h4 i hi)
        have hk : (decide (j ≤ k) && p k) = true := by rw [Bool.and_eq_true, decide_eq_true_eq]; exact ⟨h1, h3⟩
        have e1 := IM_low (n := n) (p := fun i => decide (j ≤ i) && p i) h2 hk hlow
        have e2 := IM_xor (n := n) (p := fun i => decide (j ≤ i) && p i) h2 hk
        have e3 : (IM n fun i => (decide (j ≤ i) && p i) && !decide (i = k)) = IM n fun i => decide (k + 1 ≤ i) && p i := IM_congr fun i hi => by
          by_cases hik : i < k
          · have := hlow i hik
            have h5 : ¬ k + 1 ≤ i := by omega
            simp [this, h5]
          · by_cases hik2 : i = k
            · have h5 : ¬ k + 1 ≤ i := by omega
              simp [hik2]
              omega
            · have h5 : k + 1 ≤ i := by omega
              have h6 : j ≤ i := by omega
              simp [h5, h6, hik2]
        have e4 : (List.range (k + 1)).filter p = (List.range j).filter p ++ [k] := by
          rw [List.range_succ, List.filter_append]
          have e5 : List.filter p [k] = [k] := by simp [h3]
          rw [e5]
          congr 1
          obtain ⟨d, rfl⟩ : ∃ d, k = j + d := ⟨k - j, by omega⟩
          rw [List.range_add, List.filter_append]
          have e6 : List.filter p (List.map (fun x => j + x) (List.range d)) = [] := by
            rw [List.filter_eq_nil_iff]
            intro x hx
            obtain ⟨y, hy, rfl⟩ := List.mem_map.mp hx
            have hy : y < d := by simpa using hy
            have := hlow (j + y) (by omega)
            have h7 : j ≤ j + y := by omega
            simp [h7] at this
            simp [this]
          rw [e6, List.append_nil]
        have hpos : 0 < IM n fun i => decide (j ≤ i) && p i := IM_pos.mpr ⟨k, h2, hk⟩
        have hlen : (((List.range j).filter p).map fun k : Nat => D.int k).length < SZ := by
          rw [List.length_map]
          have := List.length_filter_le p (List.range j)
          rw [List.length_range] at this
          omega
        refine ⟨true, V A [.lst (((List.range j).filter p).map fun k : Nat => D.int k)], by simp [hpos], .inr ⟨rfl, (.nx, [some (.int (IM n fun i => decide (k + 1 ≤ i) && p i)), some (.ref A.length), some (.int (2 ^ k))], V A [.lst (((List.range (k + 1)).filter p).map fun k : Nat => D.int k)]), ?_, .inr ⟨rfl, n - (k + 1), by omega, k + 1, _, by omega, rfl, rfl, rfl⟩⟩⟩
        rw [e4, List.map_append]
        rw [e3] at e2
        have e7 : (((k : Nat) : Int) + 1 - 1) = k := by omega
        generalize (((List.range j).filter p).map fun k : Nat => D.int k) = L at hlen ⊢
        simp [e1, bits_pow, hlen, e2, e7]
      · have hno : ∀ i, i < n → (decide (j ≤ i) && p i) = false := fun i hi => by
          cases e : decide (j ≤ i) && p i with
          | false => rfl
          | true =>
            rw [Bool.and_eq_true, decide_eq_true_eq] at e
            exact absurd ⟨i, e.1, hi, e.2⟩ hc
        have e1 : (IM n fun i => decide (j ≤ i) && p i) = 0 := IM_eq0.mpr hno
        have e2 : plsF n p = (List.range j).filter p := by
          unfold plsF
          obtain ⟨d, rfl⟩ : ∃ d, n = j + d := ⟨n - j, by omega⟩
          rw [List.range_add, List.filter_append]
          have e6 : List.filter p (List.map (fun x => j + x) (List.range d)) = [] := by
            rw [List.filter_eq_nil_iff]
            intro x hx
            obtain ⟨y, hy, rfl⟩ := List.mem_map.mp hx
            have hy : y < d := by simpa using hy
            have := hno (j + y) (by omega)
            have h7 : j ≤ j + y := by omega
            simp [h7] at this
            simp [this]
          rw [e6, List.append_nil]
        refine ⟨false, _, by simp [e1]; rfl, .inl ⟨rfl, rfl, _, _, rfl, by rw [e2]⟩⟩)
  have hend := end_Vr0 (A := A) (E := []) (n := 1) (c := .lst ((plsF n p).map fun k : Nat => D.int k)) (by simp [pl])
  unfold c_places_of m_places_of
  rw [callsV]
  generalize ((plsF n p).map fun k : Nat => D.int k) = L at *
  simp [h1]
  exact hend
theorem masks_for_spec {claim : List Sup} (hb : gB b) (hz : claim.length ≤ SZ) : c_BitBoard_masks_for [bbD b x, dv claim] A = some (.lst ((parts b claim).map (iD b.1.length)), false, A) := by
  have hn := hb.n
  have hk : ∀ a2, k_BitBoard_masks_for_1 [some (bbD b x), some (dv claim), a2] A = some (.lst ((parts b claim).map (iD b.1.length)), A) := fun a2 => by
    unfold parts
    rw [List.map_map]
    refine lc_all (S := A) (as := claim) (g := dv) (f := iD b.1.length ∘ supP b.1) (chk := chkS (dv claim) (claim.map dv)) ?_ rfl hz fun s hs => ⟨[some (bbD b x), some (dv claim), some (dv s)], rfl, rfl, ?_⟩
    · have e : (dv claim : D) = .tup (claim.map dv) := rfl
      generalize claim.map dv = L at *
      generalize bbD b x = X
      simp [e]
    · have h1 := mask_of_spec (A := A) (ps := b.1) (s := s) hb.nd (by omega)
      have h2 := lk_places2 (b := b) (x := x)
      unfold bbD
      generalize flds b x = F at *
      generalize (dv s : D) = Y at *
      generalize (dv claim : D) = Z at *
      generalize dicP b.1 = U at *
      simp [h1, h2]
      rfl
  unfold c_BitBoard_masks_for m_BitBoard_masks_for
  rw [callsV, V_out]
  generalize bbD b x = X at *
  generalize (dv claim : D) = Z at *
  generalize (parts b claim).map (iD b.1.length) = L at *
  simp [hk]


end
end K93
namespace K93
open PySem L2 HS
theorem nd_le' {β : Type} [DecidableEq β] : ∀ {l m : List β}, l.Nodup → (∀ x ∈ l, x ∈ m) → l.length ≤ m.length
  | [], _, _, _ => Nat.zero_le _
  | x :: l, m, h, s => by
    rw [List.nodup_cons] at h
    have h1 := nd_le' (l := l) (m := m.erase x) h.2 fun y hy => (List.mem_erase_of_ne (fun e => h.1 (by rw [← e]; exact hy))).mpr (s y (List.mem_cons_of_mem _ hy))
    have h2 := s x List.mem_cons_self
    have h3 := List.length_pos_of_mem h2
    rw [List.length_erase_of_mem h2] at h1
    rw [List.length_cons]
    omega
/-- a move -/
inductive Mv where
  | ix (k : Nat)
  | att (p : Piece) (k : Nat)
deriving DecidableEq
instance : DV Mv where
  d | .ix k => .int k
    | .att p k => .tup [dv p, .int k]
  n := DV.n Piece + 1
  py | .ix k => .int k
     | .att p k => .tuple [DV.py p, .int k]
  hpl x := by
    cases x with
    | ix k => simp [pl]
    | att p k =>
      have := DV.hpl p
      simp [pl, this]
  hpy S x := by
    cases x with
    | ix k => simp [pyD]
    | att p k =>
      show pyD S (.tup [dv p, .int k]) = _
      rw [pyD, pyAll, pyAll, pyAll, DV.hpy, pyD]
      rfl
  lay x := by
    cases x with
    | ix k => simp [PyData.canLay0]
    | att p k => simp [PyData.canLay0, PyData.canLayAll0, DV.lay p]
  dep x := by
    cases x with
    | ix k => simp [PyData.depth]
    | att p k =>
      have h1 := DV.dep p
      simp only [PyData.depth, PyData.depthAll]
      omega
  eqv x y := by
    cases x <;> cases y <;> simp [PyData.eqv, PyData.eqvAll, DV.eqv]
    · exact Int.ofNat_inj
    · exact fun _ => Int.ofNat_inj
/-- a state of the law's play -/
structure Stt where
  k : Nat
  ch : Sup
  a : Nat
  nm : Sup
def stD (s : Stt) : D := .lst [.int (s.k : Nat), dv s.ch, .int (s.a : Nat), dv s.nm]
def s0 : Stt := ⟨0, [], 0, []⟩
def attA (b : Board) (k : Nat) : Att := b.2.getD k ([], (zs 1, []))
def barF (b : Board) (s : Stt) (k : Nat) : Bool := decide (s.k = 2) && s.nm.any fun p => decide (p ∈ (attA b k).1)
def chF (b : Board) (s : Stt) : Sup := if s.k = 2 then (attA b s.a).1 else s.ch
def onF (b : Board) (s : Stt) (p : Piece) : List Nat := (List.range b.2.length).filter fun k => decide ((attA b k).2 = p) && !barF b s k
def mvs (b : Board) (c : List Sup) (s : Stt) : List Mv := if s.k = 0 then (List.range c.length).map .ix else (chF b s).flatMap fun p => (onF b s p).map (Mv.att p)
def mvd (b : Board) (c : List Sup) (s : Stt) : Mv → Stt
  | .ix k => ⟨1, c.getD k [], 0, []⟩
  | .att p k => if s.k = 1 then ⟨2, s.ch, k, setP (s.nm ++ [p])⟩ else ⟨1, (attA b k).1, 0, s.nm⟩
/-- a board and a claim of the law -/
structure bcT (b : Board) (c : List Sup) : Prop where
  g : gB b
  as : Asc b.1
  at' : ∀ a ∈ b.2, Asc a.1
  cl : c.length ≤ 100
  l : b.2.length ≤ 11000
  n8 : b.1.length ≤ 8
  cs : ∀ s ∈ c, Asc s ∧ ∀ p ∈ s, p ∈ b.1
structure okS' (b : Board) (s : Stt) : Prop where
  k : s.k ≤ 2
  z : s.k = 0 → s.nm = []
  ch : s.k ≠ 0 → Asc s.ch ∧ ∀ p ∈ s.ch, p ∈ b.1
  a : s.k = 2 → s.a < b.2.length
  nd : s.nm.Nodup
  nm : ∀ p ∈ s.nm, p ∈ b.1
theorem ok_s0 {b : Board} : okS' b s0 := ⟨by decide, fun _ => rfl, fun h => absurd rfl h, fun h => (by cases h), List.nodup_nil, fun p h => (by cases h)⟩
section
variable {b : Board} {c : List Sup} {s : Stt}
theorem attA_mem {k : Nat} (h : k < b.2.length) : attA b k ∈ b.2 := by
  unfold attA
  rw [List.getD_eq_getElem?_getD, List.getElem?_eq_getElem h]
  exact List.getElem_mem h
theorem attA_at {k : Nat} (h : k < b.2.length) : b.2[k]? = some (attA b k) := by
  unfold attA
  rw [List.getD_eq_getElem?_getD, List.getElem?_eq_getElem h]
  rfl
/-- what the moves are -/
theorem mem_mvs0 (h : s.k = 0) {m : Mv} : m ∈ mvs b c s ↔ ∃ k, k < c.length ∧ m = .ix k := by
  unfold mvs
  rw [if_pos h, List.mem_map]
  constructor
  · rintro ⟨k, hk, rfl⟩
    exact ⟨k, by simpa using hk, rfl⟩
  · rintro ⟨k, hk, rfl⟩
    exact ⟨k, by simpa using hk, rfl⟩
theorem mem_mvs1 (h : s.k ≠ 0) {m : Mv} : m ∈ mvs b c s ↔ ∃ p k, m = .att p k ∧ p ∈ chF b s ∧ k < b.2.length ∧ (attA b k).2 = p ∧ barF b s k = false := by
  unfold mvs onF
  rw [if_neg h, List.mem_flatMap]
  constructor
  · rintro ⟨p, hp, hm⟩
    obtain ⟨k, hk, rfl⟩ := List.mem_map.mp hm
    obtain ⟨h1, h2⟩ := List.mem_filter.mp hk
    rw [Bool.and_eq_true, decide_eq_true_eq, Bool.not_eq_true'] at h2
    exact ⟨p, k, rfl, hp, by simpa using h1, h2.1, h2.2⟩
  · rintro ⟨p, k, rfl, hp, h1, h2, h3⟩
    refine ⟨p, hp, List.mem_map.mpr ⟨k, List.mem_filter.mpr ⟨by simpa using h1, ?_⟩, rfl⟩⟩
    simp [h2, h3]
theorem chF_ok (g : bcT b c) (o : okS' b s) (h : s.k ≠ 0) : Asc (chF b s) ∧ ∀ p ∈ chF b s, p ∈ b.1 := by
  unfold chF
  split
  · rename_i h2
    have := attA_mem (o.a h2)
    exact ⟨g.at' _ this, (g.g.t _ this).2.2⟩
  · exact o.ch h
theorem mvd_ok (g : bcT b c) (o : okS' b s) {m : Mv} (hm : m ∈ mvs b c s) : okS' b (mvd b c s m) := by
  by_cases h : s.k = 0
  · obtain ⟨k, hk, rfl⟩ := (mem_mvs0 h).mp hm
    have hc : c.getD k [] ∈ c := by
      rw [List.getD_eq_getElem?_getD, List.getElem?_eq_getElem hk]
      exact List.getElem_mem hk
    exact ⟨by show 1 ≤ 2; omega, fun z => (by cases z), fun _ => g.cs _ hc, fun z => (by cases z), List.nodup_nil, fun p hp => (by cases hp)⟩
  · obtain ⟨p, k, rfl, hp, hk, e, _⟩ := (mem_mvs1 h).mp hm
    have hch := chF_ok g o h
    unfold mvd
    simp only
    split
    · rename_i h1
      refine ⟨by show 2 ≤ 2; omega, fun z => (by cases z), fun _ => o.ch h, fun _ => hk, setP_nd _, fun q hq => ?_⟩
      have hq : q ∈ s.nm ++ [p] := mem_setP.mp hq
      rcases List.mem_append.mp hq with z | z
      · exact o.nm q z
      · rw [List.mem_singleton.mp z]; exact hch.2 p hp
    · have hm := attA_mem hk
      exact ⟨by show 1 ≤ 2; omega, fun z => (by cases z), fun _ => ⟨g.at' _ hm, (g.g.t _ hm).2.2⟩, fun z => (by cases z), o.nd, o.nm⟩
theorem nm_len (g : bcT b c) (o : okS' b s) : s.nm.length ≤ b.1.length := nd_le' o.nd o.nm
theorem asc_len_le (g : bcT b c) {t : Sup} (h : Asc t) (hs : ∀ p ∈ t, p ∈ b.1) : t.length ≤ b.1.length := nd_le' h.nd hs
/-- an ascending set is the pieces at the places of its mask -/
theorem set_places {U t : Sup} (hU : Asc U) (ht : Asc t) (hs : ∀ p ∈ t, p ∈ U) : setB U (supP U t) = t := by
  refine asc_ext (asc_setB hU _) ht fun x => ?_
  rw [mem_sb]
  constructor
  · rintro ⟨k, h, e, rfl⟩
    unfold supP at e
    rw [List.getElem?_eq_getElem h] at e
    simpa using e
  · intro hx
    obtain ⟨k, h, e⟩ := List.getElem_of_mem (hs x hx)
    refine ⟨k, h, ?_, e⟩
    unfold supP
    rw [List.getElem?_eq_getElem h, e]
    simpa using hx
theorem onF_len {p : Piece} : (onF b s p).length ≤ b.2.length := by
  unfold onF
  have := List.length_filter_le (fun k => decide ((attA b k).2 = p) && !barF b s k) (List.range b.2.length)
  simpa using this
theorem flat_len {α β : Type} {f : α → List β} {m : Nat} : ∀ {xs : List α}, (∀ x ∈ xs, (f x).length ≤ m) → (xs.flatMap f).length ≤ xs.length * m
  | [], _ => by simp
  | x :: xs, h => by
    rw [List.flatMap_cons, List.length_append, List.length_cons, Nat.succ_mul]
    have h1 := h x List.mem_cons_self
    have h2 := flat_len fun y hy => h y (List.mem_cons_of_mem x hy)
    omega
theorem mvs_len (g : bcT b c) (o : okS' b s) : (mvs b c s).length ≤ 88000 := by
  have h1 := g.l
  have h2 := g.n8
  have h3 := g.cl
  by_cases h : s.k = 0
  · unfold mvs
    rw [if_pos h]
    simp
    omega
  · obtain ⟨c1, c2⟩ := chF_ok g o h
    have h4 := asc_len_le g c1 c2
    unfold mvs
    rw [if_neg h]
    have h5 := flat_len (f := fun p => (onF b s p).map (Mv.att p)) (m := 11000) (xs := chF b s) fun p _ => by
      rw [List.length_map]
      exact Nat.le_trans onF_len h1
    have h6 : (chF b s).length * 11000 ≤ 8 * 11000 := Nat.mul_le_mul_right _ (by omega)
    omega
end
end K93
namespace K93
open PySem L2 HS
section
variable {A E S : Sto} {b : Board} {c : List Sup} {s : Stt}
theorem in_bl {a : Bool} {bs : List Bool} : oIn (.bl a) (.lst (bs.map D.bl)) S = some (.bl (bs.any fun b => b == a), S) := by
  have h := nin_bl (S := S) (a := a) (bs := bs)
  have h2 : (inP S (.bl a) (.lst (bs.map D.bl))).bind (fun b => some (D.bl (!b), S)) = some (.bl (!(bs.any fun b => b == a)), S) := h
  show (inP S (.bl a) (.lst (bs.map D.bl))).bind (fun b => some (D.bl b, S)) = _
  cases e : inP S (.bl a) (.lst (bs.map D.bl)) with
  | none => rw [e] at h2; cases h2
  | some v =>
    rw [e] at h2
    have h3 : (!v) = !(bs.any fun b => b == a) := by
      have h4 : some (D.bl (!v), S) = some (.bl (!(bs.any fun b => b == a)), S) := h2
      injection h4 with h5
      injection h5 with h6
      injection h6
    show some (D.bl v, S) = _
    congr 2
    congr 1
    revert h3
    cases v <;> cases (bs.any fun b => b == a) <;> simp
theorem in_ex {S : Sto} {α : Type} [DV α] [DecidableEq α] (x : α) (xs : List α) (hn : DV.n α ≤ 60) : ∃ bb, oIn (dv x) (dv xs) S = some (.bl bb, S) ∧ (bb = true ↔ x ∈ xs) := ⟨_, q_int x xs hn, decide_eq_true_iff⟩
theorem inP_pc (p : Piece) (t : Sup) : oIn (dv p) (dv t) S = some (.bl (decide (p ∈ t)), S) := by
  obtain ⟨bb, h, e⟩ := in_ex (S := S) p t (by decide)
  rw [h]
  congr 3
  rw [Bool.eq_iff_iff, e, decide_eq_true_eq]
theorem eq_pc (p q : Piece) : oEq (dv p) (dv q) S = some (.bl (decide (p = q)), S) := q_eq p q (by decide)
def sideF (s : Stt) : PySem.Str := if s.k = 1 then "doubter" else "speaker"
theorem lside_spec (h : s.k ≤ 2) : c_law_side [stD s] A = some (.str (sideF s), false, A) := by
  unfold c_law_side m_law_side stD sideF
  rw [callsV, V_out]
  have h2 : s.k = 0 ∨ s.k = 1 ∨ s.k = 2 := by omega
  generalize (dv s.ch : D) = X
  generalize (dv s.nm : D) = Y
  rcases h2 with h | h | h <;> simp [h]
theorem lplay_spec {x y : D} : c_law_play [x, y] A = some (stD s0, false, A) := by
  unfold c_law_play m_law_play
  rw [callsV, V_out]
  simp
  rfl
theorem st_0 : oIx (stD s) (.int 0) S = some (.int (s.k : Nat), S) := by
  unfold stD
  generalize (dv s.ch : D) = X
  generalize (dv s.nm : D) = Y
  simp
theorem st_1 : oIx (stD s) (.int 1) S = some (dv s.ch, S) := by
  unfold stD
  generalize (dv s.ch : D) = X
  generalize (dv s.nm : D) = Y
  simp
theorem st_2 : oIx (stD s) (.int 2) S = some (.int (s.a : Nat), S) := by
  unfold stD
  generalize (dv s.ch : D) = X
  generalize (dv s.nm : D) = Y
  simp
theorem st_3 : oIx (stD s) (.int 3) S = some (dv s.nm, S) := by
  unfold stD
  generalize (dv s.ch : D) = X
  generalize (dv s.nm : D) = Y
  rw [q_ixl, show (3 : Int) = ((3 : Nat) : Int) from rfl, atIn (k := 3) (x := Y) rfl]
  rfl
theorem b_1 : oIx (dv b) (.int 1) S = some (dv b.2, S) := by
  have e : (dv b : D) = .tup [dv b.1, dv b.2] := rfl
  rw [e]
  generalize (dv b.1 : D) = X
  generalize (dv b.2 : D) = Y
  simp
theorem at_ix {k : Nat} (h : k < b.2.length) : oIx (dv b.2) (.int (k : Nat)) S = some (dv (attA b k), S) := by
  have e : (dv b.2 : D) = .tup (b.2.map dv) := rfl
  rw [e, q_ixt, atIn (k := k) (x := dv (attA b k)) (by rw [List.getElem?_map, attA_at h]; rfl)]
  rfl
theorem at_0 (a : Att) : oIx (dv a) (.int 0) S = some (dv a.1, S) := by
  have e : (dv a : D) = .tup [dv a.1, dv a.2] := rfl
  rw [e]
  generalize (dv a.1 : D) = X
  generalize (dv a.2 : D) = Y
  simp
theorem at_1 (a : Att) : oIx (dv a) (.int 1) S = some (dv a.2, S) := by
  have e : (dv a : D) = .tup [dv a.1, dv a.2] := rfl
  rw [e]
  generalize (dv a.1 : D) = X
  generalize (dv a.2 : D) = Y
  simp
theorem cl_ix {k : Nat} (h : k < c.length) : oIx (dv c) (.int (k : Nat)) S = some (dv (c.getD k []), S) := by
  have e : (dv c : D) = .tup (c.map dv) := rfl
  rw [e, q_ixt, atIn (k := k) (x := dv (c.getD k [])) (by rw [List.getElem?_map, List.getD_eq_getElem?_getD, List.getElem?_eq_getElem h]; rfl)]
  rfl
/-- barred attacks -/
theorem lmv_k2 {k : Nat} (g : bcT b c) (o : okS' b s) (hk : k < b.2.length) {a1 a3 a4 a5 a7 a8 : Option D} : k_law_moves_2 [some (dv b), a1, some (stD s), a3, a4, a5, some (.int (k : Nat)), a7, a8] S = some (.lst ((s.nm.map fun p => decide (p ∈ (attA b k).1)).map D.bl), S) := by
  have hz2 : (SZ : Nat) = 100000 := rfl
  have hn := nm_len g o
  have h8 := g.n8
  rw [List.map_map]
  refine lc_all (S := S) (as := s.nm) (g := dv) (f := fun p => D.bl (decide (p ∈ (attA b k).1))) (chk := chkS (dv s.nm) (s.nm.map dv)) ?_ rfl (by omega) fun p hp => ⟨_, rfl, rfl, ?_⟩
  · have h3 := fun S => st_3 (S := S) (s := s)
    have e : (dv s.nm : D) = .tup (s.nm.map dv) := rfl
    generalize stD s = X at *
    rw [e] at h3
    have e2 : (chkS (dv s.nm) (s.nm.map dv)) = chkS (.tup (s.nm.map dv)) (s.nm.map dv) := by rw [e]
    rw [e2]
    generalize s.nm.map dv = L at *
    simp [h3]
  · have h1 := fun S => b_1 (S := S) (b := b)
    have h2 := fun S => at_ix (S := S) hk
    have h3 := fun S => at_0 (S := S) (attA b k)
    have h4 := fun S => inP_pc (S := S) p (attA b k).1
    generalize (dv p : D) = P at *
    generalize (dv b : D) = B at *
    generalize (dv b.2 : D) = C at *
    generalize (dv (attA b k) : D) = T at *
    generalize (dv (attA b k).1 : D) = U at *
    simp [h1, h2, h3, h4]
theorem lmv_body {k : Nat} (g : bcT b c) (o : okS' b s) (hk : k < b.2.length) {p : Piece} {a1 a3 a7 : Option D} {L : List D} (hL : L.length < SZ) :
    ∃ a7', b_law_moves_1 [some (dv b), a1, some (stD s), a3, some (.ref A.length), some (dv p), some (.int (k : Nat)), a7, none] (V A [.lst L]) =
      some (.nx, [some (dv b), a1, some (stD s), a3, some (.ref A.length), some (dv p), some (.int (k : Nat)), a7', none], V A [.lst (L ++ if decide ((attA b k).2 = p) && !barF b s k then [dv (Mv.att p k)] else [])]) := by
  have h1 := fun S => b_1 (S := S) (b := b)
  have h2 := fun S => at_ix (S := S) hk
  have h3 := fun S => at_1 (S := S) (attA b k)
  have h4 := fun S => eq_pc (S := S) (attA b k).2 p
  have h0 := fun S => st_0 (S := S) (s := s)
  have e : (dv (Mv.att p k) : D) = .tup [dv p, .int k] := rfl
  have hb : ∀ a7 : Option D, (eAnd (eBin oEq (eBin oIx (eVar 2) (eC (.int 0))) (eC (.int 2))) (eBin oIn (eC (.bl true)) k_law_moves_2)) [some (dv b), a1, some (stD s), a3, some (.ref A.length), some (dv p), some (.int (k : Nat)), a7, none] (V A [.lst L]) = some (.bl (barF b s k), V A [.lst L]) := fun a7 => by
    have hk2 := lmv_k2 (S := V A [.lst L]) g o hk (a1 := a1) (a3 := a3) (a4 := some (.ref A.length)) (a5 := some (dv p)) (a7 := a7) (a8 := none)
    have hin := in_bl (S := V A [.lst L]) (a := true) (bs := s.nm.map fun p => decide (p ∈ (attA b k).1))
    have e3 : (s.nm.map fun p => decide (p ∈ (attA b k).1)).any (fun b => b == true) = s.nm.any fun p => decide (p ∈ (attA b k).1) := by
      rw [List.any_map]
      congr 1
      funext x
      simp
    rw [e3] at hin
    unfold barF
    generalize (s.nm.map fun p => decide (p ∈ (attA b k).1)).map D.bl = M at *
    generalize (s.nm.any fun p => decide (p ∈ (attA b k).1)) = w at *
    generalize (dv b : D) = B at *
    generalize (dv p : D) = P at *
    generalize stD s = X at *
    by_cases hk2' : s.k = 2
    · have : ((s.k : Nat) : Int) = 2 := by omega
      simp [h0, this, hk2', hk2, hin]
    · have : ¬ ((s.k : Nat) : Int) = 2 := by omega
      simp [h0, this, hk2']
  refine ⟨some (.bl (barF b s k)), ?_⟩
  have s1 : sSet 7 (eAnd (eBin oEq (eBin oIx (eVar 2) (eC (.int 0))) (eC (.int 2))) (eBin oIn (eC (.bl true)) k_law_moves_2)) [some (dv b), a1, some (stD s), a3, some (.ref A.length), some (dv p), some (.int (k : Nat)), a7, none] (V A [.lst L]) = some (.nx, [some (dv b), a1, some (stD s), a3, some (.ref A.length), some (dv p), some (.int (k : Nat)), some (.bl (barF b s k)), none], V A [.lst L]) := by
    rw [q_set, hb]
    rfl
  unfold b_law_moves_1
  rw [q_seq, s1, seqK_n]
  rw [e]
  generalize (dv b : D) = B at *
  generalize (dv b.2 : D) = C at *
  generalize (dv p : D) = P at *
  generalize stD s = X at *
  generalize (dv (attA b k) : D) = T at *
  generalize (dv (attA b k).2 : D) = U at *
  clear hb s1
  by_cases c1 : (attA b k).2 = p
  · cases hbb : barF b s k
    · simp [h1, h2, h3, h4, c1, hL]
    · simp [h1, h2, h3, h4, c1, hL]
  · simp [h1, h2, h3, h4, c1, hL]
end
end K93
namespace K93
open PySem L2 HS
section
variable {A E S : Sto} {b : Board} {c : List Sup} {s : Stt}
def atM (p : Piece) (k : Nat) : D := dv (Mv.att p k)
theorem lmv_in (g : bcT b c) (o : okS' b s) {p : Piece} {a1 a3 a6 a7 : Option D} {L : List D} (hL : L.length + b.2.length < SZ) :
    ∃ a6' a7', l_law_moves_1 [some (dv b), a1, some (stD s), a3, some (.ref A.length), some (dv p), a6, a7, none] (V A [.lst L]) =
      some (.nx, [some (dv b), a1, some (stD s), a3, some (.ref A.length), some (dv p), a6', a7', none], V A [.lst (L ++ (onF b s p).map (atM p))]) := by
  have hz2 : (SZ : Nat) = 100000 := rfl
  have hl := fun S => len_dv (S := S) (xs := b.2)
  have h1 := fun S => b_1 (S := S) (b := b)
  have hm : b.2.length ≤ SZ := by omega
  have hi : ∀ a6 a7, iRange1 (aCons (eB bLen (aCons (eBin oIx (eVar 0) (eC (.int 1))) aNil)) aNil) [some (dv b), a1, some (stD s), a3, some (.ref A.length), some (dv p), a6, a7, none] (V A [.lst L]) = some (⟨rangeD 0 b.2.length, chkT⟩, V A [.lst L]) := fun a6 a7 => by
    generalize (dv b : D) = B at *
    generalize (dv b.2 : D) = C at *
    simp [h1, hl, hm]
  obtain ⟨η', S', h2, a6', a7', rfl, rfl⟩ := for_ind (it := iRange1 (aCons (eB bLen (aCons (eBin oIx (eVar 0) (eC (.int 1))) aNil)) aNil)) (tg := HS.gN 6) (body := b_law_moves_1) (S := V A [.lst L]) (S0 := V A [.lst L]) (chk := chkT)
    (fun k η S => ∃ a6 a7, η = [some (dv b), a1, some (stD s), a3, some (.ref A.length), some (dv p), a6, a7, none] ∧ S = V A [.lst (L ++ ((List.range k).filter fun k => decide ((attA b k).2 = p) && !barF b s k).map (atM p))])
    (hi a6 a7) ⟨a6, a7, rfl, by simp⟩ (fun _ _ _ _ _ => trivial) (fun k x η S hx ⟨a6, a7, h3, h4⟩ => by
      subst h3 h4
      have hk : k < b.2.length := by have := (List.getElem?_eq_some_iff.mp hx).1; simpa [rangeD] using this
      have ex : x = .int ((k : Nat) : Int) := by
        unfold rangeD at hx
        rw [List.getElem?_map, List.getElem?_range hk] at hx
        simpa using hx.symm
      subst ex
      have hlen : (L ++ ((List.range k).filter fun k => decide ((attA b k).2 = p) && !barF b s k).map (atM p)).length < SZ := by
        rw [List.length_append, List.length_map]
        have := List.length_filter_le (fun k => decide ((attA b k).2 = p) && !barF b s k) (List.range k)
        rw [List.length_range] at this
        omega
      obtain ⟨a7', hb⟩ := lmv_body (A := A) (a1 := a1) (a3 := a3) (a7 := a7) (p := p) g o hk hlen
      refine ⟨_, _, _, rfl, .inl hb, _, a7', rfl, ?_⟩
      rw [List.range_succ, List.filter_append, List.map_append, ← List.append_assoc]
      congr 4
      by_cases hc : (decide ((attA b k).2 = p) && !barF b s k) = true
      · simp only [hc, if_true, List.filter_cons, List.filter_nil, List.map_cons, List.map_nil]
        rfl
      · simp only [hc, Bool.false_eq_true, if_false, List.filter_cons, List.filter_nil, List.map_nil])
  refine ⟨a6', a7', ?_⟩
  have e : (rangeD 0 b.2.length).length = b.2.length := by simp [rangeD]
  rw [e] at h2
  exact h2
theorem lmv_out (g : bcT b c) (o : okS' b s) {a1 a5 a6 a7 : Option D} {ch : Sup} (hch : ch.length ≤ 8) :
    ∃ a5' a6' a7', l_law_moves_2 [some (dv b), a1, some (stD s), some (dv ch), some (.ref A.length), a5, a6, a7, none] (V A [.lst []]) =
      some (.nx, [some (dv b), a1, some (stD s), some (dv ch), some (.ref A.length), a5', a6', a7', none], V A [.lst (ch.flatMap fun p => (onF b s p).map (atM p))]) := by
  have hz2 : (SZ : Nat) = 100000 := rfl
  have hl := g.l
  have hi : ∀ a5 a6 a7, iE (eVar 3) [some (dv b), a1, some (stD s), some (dv ch), some (.ref A.length), a5, a6, a7, none] (V A [.lst []]) = some (⟨ch.map dv, chkS (dv ch) (ch.map dv)⟩, V A [.lst []]) := fun a5 a6 a7 => by
    have e : (dv ch : D) = .tup (ch.map dv) := rfl
    generalize ch.map dv = L at *
    generalize (dv b : D) = B at *
    simp [e]
  obtain ⟨η', S', h2, a5', a6', a7', rfl, rfl⟩ := for_ind (it := iE (eVar 3)) (tg := HS.gN 5) (body := l_law_moves_1) (S := V A [.lst []]) (S0 := V A [.lst []]) (chk := chkS (dv ch) (ch.map dv))
    (fun k η S => ∃ a5 a6 a7, η = [some (dv b), a1, some (stD s), some (dv ch), some (.ref A.length), a5, a6, a7, none] ∧ S = V A [.lst ((ch.take k).flatMap fun p => (onF b s p).map (atM p))])
    (hi a5 a6 a7) ⟨a5, a6, a7, rfl, by simp⟩ (fun _ _ _ _ _ => rfl) (fun k x η S hx ⟨a5, a6, a7, h3, h4⟩ => by
      subst h3 h4
      rw [List.getElem?_map] at hx
      obtain ⟨p, hp, rfl⟩ := Option.map_eq_some_iff.mp hx
      have hk : k < ch.length := (List.getElem?_eq_some_iff.mp hp).1
      have h5 := flat_len (f := fun p => (onF b s p).map (atM p)) (m := 11000) (xs := ch.take k) fun q _ => by
        rw [List.length_map]
        exact Nat.le_trans onF_len hl
      have h6 : (ch.take k).length * 11000 ≤ 7 * 11000 := Nat.mul_le_mul_right _ (by rw [List.length_take]; omega)
      obtain ⟨a6', a7', hb⟩ := lmv_in (A := A) (a1 := a1) (a3 := some (dv ch)) (a6 := a6) (a7 := a7) (p := p) g o (L := (ch.take k).flatMap fun p => (onF b s p).map (atM p)) (by omega)
      refine ⟨_, _, _, rfl, .inl hb, _, a6', a7', rfl, ?_⟩
      rw [List.take_add_one, hp]
      simp)
  refine ⟨a5', a6', a7', ?_⟩
  rw [List.length_map, List.take_length] at h2
  exact h2
theorem mvs_flat (h : s.k ≠ 0) : (mvs b c s).map dv = (chF b s).flatMap fun p => (onF b s p).map (atM p) := by
  unfold mvs
  rw [if_neg h, List.map_flatMap]
  congr 1
  funext p
  rw [List.map_map]
  rfl
theorem lmoves_spec (g : bcT b c) (o : okS' b s) : ∃ w, c_law_moves [dv b, dv c, stD s] A = some (.lst ((mvs b c s).map dv), w, A) := by
  have hz2 : (SZ : Nat) = 100000 := rfl
  have h0 := fun S => st_0 (S := S) (s := s)
  have h1 := fun S => st_1 (S := S) (s := s)
  have h2 := fun S => st_2 (S := S) (s := s)
  have hpl : pl (DV.n Mv + 1) (.lst ((mvs b c s).map dv)) = true := by
    simp only [pl, List.all_map, List.all_eq_true]
    exact fun m _ => DV.hpl m
  by_cases h : s.k = 0
  · have hk : k_law_moves_1 [some (dv b), some (dv c), some (stD s), none, none, none, none, none, none] (V A []) = some (.lst ((mvs b c s).map dv), V A []) := by
      have hl := fun S => len_dv (S := S) (xs := c)
      have hm : c.length ≤ SZ := by have := g.cl; omega
      unfold mvs
      rw [if_pos h, List.map_map]
      refine lc_all (S := V A []) (as := List.range c.length) (g := fun i => .int (0 + (i : Nat))) (f := dv ∘ Mv.ix) (chk := chkT) ?_ trivial (by simpa using hm) fun k hk => ⟨_, rfl, rfl, ?_⟩
      · generalize (dv c : D) = C at *
        generalize (dv b : D) = B at *
        simp [hl, hm, rangeD]
      · have e : ((0 : Int) + (k : Nat)) = k := by omega
        rw [e]
        rfl
    refine ⟨false, ?_⟩
    unfold c_law_moves m_law_moves
    rw [callsV]
    generalize (mvs b c s).map dv = L at *
    generalize (dv b : D) = B at *
    generalize (dv c : D) = C at *
    generalize stD s = X at *
    have hk0 : ((s.k : Nat) : Int) = 0 := by omega
    simp [h0, hk0, hk]
    exact end_V hpl (by decide)
  · obtain ⟨c1, c2⟩ := chF_ok g o h
    have h4 := asc_len_le g c1 c2
    have h8 := g.n8
    obtain ⟨a5, a6, a7, hl⟩ := lmv_out (A := A) (a1 := some (dv c)) (a5 := none) (a6 := none) (a7 := none) (ch := chF b s) g o (by omega)
    rw [← mvs_flat (c := c) h] at hl
    have hend := end_Vr0 (A := A) (E := []) hpl
    refine ⟨true, ?_⟩
    unfold c_law_moves m_law_moves
    rw [callsV]
    have hk0 : ¬ ((s.k : Nat) : Int) = 0 := by omega
    by_cases hk2 : s.k = 2
    · have e : chF b s = (attA b s.a).1 := by unfold chF; rw [if_pos hk2]
      have hb1 := fun S => b_1 (S := S) (b := b)
      have hb2 := fun S => at_ix (S := S) (o.a hk2)
      have hb3 := fun S => at_0 (S := S) (attA b s.a)
      rw [← e] at hb3
      have hk2' : ((s.k : Nat) : Int) = 2 := by omega
      generalize (mvs b c s).map dv = L at *
      generalize (dv b : D) = B at *
      generalize (dv b.2 : D) = B2 at *
      generalize (dv (attA b s.a) : D) = T at *
      generalize (dv c : D) = C at *
      generalize (dv s.ch : D) = C1 at *
      generalize (dv (chF b s) : D) = C2 at *
      generalize stD s = X at *
      simp [h0, h1, h2, hk2', hb1, hb2, hb3, hl]
      exact hend
    · have e : chF b s = s.ch := by unfold chF; rw [if_neg hk2]
      have hk2' : ¬ ((s.k : Nat) : Int) = 2 := by omega
      rw [e] at hl
      generalize (mvs b c s).map dv = L at *
      generalize (dv b : D) = B at *
      generalize (dv c : D) = C at *
      generalize (dv s.ch : D) = C1 at *
      generalize stD s = X at *
      simp [h0, h1, h2, hk0, h, hk2', hl]
      exact hend
theorem row_ok (g : bcT b c) {p : Piece} (h : p ∈ b.1) : okP p := Nat.le_trans (g.g.ok.r p h) (by decide)
theorem lmoved_spec (g : bcT b c) (o : okS' b s) {m : Mv} (hm : m ∈ mvs b c s) : ∃ w, c_law_moved [dv b, dv c, stD s, dv m] A = some (stD (mvd b c s m), w, A) := by
  have hz2 : (SZ : Nat) = 100000 := rfl
  have h0 := fun S => st_0 (S := S) (s := s)
  have h1 := fun S => st_1 (S := S) (s := s)
  have h3 := fun S => st_3 (S := S) (s := s)
  by_cases h : s.k = 0
  · obtain ⟨k, hk, rfl⟩ := (mem_mvs0 h).mp hm
    have hc := fun S => cl_ix (S := S) (c := c) hk
    have e : stD (mvd b c s (.ix k)) = .lst [.int 1, dv (c.getD k []), .int 0, .tup []] := rfl
    have e2 : (dv (Mv.ix k) : D) = .int k := rfl
    refine ⟨false, ?_⟩
    rw [e, e2]
    unfold c_law_moved m_law_moved
    rw [callsV, V_out]
    generalize (dv b : D) = B at *
    generalize (dv c : D) = C at *
    generalize (dv (c.getD k []) : D) = Y at *
    generalize stD s = X at *
    have hk0 : ((s.k : Nat) : Int) = 0 := by omega
    simp [h0, hk0, hc]
  · obtain ⟨p, k, rfl, hp, hk, he, hbr⟩ := (mem_mvs1 h).mp hm
    have hpb := (chF_ok g o h).2 p hp
    have e2 : (dv (Mv.att p k) : D) = .tup [dv p, .int k] := rfl
    have hk0 : ¬ ((s.k : Nat) : Int) = 0 := by omega
    have hb1 := fun S => b_1 (S := S) (b := b)
    have hb2 := fun S => at_ix (S := S) hk
    have hb3 := fun S => at_0 (S := S) (attA b k)
    by_cases hk1 : s.k = 1
    · have hk1' : ((s.k : Nat) : Int) = 1 := by omega
      have e : stD (mvd b c s (.att p k)) = .lst [.int 2, dv s.ch, .int k, dv (setP (s.nm ++ [p]))] := by
        unfold mvd stD
        simp only
        rw [if_pos hk1]
        rfl
      have hnl := nm_len g o
      have h8 := g.n8
      have hs := fun A => set_specT (A := A) (ps := s.nm ++ [p]) (fun q hq => by
        rcases List.mem_append.mp hq with z | z
        · exact row_ok g (o.nm q z)
        · rw [List.mem_singleton.mp z]; exact row_ok g hpb) (by simp; omega)
      have e3 : (dv s.nm : D) = .tup (s.nm.map dv) := rfl
      have e4 : (dv (s.nm ++ [p]) : D) = .tup (s.nm.map dv ++ [dv p]) := by
        show D.tup ((s.nm ++ [p]).map dv) = _
        rw [List.map_append]
        rfl
      rw [e4] at hs
      rw [e3] at h3
      have hl : (s.nm.map dv).length + ([dv p] : List D).length ≤ SZ := by simp; omega
      refine ⟨false, ?_⟩
      rw [e, e2]
      unfold c_law_moved m_law_moved
      rw [callsV, V_out]
      generalize s.nm.map dv = L at *
      generalize (dv b : D) = B at *
      generalize (dv c : D) = C at *
      generalize (dv p : D) = P at *
      generalize (dv s.ch : D) = Z at *
      generalize (dv (setP (s.nm ++ [p])) : D) = Y at *
      generalize stD s = X at *
      have hadd := fun S => q_addt (S := S) (xs := L) (ys := [P]) hl
      simp [h0, hk1', h1, h3, hadd, hs]
    · have hk1' : ¬ ((s.k : Nat) : Int) = 1 := by omega
      have e : stD (mvd b c s (.att p k)) = .lst [.int 1, dv (attA b k).1, .int 0, dv s.nm] := by
        unfold mvd stD
        simp only
        rw [if_neg hk1]
        rfl
      refine ⟨false, ?_⟩
      rw [e, e2]
      unfold c_law_moved m_law_moved
      rw [callsV, V_out]
      generalize (dv b : D) = B at *
      generalize (dv b.2 : D) = B2 at *
      generalize (dv (attA b k) : D) = T at *
      generalize (dv (attA b k).1 : D) = U at *
      generalize (dv c : D) = C at *
      generalize (dv p : D) = P at *
      generalize (dv s.nm : D) = Z at *
      generalize stD s = X at *
      simp [h0, hk1', hk0, h, h3, hb1, hb2, hb3]
end
end K93
namespace K93
open PySem L2 HS
/-- the indexes of the first k attacks on each place -/
def ontoN (b : Board) (k j : Nat) : List Nat := (List.range k).filter fun i => decide (b.1.idxOf (attA b i).2 = j)
def lsAt (b : Board) (k : Nat) : List (List Nat) := (List.range b.1.length).map (ontoN b k)
def ontoD (b : Board) : D := .lst ((lsAt b b.2.length).map lsD)
theorem lsAt_len {b : Board} {k : Nat} : (lsAt b k).length = b.1.length := by simp [lsAt]
theorem lsAt_0 {b : Board} : lsAt b 0 = List.replicate b.1.length [] := by
  unfold lsAt ontoN
  rw [List.eq_replicate_iff]
  refine ⟨by simp, fun x hx => ?_⟩
  obtain ⟨j, _, rfl⟩ := List.mem_map.mp hx
  rfl
theorem lsAt_s {b : Board} {ls : List (List Nat)} {k j : Nat} {a : Att} {l : List Nat} (hls : ls = lsAt b k) (ha : b.2[k]? = some a) (hj : j = b.1.idxOf a.2) {hlt : j < ls.length} (hl : l = ls[j]) (hk : k < b.2.length) : ls.set j (l ++ [k]) = lsAt b (k + 1) := by
  subst hls hl
  rw [attA_at hk] at ha
  cases ha
  apply List.ext_getElem
  · rw [List.length_set, lsAt_len, lsAt_len]
  · intro i h1 h2
    rw [lsAt_len] at h2
    rw [List.getElem_set]
    have e : ∀ k (h : i < (lsAt b k).length), (lsAt b k)[i] = ontoN b k i := fun k h => by simp [lsAt]
    have e2 : (lsAt b k)[j] = ontoN b k j := by simp [lsAt]
    rw [e (k + 1)]
    unfold ontoN at e ⊢
    rw [List.range_succ, List.filter_append]
    split
    · rename_i h
      subst h
      rw [e2]
      unfold ontoN
      congr 1
      simp [← hj]
    · rename_i h
      rw [e k]
      have : ¬ b.1.idxOf (attA b k).2 = i := fun z => h (hj.trans z)
      simp [this]
section
variable {A E S : Sto}
theorem init_l2 {b : Board} {fl : List (Str × D)} {a1 a2 : Option D} (hb : gB b) (hf : fl.lookup ("places" : Str) = some (dicP b.1)) (ho : fl.lookup ("onto" : Str) = some (.lst (refL A.length b.1.length))) :
    ∃ (η : HS.Env), l_BitBoard___init___1 [some (.ref A.length), a1, a2, some (dv b.2), none, none, none] (V A (.ins "BitBoard" fl :: List.replicate b.1.length (.lst []))) = some (.nx, η, V A (.ins "BitBoard" fl :: (lsAt b b.2.length).map lsD)) := by
  have hz2 : (SZ : Nat) = 100000 := rfl
  have hz := hb.z
  have hn := hb.n
  obtain ⟨η', S', h1, a4, a5, a6, ls, hls, rfl, rfl, h2, h3⟩ := for_ind (it := iEnumD (aCons (eVar 3) aNil)) (tg := gT 2 (HS.gCons (HS.gN 4) (HS.gCons (gT 2 (HS.gCons (HS.gN 5) (HS.gCons (HS.gN 6) HS.gNil))) HS.gNil))) (body := b_BitBoard___init___1) (η := [some (.ref A.length), a1, a2, some (dv b.2), none, none, none]) (S := V A (.ins "BitBoard" fl :: List.replicate b.1.length (.lst []))) (S0 := V A (.ins "BitBoard" fl :: List.replicate b.1.length (.lst [])))
    (xs := enumD (b.2.map dv)) (chk := fun S => seqOf S (dv b.2) = some (b.2.map dv))
    (fun k η S => ∃ (a4 a5 a6 : Option D) (ls : List (List Nat)), ls = lsAt b k ∧ η = [some (.ref A.length), a1, a2, some (dv b.2), a4, a5, a6] ∧ S = V A (.ins "BitBoard" fl :: ls.map lsD) ∧ ls.length = b.1.length ∧ ∀ l ∈ ls, l.length ≤ k)
    (by
      have h2 : ∀ S, seqOf S (dv b.2) = some (b.2.map dv) := fun S => rfl
      have h3 := fun S => enK_ (h2 S)
      generalize (dv b.2 : D) = X at *
      simp [h3]) ⟨_, _, _, List.replicate b.1.length [], lsAt_0.symm, rfl, by simp [lsD], by simp, fun l hl => by rw [(List.mem_replicate.mp hl).2]; simp⟩ (fun _ _ _ _ _ => rfl) (fun k x η S hx ⟨a4, a5, a6, ls, hls, h1, h2, h3, h4⟩ => by
      subst h1 h2
      rw [enum_map, List.getElem?_map, List.getElem?_zipIdx, Option.map_map] at hx
      obtain ⟨a, ha, rfl⟩ := Option.map_eq_some_iff.mp hx
      have hk : k < b.2.length := (List.getElem?_eq_some_iff.mp ha).1
      have ham := List.mem_of_getElem? ha
      obtain ⟨p1, p2, p3⟩ := hb.t a ham
      have h5 := List.idxOf_lt_length_of_mem p1
      obtain ⟨j, hj⟩ : ∃ j, j = b.1.idxOf a.2 := ⟨_, rfl⟩
      have h6 : ls[j]? = some (ls[j]'(by omega)) := List.getElem?_eq_getElem (by omega)
      obtain ⟨l, hl⟩ : ∃ l, l = ls[j]'(by omega) := ⟨_, rfl⟩
      rw [← hl] at h6
      have hlm : l ∈ ls := List.mem_of_getElem? h6
      have hll := h4 l hlm
      have h7 := fun S => q_dGet (S := S) p1
      have h8 : ∀ S, oIx (.lst (refL A.length b.1.length)) (.int (b.1.idxOf a.2 : Nat)) S = some (.ref (A.length + (j + 1)), S) := fun S => by
        rw [q_ixl, atIn (k := b.1.idxOf a.2) (x := .ref (A.length + (j + 1))) ?_]
        · rfl
        · unfold refL
          rw [List.getElem?_map, List.getElem?_range h5, hj]
          show some (D.ref _) = _
          congr 2
          omega
      have h9 : (V A (.ins "BitBoard" fl :: ls.map lsD))[A.length + (j + 1)]? = some (lsD l) := by
        rw [V_E, List.getElem?_cons_succ, List.getElem?_map, h6]; rfl
      have h10 : (V A (.ins "BitBoard" fl :: ls.map lsD)).set (A.length + (j + 1)) (lsD (l ++ [k])) = V A (.ins "BitBoard" fl :: (ls.set j (l ++ [k])).map lsD) := by
        rw [V_sE, List.set_cons_succ, List.map_set]
      refine ⟨_, _, _, rfl, .inl ?_, some (.int (k : Nat)), some (dv a.1), some (dv a.2), ls.set j (l ++ [k]), lsAt_s hls ha hj hl hk, rfl, rfl, by simp [h3], fun l2 hl2 => ?_⟩
      · have e0 : (((a, 0 + k) : Att × Nat).2 : Int) = (k : Int) := by simp
        show b_BitBoard___init___1 [some (.ref A.length), a1, a2, some (dv b.2), some (.int (((a, 0 + k) : Att × Nat).2 : Nat)), some (dv a.1), some (dv a.2)] _ = _
        rw [e0]
        rw [← h10]
        clear h10 hl hx
        have e1 : lsD (l ++ [k]) = .lst ((l.map fun k : Nat => D.int k) ++ [.int k]) := by simp [lsD]
        have e2 : lsD l = .lst (l.map fun k : Nat => D.int k) := rfl
        have e3 : (l.map fun k : Nat => D.int k).length < SZ := by simp; omega
        rw [e1]
        rw [e2] at h9
        generalize (l.map fun k : Nat => D.int k) = L at *
        unfold b_BitBoard___init___1
        have h11 : (V A (.ins "BitBoard" fl :: ls.map lsD))[A.length]? = some (.ins "BitBoard" fl) := v_E0
        generalize (V A (.ins "BitBoard" fl :: ls.map lsD)) = T at h9 h11 ⊢
        generalize (dv b.2 : D) = X at *
        generalize (dv a.1 : D) = Y at *
        generalize (dv a.2 : D) = Z at *
        generalize dicP b.1 = U at *
        generalize refL A.length b.1.length = R at *
        simp [hf, ho, h7, h8, h9, h11, e3]
      · rcases List.mem_or_eq_of_mem_set hl2 with z | z
        · have := h4 l2 z; omega
        · subst z; simp; omega)
  have e9 : (enumD (b.2.map dv)).length = b.2.length := by unfold enumD; simp
  rw [e9] at hls
  subst hls
  exact ⟨_, h1⟩
theorem init_spec2 {b : Board} (hb : gB b) : c_BitBoard___init__ [.ref A.length, dv b] (V A [.ins "BitBoard" []]) = some (.non, false, V A (.ins "BitBoard" (flds b (.lst (refL A.length b.1.length))) :: (lsAt b b.2.length).map lsD)) := by
  obtain ⟨ls, hls⟩ : ∃ ls, ls = lsAt b b.2.length := ⟨_, rfl⟩
  have hn := hb.n
  have h1 := places_by_spec (A := V A [.ins "BitBoard" [("pieces", dv b.1)]]) hb.nd (by omega)
  have h2 := fun S => q_shl1 (S := S) (n := b.1.length) (by omega)
  have h3 : k_BitBoard___init___1 [some (.ref A.length), some (dv b), some (dv b.1), some (dv b.2), none, none, none] (V A [.ins "BitBoard" [("pieces", dv b.1), ("places", dicP b.1), ("whole", .int (2 ^ b.1.length - 1))]]) = _ := init_k1 hb lk_places
  have h4 : k_BitBoard___init___2 [some (.ref A.length), some (dv b), some (dv b.1), some (dv b.2), none, none, none] (V A [.ins "BitBoard" [("pieces", dv b.1), ("places", dicP b.1), ("whole", .int (2 ^ b.1.length - 1)), ("attacks", .lst (b.2.map (atD b.1)))]]) = _ := init_k2 hb
  obtain ⟨η, h5⟩ := init_l2 (A := A) (b := b) (a1 := some (dv b)) (a2 := some (dv b.1)) hb (lk_places2 (x := .lst (refL A.length b.1.length))) lk_onto
  rw [← hls] at h5 ⊢
  have h7 := fun S => len_dv (S := S) (xs := b.1)
  unfold c_BitBoard___init__ callI
  show (m_BitBoard___init__ [some (.ref A.length), some (dv b), none, none, none, none, none] (V A [.ins "BitBoard" []])).bind endI = _
  have eb : (dv b : D) = .tup [dv b.1, dv b.2] := rfl
  have e1 : m_BitBoard___init__ [some (.ref A.length), some (dv b), none, none, none, none, none] (V A [.ins "BitBoard" []]) = some (.nx, η, V A (.ins "BitBoard" (flds b (.lst (refL A.length b.1.length))) :: ls.map lsD)) := by
    rw [← h5]
    clear h5
    have s1 : sAsg (gT 2 (HS.gCons (HS.gN 2) (HS.gCons (HS.gN 3) HS.gNil))) (eVar 1) [some (.ref A.length), some (dv b), none, none, none, none, none] (V A [.ins "BitBoard" []]) = some (.nx, [some (.ref A.length), some (dv b), some (dv b.1), some (dv b.2), none, none, none], V A [.ins "BitBoard" []]) := rfl
    generalize (dv b : D) = X at *
    unfold m_BitBoard___init__
    rw [q_seq, s1, seqK_n]
    clear s1 eb
    generalize (dv b.2 : D) = Z at *
    have s2 : sSetF "BitBoard" "pieces" (eVar 0) (eVar 2) [some (.ref A.length), some X, some (dv b.1), some Z, none, none, none] (V A [.ins "BitBoard" []]) = some (.nx, [some (.ref A.length), some X, some (dv b.1), some Z, none, none, none], V A [.ins "BitBoard" [("pieces", dv b.1)]]) := by
      generalize (dv b.1 : D) = Y
      simp [sfK3_, putFD]
    rw [q_seq, s2, seqK_n]
    have s3 : sSetF "BitBoard" "places" (eVar 0) (eCall c_places_by 1 (aCons (eVar 2) aNil)) [some (.ref A.length), some X, some (dv b.1), some Z, none, none, none] (V A [.ins "BitBoard" [("pieces", dv b.1)]]) = some (.nx, [some (.ref A.length), some X, some (dv b.1), some Z, none, none, none], V A [.ins "BitBoard" [("pieces", dv b.1), ("places", dicP b.1)]]) := by
      generalize (dv b.1 : D) = Y at *
      generalize dicP b.1 = U at *
      simp [h1, sfK3_]
      rfl
    rw [q_seq, s3, seqK_n]
    have s4 : sSetF "BitBoard" "whole" (eVar 0) (eBin oSub (eBin oShl (eC (.int 1)) (eB bLen (aCons (eVar 2) aNil))) (eC (.int 1))) [some (.ref A.length), some X, some (dv b.1), some Z, none, none, none] (V A [.ins "BitBoard" [("pieces", dv b.1), ("places", dicP b.1)]]) = some (.nx, [some (.ref A.length), some X, some (dv b.1), some Z, none, none, none], V A [.ins "BitBoard" [("pieces", dv b.1), ("places", dicP b.1), ("whole", .int (2 ^ b.1.length - 1))]]) := by
      generalize (dv b.1 : D) = Y at *
      generalize dicP b.1 = U at *
      simp [h7, h2, sfK3_]
      rfl
    rw [q_seq, s4, seqK_n]
    have s5 : sSetF "BitBoard" "attacks" (eVar 0) k_BitBoard___init___1 [some (.ref A.length), some X, some (dv b.1), some Z, none, none, none] (V A [.ins "BitBoard" [("pieces", dv b.1), ("places", dicP b.1), ("whole", .int (2 ^ b.1.length - 1))]]) = some (.nx, [some (.ref A.length), some X, some (dv b.1), some Z, none, none, none], V A [.ins "BitBoard" [("pieces", dv b.1), ("places", dicP b.1), ("whole", .int (2 ^ b.1.length - 1)), ("attacks", .lst (b.2.map (atD b.1)))]]) := by
      generalize (dv b.1 : D) = Y at *
      generalize dicP b.1 = U at *
      generalize b.2.map (atD b.1) = L at *
      simp [h3, sfK3_]
      rfl
    rw [q_seq, s5, seqK_n]
    have s6 : sSetF "BitBoard" "onto" (eVar 0) k_BitBoard___init___2 [some (.ref A.length), some X, some (dv b.1), some Z, none, none, none] (V A [.ins "BitBoard" [("pieces", dv b.1), ("places", dicP b.1), ("whole", .int (2 ^ b.1.length - 1)), ("attacks", .lst (b.2.map (atD b.1)))]]) = some (.nx, [some (.ref A.length), some X, some (dv b.1), some Z, none, none, none], V A (.ins "BitBoard" (flds b (.lst (refL A.length b.1.length))) :: List.replicate b.1.length (.lst []))) := by
      generalize refL A.length b.1.length = R at *
      have e : flds b (.lst R) = putFD "onto" (.lst R) [("pieces", dv b.1), ("places", dicP b.1), ("whole", .int (2 ^ b.1.length - 1)), ("attacks", .lst (b.2.map (atD b.1)))] := rfl
      rw [e]
      generalize (dv b.1 : D) = Y at *
      generalize dicP b.1 = U at *
      generalize b.2.map (atD b.1) = L at *
      simp [h4, sfK3_]
    rw [q_seq, s6, seqK_n]
  rw [e1]
  rfl
/-- BitBoard(board) -/
theorem new_spec2 {b : Board} (hb : gB b) : newK "BitBoard" c_BitBoard___init__ 2 (some ([dv b], A)) = some (bbD b (ontoD b), A) := by
  have h1 := init_spec2 (A := A) hb
  have h2 := lsAt_len (b := b) (k := b.2.length)
  unfold ontoD
  obtain ⟨ls, hls⟩ : ∃ ls, ls = lsAt b b.2.length := ⟨_, rfl⟩
  rw [← hls] at h1 h2 ⊢
  obtain ⟨T, hT⟩ : ∃ T, T = V A (.ins "BitBoard" (flds b (.lst (refL A.length b.1.length))) :: ls.map lsD) := ⟨_, rfl⟩
  have hz := fz_bb (A := A) (b := b) (ls := ls) (k := 38) (by omega) h2
  rw [← hT] at h1 hz
  have hget : T[A.length]? = some (.ins "BitBoard" (flds b (.lst (refL A.length b.1.length)))) := by rw [hT]; exact v_E0
  have hend : endF A T (.ref A.length) = some (bbD b (.lst (ls.map lsD)), false, A) ∨ endF A T (.ref A.length) = some (bbD b (.lst (ls.map lsD)), true, A) := by
    have ht : T.take A.length = A := by rw [hT]; unfold HS.V; rw [List.take_append_of_le_length (Nat.le_refl _), List.take_of_length_le (Nat.le_refl _)]
    unfold endF
    rw [if_neg (by rw [hT]; simp), if_pos (show okEnd A.length A T from fun i hi => .inl (by rw [hT]; exact V_A hi))]
    simp only [Nat.lt_irrefl, if_false, hget, Option.bind_some, ht]
    rw [show cloO A.length (D.ins "BitBoard" (flds b (.lst (refL A.length b.1.length)))) = clo A.length (D.ins "BitBoard" (flds b (.lst (refL A.length b.1.length)))) from Bool.and_true _]
    by_cases hc : clo A.length (D.ins "BitBoard" (flds b (.lst (refL A.length b.1.length)))) = true
    · rw [if_pos hc]
      right
      have h0 : b.1.length = 0 := by
        unfold flds at hc
        rw [clo] at hc
        simp only [cloF, Bool.and_eq_true] at hc
        have h3 := hc.2.2.2.2.1
        rw [clo] at h3
        rcases Nat.eq_zero_or_pos b.1.length with z | z
        · exact z
        · exfalso
          obtain ⟨m, hm⟩ : ∃ m, b.1.length = m + 1 := ⟨b.1.length - 1, by omega⟩
          rw [hm] at h3
          unfold refL at h3
          rw [List.range_succ_eq_map, List.map_cons, cloL, clo, Bool.and_eq_true, decide_eq_true_eq] at h3
          omega
      have h3 : ls = [] := List.eq_nil_of_length_eq_zero (by omega)
      rw [h3, h0]
      rfl
    · rw [if_neg hc]
      left
      have e : fzD FZ A.length T (.ref A.length) = some (bbD b (.lst (ls.map lsD))) := by
        show fzD (39 + 1) A.length T (.ref A.length) = _
        rw [fzD, if_neg (by omega), hget, Option.bind_some]
        exact hz
      rw [e]
      rfl
  show (if ([dv b] : List D).length + 1 = 2 then (c_BitBoard___init__ (.ref A.length :: [dv b]) (A ++ [.ins "BitBoard" []])).bind fun r => match r.1 with
  | .non => (endF A r.2.2 (.ref A.length)).bind fun q => some (q.1, q.2.2)
  | _ => none else none) = _
  have h1 : c_BitBoard___init__ (.ref A.length :: [dv b]) (A ++ [.ins "BitBoard" []]) = _ := h1
  rw [if_pos (show ([dv b] : List D).length + 1 = 2 from rfl), h1]
  rcases hend with h | h <;> simp only [Option.bind_some, h]
end
end K93
namespace K93
open PySem L2 HS
def bbO (b : Board) : D := bbD b (ontoD b)
def tmD (b : Board) (s : Stt) : D := if s.k = 0 then .tup [.non, .non, .int 0] else if s.k = 1 then .tup [.int (IM b.1.length (supP b.1 s.ch)), .non, .int (IM b.1.length (supP b.1 s.nm))] else .tup [.non, .int (s.a : Nat), .int (IM b.1.length (supP b.1 s.nm))]
section
variable {A E S : Sto} {b : Board} {c : List Sup} {s : Stt}
/-- the attacks on a place are those on its piece -/
theorem onto_pc (g : bcT b c) {j : Nat} (hj : j < b.1.length) : ontoN b b.2.length j = (List.range b.2.length).filter fun k => decide ((attA b k).2 = pcN b.1 j) := by
  unfold ontoN
  refine List.filter_congr fun k hk => ?_
  have hk : k < b.2.length := by simpa using hk
  have hm := (g.g.t _ (attA_mem hk)).1
  rw [pcN_g hj, decide_eq_decide]
  constructor
  · intro h
    exact ((idx_iff g.g.nd hj).mp ⟨h, hm⟩).symm
  · intro h
    exact ((idx_iff g.g.nd hj).mpr h.symm).1
theorem onto_ix {j : Nat} (hj : j < b.1.length) : oIx (ontoD b) (.int (j : Nat)) S = some (.lst ((ontoN b b.2.length j).map fun k : Nat => D.int k), S) := by
  unfold ontoD
  rw [q_ixl, atIn (k := j) (x := lsD (ontoN b b.2.length j)) ?_]
  · rfl
  · unfold lsAt
    rw [List.getElem?_map, List.getElem?_map, List.getElem?_range hj]
    rfl
theorem ontoN_len {k j : Nat} : (ontoN b k j).length ≤ k := by
  unfold ontoN
  have := List.length_filter_le (fun i => decide (b.1.idxOf (attA b i).2 = j)) (List.range k)
  simpa using this
theorem flat_pls {α : Type} {U t : Sup} (hU : Asc U) (ht : Asc t) (hs : ∀ p ∈ t, p ∈ U) (f : Piece → List α) : (plsF U.length (supP U t)).flatMap (fun j => f (pcN U j)) = t.flatMap f := by
  have h := set_places hU ht hs
  unfold setB at h
  conv => rhs; rw [← h]
  rw [List.flatMap_map]
theorem flat_cg {α β : Type} {f g : α → List β} : ∀ {xs : List α}, (∀ x ∈ xs, f x = g x) → xs.flatMap f = xs.flatMap g
  | [], _ => rfl
  | x :: xs, h => by rw [List.flatMap_cons, List.flatMap_cons, h x List.mem_cons_self, flat_cg fun y hy => h y (List.mem_cons_of_mem x hy)]
theorem against_spec (g : bcT b c) {ch : Sup} (h1 : Asc ch) (h2 : ∀ p ∈ ch, p ∈ b.1) : c_moves_against [bbO b, .int (IM b.1.length (supP b.1 ch))] A = some (.tup (ch.flatMap fun p => ((List.range b.2.length).filter fun k => decide ((attA b k).2 = p)).map (atM p)), false, A) := by
  have hz2 : (SZ : Nat) = 100000 := rfl
  have hn := g.n8
  have hl := g.l
  have e0 : ch.flatMap (fun p => ((List.range b.2.length).filter fun k => decide ((attA b k).2 = p)).map (atM p)) = (plsF b.1.length (supP b.1 ch)).flatMap fun j => (ontoN b b.2.length j).map (atM (pcN b.1 j)) := by
    rw [← flat_pls g.as h1 h2]
    have : ∀ j ∈ plsF b.1.length (supP b.1 ch), ((List.range b.2.length).filter fun k => decide ((attA b k).2 = pcN b.1 j)).map (atM (pcN b.1 j)) = (ontoN b b.2.length j).map (atM (pcN b.1 j)) := fun j hj => by rw [onto_pc g (pls_lt hj)]
    exact flat_cg this
  have hk : k_moves_against_1 [some (bbO b), some (.int (IM b.1.length (supP b.1 ch))), none, none] A = some (.lst ((plsF b.1.length (supP b.1 ch)).flatMap fun j => (ontoN b b.2.length j).map (atM (pcN b.1 j))), A) := by
    unfold k_moves_against_1
    refine lc2_flat (S := A) (as := plsF b.1.length (supP b.1 ch)) (g := fun k : Nat => D.int k) (bs := fun j => ontoN b b.2.length j) (g1 := fun k : Nat => D.int k) (f := fun j k => atM (pcN b.1 j) k) (chk := chkS (.lst ((plsF b.1.length (supP b.1 ch)).map fun k : Nat => D.int k)) ((plsF b.1.length (supP b.1 ch)).map fun k : Nat => D.int k)) ?_ rfl ?_ fun j hj => ?_
    · have h := places_of_spec (A := A) (n := b.1.length) (p := supP b.1 ch) (by omega)
      generalize ((plsF b.1.length (supP b.1 ch)).map fun k : Nat => D.int k) = L at *
      generalize bbO b = B at *
      simp [h]
    · have h5 := flat_len (f := fun j => ontoN b b.2.length j) (m := 11000) (xs := plsF b.1.length (supP b.1 ch)) fun q _ => Nat.le_trans ontoN_len hl
      have h6 : (plsF b.1.length (supP b.1 ch)).length * 11000 ≤ 8 * 11000 := Nat.mul_le_mul_right _ (Nat.le_trans pls_len hn)
      omega
    · have hj' := pls_lt hj
      refine ⟨[some (bbO b), some (.int (IM b.1.length (supP b.1 ch))), some (.int (j : Nat)), none], chkS (.lst ((ontoN b b.2.length j).map fun k : Nat => D.int k)) ((ontoN b b.2.length j).map fun k : Nat => D.int k), rfl, ?_, rfl, fun k hk => ⟨[some (bbO b), some (.int (IM b.1.length (supP b.1 ch))), some (.int (j : Nat)), some (.int (k : Nat))], rfl, ?_⟩⟩
      · have h3 := lk_onto (b := b) (x := ontoD b)
        have h4 := fun S => onto_ix (S := S) hj'
        unfold bbO bbD
        generalize flds b (ontoD b) = F at *
        generalize ontoD b = O at *
        generalize ((ontoN b b.2.length j).map fun k : Nat => D.int k) = L at *
        simp [h3, h4]
      · have h3 := lk_pieces (b := b) (x := ontoD b)
        have h4 := fun S => pc_ix (S := S) hj'
        have e : atM (pcN b.1 j) k = .tup [dv (pcN b.1 j), .int k] := rfl
        rw [e]
        unfold bbO bbD
        generalize flds b (ontoD b) = F at *
        generalize (dv b.1 : D) = P at *
        generalize (dv (pcN b.1 j) : D) = Q at *
        simp [h3, h4]
  unfold c_moves_against m_moves_against
  rw [callsV, V_out, e0]
  generalize ((plsF b.1.length (supP b.1 ch)).flatMap fun j => (ontoN b b.2.length j).map (atM (pcN b.1 j))) = L at *
  generalize bbO b = B at *
  simp [hk]
theorem bar_and (g : bcT b c) (o : okS' b s) (h2 : s.k = 2) {k : Nat} (hk : k < b.2.length) : (!decide (Builtin.bitAnd (IM b.1.length (supP b.1 (attA b k).1)) (IM b.1.length (supP b.1 s.nm)) = 0)) = barF b s k := by
  have hm := g.g.t _ (attA_mem hk)
  unfold barF
  rw [IM_and, Bool.eq_iff_iff, Bool.not_eq_true', decide_eq_false_iff_not, IM_eq0, decide_eq_true h2, Bool.true_and, List.any_eq_true]
  constructor
  · intro h
    obtain ⟨j, hj, e⟩ : ∃ j, j < b.1.length ∧ (supP b.1 (attA b k).1 j && supP b.1 s.nm j) = true := by
      apply Decidable.byContradiction
      intro z
      refine h fun j hj => ?_
      cases e : supP b.1 (attA b k).1 j && supP b.1 s.nm j with
      | false => rfl
      | true => exact absurd ⟨j, hj, e⟩ z
    unfold supP at e
    rw [List.getElem?_eq_getElem hj] at e
    simp only [Bool.and_eq_true, decide_eq_true_eq] at e
    exact ⟨_, e.2, by simpa using e.1⟩
  · rintro ⟨p, hp, h⟩ z
    obtain ⟨j, hj, e⟩ := List.getElem_of_mem (o.nm p hp)
    have := z j hj
    unfold supP at this
    rw [List.getElem?_eq_getElem hj, e] at this
    simp at h
    simp [h, hp] at this
theorem ans_in (g : bcT b c) (o : okS' b s) (h2 : s.k = 2) {j : Nat} (hj : j < b.1.length) {a1 a5 : Option D} {L : List D} (hL : L.length + b.2.length < SZ) :
    ∃ a5', l_moves_answering_1 [some (bbO b), a1, some (.int (IM b.1.length (supP b.1 s.nm))), some (.ref A.length), some (.int (j : Nat)), a5] (V A [.lst L]) =
      some (.nx, [some (bbO b), a1, some (.int (IM b.1.length (supP b.1 s.nm))), some (.ref A.length), some (.int (j : Nat)), a5'], V A [.lst (L ++ ((ontoN b b.2.length j).filter fun k => !barF b s k).map (atM (pcN b.1 j)))]) := by
  have hz2 : (SZ : Nat) = 100000 := rfl
  obtain ⟨M, hM⟩ : ∃ M, M = IM b.1.length (supP b.1 s.nm) := ⟨_, rfl⟩
  obtain ⟨O, hO⟩ : ∃ O, O = ontoN b b.2.length j := ⟨_, rfl⟩
  have hOl : O.length ≤ b.2.length := by rw [hO]; exact ontoN_len
  have hi : ∀ a5, iE (eBin oIx (eFld "BitBoard" "onto" (eVar 0)) (eVar 4)) [some (bbO b), a1, some (.int M), some (.ref A.length), some (.int (j : Nat)), a5] (V A [.lst L]) = some (⟨O.map fun k : Nat => D.int k, chkS (.lst (O.map fun k : Nat => D.int k)) (O.map fun k : Nat => D.int k)⟩, V A [.lst L]) := fun a5 => by
    have h3 := lk_onto (b := b) (x := ontoD b)
    have h4 := fun S => onto_ix (S := S) hj
    rw [← hO] at h4
    unfold bbO bbD
    generalize flds b (ontoD b) = F at *
    generalize ontoD b = OO at *
    generalize (O.map fun k : Nat => D.int k) = LL at *
    simp [h3, h4]
  obtain ⟨η', S', h5, a5', rfl, rfl⟩ := for_ind (it := iE (eBin oIx (eFld "BitBoard" "onto" (eVar 0)) (eVar 4))) (tg := HS.gN 5) (body := b_moves_answering_1) (S := V A [.lst L]) (S0 := V A [.lst L]) (chk := chkS (.lst (O.map fun k : Nat => D.int k)) (O.map fun k : Nat => D.int k))
    (fun k η S => ∃ a5, η = [some (bbO b), a1, some (.int M), some (.ref A.length), some (.int (j : Nat)), a5] ∧ S = V A [.lst (L ++ ((O.take k).filter fun k => !barF b s k).map (atM (pcN b.1 j)))])
    (hi a5) ⟨a5, rfl, by simp⟩ (fun _ _ _ _ _ => rfl) (fun k x η S hx ⟨a5, h3, h4⟩ => by
      subst h3 h4
      rw [List.getElem?_map] at hx
      obtain ⟨i, hi, rfl⟩ := Option.map_eq_some_iff.mp hx
      have hk : k < O.length := (List.getElem?_eq_some_iff.mp hi).1
      have him : i < b.2.length := by
        have := List.mem_of_getElem? hi
        rw [hO] at this
        unfold ontoN at this
        simpa using (List.mem_filter.mp this).1
      have hlen : (L ++ ((O.take k).filter fun k => !barF b s k).map (atM (pcN b.1 j))).length < SZ := by
        rw [List.length_append, List.length_map]
        have := List.length_filter_le (fun k => !barF b s k) (O.take k)
        rw [List.length_take] at this
        omega
      have hbar := bar_and g o h2 him
      rw [← hM] at hbar
      refine ⟨_, [some (bbO b), a1, some (.int M), some (.ref A.length), some (.int (j : Nat)), some (.int (i : Nat))], _, rfl, .inl ?_, _, rfl, rfl⟩
      rw [List.take_add_one, hi, List.filter_append, List.map_append, ← List.append_assoc]
      generalize (L ++ ((O.take k).filter fun k => !barF b s k).map (atM (pcN b.1 j))) = LL at *
      have q1 := lk_attacks (b := b) (x := ontoD b)
      have q2 : ∀ S, oIx (.lst (b.2.map (atD b.1))) (.int (i : Nat)) S = some (atD b.1 (attA b i), S) := fun S => by
        rw [q_ixl, atIn (k := i) (x := atD b.1 (attA b i)) (by rw [List.getElem?_map, attA_at him]; rfl)]
        rfl
      have q3 : ∀ S, oIx (atD b.1 (attA b i)) (.int 0) S = some (.int (IM b.1.length (supP b.1 (attA b i).1)), S) := fun S => by unfold atD; simp
      have q4 := lk_pieces (b := b) (x := ontoD b)
      have q5 := fun S => pc_ix (S := S) hj
      have e : atM (pcN b.1 j) i = .tup [dv (pcN b.1 j), .int i] := rfl
      unfold b_moves_answering_1 bbO bbD
      simp only [Option.toList_some, List.filter_cons, List.filter_nil]
      generalize flds b (ontoD b) = F at *
      generalize (dv b.1 : D) = P at *
      generalize b.2.map (atD b.1) = Q at *
      generalize atD b.1 (attA b i) = T at *
      generalize (dv (pcN b.1 j) : D) = W at *
      by_cases hc : Builtin.bitAnd (IM b.1.length (supP b.1 (attA b i).1)) M = 0
      · have : barF b s i = false := by rw [← hbar]; simp [hc]
        simp [q1, q2, q3, q4, q5, hc, this, hlen, e]
      · have : barF b s i = true := by rw [← hbar]; simp [hc]
        simp [q1, q2, q3, q4, q5, hc, this, hlen, e])
  refine ⟨a5', ?_⟩
  rw [List.length_map, List.take_length, hO, hM] at h5
  exact h5
theorem answering_spec (g : bcT b c) (o : okS' b s) (h2 : s.k = 2) : c_moves_answering [bbO b, .int (s.a : Nat), .int (IM b.1.length (supP b.1 s.nm))] A = some (.tup ((mvs b c s).map dv), false, A) := by
  have hz2 : (SZ : Nat) = 100000 := rfl
  have hn := g.n8
  have hl := g.l
  have ha := o.a h2
  have e1 : chF b s = (attA b s.a).1 := by unfold chF; rw [if_pos h2]
  obtain ⟨c1, c2⟩ := chF_ok g o (by omega)
  rw [e1] at c1 c2
  obtain ⟨PL, hPL⟩ : ∃ PL, PL = plsF b.1.length (supP b.1 (attA b s.a).1) := ⟨_, rfl⟩
  obtain ⟨M, hM⟩ : ∃ M, M = IM b.1.length (supP b.1 s.nm) := ⟨_, rfl⟩
  have e0 : (mvs b c s).map dv = PL.flatMap fun j => ((ontoN b b.2.length j).filter fun k => !barF b s k).map (atM (pcN b.1 j)) := by
    rw [mvs_flat (by omega), e1, ← flat_pls g.as c1 c2, hPL]
    refine flat_cg fun j hj => ?_
    rw [onto_pc g (pls_lt hj), List.filter_filter]
    unfold onF
    congr 2
    funext k
    exact Bool.and_comm _ _
  have hi : ∀ a4 a5, iE (eCall c_places_of 1 (aCons (eBin oIx (eBin oIx (eFld "BitBoard" "attacks" (eVar 0)) (eVar 1)) (eC (.int 0))) aNil)) [some (bbO b), some (.int (s.a : Nat)), some (.int M), some (.ref A.length), a4, a5] (V A [.lst []]) = some (⟨PL.map fun k : Nat => D.int k, chkS (.lst (PL.map fun k : Nat => D.int k)) (PL.map fun k : Nat => D.int k)⟩, V A [.lst []]) := fun a4 a5 => by
    have h := fun A => places_of_spec (A := A) (n := b.1.length) (p := supP b.1 (attA b s.a).1) (by omega)
    rw [← hPL] at h
    have q1 := lk_attacks (b := b) (x := ontoD b)
    have q2 : ∀ S, oIx (.lst (b.2.map (atD b.1))) (.int (s.a : Nat)) S = some (atD b.1 (attA b s.a), S) := fun S => by
      rw [q_ixl, atIn (k := s.a) (x := atD b.1 (attA b s.a)) (by rw [List.getElem?_map, attA_at ha]; rfl)]
      rfl
    have q3 : ∀ S, oIx (atD b.1 (attA b s.a)) (.int 0) S = some (.int (IM b.1.length (supP b.1 (attA b s.a).1)), S) := fun S => by unfold atD; simp
    unfold bbO bbD
    generalize flds b (ontoD b) = F at *
    generalize b.2.map (atD b.1) = Q at *
    generalize atD b.1 (attA b s.a) = T at *
    generalize PL.map (fun k : Nat => D.int k) = LL at *
    simp [q1, q2, q3, h]
  obtain ⟨η', S', h5, a4', a5', rfl, rfl⟩ := for_ind (it := iE (eCall c_places_of 1 (aCons (eBin oIx (eBin oIx (eFld "BitBoard" "attacks" (eVar 0)) (eVar 1)) (eC (.int 0))) aNil))) (tg := HS.gN 4) (body := l_moves_answering_1) (S := V A [.lst []]) (S0 := V A [.lst []]) (chk := chkS (.lst (PL.map fun k : Nat => D.int k)) (PL.map fun k : Nat => D.int k))
    (fun k η S => ∃ a4 a5, η = [some (bbO b), some (.int (s.a : Nat)), some (.int M), some (.ref A.length), a4, a5] ∧ S = V A [.lst ((PL.take k).flatMap fun j => ((ontoN b b.2.length j).filter fun k => !barF b s k).map (atM (pcN b.1 j)))])
    (hi none none) ⟨none, none, rfl, by simp⟩ (fun _ _ _ _ _ => rfl) (fun k x η S hx ⟨a4, a5, h3, h4⟩ => by
      subst h3 h4
      rw [List.getElem?_map] at hx
      obtain ⟨j, hj, rfl⟩ := Option.map_eq_some_iff.mp hx
      have hk : k < PL.length := (List.getElem?_eq_some_iff.mp hj).1
      have hPn : PL.length ≤ 8 := by rw [hPL]; exact Nat.le_trans pls_len hn
      have hjn : j < b.1.length := by have := List.mem_of_getElem? hj; rw [hPL] at this; exact pls_lt this
      have h5 := flat_len (f := fun j => ((ontoN b b.2.length j).filter fun k => !barF b s k).map (atM (pcN b.1 j))) (m := 11000) (xs := PL.take k) fun q _ => by
        rw [List.length_map]
        exact Nat.le_trans (List.length_filter_le _ _) (Nat.le_trans ontoN_len hl)
      have h6 : (PL.take k).length * 11000 ≤ 7 * 11000 := Nat.mul_le_mul_right _ (by rw [List.length_take]; omega)
      obtain ⟨a5', hb⟩ := ans_in (A := A) (a1 := some (.int (s.a : Nat))) (a5 := a5) g o h2 hjn (L := (PL.take k).flatMap fun j => ((ontoN b b.2.length j).filter fun k => !barF b s k).map (atM (pcN b.1 j))) (by omega)
      rw [← hM] at hb
      refine ⟨_, _, _, rfl, .inl hb, _, a5', rfl, ?_⟩
      rw [List.take_add_one, hj]
      simp)
  have hloop : l_moves_answering_2 [some (bbO b), some (.int (s.a : Nat)), some (.int M), some (.ref A.length), none, none] (V A [.lst []]) = some (.nx, [some (bbO b), some (.int (s.a : Nat)), some (.int M), some (.ref A.length), a4', a5'], V A [.lst ((mvs b c s).map dv)]) := by
    rw [List.length_map, List.take_length, ← e0] at h5
    exact h5
  have hpl : pl (DV.n Mv + 1) (.tup ((mvs b c s).map dv)) = true := by
    simp only [pl, List.all_map, List.all_eq_true]
    exact fun m _ => DV.hpl m
  rw [← hM]
  unfold c_moves_answering m_moves_answering
  rw [callsV]
  generalize (mvs b c s).map dv = L at *
  generalize bbO b = B at *
  simp [hloop]
  exact end_V hpl (by decide)
theorem moves_at_spec (g : bcT b c) (o : okS' b s) : c_moves_at [bbO b, .lst ((parts b c).map (iD b.1.length)), tmD b s] A = some (.tup ((mvs b c s).map dv), false, A) := by
  have hz2 : (SZ : Nat) = 100000 := rfl
  have hk := o.k
  unfold c_moves_at m_moves_at tmD
  rw [callsV, V_out]
  have h3 : s.k = 0 ∨ s.k = 1 ∨ s.k = 2 := by omega
  rcases h3 with h | h | h
  · rw [if_pos h]
    have e : (mvs b c s).map dv = rangeD 0 c.length := by
      unfold mvs rangeD
      rw [if_pos h, List.map_map]
      refine List.map_congr_left fun k _ => ?_
      show D.int k = D.int (0 + k)
      congr 1
      omega
    rw [e]
    have hl : ((parts b c).map (iD b.1.length)).length = c.length := by unfold parts; simp
    have hc := g.cl
    have hz : c.length ≤ SZ := by omega
    generalize (parts b c).map (iD b.1.length) = L at *
    generalize bbO b = B at *
    have ht := trgK_ (S := A) hz
    simp [hl, ht, HS.isNon]
  · rw [if_neg (by omega), if_pos h]
    obtain ⟨c1, c2⟩ := o.ch (by omega)
    have h5 := against_spec (A := A) g c1 c2
    have e : (mvs b c s).map dv = s.ch.flatMap fun p => ((List.range b.2.length).filter fun k => decide ((attA b k).2 = p)).map (atM p) := by
      rw [mvs_flat (by omega)]
      unfold chF
      rw [if_neg (by omega)]
      refine flat_cg fun p _ => ?_
      unfold onF barF
      congr 2
      funext k
      simp [h]
    rw [← e] at h5
    generalize (mvs b c s).map dv = LL at *
    generalize (parts b c).map (iD b.1.length) = L at *
    generalize bbO b = B at *
    simp [h5, HS.isNon]
  · rw [if_neg (by omega), if_neg (by omega)]
    have h5 := answering_spec (A := A) g o h
    generalize (mvs b c s).map dv = LL at *
    generalize (parts b c).map (iD b.1.length) = L at *
    generalize bbO b = B at *
    simp [h5, HS.isNon]
end
end K93
namespace K93
open PySem L2 HS
section
variable {A E S : Sto} {b : Board} {c : List Sup} {s : Stt}
theorem supP_or {ps : Sup} (hn : ps.Nodup) {t : Sup} {p : Piece} (hp : p ∈ ps) : Builtin.bitOr (IM ps.length (supP ps t)) (2 ^ ps.idxOf p) = IM ps.length (supP ps (setP (t ++ [p]))) := by
  have hi := List.idxOf_lt_length_of_mem hp
  rw [IM_one hi, IM_or]
  refine IM_congr fun k hk => ?_
  unfold supP
  rw [List.getElem?_eq_getElem hk, Bool.eq_iff_iff]
  simp only [Bool.or_eq_true, decide_eq_true_eq, mem_setP, List.mem_append, List.mem_singleton]
  have h := idx_iff hn hk (x := p)
  constructor
  · rintro (z | z)
    · exact .inl z
    · exact .inr (h.mp ⟨z.symm, hp⟩)
  · rintro (z | z)
    · exact .inl z
    · exact .inr (h.mpr z).1.symm
theorem behind_spec (g : bcT b c) (o : okS' b s) {m : Mv} (hm : m ∈ mvs b c s) : c_time_behind [bbO b, .lst ((parts b c).map (iD b.1.length)), tmD b s, dv m] A = some (tmD b (mvd b c s m), false, A) := by
  have hn := g.n8
  by_cases h : s.k = 0
  · obtain ⟨k, hk, rfl⟩ := (mem_mvs0 h).mp hm
    have e2 : (dv (Mv.ix k) : D) = .int k := rfl
    have e3 : tmD b (mvd b c s (.ix k)) = .tup [.int (IM b.1.length (supP b.1 (c.getD k []))), .non, .int 0] := by
      show D.tup [.int (IM b.1.length (supP b.1 (c.getD k []))), .non, .int (IM b.1.length (supP b.1 []))] = _
      have : IM b.1.length (supP b.1 []) = 0 := IM_eq0.mpr fun j hj => by
        unfold supP
        rw [List.getElem?_eq_getElem hj]
        simp
      rw [this]
    have q : ∀ S, oIx (.lst ((parts b c).map (iD b.1.length))) (.int (k : Nat)) S = some (.int (IM b.1.length (supP b.1 (c.getD k []))), S) := fun S => by
      rw [q_ixl, atIn (k := k) (x := .int (IM b.1.length (supP b.1 (c.getD k [])))) ?_]
      · rfl
      · unfold parts
        rw [List.map_map, List.getElem?_map, List.getD_eq_getElem?_getD, List.getElem?_eq_getElem hk]
        rfl
    unfold c_time_behind m_time_behind
    rw [callsV, V_out, e2, e3]
    have e4 : tmD b s = .tup [.non, .non, .int 0] := by unfold tmD; rw [if_pos h]
    rw [e4]
    generalize (parts b c).map (iD b.1.length) = L at *
    generalize bbO b = B at *
    simp [q, HS.isNon]
  · obtain ⟨p, k, rfl, hp, hk, he, hbr⟩ := (mem_mvs1 h).mp hm
    have hpb := (chF_ok g o h).2 p hp
    have e2 : (dv (Mv.att p k) : D) = .tup [dv p, .int k] := rfl
    by_cases hk1 : s.k = 1
    · have e3 : tmD b (mvd b c s (.att p k)) = .tup [.non, .int k, .int (IM b.1.length (supP b.1 (setP (s.nm ++ [p]))))] := by
        unfold mvd
        simp only
        rw [if_pos hk1]
        rfl
      have e4 : tmD b s = .tup [.int (IM b.1.length (supP b.1 s.ch)), .non, .int (IM b.1.length (supP b.1 s.nm))] := by unfold tmD; rw [if_neg h, if_pos hk1]
      have h1 := lk_places2 (b := b) (x := ontoD b)
      have hi := List.idxOf_lt_length_of_mem hpb
      have h2 := fun S => q_dGet (S := S) hpb
      have h3 := fun S => q_shl1 (S := S) (n := b.1.idxOf p) (by omega)
      have h4 := supP_or g.g.nd (t := s.nm) hpb
      unfold c_time_behind m_time_behind
      rw [callsV, V_out, e2, e3, e4, ← h4]
      unfold bbO bbD
      generalize (parts b c).map (iD b.1.length) = L at *
      generalize flds b (ontoD b) = F at *
      generalize (dv p : D) = P at *
      generalize dicP b.1 = U at *
      simp [h1, h2, h3, HS.isNon]
    · have h22 : s.k = 2 := by have := o.k; omega
      have e3 : tmD b (mvd b c s (.att p k)) = .tup [.int (IM b.1.length (supP b.1 (attA b k).1)), .non, .int (IM b.1.length (supP b.1 s.nm))] := by
        unfold mvd
        simp only
        rw [if_neg hk1]
        rfl
      have e4 : tmD b s = .tup [.non, .int (s.a : Nat), .int (IM b.1.length (supP b.1 s.nm))] := by unfold tmD; rw [if_neg h, if_neg hk1]
      have q1 := lk_attacks (b := b) (x := ontoD b)
      have q2 : ∀ S, oIx (.lst (b.2.map (atD b.1))) (.int (k : Nat)) S = some (atD b.1 (attA b k), S) := fun S => by
        rw [q_ixl, atIn (k := k) (x := atD b.1 (attA b k)) (by rw [List.getElem?_map, attA_at hk]; rfl)]
        rfl
      have q3 : ∀ S, oIx (atD b.1 (attA b k)) (.int 0) S = some (.int (IM b.1.length (supP b.1 (attA b k).1)), S) := fun S => by unfold atD; simp
      unfold c_time_behind m_time_behind
      rw [callsV, V_out, e2, e3, e4]
      unfold bbO bbD
      generalize (parts b c).map (iD b.1.length) = L at *
      generalize flds b (ontoD b) = F at *
      generalize b.2.map (atD b.1) = Q at *
      generalize atD b.1 (attA b k) = T at *
      generalize (dv p : D) = P at *
      simp [q1, q2, q3, HS.isNon]
def tbF (b : Board) (c : List Sup) (i j : Nat) : List (PySem.Str × D) := [("bits", bbO b), ("parts", .lst ((parts b c).map (iD b.1.length))), ("times", .ref i), ("made", .ref j)]
theorem tb_bits {i j : Nat} : (tbF b c i j).lookup ("bits" : PySem.Str) = some (bbO b) := by
  unfold tbF
  simp only [List.lookup_cons]
  rfl
theorem tb_parts {i j : Nat} : (tbF b c i j).lookup ("parts" : PySem.Str) = some (.lst ((parts b c).map (iD b.1.length))) := by
  unfold tbF
  simp only [List.lookup_cons]
  rfl
theorem tb_times {i j : Nat} : (tbF b c i j).lookup ("times" : PySem.Str) = some (.ref i) := by
  unfold tbF
  simp only [List.lookup_cons]
  rfl
theorem tb_made {i j : Nat} : (tbF b c i j).lookup ("made" : PySem.Str) = some (.ref j) := by
  unfold tbF
  simp only [List.lookup_cons]
  rfl
theorem tb_no {i j : Nat} {m : PySem.Str} (h1 : (m == "bits") = false := by decide +kernel) (h2 : (m == "parts") = false := by decide +kernel) (h3 : (m == "times") = false := by decide +kernel) (h4 : (m == "made") = false := by decide +kernel) : (tbF b c i j).lookup m = none := by
  unfold tbF
  simp only [List.lookup_cons, List.lookup_nil]
  rw [h1, h2, h3, h4]
/-- a table at t of the store, with its two lists -/
structure TabAt (b : Board) (c : List Sup) (S : Sto) (t i j : Nat) (ss : List Stt) (ms : List Mv) : Prop where
  at' : S[t]? = some (.ins "Table" (tbF b c i j))
  ai : S[i]? = some (.lst (ss.map (tmD b)))
  aj : S[j]? = some (.lst (ms.map dv))
  ne : i ≠ j
/-- a play: its states, its moves -/
inductive Play (b : Board) (c : List Sup) : List Stt → List Mv → Stt → Prop
  | nil : Play b c [s0] [] s0
  | snoc {ss : List Stt} {ms : List Mv} {s : Stt} {m : Mv} : Play b c ss ms s → m ∈ mvs b c s → Play b c (ss ++ [mvd b c s m]) (ms ++ [m]) (mvd b c s m)
theorem Play.last {ss : List Stt} {ms : List Mv} {s : Stt} (h : Play b c ss ms s) : ∃ r, ss = r ++ [s] := by
  cases h with
  | nil => exact ⟨[], rfl⟩
  | snoc _ _ => exact ⟨_, rfl⟩
theorem Play.ok (g : bcT b c) {ss : List Stt} {ms : List Mv} {s : Stt} (h : Play b c ss ms s) : okS' b s := by
  induction h with
  | nil => exact ok_s0
  | snoc _ hm ih => exact mvd_ok g ih hm
theorem Play.len {ss : List Stt} {ms : List Mv} {s : Stt} (h : Play b c ss ms s) : ss.length = ms.length + 1 := by
  induction h with
  | nil => rfl
  | snoc _ _ ih => simp [ih]
theorem sm_mv (g : bcT b c) {m : Mv} (hm : ∀ p k, m = .att p k → p ∈ b.1) : sm 3 (dv m) = true := by
  cases m with
  | ix k => rfl
  | att p k => exact sm_pair (x := dv p) (y := .int k) (sm_piece (g.g.ok.r p (hm p k rfl))) rfl
theorem mv_in (g : bcT b c) (o : okS' b s) {m : Mv} (hm : m ∈ mvs b c s) : ∀ p k, m = .att p k → p ∈ b.1 := fun p k e => by
  subst e
  by_cases h : s.k = 0
  · obtain ⟨k, _, e⟩ := (mem_mvs0 h).mp hm
    cases e
  · obtain ⟨q, k, e, hp, _⟩ := (mem_mvs1 h).mp hm
    cases e
    exact (chF_ok g o h).2 _ hp
theorem Play.mv (g : bcT b c) {ss : List Stt} {ms : List Mv} {s : Stt} (h : Play b c ss ms s) : ∀ m ∈ ms, ∀ p k, m = .att p k → p ∈ b.1 := by
  induction h with
  | nil => exact fun m hm => (by cases hm)
  | snoc h hm ih =>
    intro m hmm
    rcases List.mem_append.mp hmm with z | z
    · exact ih m z
    · rw [List.mem_singleton.mp z]
      exact mv_in g (h.ok g) hm
theorem sm_mvl (g : bcT b c) {ms : List Mv} (hl : ms.length ≤ SZ) (h : ∀ m ∈ ms, ∀ p k, m = .att p k → p ∈ b.1) : sm 4 (dv ms) = true := sm_list hl fun m hm => sm_mv g (h m hm)
section
variable {t i j : Nat} {ss : List Stt} {ms : List Mv}
theorem tm_last (T : TabAt b c S t i j ss ms) (P : Play b c ss ms s) : ixK S (-1) (lK S[i]?) = some (tmD b s, S) := by
  obtain ⟨r, rfl⟩ := P.last
  rw [T.ai, lK_, ixK_, List.map_append, List.map_cons, List.map_nil, HS.atI_last]
  rfl
theorem tside_spec (T : TabAt b c A t i j ss ms) (P : Play b c ss ms s) (g : bcT b c) : c_Table_side [.ref t] A = some (.str (sideF s), false, A) := by
  have h1 := T.at'
  have h2 := tb_times (b := b) (c := c) (i := i) (j := j)
  have h3 := tm_last T P
  have hk := (P.ok g).k
  have hs : c_side_at [tmD b s] A = some (.str (sideF s), false, A) := by
    unfold c_side_at m_side_at tmD sideF
    rw [callsV, V_out]
    have h5 : s.k = 0 ∨ s.k = 1 ∨ s.k = 2 := by omega
    rcases h5 with h | h | h <;> simp [h, HS.isNon]
  unfold c_Table_side m_Table_side
  rw [callsV, V_out]
  generalize tbF b c i j = F at *
  generalize tmD b s = X at *
  simp [h1, h2, h3, hs]
theorem tmoves_spec (T : TabAt b c A t i j ss ms) (P : Play b c ss ms s) (g : bcT b c) : c_Table_moves [.ref t] A = some (.tup ((mvs b c s).map dv), false, A) := by
  have h1 := T.at'
  have h2 := tb_times (b := b) (c := c) (i := i) (j := j)
  have h4 := tb_bits (b := b) (c := c) (i := i) (j := j)
  have h5 := tb_parts (b := b) (c := c) (i := i) (j := j)
  have h3 := tm_last T P
  have hs := moves_at_spec (A := A) g (P.ok g)
  unfold c_Table_moves m_Table_moves
  rw [callsV, V_out]
  generalize tbF b c i j = F at *
  generalize tmD b s = X at *
  generalize bbO b = B at *
  generalize (parts b c).map (iD b.1.length) = L at *
  generalize (mvs b c s).map dv = LL at *
  simp [h1, h2, h3, h4, h5, hs]
def loserD (b : Board) (c : List Sup) (s : Stt) : D := if (mvs b c s).length = 0 then .str (sideF s) else .non
theorem tloser_spec (T : TabAt b c A t i j ss ms) (P : Play b c ss ms s) (g : bcT b c) : c_Table_loser [.ref t] A = some (loserD b c s, false, A) := by
  have h1 := T.at'
  have h2 := tb_no (b := b) (c := c) (i := i) (j := j) (m := "moves")
  have h3 := tb_no (b := b) (c := c) (i := i) (j := j) (m := "side")
  have hs := tmoves_spec T P g
  have hs2 := tside_spec T P g
  have hl : ((mvs b c s).map dv : List D).length = (mvs b c s).length := List.length_map _
  unfold c_Table_loser m_Table_loser loserD
  rw [callsV, V_out]
  generalize tbF b c i j = F at *
  generalize (mvs b c s).map dv = LL at *
  generalize (mvs b c s).length = n at *
  by_cases hn : n = 0
  · simp [h1, hs, hs2, methK2_ h2, methK2_ h3, hl, hn]
  · have : 0 < n := by omega
    simp [h1, hs, hs2, methK2_ h2, methK2_ h3, hl, hn, this]
theorem tsaid_spec (T : TabAt b c A t i j ss ms) : c_Table_said [.ref t] A = some (.tup (ms.map dv), false, A) := by
  have h1 := T.at'
  have h2 := tb_made (b := b) (c := c) (i := i) (j := j)
  have h3 := T.aj
  unfold c_Table_said m_Table_said
  rw [callsV, V_out]
  generalize tbF b c i j = F at *
  generalize ms.map dv = LL at *
  simp [h1, h2, h3]
end
end
end K93
namespace K93
open PySem L2 HS
section
variable {A E S : Sto} {b : Board} {c : List Sup} {s : Stt} {t i j : Nat} {ss : List Stt} {ms : List Mv}
theorem TabAt.set (T : TabAt b c S t i j ss ms) {k : Nat} {x : D} (h1 : k ≠ t) (h2 : k ≠ i) (h3 : k ≠ j) : TabAt b c (S.set k x) t i j ss ms :=
  ⟨by rw [List.getElem?_set_ne h1]; exact T.at', by rw [List.getElem?_set_ne h2]; exact T.ai, by rw [List.getElem?_set_ne h3]; exact T.aj, T.ne⟩
theorem TabAt.ti (T : TabAt b c S t i j ss ms) : i ≠ t := fun z => by
  have h1 := T.at'
  have h2 := T.ai
  rw [z, h1] at h2
  cases h2
theorem TabAt.tj (T : TabAt b c S t i j ss ms) : j ≠ t := fun z => by
  have h1 := T.at'
  have h2 := T.aj
  rw [z, h1] at h2
  cases h2
theorem TabAt.li (T : TabAt b c S t i j ss ms) : i < S.length := (List.getElem?_eq_some_iff.mp T.ai).1
theorem TabAt.lj (T : TabAt b c S t i j ss ms) : j < S.length := (List.getElem?_eq_some_iff.mp T.aj).1
theorem TabAt.put (T : TabAt b c S t i j ss ms) (ss' : List Stt) (ms' : List Mv) : TabAt b c ((S.set i (.lst (ss'.map (tmD b)))).set j (.lst (ms'.map dv))) t i j ss' ms' := by
  have h1 := T.ti
  have h2 := T.tj
  have h3 := T.ne
  refine ⟨?_, ?_, ?_, h3⟩
  · rw [List.getElem?_set_ne h2, List.getElem?_set_ne h1]; exact T.at'
  · rw [List.getElem?_set_ne (Ne.symm h3), List.getElem?_set_self T.li]
  · rw [List.getElem?_set_self (by rw [List.length_set]; exact T.lj)]
theorem sm_side : sm 0 (.str (sideF s)) = true := by
  unfold sideF
  split <;> decide +kernel
theorem sm_loser : sm 0 (loserD b c s) = true := by
  unfold loserD
  split
  · exact sm_side
  · rfl
theorem shows_spec (T : TabAt b c A t i j ss ms) (P : Play b c ss ms s) (g : bcT b c) (hz : ms.length ≤ SZ) {X Y : D} (hX : oIx X (.int (-1)) A = some (stD s, A)) (hY : bTuple [Y] A = some (.tup (ms.map dv), A)) : c_law_shows [.ref t, dv b, dv c, X, Y] A = some (.bl true, false, A) := by
  have hz2 : (SZ : Nat) = 100000 := rfl
  have o := P.ok g
  have h1 := T.at'
  have m1 := tb_no (b := b) (c := c) (i := i) (j := j) (m := "moves")
  have m2 := tb_no (b := b) (c := c) (i := i) (j := j) (m := "side")
  have m3 := tb_no (b := b) (c := c) (i := i) (j := j) (m := "loser")
  have m4 := tb_no (b := b) (c := c) (i := i) (j := j) (m := "said")
  have f1 := tmoves_spec T P g
  have f2 := tside_spec T P g
  have f3 := tloser_spec T P g
  have f4 := tsaid_spec T
  obtain ⟨w, l1⟩ := lmoves_spec (A := A) g o
  have l2 := lside_spec (A := A) o.k
  have e1 := same_dv (A := A) (x := .str (sideF s)) (n := 0) sm_side (by decide)
  have hml := mvs_len g o
  have e2 : c_law_same 40 [.tup ((mvs b c s).map dv), .tup ((mvs b c s).map dv)] A = some (.bl true, false, A) := same_dv (A := A) (x := dv (mvs b c s)) (n := 4) (sm_mvl g (by omega) fun m hm => mv_in g o hm) (by decide)
  have e3 := same_dv (A := A) (x := loserD b c s) (n := 0) sm_loser (by decide)
  have e4 : c_law_same 40 [.tup (ms.map dv), .tup (ms.map dv)] A = some (.bl true, false, A) := same_dv (A := A) (x := dv ms) (n := 4) (sm_mvl g hz (P.mv g)) (by decide)
  have hl : ((mvs b c s).map dv : List D).length = (mvs b c s).length := List.length_map _
  unfold c_law_shows m_law_shows
  rw [callsV, V_out]
  have f3' := f3
  have e3' := e3
  unfold loserD at f3' e3'
  generalize loserD b c s = LD at *
  generalize tbF b c i j = F at *
  generalize stD s = ST at *
  generalize (dv b : D) = B at *
  generalize (dv c : D) = C at *
  generalize (mvs b c s).map dv = LL at *
  generalize ms.map dv = MM at *
  generalize (mvs b c s).length = n at *
  by_cases hn : n = 0
  · rw [if_pos hn] at f3' e3'
    simp [h1, hX, hY, l1, l2, f1, f2, f3', f4, e1, e2, e3', e4, methK2_ m1, methK2_ m2, methK2_ m3, methK2_ m4, hl, hn]
  · rw [if_neg hn] at f3' e3'
    simp [h1, hX, hY, l1, l2, f1, f2, f3', f4, e1, e2, e3', e4, methK2_ m1, methK2_ m2, methK2_ m3, methK2_ m4, hl, hn]
/-- nothing to take back -/
theorem back_no (T : TabAt b c A t i j ss []) : c_Table_back [.ref t] A = some (.bl false, false, A) := by
  have h1 := T.at'
  have h2 := tb_made (b := b) (c := c) (i := i) (j := j)
  have h3 : A[j]? = some (.lst []) := T.aj
  unfold c_Table_back m_Table_back
  rw [callsV, V_out]
  generalize tbF b c i j = F at *
  simp [h1, h2, h3]
theorem back_yes {x : Stt} {m : Mv} (T : TabAt b c A t i j (ss ++ [x]) (ms ++ [m])) : c_Table_back [.ref t] A = some (.bl true, false, (A.set i (.lst (ss.map (tmD b)))).set j (.lst (ms.map dv))) := by
  have h1 := T.at'
  have h2 := tb_made (b := b) (c := c) (i := i) (j := j)
  have h4 := tb_times (b := b) (c := c) (i := i) (j := j)
  have h3 : A[j]? = some (.lst (ms.map dv ++ [dv m])) := by rw [T.aj, List.map_append]; rfl
  have h5 : A[i]? = some (.lst (ss.map (tmD b) ++ [tmD b x])) := by rw [T.ai, List.map_append]; rfl
  have h6 : (A.set i (.lst (ss.map (tmD b))))[t]? = some (.ins "Table" (tbF b c i j)) := by rw [List.getElem?_set_ne T.ti]; exact h1
  have h7 : (A.set i (.lst (ss.map (tmD b))))[j]? = some (.lst (ms.map dv ++ [dv m])) := by rw [List.getElem?_set_ne T.ne]; exact h3
  unfold c_Table_back m_Table_back
  rw [callsV, V_out]
  generalize tbF b c i j = F at *
  generalize ms.map dv = MM at *
  generalize ss.map (tmD b) = LL at *
  generalize (dv m : D) = M at *
  generalize tmD b x = X at *
  have hpos : ¬ ((MM.length : Int) + 1 = 0) := by omega
  have hlen : ((A.set i (.lst LL)).set j (.lst MM)).length = A.length := by rw [List.length_set, List.length_set]
  simp [h1, h2, h3, h4, h5, h6, h7, hpos]
  exact end_len hlen
/-- a move that is there -/
theorem move_spec (T : TabAt b c A t i j ss ms) (P : Play b c ss ms s) (g : bcT b c) {m : Mv} (hm : m ∈ mvs b c s) (hz : ms.length + 2 ≤ SZ) : c_Table_move [.ref t, dv m] A = some (.non, false, (A.set i (.lst ((ss ++ [mvd b c s m]).map (tmD b)))).set j (.lst ((ms ++ [m]).map dv))) := by
  have o := P.ok g
  have h1 := T.at'
  have h2 := tb_made (b := b) (c := c) (i := i) (j := j)
  have h4 := tb_times (b := b) (c := c) (i := i) (j := j)
  have h7 := tb_bits (b := b) (c := c) (i := i) (j := j)
  have h8 := tb_parts (b := b) (c := c) (i := i) (j := j)
  have h3 := T.aj
  have h5 := T.ai
  have h9 := tm_last T P
  rw [h5, lK_, ixK_] at h9
  have m1 := tb_no (b := b) (c := c) (i := i) (j := j) (m := "moves")
  have f1 := tmoves_spec T P g
  have f2 := behind_spec (A := A) g o hm
  have hin : oNotIn (dv m) (.tup ((mvs b c s).map dv)) A = some (.bl false, A) := by
    obtain ⟨bb, h, e⟩ : ∃ bb, oNotIn (dv m) (dv (mvs b c s)) A = some (.bl (!bb), A) ∧ (bb = true ↔ m ∈ mvs b c s) := ⟨_, q_nint m (mvs b c s) (by decide), decide_eq_true_iff⟩
    rw [e.mpr hm] at h
    exact h
  have hl1 : (ss.map (tmD b)).length < SZ := by rw [List.length_map, P.len]; omega
  have hl2 : (ms.map dv : List D).length < SZ := by rw [List.length_map]; omega
  have e1 : (ss ++ [mvd b c s m]).map (tmD b) = ss.map (tmD b) ++ [tmD b (mvd b c s m)] := by rw [List.map_append]; rfl
  have e2 : ((ms ++ [m]).map dv : List D) = ms.map dv ++ [dv m] := by rw [List.map_append]; rfl
  have h6 : ∀ L, (A.set i (.lst L))[t]? = some (.ins "Table" (tbF b c i j)) := fun L => by rw [List.getElem?_set_ne T.ti]; exact h1
  have h7' : ∀ L, (A.set i (.lst L))[j]? = some (.lst (ms.map dv)) := fun L => by rw [List.getElem?_set_ne T.ne]; exact h3
  unfold c_Table_move m_Table_move
  rw [callsV, V_out, e1, e2]
  generalize tbF b c i j = F at *
  generalize (dv m : D) = M at *
  generalize ms.map dv = MM at *
  generalize ss.map (tmD b) = LL at *
  generalize tmD b (mvd b c s m) = X at *
  generalize tmD b s = Y at *
  generalize bbO b = B at *
  generalize (parts b c).map (iD b.1.length) = L at *
  generalize (mvs b c s).map dv = ML at *
  have hlen : ((A.set i (.lst (LL ++ [X]))).set j (.lst (MM ++ [M]))).length = A.length := by rw [List.length_set, List.length_set]
  simp [h1, h2, h3, h4, h5, h7, h8, h9, h6, h7', m1, methK2_ m1, f1, f2, hin, hl1, hl2]
  exact end_len hlen
end
end K93
namespace K93
open PySem L2 HS
noncomputable def stBack : Sv := (sSeq (sIf (tNotE (tB (eCall (c_law_same 40) 2 (aCons (eMeth "Table" "back" c_Table_back 1 (eVar 1) aNil) (aCons (eBin oGt (eB bLen (aCons (eVar 5) aNil)) (eC (.int 0))) aNil))))) (sRet (eC (.bl false))) sNil)
    (sSeq (sIf (tB (eBin oGt (eB bLen (aCons (eVar 5) aNil)) (eC (.int 0)))) (sSeq (sExp (eM0 "list" mPop (eVar 5)))
    (sExp (eM0 "list" mPop (eVar 4)))) sNil)
    (sRet (eC (.bl true)))))
noncomputable def stMove : Sv := (sSeq (sSet 7 (eCall c_law_pick 2 (aCons (eVar 0) (aCons (eVar 6) aNil))))
    (sSeq (sIf (tB (eBin oIsNot (eMeth "Table" "move" c_Table_move 2 (eVar 1) (aCons (eVar 7) aNil)) (eC .non))) (sRet (eC (.bl false))) sNil)
    (sSeq (sExp (eM "list" mAppend (eVar 4) (aCons (eCall c_law_moved 4 (aCons (eVar 2) (aCons (eVar 3) (aCons (eBin oIx (eVar 4) (eUn (fun i => -i) (eC (.int 1)))) (aCons (eVar 7) aNil))))) aNil)))
    (sSeq (sExp (eM "list" mAppend (eVar 5) (aCons (eVar 7) aNil)))
    (sRet (eC (.bl true)))))))
noncomputable def stCond : EvB := (tOrE (tB (eBin oEq (eB bLen (aCons (eVar 6) aNil)) (eC (.int 0)))) (tAndE (tB (eBin oGt (eB bLen (aCons (eVar 5) aNil)) (eC (.int 0)))) (tB (eBin oEq (eCall c_law_take 2 (aCons (eVar 0) (aCons (eC (.int 6)) aNil))) (eC (.int 0))))))
theorem m_step_eq : m_law_step = sSeq (sSet 6 (eCall c_law_moves 3 (aCons (eVar 2) (aCons (eVar 3) (aCons (eBin oIx (eVar 4) (eUn (fun i => -i) (eC (.int 1)))) aNil))))) (sSeq (sIf stCond stBack sNil) stMove) := rfl
section
variable {A E S : Sto} {b : Board} {c : List Sup} {s : Stt} {d t i j u v : Nat} {ds : List Int} {ss : List Stt} {ms : List Mv}
/-- a table, the law's play beside it, the draws -/
structure Adr (A : Sto) (d t i j u v : Nat) (ds : List Int) (b : Board) (c : List Sup) (ss : List Stt) (ms : List Mv) : Prop where
  T : TabAt b c A t i j ss ms
  ad : A[d]? = some (IL ds)
  au : A[u]? = some (.lst (ss.map stD))
  av : A[v]? = some (.lst (ms.map dv))
  di : d ≠ i
  dj : d ≠ j
  du : d ≠ u
  dv' : d ≠ v
  iu : i ≠ u
  iv : i ≠ v
  ju : j ≠ u
  jv : j ≠ v
  uv : u ≠ v
/-- what else is in the store stays -/
def Fr (A S : Sto) (d i j u v : Nat) : Prop := S.length = A.length ∧ ∀ k, k ≠ d → k ≠ i → k ≠ j → k ≠ u → k ≠ v → S[k]? = A[k]?
theorem Fr.trans {B : Sto} (h1 : Fr A B d i j u v) (h2 : Fr B S d i j u v) : Fr A S d i j u v :=
  ⟨h2.1.trans h1.1, fun k a1 a2 a3 a4 a5 => (h2.2 k a1 a2 a3 a4 a5).trans (h1.2 k a1 a2 a3 a4 a5)⟩
theorem Adr.td (M : Adr A d t i j u v ds b c ss ms) : d ≠ t := fun z => by
  have h1 := M.T.at'
  have h2 := M.ad
  rw [z, h1] at h2
  cases h2
theorem Adr.tu (M : Adr A d t i j u v ds b c ss ms) : u ≠ t := fun z => by
  have h1 := M.T.at'
  have h2 := M.au
  rw [z, h1] at h2
  cases h2
theorem Adr.tv (M : Adr A d t i j u v ds b c ss ms) : v ≠ t := fun z => by
  have h1 := M.T.at'
  have h2 := M.av
  rw [z, h1] at h2
  cases h2
theorem Adr.draw (M : Adr A d t i j u v ds b c ss ms) (ds' : List Int) : Adr (A.set d (IL ds')) d t i j u v ds' b c ss ms ∧ Fr A (A.set d (IL ds')) d i j u v := by
  have hd := (List.getElem?_eq_some_iff.mp M.ad).1
  refine ⟨⟨M.T.set M.td M.di M.dj, by rw [List.getElem?_set_self hd], by rw [List.getElem?_set_ne M.du]; exact M.au, by rw [List.getElem?_set_ne M.dv']; exact M.av, M.di, M.dj, M.du, M.dv', M.iu, M.iv, M.ju, M.jv, M.uv⟩, by rw [List.length_set], fun k h1 _ _ _ _ => by rw [List.getElem?_set_ne (Ne.symm h1)]⟩
theorem Adr.put (M : Adr A d t i j u v ds b c ss ms) (ss' : List Stt) (ms' : List Mv) : Adr ((((A.set i (.lst (ss'.map (tmD b)))).set j (.lst (ms'.map dv))).set u (.lst (ss'.map stD))).set v (.lst (ms'.map dv))) d t i j u v ds b c ss' ms' ∧ Fr A ((((A.set i (.lst (ss'.map (tmD b)))).set j (.lst (ms'.map dv))).set u (.lst (ss'.map stD))).set v (.lst (ms'.map dv))) d i j u v := by
  have hu := (List.getElem?_eq_some_iff.mp M.au).1
  have hv := (List.getElem?_eq_some_iff.mp M.av).1
  refine ⟨⟨((M.T.put ss' ms').set M.tu (Ne.symm M.iu) (Ne.symm M.ju)).set M.tv (Ne.symm M.iv) (Ne.symm M.jv), ?_, ?_, ?_, M.di, M.dj, M.du, M.dv', M.iu, M.iv, M.ju, M.jv, M.uv⟩, by simp, fun k h1 h2 h3 h4 h5 => ?_⟩
  · rw [List.getElem?_set_ne (Ne.symm M.dv'), List.getElem?_set_ne (Ne.symm M.du), List.getElem?_set_ne (Ne.symm M.dj), List.getElem?_set_ne (Ne.symm M.di)]
    exact M.ad
  · rw [List.getElem?_set_ne (Ne.symm M.uv), List.getElem?_set_self (by simpa using hu)]
  · rw [List.getElem?_set_self (by simpa using hv)]
  · rw [List.getElem?_set_ne (Ne.symm h5), List.getElem?_set_ne (Ne.symm h4), List.getElem?_set_ne (Ne.symm h3), List.getElem?_set_ne (Ne.symm h2)]
theorem pick_S {α : Type} [DV α] {row : D} {xs : List α} (h : A[d]? = some (IL ds)) (hr : row = .lst (xs.map dv) ∨ row = .tup (xs.map dv)) (hx : xs ≠ []) : ∃ (x : α) (ds' : List Int), x ∈ xs ∧ c_law_pick [.ref d, row] A = some (dv x, false, A.set d (IL ds')) := by
  have hd := (List.getElem?_eq_some_iff.mp h).1
  obtain ⟨x, ds', h1, h2⟩ := pick_T (A := A) (E := []) (ds := ds) hd hr hx
  rw [← W_in h, W_out] at h2
  exact ⟨x, ds', h1, h2⟩
variable {o6 o7 : Option D}
/-- the play goes back -/
theorem back_part {x : Stt} {m : Mv} (M : Adr A d t i j u v ds b c (ss ++ [x]) (ms ++ [m])) :
    ∃ S', stBack [some (.ref d), some (.ref t), some (dv b), some (dv c), some (.ref u), some (.ref v), o6, o7] A = some (.ret (.bl true), [some (.ref d), some (.ref t), some (dv b), some (dv c), some (.ref u), some (.ref v), o6, o7], S') ∧ Adr S' d t i j u v ds b c ss ms ∧ Fr A S' d i j u v := by
  have hp := M.put ss ms
  refine ⟨_, ?_, hp.1, hp.2⟩
  have h1 := M.T.at'
  have h2 := tb_no (b := b) (c := c) (i := i) (j := j) (m := "back")
  have h3 := back_yes M.T
  have h4 : A[v]? = some (.lst (ms.map dv ++ [dv m])) := by rw [M.av, List.map_append]; rfl
  have h5 : A[u]? = some (.lst (ss.map stD ++ [stD x])) := by rw [M.au, List.map_append]; rfl
  have e1 := same_dv (A := ((A.set i (.lst (ss.map (tmD b)))).set j (.lst (ms.map dv)))) (x := .bl true) (n := 0) rfl (by decide)
  have h6 : ∀ X Y, ((A.set i X).set j Y)[v]? = some (.lst (ms.map dv ++ [dv m])) := fun X Y => by rw [List.getElem?_set_ne M.jv, List.getElem?_set_ne M.iv]; exact h4
  have h7 : ∀ X Y Z, (((A.set i X).set j Y).set v Z)[u]? = some (.lst (ss.map stD ++ [stD x])) := fun X Y Z => by rw [List.getElem?_set_ne (Ne.symm M.uv), List.getElem?_set_ne M.ju, List.getElem?_set_ne M.iu]; exact h5
  have h8 : ∀ X Y Z U, ((((A.set i X).set j Y).set v Z).set u U) = ((((A.set i X).set j Y).set u U).set v Z) := fun X Y Z U => by rw [List.set_comm _ _ M.uv]
  unfold stBack
  generalize tbF b c i j = F at *
  generalize ss.map (tmD b) = LT at *
  generalize ms.map dv = MM at *
  generalize ss.map stD = SS at *
  generalize stD x = X at *
  generalize (dv m : D) = Y at *
  generalize (dv b : D) = B at *
  generalize (dv c : D) = C at *
  have hpos : (0 : Int) < (MM.length : Int) + 1 := by omega
  simp [h1, h3, h4, h6, h7, h8, methK2_ h2, e1, hpos]
theorem back_none (M : Adr A d t i j u v ds b c ss []) :
    stBack [some (.ref d), some (.ref t), some (dv b), some (dv c), some (.ref u), some (.ref v), o6, o7] A = some (.ret (.bl true), [some (.ref d), some (.ref t), some (dv b), some (dv c), some (.ref u), some (.ref v), o6, o7], A) := by
  have h1 := M.T.at'
  have h2 := tb_no (b := b) (c := c) (i := i) (j := j) (m := "back")
  have h3 := back_no M.T
  have h4 : A[v]? = some (.lst []) := M.av
  have e1 := same_dv (A := A) (x := .bl false) (n := 0) rfl (by decide)
  unfold stBack
  generalize tbF b c i j = F at *
  generalize (dv b : D) = B at *
  generalize (dv c : D) = C at *
  simp [h1, h3, h4, methK2_ h2, e1]
theorem st_last {r : List Stt} (h : S[u]? = some (.lst ((r ++ [s]).map stD))) : ixK S (-1) (lK S[u]?) = some (stD s, S) := by
  rw [h, lK_, ixK_, List.map_append, List.map_cons, List.map_nil, HS.atI_last]
  rfl
/-- a move -/
theorem move_part (M : Adr A d t i j u v ds b c ss ms) (P : Play b c ss ms s) (g : bcT b c) (hne : mvs b c s ≠ []) (hz : ms.length + 2 ≤ SZ) :
    ∃ (S' : Sto) (ds' : List Int) (m : Mv) (η : HS.Env), stMove [some (.ref d), some (.ref t), some (dv b), some (dv c), some (.ref u), some (.ref v), some (.lst ((mvs b c s).map dv)), o7] A = some (.ret (.bl true), η, S') ∧ m ∈ mvs b c s ∧ Adr S' d t i j u v ds' b c (ss ++ [mvd b c s m]) (ms ++ [m]) ∧ Fr A S' d i j u v := by
  obtain ⟨m, ds', hm, hp⟩ := pick_S (A := A) (d := d) (ds := ds) (row := .lst ((mvs b c s).map dv)) (xs := mvs b c s) M.ad (.inl rfl) hne
  obtain ⟨M1, F1⟩ := M.draw ds'
  obtain ⟨M2, F2⟩ := M1.put (ss ++ [mvd b c s m]) (ms ++ [m])
  refine ⟨_, ds', m, [some (.ref d), some (.ref t), some (dv b), some (dv c), some (.ref u), some (.ref v), some (.lst ((mvs b c s).map dv)), some (dv m)], ?_, hm, M2, F1.trans F2⟩
  have o := P.ok g
  have h1 := M1.T.at'
  have h2 := tb_no (b := b) (c := c) (i := i) (j := j) (m := "move")
  have h3 := move_spec M1.T P g hm hz
  obtain ⟨r, hr⟩ := P.last
  have h5 : (A.set d (IL ds'))[u]? = some (.lst (ss.map stD)) := M1.au
  have h4 : (A.set d (IL ds'))[v]? = some (.lst (ms.map dv)) := M1.av
  have h6 : ∀ X Y, (((A.set d (IL ds')).set i X).set j Y)[u]? = some (.lst (ss.map stD)) := fun X Y => by rw [List.getElem?_set_ne M.ju, List.getElem?_set_ne M.iu]; exact h5
  have h7 : ∀ X Y Z, ((((A.set d (IL ds')).set i X).set j Y).set u Z)[v]? = some (.lst (ms.map dv)) := fun X Y Z => by rw [List.getElem?_set_ne M.uv, List.getElem?_set_ne M.jv, List.getElem?_set_ne M.iv]; exact h4
  have h8 : ∀ S, ixK1 S (atI (ss.map stD) (-1)) = some (stD s, S) := fun S => by
    rw [hr, List.map_append, List.map_cons, List.map_nil, HS.atI_last]
    rfl
  have hmv := fun A => lmoved_spec (A := A) g o hm
  obtain ⟨w, hmv⟩ := hmv (((A.set d (IL ds')).set i (.lst ((ss ++ [mvd b c s m]).map (tmD b)))).set j (.lst ((ms ++ [m]).map dv)))
  have hl1 : (ss.map stD).length < SZ := by rw [List.length_map, P.len]; omega
  have hl2 : (ms.map dv : List D).length < SZ := by rw [List.length_map]; omega
  have e1 : (ss ++ [mvd b c s m]).map stD = ss.map stD ++ [stD (mvd b c s m)] := by rw [List.map_append]; rfl
  have e2 : ((ms ++ [m]).map dv : List D) = ms.map dv ++ [dv m] := by rw [List.map_append]; rfl
  unfold stMove
  rw [e1]
  rw [e2] at h3 hmv ⊢
  generalize (ss ++ [mvd b c s m]).map (tmD b) = LT at *
  generalize tbF b c i j = F at *
  generalize ms.map dv = MM at *
  generalize ss.map stD = SS at *
  generalize stD (mvd b c s m) = X at *
  generalize stD s = Z at *
  generalize (dv m : D) = Y at *
  generalize (dv b : D) = B at *
  generalize (dv c : D) = C at *
  generalize (mvs b c s).map dv = LL at *
  generalize IL ds' = DD at *
  simp [hp, h1, h3, h4, h6, h7, h8, hmv, methK2_ h2, hl1, hl2, HS.isNon]
end
end K93
namespace K93
open PySem L2 HS
section
variable {A E S : Sto} {b : Board} {c : List Sup} {s : Stt} {d t i j u v : Nat} {ds : List Int} {ss : List Stt} {ms : List Mv}
theorem step_spec (M : Adr A d t i j u v ds b c ss ms) (P : Play b c ss ms s) (g : bcT b c) (hz : ms.length + 2 ≤ SZ) :
    ∃ (S' : Sto) (ds' : List Int) (ss' : List Stt) (ms' : List Mv) (s' : Stt), c_law_step [.ref d, .ref t, dv b, dv c, .ref u, .ref v] A = some (.bl true, false, S') ∧ Adr S' d t i j u v ds' b c ss' ms' ∧ Play b c ss' ms' s' ∧ ms'.length ≤ ms.length + 1 ∧ Fr A S' d i j u v := by
  have o := P.ok g
  obtain ⟨w, hmv⟩ := lmoves_spec (A := A) g o
  obtain ⟨r, hr⟩ := P.last
  have hu : ixK A (-1) (lK A[u]?) = some (stD s, A) := by
    refine st_last (r := r) ?_
    rw [M.au, hr]
  have hl : ((mvs b c s).map dv : List D).length = (mvs b c s).length := List.length_map _
  have hv : lenK A (lK A[v]?) = some (.int (ms.length : Nat), A) := by
    rw [M.av, lK_, lenK_, List.length_map]
  obtain ⟨k, ds1, ht, _⟩ := take_spec (m := 6) M.ad (by decide)
  obtain ⟨M1, F1⟩ := M.draw ds1
  have s1 : ∀ (sw : Sv), sSeq (sSet 6 (eCall c_law_moves 3 (aCons (eVar 2) (aCons (eVar 3) (aCons (eBin oIx (eVar 4) (eUn (fun i => -i) (eC (.int 1)))) aNil))))) sw [some (.ref d), some (.ref t), some (dv b), some (dv c), some (.ref u), some (.ref v), none, none] A = sw [some (.ref d), some (.ref t), some (dv b), some (dv c), some (.ref u), some (.ref v), some (.lst ((mvs b c s).map dv)), none] A := fun sw => by
    clear M1 F1 ht M
    generalize (mvs b c s).map dv = LL at *
    generalize (dv b : D) = B at *
    generalize (dv c : D) = C at *
    generalize stD s = Z at *
    simp [hu, hmv]
  have key : (∃ (S' : Sto) (ds' : List Int) (ss' : List Stt) (ms' : List Mv) (s' : Stt) (η : HS.Env), sSeq (sIf stCond stBack sNil) stMove [some (.ref d), some (.ref t), some (dv b), some (dv c), some (.ref u), some (.ref v), some (.lst ((mvs b c s).map dv)), none] A = some (.ret (.bl true), η, S') ∧ Adr S' d t i j u v ds' b c ss' ms' ∧ Play b c ss' ms' s' ∧ ms'.length ≤ ms.length + 1 ∧ Fr A S' d i j u v) := by
    have back : ∀ {A1 : Sto} {ds1 : List Int}, Adr A1 d t i j u v ds1 b c ss ms → Fr A A1 d i j u v → ∃ (S' : Sto) (ds' : List Int) (ss' : List Stt) (ms' : List Mv) (s' : Stt) (η : HS.Env), stBack [some (.ref d), some (.ref t), some (dv b), some (dv c), some (.ref u), some (.ref v), some (.lst ((mvs b c s).map dv)), none] A1 = some (.ret (.bl true), η, S') ∧ Adr S' d t i j u v ds' b c ss' ms' ∧ Play b c ss' ms' s' ∧ ms'.length ≤ ms.length + 1 ∧ Fr A S' d i j u v := fun {A1 ds1} N F => by
      cases P with
      | nil => exact ⟨A1, ds1, _, _, _, _, back_none N, N, .nil, by simp, F⟩
      | snoc P hm =>
        obtain ⟨S', h1, h2, h3⟩ := back_part (o6 := some (.lst ((mvs b c _).map dv))) (o7 := none) N
        exact ⟨S', ds1, _, _, _, _, h1, h2, P, by simp; omega, F.trans h3⟩
    have move : ∀ {A1 : Sto} {ds1 : List Int}, Adr A1 d t i j u v ds1 b c ss ms → Fr A A1 d i j u v → mvs b c s ≠ [] → ∃ (S' : Sto) (ds' : List Int) (ss' : List Stt) (ms' : List Mv) (s' : Stt) (η : HS.Env), stMove [some (.ref d), some (.ref t), some (dv b), some (dv c), some (.ref u), some (.ref v), some (.lst ((mvs b c s).map dv)), none] A1 = some (.ret (.bl true), η, S') ∧ Adr S' d t i j u v ds' b c ss' ms' ∧ Play b c ss' ms' s' ∧ ms'.length ≤ ms.length + 1 ∧ Fr A S' d i j u v := fun {A1 ds1} N F hne => by
      obtain ⟨S', ds', m, η, h1, h2, h3, h4⟩ := move_part (o7 := none) N P g hne hz
      exact ⟨S', ds', _, _, _, η, h1, h3, .snoc P h2, by simp, F.trans h4⟩
    have F0 : Fr A A d i j u v := ⟨rfl, fun _ _ _ _ _ _ => rfl⟩
    have hcond : ∀ x, stCond [some (.ref d), some (.ref t), some (dv b), some (dv c), some (.ref u), some (.ref v), some (.lst ((mvs b c s).map dv)), none] A = x → sSeq (sIf stCond stBack sNil) stMove [some (.ref d), some (.ref t), some (dv b), some (dv c), some (.ref u), some (.ref v), some (.lst ((mvs b c s).map dv)), none] A = seqK stMove (ifK stBack sNil [some (.ref d), some (.ref t), some (dv b), some (dv c), some (.ref u), some (.ref v), some (.lst ((mvs b c s).map dv)), none] x) := fun x hx => by
      rw [q_seq, q_if, hx]
    by_cases h0 : mvs b c s = []
    · obtain ⟨S', ds', ss', ms', s', η, h1, h2⟩ := back M F0
      refine ⟨S', ds', ss', ms', s', η, ?_, h2⟩
      rw [hcond (some (true, A)) ?_]
      · rw [ifK_t, h1]
        rfl
      · unfold stCond
        have hl0 : ((mvs b c s).map dv : List D) = [] := by rw [h0]; rfl
        rw [hl0]
        generalize (dv b : D) = B at *
        generalize (dv c : D) = C at *
        simp
    · have hlen : ¬ (mvs b c s).length = 0 := fun z => h0 (List.eq_nil_of_length_eq_zero z)
      by_cases h3 : ms.length = 0
      · obtain ⟨S', ds', ss', ms', s', η, h1, h2⟩ := move M F0 h0
        refine ⟨S', ds', ss', ms', s', η, ?_, h2⟩
        rw [hcond (some (false, A)) ?_]
        · rw [ifK_f]
          exact h1
        · unfold stCond
          rw [h3] at hv
          generalize (mvs b c s).map dv = LL at *
          generalize (dv b : D) = B at *
          generalize (dv c : D) = C at *
          generalize (mvs b c s).length = n at *
          simp [hl, hlen, hv]
      · have hpos : 0 < ms.length := by omega
        have hpos2 : (0 : Int) < (ms.length : Nat) := by omega
        have hc2 : stCond [some (.ref d), some (.ref t), some (dv b), some (dv c), some (.ref u), some (.ref v), some (.lst ((mvs b c s).map dv)), none] A = some (decide (k = 0), A.set d (IL ds1)) := by
          unfold stCond
          generalize (mvs b c s).map dv = LL at *
          generalize (dv b : D) = B at *
          generalize (dv c : D) = C at *
          generalize (mvs b c s).length = n at *
          generalize ms.length = q at *
          simp [hl, hlen, hv, ht, hpos2, hpos]
        by_cases hk : k = 0
        · obtain ⟨S', ds', ss', ms', s', η, h1, h2⟩ := back M1 F1
          refine ⟨S', ds', ss', ms', s', η, ?_, h2⟩
          rw [hcond _ hc2, decide_eq_true hk, ifK_t, h1]
          rfl
        · obtain ⟨S', ds', ss', ms', s', η, h1, h2⟩ := move M1 F1 h0
          refine ⟨S', ds', ss', ms', s', η, ?_, h2⟩
          rw [hcond _ hc2, decide_eq_false hk, ifK_f]
          exact h1
  obtain ⟨S', ds', ss', ms', s', η, h1, h2, h3, h4, h5⟩ := key
  refine ⟨S', ds', ss', ms', s', ?_, h2, h3, h4, h5⟩
  have e : c_law_step [.ref d, .ref t, dv b, dv c, .ref u, .ref v] A = endK A (m_law_step [some (.ref d), some (.ref t), some (dv b), some (dv c), some (.ref u), some (.ref v), none, none] A) := q_calls
  rw [e, m_step_eq, s1, h1, endK_r]
  exact end_len h5.1
theorem tinit_spec (g : bcT b c) {S : Sto} : c_Table___init__ [.ref S.length, dv b, dv c] (V S [.ins "Table" []]) = some (.non, false, V S [.ins "Table" (tbF b c (S.length + 1) (S.length + 2)), .lst [tmD b s0], .lst []]) := by
  have hz2 : (SZ : Nat) = 100000 := rfl
  have hcl := g.cl
  unfold c_Table___init__ callI
  show (m_Table___init__ [some (.ref S.length), some (dv b), some (dv c)] (V S [.ins "Table" []])).bind endI = _
  have h1 := fun A => new_spec2 (A := A) g.g
  have h2 := fun A => masks_for_spec (A := A) (b := b) (x := ontoD b) (claim := c) g.g (by omega)
  have lkm : ("masks_for" == ("pieces" : PySem.Str)) = false := by decide +kernel
  have nm : (flds b (ontoD b)).lookup ("masks_for" : PySem.Str) = none := by
    unfold flds
    simp only [List.lookup_cons, List.lookup_nil]
    rfl
  have e1 : m_Table___init__ [some (.ref S.length), some (dv b), some (dv c)] (V S [.ins "Table" []]) = some (.nx, [some (.ref S.length), some (dv b), some (dv c)], V S [.ins "Table" (tbF b c (S.length + 1) (S.length + 2)), .lst [tmD b s0], .lst []]) := by
    unfold m_Table___init__
    have e0 : tmD b s0 = .tup [.non, .non, .int 0] := rfl
    rw [e0]
    unfold tbF
    have s1 : sSetF "Table" "bits" (eVar 0) (eNew "BitBoard" c_BitBoard___init__ 2 (aCons (eVar 1) aNil)) [some (.ref S.length), some (dv b), some (dv c)] (V S [.ins "Table" []]) = some (.nx, [some (.ref S.length), some (dv b), some (dv c)], V S [.ins "Table" [("bits", bbO b)]]) := by
      have h1 := h1 (V S [.ins "Table" []])
      show _ = some (Fl.nx, _, V S [.ins "Table" [("bits", bbD b (ontoD b))]])
      generalize bbD b (ontoD b) = B at *
      generalize (dv b : D) = X at *
      generalize (dv c : D) = Y at *
      simp [h1, sfK3_, putFD]
    rw [q_seq, s1, seqK_n]
    have s2 : sSetF "Table" "parts" (eVar 0) (eMeth "BitBoard" "masks_for" c_BitBoard_masks_for 2 (eFld "Table" "bits" (eVar 0)) (aCons (eVar 2) aNil)) [some (.ref S.length), some (dv b), some (dv c)] (V S [.ins "Table" [("bits", bbO b)]]) = some (.nx, [some (.ref S.length), some (dv b), some (dv c)], V S [.ins "Table" [("bits", bbO b), ("parts", .lst ((parts b c).map (iD b.1.length)))]]) := by
      have h2 := h2 (V S [.ins "Table" [("bits", bbO b)]])
      have lk : List.lookup ("bits" : PySem.Str) [(("bits" : PySem.Str), bbO b)] = some (bbO b) := by simp only [List.lookup_cons]; rfl
      have hb : insOf (V S [.ins "Table" [("bits", bbO b)]]) (bbO b) = some ("BitBoard", flds b (ontoD b)) := rfl
      have h2 : c_BitBoard_masks_for [bbO b, dv c] (V S [.ins "Table" [("bits", bbO b)]]) = _ := h2
      generalize bbO b = B at *
      generalize (parts b c).map (iD b.1.length) = L at *
      generalize flds b (ontoD b) = F at *
      generalize (dv b : D) = X at *
      generalize (dv c : D) = Y at *
      simp [h2, lk, hb, methK2_ nm, sfK3_]
      rfl
    rw [q_seq, s2, seqK_n]
    generalize bbO b = B at *
    generalize (parts b c).map (iD b.1.length) = L at *
    have s3 : sSetF "Table" "times" (eVar 0) (eAl (eLst (aCons (eC (.tup [.non, .non, .int 0])) aNil))) [some (.ref S.length), some (dv b), some (dv c)] (V S [.ins "Table" [("bits", B), ("parts", .lst L)]]) = some (.nx, [some (.ref S.length), some (dv b), some (dv c)], V S [.ins "Table" [("bits", B), ("parts", .lst L), ("times", .ref (S.length + 1))], .lst [.tup [.non, .non, .int 0]]]) := by
      generalize (dv b : D) = X at *
      generalize (dv c : D) = Y at *
      simp [sfK3_]
      rfl
    rw [q_seq, s3, seqK_n]
    have s4 : sSetF "Table" "made" (eVar 0) (eAl (eLst aNil)) [some (.ref S.length), some (dv b), some (dv c)] (V S [.ins "Table" [("bits", B), ("parts", .lst L), ("times", .ref (S.length + 1))], .lst [.tup [.non, .non, .int 0]]]) = some (.nx, [some (.ref S.length), some (dv b), some (dv c)], V S [.ins "Table" [("bits", B), ("parts", .lst L), ("times", .ref (S.length + 1)), ("made", .ref (S.length + 2))], .lst [.tup [.non, .non, .int 0]], .lst []]) := by
      generalize (dv b : D) = X at *
      generalize (dv c : D) = Y at *
      simp [sfK3_]
      rfl
    rw [s4]
  rw [e1]
  rfl
end
end K93
namespace K93
open PySem L2 HS
abbrev Case := Board × List Sup
def caD (x : Case) : D := .lst [dv x.1, dv x.2]
section
variable {A E S : Sto} {b : Board} {c : List Sup} {d : Nat} {cs : List Case}
theorem ca_0 {x : Case} : oIx (caD x) (.int 0) S = some (dv x.1, S) := by
  unfold caD
  generalize (dv x.1 : D) = X
  generalize (dv x.2 : D) = Y
  simp
theorem ca_1 {x : Case} : oIx (caD x) (.int 1) S = some (dv x.2, S) := by
  unfold caD
  generalize (dv x.1 : D) = X
  generalize (dv x.2 : D) = Y
  simp
/-- cells that were laid behind those that stood -/
structure Ext (A S : Sto) (n : Nat) : Prop where
  len : S.length = A.length + n
  old : ∀ k, k < A.length → S[k]? = A[k]?
theorem Ext.app {n m : Nat} {C : Sto} (h : Ext A S n) (hm : C.length = m) : Ext A (S ++ C) (n + m) := by
  refine ⟨by rw [List.length_append, h.len, hm]; omega, fun k hk => ?_⟩
  rw [List.getElem?_append_left (by have := h.len; omega)]
  exact h.old k hk
theorem app_at {C : Sto} {k r : Nat} (hk : k = S.length + r) : (S ++ C)[k]? = C[r]? := by
  subst hk
  rw [List.getElem?_append_right (by omega)]
  congr 1
  omega
/-- the table in three cells -/
structure New3 (b : Board) (c : List Sup) (S : Sto) (t : Nat) : Prop where
  t0 : S[t]? = some (.ins "Table" (tbF b c (t + 1) (t + 2)))
  t1 : S[t + 1]? = some (.lst [tmD b s0])
  t2 : S[t + 2]? = some (.lst [])
theorem New3.ext {t : Nat} {S' : Sto} (h : New3 b c S t) (he : ∀ k, k < S.length → S'[k]? = S[k]?) : New3 b c S' t := by
  have l0 := (List.getElem?_eq_some_iff.mp h.t0).1
  have l1 := (List.getElem?_eq_some_iff.mp h.t1).1
  have l2 := (List.getElem?_eq_some_iff.mp h.t2).1
  exact ⟨by rw [he _ l0]; exact h.t0, by rw [he _ l1]; exact h.t1, by rw [he _ l2]; exact h.t2⟩
theorem ar_k1 (hg : ∀ x ∈ cs, bcT x.1 x.2) (hz : cs.length ≤ 100) : ∃ S1, k_law_are_right_1 [some (.ref d), some (.lst (cs.map caD)), none, none, none, none, none, none, none, none] A = some (.lst ((List.range cs.length).map fun q => .ref (A.length + 3 * q)), S1) ∧ Ext A S1 (3 * cs.length) ∧ ∀ q x, cs[q]? = some x → New3 x.1 x.2 S1 (A.length + 3 * q) := by
  have hz2 : (SZ : Nat) = 100000 := rfl
  obtain ⟨ys, S', h1, h2, h3, h4⟩ := lc_ind (it := iE (eVar 1)) (vs := [9]) (tg := HS.gN 9) (tt := tYesE) (fe := eNewM "Table" c_Table___init__ 3 (aCons (eBin oIx (eVar 9) (eC (.int 0))) (aCons (eBin oIx (eVar 9) (eC (.int 1))) aNil))) (η := [some (.ref d), some (.lst (cs.map caD)), none, none, none, none, none, none, none, none]) (S0 := A) (S := A) (xs := cs.map caD) (chk := chkS (.lst (cs.map caD)) (cs.map caD))
    (fun k acc S => acc = ((List.range k).map fun q => D.ref (A.length + 3 * q)) ∧ Ext A S (3 * k) ∧ ∀ q x, q < k → cs[q]? = some x → New3 x.1 x.2 S (A.length + 3 * q))
    (by
      generalize cs.map caD = L at *
      simp) ⟨rfl, ⟨rfl, fun _ _ => rfl⟩, fun q x hq => absurd hq (Nat.not_lt_zero _)⟩ (fun _ _ _ _ => rfl) (fun k acc S h => by rw [h.1]; simp) (by simp; omega) (fun k x acc S hx ⟨h1, h2, h3⟩ => by
      subst h1
      rw [List.getElem?_map] at hx
      obtain ⟨y, hy, rfl⟩ := Option.map_eq_some_iff.mp hx
      have g := hg y (List.mem_of_getElem? hy)
      have hi := tinit_spec (S := S) g
      have hl := h2.len
      refine ⟨_, true, _, rfl, rfl, .inl ⟨rfl, .ref (A.length + 3 * k), S ++ [.ins "Table" (tbF y.1 y.2 (S.length + 1) (S.length + 2)), .lst [tmD y.1 s0], .lst []], ?_, ?_, ?_, ?_⟩⟩
      · have q0 := fun S => ca_0 (S := S) (x := y)
        have q1 := fun S => ca_1 (S := S) (x := y)
        have ef : ∀ η : HS.Env, η[9]? = some (some (caD y)) → (aCons (eBin oIx (eVar 9) (eC (.int 0))) (aCons (eBin oIx (eVar 9) (eC (.int 1))) aNil)) η S = some ([dv y.1, dv y.2], S) := fun η hη => by
          generalize caD y = Z at *
          generalize (dv y.1 : D) = X at *
          generalize (dv y.2 : D) = Y at *
          simp [hη, q0, q1]
        unfold eNewM
        rw [ef _ rfl]
        simp only [Option.bind_some]
        rw [if_pos (show ([dv y.1, dv y.2] : List D).length + 1 = 3 from rfl)]
        have hi2 : c_Table___init__ [.ref S.length, dv y.1, dv y.2] (S ++ [.ins "Table" []]) = _ := hi
        rw [hi2]
        simp only [Option.bind_some]
        rw [hl]
        rfl
      · rw [List.range_succ, List.map_append]
        rfl
      · exact h2.app rfl
      · intro q x hq hx2
        rcases Nat.lt_or_ge q k with hlt | hge
        · exact (h3 q x hlt hx2).ext fun k hk => List.getElem?_append_left hk
        · have : q = k := by omega
          subst this
          rw [hy] at hx2
          cases hx2
          refine ⟨?_, ?_, ?_⟩
          · rw [app_at (r := 0) (by omega), hl]
            rfl
          · rw [app_at (r := 1) (by omega)]
            rfl
          · rw [app_at (r := 2) (by omega)]
            rfl)
  rw [List.length_map] at h2 h3 h4
  subst h2
  exact ⟨S', h1, h3, fun q x hx => h4 q x (List.getElem?_eq_some_iff.mp hx).1 hx⟩
theorem ar_k2 (hz : cs.length ≤ 100) {T : D} : ∃ S1, k_law_are_right_2 [some (.ref d), some (.lst (cs.map caD)), some T, none, none, none, none, none, none, none] A = some (.lst ((List.range cs.length).map fun q => .ref (A.length + q)), S1) ∧ Ext A S1 cs.length ∧ ∀ q, q < cs.length → S1[A.length + q]? = some (.lst [stD s0]) := by
  have hz2 : (SZ : Nat) = 100000 := rfl
  obtain ⟨ys, S', h1, h2, h3, h4⟩ := lc_ind (it := iE (eVar 1)) (vs := [9]) (tg := HS.gN 9) (tt := tYesE) (fe := eAl (eLst (aCons (eCall c_law_play 2 (aCons (eBin oIx (eVar 9) (eC (.int 0))) (aCons (eBin oIx (eVar 9) (eC (.int 1))) aNil))) aNil))) (η := [some (.ref d), some (.lst (cs.map caD)), some T, none, none, none, none, none, none, none]) (S0 := A) (S := A) (xs := cs.map caD) (chk := chkS (.lst (cs.map caD)) (cs.map caD))
    (fun k acc S => acc = ((List.range k).map fun q => D.ref (A.length + q)) ∧ Ext A S k ∧ ∀ q, q < k → S[A.length + q]? = some (.lst [stD s0]))
    (by
      generalize cs.map caD = L at *
      simp) ⟨rfl, ⟨rfl, fun _ _ => rfl⟩, fun q hq => absurd hq (Nat.not_lt_zero _)⟩ (fun _ _ _ _ => rfl) (fun k acc S h => by rw [h.1]; simp) (by simp; omega) (fun k x acc S hx ⟨h1, h2, h3⟩ => by
      subst h1
      rw [List.getElem?_map] at hx
      obtain ⟨y, hy, rfl⟩ := Option.map_eq_some_iff.mp hx
      have hl := h2.len
      refine ⟨_, true, _, rfl, rfl, .inl ⟨rfl, .ref (A.length + k), S ++ [.lst [stD s0]], ?_, ?_, ?_, ?_⟩⟩
      · have q0 := fun S => ca_0 (S := S) (x := y)
        have q1 := fun S => ca_1 (S := S) (x := y)
        have hp := lplay_spec (A := S) (x := dv y.1) (y := dv y.2)
        generalize caD y = Z at *
        generalize (dv y.1 : D) = X at *
        generalize (dv y.2 : D) = Y at *
        generalize stD s0 = ST at *
        simp [q0, q1, hp, hl]
      · rw [List.range_succ, List.map_append]
        rfl
      · exact h2.app rfl
      · intro q hq
        rcases Nat.lt_or_ge q k with hlt | hge
        · rw [List.getElem?_append_left (by omega)]
          exact h3 q hlt
        · rw [app_at (r := 0) (by omega)]
          rfl)
  rw [List.length_map] at h2 h3 h4
  subst h2
  exact ⟨S', h1, h3, h4⟩
theorem ar_k3 (hz : cs.length ≤ 100) {T U : D} : ∃ S1, k_law_are_right_3 [some (.ref d), some (.lst (cs.map caD)), some T, some U, none, none, none, none, none, none] A = some (.lst ((List.range cs.length).map fun q => .ref (A.length + q)), S1) ∧ Ext A S1 cs.length ∧ ∀ q, q < cs.length → S1[A.length + q]? = some (.lst []) := by
  have hz2 : (SZ : Nat) = 100000 := rfl
  obtain ⟨ys, S', h1, h2, h3, h4⟩ := lc_ind (it := iE (eVar 1)) (vs := [9]) (tg := HS.gN 9) (tt := tYesE) (fe := eAl (eLst aNil)) (η := [some (.ref d), some (.lst (cs.map caD)), some T, some U, none, none, none, none, none, none]) (S0 := A) (S := A) (xs := cs.map caD) (chk := chkS (.lst (cs.map caD)) (cs.map caD))
    (fun k acc S => acc = ((List.range k).map fun q => D.ref (A.length + q)) ∧ Ext A S k ∧ ∀ q, q < k → S[A.length + q]? = some (.lst []))
    (by
      generalize cs.map caD = L at *
      simp) ⟨rfl, ⟨rfl, fun _ _ => rfl⟩, fun q hq => absurd hq (Nat.not_lt_zero _)⟩ (fun _ _ _ _ => rfl) (fun k acc S h => by rw [h.1]; simp) (by simp; omega) (fun k x acc S hx ⟨h1, h2, h3⟩ => by
      subst h1
      have hl := h2.len
      refine ⟨_, true, _, rfl, rfl, .inl ⟨rfl, .ref (A.length + k), S ++ [.lst []], ?_, ?_, ?_, ?_⟩⟩
      · simp [hl]
      · rw [List.range_succ, List.map_append]
        rfl
      · exact h2.app rfl
      · intro q hq
        rcases Nat.lt_or_ge q k with hlt | hge
        · rw [List.getElem?_append_left (by omega)]
          exact h3 q hlt
        · rw [app_at (r := 0) (by omega)]
          rfl)
  rw [List.length_map] at h2 h3 h4
  subst h2
  exact ⟨S', h1, h3, h4⟩
end
end K93
namespace K93
open PySem L2 HS
section
variable {A E S S' : Sto} {b : Board} {c : List Sup} {s : Stt} {d t i j u v : Nat} {ds ds' : List Int} {ss : List Stt} {ms : List Mv} {cs : List Case}
theorem Adr.frame {i' j' u' v' : Nat} (M : Adr S d t i j u v ds b c ss ms) (F : Fr S S' d i' j' u' v') (hd : S'[d]? = some (IL ds')) (h : ∀ x, x = t ∨ x = i ∨ x = j ∨ x = u ∨ x = v → x ≠ i' ∧ x ≠ j' ∧ x ≠ u' ∧ x ≠ v') : Adr S' d t i j u v ds' b c ss ms := by
  have e : ∀ x, x ≠ d → (x = t ∨ x = i ∨ x = j ∨ x = u ∨ x = v) → S'[x]? = S[x]? := fun x hx hh => by
    obtain ⟨h1, h2, h3, h4⟩ := h x hh
    exact F.2 x hx h1 h2 h3 h4
  refine ⟨⟨?_, ?_, ?_, M.T.ne⟩, hd, ?_, ?_, M.di, M.dj, M.du, M.dv', M.iu, M.iv, M.ju, M.jv, M.uv⟩
  · rw [e t (Ne.symm M.td) (.inl rfl)]; exact M.T.at'
  · rw [e i (Ne.symm M.di) (.inr (.inl rfl))]; exact M.T.ai
  · rw [e j (Ne.symm M.dj) (.inr (.inr (.inl rfl)))]; exact M.T.aj
  · rw [e u (Ne.symm M.du) (.inr (.inr (.inr (.inl rfl))))]; exact M.au
  · rw [e v (Ne.symm M.dv') (.inr (.inr (.inr (.inr rfl))))]; exact M.av
/-- all tables -/
structure Al (A S : Sto) (d : Nat) (ds : List Int) (cs : List Case) (k0 m : Nat) : Prop where
  len : S.length = A.length + 5 * cs.length
  old : ∀ x, x < A.length → x ≠ d → S[x]? = A[x]?
  dr : S[d]? = some (IL ds)
  tabs : ∀ q x, k0 ≤ q → cs[q]? = some x → ∃ ss ms s, Adr S d (A.length + 3 * q) (A.length + 3 * q + 1) (A.length + 3 * q + 2) (A.length + 3 * cs.length + q) (A.length + 4 * cs.length + q) ds x.1 x.2 ss ms ∧ Play x.1 x.2 ss ms s ∧ ms.length ≤ m
def tabR (N n : Nat) : D := .lst ((List.range n).map fun q => .ref (N + 3 * q))
def staR (N n : Nat) : D := .lst ((List.range n).map fun q => .ref (N + 3 * n + q))
def movR (N n : Nat) : D := .lst ((List.range n).map fun q => .ref (N + 4 * n + q))
theorem r_ix {f : Nat → D} {n k : Nat} (h : k < n) : oIx (.lst ((List.range n).map f)) (.int (k : Nat)) S = some (f k, S) := by
  rw [q_ixl, atIn (k := k) (x := f k) (by rw [List.getElem?_map, List.getElem?_range h]; rfl)]
  rfl
theorem c_ix {k : Nat} {x : Case} (h : cs[k]? = some x) : oIx (.lst (cs.map caD)) (.int (k : Nat)) S = some (caD x, S) := by
  rw [q_ixl, atIn (k := k) (x := caD x) (by rw [List.getElem?_map, h]; rfl)]
  rfl
abbrev arE (d N : Nat) (cs : List Case) (a5 a6 a7 a8 : Option D) : HS.Env := [some (.ref d), some (.lst (cs.map caD)), some (tabR N cs.length), some (staR N cs.length), some (movR N cs.length), a5, a6, a7, a8, none]
theorem body1 (hd : d < A.length) (hg : ∀ x ∈ cs, bcT x.1 x.2) {m k : Nat} {x : Case} {a5 a7 a8 : Option D} (L : Al A S d ds cs 0 m) (hx : cs[k]? = some x) (hm : m + 2 ≤ SZ) :
    ∃ (S' : Sto) (ds' : List Int) (a7' a8' : Option D), b_law_are_right_1 (arE d A.length cs a5 (some (.int (k : Nat))) a7 a8) S = some (.nx, arE d A.length cs a5 (some (.int (k : Nat))) a7' a8', S') ∧ Al A S' d ds' cs 0 (m + 1) := by
  have hk : k < cs.length := (List.getElem?_eq_some_iff.mp hx).1
  have g := hg x (List.mem_of_getElem? hx)
  obtain ⟨ss, ms, s, M, P, hml⟩ := L.tabs k x (Nat.zero_le _) hx
  have hX : oIx (.ref (A.length + 3 * cs.length + k)) (.int (-1)) S = some (stD s, S) := by
    obtain ⟨r, hr⟩ := P.last
    rw [q_ixr]
    exact st_last (r := r) (by rw [← hr]; exact M.au)
  have hY : bTuple [.ref (A.length + 4 * cs.length + k)] S = some (.tup (ms.map dv), S) := by
    rw [q_tupr, M.av]
    rfl
  have f1 := shows_spec M.T P g (by omega) hX hY
  obtain ⟨S', ds', ss', ms', s', f2, M', P', hml', F⟩ := step_spec M P g (by omega)
  refine ⟨S', ds', some (dv x.1), some (dv x.2), ?_, ?_⟩
  · have q1 := fun S => c_ix (S := S) hx
    have q2 := fun S => ca_0 (S := S) (x := x)
    have q3 := fun S => ca_1 (S := S) (x := x)
    have r1 := fun S => r_ix (S := S) (f := fun q => .ref (A.length + 3 * q)) hk
    have r2 := fun S => r_ix (S := S) (f := fun q => .ref (A.length + 3 * cs.length + q)) hk
    have r3 := fun S => r_ix (S := S) (f := fun q => .ref (A.length + 4 * cs.length + q)) hk
    unfold b_law_are_right_1 arE tabR staR movR
    generalize ((List.range cs.length).map fun q => D.ref (A.length + 3 * q)) = L1 at *
    generalize ((List.range cs.length).map fun q => D.ref (A.length + 3 * cs.length + q)) = L2 at *
    generalize ((List.range cs.length).map fun q => D.ref (A.length + 4 * cs.length + q)) = L3 at *
    generalize caD x = C at *
    generalize (dv x.1 : D) = B at *
    generalize (dv x.2 : D) = CL at *
    generalize cs.map caD = LL at *
    generalize A.length + 3 * k = w1 at *
    generalize A.length + 3 * cs.length + k = w2 at *
    generalize A.length + 4 * cs.length + k = w3 at *
    simp [q1, q2, q3, r1, r2, r3, f1, f2]
  · refine ⟨by rw [F.1]; exact L.len, fun y hy hyd => ?_, M'.ad, fun q y _ hy => ?_⟩
    · rw [F.2 y hyd (by omega) (by omega) (by omega) (by omega)]
      exact L.old y hy hyd
    · by_cases e : q = k
      · subst e
        rw [hx] at hy
        cases hy
        exact ⟨ss', ms', s', M', P', by omega⟩
      · obtain ⟨ss2, ms2, s2, M2, P2, h2⟩ := L.tabs q y (Nat.zero_le _) hy
        have hq : q < cs.length := (List.getElem?_eq_some_iff.mp hy).1
        exact ⟨ss2, ms2, s2, M2.frame F M'.ad (by omega), P2, by omega⟩
theorem loop1 (hd : d < A.length) (hg : ∀ x ∈ cs, bcT x.1 x.2) {m : Nat} {a5 a6 a7 a8 : Option D} (L : Al A S d ds cs 0 m) (hm : m + cs.length + 2 ≤ SZ) :
    ∃ (S' : Sto) (ds' : List Int) (a6' a7' a8' : Option D), l_law_are_right_1 (arE d A.length cs a5 a6 a7 a8) S = some (.nx, arE d A.length cs a5 a6' a7' a8', S') ∧ Al A S' d ds' cs 0 (m + cs.length) := by
  obtain ⟨η', S', h1, a6', a7', a8', ds', rfl, h2⟩ := for_ind (it := iRange1 (aCons (eB bLen (aCons (eVar 1) aNil)) aNil)) (tg := HS.gN 6) (body := b_law_are_right_1) (η := arE d A.length cs a5 a6 a7 a8) (S := S) (S0 := S) (xs := rangeD 0 cs.length) (chk := chkT)
    (fun k η S => ∃ a6 a7 a8 ds, η = arE d A.length cs a5 a6 a7 a8 ∧ Al A S d ds cs 0 (m + k))
    (by
      have hz : cs.length ≤ SZ := by omega
      have hl : (cs.map caD).length = cs.length := List.length_map _
      unfold arE
      generalize tabR A.length cs.length = X1
      generalize staR A.length cs.length = X2
      generalize movR A.length cs.length = X3
      generalize cs.map caD = LL at *
      generalize cs.length = n at *
      simp [hl, hz]) ⟨a6, a7, a8, ds, rfl, L⟩ (fun _ _ _ _ _ => trivial) (fun k x η S hx ⟨a6, a7, a8, ds, h3, h4⟩ => by
      subst h3
      have hk : k < cs.length := by have := (List.getElem?_eq_some_iff.mp hx).1; simpa [rangeD] using this
      have ex : x = .int ((k : Nat) : Int) := by
        unfold rangeD at hx
        rw [List.getElem?_map, List.getElem?_range hk] at hx
        simpa using hx.symm
      subst ex
      obtain ⟨S', ds', a7', a8', h5, h6⟩ := body1 (a5 := a5) (a7 := a7) (a8 := a8) hd hg h4 (List.getElem?_eq_getElem hk) (by omega)
      exact ⟨_, _, S', rfl, .inl h5, _, a7', a8', ds', rfl, h6⟩)
  have e : (rangeD 0 cs.length).length = cs.length := by simp [rangeD]
  rw [e] at h2
  exact ⟨S', ds', a6', a7', a8', h1, h2⟩
theorem loop2 (hd : d < A.length) (hg : ∀ x ∈ cs, bcT x.1 x.2) {a5 a6 a7 a8 : Option D} (L : Al A S d ds cs 0 0) (hn : cs.length ≤ 100) :
    ∃ (S' : Sto) (ds' : List Int) (a5' a6' a7' a8' : Option D), l_law_are_right_2 (arE d A.length cs a5 a6 a7 a8) S = some (.nx, arE d A.length cs a5' a6' a7' a8', S') ∧ Al A S' d ds' cs 0 (14 * cs.length) := by
  have hz2 : (SZ : Nat) = 100000 := rfl
  obtain ⟨η', S', h1, a5', a6', a7', a8', ds', rfl, h2⟩ := for_ind (it := iRange1 (aCons (eC (.int 14)) aNil)) (tg := HS.gN 5) (body := l_law_are_right_1) (η := arE d A.length cs a5 a6 a7 a8) (S := S) (S0 := S) (xs := rangeD 0 14) (chk := chkT)
    (fun k η S => ∃ a5 a6 a7 a8 ds, η = arE d A.length cs a5 a6 a7 a8 ∧ Al A S d ds cs 0 (k * cs.length))
    (by
      have h14 : (14 : Int) = ((14 : Nat) : Int) := rfl
      have hz : (14 : Nat) ≤ SZ := by omega
      simp [hz]
      rfl) ⟨a5, a6, a7, a8, ds, rfl, by rw [Nat.zero_mul]; exact L⟩ (fun _ _ _ _ _ => trivial) (fun k x η S hx ⟨a5, a6, a7, a8, ds, h3, h4⟩ => by
      subst h3
      have hk : k < 14 := by have := (List.getElem?_eq_some_iff.mp hx).1; simpa [rangeD] using this
      have hb : k * cs.length ≤ 14 * 100 := Nat.mul_le_mul (by omega) hn
      obtain ⟨S', ds', a6', a7', a8', h5, h6⟩ := loop1 (a5 := some x) (a6 := a6) (a7 := a7) (a8 := a8) hd hg h4 (by omega)
      refine ⟨_, _, S', rfl, .inl h5, _, a6', a7', a8', ds', rfl, ?_⟩
      rw [Nat.succ_mul]
      exact h6)
  have e : (rangeD 0 14).length = 14 := by simp [rangeD]
  rw [e] at h2
  exact ⟨S', ds', a5', a6', a7', a8', h1, h2⟩
end
end K93
namespace K93
open PySem L2 HS
section
variable {A E S S' : Sto} {b : Board} {c : List Sup} {s : Stt} {d t i j u v : Nat} {ds ds' : List Int} {ss : List Stt} {ms : List Mv} {cs : List Case}
theorem Play.head (P : Play b c ss ms s) : ∃ r, ss = s0 :: r := by
  induction P with
  | nil => exact ⟨[], rfl⟩
  | snoc P hm ih =>
    obtain ⟨r, rfl⟩ := ih
    exact ⟨_, rfl⟩
theorem body2 {k : Nat} {x : Case} {a5 a7 a8 : Option D} (hk : k < cs.length) {N : Nat} {y : Stt} {m : Mv} (T : TabAt x.1 x.2 S (N + 3 * k) i j (ss ++ [y]) (ms ++ [m])) :
    b_law_are_right_2 (arE d N cs a5 (some (.int (k : Nat))) a7 a8) S = some (.nx, arE d N cs a5 (some (.int (k : Nat))) a7 a8, (S.set i (.lst (ss.map (tmD x.1)))).set j (.lst (ms.map dv))) := by
  have h1 := T.at'
  have h2 := tb_no (b := x.1) (c := x.2) (i := i) (j := j) (m := "back")
  have h3 := back_yes T
  have e1 := same_dv (A := (S.set i (.lst (ss.map (tmD x.1)))).set j (.lst (ms.map dv))) (x := .bl true) (n := 0) rfl (by decide)
  have r1 := fun S => r_ix (S := S) (f := fun q => .ref (N + 3 * q)) hk
  unfold b_law_are_right_2 arE tabR
  generalize tbF x.1 x.2 i j = F at *
  generalize ss.map (tmD x.1) = LT at *
  generalize ms.map dv = MM at *
  generalize staR N cs.length = X2
  generalize movR N cs.length = X3
  generalize cs.map caD = LL at *
  generalize ((List.range cs.length).map fun q => D.ref (N + 3 * q)) = L1 at *
  generalize N + 3 * k = w1 at *
  simp [r1, h1, h3, methK2_ h2, e1]
theorem loop3 {k : Nat} {x : Case} {a5 a7 a8 : Option D} (hk : k < cs.length) {N : Nat} (M : Adr S d (N + 3 * k) i j u (N + 4 * cs.length + k) ds x.1 x.2 ss ms) (P : Play x.1 x.2 ss ms s) (hz : ms.length ≤ SZ) :
    ∃ (S' : Sto) (a5' : Option D), l_law_are_right_3 (arE d N cs a5 (some (.int (k : Nat))) a7 a8) S = some (.nx, arE d N cs a5' (some (.int (k : Nat))) a7 a8, S') ∧ TabAt x.1 x.2 S' (N + 3 * k) i j [s0] [] ∧ S'.length = S.length ∧ ∀ y, y ≠ i → y ≠ j → S'[y]? = S[y]? := by
  obtain ⟨η', S', h1, a5', rfl, h2, h3, h4⟩ := for_ind (it := iRange1 (aCons (eB bLen (aCons (eBin oIx (eVar 4) (eVar 6)) aNil)) aNil)) (tg := HS.gN 5) (body := b_law_are_right_2) (η := arE d N cs a5 (some (.int (k : Nat))) a7 a8) (S := S) (S0 := S) (xs := rangeD 0 ms.length) (chk := chkT)
    (fun q η S2 => ∃ a5, η = arE d N cs a5 (some (.int (k : Nat))) a7 a8 ∧ TabAt x.1 x.2 S2 (N + 3 * k) i j (ss.take (ms.length - q + 1)) (ms.take (ms.length - q)) ∧ S2.length = S.length ∧ ∀ y, y ≠ i → y ≠ j → S2[y]? = S[y]?)
    (by
      have r3 := fun S => r_ix (S := S) (f := fun q => .ref (N + 4 * cs.length + q)) hk
      have hv : lenK S (lK S[N + 4 * cs.length + k]?) = some (.int (ms.length : Nat), S) := by
        rw [M.av, lK_, lenK_, List.length_map]
      unfold arE movR
      generalize tabR N cs.length = X1
      generalize staR N cs.length = X2
      generalize ((List.range cs.length).map fun q => D.ref (N + 4 * cs.length + q)) = L3 at *
      generalize cs.map caD = LL at *
      generalize N + 4 * cs.length + k = w3 at *
      generalize ms.length = n at *
      simp [r3, hv, hz]) ⟨a5, rfl, by
        have hl := P.len
        rw [Nat.sub_zero, List.take_length, ← hl, List.take_length]
        exact M.T, rfl, fun _ _ _ => rfl⟩ (fun _ _ _ _ _ => trivial) (fun q y η S2 hx ⟨a5, h3, h4, h5, h6⟩ => by
      subst h3
      have hq : q < ms.length := by have := (List.getElem?_eq_some_iff.mp hx).1; simpa [rangeD] using this
      have hl := P.len
      obtain ⟨r, hr⟩ : ∃ r, ms.length - q = r + 1 := ⟨ms.length - q - 1, by omega⟩
      have hr2 : ms.length - (q + 1) = r := by omega
      rw [hr] at h4
      rw [hr2]
      have e1 : ms.take (r + 1) = ms.take r ++ [ms[r]'(by omega)] := by rw [List.take_add_one, List.getElem?_eq_getElem (by omega)]; rfl
      have e2 : ss.take (r + 1 + 1) = ss.take (r + 1) ++ [ss[r + 1]'(by omega)] := by rw [List.take_add_one, List.getElem?_eq_getElem (by omega)]; rfl
      rw [e1, e2] at h4
      refine ⟨_, _, _, rfl, .inl (body2 (a5 := some y) (a7 := a7) (a8 := a8) hk h4), some y, rfl, h4.put _ _, by simp [h5], fun z z1 z2 => ?_⟩
      rw [List.getElem?_set_ne (Ne.symm z2), List.getElem?_set_ne (Ne.symm z1)]
      exact h6 z z1 z2)
  have e : (rangeD 0 ms.length).length = ms.length := by simp [rangeD]
  rw [e, Nat.sub_self, List.take_zero] at h2
  obtain ⟨r, hr⟩ := P.head
  have e3 : ss.take (0 + 1) = [s0] := by rw [hr]; rfl
  rw [e3] at h2
  exact ⟨S', a5', h1, h2, h3, h4⟩
theorem body3 (hd : d < A.length) (hg : ∀ x ∈ cs, bcT x.1 x.2) {m k : Nat} {x : Case} {a5 a7 a8 : Option D} (L : Al A S d ds cs k m) (hx : cs[k]? = some x) (hm : m + 2 ≤ SZ) :
    ∃ (S' : Sto) (a5' : Option D), b_law_are_right_3 (arE d A.length cs a5 (some (.int (k : Nat))) a7 a8) S = some (.nx, arE d A.length cs a5' (some (.int (k : Nat))) a7 a8, S') ∧ Al A S' d ds cs (k + 1) m := by
  have hk : k < cs.length := (List.getElem?_eq_some_iff.mp hx).1
  have g := hg x (List.mem_of_getElem? hx)
  obtain ⟨ss, ms, s, M, P, hml⟩ := L.tabs k x (Nat.le_refl _) hx
  have hX : oIx (.ref (A.length + 3 * cs.length + k)) (.int (-1)) S = some (stD s, S) := by
    obtain ⟨r, hr⟩ := P.last
    rw [q_ixr]
    exact st_last (r := r) (by rw [← hr]; exact M.au)
  have hY : bTuple [.ref (A.length + 4 * cs.length + k)] S = some (.tup (ms.map dv), S) := by
    rw [q_tupr, M.av]
    rfl
  have f1 := shows_spec M.T P g (by omega) hX hY
  obtain ⟨S', a5', f2, T', hl', ho⟩ := loop3 (a5 := a5) (a7 := a7) (a8 := a8) hk M P (by omega)
  refine ⟨S', a5', ?_, ?_⟩
  · have hsl : slD S' (.ref (A.length + 3 * cs.length + k)) none (some 1) = some (.lst [stD s0]) := by
      have e : S'[A.length + 3 * cs.length + k]? = some (.lst (ss.map stD)) := by rw [ho _ (by omega) (by omega)]; exact M.au
      show (lstOf S' (.ref (A.length + 3 * cs.length + k))).bind (fun xs => some (D.lst (cutL xs none (some 1)))) = _
      rw [q_lo2, e, lK_, Option.bind_some]
      have := cut_to (xs := ss.map stD) (n := 1)
      rw [show ((1 : Nat) : Int) = 1 from rfl] at this
      rw [this]
      obtain ⟨r, hr⟩ := P.head
      rw [hr]
      rfl
    have f3 := shows_spec (X := .lst [stD s0]) (Y := .lst []) T' .nil g (by simp) (by rw [q_ixl]; rfl) rfl
    have h1 := T'.at'
    have h2 := tb_no (b := x.1) (c := x.2) (i := A.length + 3 * k + 1) (j := A.length + 3 * k + 2) (m := "back")
    have f4 := back_no T'
    have e1 := same_dv (A := S') (x := .bl false) (n := 0) rfl (by decide)
    have q1 := fun S => c_ix (S := S) hx
    have q2 := fun S => ca_0 (S := S) (x := x)
    have q3 := fun S => ca_1 (S := S) (x := x)
    have r1 := fun S => r_ix (S := S) (f := fun q => .ref (A.length + 3 * q)) hk
    have r2 := fun S => r_ix (S := S) (f := fun q => .ref (A.length + 3 * cs.length + q)) hk
    have r3 := fun S => r_ix (S := S) (f := fun q => .ref (A.length + 4 * cs.length + q)) hk
    unfold b_law_are_right_3
    unfold arE tabR staR movR at *
    generalize tbF x.1 x.2 (A.length + 3 * k + 1) (A.length + 3 * k + 2) = F at *
    generalize ((List.range cs.length).map fun q => D.ref (A.length + 3 * q)) = L1 at *
    generalize ((List.range cs.length).map fun q => D.ref (A.length + 3 * cs.length + q)) = L2 at *
    generalize ((List.range cs.length).map fun q => D.ref (A.length + 4 * cs.length + q)) = L3 at *
    generalize caD x = C at *
    generalize (dv x.1 : D) = B at *
    generalize (dv x.2 : D) = CL at *
    generalize cs.map caD = LL at *
    generalize A.length + 3 * k = w1 at *
    generalize A.length + 3 * cs.length + k = w2 at *
    generalize A.length + 4 * cs.length + k = w3 at *
    generalize stD s0 = ST at *
    simp [q1, q2, q3, r1, r2, r3, f1, f2, f3, f4, h1, methK2_ h2, e1, hsl]
  · have F : Fr S S' d (A.length + 3 * k + 1) (A.length + 3 * k + 2) (A.length + 3 * cs.length + k) (A.length + 4 * cs.length + k) := ⟨hl', fun y _ y2 y3 _ _ => ho y y2 y3⟩
    have hdr : S'[d]? = some (IL ds) := by rw [ho d (by omega) (by omega)]; exact L.dr
    refine ⟨by rw [hl']; exact L.len, fun y hy hyd => ?_, hdr, fun q y hq hy => ?_⟩
    · rw [ho y (by omega) (by omega)]
      exact L.old y hy hyd
    · obtain ⟨ss2, ms2, s2, M2, P2, h2⟩ := L.tabs q y (by omega) hy
      have hq2 : q < cs.length := (List.getElem?_eq_some_iff.mp hy).1
      exact ⟨ss2, ms2, s2, M2.frame F hdr (by omega), P2, h2⟩
theorem loop4 (hd : d < A.length) (hg : ∀ x ∈ cs, bcT x.1 x.2) {m : Nat} {a5 a6 a7 a8 : Option D} (L : Al A S d ds cs 0 m) (hm : m + cs.length + 2 ≤ SZ) :
    ∃ (S' : Sto) (a5' a6' : Option D), l_law_are_right_4 (arE d A.length cs a5 a6 a7 a8) S = some (.nx, arE d A.length cs a5' a6' a7 a8, S') ∧ Al A S' d ds cs cs.length m := by
  obtain ⟨η', S', h1, a5', a6', rfl, h2⟩ := for_ind (it := iRange1 (aCons (eB bLen (aCons (eVar 1) aNil)) aNil)) (tg := HS.gN 6) (body := b_law_are_right_3) (η := arE d A.length cs a5 a6 a7 a8) (S := S) (S0 := S) (xs := rangeD 0 cs.length) (chk := chkT)
    (fun k η S => ∃ a5 a6, η = arE d A.length cs a5 a6 a7 a8 ∧ Al A S d ds cs k m)
    (by
      have hz : cs.length ≤ SZ := by omega
      have hl : (cs.map caD).length = cs.length := List.length_map _
      unfold arE
      generalize tabR A.length cs.length = X1
      generalize staR A.length cs.length = X2
      generalize movR A.length cs.length = X3
      generalize cs.map caD = LL at *
      generalize cs.length = n at *
      simp [hl, hz]) ⟨a5, a6, rfl, L⟩ (fun _ _ _ _ _ => trivial) (fun k x η S hx ⟨a5, a6, h3, h4⟩ => by
      subst h3
      have hk : k < cs.length := by have := (List.getElem?_eq_some_iff.mp hx).1; simpa [rangeD] using this
      have ex : x = .int ((k : Nat) : Int) := by
        unfold rangeD at hx
        rw [List.getElem?_map, List.getElem?_range hk] at hx
        simpa using hx.symm
      subst ex
      obtain ⟨S', a5', h5, h6⟩ := body3 (a5 := a5) (a7 := a7) (a8 := a8) hd hg h4 (List.getElem?_eq_getElem hk) (by omega)
      exact ⟨_, _, S', rfl, .inl h5, a5', _, rfl, h6⟩)
  have e : (rangeD 0 cs.length).length = cs.length := by simp [rangeD]
  rw [e] at h2
  exact ⟨S', a5', a6', h1, h2⟩
theorem end_al {m : Nat} (hd : d < A.length) (L : Al A S d ds cs cs.length m) : endF A S (.bl true) = some (.bl true, false, A.set d (IL ds)) := by
  have e : S = W A d ds (S.drop A.length) := by
    unfold HS.W
    conv => lhs; rw [← List.take_append_drop A.length S]
    congr 1
    apply List.ext_getElem?
    intro k
    rcases Nat.lt_or_ge k A.length with h | h
    · rw [List.getElem?_take_of_lt h]
      by_cases hkd : k = d
      · subst hkd
        rw [List.getElem?_set_self hd]
        exact L.dr
      · rw [List.getElem?_set_ne (Ne.symm hkd)]
        exact L.old k h hkd
    · rw [List.getElem?_eq_none (by rw [List.length_take]; omega), List.getElem?_eq_none (by rw [List.length_set]; omega)]
  rw [e]
  exact end_W (n := 0) rfl (by decide)
theorem are_right_spec (h : A[d]? = some (IL ds)) (hg : ∀ x ∈ cs, bcT x.1 x.2) (hn : cs.length ≤ 100) : ∃ ds', c_law_are_right [.ref d, .lst (cs.map caD)] A = some (.bl true, false, A.set d (IL ds')) := by
  have hz2 : (SZ : Nat) = 100000 := rfl
  have hd := (List.getElem?_eq_some_iff.mp h).1
  obtain ⟨S1, k1, x1, n1⟩ := ar_k1 (A := A) (d := d) hg hn
  obtain ⟨S2, k2, x2, n2⟩ := ar_k2 (A := S1) (d := d) (cs := cs) hn (T := tabR A.length cs.length)
  obtain ⟨S3, k3, x3, n3⟩ := ar_k3 (A := S2) (d := d) (cs := cs) hn (T := tabR A.length cs.length) (U := staR A.length cs.length)
  have l1 := x1.len
  have l2 := x2.len
  have l3 := x3.len
  have e2 : (D.lst ((List.range cs.length).map fun q => D.ref (S1.length + q))) = staR A.length cs.length := by
    unfold staR
    rw [l1]
  have e3 : (D.lst ((List.range cs.length).map fun q => D.ref (S2.length + q))) = movR A.length cs.length := by
    unfold movR
    rw [l2, l1]
    congr 2
    funext q
    congr 1
    omega
  rw [e2] at k2
  rw [e3] at k3
  have L0 : Al A S3 d ds cs 0 0 := by
    refine ⟨by omega, fun y hy _ => ?_, ?_, fun q x _ hx => ?_⟩
    · rw [x3.old y (by omega), x2.old y (by omega), x1.old y hy]
    · rw [x3.old d (by omega), x2.old d (by omega), x1.old d hd]
      exact h
    · have hq : q < cs.length := (List.getElem?_eq_some_iff.mp hx).1
      have N1 := ((n1 q x hx).ext (S' := S2) fun k hk => x2.old k hk).ext (S' := S3) fun k hk => x3.old k hk
      have hu : S3[A.length + 3 * cs.length + q]? = some (.lst [stD s0]) := by
        rw [x3.old _ (by omega), ← n2 q hq, l1]
      have hv : S3[A.length + 4 * cs.length + q]? = some (.lst []) := by
        rw [← n3 q hq, l2, l1]
        congr 1
        omega
      have hdd : S3[d]? = some (IL ds) := by
        rw [x3.old d (by omega), x2.old d (by omega), x1.old d hd]
        exact h
      exact ⟨[s0], [], s0, ⟨⟨N1.t0, N1.t1, N1.t2, by omega⟩, hdd, hu, hv, by omega, by omega, by omega, by omega, by omega, by omega, by omega, by omega, by omega⟩, .nil, Nat.le_refl _⟩
  obtain ⟨S4, ds4, a5, a6, a7, a8, h4, L4⟩ := loop2 (a5 := none) (a6 := none) (a7 := none) (a8 := none) hd hg L0 hn
  have hb : 14 * cs.length ≤ 14 * 100 := Nat.mul_le_mul_left _ hn
  obtain ⟨S5, a5', a6', h5, L5⟩ := loop4 (a5 := a5) (a6 := a6) (a7 := a7) (a8 := a8) hd hg L4 (by omega)
  refine ⟨ds4, ?_⟩
  have hend := end_al hd L5
  have k1 : k_law_are_right_1 [some (.ref d), some (.lst (cs.map caD)), none, none, none, none, none, none, none, none] A = some (tabR A.length cs.length, S1) := k1
  unfold c_law_are_right m_law_are_right
  rw [callsV, V_out]
  unfold arE at h4 h5
  generalize tabR A.length cs.length = X1 at *
  generalize staR A.length cs.length = X2 at *
  generalize movR A.length cs.length = X3 at *
  generalize cs.map caD = LL at *
  simp [k1, k2, k3, h4, h5, hend]
end
end K93
namespace K93
open PySem L2 HS
section
variable {A E S : Sto} {i : Nat} {ds : List Int}
theorem slD_take {xs : List D} {n : Nat} : slD S (.lst xs) none (some (n : Int)) = some (.lst (xs.take n)) := by
  show (lstOf S (.lst xs)).bind (fun xs => some (D.lst (cutL xs none (some (n : Int))))) = _
  rw [q_lo1, Option.bind_some, cut_to]
/-- indexes that may be there -/
def okMb (n : Nat) (mb : List Int) : Prop := mb.Nodup ∧ ∀ x ∈ mb, ∃ k : Nat, k < n ∧ x = (k : Int)
/-- a drawn board -/
theorem drawn_W {ps : Sup} {most : Nat} (hi : i < A.length) (hr : ∀ p ∈ ps, p.2.length ≤ 4) (hp : ps.length ≤ 100) (hm : most ≤ 100) : ∃ (s r : List Att) (d1 d2 : List Int), c_law_shape [.ref i, dv ps] (W A i ds E) = some (.lst (s.map dv), false, W A i d1 E) ∧ c_law_raw [.ref i, dv ps, .int most] (W A i d1 E) = some (.lst (r.map dv), true, W A i d2 E) ∧
    (∀ S, oAdd (.lst (s.map dv)) (.lst (r.map dv)) S = some (.lst ((s ++ r).map dv), S)) ∧ (∀ S, c_law_board_of_raw [dv ps, .lst ((s ++ r).map dv)] S = some (dv ((ps, attsOf ps (s ++ r)) : Board), false, S)) ∧ okB (ps, attsOf ps (s ++ r)) ∧ (attsOf ps (s ++ r)).length ≤ ps.length * 400 ∧ (s ++ r).length ≤ 2 * ps.length + 10 + most ∧ ∀ a ∈ s ++ r, okRaw ps a := by
  have hz2 : (SZ : Nat) = 100000 := rfl
  obtain ⟨s, d1, h1, h2, h3⟩ := shape_W (A := A) (E := E) (ds := ds) (ps := ps) hi hr hp
  obtain ⟨r, d2, h4, h5, h6⟩ := raw_W (A := A) (E := E) (ds := d1) (ps := ps) (most := most) hi hr hp hm
  have hall : ∀ a ∈ s ++ r, okRaw ps a := fun a ha => by
    rcases List.mem_append.mp ha with ha | ha
    · exact h3 a ha
    · exact h6 a ha
  have hlen : (s ++ r).length ≤ 2 * ps.length + 10 + most := by simp; omega
  refine ⟨s, r, d1, d2, h1, h4, fun S => ?_, fun S => (board_W (A := S) hr hp (by omega) hall).1, (board_W (A := A) hr hp (by omega) hall).2, ?_, hlen, hall⟩
  · rw [q_addl (by simp; omega), List.map_append]
  · have := atts_len (rs := s ++ r) ps
    have h8 : ps.length * (s ++ r).length ≤ ps.length * 400 := Nat.mul_le_mul_left _ (by omega)
    omega
end
end K93
namespace K93
open PySem L2 HS
/-- boards of the law -/
structure bT (b : Board) : Prop where
  g : gB2 b
  as : Asc b.1
  at' : ∀ a ∈ b.2, Asc a.1
theorem bT_of {ps : Sup} {rs : List Att} (g : gB2 (ps, attsOf ps rs)) (hs : ∃ l, ps = setP l) (hr : ∀ a ∈ rs, okRaw ps a) : bT (ps, attsOf ps rs) := by
  refine ⟨g, ?_, fun a ha => ?_⟩
  · obtain ⟨l, rfl⟩ := hs
    exact asc_setP l
  · obtain ⟨⟨l, e, _⟩, _⟩ := hr a (mem_atts (show a ∈ attsOf ps rs from ha)).1
    rw [e]
    exact asc_setP l
section
variable {A E S : Sto} {i : Nat} {ds : List Int}
theorem boards_S {mn ms : Nat} (h4 : 4 ≤ mn) (h8 : mn ≤ 8) (h9 : ms ≤ 20) (h : A[i]? = some (IL ds)) : ∃ (b1 b2 b3 : Board) (ds' : List Int), c_law_boards [.ref i, .int (mn : Int), .int (ms : Int)] A = some (.lst [dv b1, dv b2, dv b3], true, A.set i (IL ds')) ∧ bT b1 ∧ bT b2 ∧ bT b3 ∧ b3.1 ≠ [] := by
  have hz2 : (SZ : Nat) = 100000 := rfl
  have hi : i < A.length := (List.getElem?_eq_some_iff.mp h).1
  obtain ⟨n, d0, h1, h2⟩ := pick_T (α := Int) (A := A) (E := []) (ds := ds) (row := .lst [.int 0, .int 1, .int 0, .int 2, .int 1, .int 0, .int (mn : Int), .int 3]) (xs := [0, 1, 0, 2, 1, 0, (mn : Int), 3]) hi (.inl rfl) (by simp)
  have hn : 0 ≤ n ∧ n ≤ mn := by
    simp at h1
    omega
  have e : (dv n : D) = .int n := rfl
  rw [e] at h2
  obtain ⟨m, hm⟩ : ∃ m : Nat, (mn : Int) - n = m := ⟨((mn : Int) - n).toNat, by omega⟩
  obtain ⟨ps, d1, h3, hnd, h4, h5, _, hsP⟩ := pieces_W (A := A) (E := []) (ds := d0) (many := m) hi (by omega)
  obtain ⟨s, r, d2, d3, h6, h7, h8, h9, ok1, l1, z1, r1⟩ := drawn_W (A := A) (E := []) (ds := d1) (ps := ps) (most := ms) hi h5 (by omega) (by omega)
  replace h7 : c_law_raw [.ref i, dv ps, .int (ms : Int)] (W A i d2 []) = some (.lst (r.map dv), true, W A i d3 []) := h7
  obtain ⟨t, d4, h10, p10, q10⟩ := take_W (A := A) (E := []) (ds := d3) (m := 2) hi (by decide)
  -- perhaps other pieces
  obtain ⟨ps2, d5, h11, h12, h13, hnd2, hsP2⟩ : ∃ (ps2 : Sup) (d5 : List Int), sIf (HS.tB (eBin oEq (eCall c_law_take 2 (aCons (eVar 0) (aCons (eC (.int 2)) aNil))) (eC (.int 0)))) (sSet 3 (eCall c_law_pieces 2 (aCons (eVar 0) (aCons (eBin oSub (eVar 1) (eCall c_law_take 2 (aCons (eVar 0) (aCons (eC (.int 3)) aNil)))) aNil)))) sNil [some (.ref i), some (.int (mn : Int)), some (.int (ms : Int)), some (dv ps), some (dv ((ps, attsOf ps (s ++ r)) : Board)), none] (W A i d3 []) =
      some (.nx, [some (.ref i), some (.int (mn : Int)), some (.int (ms : Int)), some (dv ps2), some (dv ((ps, attsOf ps (s ++ r)) : Board)), none], W A i d5 []) ∧ ps2.length ≤ 8 ∧ (∀ p ∈ ps2, p.2.length ≤ 4) ∧ ps2.Nodup ∧ (∃ l, ps2 = setP l) := by
    by_cases h0 : t = 0
    · obtain ⟨t2, d6, h14, p14, q14⟩ := take_W (A := A) (E := []) (ds := d4) (m := 3) hi (by decide)
      obtain ⟨m2, hm2⟩ : ∃ m : Nat, (mn : Int) - t2 = m := ⟨((mn : Int) - t2).toNat, by omega⟩
      obtain ⟨ps2, d7, h15, hn3, h16, h17, _, hsP2⟩ := pieces_W (A := A) (E := []) (ds := d6) (many := m2) hi (by omega)
      exact ⟨ps2, d7, by simp [h10, h0, h14, hm2, h15], by omega, h17, hn3, hsP2⟩
    · exact ⟨ps, d4, by simp [h10, h0], by omega, h5, hnd, hsP⟩
  obtain ⟨s2, r2, d8, d9, h18, h19, h20, h21, ok2, l2, z2, r2'⟩ := drawn_W (A := A) (E := []) (ds := d5) (ps := ps2) (most := ms) hi h13 (by omega) (by omega)
  replace h19 : c_law_raw [.ref i, dv ps2, .int (ms : Int)] (W A i d8 []) = some (.lst (r2.map dv), true, W A i d9 []) := h19
  obtain ⟨b3, d10, h22, p3, r3, e3, ⟨_, hsP3⟩, hn3, l3, q3, z3, w3⟩ := sure_W (A := A) (E := []) (ds := d9) hi
  refine ⟨_, _, b3, d10, ?_, bT_of (gB2_of hnd h5 (by omega) (by omega) r1) hsP r1, bT_of (gB2_of hnd2 h13 h12 (by omega) r2') hsP2 r2', by rw [e3]; exact bT_of (gB2_of hn3 q3 (by omega) (by omega) w3) hsP3 w3, by rw [e3]; intro z; have z : p3 = [] := z; rw [z] at l3; cases l3⟩
  · have hend := end_Wr0 (A := A) (i := i) (ds := d10) (E := []) (n := DV.n Board + 1) (c := .lst [dv ((ps, attsOf ps (s ++ r)) : Board), dv ((ps2, attsOf ps2 (s2 ++ r2)) : Board), dv b3]) (pl_map (α := Board) (xs := [(ps, attsOf ps (s ++ r)), (ps2, attsOf ps2 (s2 ++ r2)), b3]))
    generalize hX1 : dv ((ps, attsOf ps (s ++ r)) : Board) = X1 at *
    generalize hX2 : dv ((ps2, attsOf ps2 (s2 ++ r2)) : Board) = X2 at *
    generalize (s ++ r).map dv = L1 at h8 h9
    generalize (s2 ++ r2).map dv = L2 at h20 h21
    generalize s.map dv = L3 at h6 h8
    generalize r.map dv = L4 at h7 h8
    generalize s2.map dv = L5 at h18 h20
    generalize r2.map dv = L6 at h19 h20
    unfold c_law_boards m_law_boards
    rw [callsW h]
    have e1 : sSet 3 (eCall c_law_pieces 2 (aCons (eVar 0) (aCons (eBin oSub (eVar 1) (eCall c_law_pick 2 (aCons (eVar 0) (aCons (eLst (aCons (eC (.int 0)) (aCons (eC (.int 1)) (aCons (eC (.int 0)) (aCons (eC (.int 2)) (aCons (eC (.int 1)) (aCons (eC (.int 0)) (aCons (eVar 1) (aCons (eC (.int 3)) aNil))))))))) aNil)))) aNil))) [some (.ref i), some (.int (mn : Int)), some (.int (ms : Int)), none, none, none] (W A i ds []) = some (.nx, [some (.ref i), some (.int (mn : Int)), some (.int (ms : Int)), some (dv ps), none, none], W A i d1 []) := by
      simp [h2, hm, h3]
    have e2 : sSet 4 (eCall c_law_board_of_raw 2 (aCons (eVar 3) (aCons (eBin oAdd (eCall c_law_shape 2 (aCons (eVar 0) (aCons (eVar 3) aNil))) (eCall c_law_raw 3 (aCons (eVar 0) (aCons (eVar 3) (aCons (eVar 2) aNil))))) aNil))) [some (.ref i), some (.int (mn : Int)), some (.int (ms : Int)), some (dv ps), none, none] (W A i d1 []) = some (.nx, [some (.ref i), some (.int (mn : Int)), some (.int (ms : Int)), some (dv ps), some X1, none], W A i d3 []) := by
      simp [-q_addl, h6, h7, h8, h9]
    show endK A (sSeq _ _ [some (.ref i), some (.int (mn : Int)), some (.int (ms : Int)), none, none, none] (W A i ds [])) = _
    rw [q_seq, e1, seqK_n, q_seq, e2, seqK_n, q_seq, h11, seqK_n]
    simp [-q_addl, h18, h19, h20, h21, h22]
    exact hend
theorem boards_W {mn ms : Nat} (h4 : 4 ≤ mn) (h8 : mn ≤ 8) (h9 : ms ≤ 20) (hi : i < A.length) : ∃ (b1 b2 b3 : Board) (ds' : List Int), c_law_boards [.ref i, .int (mn : Int), .int (ms : Int)] (W A i ds E) = some (.lst [dv b1, dv b2, dv b3], true, W A i ds' E) ∧ bT b1 ∧ bT b2 ∧ bT b3 ∧ b3.1 ≠ [] := by
  obtain ⟨b1, b2, b3, ds', h, h2⟩ := boards_S (mn := mn) (ms := ms) h4 h8 h9 (A := W A i ds E) (W_i hi)
  rw [W_si hi] at h
  exact ⟨b1, b2, b3, ds', h, h2⟩
end
end K93
namespace K93
open PySem L2 HS
section
variable {A E S : Sto} {b : Board} {i : Nat} {ds : List Int}
theorem sup_ok {ps : Sup} {s : Sup} (h : okSup ps s) : s.Nodup ∧ (∀ p ∈ s, p ∈ ps) ∧ s.length ≤ 5 := by
  obtain ⟨l, rfl, h1, h2⟩ := h
  exact ⟨setP_nd l, fun p hp => h2 p (mem_setP.mp hp), Nat.le_trans len_setP h1⟩
theorem claim_W (hi : i < A.length) (hb : gB b) : ∃ (cl : List Sup) (ds' : List Int), c_law_claim [.ref i, dv b.1] (W A i ds E) = some (dv cl, false, W A i ds' E) ∧ cl.length ≤ 100 ∧ ∀ s ∈ cl, okSup b.1 s := by
  have hz2 : (SZ : Nat) = 100000 := rfl
  have hn := hb.n
  have hln := fun S => len_dv (S := S) (xs := b.1)
  obtain ⟨v, d1, h1, h2⟩ := pick_T (α := Int) (A := A) (E := E) (ds := ds) (row := .lst [.int 1, .int 2, .int 1, .int 2, .int 3, .int 0, .int 5]) (xs := [1, 2, 1, 2, 3, 0, 5]) hi (.inl rfl) (by simp)
  have hv : 0 ≤ v ∧ v ≤ 5 := by
    simp at h1
    omega
  have e : (dv v : D) = .int v := rfl
  rw [e] at h2
  obtain ⟨m, hrun, hm2⟩ : ∃ m : Nat, (∀ sw, sSeq (sSet 2 (eBin oMul (eCall c_law_pick 2 (aCons (eVar 0) (aCons (eLst (aCons (eC (.int 1)) (aCons (eC (.int 2)) (aCons (eC (.int 1)) (aCons (eC (.int 2)) (aCons (eC (.int 3)) (aCons (eC (.int 0)) (aCons (eC (.int 5)) aNil)))))))) aNil))) (eB bInt (aCons (eBin oGt (eB bLen (aCons (eVar 1) aNil)) (eC (.int 0))) aNil)))) sw [some (.ref i), some (dv b.1), none, none] (W A i ds E) = sw [some (.ref i), some (dv b.1), some (.int (m : Int)), none] (W A i d1 E)) ∧ (m ≤ 5 ∧ (b.1 = [] → m = 0)) := by
    obtain ⟨N, hN⟩ : ∃ N : Int, N = (b.1.length : Int) := ⟨_, rfl⟩
    simp only [← hN] at hln
    by_cases h : 0 < N
    · refine ⟨v.toNat, fun sw => ?_, by omega, fun z => by rw [z] at hN; simp at hN; omega⟩
      have hmul := fun S => q_mul (S := S) (a := v) (b := 1) (.inr (by decide))
      have ev : ((v.toNat : Nat) : Int) = v := by omega
      rw [ev]
      generalize (dv b.1 : D) = Y at *
      simp [h2, hln, h, hmul]
    · refine ⟨0, fun sw => ?_, by omega, fun _ => rfl⟩
      have hmul := fun S => q_mul (S := S) (a := v) (b := 0) (.inr (by decide))
      generalize (dv b.1 : D) = Y at *
      simp [h2, hln, h, hmul]
  obtain ⟨ss, d2, h3, h4, h5⟩ : ∃ (ss : List Sup) (d2 : List Int), k_law_claim_1 [some (.ref i), some (dv b.1), some (.int (m : Int)), none] (W A i d1 E) = some (.lst (ss.map dv), W A i d2 E) ∧ ss.length = m ∧ ∀ s ∈ ss, okSup b.1 s := by
    have hm3 : m ≤ SZ := by omega
    obtain ⟨ss, d2, h3, h4, h5⟩ := lc_T (α := Sup) (A := A) (E := E) (i := i) (ds := d1) (η := [some (.ref i), some (dv b.1), some (.int (m : Int)), none]) (S0 := W A i d1 E) (xs := rangeD 0 m) (chk := chkT) (it := iRange1 (aCons (eVar 2) aNil)) (vs := [3]) (tg := HS.gN 3) (tt := tYesE) (fe := eCall c_law_support 2 (aCons (eVar 0) (aCons (eVar 1) aNil))) (okSup b.1)
      (by simp [hm3]) (fun _ => trivial) (by simpa using hm3) (fun x hx ds => by
        obtain ⟨k, hk, rfl⟩ := rangeD_mem hx
        have hne : b.1 ≠ [] := fun z => by have := hm2.2 z; omega
        obtain ⟨s, d', h1, h2⟩ := support_W (A := A) (E := E) (ds := ds) hi hne hb.ok.r
        refine ⟨_, rfl, rfl, s, d', ?_, h2⟩
        generalize (dv b.1 : D) = Y at *
        simp [h1])
    exact ⟨ss, d2, h3, by simpa using h4, h5⟩
  have hts := thin_spec (A := W A i d2 E) (ss := ss) (e := .lst (ss.map dv)) (fun s hs => by
    obtain ⟨a1, a2, a3⟩ := sup_ok (h5 s hs)
    exact ⟨by omega, fun p hp => Nat.le_trans (hb.ok.r p (a2 p hp)) (by omega)⟩) (by omega) rfl
  refine ⟨thin ss, d2, ?_, ?_, fun s hs => ?_⟩
  · unfold c_law_claim m_law_claim
    rw [q_calls]
    generalize ss.map dv = L at *
    generalize (dv b.1 : D) = Y at *
    generalize (dv (thin ss) : D) = Z at *
    show endK (W A i ds E) (sSeq _ _ [some (.ref i), some Y, none, none] (W A i ds E)) = _
    rw [hrun]
    simp [h3, hts]
    have hlen : (W A i d2 E).length = (W A i ds E).length := by rw [W_len, W_len]
    exact end_len hlen
  · have := thin_len ss
    omega
  · exact h5 s (mem_thin hs)
/-- a claim of the law -/
def okCl (b : Board) (c : List Sup) : Prop := c.length ≤ 100 ∧ ∀ s ∈ c, Asc s ∧ ∀ p ∈ s, p ∈ b.1
theorem okCl_of {c : List Sup} (h : c.length ≤ 100) (h2 : ∀ s ∈ c, okSup b.1 s) : okCl b c :=
  ⟨h, fun s hs => ⟨by obtain ⟨l, e, _⟩ := h2 s hs; rw [e]; exact asc_setP l, (sup_ok (h2 s hs)).2.1⟩⟩
theorem asc_one (p : Piece) : Asc [p] := by rw [← setP_one p]; exact asc_setP [p]
theorem okCl_one {p : Piece} (h : p ∈ b.1) : okCl b [[p]] := ⟨by simp, fun s hs => by
  rw [List.mem_singleton.mp hs]
  exact ⟨asc_one p, fun q hq => by rw [List.mem_singleton.mp hq]; exact h⟩⟩
theorem okCl_nil : okCl b [] := ⟨by simp, fun s hs => (by cases hs)⟩
theorem okCl_emp : okCl b [[]] := ⟨by simp, fun s hs => by
  rw [List.mem_singleton.mp hs]
  exact ⟨⟨List.nodup_nil, List.Pairwise.nil⟩, fun q hq => (by cases hq)⟩⟩
theorem bcT_of {c : List Sup} (h : bT b) (hc : okCl b c) : bcT b c := ⟨h.g.g, h.as, h.at', hc.1, h.g.l, h.g.n8, hc.2⟩
def cutB (m : Nat) (b : Board) : Board := (b.1, b.2.take m)
theorem cut_bT {m : Nat} (h : bT b) : bT (cutB m b) := by
  have g := h.g.g
  have hm : ∀ a ∈ b.2.take m, a ∈ b.2 := fun a ha => List.mem_of_mem_take ha
  have hl : (b.2.take m).length ≤ b.2.length := by rw [List.length_take]; omega
  refine ⟨⟨⟨⟨g.ok.p, g.ok.r, Nat.le_trans hl g.ok.z, fun a ha => g.ok.a a (hm a ha)⟩, Nat.lt_of_le_of_lt hl g.z, Nat.le_trans hl g.z2, g.nd, g.n, fun a ha => g.t a (hm a ha)⟩, Nat.le_trans hl h.g.l, h.g.n8⟩, h.as, fun a ha => h.at' a (hm a ha)⟩
theorem cut_spec {m : Nat} : c_law_cut_board [dv b, .int (m : Nat)] A = some (dv (cutB m b), false, A) := by
  have e : (dv b : D) = .tup [dv b.1, dv b.2] := rfl
  have e2 : (dv b.2 : D) = .tup (b.2.map dv) := rfl
  have e3 : (dv (cutB m b) : D) = .tup [dv b.1, .tup ((b.2.map dv).take m)] := by
    show D.tup [dv b.1, .tup ((b.2.take m).map dv)] = _
    rw [List.map_take]
  have hs : ∀ xs : List D, slD A (.tup xs) none (some (m : Int)) = some (.tup (xs.take m)) := fun xs => by
    show some (D.tup (cutL xs none (some (m : Int)))) = _
    rw [cut_to]
  unfold c_law_cut_board m_law_cut_board
  rw [callsV, V_out, e3, e, e2]
  generalize (dv b.1 : D) = X
  generalize b.2.map dv = L
  simp [hs]
def chA (o : Sup) : List Att := (List.range 4).map fun k => ([pcN o (k + 1)], pcN o k)
theorem o_ix {o : Sup} {k : Nat} (h : k < o.length) : oIx (.lst (o.map dv)) (.int (k : Int)) S = some (dv (pcN o k), S) := by
  rw [q_ixl, atIn (k := k) (x := dv (pcN o k)) ?_]
  · rfl
  · rw [List.getElem?_map, List.getElem?_eq_getElem h, pcN_g h]
    rfl
theorem chain_k {o : Sup} {a0 a1 a2 a3 : Option D} (h : o.length = 5) : k_law_tables_1 [a0, a1, a2, a3, some (.lst (o.map dv)), none, none, none, none, none] S = some (.lst ((chA o).map dv), S) := by
  have hz2 : (SZ : Nat) = 100000 := rfl
  unfold chA
  rw [List.map_map]
  have h4 : (4 : Nat) ≤ SZ := by omega
  refine lc_all (S := S) (as := List.range 4) (g := fun k => .int (0 + (k : Nat))) (f := dv ∘ fun k => (([pcN o (k + 1)], pcN o k) : Att)) (chk := chkT) ?_ trivial (by simp; omega) fun k hk => ?_
  · simp [h4]
    rfl
  · have hk : k < 4 := by simpa using hk
    have q0 := fun S => o_ix (S := S) (o := o) (k := k) (by omega)
    have q1 := fun S => o_ix (S := S) (o := o) (k := k + 1) (by omega)
    have e0 : ((0 : Int) + (k : Nat)) = k := by omega
    have e1 : (((k + 1 : Nat) : Nat) : Int) = (k : Int) + 1 := by omega
    have ed : (dv (([pcN o (k + 1)], pcN o k) : Att) : D) = .tup [.tup [dv (pcN o (k + 1))], dv (pcN o k)] := rfl
    rw [e1] at q1
    refine ⟨_, rfl, rfl, ?_⟩
    rw [e0]
    show _ = some (dv (([pcN o (k + 1)], pcN o k) : Att), S)
    rw [ed]
    generalize o.map dv = L at *
    generalize (dv (pcN o k) : D) = X at *
    generalize (dv (pcN o (k + 1)) : D) = Y at *
    simp [q0, q1]
theorem pcN_mem {o : Sup} {k : Nat} (h : k < o.length) : pcN o k ∈ o := by
  rw [pcN_g h]
  exact List.getElem_mem h
theorem chain_raw {o : Sup} (h : o.length = 5) {n : Nat} : ∀ a ∈ (chA o).take n, okRaw (setP o) a := fun a ha => by
  have ha := List.mem_of_mem_take ha
  unfold chA at ha
  obtain ⟨k, hk, rfl⟩ := List.mem_map.mp ha
  have hk : k < 4 := by simpa using hk
  refine ⟨⟨[pcN o (k + 1)], (setP_one _).symm, by simp, fun p hp => ?_⟩, mem_setP.mpr (pcN_mem (by omega))⟩
  rw [List.mem_singleton.mp hp]
  exact mem_setP.mpr (pcN_mem (by omega))
/-- the board of the chain -/
def chB (o : Sup) (n : Nat) : Board := (setP o, attsOf (setP o) ((chA o).take n))
theorem chB_spec {o : Sup} (h : o.length = 5) (hr : ∀ p ∈ o, p.2.length ≤ 4) (n : Nat) : (∀ A, c_law_board_of_raw [dv (setP o), .lst (((chA o).take n).map dv)] A = some (dv (chB o n), false, A)) ∧ bT (chB o n) := by
  have hr2 : ∀ p ∈ setP o, p.2.length ≤ 4 := fun p hp => hr p (mem_setP.mp hp)
  have hl : (setP o).length ≤ 5 := by have := len_setP (ps := o); omega
  have hz : ((chA o).take n).length ≤ 4 := by rw [List.length_take]; unfold chA; simp; omega
  exact ⟨fun A => (board_W hr2 (by omega) (by omega) (chain_raw h)).1, bT_of (gB2_of (setP_nd o) hr2 (by omega) (by omega) (chain_raw h)) ⟨o, rfl⟩ (chain_raw h)⟩
end
end K93
namespace K93
open PySem L2 HS
section
variable {A E S : Sto} {b : Board} {i : Nat} {ds : List Int}
/-- boards with claims of the law -/
def okCase (x : Case) : Prop := bT x.1 ∧ okCl x.1 x.2
theorem cases_k {bs : List Board} {mo : Nat} {a1 a4 a5 : Option D} (hi : i < A.length) (hb : ∀ b ∈ bs, bT b) (hz : bs.length ≤ 100) :
    ∃ (cl : List Case) (ds' : List Int), k_law_tables_2 [some (.ref i), a1, some (.int (mo : Nat)), some (.ref A.length), a4, a5, none, none, none, none] (W A i ds [.lst (bs.map dv)]) = some (.lst ((List.range bs.length).map fun q => .ref (A.length + 1 + q)), W A i ds' (.lst (bs.map dv) :: cl.map caD)) ∧ cl.map (·.1) = bs.map (cutB mo) ∧ ∀ x ∈ cl, okCase x := by
  have hz2 : (SZ : Nat) = 100000 := rfl
  obtain ⟨ys, S', h1, cl, ds', h2, h3, h4, h5⟩ := lc_ind (it := iE (eVar 3)) (vs := [9]) (tg := HS.gN 9) (tt := tYesE) (fe := eAl (eLst (aCons (eCall c_law_cut_board 2 (aCons (eVar 9) (aCons (eVar 2) aNil))) (aCons (eCall c_law_claim 2 (aCons (eVar 0) (aCons (eBin oIx (eVar 9) (eC (.int 0))) aNil))) aNil)))) (η := [some (.ref i), a1, some (.int (mo : Nat)), some (.ref A.length), a4, a5, none, none, none, none]) (S0 := W A i ds [.lst (bs.map dv)]) (S := W A i ds [.lst (bs.map dv)]) (xs := bs.map dv) (chk := chkS (.ref A.length) (bs.map dv))
    (fun k acc S => ∃ (cl : List Case) (ds : List Int), acc = ((List.range k).map fun q => D.ref (A.length + 1 + q)) ∧ S = W A i ds (.lst (bs.map dv) :: cl.map caD) ∧ cl.map (·.1) = (bs.take k).map (cutB mo) ∧ ∀ x ∈ cl, okCase x)
    (by
      have h := w_E0 (A := A) (i := i) (ds := ds) (E := []) (x := .lst (bs.map dv))
      generalize bs.map dv = L at *
      simp) ⟨[], ds, rfl, rfl, rfl, fun x hx => (by cases hx)⟩ (fun k acc S ⟨cl, ds, _, h, _⟩ => by
        show seqOf S (.ref A.length) = _
        rw [q_so3, h, w_E0]
        rfl) (fun k acc S ⟨cl, ds, h, _⟩ => by rw [h]; simp) (by simp; omega) (fun k x acc S hx ⟨cl, ds, h1, h2, h3, h4⟩ => by
      subst h1 h2
      rw [List.getElem?_map] at hx
      obtain ⟨y, hy, rfl⟩ := Option.map_eq_some_iff.mp hx
      have hk : k < bs.length := (List.getElem?_eq_some_iff.mp hy).1
      have g := hb y (List.mem_of_getElem? hy)
      have hl : cl.length = k := by
        have := congrArg List.length h3
        simpa [Nat.min_eq_left (Nat.le_of_lt hk)] using this
      obtain ⟨c, ds', hc1, hc2, hc3⟩ := claim_W (A := A) (E := .lst (bs.map dv) :: cl.map caD) (ds := ds) (b := y) hi g.g.g
      have hcu := cut_spec (A := W A i ds (.lst (bs.map dv) :: cl.map caD)) (b := y) (m := mo)
      refine ⟨_, true, _, rfl, rfl, .inl ⟨rfl, .ref (A.length + 1 + k), W A i ds' (.lst (bs.map dv) :: cl.map caD ++ [caD (cutB mo y, c)]), ?_, cl ++ [(cutB mo y, c)], ds', ?_, ?_, ?_, ?_⟩⟩
      · have e : (dv y : D) = .tup [dv y.1, dv y.2] := rfl
        have ec : caD (cutB mo y, c) = .lst [dv (cutB mo y), dv c] := rfl
        have hlen : (cl.map caD).length = k := by rw [List.length_map]; exact hl
        have ex : oIx (dv y) (.int 0) (W A i ds (.lst (bs.map dv) :: cl.map caD)) = some (dv y.1, W A i ds (.lst (bs.map dv) :: cl.map caD)) := by rw [e]; rfl
        rw [ec]
        clear e
        generalize cl.map caD = LC at *
        generalize bs.map dv = L at *
        generalize (dv (cutB mo y) : D) = Y at *
        generalize (dv c : D) = C at *
        generalize (dv y : D) = Z at *
        generalize (dv y.1 : D) = Z1 at *
        simp [hcu, hc1, hlen, ex]
        omega
      · rw [List.range_succ, List.map_append]
        rfl
      · rw [List.map_append]
        rfl
      · rw [List.map_append, h3, List.take_add_one, hy]
        simp
      · intro x hx
        rcases List.mem_append.mp hx with z | z
        · exact h4 x z
        · rw [List.mem_singleton.mp z]
          exact ⟨cut_bT g, okCl_of (b := cutB mo y) hc2 hc3⟩)
  subst h2
  refine ⟨cl, ds', ?_, ?_, h5⟩
  · rw [h3, List.length_map] at h1
    exact h1
  · rw [h4, List.length_map, List.take_length]
theorem fz_ca {x : Case} {k n : Nat} {T : Sto} (hk : 10 ≤ k) : fzD k n T (caD x) = some (caD x) := by
  refine pl_fz (n := 9) ?_ (by omega)
  unfold caD
  have h1 := pl_up (DV.hpl x.1) (m := 8) (by decide)
  have h2 := pl_up (DV.hpl x.2) (m := 8) (by decide)
  simp [pl, h1, h2]
theorem tables_S {mn ms : Nat} (h4 : 4 ≤ mn) (h8 : mn ≤ 8) (h9 : ms ≤ 20) (h : A[i]? = some (IL ds)) : ∃ (cs : List Case) (ds' : List Int), c_law_tables [.ref i, .int (mn : Int), .int (ms : Int)] A = some (.lst (cs.map caD), false, A.set i (IL ds')) ∧ cs.length = 7 ∧ ∀ x ∈ cs, okCase x := by
  have hz2 : (SZ : Nat) = 100000 := rfl
  have hi : i < A.length := (List.getElem?_eq_some_iff.mp h).1
  obtain ⟨b1, b2, b3, d1, t1, g1, g2, g3, gne⟩ := boards_W (A := A) (E := []) (ds := ds) h4 h8 h9 hi
  obtain ⟨ps, d2, t2, pn, pl5, pr, _, _⟩ := pieces_W (A := A) (E := [.lst [dv b1, dv b2, dv b3]]) (ds := d1) (many := 5) hi (by decide)
  obtain ⟨o, d3, t3, op⟩ := shuf_W (A := A) (E := [.lst [dv b1, dv b2, dv b3]]) (ds := d2) (row := dv ps) (xs := ps) hi (.inr rfl) (by omega)
  have ol : o.length = 5 := by rw [op.length_eq]; exact pl5
  have orr : ∀ p ∈ o, p.2.length ≤ 4 := fun p hp => pr p (op.mem_iff.mp hp)
  obtain ⟨k, d4, t4, k0, k4⟩ := take_W (A := A) (E := [.lst [dv b1, dv b2, dv b3]]) (ds := d3) (m := 4) hi (by decide)
  obtain ⟨n, hn⟩ : ∃ n : Nat, (1 : Int) + k = n := ⟨(1 + k).toNat, by omega⟩
  obtain ⟨t5, g4⟩ := chB_spec ol orr n
  have t6 := fun S => set_spec (A := S) (e := .lst (o.map dv)) (ps := o) (fun p hp => Nat.le_trans (orr p hp) (by decide)) (by omega) rfl
  have t7 := fun S => chain_k (S := S) (a0 := some (.ref i)) (a1 := some (.int (mn : Int))) (a2 := some (.int (ms : Int))) (a3 := some (.ref A.length)) ol
  obtain ⟨cl, d5, t8, hcl, gcl⟩ := cases_k (A := A) (i := i) (ds := d4) (bs := [b1, b2, b3, chB o n]) (mo := ms) (a1 := some (.int (mn : Int))) (a4 := some (.lst (o.map dv))) (a5 := some (.lst ((chA o).map dv))) hi (by simp only [List.mem_cons, List.not_mem_nil, or_false]; rintro b (rfl | rfl | rfl | rfl) <;> assumption) (by simp)
  obtain ⟨x0, x1, x2, x3, rfl⟩ : ∃ x0 x1 x2 x3, cl = [x0, x1, x2, x3] := by
    have hl := congrArg List.length hcl
    simp at hl
    match cl, hl with
    | [x0, x1, x2, x3], _ => exact ⟨_, _, _, _, rfl⟩
  have hx3 : x3.1 = cutB ms (chB o n) := by
    simp at hcl
    exact hcl.2.2.2
  have h0o : pcN o 0 ∈ x3.1.1 := by rw [hx3]; exact mem_setP.mpr (pcN_mem (by omega))
  have gx3 := gcl x3 (by simp)
  obtain ⟨one, d6, hone, t9⟩ := pick_T (A := A) (i := i) (ds := d5) (row := dv b3.1) (xs := b3.1) (E := [.lst [dv b1, dv b2, dv b3, dv (chB o n)], caD x0, caD x1, caD x2, caD (x3.1, [[pcN o 0]]), .lst [.ref (A.length + 1), .ref (A.length + 1 + 1), .ref (A.length + 1 + 2), .ref (A.length + 1 + 3), caD (b3, []), caD (b3, [[]])]]) hi (.inr rfl) gne
  refine ⟨[x0, x1, x2, (x3.1, [[pcN o 0]]), (b3, []), (b3, [[]]), (b3, [[one]])], d6, ?_, rfl, ?_⟩
  · unfold c_law_tables m_law_tables
    rw [callsW h]
    show endK A (sSeq _ _ [some (.ref i), some (.int (mn : Int)), some (.int (ms : Int)), none, none, none, none, none, none, none] (W A i ds [])) = _
    have s1 : sSet 3 (eAl (eCallO c_law_boards 3 (aCons (eVar 0) (aCons (eVar 1) (aCons (eVar 2) aNil))))) [some (.ref i), some (.int (mn : Int)), some (.int (ms : Int)), none, none, none, none, none, none, none] (W A i ds []) = some (.nx, [some (.ref i), some (.int (mn : Int)), some (.int (ms : Int)), some (.ref A.length), none, none, none, none, none, none], W A i d1 [.lst [dv b1, dv b2, dv b3]]) := by
      generalize (dv b1 : D) = B1 at *
      generalize (dv b2 : D) = B2 at *
      generalize (dv b3 : D) = B3 at *
      simp [t1]
    rw [q_seq, s1, seqK_n]
    have s2 : sSet 4 (eCall c_law_shuffled 2 (aCons (eVar 0) (aCons (eCall c_law_pieces 2 (aCons (eVar 0) (aCons (eC (.int 5)) aNil))) aNil))) [some (.ref i), some (.int (mn : Int)), some (.int (ms : Int)), some (.ref A.length), none, none, none, none, none, none] (W A i d1 [.lst [dv b1, dv b2, dv b3]]) = some (.nx, [some (.ref i), some (.int (mn : Int)), some (.int (ms : Int)), some (.ref A.length), some (.lst (o.map dv)), none, none, none, none, none], W A i d3 [.lst [dv b1, dv b2, dv b3]]) := by
      have t2 : c_law_pieces [.ref i, .int 5] (W A i d1 [.lst [dv b1, dv b2, dv b3]]) = _ := t2
      generalize o.map dv = OL at *
      generalize (dv ps : D) = PS at *
      generalize (dv b1 : D) = B1 at *
      generalize (dv b2 : D) = B2 at *
      generalize (dv b3 : D) = B3 at *
      simp [t2, t3]
    rw [q_seq, s2, seqK_n]
    have s3 : sSet 5 k_law_tables_1 [some (.ref i), some (.int (mn : Int)), some (.int (ms : Int)), some (.ref A.length), some (.lst (o.map dv)), none, none, none, none, none] (W A i d3 [.lst [dv b1, dv b2, dv b3]]) = some (.nx, [some (.ref i), some (.int (mn : Int)), some (.int (ms : Int)), some (.ref A.length), some (.lst (o.map dv)), some (.lst ((chA o).map dv)), none, none, none, none], W A i d3 [.lst [dv b1, dv b2, dv b3]]) := by
      rw [q_set, t7]
      rfl
    rw [q_seq, s3, seqK_n]
    have s4 : sExp (eM "list" mAppend (eVar 3) (aCons (eCall c_law_board_of_raw 2 (aCons (eCall c_law_set 1 (aCons (eVar 4) aNil)) (aCons (eSl slD (eVar 5) oNo (oSo (eBin oAdd (eC (.int 1)) (eCall c_law_take 2 (aCons (eVar 0) (aCons (eC (.int 4)) aNil)))))) aNil))) aNil)) [some (.ref i), some (.int (mn : Int)), some (.int (ms : Int)), some (.ref A.length), some (.lst (o.map dv)), some (.lst ((chA o).map dv)), none, none, none, none] (W A i d3 [.lst [dv b1, dv b2, dv b3]]) = some (.nx, [some (.ref i), some (.int (mn : Int)), some (.int (ms : Int)), some (.ref A.length), some (.lst (o.map dv)), some (.lst ((chA o).map dv)), none, none, none, none], W A i d4 [.lst [dv b1, dv b2, dv b3, dv (chB o n)]]) := by
      have hsl := fun S => slD_take (S := S) (xs := (chA o).map dv) (n := n)
      rw [← List.map_take] at hsl
      generalize (((chA o).take n).map dv) = TL at *
      generalize (chA o).map dv = CL at *
      generalize o.map dv = OL at *
      generalize (dv (setP o) : D) = SP at *
      generalize (dv (chB o n) : D) = B4 at *
      generalize (dv b1 : D) = B1 at *
      generalize (dv b2 : D) = B2 at *
      generalize (dv b3 : D) = B3 at *
      simp [t4, t5, t6, hsl, hn]
      rw [appK_ (by simp; omega)]
      simp
    rw [q_seq, s4, seqK_n]
    have s5 : sSet 6 (eAl k_law_tables_2) [some (.ref i), some (.int (mn : Int)), some (.int (ms : Int)), some (.ref A.length), some (.lst (o.map dv)), some (.lst ((chA o).map dv)), none, none, none, none] (W A i d4 [.lst [dv b1, dv b2, dv b3, dv (chB o n)]]) = some (.nx, [some (.ref i), some (.int (mn : Int)), some (.int (ms : Int)), some (.ref A.length), some (.lst (o.map dv)), some (.lst ((chA o).map dv)), some (.ref (A.length + 5)), none, none, none], W A i d5 [.lst [dv b1, dv b2, dv b3, dv (chB o n)], caD x0, caD x1, caD x2, caD x3, .lst [.ref (A.length + 1), .ref (A.length + 1 + 1), .ref (A.length + 1 + 2), .ref (A.length + 1 + 3)]]) := by
      have t8 : k_law_tables_2 [some (.ref i), some (.int (mn : Int)), some (.int (ms : Int)), some (.ref A.length), some (.lst (o.map dv)), some (.lst ((chA o).map dv)), none, none, none, none] (W A i d4 [.lst [dv b1, dv b2, dv b3, dv (chB o n)]]) = some (.lst [.ref (A.length + 1), .ref (A.length + 1 + 1), .ref (A.length + 1 + 2), .ref (A.length + 1 + 3)], W A i d5 [.lst [dv b1, dv b2, dv b3, dv (chB o n)], caD x0, caD x1, caD x2, caD x3]) := t8
      rw [q_set, q_al, t8]
      generalize (chA o).map dv = CL at *
      generalize o.map dv = OL at *
      generalize (dv (chB o n) : D) = B4 at *
      generalize (dv b1 : D) = B1 at *
      generalize (dv b2 : D) = B2 at *
      generalize (dv b3 : D) = B3 at *
      generalize caD x0 = X0 at *
      generalize caD x1 = X1 at *
      generalize caD x2 = X2 at *
      generalize caD x3 = X3 at *
      simp
    rw [q_seq, s5, seqK_n]
    have s6 : sSetI (eBin oIx (eVar 6) (eC (.int 3))) (eC (.int 1)) (eTup (aCons (eTup (aCons (eBin oIx (eVar 4) (eC (.int 0))) aNil)) aNil)) [some (.ref i), some (.int (mn : Int)), some (.int (ms : Int)), some (.ref A.length), some (.lst (o.map dv)), some (.lst ((chA o).map dv)), some (.ref (A.length + 5)), none, none, none] (W A i d5 [.lst [dv b1, dv b2, dv b3, dv (chB o n)], caD x0, caD x1, caD x2, caD x3, .lst [.ref (A.length + 1), .ref (A.length + 1 + 1), .ref (A.length + 1 + 2), .ref (A.length + 1 + 3)]]) = some (.nx, [some (.ref i), some (.int (mn : Int)), some (.int (ms : Int)), some (.ref A.length), some (.lst (o.map dv)), some (.lst ((chA o).map dv)), some (.ref (A.length + 5)), none, none, none], W A i d5 [.lst [dv b1, dv b2, dv b3, dv (chB o n)], caD x0, caD x1, caD x2, caD (x3.1, [[pcN o 0]]), .lst [.ref (A.length + 1), .ref (A.length + 1 + 1), .ref (A.length + 1 + 2), .ref (A.length + 1 + 3)]]) := by
      have q0 := fun S => o_ix (S := S) (o := o) (k := 0) (by omega)
      rw [show ((0 : Nat) : Int) = 0 from rfl] at q0
      have e3 : caD x3 = .lst [dv x3.1, dv x3.2] := rfl
      have e4 : caD (x3.1, [[pcN o 0]]) = .lst [dv x3.1, .tup [.tup [dv (pcN o 0)]]] := rfl
      rw [e3, e4]
      generalize (dv (pcN o 0) : D) = P0 at *
      generalize (chA o).map dv = CL at *
      generalize o.map dv = OL at *
      generalize (dv (chB o n) : D) = B4 at *
      generalize (dv b1 : D) = B1 at *
      generalize (dv b2 : D) = B2 at *
      generalize (dv b3 : D) = B3 at *
      generalize caD x0 = X0 at *
      generalize caD x1 = X1 at *
      generalize caD x2 = X2 at *
      generalize (dv x3.1 : D) = Y1 at *
      generalize (dv x3.2 : D) = Y2 at *
      have h5 : (W A i d5 [.lst [B1, B2, B3, B4], X0, X1, X2, .lst [Y1, Y2], .lst [.ref (A.length + 1), .ref (A.length + 1 + 1), .ref (A.length + 1 + 2), .ref (A.length + 1 + 3)]])[A.length + 5]? = some (.lst [.ref (A.length + 1), .ref (A.length + 1 + 1), .ref (A.length + 1 + 2), .ref (A.length + 1 + 3)]) := W_E (j := 5)
      have h6 : (W A i d5 [.lst [B1, B2, B3, B4], X0, X1, X2, .lst [Y1, Y2], .lst [.ref (A.length + 1), .ref (A.length + 1 + 1), .ref (A.length + 1 + 2), .ref (A.length + 1 + 3)]])[A.length + 1 + 3]? = some (.lst [Y1, Y2]) := W_E (j := 4)
      have h7 : (W A i d5 [.lst [B1, B2, B3, B4], X0, X1, X2, .lst [Y1, Y2], .lst [.ref (A.length + 1), .ref (A.length + 1 + 1), .ref (A.length + 1 + 2), .ref (A.length + 1 + 3)]]).set (A.length + 1 + 3) (.lst [Y1, .tup [.tup [P0]]]) = W A i d5 [.lst [B1, B2, B3, B4], X0, X1, X2, .lst [Y1, .tup [.tup [P0]]], .lst [.ref (A.length + 1), .ref (A.length + 1 + 1), .ref (A.length + 1 + 2), .ref (A.length + 1 + 3)]] := W_sE (j := 4)
      have ea : atI [D.ref (A.length + 1), .ref (A.length + 1 + 1), .ref (A.length + 1 + 2), .ref (A.length + 1 + 3)] 3 = some (.ref (A.length + 1 + 3)) := atIn (k := 3) rfl
      have en : ixN 2 1 = some 1 := rfl
      generalize (A.length + 1 + 3) = w4 at *
      generalize (W A i d5 [.lst [B1, B2, B3, B4], X0, X1, X2, .lst [Y1, Y2], .lst [.ref (A.length + 1), .ref (A.length + 1 + 1), .ref (A.length + 1 + 2), .ref w4]]) = T at *
      simp [q0, h5, ea, h6, en, h7]
    rw [q_seq, s6, seqK_n]
    have eb : ∀ cl : List Sup, caD (b3, cl) = .lst [dv b3, dv cl] := fun cl => rfl
    have e7 : (dv ([] : List Sup) : D) = .tup [] := rfl
    have e8 : (dv ([[]] : List Sup) : D) = .tup [.tup []] := rfl
    have e9 : (dv ([[one]] : List Sup) : D) = .tup [.tup [dv one]] := rfl
    have hb30 : ∀ S, oIx (dv b3) (.int 0) S = some (dv b3.1, S) := fun S => by
      have e : (dv b3 : D) = .tup [dv b3.1, dv b3.2] := rfl
      rw [e]
      rfl
    -- the last steps
    have s7 : ∀ (ds : List Int) (R : List D) (f : Ev) (y : D) (o7 : Option D), R.length < 100 → (∀ S η, η[3]? = some (some (.ref A.length)) → η[7]? = some o7 → S[A.length]? = some (.lst [dv b1, dv b2, dv b3, dv (chB o n)]) → f η S = some (y, S)) → sExp (eM "list" mAppend (eVar 6) (aCons (eLst (aCons (eBin oIx (eVar 3) (eC (.int 2))) (aCons f aNil))) aNil)) [some (.ref i), some (.int (mn : Int)), some (.int (ms : Int)), some (.ref A.length), some (.lst (o.map dv)), some (.lst ((chA o).map dv)), some (.ref (A.length + 5)), o7, none, none] (W A i ds [.lst [dv b1, dv b2, dv b3, dv (chB o n)], caD x0, caD x1, caD x2, caD (x3.1, [[pcN o 0]]), .lst R]) = some (.nx, [some (.ref i), some (.int (mn : Int)), some (.int (ms : Int)), some (.ref A.length), some (.lst (o.map dv)), some (.lst ((chA o).map dv)), some (.ref (A.length + 5)), o7, none, none], W A i ds [.lst [dv b1, dv b2, dv b3, dv (chB o n)], caD x0, caD x1, caD x2, caD (x3.1, [[pcN o 0]]), .lst (R ++ [.lst [dv b3, y]])]) := fun ds R f y o7 hR hf => by
      generalize caD (x3.1, [[pcN o 0]]) = X3 at *
      generalize (chA o).map dv = CL at *
      generalize o.map dv = OL at *
      generalize (dv (chB o n) : D) = B4 at *
      generalize (dv b1 : D) = B1 at *
      generalize (dv b2 : D) = B2 at *
      generalize (dv b3 : D) = B3 at *
      generalize caD x0 = X0 at *
      generalize caD x1 = X1 at *
      generalize caD x2 = X2 at *
      have h5 : (W A i ds [.lst [B1, B2, B3, B4], X0, X1, X2, X3, .lst R])[A.length + 5]? = some (.lst R) := W_E (j := 5)
      have h6 : (W A i ds [.lst [B1, B2, B3, B4], X0, X1, X2, X3, .lst R])[A.length]? = some (.lst [B1, B2, B3, B4]) := W_E (j := 0)
      have h7 : ∀ Z, (W A i ds [.lst [B1, B2, B3, B4], X0, X1, X2, X3, .lst R]).set (A.length + 5) Z = W A i ds [.lst [B1, B2, B3, B4], X0, X1, X2, X3, Z] := fun Z => W_sE (j := 5)
      have hf2 := hf (W A i ds [.lst [B1, B2, B3, B4], X0, X1, X2, X3, .lst R]) [some (.ref i), some (.int (mn : Int)), some (.int (ms : Int)), some (.ref A.length), some (.lst OL), some (.lst CL), some (.ref (A.length + 5)), o7, none, none] rfl rfl h6
      have hR2 : R.length < SZ := by omega
      generalize (W A i ds [.lst [B1, B2, B3, B4], X0, X1, X2, X3, .lst R]) = T at *
      simp [h5, h6, hf2, hR2, h7]
    rw [q_seq, s7 d5 _ (eTup aNil) (.tup []) none (by simp) (fun S η _ _ _ => rfl), seqK_n]
    rw [q_seq, s7 d5 _ (eTup (aCons (eTup aNil) aNil)) (.tup [.tup []]) none (by simp) (fun S η _ _ _ => rfl), seqK_n]
    have s9 : ∀ R, (W A i d5 [.lst [dv b1, dv b2, dv b3, dv (chB o n)], caD x0, caD x1, caD x2, caD (x3.1, [[pcN o 0]]), .lst R]) = (W A i d5 [.lst [dv b1, dv b2, dv b3, dv (chB o n)], caD x0, caD x1, caD x2, caD (x3.1, [[pcN o 0]]), .lst [.ref (A.length + 1), .ref (A.length + 1 + 1), .ref (A.length + 1 + 2), .ref (A.length + 1 + 3), caD (b3, []), caD (b3, [[]])]]) → sSet 7 (eCall c_law_pick 2 (aCons (eVar 0) (aCons (eBin oIx (eBin oIx (eVar 3) (eC (.int 2))) (eC (.int 0))) aNil))) [some (.ref i), some (.int (mn : Int)), some (.int (ms : Int)), some (.ref A.length), some (.lst (o.map dv)), some (.lst ((chA o).map dv)), some (.ref (A.length + 5)), none, none, none] (W A i d5 [.lst [dv b1, dv b2, dv b3, dv (chB o n)], caD x0, caD x1, caD x2, caD (x3.1, [[pcN o 0]]), .lst R]) = some (.nx, [some (.ref i), some (.int (mn : Int)), some (.int (ms : Int)), some (.ref A.length), some (.lst (o.map dv)), some (.lst ((chA o).map dv)), some (.ref (A.length + 5)), some (dv one), none, none], W A i d6 [.lst [dv b1, dv b2, dv b3, dv (chB o n)], caD x0, caD x1, caD x2, caD (x3.1, [[pcN o 0]]), .lst [.ref (A.length + 1), .ref (A.length + 1 + 1), .ref (A.length + 1 + 2), .ref (A.length + 1 + 3), caD (b3, []), caD (b3, [[]])]]) := fun R hR => by
      rw [hR]
      generalize caD (x3.1, [[pcN o 0]]) = X3 at *
      generalize (chA o).map dv = CL at *
      generalize o.map dv = OL at *
      generalize (dv (chB o n) : D) = B4 at *
      generalize (dv b1 : D) = B1 at *
      generalize (dv b2 : D) = B2 at *
      generalize caD (b3, []) = X4 at *
      generalize caD (b3, [[]]) = X5 at *
      generalize (dv b3 : D) = B3 at *
      generalize (dv b3.1 : D) = B31 at *
      generalize (dv one : D) = ON at *
      generalize caD x0 = X0 at *
      generalize caD x1 = X1 at *
      generalize caD x2 = X2 at *
      simp [t9, hb30]
    have s9' := s9 (([D.ref (A.length + 1), D.ref (A.length + 1 + 1), D.ref (A.length + 1 + 2), D.ref (A.length + 1 + 3)] : List D) ++ [D.lst [dv b3, D.tup []]] ++ [D.lst [dv b3, D.tup [D.tup []]]]) rfl
    rw [q_seq, s9', seqK_n]
    rw [q_seq, s7 d6 _ (eTup (aCons (eTup (aCons (eVar 7) aNil)) aNil)) (.tup [.tup [dv one]]) (some (dv one)) (by simp) (fun S η _ h7 _ => by simp [h7]), seqK_n]
    have r : sRet (eVar 6) [some (.ref i), some (.int (mn : Int)), some (.int (ms : Int)), some (.ref A.length), some (.lst (o.map dv)), some (.lst ((chA o).map dv)), some (.ref (A.length + 5)), some (dv one), none, none] (W A i d6 [.lst [dv b1, dv b2, dv b3, dv (chB o n)], caD x0, caD x1, caD x2, caD (x3.1, [[pcN o 0]]), .lst ([.ref (A.length + 1), .ref (A.length + 1 + 1), .ref (A.length + 1 + 2), .ref (A.length + 1 + 3), caD (b3, []), caD (b3, [[]])] ++ [.lst [dv b3, .tup [.tup [dv one]]]])]) = some (.ret (.ref (A.length + 5)), [some (.ref i), some (.int (mn : Int)), some (.int (ms : Int)), some (.ref A.length), some (.lst (o.map dv)), some (.lst ((chA o).map dv)), some (.ref (A.length + 5)), some (dv one), none, none], W A i d6 [.lst [dv b1, dv b2, dv b3, dv (chB o n)], caD x0, caD x1, caD x2, caD (x3.1, [[pcN o 0]]), .lst [.ref (A.length + 1), .ref (A.length + 1 + 1), .ref (A.length + 1 + 2), .ref (A.length + 1 + 3), caD (b3, []), caD (b3, [[]]), caD (b3, [[one]])]]) := rfl
    rw [r, endK_r]
    -- the end
    obtain ⟨E9, hE9⟩ : ∃ E9, E9 = [.lst [dv b1, dv b2, dv b3, dv (chB o n)], caD x0, caD x1, caD x2, caD (x3.1, [[pcN o 0]]), .lst [.ref (A.length + 1), .ref (A.length + 1 + 1), .ref (A.length + 1 + 2), .ref (A.length + 1 + 3), caD (b3, []), caD (b3, [[]]), caD (b3, [[one]])]] := ⟨_, rfl⟩
    rw [← hE9]
    have hg5 : (W A i d6 E9)[A.length + 5]? = some (.lst [.ref (A.length + 1), .ref (A.length + 1 + 1), .ref (A.length + 1 + 2), .ref (A.length + 1 + 3), caD (b3, []), caD (b3, [[]]), caD (b3, [[one]])]) := by rw [W_E, hE9]; rfl
    have g1' : (W A i d6 E9)[A.length + 1]? = some (caD x0) := by rw [W_E, hE9]; rfl
    have g2' : (W A i d6 E9)[A.length + 1 + 1]? = some (caD x1) := by rw [Nat.add_assoc, W_E, hE9]; rfl
    have g3' : (W A i d6 E9)[A.length + 1 + 2]? = some (caD x2) := by rw [Nat.add_assoc, W_E, hE9]; rfl
    have g4' : (W A i d6 E9)[A.length + 1 + 3]? = some (caD (x3.1, [[pcN o 0]])) := by rw [Nat.add_assoc, W_E, hE9]; rfl
    have hfz : fzD FZ A.length (W A i d6 E9) (.ref (A.length + 5)) = some (.lst ([x0, x1, x2, (x3.1, [[pcN o 0]]), (b3, []), (b3, [[]]), (b3, [[one]])].map caD)) := by
      show fzD (39 + 1) A.length (W A i d6 E9) (.ref (A.length + 5)) = _
      rw [fzD, if_neg (by omega), hg5, Option.bind_some]
      show fzD (38 + 1) A.length (W A i d6 E9) _ = _
      rw [fzD]
      have fr : ∀ {q : Nat} {x : Case}, A.length ≤ q → (W A i d6 E9)[q]? = some (caD x) → fzD 38 A.length (W A i d6 E9) (.ref q) = some (caD x) := fun {q x} hq hx => by
        show fzD (37 + 1) A.length (W A i d6 E9) (.ref q) = _
        rw [fzD, if_neg (by omega), hx, Option.bind_some]
        exact fz_ca (by decide)
      simp only [List.mapM_cons, List.mapM_nil, fr (by omega) g1', fr (by omega) g2', fr (by omega) g3', fr (by omega) g4', fz_ca (show 10 ≤ 38 by decide)]
      rfl
    have hlen : ¬ (W A i d6 E9).length = A.length := by rw [W_len, hE9]; simp
    have hok : okEnd A.length A (W A i d6 E9) := fun q hq => by
      by_cases hqi : q = i
      · subst hqi
        exact .inr ⟨IL d6, W_i hq, pl_clo (n := 1) (by simp [IL, pl])⟩
      · exact .inl (W_A hq hqi)
    have ht : (W A i d6 E9).take A.length = A.set i (IL d6) := by
      unfold HS.W
      rw [List.take_append_of_le_length (by simp)]
      rw [List.take_of_length_le (by simp)]
    have hclo : ¬ cloO A.length (.lst [.ref (A.length + 1), .ref (A.length + 1 + 1), .ref (A.length + 1 + 2), .ref (A.length + 1 + 3), caD (b3, []), caD (b3, [[]]), caD (b3, [[one]])]) = true := by
      unfold cloO
      rw [clo, cloL, clo]
      simp
      intro z
      exact absurd z (by omega)
    unfold endF
    rw [if_neg hlen, if_pos hok]
    simp only [ht]
    rw [if_neg (by omega), hg5, Option.bind_some, if_neg hclo, hfz]
    rfl
  · have gx : ∀ x ∈ [x0, x1, x2, x3], okCase x := gcl
    intro x hx
    simp only [List.mem_cons, List.not_mem_nil, or_false] at hx
    rcases hx with rfl | rfl | rfl | rfl | rfl | rfl | rfl
    · exact gx _ (by simp)
    · exact gx _ (by simp)
    · exact gx _ (by simp)
    · exact ⟨gx3.1, okCl_one h0o⟩
    · exact ⟨g3, okCl_nil⟩
    · exact ⟨g3, okCl_emp⟩
    · exact ⟨g3, okCl_one hone⟩
end
end K93
namespace K93
open PySem L2 HS
theorem are_ok {ds : List Int} {cs : List Case} (hc : ∀ x ∈ cs, okCase x) (hn : cs.length ≤ 100) : ∃ ds', c_law_are_right [.ref 0, .lst (cs.map caD)] [IL ds] = some (.bl true, false, [IL ds']) := by
  obtain ⟨ds', h⟩ := are_right_spec (A := [IL ds]) (d := 0) (ds := ds) (cs := cs) rfl (fun x hx => bcT_of (hc x hx).1 (hc x hx).2) hn
  exact ⟨ds', h⟩
theorem law_true (ns : List Int) (hn : ns.length ≤ 63) : ∃ S', c_law [.scr (ns.map D.int)] [] = some (.bl true, false, S') := by
  have hz2 : (SZ : Nat) = 100000 := rfl
  obtain ⟨d0, h0⟩ := draws_spec (A := ([] : Sto)) (ns := ns) (many := 1200) (x := .scr (ns.map D.int)) (fun _ => rfl) hn (by omega)
  replace h0 : c_law_draws [.scr (ns.map D.int), .int 1200] [] = some (IL d0, true, []) := h0
  obtain ⟨cs, d1, h1, hl, hc⟩ := tables_S (A := [IL d0]) (i := 0) (ds := d0) (mn := 6) (ms := 10) (by omega) (by omega) (by omega) rfl
  replace h1 : c_law_tables [.ref 0, .int 6, .int 10] [IL d0] = some (.lst (cs.map caD), false, [IL d1]) := h1
  obtain ⟨c0, c1, c2, c3, c4, c5, c6, rfl⟩ : ∃ c0 c1 c2 c3 c4 c5 c6, cs = [c0, c1, c2, c3, c4, c5, c6] := by
    match cs, hl with
    | [c0, c1, c2, c3, c4, c5, c6], _ => exact ⟨_, _, _, _, _, _, _, rfl⟩
  obtain ⟨XS, hXS⟩ : ∃ XS : List (List Case), XS = [[c0, c3], [c1, c2], [c4, c5, c6]] := ⟨_, rfl⟩
  have hXg : ∀ x ∈ XS, (∀ y ∈ x, okCase y) ∧ x.length ≤ 100 := fun x hx => by
    rw [hXS] at hx
    simp only [List.mem_cons, List.not_mem_nil, or_false] at hx
    rcases hx with rfl | rfl | rfl
    · refine ⟨fun y hy => hc y ?_, by simp⟩
      simp only [List.mem_cons, List.not_mem_nil, or_false] at hy ⊢
      rcases hy with rfl | rfl <;> simp
    · refine ⟨fun y hy => hc y ?_, by simp⟩
      simp only [List.mem_cons, List.not_mem_nil, or_false] at hy ⊢
      rcases hy with rfl | rfl <;> simp
    · refine ⟨fun y hy => hc y ?_, by simp⟩
      simp only [List.mem_cons, List.not_mem_nil, or_false] at hy ⊢
      rcases hy with rfl | rfl | rfl <;> simp
  obtain ⟨T, hT⟩ : ∃ T : D, T = .lst ([c0, c1, c2, c3, c4, c5, c6].map caD) := ⟨_, rfl⟩
  rw [← hT] at h1
  have tx : ∀ (k : Nat) (x : Case) S, [c0, c1, c2, c3, c4, c5, c6][k]? = some x → oIx T (.int (k : Nat)) S = some (caD x, S) := fun k x S h => by
    rw [hT]
    exact c_ix h
  have t0 := fun S => tx 0 c0 S rfl
  have t1 := fun S => tx 1 c1 S rfl
  have t2 := fun S => tx 2 c2 S rfl
  have t3 := fun S => tx 3 c3 S rfl
  have t4 := fun S => tx 4 c4 S rfl
  have t5 := fun S => tx 5 c5 S rfl
  have t6 := fun S => tx 6 c6 S rfl
  obtain ⟨η', S', h2, ds', a3, rfl, rfl⟩ := for_ind (it := iE (eLst (aCons (eLst (aCons (eBin oIx (eVar 2) (eC (.int 0))) (aCons (eBin oIx (eVar 2) (eC (.int 3))) aNil))) (aCons (eLst (aCons (eBin oIx (eVar 2) (eC (.int 1))) (aCons (eBin oIx (eVar 2) (eC (.int 2))) aNil))) (aCons (eLst (aCons (eBin oIx (eVar 2) (eC (.int 4))) (aCons (eBin oIx (eVar 2) (eC (.int 5))) (aCons (eBin oIx (eVar 2) (eC (.int 6))) aNil)))) aNil))))) (tg := HS.gN 3) (body := b_law_1) (η := [some (.scr (ns.map D.int)), some (.ref 0), some T, none]) (S := [IL d1]) (S0 := [IL d1]) (xs := XS.map fun x : List Case => D.lst (x.map caD)) (chk := chkS (.lst (XS.map fun x : List Case => D.lst (x.map caD))) (XS.map fun x : List Case => D.lst (x.map caD)))
    (fun k η S => ∃ (ds' : List Int) (a3 : Option D), η = [some (.scr (ns.map D.int)), some (.ref 0), some T, a3] ∧ S = [IL ds'])
    (by
      have eX : (XS.map fun x : List Case => D.lst (x.map caD)) = [.lst [caD c0, caD c3], .lst [caD c1, caD c2], .lst [caD c4, caD c5, caD c6]] := by rw [hXS]; rfl
      rw [eX]
      have t0 : ∀ S, oIx T (.int 0) S = some (caD c0, S) := t0
      have t1 : ∀ S, oIx T (.int 1) S = some (caD c1, S) := t1
      have t2 : ∀ S, oIx T (.int 2) S = some (caD c2, S) := t2
      have t3 : ∀ S, oIx T (.int 3) S = some (caD c3, S) := t3
      have t4 : ∀ S, oIx T (.int 4) S = some (caD c4, S) := t4
      have t5 : ∀ S, oIx T (.int 5) S = some (caD c5, S) := t5
      have t6 : ∀ S, oIx T (.int 6) S = some (caD c6, S) := t6
      clear hT tx
      generalize caD c0 = x0 at *
      generalize caD c1 = x1 at *
      generalize caD c2 = x2 at *
      generalize caD c3 = x3 at *
      generalize caD c4 = x4 at *
      generalize caD c5 = x5 at *
      generalize caD c6 = x6 at *
      generalize IL d1 = L
      simp [t0, t1, t2, t3, t4, t5, t6]) ⟨d1, none, rfl, rfl⟩ (fun _ _ _ _ _ => rfl) (fun k x η S hx ⟨ds', a3, e1, e2⟩ => by
      subst e1 e2
      rw [List.getElem?_map] at hx
      obtain ⟨y, hy, rfl⟩ := Option.map_eq_some_iff.mp hx
      obtain ⟨g1, g2⟩ := hXg y (List.mem_of_getElem? hy)
      obtain ⟨ds2, h3⟩ := are_ok (ds := ds') g1 g2
      refine ⟨_, [some (.scr (ns.map D.int)), some (.ref 0), some T, some (.lst (y.map caD))], _, rfl, .inl ?_, ds2, _, rfl, rfl⟩
      unfold b_law_1
      generalize y.map caD = Y at *
      generalize IL ds' = L at *
      generalize IL ds2 = L2 at *
      generalize ns.map D.int = N
      simp [h3])
  have h2 : l_law_1 [some (.scr (ns.map D.int)), some (.ref 0), some T, none] [IL d1] = _ := h2
  have hend : endF [] [IL ds'] (.bl true) = some (.bl true, false, []) := by
    have := end_V (A := ([] : Sto)) (E := [IL ds']) (d := .bl true) (n := 0) rfl (by decide)
    exact this
  refine ⟨[], ?_⟩
  unfold c_law m_law
  rw [q_calls]
  generalize IL ds' = L3 at *
  generalize IL d0 = L1 at *
  generalize IL d1 = L2 at *
  generalize ns.map D.int = N at *
  have s0 : sSet 1 (eAl (eCallO c_law_draws 2 (aCons (eVar 0) (aCons (eC (.int 1200)) aNil)))) [some (.scr N), none, none, none] [] = some (.nx, [some (.scr N), some (.ref 0), none, none], [L1]) := by
    simp [h0]
  show endK [] (sSeq _ _ [some (.scr N), none, none, none] []) = _
  rw [q_seq, s0, seqK_n]
  simp [h1, h2, hend]
end K93
set_option maxHeartbeats 0
namespace K93
open PySem PySem.Spec PyProof.Rows L2 HS
def dd_law_draws : He.DefD := ⟨("_law_draws", none), "_law_draws", "_law_draws", defArgs s_law_draws, defBody s_law_draws, defScope s_law_draws, [], []⟩
def dd_law_take : He.DefD := ⟨("_law_take", none), "_law_take", "_law_take", defArgs s_law_take, defBody s_law_take, defScope s_law_take, [], []⟩
def dd_law_pick : He.DefD := ⟨("_law_pick", none), "_law_pick", "_law_pick", defArgs s_law_pick, defBody s_law_pick, defScope s_law_pick, [], []⟩
def dd_law_value_key : He.DefD := ⟨("_law_value_key", none), "_law_value_key", "_law_value_key", defArgs s_law_value_key, defBody s_law_value_key, defScope s_law_value_key, [], []⟩
def dd_law_row_key : He.DefD := ⟨("_law_row_key", none), "_law_row_key", "_law_row_key", defArgs s_law_row_key, defBody s_law_row_key, defScope s_law_row_key, [], []⟩
def dd_law_statement_key : He.DefD := ⟨("_law_statement_key", none), "_law_statement_key", "_law_statement_key", defArgs s_law_statement_key, defBody s_law_statement_key, defScope s_law_statement_key, [], []⟩
def dd_law_set : He.DefD := ⟨("_law_set", none), "_law_set", "_law_set", defArgs s_law_set, defBody s_law_set, defScope s_law_set, [], []⟩
def dd_law_words : He.DefD := ⟨("_law_words", none), "_law_words", "_law_words", defArgs s_law_words, defBody s_law_words, defScope s_law_words, [], []⟩
def dd_law_value : He.DefD := ⟨("_law_value", none), "_law_value", "_law_value", defArgs s_law_value, defBody s_law_value, defScope s_law_value, [], []⟩
def dd_law_pieces : He.DefD := ⟨("_law_pieces", none), "_law_pieces", "_law_pieces", defArgs s_law_pieces, defBody s_law_pieces, defScope s_law_pieces, [], []⟩
def dd_law_shuffled : He.DefD := ⟨("_law_shuffled", none), "_law_shuffled", "_law_shuffled", defArgs s_law_shuffled, defBody s_law_shuffled, defScope s_law_shuffled, [], []⟩
def dd_law_set_key : He.DefD := ⟨("_law_set_key", none), "_law_set_key", "_law_set_key", defArgs s_law_set_key, defBody s_law_set_key, defScope s_law_set_key, [], []⟩
def dd_law_within : He.DefD := ⟨("_law_within", none), "_law_within", "_law_within", defArgs s_law_within, defBody s_law_within, defScope s_law_within, [], []⟩
def dd_law_thinned : He.DefD := ⟨("_law_thinned", none), "_law_thinned", "_law_thinned", defArgs s_law_thinned, defBody s_law_thinned, defScope s_law_thinned, [], []⟩
def dd_law_board_of_raw : He.DefD := ⟨("_law_board_of_raw", none), "_law_board_of_raw", "_law_board_of_raw", defArgs s_law_board_of_raw, defBody s_law_board_of_raw, defScope s_law_board_of_raw, [], []⟩
def dd_law_support : He.DefD := ⟨("_law_support", none), "_law_support", "_law_support", defArgs s_law_support, defBody s_law_support, defScope s_law_support, [], []⟩
def dd_law_raw : He.DefD := ⟨("_law_raw", none), "_law_raw", "_law_raw", defArgs s_law_raw, defBody s_law_raw, defScope s_law_raw, [], []⟩
def dd_law_shape : He.DefD := ⟨("_law_shape", none), "_law_shape", "_law_shape", defArgs s_law_shape, defBody s_law_shape, defScope s_law_shape, [], []⟩
def dd_law_sure_board : He.DefD := ⟨("_law_sure_board", none), "_law_sure_board", "_law_sure_board", defArgs s_law_sure_board, defBody s_law_sure_board, defScope s_law_sure_board, [], []⟩
def dd_law_boards : He.DefD := ⟨("_law_boards", none), "_law_boards", "_law_boards", defArgs s_law_boards, defBody s_law_boards, defScope s_law_boards, [], []⟩
def dd_law_claim : He.DefD := ⟨("_law_claim", none), "_law_claim", "_law_claim", defArgs s_law_claim, defBody s_law_claim, defScope s_law_claim, [], []⟩
def dd_law_cut_board : He.DefD := ⟨("_law_cut_board", none), "_law_cut_board", "_law_cut_board", defArgs s_law_cut_board, defBody s_law_cut_board, defScope s_law_cut_board, [], []⟩
def dd_law_tables : He.DefD := ⟨("_law_tables", none), "_law_tables", "_law_tables", defArgs s_law_tables, defBody s_law_tables, defScope s_law_tables, [], []⟩
def dd_law_same : He.DefD := ⟨("_law_same", none), "_law_same", "_law_same", defArgs s_law_same, defBody s_law_same, defScope s_law_same, [], []⟩
def dd_law_play : He.DefD := ⟨("_law_play", none), "_law_play", "_law_play", defArgs s_law_play, defBody s_law_play, defScope s_law_play, [], []⟩
def dd_law_side : He.DefD := ⟨("_law_side", none), "_law_side", "_law_side", defArgs s_law_side, defBody s_law_side, defScope s_law_side, [], []⟩
def dd_law_moves : He.DefD := ⟨("_law_moves", none), "_law_moves", "_law_moves", defArgs s_law_moves, defBody s_law_moves, defScope s_law_moves, [], []⟩
def dd_side_at : He.DefD := ⟨("side_at", none), "side_at", "side_at", defArgs s_side_at, defBody s_side_at, defScope s_side_at, [], []⟩
def dd_Table_side : He.DefD := ⟨("Table", some "side"), "side", "Table.side", defArgs s_Table_side, defBody s_Table_side, defScope s_Table_side, [], []⟩
def dd_places_of : He.DefD := ⟨("places_of", none), "places_of", "places_of", defArgs s_places_of, defBody s_places_of, defScope s_places_of, [], []⟩
def dd_moves_against : He.DefD := ⟨("moves_against", none), "moves_against", "moves_against", defArgs s_moves_against, defBody s_moves_against, defScope s_moves_against, [], []⟩
def dd_moves_answering : He.DefD := ⟨("moves_answering", none), "moves_answering", "moves_answering", defArgs s_moves_answering, defBody s_moves_answering, defScope s_moves_answering, [], []⟩
def dd_moves_at : He.DefD := ⟨("moves_at", none), "moves_at", "moves_at", defArgs s_moves_at, defBody s_moves_at, defScope s_moves_at, [], []⟩
def dd_Table_moves : He.DefD := ⟨("Table", some "moves"), "moves", "Table.moves", defArgs s_Table_moves, defBody s_Table_moves, defScope s_Table_moves, [], []⟩
def dd_Table_loser : He.DefD := ⟨("Table", some "loser"), "loser", "Table.loser", defArgs s_Table_loser, defBody s_Table_loser, defScope s_Table_loser, [], []⟩
def dd_Table_said : He.DefD := ⟨("Table", some "said"), "said", "Table.said", defArgs s_Table_said, defBody s_Table_said, defScope s_Table_said, [], []⟩
def dd_law_shows : He.DefD := ⟨("_law_shows", none), "_law_shows", "_law_shows", defArgs s_law_shows, defBody s_law_shows, defScope s_law_shows, [], []⟩
def dd_law_moved : He.DefD := ⟨("_law_moved", none), "_law_moved", "_law_moved", defArgs s_law_moved, defBody s_law_moved, defScope s_law_moved, [], []⟩
def dd_time_behind : He.DefD := ⟨("time_behind", none), "time_behind", "time_behind", defArgs s_time_behind, defBody s_time_behind, defScope s_time_behind, [], []⟩
def dd_Table_move : He.DefD := ⟨("Table", some "move"), "move", "Table.move", defArgs s_Table_move, defBody s_Table_move, defScope s_Table_move, [], []⟩
def dd_Table_back : He.DefD := ⟨("Table", some "back"), "back", "Table.back", defArgs s_Table_back, defBody s_Table_back, defScope s_Table_back, [], []⟩
def dd_law_step : He.DefD := ⟨("_law_step", none), "_law_step", "_law_step", defArgs s_law_step, defBody s_law_step, defScope s_law_step, [], []⟩
def dd_places_by : He.DefD := ⟨("places_by", none), "places_by", "places_by", defArgs s_places_by, defBody s_places_by, defScope s_places_by, [], []⟩
def dd_mask_of : He.DefD := ⟨("mask_of", none), "mask_of", "mask_of", defArgs s_mask_of, defBody s_mask_of, defScope s_mask_of, [], []⟩
def dd_BitBoard___init__ : He.DefD := ⟨("BitBoard", some "__init__"), "__init__", "BitBoard.__init__", defArgs s_BitBoard___init__, defBody s_BitBoard___init__, defScope s_BitBoard___init__, [], []⟩
def dd_BitBoard_masks_for : He.DefD := ⟨("BitBoard", some "masks_for"), "masks_for", "BitBoard.masks_for", defArgs s_BitBoard_masks_for, defBody s_BitBoard_masks_for, defScope s_BitBoard_masks_for, [], []⟩
def dd_Table___init__ : He.DefD := ⟨("Table", some "__init__"), "__init__", "Table.__init__", defArgs s_Table___init__, defBody s_Table___init__, defScope s_Table___init__, [], []⟩
def dd_law_are_right : He.DefD := ⟨("_law_are_right", none), "_law_are_right", "_law_are_right", defArgs s_law_are_right, defBody s_law_are_right, defScope s_law_are_right, [], []⟩
def dd_law : He.DefD := ⟨("law", none), "law", "law", defArgs s_law, defBody s_law, defScope s_law, [], []⟩
def fnL : List He.DefD := ([dd_law_draws, dd_law_take, dd_law_pick, dd_law_value_key, dd_law_row_key, dd_law_statement_key, dd_law_set, dd_law_words, dd_law_value, dd_law_pieces, dd_law_shuffled, dd_law_set_key, dd_law_within, dd_law_thinned, dd_law_board_of_raw, dd_law_support, dd_law_raw, dd_law_shape, dd_law_sure_board, dd_law_boards, dd_law_claim, dd_law_cut_board, dd_law_tables, dd_law_same, dd_law_play, dd_law_side, dd_law_moves, dd_side_at, dd_Table_side, dd_places_of] : List He.DefD) ++ ([dd_moves_against, dd_moves_answering, dd_moves_at, dd_Table_moves, dd_Table_loser, dd_Table_said, dd_law_shows, dd_law_moved, dd_time_behind, dd_Table_move, dd_Table_back, dd_law_step, dd_places_by, dd_mask_of, dd_BitBoard___init__, dd_BitBoard_masks_for, dd_Table___init__, dd_law_are_right, dd_law] : List He.DefD)
def faL : List He.Fa := ([.glo "_law_draws", .glo "_law_take", .glo "_law_pick", .glo "_law_value_key", .glo "_law_row_key", .glo "_law_statement_key", .glo "_law_set", .glo "_law_words", .glo "_law_value", .glo "_law_pieces", .glo "_law_shuffled", .glo "_law_set_key", .glo "_law_within", .glo "_law_thinned", .glo "_law_board_of_raw", .glo "_law_support", .glo "_law_raw", .glo "_law_shape", .glo "_law_sure_board", .glo "_law_boards", .glo "_law_claim", .glo "_law_cut_board", .glo "_law_tables", .glo "_law_same", .glo "_law_play", .glo "_law_side", .glo "_law_moves", .glo "side_at", .glo "law", .glo "places_of"] : List He.Fa) ++ ([.glo "moves_against", .glo "moves_answering", .glo "moves_at", .glo "law", .glo "law", .glo "law", .glo "_law_shows", .glo "_law_moved", .glo "time_behind", .glo "law", .glo "law", .glo "_law_step", .glo "places_by", .glo "mask_of", .glo "law", .glo "law", .glo "law", .glo "_law_are_right", .glo "law", .free "int", .free "len", .free "list", .free "range", .free "str", .free "isinstance", .free "tuple", .free "sorted", .free "max", .free "bool", .free "enumerate"] : List He.Fa) ++ ([.glo "Table", .glo "BitBoard", .cls "Table", .cls "BitBoard", .noat "Table" "times", .noat "BitBoard" "pieces", .noat "BitBoard" "onto", .noat "BitBoard" "attacks", .noat "Table" "parts", .noat "Table" "bits", .noat "Table" "made", .noat "BitBoard" "places", .noat "BitBoard" "whole", .meth "Table" "moves", .meth "Table" "side", .meth "Table" "loser", .meth "Table" "said", .meth "Table" "back", .meth "Table" "move", .meth "BitBoard" "masks_for", .mkr "BitBoard", .mkr "Table", .str "SPEAKER" "speaker", .str "DOUBTER" "doubter"] : List He.Fa)
abbrev R : PySem.W.OpenRow := PySem.W.OpenLaw.row PySem.Challenge.rw_heldstanding_k93_moves_of_tables
def bsL : List Fb := [tupB "BEGINNING" [.non, .non, .int 0]]
abbrev hk : PySem.W.Hook := hookX 4 faL fnL bsL
def ob (s : PySem.W.SharedT) : AlX := obsXG 4 faL fnL bsL (HandSHeadRun.getT s)
theorem ob_eq (s : PySem.W.SharedT) : ob s = hk.obs s.abs := obsXG_eq (HandSHeadRun.getT_eq s)
def names : List PySem.Str := (["_wall", "places_of", "places_by", "mask_of", "BitBoard", "StandError", "NoMove", "SPEAKER", "DOUBTER", "BEGINNING", "side_at", "moves_against", "moves_answering", "moves_at", "time_behind", "Table", "_law_draws", "_law_take", "_law_pick", "_law_same", "_law_words", "_law_value_key", "_law_row_key", "_law_statement_key", "_law_set", "_law_set_key", "_law_within", "_law_thinned", "_law_value", "_law_pieces"] : List PySem.Str) ++ (["_law_shuffled", "_law_support", "_law_raw", "_law_shape", "_law_board_of_raw", "_law_sure_board", "_law_boards", "_law_claim", "_law_play", "_law_side", "_law_moves", "_law_moved", "_law_cut_board", "_law_tables", "_law_shows", "_law_step", "_law_are_right"] : List PySem.Str)
theorem run (w : World) : HandSHeadRun.RunEq R (PySem.W.view R.prog [53]) hk ob 3240 names w := by
  intro os
  kernel_rfl
theorem facts {P : Program} {w : World} {K : PySem.W.Frag} {h : Heap} {mg : Str → Option Value} {f : Addr} (X : K.In h) (G : h.Ns mainGlobals mg) (hfa : mg ("law" : Str) = some (.ref f)) (cx : SaysX faL fnL bsL K) :
    ∃ fd : FuncData, (∀ (s : Shared) (v : Value), BindsTo s fd ⟨[v], []⟩ [("script", v)]) ∧ ∀ base : Heap, K.In base → base.Ns mainGlobals mg → FnOk P w K mg base CX0 44 f fd ["script"] (spLaw K) := by
  have c := cx.d
  obtain ⟨f0, F0⟩ := c.def_ 0 (d := dd_law_draws) rfl
  obtain ⟨f1, F1⟩ := c.def_ 1 (d := dd_law_take) rfl
  obtain ⟨f2, F2⟩ := c.def_ 2 (d := dd_law_pick) rfl
  obtain ⟨f3, F3⟩ := c.def_ 3 (d := dd_law_value_key) rfl
  obtain ⟨f4, F4⟩ := c.def_ 4 (d := dd_law_row_key) rfl
  obtain ⟨f5, F5⟩ := c.def_ 5 (d := dd_law_statement_key) rfl
  obtain ⟨f6, F6⟩ := c.def_ 6 (d := dd_law_set) rfl
  obtain ⟨f7, F7⟩ := c.def_ 7 (d := dd_law_words) rfl
  obtain ⟨f8, F8⟩ := c.def_ 8 (d := dd_law_value) rfl
  obtain ⟨f9, F9⟩ := c.def_ 9 (d := dd_law_pieces) rfl
  obtain ⟨f10, F10⟩ := c.def_ 10 (d := dd_law_shuffled) rfl
  obtain ⟨f11, F11⟩ := c.def_ 11 (d := dd_law_set_key) rfl
  obtain ⟨f12, F12⟩ := c.def_ 12 (d := dd_law_within) rfl
  obtain ⟨f13, F13⟩ := c.def_ 13 (d := dd_law_thinned) rfl
  obtain ⟨f14, F14⟩ := c.def_ 14 (d := dd_law_board_of_raw) rfl
  obtain ⟨f15, F15⟩ := c.def_ 15 (d := dd_law_support) rfl
  obtain ⟨f16, F16⟩ := c.def_ 16 (d := dd_law_raw) rfl
  obtain ⟨f17, F17⟩ := c.def_ 17 (d := dd_law_shape) rfl
  obtain ⟨f18, F18⟩ := c.def_ 18 (d := dd_law_sure_board) rfl
  obtain ⟨f19, F19⟩ := c.def_ 19 (d := dd_law_boards) rfl
  obtain ⟨f20, F20⟩ := c.def_ 20 (d := dd_law_claim) rfl
  obtain ⟨f21, F21⟩ := c.def_ 21 (d := dd_law_cut_board) rfl
  obtain ⟨f22, F22⟩ := c.def_ 22 (d := dd_law_tables) rfl
  obtain ⟨f23, F23⟩ := c.def_ 23 (d := dd_law_same) rfl
  obtain ⟨f24, F24⟩ := c.def_ 24 (d := dd_law_play) rfl
  obtain ⟨f25, F25⟩ := c.def_ 25 (d := dd_law_side) rfl
  obtain ⟨f26, F26⟩ := c.def_ 26 (d := dd_law_moves) rfl
  obtain ⟨f27, F27⟩ := c.def_ 27 (d := dd_side_at) rfl
  obtain ⟨f28, F28⟩ := c.def_ 28 (d := dd_Table_side) rfl
  obtain ⟨f29, F29⟩ := c.def_ 29 (d := dd_places_of) rfl
  obtain ⟨f30, F30⟩ := c.def_ 30 (d := dd_moves_against) rfl
  obtain ⟨f31, F31⟩ := c.def_ 31 (d := dd_moves_answering) rfl
  obtain ⟨f32, F32⟩ := c.def_ 32 (d := dd_moves_at) rfl
  obtain ⟨f33, F33⟩ := c.def_ 33 (d := dd_Table_moves) rfl
  obtain ⟨f34, F34⟩ := c.def_ 34 (d := dd_Table_loser) rfl
  obtain ⟨f35, F35⟩ := c.def_ 35 (d := dd_Table_said) rfl
  obtain ⟨f36, F36⟩ := c.def_ 36 (d := dd_law_shows) rfl
  obtain ⟨f37, F37⟩ := c.def_ 37 (d := dd_law_moved) rfl
  obtain ⟨f38, F38⟩ := c.def_ 38 (d := dd_time_behind) rfl
  obtain ⟨f39, F39⟩ := c.def_ 39 (d := dd_Table_move) rfl
  obtain ⟨f40, F40⟩ := c.def_ 40 (d := dd_Table_back) rfl
  obtain ⟨f41, F41⟩ := c.def_ 41 (d := dd_law_step) rfl
  obtain ⟨f42, F42⟩ := c.def_ 42 (d := dd_places_by) rfl
  obtain ⟨f43, F43⟩ := c.def_ 43 (d := dd_mask_of) rfl
  obtain ⟨f44, F44⟩ := c.def_ 44 (d := dd_BitBoard___init__) rfl
  obtain ⟨f45, F45⟩ := c.def_ 45 (d := dd_BitBoard_masks_for) rfl
  obtain ⟨f46, F46⟩ := c.def_ 46 (d := dd_Table___init__) rfl
  obtain ⟨f47, F47⟩ := c.def_ 47 (d := dd_law_are_right) rfl
  obtain ⟨f48, F48⟩ := c.def_ 48 (d := dd_law) rfl
  have e := hfa.symm.trans (He.glo_ok X G (c.fact 48 (f := .glo "law") rfl))
  cases e
  have bL := FunD.bindsA (ps := ["script"]) F48 fun _ _ _ _ _ _ us hl => match us, hl with | [_], _ => rfl
  have T : Txt K mg (fun i => match i with | 0 => He.ga K "_law_draws" | 1 => He.ga K "_law_take" | 2 => He.ga K "_law_pick" | 3 => He.ga K "_law_value_key" | 4 => He.ga K "_law_row_key" | 5 => He.ga K "_law_statement_key" | 6 => He.ga K "_law_set" | 7 => He.ga K "_law_words" | 8 => He.ga K "_law_value" | 9 => He.ga K "_law_pieces" | 10 => He.ga K "_law_shuffled" | 11 => He.ga K "_law_set_key" | 12 => He.ga K "_law_within" | 13 => He.ga K "_law_thinned" | 14 => He.ga K "_law_board_of_raw" | 15 => He.ga K "_law_support" | 16 => He.ga K "_law_raw" | 17 => He.ga K "_law_shape" | 18 => He.ga K "_law_sure_board" | 19 => He.ga K "_law_boards" | 20 => He.ga K "_law_claim" | 21 => He.ga K "_law_cut_board" | 22 => He.ga K "_law_tables" | 23 => He.ga K "_law_same" | 24 => He.ga K "_law_play" | 25 => He.ga K "_law_side" | 26 => He.ga K "_law_moves" | 27 => He.ga K "side_at" | 28 => He.ma K (He.ga K "Table") "side" | 29 => He.ga K "places_of" | 30 => He.ga K "moves_against" | 31 => He.ga K "moves_answering" | 32 => He.ga K "moves_at" | 33 => He.ma K (He.ga K "Table") "moves" | 34 => He.ma K (He.ga K "Table") "loser" | 35 => He.ma K (He.ga K "Table") "said" | 36 => He.ga K "_law_shows" | 37 => He.ga K "_law_moved" | 38 => He.ga K "time_behind" | 39 => He.ma K (He.ga K "Table") "move" | 40 => He.ma K (He.ga K "Table") "back" | 41 => He.ga K "_law_step" | 42 => He.ga K "places_by" | 43 => He.ga K "mask_of" | 44 => He.ma K (He.ga K "BitBoard") "__init__" | 45 => He.ma K (He.ga K "BitBoard") "masks_for" | 46 => He.ma K (He.ga K "Table") "__init__" | 47 => He.ga K "_law_are_right" | 48 => He.ga K "law" | 49 => He.ga K "Table" | 50 => He.ga K "BitBoard" | _ => 0) (fun i => match i with | 0 => f0 | 1 => f1 | 2 => f2 | 3 => f3 | 4 => f4 | 5 => f5 | 6 => f6 | 7 => f7 | 8 => f8 | 9 => f9 | 10 => f10 | 11 => f11 | 12 => f12 | 13 => f13 | 14 => f14 | 15 => f15 | 16 => f16 | 17 => f17 | 18 => f18 | 19 => f19 | 20 => f20 | 21 => f21 | 22 => f22 | 23 => f23 | 24 => f24 | 25 => f25 | 26 => f26 | 27 => f27 | 28 => f28 | 29 => f29 | 30 => f30 | 31 => f31 | 32 => f32 | 33 => f33 | 34 => f34 | 35 => f35 | 36 => f36 | 37 => f37 | 38 => f38 | 39 => f39 | 40 => f40 | 41 => f41 | 42 => f42 | 43 => f43 | 44 => f44 | 45 => f45 | 46 => f46 | 47 => f47 | 48 => f48 | _ => f48) := {
    g_law_draws := He.glo_ok X G (c.fact 0 (f := .glo "_law_draws") rfl)
    F_law_draws := F0
    b_law_draws := FunD.bindsN F0 fun _ _ _ _ _ _ us hl => match us, hl with | [_, _], _ => rfl
    g_law_take := He.glo_ok X G (c.fact 1 (f := .glo "_law_take") rfl)
    F_law_take := F1
    b_law_take := FunD.bindsN F1 fun _ _ _ _ _ _ us hl => match us, hl with | [_, _], _ => rfl
    g_law_pick := He.glo_ok X G (c.fact 2 (f := .glo "_law_pick") rfl)
    F_law_pick := F2
    b_law_pick := FunD.bindsN F2 fun _ _ _ _ _ _ us hl => match us, hl with | [_, _], _ => rfl
    g_law_value_key := He.glo_ok X G (c.fact 3 (f := .glo "_law_value_key") rfl)
    F_law_value_key := F3
    b_law_value_key := FunD.bindsN F3 fun _ _ _ _ _ _ us hl => match us, hl with | [_], _ => rfl
    g_law_row_key := He.glo_ok X G (c.fact 4 (f := .glo "_law_row_key") rfl)
    F_law_row_key := F4
    b_law_row_key := FunD.bindsN F4 fun _ _ _ _ _ _ us hl => match us, hl with | [_], _ => rfl
    g_law_statement_key := He.glo_ok X G (c.fact 5 (f := .glo "_law_statement_key") rfl)
    F_law_statement_key := F5
    b_law_statement_key := FunD.bindsN F5 fun _ _ _ _ _ _ us hl => match us, hl with | [_], _ => rfl
    g_law_set := He.glo_ok X G (c.fact 6 (f := .glo "_law_set") rfl)
    F_law_set := F6
    b_law_set := FunD.bindsN F6 fun _ _ _ _ _ _ us hl => match us, hl with | [_], _ => rfl
    g_law_words := He.glo_ok X G (c.fact 7 (f := .glo "_law_words") rfl)
    F_law_words := F7
    b_law_words := FunD.bindsN F7 fun _ _ _ _ _ _ us hl => match us, hl with | [_, _], _ => rfl
    g_law_value := He.glo_ok X G (c.fact 8 (f := .glo "_law_value") rfl)
    F_law_value := F8
    b_law_value := FunD.bindsN F8 fun _ _ _ _ _ _ us hl => match us, hl with | [_, _], _ => rfl
    g_law_pieces := He.glo_ok X G (c.fact 9 (f := .glo "_law_pieces") rfl)
    F_law_pieces := F9
    b_law_pieces := FunD.bindsN F9 fun _ _ _ _ _ _ us hl => match us, hl with | [_, _], _ => rfl
    g_law_shuffled := He.glo_ok X G (c.fact 10 (f := .glo "_law_shuffled") rfl)
    F_law_shuffled := F10
    b_law_shuffled := FunD.bindsN F10 fun _ _ _ _ _ _ us hl => match us, hl with | [_, _], _ => rfl
    g_law_set_key := He.glo_ok X G (c.fact 11 (f := .glo "_law_set_key") rfl)
    F_law_set_key := F11
    b_law_set_key := FunD.bindsN F11 fun _ _ _ _ _ _ us hl => match us, hl with | [_], _ => rfl
    g_law_within := He.glo_ok X G (c.fact 12 (f := .glo "_law_within") rfl)
    F_law_within := F12
    b_law_within := FunD.bindsN F12 fun _ _ _ _ _ _ us hl => match us, hl with | [_, _], _ => rfl
    g_law_thinned := He.glo_ok X G (c.fact 13 (f := .glo "_law_thinned") rfl)
    F_law_thinned := F13
    b_law_thinned := FunD.bindsN F13 fun _ _ _ _ _ _ us hl => match us, hl with | [_], _ => rfl
    g_law_board_of_raw := He.glo_ok X G (c.fact 14 (f := .glo "_law_board_of_raw") rfl)
    F_law_board_of_raw := F14
    b_law_board_of_raw := FunD.bindsN F14 fun _ _ _ _ _ _ us hl => match us, hl with | [_, _], _ => rfl
    g_law_support := He.glo_ok X G (c.fact 15 (f := .glo "_law_support") rfl)
    F_law_support := F15
    b_law_support := FunD.bindsN F15 fun _ _ _ _ _ _ us hl => match us, hl with | [_, _], _ => rfl
    g_law_raw := He.glo_ok X G (c.fact 16 (f := .glo "_law_raw") rfl)
    F_law_raw := F16
    b_law_raw := FunD.bindsN F16 fun _ _ _ _ _ _ us hl => match us, hl with | [_, _, _], _ => rfl
    g_law_shape := He.glo_ok X G (c.fact 17 (f := .glo "_law_shape") rfl)
    F_law_shape := F17
    b_law_shape := FunD.bindsN F17 fun _ _ _ _ _ _ us hl => match us, hl with | [_, _], _ => rfl
    g_law_sure_board := He.glo_ok X G (c.fact 18 (f := .glo "_law_sure_board") rfl)
    F_law_sure_board := F18
    b_law_sure_board := FunD.bindsN F18 fun _ _ _ _ _ _ us hl => match us, hl with | [_], _ => rfl
    g_law_boards := He.glo_ok X G (c.fact 19 (f := .glo "_law_boards") rfl)
    F_law_boards := F19
    b_law_boards := FunD.bindsN F19 fun _ _ _ _ _ _ us hl => match us, hl with | [_, _, _], _ => rfl
    g_law_claim := He.glo_ok X G (c.fact 20 (f := .glo "_law_claim") rfl)
    F_law_claim := F20
    b_law_claim := FunD.bindsN F20 fun _ _ _ _ _ _ us hl => match us, hl with | [_, _], _ => rfl
    g_law_cut_board := He.glo_ok X G (c.fact 21 (f := .glo "_law_cut_board") rfl)
    F_law_cut_board := F21
    b_law_cut_board := FunD.bindsN F21 fun _ _ _ _ _ _ us hl => match us, hl with | [_, _], _ => rfl
    g_law_tables := He.glo_ok X G (c.fact 22 (f := .glo "_law_tables") rfl)
    F_law_tables := F22
    b_law_tables := FunD.bindsN F22 fun _ _ _ _ _ _ us hl => match us, hl with | [_, _, _], _ => rfl
    g_law_same := He.glo_ok X G (c.fact 23 (f := .glo "_law_same") rfl)
    F_law_same := F23
    b_law_same := FunD.bindsN F23 fun _ _ _ _ _ _ us hl => match us, hl with | [_, _], _ => rfl
    g_law_play := He.glo_ok X G (c.fact 24 (f := .glo "_law_play") rfl)
    F_law_play := F24
    b_law_play := FunD.bindsN F24 fun _ _ _ _ _ _ us hl => match us, hl with | [_, _], _ => rfl
    g_law_side := He.glo_ok X G (c.fact 25 (f := .glo "_law_side") rfl)
    F_law_side := F25
    b_law_side := FunD.bindsN F25 fun _ _ _ _ _ _ us hl => match us, hl with | [_], _ => rfl
    g_law_moves := He.glo_ok X G (c.fact 26 (f := .glo "_law_moves") rfl)
    F_law_moves := F26
    b_law_moves := FunD.bindsN F26 fun _ _ _ _ _ _ us hl => match us, hl with | [_, _, _], _ => rfl
    g_side_at := He.glo_ok X G (c.fact 27 (f := .glo "side_at") rfl)
    F_side_at := F27
    b_side_at := FunD.bindsN F27 fun _ _ _ _ _ _ us hl => match us, hl with | [_], _ => rfl
    F_Table_side := F28
    b_Table_side := FunD.bindsN F28 fun _ _ _ _ _ _ us hl => match us, hl with | [_], _ => rfl
    g_places_of := He.glo_ok X G (c.fact 29 (f := .glo "places_of") rfl)
    F_places_of := F29
    b_places_of := FunD.bindsN F29 fun _ _ _ _ _ _ us hl => match us, hl with | [_], _ => rfl
    g_moves_against := He.glo_ok X G (c.fact 30 (f := .glo "moves_against") rfl)
    F_moves_against := F30
    b_moves_against := FunD.bindsN F30 fun _ _ _ _ _ _ us hl => match us, hl with | [_, _], _ => rfl
    g_moves_answering := He.glo_ok X G (c.fact 31 (f := .glo "moves_answering") rfl)
    F_moves_answering := F31
    b_moves_answering := FunD.bindsN F31 fun _ _ _ _ _ _ us hl => match us, hl with | [_, _, _], _ => rfl
    g_moves_at := He.glo_ok X G (c.fact 32 (f := .glo "moves_at") rfl)
    F_moves_at := F32
    b_moves_at := FunD.bindsN F32 fun _ _ _ _ _ _ us hl => match us, hl with | [_, _, _], _ => rfl
    F_Table_moves := F33
    b_Table_moves := FunD.bindsN F33 fun _ _ _ _ _ _ us hl => match us, hl with | [_], _ => rfl
    F_Table_loser := F34
    b_Table_loser := FunD.bindsN F34 fun _ _ _ _ _ _ us hl => match us, hl with | [_], _ => rfl
    F_Table_said := F35
    b_Table_said := FunD.bindsN F35 fun _ _ _ _ _ _ us hl => match us, hl with | [_], _ => rfl
    g_law_shows := He.glo_ok X G (c.fact 36 (f := .glo "_law_shows") rfl)
    F_law_shows := F36
    b_law_shows := FunD.bindsN F36 fun _ _ _ _ _ _ us hl => match us, hl with | [_, _, _, _, _], _ => rfl
    g_law_moved := He.glo_ok X G (c.fact 37 (f := .glo "_law_moved") rfl)
    F_law_moved := F37
    b_law_moved := FunD.bindsN F37 fun _ _ _ _ _ _ us hl => match us, hl with | [_, _, _, _], _ => rfl
    g_time_behind := He.glo_ok X G (c.fact 38 (f := .glo "time_behind") rfl)
    F_time_behind := F38
    b_time_behind := FunD.bindsN F38 fun _ _ _ _ _ _ us hl => match us, hl with | [_, _, _, _], _ => rfl
    F_Table_move := F39
    b_Table_move := FunD.bindsN F39 fun _ _ _ _ _ _ us hl => match us, hl with | [_, _], _ => rfl
    F_Table_back := F40
    b_Table_back := FunD.bindsN F40 fun _ _ _ _ _ _ us hl => match us, hl with | [_], _ => rfl
    g_law_step := He.glo_ok X G (c.fact 41 (f := .glo "_law_step") rfl)
    F_law_step := F41
    b_law_step := FunD.bindsN F41 fun _ _ _ _ _ _ us hl => match us, hl with | [_, _, _, _, _, _], _ => rfl
    g_places_by := He.glo_ok X G (c.fact 42 (f := .glo "places_by") rfl)
    F_places_by := F42
    b_places_by := FunD.bindsN F42 fun _ _ _ _ _ _ us hl => match us, hl with | [_], _ => rfl
    g_mask_of := He.glo_ok X G (c.fact 43 (f := .glo "mask_of") rfl)
    F_mask_of := F43
    b_mask_of := FunD.bindsN F43 fun _ _ _ _ _ _ us hl => match us, hl with | [_, _], _ => rfl
    F_BitBoard___init__ := F44
    b_BitBoard___init__ := FunD.bindsN F44 fun _ _ _ _ _ _ us hl => match us, hl with | [_, _], _ => rfl
    F_BitBoard_masks_for := F45
    b_BitBoard_masks_for := FunD.bindsN F45 fun _ _ _ _ _ _ us hl => match us, hl with | [_, _], _ => rfl
    F_Table___init__ := F46
    b_Table___init__ := FunD.bindsN F46 fun _ _ _ _ _ _ us hl => match us, hl with | [_, _, _], _ => rfl
    g_law_are_right := He.glo_ok X G (c.fact 47 (f := .glo "_law_are_right") rfl)
    F_law_are_right := F47
    b_law_are_right := FunD.bindsN F47 fun _ _ _ _ _ _ us hl => match us, hl with | [_, _], _ => rfl
    g_law := He.glo_ok X G (c.fact 48 (f := .glo "law") rfl)
    F_law := F48
    b_law := FunD.bindsN F48 fun _ _ _ _ _ _ us hl => match us, hl with | [_], _ => rfl
    z_int := He.free_ok X G (c.fact 49 (f := .free "int") rfl)
    z_len := He.free_ok X G (c.fact 50 (f := .free "len") rfl)
    z_list := He.free_ok X G (c.fact 51 (f := .free "list") rfl)
    z_range := He.free_ok X G (c.fact 52 (f := .free "range") rfl)
    z_str := He.free_ok X G (c.fact 53 (f := .free "str") rfl)
    z_isinstance := He.free_ok X G (c.fact 54 (f := .free "isinstance") rfl)
    z_tuple := He.free_ok X G (c.fact 55 (f := .free "tuple") rfl)
    z_sorted := He.free_ok X G (c.fact 56 (f := .free "sorted") rfl)
    z_max := He.free_ok X G (c.fact 57 (f := .free "max") rfl)
    z_bool := He.free_ok X G (c.fact 58 (f := .free "bool") rfl)
    z_enumerate := He.free_ok X G (c.fact 59 (f := .free "enumerate") rfl)
    gc_Table := He.glo_ok X G (c.fact 60 (f := .glo "Table") rfl)
    gc_BitBoard := He.glo_ok X G (c.fact 61 (f := .glo "BitBoard") rfl)
    C_Table := He.cls_ok (c.fact 62 (f := .cls "Table") rfl)
    C_BitBoard := He.cls_ok (c.fact 63 (f := .cls "BitBoard") rfl)
    na_Table_times := He.noat_ok (c.fact 64 (f := .noat "Table" "times") rfl)
    na_BitBoard_pieces := He.noat_ok (c.fact 65 (f := .noat "BitBoard" "pieces") rfl)
    na_BitBoard_onto := He.noat_ok (c.fact 66 (f := .noat "BitBoard" "onto") rfl)
    na_BitBoard_attacks := He.noat_ok (c.fact 67 (f := .noat "BitBoard" "attacks") rfl)
    na_Table_parts := He.noat_ok (c.fact 68 (f := .noat "Table" "parts") rfl)
    na_Table_bits := He.noat_ok (c.fact 69 (f := .noat "Table" "bits") rfl)
    na_Table_made := He.noat_ok (c.fact 70 (f := .noat "Table" "made") rfl)
    na_BitBoard_places := He.noat_ok (c.fact 71 (f := .noat "BitBoard" "places") rfl)
    na_BitBoard_whole := He.noat_ok (c.fact 72 (f := .noat "BitBoard" "whole") rfl)
    m_Table_moves := He.meth_ok (c.fact 73 (f := .meth "Table" "moves") rfl)
    m_Table_side := He.meth_ok (c.fact 74 (f := .meth "Table" "side") rfl)
    m_Table_loser := He.meth_ok (c.fact 75 (f := .meth "Table" "loser") rfl)
    m_Table_said := He.meth_ok (c.fact 76 (f := .meth "Table" "said") rfl)
    m_Table_back := He.meth_ok (c.fact 77 (f := .meth "Table" "back") rfl)
    m_Table_move := He.meth_ok (c.fact 78 (f := .meth "Table" "move") rfl)
    m_BitBoard_masks_for := He.meth_ok (c.fact 79 (f := .meth "BitBoard" "masks_for") rfl)
    mk_BitBoard := He.mkr_ok (c.fact 80 (f := .mkr "BitBoard") rfl)
    mk_Table := He.mkr_ok (c.fact 81 (f := .mkr "Table") rfl)
    k_SPEAKER := He.str_ok X G (c.fact 82 (f := .str "SPEAKER" "speaker") rfl)
    k_DOUBTER := He.str_ok X G (c.fact 83 (f := .str "DOUBTER" "doubter") rfl)
    k_BEGINNING := tupB_ok X G (cx.b 0) }
  exact ⟨f48, fun s v => bL s [v] rfl, fun base _ _ => law_imp (ok_law T) law_true⟩
end K93
open PySem PySem.W PySem.Calls PyProof.Rows
theorem PySem.Challenge.cw_heldstanding_k93_moves_of_tables_holds : PySem.Challenge.rw_heldstanding_k93_moves_of_tables.Holds := by
  w_on; o_law
  refine HandSHeadRun.head_any (r := OpenLaw.row PySem.Challenge.rw_heldstanding_k93_moves_of_tables) (q := view (OpenLaw.row PySem.Challenge.rw_heldstanding_k93_moves_of_tables).prog [53]) (H := K93.hk) (ob := K93.ob) (M := 3240) (loose := K93.names) (d := HandSHeadRun.topDef (OpenLaw.row PySem.Challenge.rw_heldstanding_k93_moves_of_tables).prog 53) (kwd := []) K93.ob_eq
    (by kernel_rfl) (fun s => by kernel_rfl) K93.run (by kernel_rfl) (by kernel_rfl) (by kernel_rfl) (by rfl) (by first | assumption | decide +kernel) (by decide +kernel) ⟨rfl, rfl, rfl, rfl, rfl, by decide +kernel⟩ ?hw ?hc
  case hw => w_witness2
  case hc =>
    refine L2.walk_ofE (l := PySem.Challenge.rw_heldstanding_k93_moves_of_tables) (n := 63) (k := 44) (x := "script") (CX := L2.CX0) rfl (by decide) (by kernel_rfl) ⟨rfl, by decide, by decide⟩ ?F (fun _ _ _ _ z => z)
    intro w mg fa h Y G hmg0
    obtain ⟨K, KX, c⟩ := Y
    have hmg : mg ("law" : PySem.Str) = some (.ref fa) := by
      have e : (HandSHeadRun.topDef (OpenLaw.row PySem.Challenge.rw_heldstanding_k93_moves_of_tables).prog 53).name = ("law" : PySem.Str) := by kernel_rfl
      rw [← e]
      exact hmg0
    obtain ⟨fd, hb, hF⟩ := K93.facts (P := (PySem.Challenge.rw_heldstanding_k93_moves_of_tables).prog) (w := w) KX G hmg c
    exact ⟨K, fd, HS.spLaw K, KX, hb, fun H a ns hl hO hS => ⟨a, ns, rfl, hO, hS, hl, fun _ => rfl⟩, hF⟩
#print axioms PySem.Challenge.cw_heldstanding_k93_moves_of_tables_holds
