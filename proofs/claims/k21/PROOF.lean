import PyProof.Rows.All
import Wide.All
import OpenK.AllK
import Wide.FinOn
import HandS.ForMost
import HandS.IsInst
import HandS.Wide
import HandS.Lambda
import HandS.Nested
import HandS.Slots
import HandS.Deep
import HandS.TupAny
import HandS.Style
import HandS.Flow
import HandS.More
import HandS.Exc
import HandS.WordsExc
import HandS.Defaults
import HandS.Walk
import KE.DataMinMax
import KE.SortData
import HandS.TupSets
import HandS.SetFor
import HandS.Zip
import HandS.Head0
import HandS.Head1
import HandS.Head2
import HandS.HeadEnd
import HandS.HeadHook1
import HandS.HeadHook2
import HandS.ExcInit
import HandS.ExcCtx
import KE.KExcSuper
import HandS.ExcField
import HandS.HotCalls
import HandS.HeadHook4
import HandS.HeadWalk
import PyProof.TupleOfSeq
import HandS.SetBool
import OpenK.KOps
import OpenK.KMeth
import OpenK.KWalk
import HandS.Property
import HandS.Evl
import HandS.Star
import HandS.ClsMeth
import HandS.Dict
import HandS.Small
import KE.KDictCopyH
import KE.KDictSum
import HandS.TupLen
import HandS.DictComp
import HandS.NestedK
import HandS.Iter
import KE.GoesEnum
import HandS.HeadNt
import PyProof.InstEq
import HandS.MakeKw
import HandS.MakeKwOnly
import PyProof.DictMoreH
import KE.KStateDown
import HandS.Call
import HandS.Ends
import HandS.Words
import PySem.Challenge.RW_stillsides_k21_whole_faces_by_the_direct
set_option Elab.async false
set_option linter.all false
set_option maxRecDepth 100000
set_option maxHeartbeats 4000000
/-! Dl1: data by value (D), what stands for it in the heap (Rep), cells that change, the state, the judgements. -/
namespace Dl
open PySem PySem.Spec PyProof.Rows L2
/-! ### data -/
inductive D where
  | non | bl (b : Bool) | int (i : Int) | str (s : Str)
  | tup (xs : List D) | lst (xs : List D)
  | ob (c : Str) (fs : List (Str × D))
  | ex (c : Str) (fs : List (Str × D))
  | fn (f c : Addr) (q : Str)
  | dic (kvs : List (D × D))
  | cl (c : Str)
/-- a result: a value, a cell that may change, a list just made -/
inductive Rs where
  | v (d : D) | loc (n : Nat) | nl (ds : List D)
/-- a slot -/
inductive Sl where
  | v (d : D) | loc (n : Nat)
inductive Cell where
  | lst (ds : List D) | ob (c : Str) (fs : List (Str × D)) | dic (kvs : List (D × D)) | gone
abbrev Mem := List Cell
abbrev Envt := List (Option Sl)
/-! ### what stands for it -/
structure Cn where
  K : PySem.W.Frag
  mg : Str → Option Value
  T : List NdefX.NTab
  P : Program
  w : World
abbrev NoT (o : HO) : Prop := ∀ ps, o ≠ .tbl ps
theorem nt_lst {vs : List V} : NoT (.lst vs) := fun _ z => nomatch z
/-- there, and no table -/
def Tr (H : Hp) (a : Addr) : Prop := ∃ o, H a = some o ∧ NoT o
theorem trL {H : Hp} {a : Addr} {vs : List V} (h : H a = some (.lst vs)) : Tr H a := ⟨_, h, nt_lst⟩
theorem not_tr {H : Hp} {a : Addr} (h : H a = none) : ¬ Tr H a := fun ⟨o, e, _⟩ => by rw [h] at e; cases e
theorem Tr.upd {H : Hp} {a p : Addr} {o : HO} (t : Tr H a) (n : a ≠ p) : Tr (L2.upd H p o) a := let ⟨u, e, h⟩ := t; ⟨u, by rw [upd_ne n]; exact e, h⟩
/-- a caught error: its class A, its dict dx -/
def exv (a A dx : Addr) : HO := .ext fun h => ∃ o vs, h.get? a = some o ∧ o.cls = .ref A ∧ o.dict = some dx ∧ o.data = .fields vs
/-- the object at a is just o -/
def ExO (a : Addr) (o : Obj) : HO := .ext fun h => h.get? a = some o
/-- a dict object whose keys are tuples of ints and texts -/
structure DicT (P : Program) (w : World) (o : Obj) (xs : List (List Key × Addr × Value)) : Prop where
  ex : o.ExactDict
  dat : ∃ es ep, o.data = .dict es ep ∧ es.toList = xs.map (entryOfKey (tupleKind (mixKind P w)))
  nd : (xs.map (·.1)).Nodup
  len : xs.length ≤ sizeLine
def kD : Key → D
  | .inl i => .int i
  | .inr s => .str s
/-- own classes with __slots__; their slots -/
def slN (c : Str) : Bool := c == "Face"
def slNames : List Str := ["key", "own_book", "own_direction", "own_left", "own_opener", "own_right"]
def slIx (f : Str) : Nat := slNames.findIdx (· == f)
/-- the slots ss hold the fields vs -/
def SlK (ss : List (Option V)) (vs : List (Str × V)) : Prop := ∀ f v, vs.lookup f = some v → f ∈ slNames ∧ ss[slIx f]? = some (some v)
/-- an instance at a: with a dict, or with slots -/
def InsG (n : Str) (G H : Hp) (a A dx : Addr) (vs : List (Str × V)) : Prop := (slN n = false ∧ H a = some (.ins A dx vs)) ∨ (slN n = true ∧ ∃ ss, H a = some (SlX.SlO a A dx ss) ∧ G dx = some (.xd []) ∧ SlK ss vs)
theorem InsG.pl {n : Str} {G H : Hp} {a A dx : Addr} {vs : List (Str × V)} (h : InsG n G H a A dx vs) (e : slN n = false) : H a = some (.ins A dx vs) := h.elim (fun z => z.2) fun z => by rw [e] at z; cases z.1
theorem InsG.sl {n : Str} {G H : Hp} {a A dx : Addr} {vs : List (Str × V)} (h : InsG n G H a A dx vs) (e : slN n = true) : ∃ ss, H a = some (SlX.SlO a A dx ss) ∧ G dx = some (.xd []) ∧ SlK ss vs := h.elim (fun z => by rw [e] at z; cases z.1) fun z => z.2
theorem InsG.to {n : Str} {G G' H H' : Hp} {a A dx : Addr} {vs : List (Str × V)} (h : InsG n G H a A dx vs) (s : ∀ c, G c = some (.xd []) → G' c = some (.xd [])) (k1 : H a = some (.ins A dx vs) → H' a = some (.ins A dx vs)) (k2 : ∀ ss, H a = some (SlX.SlO a A dx ss) → H' a = some (SlX.SlO a A dx ss)) : InsG n G' H' a A dx vs := by
  rcases h with ⟨h1, h2⟩ | ⟨h1, ss, h2, h3, h4⟩
  · exact .inl ⟨h1, k1 h2⟩
  · exact .inr ⟨h1, ss, k2 _ h2, s _ h3, h4⟩
mutual
inductive Rep (C : Cn) (G : Hp) : V → D → Prop
  | non : Rep C G .non .non
  | bl (b : Bool) : Rep C G (.bl b) (.bl b)
  | int (i : Int) : Rep C G (.int i) (.int i)
  | str (x : Str) : Rep C G (.str x) (.str x)
  | lst {a : Addr} {xs : List V} {ds : List D} : SqL C.K G a xs → Reps C G xs ds → Rep C G (.ref a) (.lst ds)
  | tup {a : Addr} {xs : List V} {ds : List D} : SqT C.K G a xs → Reps C G xs ds → Rep C G (.ref a) (.tup ds)
  | ob {a A dx : Addr} {n : Str} {fs : List (Str × V)} {ds : List (Str × D)} : InsG n G G a A dx fs → C.mg n = some (.ref A) → RepF C G fs ds → Rep C G (.ref a) (.ob n ds)
  | ex {a A dx : Addr} {n : Str} {fs : List (Str × V)} {ds : List (Str × D)} : G a = some (exv a A dx) → G dx = some (.xd fs) → C.mg n = some (.ref A) → RepF C G fs ds → Rep C G (.ref a) (.ex n ds)
  | fn {f c : Addr} {q : Str} : G c = some (LamX.CodeO c q) → Rep C G (.ref f) (.fn f c q)
  | dic {a : Addr} {o : Obj} {xs : List (List Key × Addr × Value)} {ds : List (D × D)} : G a = some (ExO a o) → (a == sysModules) = false → DicT C.P C.w o xs → RepD C G xs ds → Rep C G (.ref a) (.dic ds)
  | cl {A : Addr} {n : Str} : C.mg n = some (.ref A) → Rep C G (.ref A) (.cl n)
inductive Reps (C : Cn) (G : Hp) : List V → List D → Prop
  | nil : Reps C G [] []
  | cons {v : V} {vs : List V} {d : D} {ds : List D} : Rep C G v d → Reps C G vs ds → Reps C G (v :: vs) (d :: ds)
inductive RepF (C : Cn) (G : Hp) : List (Str × V) → List (Str × D) → Prop
  | nil : RepF C G [] []
  | cons {f : Str} {v : V} {vs : List (Str × V)} {d : D} {ds : List (Str × D)} : Rep C G v d → RepF C G vs ds → RepF C G ((f, v) :: vs) ((f, d) :: ds)
inductive RepD (C : Cn) (G : Hp) : List (List Key × Addr × Value) → List (D × D) → Prop
  | nil : RepD C G [] []
  | cons {k : List Key} {b : Addr} {u : Value} {v : V} {xs : List (List Key × Addr × Value)} {d : D} {ds : List (D × D)} : SqT C.K G b (k.map kV) → RelV v u → Rep C G v d → RepD C G xs ds → RepD C G ((k, b, u) :: xs) ((.tup (k.map kD), d) :: ds)
end
def Sub (G G' : Hp) : Prop := ∀ a o, G a = some o → G' a = some o
theorem Sub.refl (G : Hp) : Sub G G := fun _ _ h => h
theorem Sub.trans {G G1 G2 : Hp} (a : Sub G G1) (b : Sub G1 G2) : Sub G G2 := fun c o h => b c o (a c o h)
theorem Sub.rd {G G' : Hp} (s : Sub G G') {a : Addr} {u : HO} (h : Rd G a u) : Rd G' a u := h.elim (fun h => .inl (s _ _ h)) fun ⟨o, h⟩ => .inr ⟨o, s _ _ h⟩
theorem Sub.sqL {K : PySem.W.Frag} {G G' : Hp} (s : Sub G G') {a : Addr} {xs : List V} (h : SqL K G a xs) : SqL K G' a xs := h.elim (fun h => .inl (s.rd h)) .inr
theorem Sub.sqT {K : PySem.W.Frag} {G G' : Hp} (s : Sub G G') {a : Addr} {xs : List V} (h : SqT K G a xs) : SqT K G' a xs := h.elim (fun h => .inl (s.rd h)) .inr
section
variable {C : Cn} {G G' : Hp}
mutual
theorem Rep.mono (s : Sub G G') : ∀ {v : V} {d : D}, Rep C G v d → Rep C G' v d
  | _, _, .non => .non
  | _, _, .bl b => .bl b
  | _, _, .int i => .int i
  | _, _, .str x => .str x
  | _, _, .lst h r => .lst (s.sqL h) (Reps.mono s r)
  | _, _, .tup h r => .tup (s.sqT h) (Reps.mono s r)
  | _, _, .ob h m r => .ob (h.to (fun _ => s _ _) (s _ _) fun _ => s _ _) m (RepF.mono s r)
  | _, _, .ex h h2 m r => .ex (s _ _ h) (s _ _ h2) m (RepF.mono s r)
  | _, _, .fn h => .fn (s _ _ h)
  | _, _, .dic h n t r => .dic (s _ _ h) n t (RepD.mono s r)
  | _, _, .cl h => .cl h
theorem Reps.mono (s : Sub G G') : ∀ {vs : List V} {ds : List D}, Reps C G vs ds → Reps C G' vs ds
  | _, _, .nil => .nil
  | _, _, .cons h r => .cons (Rep.mono s h) (Reps.mono s r)
theorem RepF.mono (s : Sub G G') : ∀ {vs : List (Str × V)} {ds : List (Str × D)}, RepF C G vs ds → RepF C G' vs ds
  | _, _, .nil => .nil
  | _, _, .cons h r => .cons (Rep.mono s h) (RepF.mono s r)
theorem RepD.mono (s : Sub G G') : ∀ {vs : List (List Key × Addr × Value)} {ds : List (D × D)}, RepD C G vs ds → RepD C G' vs ds
  | _, _, .nil => .nil
  | _, _, .cons t v h r => .cons (s.sqT t) v (Rep.mono s h) (RepD.mono s r)
end
theorem Reps.length : ∀ {vs : List V} {ds : List D}, Reps C G vs ds → vs.length = ds.length
  | _, _, .nil => rfl
  | _, _, .cons _ r => by rw [List.length_cons, List.length_cons, Reps.length r]
theorem Reps.get : ∀ {vs : List V} {ds : List D} {i : Nat} {d : D}, Reps C G vs ds → ds[i]? = some d → ∃ v, vs[i]? = some v ∧ Rep C G v d
  | _, _, _, _, .nil, e => by simp at e
  | _, _, 0, _, .cons h _, e => by simp at e; subst e; exact ⟨_, rfl, h⟩
  | _, _, i + 1, _, .cons _ r, e => by
    obtain ⟨v, h1, h2⟩ := Reps.get (i := i) r (by simpa using e)
    exact ⟨v, by simpa using h1, h2⟩
theorem Reps.getV : ∀ {vs : List V} {ds : List D} {i : Nat} {v : V}, Reps C G vs ds → vs[i]? = some v → ∃ d, ds[i]? = some d ∧ Rep C G v d
  | _, _, _, _, .nil, e => by simp at e
  | _, _, 0, _, .cons h _, e => by simp at e; subst e; exact ⟨_, rfl, h⟩
  | _, _, i + 1, _, .cons _ r, e => by
    obtain ⟨v, h1, h2⟩ := Reps.getV (i := i) r (by simpa using e)
    exact ⟨v, by simpa using h1, h2⟩
theorem Reps.append : ∀ {vs ws : List V} {ds es : List D}, Reps C G vs ds → Reps C G ws es → Reps C G (vs ++ ws) (ds ++ es)
  | _, _, _, _, .nil, s => s
  | _, _, _, _, .cons h r, s => .cons h (Reps.append r s)
theorem Reps.take : ∀ {vs : List V} {ds : List D} (n : Nat), Reps C G vs ds → Reps C G (vs.take n) (ds.take n)
  | _, _, 0, _ => .nil
  | _, _, _ + 1, .nil => .nil
  | _, _, n + 1, .cons h r => .cons h (Reps.take n r)
theorem Reps.drop : ∀ {vs : List V} {ds : List D} (n : Nat), Reps C G vs ds → Reps C G (vs.drop n) (ds.drop n)
  | _, _, 0, r => r
  | _, _, _ + 1, .nil => .nil
  | _, _, n + 1, .cons _ r => Reps.drop n r
theorem Reps.set {v : V} {d : D} (h : Rep C G v d) : ∀ {vs : List V} {ds : List D} (i : Nat), Reps C G vs ds → Reps C G (vs.set i v) (ds.set i d)
  | _, _, _, .nil => .nil
  | _, _, 0, .cons _ r => .cons h r
  | _, _, i + 1, .cons q r => .cons q (Reps.set h i r)
theorem Reps.eraseIdx : ∀ {vs : List V} {ds : List D} (i : Nat), Reps C G vs ds → Reps C G (vs.eraseIdx i) (ds.eraseIdx i)
  | _, _, _, .nil => .nil
  | _, _, 0, .cons _ r => r
  | _, _, i + 1, .cons h r => .cons h (Reps.eraseIdx i r)
theorem Reps.snoc {v : V} {d : D} {vs : List V} {ds : List D} (r : Reps C G vs ds) (h : Rep C G v d) : Reps C G (vs ++ [v]) (ds ++ [d]) := r.append (.cons h .nil)
theorem RepF.look : ∀ {vs : List (Str × V)} {ds : List (Str × D)} {f : Str} {d : D}, RepF C G vs ds → ds.lookup f = some d → ∃ v, vs.lookup f = some v ∧ Rep C G v d
  | _, _, _, _, .nil, e => by cases e
  | _, _, f, d, .cons (f := g) (v := v) (d := d') h r, e => by
    rw [List.lookup_cons] at e ⊢
    cases q : (f == g) with
    | true => rw [q] at e; cases e; exact ⟨v, rfl, h⟩
    | false => rw [q] at e; exact RepF.look r e
theorem RepF.nolook : ∀ {vs : List (Str × V)} {ds : List (Str × D)} {f : Str}, RepF C G vs ds → ds.lookup f = none → vs.lookup f = none
  | _, _, _, .nil, _ => rfl
  | _, _, f, .cons (f := g) h r, e => by
    rw [List.lookup_cons] at e ⊢
    cases q : (f == g) with
    | true => rw [q] at e; cases e
    | false => rw [q] at e; exact RepF.nolook r e
end
/-! ### the state -/
def RepS (C : Cn) (as : List Addr) (G : Hp) (v : V) : Sl → Prop
  | .v d => Rep C G v d
  | .loc n => ∃ a, as[n]? = some a ∧ v = .ref a
/-- what may stand at a cell's address -/
def CO : HO → Prop
  | .lst _ => True
  | .ins _ _ _ => True
  | .ext φ => (∃ (a : Addr) (o : Obj) (es : Array DictEntry) (ep : Nat), φ = (fun h => h.get? a = some o) ∧ o.data = .dict es ep) ∨ ∃ (a C dx : Addr) (ss : List (Option V)), SlX.SlO a C dx ss = .ext φ
  | _ => False
theorem CO.nt {o : HO} (h : CO o) : NoT o := fun ps z => by rw [z] at h; exact h.elim
theorem dict_nc {a : Addr} {o : Obj} {es : Array DictEntry} {ep : Nat} (hd : o.data = .dict es ep) (c : Addr) (q : Str) : (fun h : Heap => h.get? a = some o) ≠ fun h => ∃ (oc : Obj) (vs : Array Value) (t : Tok), h.get? c = some oc ∧ oc.data = .fields vs ∧ vs[1]? = some (.str q t) := fun z => by
  have get : ∀ b, b < a + c + 1 → (⟨Array.replicate (a + c + 1) o, {}⟩ : Heap).get? b = some o := fun b hb => by
    unfold Heap.get?
    rw [Array.getElem?_eq_getElem (by simpa using hb)]
    rw [Array.getElem_replicate]
    obtain ⟨k1, k2, k3, k4⟩ := o
    dsimp only at hd
    subst hd
    rfl
  have h1 := congrFun z ⟨Array.replicate (a + c + 1) o, {}⟩
  have h2 : (⟨Array.replicate (a + c + 1) o, {}⟩ : Heap).get? a = some o := get a (Nat.lt_succ_of_le (Nat.le_add_right a c))
  rw [eq_iff_iff] at h1
  obtain ⟨oc, vs, t, g, d, _⟩ := h1.mp h2
  rw [get c (Nat.lt_succ_of_le (Nat.le_add_left c a))] at g
  cases g
  rw [hd] at d
  cases d
theorem slo_nc {a C dx : Addr} {ss : List (Option V)} (c : Addr) (q : Str) : SlX.SlO a C dx ss ≠ LamX.CodeO c q := fun z => by
  unfold SlX.SlO LamX.CodeO at z
  injection z with z
  let o : Obj := ⟨.none, none, .fields #[.none, .str q default], #[]⟩
  have get : ∀ b, b < a + c + 1 → (⟨Array.replicate (a + c + 1) o, {}⟩ : Heap).get? b = some o := fun b hb => by
    unfold Heap.get?
    rw [Array.getElem?_eq_getElem (by simpa using hb)]
    rw [Array.getElem_replicate]
  have h1 := congrFun z ⟨Array.replicate (a + c + 1) o, {}⟩
  rw [eq_iff_iff] at h1
  obtain ⟨sl, e, _⟩ := h1.mpr ⟨o, _, default, get c (Nat.lt_succ_of_le (Nat.le_add_left c a)), rfl, rfl⟩
  rw [get a (Nat.lt_succ_of_le (Nat.le_add_right a c))] at e
  have e := congrArg Obj.data (Option.some.inj e)
  cases e
theorem CO.sl {a C dx : Addr} {ss : List (Option V)} : CO (SlX.SlO a C dx ss) := .inr ⟨a, C, dx, ss, rfl⟩
theorem CO.nc {o : HO} (h : CO o) : ∀ c q, o ≠ LamX.CodeO c q := fun c q z => by
  rw [z] at h
  unfold LamX.CodeO at h
  rcases h with ⟨a, o, es, ep, e, hd⟩ | ⟨a, C, dx, ss, e⟩
  · exact dict_nc hd c q e.symm
  · exact slo_nc c q e
theorem coX {P : Program} {w : World} {a : Addr} {o : Obj} {xs : List (List Key × Addr × Value)} (t : DicT P w o xs) : CO (ExO a o) := let ⟨es, ep, h, _⟩ := t.dat; .inl ⟨a, o, es, ep, rfl, h⟩
def CellOk (C : Cn) (G H : Hp) (a : Addr) : Cell → Prop
  | .lst ds => G a = none ∧ ∃ vs, H a = some (.lst vs) ∧ Reps C G vs ds
  | .ob c fs => G a = none ∧ ∃ A dx vs, InsG c G H a A dx vs ∧ C.mg c = some (.ref A) ∧ RepF C G vs fs
  | .dic ds => G a = none ∧ ∃ o xs, H a = some (ExO a o) ∧ (a == sysModules) = false ∧ DicT C.P C.w o xs ∧ RepD C G xs ds
  | .gone => ∃ o, H a = some o ∧ CO o
theorem CellOk.move {C : Cn} {G G' H H' : Hp} {a : Addr} {c : Cell} (h : CellOk C G H a c) (g : ∀ o, H a = some o → CO o → G a = none → G' a = none) (k : ∀ o, H a = some o → CO o → H' a = some o) (s : Sub G G') : CellOk C G' H' a c := by
  cases c with
  | lst ds => obtain ⟨h1, vs, h2, r⟩ := h; exact ⟨g _ h2 trivial h1, vs, k _ h2 trivial, r.mono s⟩
  | ob c fs => obtain ⟨h1, A, dx, vs, h2, m, r⟩ := h; exact ⟨by rcases h2 with ⟨_, z⟩ | ⟨_, ss, z, _⟩ <;> first | exact g _ z trivial h1 | exact g _ z .sl h1, A, dx, vs, h2.to (fun _ => s _ _) (fun z => k _ z trivial) (fun ss z => k _ z .sl), m, r.mono s⟩
  | dic ds =>
    obtain ⟨h1, o, xs, h2, n, t, r⟩ := h
    exact ⟨g _ h2 (coX t) h1, o, xs, k _ h2 (coX t), n, t, r.mono s⟩
  | gone => obtain ⟨o, h1, h2⟩ := h; exact ⟨o, k _ h1 h2, h2⟩
theorem CellOk.at_ {C : Cn} {G H : Hp} {a : Addr} {c : Cell} (h : CellOk C G H a c) : ∃ o, H a = some o ∧ CO o := by
  cases c with
  | lst ds => obtain ⟨h1, vs, h2, r⟩ := h; exact ⟨_, h2, trivial⟩
  | ob c fs => obtain ⟨h1, A, dx, vs, h2, m, r⟩ := h; rcases h2 with ⟨_, z⟩ | ⟨_, ss, z, _⟩ <;> first | exact ⟨_, z, trivial⟩ | exact ⟨_, z, .sl⟩
  | dic ds =>
    obtain ⟨h1, o, xs, h2, n, t, r⟩ := h
    exact ⟨_, h2, coX t⟩
  | gone => exact h
structure Mm (C : Cn) (as : List Addr) (mem : Mem) (G H : Hp) : Prop where
  len : as.length = mem.length
  nd : as.Nodup
  cell : ∀ (n : Nat) (a : Addr) (c : Cell), as[n]? = some a → mem[n]? = some c → CellOk C G H a c
  there : ∀ a ∈ as, Tr H a
  sub : Sub G H
  nt : ∀ a ps, G a ≠ some (.tbl ps)
  tabs : NdefX.TabsN C.T H
/-- a thing that is not learnt late -/
def Own (H : Hp) (a : Addr) : Prop := ∃ o, H a = some o ∧ NoT o ∧ ∀ c q, o ≠ LamX.CodeO c q
theorem Own.tr {H : Hp} {a : Addr} (h : Own H a) : Tr H a := let ⟨o, e, n, _⟩ := h; ⟨o, e, n⟩
theorem ownC {H : Hp} {a : Addr} {o : HO} (h : H a = some o) (c : CO o) : Own H a := ⟨_, h, c.nt, c.nc⟩
theorem ownL {H : Hp} {a : Addr} {vs : List V} (h : H a = some (.lst vs)) : Own H a := ⟨_, h, nt_lst, fun c q z => by unfold LamX.CodeO at z; cases z⟩
/-- from one state to a later one -/
structure Ext (as : List Addr) (G H : Hp) (as' : List Addr) (G' H' : Hp) : Prop where
  pre : ∃ more, as' = as ++ more
  sub : Sub G G'
  keep : ∀ a o, a ∉ as → H a = some o → NoT o → H' a = some o
  old : ∀ a, a ∉ as → Own H a → G a = none → G' a = none
  new : ∀ a, a ∈ as' → a ∉ as → ¬ Tr H a
  there : ∀ a, Tr H a → Tr H' a
theorem Ext.refl (as : List Addr) (G H : Hp) : Ext as G H as G H := ⟨⟨[], by simp⟩, Sub.refl _, fun _ _ _ h _ => h, fun _ _ _ h => h, fun _ h n => (n h).elim, fun _ h => h⟩
theorem Ext.trans {as as1 as2 : List Addr} {G G1 G2 H H1 H2 : Hp} (a : Ext as G H as1 G1 H1) (b : Ext as1 G1 H1 as2 G2 H2) : Ext as G H as2 G2 H2 := by
  obtain ⟨m1, e1⟩ := a.pre
  obtain ⟨m2, e2⟩ := b.pre
  have n1 : ∀ c, c ∉ as → Tr H c → c ∉ as1 := fun c hc hh h => a.new c h hc hh
  refine ⟨⟨m1 ++ m2, by rw [e2, e1, List.append_assoc]⟩, a.sub.trans b.sub, fun c o hc h nt => ?_, fun c hc h hg => ?_, fun c hc hn => ?_, fun c h => b.there c (a.there c h)⟩
  · exact b.keep c o (n1 c hc ⟨_, h, nt⟩) (a.keep c o hc h nt) nt
  · have hh := a.old c hc h hg
    obtain ⟨o, e, n, q⟩ := h
    exact b.old c (n1 c hc ⟨o, e, n⟩) ⟨o, a.keep c o hc e n, n, q⟩ hh
  · by_cases q : c ∈ as1
    · exact a.new c q hn
    · exact fun t => b.new c hc q (a.there c t)
/-- what is known of each state, whatever comes -/
structure Iv where
  p : List Addr → Hp → Hp → Prop
  ext : ∀ {as : List Addr} {G H : Hp} {as' : List Addr} {G' H' : Hp}, Ext as G H as' G' H' → p as G H → p as' G' H'
structure Dx extends Cx where
  iv : Iv
  T : List NdefX.NTab
instance : Coe Dx Cx := ⟨Dx.toCx⟩
structure OkS (C : Cn) (I : Iv) (as : List Addr) (G : Hp) (env : Envt) (mem : Mem) (σ : L2.St) (H : Hp) : Prop where
  mm : Mm C as mem G H
  len : σ.length = env.length
  env : ∀ (i : Nat) (s : Sl), env[i]? = some (some s) → ∃ v, σ[i]? = some (some v) ∧ RepS C as G v s
  iv : I.p as G H
def ResOk (C : Cn) (as : List Addr) (G H : Hp) (v : V) : Rs → Prop
  | .v d => Rep C G v d
  | .loc n => ∃ a, as[n]? = some a ∧ v = .ref a
  | .nl ds => ∃ p vs, v = .ref p ∧ H p = some (.lst vs) ∧ G p = none ∧ p ∉ as ∧ Reps C G vs ds
section
variable {C : Cn} {I : Iv} {as as' : List Addr} {G G' H H' : Hp} {env : Envt} {mem mem' : Mem} {σ : L2.St} {v : V}
theorem get_pre {α : Type} {l l' : List α} (h : ∃ more, l' = l ++ more) {n : Nat} {a : α} (e : l[n]? = some a) : l'[n]? = some a := by
  obtain ⟨m, rfl⟩ := h
  rw [List.getElem?_append_left (List.getElem?_eq_some_iff.mp e).1]
  exact e
theorem RepS.ext (x : Ext as G H as' G' H') : ∀ {s : Sl}, RepS C as G v s → RepS C as' G' v s
  | .v _, h => Rep.mono x.sub h
  | .loc _, ⟨a, e, q⟩ => ⟨a, get_pre x.pre e, q⟩
theorem ResOk.ext (x : Ext as G H as' G' H') : ∀ {r : Rs}, ResOk C as G H v r → ResOk C as' G' H' v r
  | .v _, h => Rep.mono x.sub h
  | .loc _, ⟨a, e, q⟩ => ⟨a, get_pre x.pre e, q⟩
  | .nl _, ⟨p, vs, e, h, g, n, r⟩ => ⟨p, vs, e, x.keep _ _ n h nt_lst, x.old _ n (ownL h) g, (fun q => x.new _ q n (trL h)), r.mono x.sub⟩
/-- the same env in a later state -/
theorem OkS.ext (k : OkS C I as G env mem σ H) (x : Ext as G H as' G' H') (m : Mm C as' mem' G' H') : OkS C I as' G' env mem' σ H' :=
  ⟨m, k.len, (fun i s e => let ⟨v, h, r⟩ := k.env i s e; ⟨v, h, r.ext x⟩), I.ext x k.iv⟩
/-- an object is laid, and known by value from now on -/
theorem tabs_upd {T : List NdefX.NTab} {H : Hp} {p : Addr} {o : HO} (t : NdefX.TabsN T H) (h : H p = none ∨ ∃ o', H p = some o' ∧ CO o') : NdefX.TabsN T (upd H p o) := fun q hq => by
  obtain ⟨ps, h1, h2, h3⟩ := t q hq
  have ne : ∀ {b : Addr} {u : HO}, H b = some u → ¬ CO u → b ≠ p := fun {b u} e n z => by
    rw [z] at e
    rcases h with h | ⟨o', h, c⟩ <;> rw [h] at e <;> cases e
    exact n c
  refine ⟨ps, by rw [upd_ne (ne h1 (fun z => z))]; exact h1, h2, fun pos cv hc => ?_⟩
  obtain ⟨c, e1, e2⟩ := h3 pos cv hc
  exact ⟨c, e1, by rw [upd_ne (ne e2 (fun z => z.nc _ _ rfl))]; exact e2⟩
theorem Mm.lay (m : Mm C as mem G H) {p : Addr} (hp : H p = none) (o : HO) (ho : NoT o := by intro _ z; cases z) : Mm C as mem (upd G p o) (upd H p o) ∧ Ext as G H as (upd G p o) (upd H p o) := by
  have hG : G p = none := by
    cases e : G p with
    | none => rfl
    | some u => rw [m.sub _ _ e] at hp; cases hp
  have np : ∀ a ∈ as, a ≠ p := fun a ha e => not_tr hp (e ▸ m.there a ha)
  have sG : Sub G (upd G p o) := fun a u e => by rw [upd_ne (ne_of_none e hG)]; exact e
  have sH : ∀ a u, H a = some u → upd H p o a = some u := fun a u e => by rw [upd_ne (ne_of_none e hp)]; exact e
  refine ⟨⟨m.len, m.nd, fun n a c ha hc => ?_, fun a ha => (m.there a ha).upd (np a ha), fun a u e => ?_, fun a ps e => ?_, tabs_upd m.tabs (.inl hp)⟩, ⟨⟨[], by simp⟩, sG, fun a u _ e _ => sH a u e, fun a _ h g => ?_, fun a h n => (n h).elim, fun a h => ?_⟩⟩
  · have q := m.cell n a c ha hc
    have na := np a (List.mem_of_getElem? ha)
    exact q.move (fun _ _ _ g => by rw [upd_ne na]; exact g) (fun o h _ => sH _ _ h) sG
  · by_cases q : a = p
    · subst q; rw [upd_same] at e ⊢; exact e
    · rw [upd_ne q] at e ⊢; exact m.sub _ _ e
  · by_cases q : a = p
    · rw [q, upd_same] at e; cases e; exact ho _ rfl
    · rw [upd_ne q] at e; exact m.nt a ps e
  · rw [upd_ne (fun q : a = p => not_tr hp (q ▸ h.tr))]; exact g
  · obtain ⟨u, e, n⟩ := h
    exact ⟨u, sH _ _ e, n⟩
/-- an object is laid that is not known by value -/
theorem Mm.layH (m : Mm C as mem G H) {p : Addr} (hp : H p = none) (o : HO) : Mm C as mem G (upd H p o) ∧ Ext as G H as G (upd H p o) := by
  have np : ∀ a ∈ as, a ≠ p := fun a ha e => not_tr hp (e ▸ m.there a ha)
  have sH : ∀ a u, H a = some u → upd H p o a = some u := fun a u e => by rw [upd_ne (ne_of_none e hp)]; exact e
  refine ⟨⟨m.len, m.nd, fun n a c ha hc => ?_, fun a ha => (m.there a ha).upd (np a ha), fun a u e => sH _ _ (m.sub _ _ e), m.nt, tabs_upd m.tabs (.inl hp)⟩, ⟨⟨[], by simp⟩, Sub.refl _, fun a u _ e _ => sH a u e, fun a _ h g => g, fun a h n => (n h).elim, fun a h => ?_⟩⟩
  · have q := m.cell n a c ha hc
    exact q.move (fun _ _ _ g => g) (fun o h _ => sH _ _ h) (Sub.refl _)
  · obtain ⟨u, e, n⟩ := h
    exact ⟨u, sH _ _ e, n⟩
/-- an object that stands becomes known by value -/
theorem Mm.learn (m : Mm C as mem G H) {p : Addr} {o : HO} (hp : H p = some o) (hG : G p = none) (hn : p ∉ as) (ho : NoT o := by intro _ z; cases z) : Mm C as mem (upd G p o) H ∧ ∀ G0 H0 as0, Ext as0 G0 H0 as G H → ¬ Tr H0 p → Ext as0 G0 H0 as (upd G p o) H := by
  have np : ∀ a ∈ as, a ≠ p := fun a ha e => hn (e ▸ ha)
  have sG : Sub G (upd G p o) := fun a u e => by rw [upd_ne (ne_of_none e hG)]; exact e
  refine ⟨⟨m.len, m.nd, fun n a c ha hc => ?_, m.there, fun a u e => ?_, fun a ps e => ?_, m.tabs⟩, fun G0 H0 as0 x h0 => ⟨x.pre, x.sub.trans sG, x.keep, fun a ha h g => ?_, x.new, x.there⟩⟩
  · have q := m.cell n a c ha hc
    have na := np a (List.mem_of_getElem? ha)
    exact q.move (fun _ _ _ g => by rw [upd_ne na]; exact g) (fun o h _ => h) sG
  · by_cases q : a = p
    · subst q; rw [upd_same] at e; cases e; exact hp
    · rw [upd_ne q] at e; exact m.sub _ _ e
  · by_cases q : a = p
    · rw [q, upd_same] at e; cases e; exact ho _ rfl
    · rw [upd_ne q] at e; exact m.nt a ps e
  · rw [upd_ne (fun q : a = p => h0 (q ▸ h.tr))]; exact x.old a ha h g
end
end Dl
/-! Dl2: the judgements for expressions, tests, argument lists; their rules. -/
namespace Dl
open PySem PySem.Spec PyProof.Rows L2
/-! ### data as the library's data -/
mutual
def toPy : D → PyData
  | .non => .none
  | .bl b => .bool b
  | .int i => .int i
  | .str s => .str s
  | .tup xs => .tuple (toPys xs)
  | .lst xs => .list (toPys xs)
  | .ob _ _ => .dict []
  | .ex _ _ => .dict []
  | .fn _ _ _ => .dict []
  | .dic _ => .dict []
  | .cl _ => .dict []
def toPys : List D → List PyData
  | [] => []
  | d :: ds => toPy d :: toPys ds
end
def eqD (x y : D) : Bool := PyData.eqv (toPy x) (toPy y)
def inD (x : D) (ys : List D) : Bool := ys.any fun y => eqD y x
def sh (d : D) : Bool := SeqAt.shaped (toPy d)
section
variable {C : Cn} {H : Hp}
mutual
theorem Rep.dp : ∀ {v : V} {d : D}, Rep C H v d → (toPy d).canLay0 = true → Dp C.K H v (toPy d)
  | _, _, .non, _ => by rw [toPy]; exact .non
  | _, _, .bl b, _ => by rw [toPy]; exact .bl b
  | _, _, .int i, _ => by rw [toPy]; exact .int i
  | _, _, .str x, _ => by rw [toPy]; exact .str x
  | _, _, .lst h r, c => by
    rw [toPy] at c ⊢
    rw [PyData.canLay0] at c
    exact .lst h (Reps.dp r c)
  | _, _, .tup h r, c => by
    rw [toPy] at c ⊢
    rw [PyData.canLay0] at c
    exact .tup h (Reps.dp r c)
  | _, _, .ob h m r, c => by
    rw [toPy, PyData.canLay0] at c
    cases c
  | _, _, .ex h h2 m r, c => by
    rw [toPy, PyData.canLay0] at c
    cases c
  | _, _, .fn h, c => by
    rw [toPy, PyData.canLay0] at c
    cases c
  | _, _, .dic h n t r, c => by
    rw [toPy, PyData.canLay0] at c
    cases c
  | _, _, .cl h, c => by
    rw [toPy, PyData.canLay0] at c
    cases c
theorem Reps.dp : ∀ {vs : List V} {ds : List D}, Reps C H vs ds → PyData.canLayAll0 (toPys ds) = true → DpAll C.K H vs (toPys ds)
  | _, _, .nil, _ => by rw [toPys]; exact .nil
  | _, _, .cons h r, c => by
    rw [toPys] at c ⊢
    rw [PyData.canLayAll0, Bool.and_eq_true] at c
    exact .cons (Rep.dp h c.1) (Reps.dp r c.2)
end
theorem Rep.dpS {v : V} {d : D} (h : Rep C H v d) (s : sh d = true) : Dp C.K H v (toPy d) := h.dp (SeqAt.canLay_of_shaped s)
end
/-! ### judgements -/
def Cx.cn (X : Dx) : Cn := ⟨X.K, X.mg, X.T, X.prog, X.w⟩
def EW (X : Dx) (e : Expr) : TE := fun σ H Q => ∀ (pins : List (Addr × Obj)) (s : Shared), Inv X pins σ H s → wpAny (model X.prog X.w) X.A (eval e X.env) (EP X pins σ Q) X.xe s
def TW (X : Dx) (e : Expr) : TT := fun σ H Q => ∀ (pins : List (Addr × Obj)) (s : Shared), Inv X pins σ H s → wpAny (model X.prog X.w) X.A (isTrue e X.env (eval e X.env)) (TP X pins σ Q) X.xe s
def WW (X : Dx) (e : Expr) : TT := fun σ H Q => ∀ (whole : Sem Value) (pins : List (Addr × Obj)) (s : Shared), Inv X pins σ H s → wpAny (model X.prog X.w) X.A (isTrue e X.env whole) (TP X pins σ Q) X.xe s
def AW (X : Dx) (es : List Expr) : TA := fun σ H Q => ∀ (pos : Pos) (pins : List (Addr × Obj)) (s : Shared), Inv X pins σ H s → wpAny (model X.prog X.w) X.A (spliced (backTo pos (starEach es X.env))) (AP X pins σ Q) X.xe s
section
variable {X : Dx} {e : Expr} {es : List Expr} {σ : L2.St} {H : Hp}
theorem pe_ew (X : Dx) (e : Expr) : PE X e (EW X e) := ⟨fun pins s _ _ _ I h => h pins s I⟩
theorem pt_tw (X : Dx) (e : Expr) : PT X e (TW X e) := ⟨fun pins s _ _ _ I h => h pins s I⟩
theorem pw_ww (X : Dx) (e : Expr) : PW X e (WW X e) := ⟨fun wh pins s _ _ _ I h => h wh pins s I⟩
theorem pa_aw (X : Dx) (es : List Expr) : PA X es (AW X es) := ⟨fun pos pins s _ _ _ I h => h pos pins s I⟩
theorem EW.of {t : TE} {Q : VK} (h : PE X e t) (q : t σ H Q) : EW X e σ H Q := fun pins s I => h.run pins s σ H Q I q
theorem TW.of {t : TT} {Q : Bool → Hp → Prop} (h : PT X e t) (q : t σ H Q) : TW X e σ H Q := fun pins s I => h.run pins s σ H Q I q
theorem WW.of {t : TT} {Q : Bool → Hp → Prop} (h : PW X e t) (q : t σ H Q) : WW X e σ H Q := fun wh pins s I => h.run wh pins s σ H Q I q
theorem AW.of {t : TA} {Q : List V → Hp → Prop} (h : PA X es t) (q : t σ H Q) : AW X es σ H Q := fun pos pins s I => h.run pos pins s σ H Q I q
theorem EW.mono {Q Q' : VK} (h : EW X e σ H Q) (hq : ∀ v H', Q v H' → Q' v H') : EW X e σ H Q' := fun pins s I => thn (h pins s I) fun _ _ ⟨v, H', I', r, q⟩ => ⟨v, H', I', r, hq v H' q⟩
theorem TW.mono {Q Q' : Bool → Hp → Prop} (h : TW X e σ H Q) (hq : ∀ v H', Q v H' → Q' v H') : TW X e σ H Q' := fun pins s I => thn (h pins s I) fun _ _ ⟨H', I', q⟩ => ⟨H', I', hq _ H' q⟩
theorem WW.mono {Q Q' : Bool → Hp → Prop} (h : WW X e σ H Q) (hq : ∀ v H', Q v H' → Q' v H') : WW X e σ H Q' := fun wh pins s I => thn (h wh pins s I) fun _ _ ⟨H', I', q⟩ => ⟨H', I', hq _ H' q⟩
theorem AW.mono {Q Q' : List V → Hp → Prop} (h : AW X es σ H Q) (hq : ∀ v H', Q v H' → Q' v H') : AW X es σ H Q' := fun pos pins s I => thn (h pos pins s I) fun _ _ ⟨v, H', I', r, q⟩ => ⟨v, H', I', r, hq v H' q⟩
end
/-- a list just made was not there -/
def Fr (H : Hp) (v : V) : Rs → Prop
  | .nl _ => ∀ p, v = .ref p → ¬ Tr H p
  | _ => True
/-- what is known behind an expression: a later state, the result, what is wanted of both -/
def Post (C : Cn) (I : Iv) (as : List Addr) (G : Hp) (env : Envt) (σ : L2.St) (H : Hp) (P : Rs → Mem → Prop) : VK := fun v H' =>
  ∃ as' G' mem' r, Ext as G H as' G' H' ∧ OkS C I as' G' env mem' σ H' ∧ ResOk C as' G' H' v r ∧ Fr H v r ∧ P r mem'
def PostT (C : Cn) (I : Iv) (as : List Addr) (G : Hp) (env : Envt) (σ : L2.St) (H : Hp) (P : Bool → Mem → Prop) : Bool → Hp → Prop := fun b H' =>
  ∃ as' G' mem', Ext as G H as' G' H' ∧ OkS C I as' G' env mem' σ H' ∧ P b mem'
inductive RsOk (C : Cn) (as : List Addr) (G : Hp) : List V → List Sl → Prop
  | nil : RsOk C as G [] []
  | cons {v : V} {vs : List V} {r : Sl} {rs : List Sl} : RepS C as G v r → RsOk C as G vs rs → RsOk C as G (v :: vs) (r :: rs)
theorem RsOk.ext {C : Cn} {as as' : List Addr} {G G' H H' : Hp} (x : Ext as G H as' G' H') : ∀ {vs : List V} {rs : List Sl}, RsOk C as G vs rs → RsOk C as' G' vs rs
  | _, _, .nil => .nil
  | _, _, .cons h r => .cons (h.ext x) (RsOk.ext x r)
def PostA (C : Cn) (I : Iv) (as : List Addr) (G : Hp) (env : Envt) (σ : L2.St) (H : Hp) (P : List Sl → Mem → Prop) : List V → Hp → Prop := fun vs H' =>
  ∃ as' G' mem' rs, Ext as G H as' G' H' ∧ OkS C I as' G' env mem' σ H' ∧ RsOk C as' G' vs rs ∧ P rs mem'
def EV (X : Dx) (e : Expr) (env : Envt) (mem : Mem) (P : Rs → Mem → Prop) : Prop := ∀ as G σ H, OkS (Cx.cn X) X.iv as G env mem σ H → EW X e σ H (Post (Cx.cn X) X.iv as G env σ H P)
def TV (X : Dx) (e : Expr) (env : Envt) (mem : Mem) (P : Bool → Mem → Prop) : Prop := ∀ as G σ H, OkS (Cx.cn X) X.iv as G env mem σ H → TW X e σ H (PostT (Cx.cn X) X.iv as G env σ H P)
def WV (X : Dx) (e : Expr) (env : Envt) (mem : Mem) (P : Bool → Mem → Prop) : Prop := ∀ as G σ H, OkS (Cx.cn X) X.iv as G env mem σ H → WW X e σ H (PostT (Cx.cn X) X.iv as G env σ H P)
def AV (X : Dx) (es : List Expr) (env : Envt) (mem : Mem) (P : List Sl → Mem → Prop) : Prop := ∀ as G σ H, OkS (Cx.cn X) X.iv as G env mem σ H → AW X es σ H (PostA (Cx.cn X) X.iv as G env σ H P)
section
variable {C : Cn} {I : Iv} {as as1 : List Addr} {G G1 H H1 : Hp} {env : Envt} {mem : Mem} {σ : L2.St}
theorem Fr.back {v : V} : ∀ {r : Rs}, Fr H1 v r → Ext as G H as1 G1 H1 → Fr H v r
  | .nl _, f, x => fun p e t => f p e (x.there p t)
  | .v _, _, _ => trivial
  | .loc _, _, _ => trivial
theorem Post.ext {P : Rs → Mem → Prop} {v : V} {H2 : Hp} (x : Ext as G H as1 G1 H1) : Post C I as1 G1 env σ H1 P v H2 → Post C I as G env σ H P v H2 := fun ⟨as', G', mem', r, y, k, ro, f, p⟩ => ⟨as', G', mem', r, x.trans y, k, ro, f.back x, p⟩
theorem PostT.ext {P : Bool → Mem → Prop} {b : Bool} {H2 : Hp} (x : Ext as G H as1 G1 H1) : PostT C I as1 G1 env σ H1 P b H2 → PostT C I as G env σ H P b H2 := fun ⟨as', G', mem', y, k, p⟩ => ⟨as', G', mem', x.trans y, k, p⟩
theorem PostA.ext {P : List Sl → Mem → Prop} {vs : List V} {H2 : Hp} (x : Ext as G H as1 G1 H1) : PostA C I as1 G1 env σ H1 P vs H2 → PostA C I as G env σ H P vs H2 := fun ⟨as', G', mem', r, y, k, ro, p⟩ => ⟨as', G', mem', r, x.trans y, k, ro, p⟩
/-- here and now -/
theorem Post.now {P : Rs → Mem → Prop} {v : V} {r : Rs} (k : OkS C I as G env mem σ H) (ro : ResOk C as G H v r) (p : P r mem) (f : Fr H v r := by trivial) : Post C I as G env σ H P v H := ⟨as, G, mem, r, .refl _ _ _, k, ro, f, p⟩
theorem PostT.now {P : Bool → Mem → Prop} {b : Bool} (k : OkS C I as G env mem σ H) (p : P b mem) : PostT C I as G env σ H P b H := ⟨as, G, mem, .refl _ _ _, k, p⟩
/-- a new object known by value -/
theorem Post.lay {P : Rs → Mem → Prop} {p : Addr} {o : HO} {r : Rs} (k : OkS C I as G env mem σ H) (hp : H p = none) (ro : ResOk C as (upd G p o) (upd H p o) (.ref p) r) (q : P r mem) (f : Fr H (.ref p) r := by trivial) (ho : NoT o := by intro _ z; cases z) : Post C I as G env σ H P (.ref p) (upd H p o) :=
  let ⟨m, x⟩ := k.mm.lay hp o ho
  ⟨as, _, mem, r, x, k.ext x m, ro, f, q⟩
theorem none_sub (k : OkS C I as G env mem σ H) {p : Addr} (hp : H p = none) : G p = none := by
  cases e : G p with
  | none => rfl
  | some u => rw [k.mm.sub _ _ e] at hp; cases hp
/-- a new list -/
theorem Post.newList {P : Rs → Mem → Prop} {p : Addr} {vs : List V} {ds : List D} (k : OkS C I as G env mem σ H) (hp : H p = none) (r : Reps C G vs ds) (q : P (.nl ds) mem) : Post C I as G env σ H P (.ref p) (upd H p (.lst vs)) :=
  let ⟨m, x⟩ := k.mm.layH hp (.lst vs)
  ⟨as, G, mem, .nl ds, x, k.ext x m, ⟨p, vs, rfl, upd_same, none_sub k hp, fun h => not_tr hp (k.mm.there p h), r⟩, (fun q e => by cases e; exact not_tr hp), q⟩
/-- a new tuple -/
theorem Post.newTup {P : Rs → Mem → Prop} {p : Addr} {vs : List V} {ds : List D} (k : OkS C I as G env mem σ H) (hp : H p = none) (r : Reps C G vs ds) (q : P (.v (.tup ds)) mem) : Post C I as G env σ H P (.ref p) (upd H p (.tup vs)) := by
  refine Post.lay k hp ?_ q
  have hG := none_sub k hp
  exact .tup (.inl (.inl upd_same)) (r.mono fun a u e => by rw [upd_ne (ne_of_none e hG)]; exact e)
end
/-! ### reading a result -/
def dr (m : Mem) : Rs → Option D
  | .v d => some d
  | .nl ds => some (.lst ds)
  | .loc n => match m[n]? with
    | some (.lst ds) => some (.lst ds)
    | some (.dic ds) => some (.dic ds)
    | _ => none
/-- dicts in cells not -/
def drL (m : Mem) : Rs → Option D
  | .v d => some d
  | .nl ds => some (.lst ds)
  | .loc n => match m[n]? with
    | some (.lst ds) => some (.lst ds)
    | _ => none
section
variable {C : Cn} {I : Iv} {as : List Addr} {G H : Hp} {env : Envt} {mem : Mem} {σ : L2.St} {v : V} {r : Rs} {d : D} {ds : List D}
theorem dr_loc {n : Nat} (e : dr mem (.loc n) = some d) : (∃ ds, d = .lst ds ∧ mem[n]? = some (.lst ds)) ∨ ∃ ds, d = .dic ds ∧ mem[n]? = some (.dic ds) := by
  unfold dr at e
  cases q : mem[n]? with
  | none => simp [q] at e
  | some c =>
    cases c with
    | lst ds => simp [q] at e; exact .inl ⟨ds, e.symm, rfl⟩
    | dic ds => simp [q] at e; exact .inr ⟨ds, e.symm, rfl⟩
    | _ => simp [q] at e
theorem loc_cell (k : OkS C I as G env mem σ H) {n : Nat} {a : Addr} {c : Cell} (ha : as[n]? = some a) (hc : mem[n]? = some c) : CellOk C G H a c := k.mm.cell n a c ha hc
theorem ResOk.rep (k : OkS C I as G env mem σ H) (ro : ResOk C as G H v r) (e : dr mem r = some d) : Rep C H v d := by
  cases r with
  | v x => cases e; exact Rep.mono k.mm.sub ro
  | nl ds =>
    cases e
    obtain ⟨p, vs, rfl, h, _, _, q⟩ := ro
    exact .lst (.inl (.inl h)) (q.mono k.mm.sub)
  | loc n =>
    obtain ⟨a, ha, rfl⟩ := ro
    rcases dr_loc e with ⟨ds, rfl, hc⟩ | ⟨ds, rfl, hc⟩
    · obtain ⟨_, vs, h, q⟩ := loc_cell k ha hc
      exact .lst (.inl (.inl h)) (q.mono k.mm.sub)
    · obtain ⟨_, o, xs, h, n, t, q⟩ := loc_cell k ha hc
      exact .dic h n t (q.mono k.mm.sub)
theorem ResOk.lst (k : OkS C I as G env mem σ H) (ro : ResOk C as G H v r) (e : dr mem r = some (.lst ds)) : ∃ a vs, v = .ref a ∧ SqL C.K H a vs ∧ Reps C G vs ds := by
  cases r with
  | v x =>
    cases e
    cases (show Rep C G v (.lst ds) from ro) with
    | lst h q => exact ⟨_, _, rfl, k.mm.sub.sqL h, q⟩
  | nl ds =>
    cases e
    obtain ⟨p, vs, rfl, h, _, _, q⟩ := ro
    exact ⟨p, vs, rfl, .inl (.inl h), q⟩
  | loc n =>
    obtain ⟨a, ha, rfl⟩ := ro
    rcases dr_loc e with ⟨ds', e1, hc⟩ | ⟨ds', e1, hc⟩ <;> cases e1
    obtain ⟨_, vs, h, q⟩ := loc_cell k ha hc
    exact ⟨a, vs, rfl, .inl (.inl h), q⟩
theorem ResOk.tup (k : OkS C I as G env mem σ H) (ro : ResOk C as G H v r) (e : dr mem r = some (.tup ds)) : ∃ a vs, v = .ref a ∧ SqT C.K H a vs ∧ Reps C G vs ds := by
  cases r with
  | v x =>
    cases e
    cases (show Rep C G v (.tup ds) from ro) with
    | tup h q => exact ⟨_, _, rfl, k.mm.sub.sqT h, q⟩
  | nl ds => cases e
  | loc n =>
    rcases dr_loc e with ⟨ds', e1, hc⟩ | ⟨ds', e1, hc⟩ <;> cases e1
theorem ResOk.int (k : OkS C I as G env mem σ H) {i : Int} (ro : ResOk C as G H v r) (e : dr mem r = some (.int i)) : v = .int i := by cases ro.rep k e; rfl
theorem ResOk.bl (k : OkS C I as G env mem σ H) {b : Bool} (ro : ResOk C as G H v r) (e : dr mem r = some (.bl b)) : v = .bl b := by cases ro.rep k e; rfl
theorem ResOk.str (k : OkS C I as G env mem σ H) {x : Str} (ro : ResOk C as G H v r) (e : dr mem r = some (.str x)) : v = .str x := by cases ro.rep k e; rfl
theorem ResOk.non (k : OkS C I as G env mem σ H) (ro : ResOk C as G H v r) (e : dr mem r = some .non) : v = .non := by cases ro.rep k e; rfl
end
/-- wanted of a result as it is read now -/
def rd (P : D → Mem → Prop) (r : Rs) (m : Mem) : Prop := ∃ d, dr m r = some d ∧ P d m
def rd2 (P : D → D → Mem → Prop) (r1 r2 : Rs) (m : Mem) : Prop := ∃ x y, dr m r1 = some x ∧ dr m r2 = some y ∧ P x y m
/-! ### kinds of operations, by data -/
section
variable {X : Dx} {a b e : Expr} {pos : Pos} {env : Envt} {mem : Mem} {P : Rs → Mem → Prop}
theorem EV.mono {P' : Rs → Mem → Prop} (h : EV X e env mem P) (hp : ∀ r m, P r m → P' r m) : EV X e env mem P' := fun as G σ H k => (h as G σ H k).mono fun _ _ ⟨as', G', m', r, x, k', ro, f, p⟩ => ⟨as', G', m', r, x, k', ro, f, hp r m' p⟩
theorem TV.mono {P P' : Bool → Mem → Prop} (h : TV X e env mem P) (hp : ∀ r m, P r m → P' r m) : TV X e env mem P' := fun as G σ H k => (h as G σ H k).mono fun _ _ ⟨as', G', m', x, k', p⟩ => ⟨as', G', m', x, k', hp _ m' p⟩
/-- a reading on two values from two expressions -/
theorem ev_two {r : R2} {F : Rs → Rs → Mem → Prop} {σ : L2.St} {H : Hp} {as : List Addr} {G : Hp} (k : OkS (Cx.cn X) X.iv as G env mem σ H)
    (ha : EV X a env mem fun r1 m1 => EV X b env m1 fun r2 m2 => F r1 r2 m2)
    (hf : ∀ as G H v1 v2 r1 r2 m, OkS (Cx.cn X) X.iv as G env m σ H → ResOk (Cx.cn X) as G H v1 r1 → ResOk (Cx.cn X) as G H v2 r2 → F r1 r2 m → r v1 v2 H (Post (Cx.cn X) X.iv as G env σ H P))
    (mono : ∀ v1 v2 H Q Q', (∀ v H', Q v H' → Q' v H') → r v1 v2 H Q → r v1 v2 H Q') : tOp r (EW X a) (EW X b) σ H (Post (Cx.cn X) X.iv as G env σ H P) := by
  refine EW.mono (ha as G σ H k) fun v1 H1 ⟨as1, G1, m1, r1, x1, k1, ro1, f1, h1⟩ => ?_
  refine EW.mono (h1 as1 G1 σ H1 k1) fun v2 H2 ⟨as2, G2, m2, r2, x2, k2, ro2, f2, h2⟩ => ?_
  exact mono _ _ _ _ _ (fun v H' q => q.ext (x1.trans x2)) (hf as2 G2 H2 v1 v2 r1 r2 m2 k2 (ro1.ext x2) ro2 h2)
theorem ev_one {t : VK → V → Hp → Prop} {F : Rs → Mem → Prop} {σ : L2.St} {H : Hp} {as : List Addr} {G : Hp} (k : OkS (Cx.cn X) X.iv as G env mem σ H) (ha : EV X a env mem F)
    (hf : ∀ as G H v1 r1 m, OkS (Cx.cn X) X.iv as G env m σ H → ResOk (Cx.cn X) as G H v1 r1 → F r1 m → t (Post (Cx.cn X) X.iv as G env σ H P) v1 H)
    (mono : ∀ v H Q Q', (∀ v H', Q v H' → Q' v H') → t Q v H → t Q' v H) : EW X a σ H (t (Post (Cx.cn X) X.iv as G env σ H P)) := by
  refine EW.mono (ha as G σ H k) fun v1 H1 ⟨as1, G1, m1, r1, x1, k1, ro1, f1, h1⟩ => ?_
  exact mono _ _ _ _ (fun v H' q => q.ext x1) (hf as1 G1 H1 v1 r1 m1 k1 ro1 h1)
/-! ### names, constants -/
def slR : Sl → Rs
  | .v d => .v d
  | .loc n => .loc n
theorem ev_var (i : Nat) {x : Str} {s : Sl} (hs : env[i]? = some (some s)) (hP : P (slR s) mem) (hN : X.N[i]? = some x := by rfl) (hv : Vis X.env.scope x := by first | exact Or.inl rfl | exact Or.inr (Or.inl rfl) | exact Or.inr (Or.inr rfl))
    (hd : (x == ("__debug__" : Str)) = false := by decide) (hcd : (x == ("__classdict__" : Str)) = false := by decide) : EV X (.Name x pos) env mem P := fun as G σ H k => by
  obtain ⟨v, hv', r⟩ := k.env i s hs
  cases s with
  | v d => exact EW.of (pe_var hN hv hd hcd) ⟨v, hv', Post.now (r := .v d) k r hP⟩
  | loc n => exact EW.of (pe_var hN hv hd hcd) ⟨v, hv', Post.now (r := .loc n) k r hP⟩
theorem ev_int {i : Int} {j : Nat} (h : P (.v (.int i)) mem) : EV X (.Constant (.int i) j pos) env mem P := fun as G σ H k => EW.of pe_int (Post.now (r := .v (.int i)) k (Rep.int i) h)
theorem ev_bl {i : Bool} {j : Nat} (h : P (.v (.bl i)) mem) : EV X (.Constant (.bool i) j pos) env mem P := fun as G σ H k => EW.of pe_bl (Post.now (r := .v (.bl i)) k (Rep.bl i) h)
theorem ev_non {j : Nat} (h : P (.v .non) mem) : EV X (.Constant .none j pos) env mem P := fun as G σ H k => EW.of pe_non (Post.now (r := .v .non) k Rep.non h)
theorem ev_str {i : Str} {j : Nat} (h : P (.v (.str i)) mem) : EV X (.Constant (.str i) j pos) env mem P := fun as G σ H k => EW.of pe_str (Post.now (r := .v (.str i)) k (Rep.str i) h)
/-- a module's constant: its data stands in the written part -/
theorem ev_glob {x : Str} {u : Value} {v : V} {d : D} (hm : X.mg x = some u) (hu : RelV v u) (hr : Rep (Cx.cn X) (fun _ => none) v d) (h : P (.v d) mem) (hg : Gl X x := by rfl) (hd : (x == ("__debug__" : Str)) = false := by decide) : EV X (.Name x pos) env mem P := fun as G σ H k =>
  EW.of (pe_glob hg hm hu hd) (Post.now (r := .v d) k (hr.mono fun _ _ z => by cases z) h)
/-! ### operators on ints -/
theorem ev_opI {op : Operator} {r : R2} {f : Int → Int → Int} {c : Int → Int → Prop} (ho : OpR X (binaryOp op) r) (hr : ∀ i j H Q, c i j → Q (.int (f i j)) H → r (.int i) (.int j) H Q) (mono : ∀ v1 v2 H Q Q', (∀ v H', Q v H' → Q' v H') → r v1 v2 H Q → r v1 v2 H Q')
    (h : EV X a env mem fun r1 m1 => EV X b env m1 fun r2 m2 => rd2 (fun x y m => ∃ i j, x = .int i ∧ y = .int j ∧ c i j ∧ P (.v (.int (f i j))) m) r1 r2 m2) : EV X (.BinOp a op b pos) env mem P := fun as G σ H k => by
  refine EW.of (pe_op ho (pe_ew X a) (pe_ew X b)) (ev_two k h (fun as G H v1 v2 r1 r2 m k ro1 ro2 q => ?_) mono)
  obtain ⟨x, y, e1, e2, i, j, rfl, rfl, hc, hP⟩ := q
  rw [ro1.int k e1, ro2.int k e2]
  exact hr i j H _ hc (Post.now (r := .v (.int _)) k (Rep.int _) hP)
theorem rI0_mono {g : Int → Int → V} : ∀ v1 v2 H (Q Q' : VK), (∀ v H', Q v H' → Q' v H') → rI0 g v1 v2 H Q → rI0 g v1 v2 H Q' := fun _ _ _ _ _ h ⟨i, j, e1, e2, q⟩ => ⟨i, j, e1, e2, h _ _ q⟩
theorem rI_mono {c : Int → Int → Prop} {g : Int → Int → V} : ∀ v1 v2 H (Q Q' : VK), (∀ v H', Q v H' → Q' v H') → rI c g v1 v2 H Q → rI c g v1 v2 H Q' := fun _ _ _ _ _ h ⟨i, j, e1, e2, c, q⟩ => ⟨i, j, e1, e2, c, h _ _ q⟩
def int2 (P : Int → Int → Mem → Prop) : Rs → Rs → Mem → Prop := rd2 fun x y m => ∃ i j, x = .int i ∧ y = .int j ∧ P i j m
theorem ev_sub (h : EV X a env mem fun r1 m1 => EV X b env m1 (int2 (fun i j m => P (.v (.int (i - j))) m) r1)) : EV X (.BinOp a .Sub b pos) env mem P :=
  ev_opI (c := fun _ _ => True) op_sub (fun i j H Q _ q => ⟨i, j, rfl, rfl, q⟩) rI0_mono (h.mono fun _ _ h => h.mono fun _ _ ⟨x, y, e1, e2, i, j, f1, f2, p⟩ => ⟨x, y, e1, e2, i, j, f1, f2, trivial, p⟩)
theorem ev_mul (h : EV X a env mem fun r1 m1 => EV X b env m1 (int2 (fun i j m => CMulW i j ∧ P (.v (.int (i * j))) m) r1)) : EV X (.BinOp a .Mult b pos) env mem P :=
  ev_opI op_mulW (fun i j H Q c q => ⟨i, j, rfl, rfl, c, q⟩) rI_mono h
theorem ev_div (h : EV X a env mem fun r1 m1 => EV X b env m1 (int2 (fun i j m => CDivW i j ∧ P (.v (.int (i / j))) m) r1)) : EV X (.BinOp a .FloorDiv b pos) env mem P :=
  ev_opI op_fdivW (fun i j H Q c q => ⟨i, j, rfl, rfl, c, q⟩) rI_mono h
theorem ev_mod (h : EV X a env mem fun r1 m1 => EV X b env m1 (int2 (fun i j m => 0 < j ∧ P (.v (.int (i % j))) m) r1)) : EV X (.BinOp a .Mod b pos) env mem P :=
  ev_opI op_mod (fun i j H Q c q => ⟨i, j, rfl, rfl, c, q⟩) rI_mono h
theorem ev_pow (h : EV X a env mem fun r1 m1 => EV X b env m1 (int2 (fun i j m => CPow i j ∧ P (.v (.int (i ^ j.toNat))) m) r1)) : EV X (.BinOp a .Pow b pos) env mem P :=
  ev_opI op_pow (fun i j H Q c q => ⟨i, j, rfl, rfl, c, q⟩) rI_mono h
theorem ev_neg (h : EV X a env mem (rd fun x m => ∃ i, x = .int i ∧ P (.v (.int (-i))) m)) : EV X (.UnaryOp .USub a pos) env mem P := fun as G σ H k => by
  refine EW.of (pe_un un_neg (pe_ew X a)) (ev_one (t := fun Q v H => rU (fun i => .int (-i)) v H Q) k h (fun as G H v1 r1 m k ro q => ?_) fun _ _ _ _ h ⟨i, e, q⟩ => ⟨i, e, h _ _ q⟩)
  obtain ⟨x, e, i, rfl, hP⟩ := q
  exact ⟨i, ro.int k e, Post.now (r := .v (.int _)) k (Rep.int _) hP⟩
/-! ### comparisons -/
/-- by a rule on values that changes nothing and gives a bool -/
theorem ev_cmpB {op : CmpOp} {r : R2} {c : D → D → Prop} {f : D → D → Bool} (ho : OpR X (compareOp op) r) (hr : ∀ as G σ H v1 v2 r1 r2 m x y (Q : VK), OkS (Cx.cn X) X.iv as G env m σ H → ResOk (Cx.cn X) as G H v1 r1 → ResOk (Cx.cn X) as G H v2 r2 → dr m r1 = some x → dr m r2 = some y → c x y → Q (.bl (f x y)) H → r v1 v2 H Q)
    (mono : ∀ v1 v2 H Q Q', (∀ v H', Q v H' → Q' v H') → r v1 v2 H Q → r v1 v2 H Q') (hm : behindInMarks op b = false)
    (h : EV X a env mem fun r1 m1 => EV X b env m1 (rd2 (fun x y m => c x y ∧ P (.v (.bl (f x y))) m) r1)) : EV X (.Compare a [op] [b] pos) env mem P := fun as G σ H k => by
  refine EW.of (pe_cmpR ho (pe_ew X a) (pe_ew X b) hm) (ev_two k h (fun as G H v1 v2 r1 r2 m k ro1 ro2 q => ?_) mono)
  obtain ⟨x, y, e1, e2, hc, hP⟩ := q
  exact hr as G _ H v1 v2 r1 r2 m x y _ k ro1 ro2 e1 e2 hc (Post.now (r := .v (.bl _)) k (Rep.bl _) hP)
theorem EV.test (h : EV X e env mem (rd fun x m => ∃ b, x = .bl b ∧ P' b m)) (he : ∀ whole, isTrue e X.env whole = (do let v ← whole; standAt e.pos; holding [v] (truthy v)) := by intro _; rfl) : TV X e env mem P' := fun as G σ H k => by
  refine TW.of (pt_val (pe_ew X e) he) ?_
  refine EW.mono (h as G σ H k) fun v1 H1 ⟨as1, G1, m1, r1, x1, k1, ro1, f1, d, e1, b, eb, hP⟩ => ?_
  subst eb
  exact ⟨b, ro1.bl k1 e1, ⟨as1, G1, m1, x1, k1, hP⟩⟩
end
end Dl
/-! Dl3: rules for expressions. -/
namespace Dl
open PySem PySem.Spec PyProof.Rows L2
/-! ### a list just made becomes a value; a cell becomes a value for good -/
def unl : Rs → Sl
  | .v d => .v d
  | .nl ds => .v (.lst ds)
  | .loc n => .loc n
def frz : List Sl → Mem → Option (List D × Mem)
  | [], m => some ([], m)
  | .v d :: r, m => (frz r m).map fun q => (d :: q.1, q.2)
  | .loc n :: r, m => match m[n]? with
    | some (.lst ds) => (frz r (m.set n .gone)).map fun q => (.lst ds :: q.1, q.2)
    | _ => none
section
variable {C : Cn} {I : Iv} {as as' : List Addr} {G G' H H' : Hp} {env : Envt} {mem mem' : Mem} {σ : L2.St} {v : V} {r : Rs}
theorem learn_post (i0 : I.p as G H) (x : Ext as G H as' G' H') (k : OkS C I as' G' env mem' σ H') (ro : ResOk C as' G' H' v r) (f : Fr H v r) : ∃ G'', Ext as G H as' G'' H' ∧ OkS C I as' G'' env mem' σ H' ∧ RepS C as' G'' v (unl r) := by
  cases r with
  | v d => exact ⟨G', x, k, ro⟩
  | loc n => exact ⟨G', x, k, ro⟩
  | nl ds =>
    obtain ⟨p, vs, rfl, h, g, n, q⟩ := ro
    obtain ⟨m, y⟩ := k.mm.learn h g n
    have x2 := y G H as x (f p rfl)
    have sG : Sub G' (upd G' p (.lst vs)) := fun a u e => by rw [upd_ne (ne_of_none e g)]; exact e
    refine ⟨upd G' p (.lst vs), x2, ⟨m, k.len, fun i s e => ?_, I.ext x2 i0⟩, .lst (.inl (.inl upd_same)) (q.mono sG)⟩
    obtain ⟨w, h1, h2⟩ := k.env i s e
    refine ⟨w, h1, ?_⟩
    cases s with
    | v d => exact Rep.mono sG h2
    | loc n => exact h2
theorem freeze_at {n : Nat} {a : Addr} {ds : List D} (k : OkS C I as G env mem σ H) (ha : as[n]? = some a) (hc : mem[n]? = some (.lst ds)) :
    ∃ G1, Ext as G H as G1 H ∧ OkS C I as G1 env (mem.set n .gone) σ H ∧ Rep C G1 (.ref a) (.lst ds) := by
  obtain ⟨g, vs, h, q⟩ := loc_cell k ha hc
  have sG : Sub G (upd G a (.lst vs)) := fun b u e => by rw [upd_ne (ne_of_none e g)]; exact e
  have hm : a ∈ as := List.mem_of_getElem? ha
  have xx : Ext as G H as (upd G a (.lst vs)) H := ⟨⟨[], by simp⟩, sG, fun _ _ _ z _ => z, fun b hb _ e => by rw [upd_ne (fun z => hb (by rw [z]; exact hm))]; exact e, fun _ z w => (w z).elim, fun _ z => z⟩
  refine ⟨upd G a (.lst vs), xx, ⟨⟨?_, k.mm.nd, fun j b c hb hc' => ?_, k.mm.there, fun b u e => ?_, fun b ps e => ?_, k.mm.tabs⟩, k.len, fun i s e => ?_, I.ext xx k.iv⟩, .lst (.inl (.inl upd_same)) (q.mono sG)⟩
  · rw [List.length_set]; exact k.mm.len
  · by_cases hj : j = n
    · subst hj
      have hl : j < mem.length := (List.getElem?_eq_some_iff.mp hc).1
      rw [List.getElem?_set_self hl] at hc'
      cases hc'
      rw [ha] at hb
      cases hb
      exact ⟨_, h, trivial⟩
    · rw [List.getElem?_set_ne (Ne.symm hj)] at hc'
      have z := k.mm.cell j b c hb hc'
      have nb : b ≠ a := fun e => hj ((List.getElem?_inj (List.getElem?_eq_some_iff.mp hb).1 k.mm.nd).mp (by rw [hb, ha, e]))
      exact z.move (fun _ _ _ g => by rw [upd_ne nb]; exact g) (fun o h _ => h) sG
  · by_cases z : b = a
    · subst z; rw [upd_same] at e; cases e; exact h
    · rw [upd_ne z] at e; exact k.mm.sub _ _ e
  · by_cases z : b = a
    · rw [z, upd_same] at e; cases e
    · rw [upd_ne z] at e; exact k.mm.nt _ _ e
  · obtain ⟨w, h1, h2⟩ := k.env i s e
    refine ⟨w, h1, ?_⟩
    cases s with
    | v d => exact Rep.mono sG h2
    | loc n => exact h2
theorem frz_ok : ∀ {vs : List V} {rs : List Sl} {mem : Mem} {G : Hp} {ds : List D} {m' : Mem}, OkS C I as G env mem σ H → RsOk C as G vs rs → frz rs mem = some (ds, m') → ∃ G', Ext as G H as G' H ∧ OkS C I as G' env m' σ H ∧ Reps C G' vs ds
  | _, [], _, _, _, _, k, .nil, e => by
    cases e
    exact ⟨_, .refl _ _ _, k, .nil⟩
  | _, .v d :: rs, mem, _, _, _, k, .cons h r, e => by
    rw [frz] at e
    cases q : frz rs mem with
    | none => rw [q] at e; cases e
    | some p =>
      rw [q] at e
      cases e
      obtain ⟨G', x, k', r'⟩ := frz_ok k r (by rw [q])
      exact ⟨G', x, k', .cons (Rep.mono x.sub h) r'⟩
  | _, .loc n :: rs, mem, _, _, _, k, .cons h r, e => by
    rw [frz] at e
    cases q : mem[n]? with
    | none => rw [q] at e; cases e
    | some c =>
      rw [q] at e
      cases c with
      | gone => cases e
      | ob _ _ => cases e
      | dic _ => cases e
      | lst es =>
        cases q2 : frz rs (mem.set n .gone) with
        | none => simp only [q2] at e; cases e
        | some p =>
          simp only [q2] at e
          cases e
          obtain ⟨a, ha, rfl⟩ := h
          obtain ⟨G1, x1, k1, rp⟩ := freeze_at k ha q
          obtain ⟨G2, x2, k2, r2⟩ := frz_ok k1 (r.ext x1) (by rw [q2])
          exact ⟨G2, x1.trans x2, k2, .cons (rp.mono x2.sub) r2⟩
end
section
variable {X : Dx} {a b c e : Expr} {es rest : List Expr} {pos : Pos} {env : Envt} {mem : Mem} {P : Rs → Mem → Prop} {PT' : Bool → Mem → Prop}
/-! ### argument lists, displays -/
theorem av_nil {P : List Sl → Mem → Prop} (h : P [] mem) : AV X [] env mem P := fun as G σ H k => AW.of pa_nil ⟨as, G, mem, [], .refl _ _ _, k, .nil, h⟩
theorem av_cons {P : List Sl → Mem → Prop} (h : EV X e env mem fun r m => AV X es env m fun rs m' => P (unl r :: rs) m') (hs : starEach (e :: es) X.env = (false, eval e X.env) :: starEach es X.env := by rfl) : AV X (e :: es) env mem P := fun as G σ H k => by
  refine AW.of (pa_cons (pe_ew X e) (pa_aw X es) hs) ?_
  refine EW.mono (h as G σ H k) fun v1 H1 ⟨as1, G1, m1, r1, x1, k1, ro1, f1, h1⟩ => ?_
  obtain ⟨G2, x2, k2, rs2⟩ := learn_post k.iv x1 k1 ro1 f1
  refine AW.mono (h1 as1 G2 σ H1 k2) fun vs H2 ⟨as3, G3, m3, rs, x3, k3, ro3, h3⟩ => ?_
  exact ⟨as3, G3, m3, unl r1 :: rs, x2.trans x3, k3, .cons (rs2.ext x3) ro3, h3⟩
theorem av_one {P : List Sl → Mem → Prop} (h : EV X e env mem fun r m => P [unl r] m) (hs : starEach [e] X.env = (false, eval e X.env) :: starEach [] X.env := by rfl) : AV X [e] env mem P := av_cons (h.mono fun _ _ q => av_nil q) hs
theorem ev_tup {k0 : Nat} (h : AV X es env mem fun rs m => ∃ ds m', frz rs m = some (ds, m') ∧ ds.length ≤ sizeLine ∧ P (.v (.tup ds)) m') : EV X (.Tuple es k0 pos) env mem P := fun as G σ H k => by
  refine EW.of (pe_tup (pa_aw X es)) (AW.mono (h as G σ H k) fun vs H1 ⟨as1, G1, m1, rs, x1, k1, ro, ds, m', e, hl, hP⟩ => ?_)
  obtain ⟨G2, x2, k2, rp⟩ := frz_ok k1 ro e
  exact ⟨by rw [rp.length]; exact hl, fun p hp => (Post.newTup k2 hp rp hP).ext (x1.trans x2)⟩
theorem ev_lst (h : AV X es env mem fun rs m => ∃ ds m', frz rs m = some (ds, m') ∧ ds.length ≤ sizeLine ∧ P (.nl ds) m') : EV X (.List es pos) env mem P := fun as G σ H k => by
  refine EW.of (pe_lst (pa_aw X es)) (AW.mono (h as G σ H k) fun vs H1 ⟨as1, G1, m1, rs, x1, k1, ro, ds, m', e, hl, hP⟩ => ?_)
  obtain ⟨G2, x2, k2, rp⟩ := frz_ok k1 ro e
  exact ⟨by rw [rp.length]; exact hl, fun p hp => (Post.newList k2 hp rp hP).ext (x1.trans x2)⟩
/-! ### comparisons by rules -/
structure CmpRule (X : Dx) (op : CmpOp) (c : D → D → Prop) (f : D → D → Bool) where
  r : R2
  ho : OpR X (compareOp op) r
  hr : ∀ as G σ H env v1 v2 r1 r2 m x y (Q : VK), OkS (Cx.cn X) X.iv as G env m σ H → ResOk (Cx.cn X) as G H v1 r1 → ResOk (Cx.cn X) as G H v2 r2 → dr m r1 = some x → dr m r2 = some y → c x y → Q (.bl (f x y)) H → r v1 v2 H Q
  mono : ∀ v1 v2 H Q Q', (∀ v H', Q v H' → Q' v H') → r v1 v2 H Q → r v1 v2 H Q'
theorem ev_cmp {op : CmpOp} {c : D → D → Prop} {f : D → D → Bool} (R : CmpRule X op c f) (h : EV X a env mem fun r1 m1 => EV X b env m1 (rd2 (fun x y m => c x y ∧ P (.v (.bl (f x y))) m) r1)) (hm : behindInMarks op b = false := by first | exact nomark _ | rfl) :
    EV X (.Compare a [op] [b] pos) env mem P := ev_cmpB R.ho (fun as G σ H v1 v2 r1 r2 m x y Q => R.hr as G σ H _ v1 v2 r1 r2 m x y Q) R.mono hm h
theorem tv_cmp {op : CmpOp} {c : D → D → Prop} {f : D → D → Bool} (R : CmpRule X op c f) (h : EV X a env mem fun r1 m1 => EV X b env m1 (rd2 (fun x y m => c x y ∧ PT' (f x y) m) r1)) (hm : behindInMarks op b = false := by first | exact nomark _ | rfl) :
    TV X (.Compare a [op] [b] pos) env mem PT' := fun as G σ H k => by
  refine TW.of (pt_cmpR R.ho (pe_ew X a) (pe_ew X b) hm) ?_
  show tOp R.r (EW X a) (EW X b) σ H (fun x H' => ∃ k, x = .bl k ∧ PostT (Cx.cn X) X.iv as G env σ H PT' k H')
  refine EW.mono (h as G σ H k) fun v1 H1 ⟨as1, G1, m1, r1, x1, k1, ro1, f1, h1⟩ => ?_
  refine EW.mono (h1 as1 G1 σ H1 k1) fun v2 H2 ⟨as2, G2, m2, r2, x2, k2, ro2, f2, x, y, e1, e2, hc, hP⟩ => ?_
  exact R.hr as2 G2 σ H2 env v1 v2 r1 r2 m2 x y _ k2 (ro1.ext x2) ro2 e1 e2 hc ⟨_, rfl, as2, G2, m2, x1.trans x2, k2, hP⟩
theorem ev_chain {op op' : CmpOp} {c c' : D → D → Prop} {f f' : D → D → Bool} {b2 : Expr} (R : CmpRule X op c f) (R' : CmpRule X op' c' f')
    (h : EV X a env mem fun r1 m1 => EV X b env m1 fun r2 m2 => rd2 (fun x y m => c x y ∧ cond (f x y) (EV X b2 env m (rd2 (fun y z m' => c' y z ∧ P (.v (.bl (f' y z))) m') r2)) (P (.v (.bl false)) m)) r1 r2 m2)
    (hm : lastMarks [op, op'] [b, b2] = false := by with_unfolding_all rfl) : EV X (.Compare a [op, op'] [b, b2] pos) env mem P := fun as G σ H k => by
  refine EW.of (pe_chain R.ho R'.ho (pe_ew X a) (pe_ew X b) (pe_ew X b2) hm) ?_
  refine EW.mono (h as G σ H k) fun v1 H1 ⟨as1, G1, m1, r1, x1, k1, ro1, f1, h1⟩ => ?_
  refine EW.mono (h1 as1 G1 σ H1 k1) fun v2 H2 ⟨as2, G2, m2, r2, x2, k2, ro2, f2, x, y, e1, e2, hc, hP⟩ => ?_
  refine R.hr as2 G2 σ H2 env v1 v2 r1 r2 m2 x y _ k2 (ro1.ext x2) ro2 e1 e2 hc ⟨_, rfl, ?_⟩
  cases q : f x y with
  | false =>
    rw [q] at hP
    exact (Post.now (r := .v (.bl false)) k2 (Rep.bl _) hP).ext (x1.trans x2)
  | true =>
    rw [q] at hP
    refine EW.mono (hP as2 G2 σ H2 k2) fun v3 H3 ⟨as3, G3, m3, r3, x3, k3, ro3, f3, y', z, e3, e4, hc', hP'⟩ => ?_
    exact R'.hr as3 G3 σ H3 env v2 v3 r2 r3 m3 y' z _ k3 (ro2.ext x3) ro3 e3 e4 hc' ((Post.now (r := .v (.bl _)) k3 (Rep.bl _) hP').ext ((x1.trans x2).trans x3))
theorem tv_chain {op op' : CmpOp} {c c' : D → D → Prop} {f f' : D → D → Bool} {b2 : Expr} (R : CmpRule X op c f) (R' : CmpRule X op' c' f')
    (h : EV X a env mem fun r1 m1 => EV X b env m1 fun r2 m2 => rd2 (fun x y m => c x y ∧ cond (f x y) (EV X b2 env m (rd2 (fun y z m' => c' y z ∧ PT' (f' y z) m') r2)) (PT' false m)) r1 r2 m2)
    (hm : lastMarks [op, op'] [b, b2] = false := by with_unfolding_all rfl) : TV X (.Compare a [op, op'] [b, b2] pos) env mem PT' := fun as G σ H k => by
  refine TW.of (pt_chain R.ho R'.ho (pe_ew X a) (pe_ew X b) (pe_ew X b2) hm) ?_
  show tChain R.r R'.r (EW X a) (EW X b) (EW X b2) σ H (fun x H' => ∃ k, x = .bl k ∧ PostT (Cx.cn X) X.iv as G env σ H PT' k H')
  refine EW.mono (h as G σ H k) fun v1 H1 ⟨as1, G1, m1, r1, x1, k1, ro1, f1, h1⟩ => ?_
  refine EW.mono (h1 as1 G1 σ H1 k1) fun v2 H2 ⟨as2, G2, m2, r2, x2, k2, ro2, f2, x, y, e1, e2, hc, hP⟩ => ?_
  refine R.hr as2 G2 σ H2 env v1 v2 r1 r2 m2 x y _ k2 (ro1.ext x2) ro2 e1 e2 hc ⟨_, rfl, ?_⟩
  cases q : f x y with
  | false =>
    rw [q] at hP
    exact ⟨_, rfl, as2, G2, m2, x1.trans x2, k2, hP⟩
  | true =>
    rw [q] at hP
    refine EW.mono (hP as2 G2 σ H2 k2) fun v3 H3 ⟨as3, G3, m3, r3, x3, k3, ro3, f3, y', z, e3, e4, hc', hP'⟩ => ?_
    exact R'.hr as3 G3 σ H3 env v2 v3 r2 r3 m3 y' z _ k3 (ro2.ext x3) ro3 e3 e4 hc' ⟨_, rfl, as3, G3, m3, (x1.trans x2).trans x3, k3, hP'⟩
def isI : D → Prop
  | .int _ => True
  | _ => False
def fI (p : Int → Int → Bool) : D → D → Bool
  | .int i, .int j => p i j
  | _, _ => false
def cI (x y : D) : Prop := isI x ∧ isI y
def cmpI {op : CmpOp} {p : Int → Int → Bool} (ho : OpR X (compareOp op) (rI0 fun i j => .bl (p i j))) : CmpRule X op cI (fI p) where
  r := rI0 fun i j => .bl (p i j)
  ho := ho
  hr := fun as G σ H env v1 v2 r1 r2 m x y Q k ro1 ro2 e1 e2 hc q => by
    obtain ⟨c1, c2⟩ := hc
    cases x <;> try exact c1.elim
    cases y <;> try exact c2.elim
    exact ⟨_, _, ro1.int k e1, ro2.int k e2, q⟩
  mono := rI0_mono
def cLt : CmpRule X .Lt cI (fI fun i j => decide (i < j)) := cmpI op_lt
def cLe : CmpRule X .LtE cI (fI fun i j => decide (i ≤ j)) := cmpI op_le
def cGt : CmpRule X .Gt cI (fI fun i j => decide (j < i)) := cmpI op_gt
def cGe : CmpRule X .GtE cI (fI fun i j => decide (j ≤ i)) := cmpI op_ge
def cSh (x y : D) : Prop := sh x = true ∧ sh y = true
def cEq (hu : X.A.units + 65 < cLine) : CmpRule X .Eq cSh eqD where
  r := rEqD X.K
  ho := op_eqD (by omega)
  hr := fun as G σ H env v1 v2 r1 r2 m x y Q k ro1 ro2 e1 e2 hc q => ⟨_, _, (ro1.rep k e1).dpS hc.1, (ro2.rep k e2).dpS hc.2, hc.1, hc.2, q⟩
  mono := fun _ _ _ _ _ h ⟨d, e, a, b, c, c', q⟩ => ⟨d, e, a, b, c, c', h _ _ q⟩
def cNe (hu : X.A.units + 65 < cLine) : CmpRule X .NotEq cSh (fun x y => !eqD x y) where
  r := rNeD X.K
  ho := op_neD (by omega)
  hr := fun as G σ H env v1 v2 r1 r2 m x y Q k ro1 ro2 e1 e2 hc q => ⟨_, _, (ro1.rep k e1).dpS hc.1, (ro2.rep k e2).dpS hc.2, hc.1, hc.2, q⟩
  mono := fun _ _ _ _ _ h ⟨d, e, a, b, c, c', q⟩ => ⟨d, e, a, b, c, c', h _ _ q⟩
def items : D → List D
  | .lst ds => ds
  | .tup ds => ds
  | _ => []
theorem any_toPy (x : D) : ∀ ds : List D, ((toPys ds).any fun z => PyData.eqv z (toPy x)) = inD x ds
  | [] => by rw [toPys]; rfl
  | d :: ds => by
    rw [toPys, List.any_cons, any_toPy x ds]
    rfl
def isN : D → Bool
  | .non => true
  | _ => false
def cN (x y : D) : Prop := isN y = true
theorem rep_isN {C : Cn} {G : Hp} {v : V} {d : D} (h : Rep C G v d) : decide (v = .non) = isN d := by
  cases h <;> rfl
def cIs : CmpRule X .Is cN (fun x _ => isN x) where
  r := _
  ho := op_isN
  hr := fun as G σ H env v1 v2 r1 r2 m x y Q k ro1 ro2 e1 e2 hc q => by
    have h2 := ro2.rep k e2
    cases y <;> try cases hc
    cases h2
    exact ⟨rfl, by rw [rep_isN (ro1.rep k e1)]; exact q⟩
  mono := fun _ _ _ _ _ h ⟨d, q⟩ => ⟨d, h _ _ q⟩
def cIsNot : CmpRule X .IsNot cN (fun x _ => !isN x) where
  r := _
  ho := op_notN
  hr := fun as G σ H env v1 v2 r1 r2 m x y Q k ro1 ro2 e1 e2 hc q => by
    have h2 := ro2.rep k e2
    cases y <;> try cases hc
    cases h2
    exact ⟨rfl, by rw [rep_isN (ro1.rep k e1)]; exact q⟩
  mono := fun _ _ _ _ _ h ⟨d, q⟩ => ⟨d, h _ _ q⟩
/-! ### tests -/
theorem wv_and1 (h : TV X a env mem PT') : WV X (.BoolOp .And [a] pos) env mem PT' := fun as G σ H k => WW.of (pw_and1 (pt_tw X a)) (h as G σ H k)
theorem wv_or1 (h : TV X a env mem PT') : WV X (.BoolOp .Or [a] pos) env mem PT' := fun as G σ H k => WW.of (pw_or1 (pt_tw X a)) (h as G σ H k)
theorem wv_and (h : TV X a env mem fun t m => cond t (WV X (.BoolOp .And (b :: rest) pos) env m PT') (PT' false m)) : WV X (.BoolOp .And (a :: b :: rest) pos) env mem PT' := fun as G σ H k => by
  refine WW.of (pw_and (pt_tw X a) (pw_ww X _)) (TW.mono (h as G σ H k) fun t H1 ⟨as1, G1, m1, x1, k1, h1⟩ => ?_)
  cases t with
  | true => exact WW.mono (h1 as1 G1 σ H1 k1) fun _ _ q => q.ext x1
  | false => exact ⟨as1, G1, m1, x1, k1, h1⟩
theorem wv_or (h : TV X a env mem fun t m => cond t (PT' true m) (WV X (.BoolOp .Or (b :: rest) pos) env m PT')) : WV X (.BoolOp .Or (a :: b :: rest) pos) env mem PT' := fun as G σ H k => by
  refine WW.of (pw_or (pt_tw X a) (pw_ww X _)) (TW.mono (h as G σ H k) fun t H1 ⟨as1, G1, m1, x1, k1, h1⟩ => ?_)
  cases t with
  | false => exact WW.mono (h1 as1 G1 σ H1 k1) fun _ _ q => q.ext x1
  | true => exact ⟨as1, G1, m1, x1, k1, h1⟩
theorem tv_bool (h : WV X e env mem PT') : TV X e env mem PT' := fun as G σ H k => TW.of (pw_ww X e).pt (h as G σ H k)
theorem tv_not (h : TV X a env mem fun t m => PT' (!t) m) : TV X (.UnaryOp .Not a pos) env mem PT' := fun as G σ H k => by
  exact TW.of (pt_not (pt_tw X a)) (TW.mono (h as G σ H k) fun t H1 q => q)
/-! ### and, or, not as values -/
theorem ev_last {op : BoolOp} (h : EV X a env mem P) : EV X (.BoolOp op [a] pos) env mem P := fun as G σ H k => EW.of (pe_one (pe_ew X a)) (h as G σ H k)
theorem ev_and (h : EV X a env mem (rd fun x m => ∃ t, x = .bl t ∧ cond t (EV X (.BoolOp .And (b :: rest) pos) env m P) (P (.v (.bl false)) m))) : EV X (.BoolOp .And (a :: b :: rest) pos) env mem P := fun as G σ H k => by
  refine EW.of (pe_and (pe_ew X a) (pe_ew X _)) (EW.mono (h as G σ H k) fun v1 H1 ⟨as1, G1, m1, r1, x1, k1, ro1, f1, x, e1, t, et, h1⟩ => ?_)
  subst et
  refine ⟨t, ro1.bl k1 e1, ?_⟩
  cases t with
  | true => exact EW.mono (h1 as1 G1 σ H1 k1) fun _ _ q => q.ext x1
  | false => exact (Post.now (r := .v (.bl false)) k1 (Rep.bl _) h1).ext x1
theorem ev_or (h : EV X a env mem (rd fun x m => ∃ t, x = .bl t ∧ cond t (P (.v (.bl true)) m) (EV X (.BoolOp .Or (b :: rest) pos) env m P))) : EV X (.BoolOp .Or (a :: b :: rest) pos) env mem P := fun as G σ H k => by
  refine EW.of (pe_or (pe_ew X a) (pe_ew X _)) (EW.mono (h as G σ H k) fun v1 H1 ⟨as1, G1, m1, r1, x1, k1, ro1, f1, x, e1, t, et, h1⟩ => ?_)
  subst et
  refine ⟨t, ro1.bl k1 e1, ?_⟩
  cases t with
  | false => exact EW.mono (h1 as1 G1 σ H1 k1) fun _ _ q => q.ext x1
  | true => exact (Post.now (r := .v (.bl true)) k1 (Rep.bl _) h1).ext x1
theorem ev_not (h : EV X a env mem (rd fun x m => ∃ t, x = .bl t ∧ P (.v (.bl (!t))) m)) : EV X (.UnaryOp .Not a pos) env mem P := fun as G σ H k => by
  refine EW.of (pe_not (pe_ew X a)) (EW.mono (h as G σ H k) fun v1 H1 ⟨as1, G1, m1, r1, x1, k1, ro1, f1, x, e1, t, et, h1⟩ => ?_)
  subst et
  exact ⟨t, ro1.bl k1 e1, (Post.now (r := .v (.bl _)) k1 (Rep.bl _) h1).ext x1⟩
theorem ev_if (h : TV X c env mem fun t m => cond t (EV X a env m P) (EV X b env m P)) : EV X (.IfExp c a b pos) env mem P := fun as G σ H k => by
  refine EW.of (pe_ifExp (pt_tw X c) (pe_ew X a) (pe_ew X b)) (TW.mono (h as G σ H k) fun t H1 ⟨as1, G1, m1, x1, k1, h1⟩ => ?_)
  cases t with
  | true => exact EW.mono (h1 as1 G1 σ H1 k1) fun _ _ q => q.ext x1
  | false => exact EW.mono (h1 as1 G1 σ H1 k1) fun _ _ q => q.ext x1
/-! ### items, slices -/
def ixD : D → Int → Option D
  | .lst ds, i => atI ds i
  | .tup ds, i => atI ds i
  | .str z, i => if z.length ≤ sizeLine then (atI z.cps.toList i).map fun c => .str ⟨#[c]⟩ else none
  | _, _ => none
theorem at_reps {C : Cn} {G : Hp} {vs : List V} {ds : List D} {i : Int} {d : D} (r : Reps C G vs ds) (e : atI ds i = some d) : ∃ v, atI vs i = some v ∧ Rep C G v d := by
  unfold atI at e ⊢
  rw [r.length]
  cases q : ixN ds.length i with
  | none => rw [q] at e; cases e
  | some j =>
    rw [q] at e
    exact r.get e
theorem ev_ix (h : EV X a env mem fun r1 m1 => EV X b env m1 (rd2 (fun x y m => ∃ i d, y = .int i ∧ ixD x i = some d ∧ P (.v d) m) r1)) (hs : PlainIx b := by intro _ _; rfl) : EV X (.Subscript a b pos) env mem P := fun as G σ H k => by
  refine EW.of (pe_ix ix_seq (pe_ew X a) (pe_ew X b) hs) (ev_two k h (fun as G H v1 v2 r1 r2 m k ro1 ro2 q => ?_) ?_)
  · obtain ⟨x, y, e1, e2, i, d, rfl, hd, hP⟩ := q
    have hi := ro2.int k e2
    cases x with
    | lst ds =>
      obtain ⟨p, vs, rfl, hq, rp⟩ := ro1.lst k e1
      obtain ⟨v, hv, rv⟩ := at_reps rp hd
      exact .inl ⟨p, vs, i, v, rfl, hi, hq, hv, Post.now (r := .v d) k rv hP⟩
    | tup ds =>
      obtain ⟨p, vs, rfl, hq, rp⟩ := ro1.tup k e1
      obtain ⟨v, hv, rv⟩ := at_reps rp hd
      exact .inr (.inl ⟨p, vs, i, v, rfl, hi, hq, hv, Post.now (r := .v d) k rv hP⟩)
    | str z =>
      have hd' : (if z.length ≤ sizeLine then (atI z.cps.toList i).map fun c => (.str ⟨#[c]⟩ : D) else none) = some d := hd
      by_cases hz : z.length ≤ sizeLine
      · rw [if_pos hz] at hd'
        cases q : atI z.cps.toList i with
        | none => rw [q] at hd'; cases hd'
        | some c =>
          rw [q] at hd'
          cases hd'
          exact .inr (.inr ⟨z, i, c, ro1.str k e1, hi, hz, q, Post.now (r := .v (.str _)) k (Rep.str _) hP⟩)
      · rw [if_neg hz] at hd'
        cases hd'
    | _ => cases hd
  · intro v1 v2 H Q Q' h q
    rcases q with ⟨p, xs, i, v, a1, a2, a3, a4, q⟩ | ⟨p, xs, i, v, a1, a2, a3, a4, q⟩ | ⟨p, xs, i, a1, a2, a3, a4, q⟩
    · exact .inl ⟨p, xs, i, v, a1, a2, a3, a4, h _ _ q⟩
    · exact .inr (.inl ⟨p, xs, i, v, a1, a2, a3, a4, h _ _ q⟩)
    · exact .inr (.inr ⟨p, xs, i, a1, a2, a3, a4, h _ _ q⟩)
def cutG {α : Type} (xs : List α) (lo hi : Option Int) : List α := (xs.drop (HT.sIx xs.length 0 lo)).take (HT.sIx xs.length xs.length hi - HT.sIx xs.length 0 lo)
theorem cut_reps {C : Cn} {G : Hp} {vs : List V} {ds : List D} (r : Reps C G vs ds) (lo hi : Option Int) : Reps C G (cutV vs lo hi) (cutG ds lo hi) := by
  unfold cutV cutG
  rw [r.length]
  exact (r.drop _).take _
def OW (X : Dx) (e : Option Expr) : TO := fun σ H Q => ∀ (pins : List (Addr × Obj)) (s : Shared), Inv X pins σ H s → wpAny (model X.prog X.w) X.A (evalPart e X.env) (fun u s' => ∃ o H', Inv X pins σ H' s' ∧ IsPart u o ∧ Q o H') X.xe s
theorem po_ow (X : Dx) (e : Option Expr) : PO X e (OW X e) := ⟨fun pins s _ _ _ I h => h pins s I⟩
theorem OW.of {e : Option Expr} {t : TO} {σ : L2.St} {H : Hp} {Q : Option Int → Hp → Prop} (h : PO X e t) (q : t σ H Q) : OW X e σ H Q := fun pins s I => h.run pins s σ H Q I q
theorem OW.mono {e : Option Expr} {σ : L2.St} {H : Hp} {Q Q' : Option Int → Hp → Prop} (h : OW X e σ H Q) (hq : ∀ v H', Q v H' → Q' v H') : OW X e σ H Q' := fun pins s I => thn (h pins s I) fun _ _ ⟨v, H', I', r, q⟩ => ⟨v, H', I', r, hq v H' q⟩
def OV (X : Dx) (e : Option Expr) (env : Envt) (mem : Mem) (P : Option Int → Mem → Prop) : Prop := ∀ as G σ H, OkS (Cx.cn X) X.iv as G env mem σ H → OW X e σ H (fun o H' => ∃ as' G' mem', Ext as G H as' G' H' ∧ OkS (Cx.cn X) X.iv as' G' env mem' σ H' ∧ P o mem')
theorem ov_none {P : Option Int → Mem → Prop} (h : P none mem) : OV X none env mem P := fun as G σ H k => OW.of po_none ⟨as, G, mem, .refl _ _ _, k, h⟩
theorem ov_some {P : Option Int → Mem → Prop} (h : EV X e env mem (rd fun x m => ∃ i, x = .int i ∧ P (some i) m)) : OV X (some e) env mem P := fun as G σ H k => by
  refine OW.of (po_some (pe_ew X e)) (EW.mono (h as G σ H k) fun v1 H1 ⟨as1, G1, m1, r1, x1, k1, ro1, f1, x, e1, i, ei, h1⟩ => ?_)
  subst ei
  exact ⟨i, ro1.int k1 e1, as1, G1, m1, x1, k1, h1⟩
def slcD (P : Rs → Mem → Prop) (lo hi : Option Int) (m : Mem) : D → Prop
  | .lst ds => P (.nl (cutG ds lo hi)) m
  | .tup ds => P (.v (.tup (cutG ds lo hi))) m
  | _ => False
theorem ev_slice {lo hi : Option Expr} {p2 : Pos} (h : EV X a env mem fun r m1 => OV X lo env m1 fun l m2 => OV X hi env m2 fun u m3 => ∃ x, dr m3 r = some x ∧ slcD P l u m3 x) : EV X (.Subscript a (.Slice lo hi none p2) pos) env mem P := fun as G σ H k => by
  refine EW.of (pe_slice (sl_list.or sl_tupA) (pe_ew X a) (po_ow X lo) (po_ow X hi)) ?_
  refine EW.mono (h as G σ H k) fun v1 H1 ⟨as1, G1, m1, r1, x1, k1, ro1, f1, h1⟩ => ?_
  refine OW.mono (h1 as1 G1 σ H1 k1) fun l H2 ⟨as2, G2, m2, x2, k2, h2⟩ => ?_
  refine OW.mono (h2 as2 G2 σ H2 k2) fun u H3 ⟨as3, G3, m3, x3, k3, x, ex, h3⟩ => ?_
  have ro := (ro1.ext x2).ext x3
  have xx := (x1.trans x2).trans x3
  cases x with
  | lst ds =>
    obtain ⟨p, vs, rfl, hq, rp⟩ := ro.lst k3 ex
    exact .inl ⟨p, vs, rfl, hq, fun q hq => (Post.newList k3 hq (cut_reps rp l u) h3).ext xx⟩
  | tup ds =>
    obtain ⟨p, vs, rfl, hq, rp⟩ := ro.tup k3 ex
    refine .inr ⟨p, vs, rfl, hq, fun hw => ?_, fun _ q hq => (Post.newTup k3 hq (cut_reps rp l u) h3).ext xx⟩
    have e : cutG ds l u = ds := by
      unfold cutG
      rw [rp.length] at hw
      rw [hw.1, hw.2, List.drop_zero, Nat.sub_zero, List.take_length]
    have h3' : P (.v (.tup (cutG ds l u))) m3 := h3
    rw [e] at h3'
    have rt : Rep (Cx.cn X) G3 (.ref p) (.tup ds) := by
      cases r1 with
      | v d => cases ex; exact ro
      | nl es => cases ex
      | loc n => rcases dr_loc ex with ⟨_, e', _⟩ | ⟨_, e', _⟩ <;> cases e'
    exact (Post.now (r := .v (.tup ds)) k3 rt h3').ext xx
  | _ => exact h3.elim
end
end Dl
/-! Dl4: calls of built-ins, methods of lists. -/
namespace Dl
open PySem PySem.Spec PyProof.Rows L2
theorem RepS.res {C : Cn} {as : List Addr} {G H : Hp} {v : V} : ∀ {s : Sl}, RepS C as G v s → ResOk C as G H v (slR s)
  | .v _, h => h
  | .loc _, h => h
theorem dr_unl (m : Mem) (r : Rs) : dr m (slR (unl r)) = dr m r := by cases r <;> rfl
section
variable {X : Dx} {a b c e : Expr} {es rest : List Expr} {pos p0 : Pos} {env : Envt} {mem : Mem} {P : Rs → Mem → Prop}
/-! ### calls of built-ins -/
theorem ev_B {x : Str} {id : String} {r : List V → Hp → VK → Prop} {F : List Sl → Mem → Prop} (hc : CallR X (.builtin id) r) (hv : bootBuiltins x = some (.builtin id)) (hm : X.mg x = none) (h : AV X (e :: es) env mem F)
    (hr : ∀ as G σ H vs rs m, OkS (Cx.cn X) X.iv as G env m σ H → RsOk (Cx.cn X) as G vs rs → F rs m → r vs H (Post (Cx.cn X) X.iv as G env σ H P)) (mono : ∀ vs H Q Q', (∀ v H', Q v H' → Q' v H') → r vs H Q → r vs H Q')
    (hg : Gl X x := by rfl) (hn : x ≠ "__name__" := by decide) (hdb : (x == ("__debug__" : Str)) = false := by decide)
    (he : starEach (e :: es) X.env = (false, eval e X.env) :: starEach es X.env := by rfl) (hpl : (backTo pos (starEach es X.env)).any (·.1) = false := by rfl) : EV X (.Call (.Name x p0) (e :: es) [] pos) env mem P := fun as G σ H k => by
  refine EW.of (pe_callB hc hg hm hv (pa_aw X (e :: es)) hn hdb he hpl) (AW.mono (h as G σ H k) fun vs H1 ⟨as1, G1, m1, rs, x1, k1, ro1, h1⟩ => ?_)
  exact mono _ _ _ _ (fun v H' q => q.ext x1) (hr as1 G1 σ H1 vs rs m1 k1 ro1 h1)
theorem ev_T {x : Str} {T : String} {r : List V → Hp → VK → Prop} {F : List Sl → Mem → Prop} (hc : CallR X (.type T) r) (hv : bootBuiltins x = some (.type T)) (hm : X.mg x = none) (h : AV X (e :: es) env mem F)
    (hr : ∀ as G σ H vs rs m, OkS (Cx.cn X) X.iv as G env m σ H → RsOk (Cx.cn X) as G vs rs → F rs m → r vs H (Post (Cx.cn X) X.iv as G env σ H P)) (mono : ∀ vs H Q Q', (∀ v H', Q v H' → Q' v H') → r vs H Q → r vs H Q')
    (hg : Gl X x := by rfl) (hn : x ≠ "__name__" := by decide) (hdb : (x == ("__debug__" : Str)) = false := by decide)
    (he : starEach (e :: es) X.env = (false, eval e X.env) :: starEach es X.env := by rfl) (hpl : (backTo pos (starEach es X.env)).any (·.1) = false := by rfl) : EV X (.Call (.Name x p0) (e :: es) [] pos) env mem P := fun as G σ H k => by
  refine EW.of (pe_callTy hc hg hm hv (pa_aw X (e :: es)) hn hdb he hpl) (AW.mono (h as G σ H k) fun vs H1 ⟨as1, G1, m1, rs, x1, k1, ro1, h1⟩ => ?_)
  exact mono _ _ _ _ (fun v H' q => q.ext x1) (hr as1 G1 σ H1 vs rs m1 k1 ro1 h1)
/-- one argument, read -/
def arg1 (P : D → Mem → Prop) : List Sl → Mem → Prop
  | [s], m => ∃ d, dr m (slR s) = some d ∧ P d m
  | _, _ => False
theorem av_arg {P : D → Mem → Prop} (h : EV X e env mem (rd P)) (hs : starEach [e] X.env = (false, eval e X.env) :: starEach [] X.env := by rfl) : AV X [e] env mem (arg1 P) :=
  av_one (h.mono fun r m ⟨d, e1, q⟩ => ⟨d, by rw [dr_unl]; exact e1, q⟩) hs
def lenD : D → Option Nat
  | .lst ds => some ds.length
  | .tup ds => some ds.length
  | .str z => if z.length ≤ sizeLine then some z.length else none
  | _ => none
theorem ev_len (hm : X.mg "len" = none) (h : EV X e env mem (rd fun x m => ∃ n, lenD x = some n ∧ P (.v (.int (n : Int))) m)) (hg : Gl X "len" := by rfl) (he : starEach [e] X.env = (false, eval e X.env) :: starEach [] X.env := by rfl) : EV X (.Call (.Name "len" p0) [e] [] pos) env mem P := by
  refine ev_B call_len PySem.boot_len hm (av_arg h he) (fun as G σ H vs rs m k ro q => ?_) (fun vs H Q Q' h ⟨x, n, a1, a2, q⟩ => ⟨x, n, a1, a2, h _ _ q⟩) hg (by decide) (by decide) he rfl
  cases ro with
  | nil => exact q.elim
  | cons r1 rr =>
    cases rr with
    | cons _ _ => exact q.elim
    | nil =>
      obtain ⟨d, e1, n, hn, hP⟩ := q
      have ro := r1.res (H := H)
      refine ⟨_, n, rfl, ?_, Post.now (r := .v (.int n)) k (Rep.int _) hP⟩
      cases d with
      | lst ds =>
        obtain ⟨p, ws, rfl, hq, rp⟩ := ro.lst k e1
        cases hn
        exact .inl ⟨ws, hq, rp.length.symm⟩
      | tup ds =>
        obtain ⟨p, ws, rfl, hq, rp⟩ := ro.tup k e1
        cases hn
        exact .inr ⟨ws, hq, rp.length.symm⟩
      | str z =>
        rw [ro.str k e1]
        have hn' : (if z.length ≤ sizeLine then some z.length else none) = some n := hn
        by_cases hz : z.length ≤ sizeLine
        · rw [if_pos hz] at hn'
          cases hn'
          exact ⟨hz, rfl⟩
        · rw [if_neg hz] at hn'
          cases hn'
      | _ => cases hn
theorem ev_abs (hm : X.mg "abs" = none) (h : EV X e env mem (rd fun x m => ∃ i, x = .int i ∧ P (.v (.int (if i < 0 then -i else i))) m)) (hg : Gl X "abs" := by rfl) (he : starEach [e] X.env = (false, eval e X.env) :: starEach [] X.env := by rfl) : EV X (.Call (.Name "abs" p0) [e] [] pos) env mem P := by
  refine ev_B call_abs (by decide +kernel) hm (av_arg h he) (fun as G σ H vs rs m k ro q => ?_) (fun vs H Q Q' h ⟨x, a1, q⟩ => ⟨x, a1, h _ _ q⟩) hg (by decide) (by decide) he rfl
  cases ro with
  | nil => exact q.elim
  | cons r1 rr =>
    cases rr with
    | cons _ _ => exact q.elim
    | nil =>
      obtain ⟨d, e1, i, rfl, hP⟩ := q
      exact ⟨i, by rw [(r1.res (H := H)).int k e1], Post.now (r := .v (.int _)) k (Rep.int _) hP⟩
def intOf : D → Option Int
  | .int i => some i
  | .bl b => some (if b then 1 else 0)
  | _ => none
theorem ev_intOf (hm : X.mg "int" = none) (h : EV X e env mem (rd fun x m => ∃ i, intOf x = some i ∧ P (.v (.int i)) m)) (hg : Gl X "int" := by rfl) (he : starEach [e] X.env = (false, eval e X.env) :: starEach [] X.env := by rfl) : EV X (.Call (.Name "int" p0) [e] [] pos) env mem P := by
  refine ev_T call_int1 (by decide +kernel) hm (av_arg h he) (fun as G σ H vs rs m k ro q => ?_) (fun vs H Q Q' h q => q.elim (fun ⟨i, a, q⟩ => .inl ⟨i, a, h _ _ q⟩) fun ⟨i, a, q⟩ => .inr ⟨i, a, h _ _ q⟩) hg (by decide) (by decide) he rfl
  cases ro with
  | nil => exact q.elim
  | cons r1 rr =>
    cases rr with
    | cons _ _ => exact q.elim
    | nil =>
      obtain ⟨d, e1, i, hi, hP⟩ := q
      cases d with
      | int j =>
        cases hi
        exact .inl ⟨_, by rw [(r1.res (H := H)).int k e1], Post.now (r := .v (.int _)) k (Rep.int _) hP⟩
      | bl t =>
        cases hi
        exact .inr ⟨_, by rw [(r1.res (H := H)).bl k e1], Post.now (r := .v (.int _)) k (Rep.int _) hP⟩
      | _ => cases hi
/-- all(..), any(..) of a list of truths -/
theorem reps_bl {C : Cn} {G : Hp} : ∀ {vs : List V} {bs : List Bool}, Reps C G vs (bs.map .bl) → vs = bs.map V.bl
  | _, [], .nil => rfl
  | _, b :: bs, .cons h r => by cases h; rw [List.map_cons, reps_bl r]
theorem ev_all (hc : X.calm = true) (hm : X.mg "all" = none) (h : EV X e env mem (rd fun x m => ∃ bs : List Bool, x = .lst (bs.map .bl) ∧ P (.v (.bl (bs.all id))) m)) (hg : Gl X "all" := by rfl) (he : starEach [e] X.env = (false, eval e X.env) :: starEach [] X.env := by rfl) : EV X (.Call (.Name "all" p0) [e] [] pos) env mem P := by
  refine ev_B (cr_all hc) (by decide +kernel) hm (av_arg h he) (fun as G σ H vs rs m k ro q => ?_) (fun vs H Q Q' h ⟨x, n, a1, a2, q⟩ => ⟨x, n, a1, a2, h _ _ q⟩) hg (by decide) (by decide) he rfl
  cases ro with
  | nil => exact q.elim
  | cons r1 rr =>
    cases rr with
    | cons _ _ => exact q.elim
    | nil =>
      obtain ⟨d, e1, bs, rfl, hP⟩ := q
      obtain ⟨p, ws, rfl, hq, rp⟩ := (r1.res (H := H)).lst k e1
      rw [reps_bl rp] at hq
      exact ⟨p, bs, rfl, hq, Post.now (r := .v (.bl _)) k (Rep.bl _) hP⟩
def seqD : D → Option (List D)
  | .lst ds => some ds
  | .tup ds => some ds
  | _ => none
theorem ev_list (hm : X.mg "list" = none) (h : EV X e env mem (rd fun x m => ∃ ds, seqD x = some ds ∧ P (.nl ds) m)) (hg : Gl X "list" := by rfl) (he : starEach [e] X.env = (false, eval e X.env) :: starEach [] X.env := by rfl) : EV X (.Call (.Name "list" p0) [e] [] pos) env mem P := by
  refine ev_T call_list_of (by decide +kernel) hm (av_arg h he) (fun as G σ H vs rs m k ro q => ?_) (fun vs H Q Q' h ⟨x, n, a1, a2, q⟩ => ⟨x, n, a1, a2, fun l hl => h _ _ (q l hl)⟩) hg (by decide) (by decide) he rfl
  cases ro with
  | nil => exact q.elim
  | cons r1 rr =>
    cases rr with
    | cons _ _ => exact q.elim
    | nil =>
      obtain ⟨d, e1, ds, hd, hP⟩ := q
      cases d with
      | lst es =>
        cases hd
        obtain ⟨p, ws, rfl, hq, rp⟩ := (r1.res (H := H)).lst k e1
        exact ⟨p, ws, rfl, .inl hq, fun l hl => Post.newList k hl rp hP⟩
      | tup es =>
        cases hd
        obtain ⟨p, ws, rfl, hq, rp⟩ := (r1.res (H := H)).tup k e1
        exact ⟨p, ws, rfl, .inr hq, fun l hl => Post.newList k hl rp hP⟩
      | _ => cases hd
theorem tup_of {C : Cn} {as : List Addr} {G H : Hp} {mem : Mem} {v : V} {s : Sl} {ds : List D} (r : RepS C as G v s) (e : dr mem (slR s) = some (.tup ds)) : Rep C G v (.tup ds) := by
  cases s with
  | v d => cases e; exact r
  | loc n => rcases dr_loc e with ⟨_, e', _⟩ | ⟨_, e', _⟩ <;> cases e'
theorem ev_tupleOf (hm : X.mg "tuple" = none) (h : EV X e env mem (rd fun x m => ∃ ds, seqD x = some ds ∧ P (.v (.tup ds)) m)) (hg : Gl X "tuple" := by rfl) (he : starEach [e] X.env = (false, eval e X.env) :: starEach [] X.env := by rfl) : EV X (.Call (.Name "tuple" p0) [e] [] pos) env mem P := by
  refine ev_T call_tuple_of (by decide +kernel) hm (av_arg h he) (fun as G σ H vs rs m k ro q => ?_) (fun vs H Q Q' h ⟨x, n, a1, a2⟩ => ⟨x, n, a1, a2.elim (fun ⟨b, q⟩ => .inl ⟨b, fun l hl => h _ _ (q l hl)⟩) fun ⟨b, q⟩ => .inr ⟨b, h _ _ q⟩⟩) hg (by decide) (by decide) he rfl
  cases ro with
  | nil => exact q.elim
  | cons r1 rr =>
    cases rr with
    | cons _ _ => exact q.elim
    | nil =>
      obtain ⟨d, e1, ds, hd, hP⟩ := q
      cases d with
      | lst es =>
        cases hd
        obtain ⟨p, ws, rfl, hq, rp⟩ := (r1.res (H := H)).lst k e1
        exact ⟨p, ws, rfl, .inl ⟨hq, fun l hl => Post.newTup k hl rp hP⟩⟩
      | tup es =>
        cases hd
        have rt := tup_of (H := H) r1 e1
        obtain ⟨p, ws, rfl, hq, rp⟩ := (r1.res (H := H)).tup k e1
        exact ⟨p, ws, rfl, .inr ⟨hq, Post.now (r := .v (.tup _)) k rt hP⟩⟩
      | _ => cases hd
/-! ### isinstance -/
def tyD : D → Option String
  | .non => some "NoneType"
  | .bl _ => some "bool"
  | .int _ => some "int"
  | .str _ => some "str"
  | .lst _ => some "list"
  | .tup _ => some "tuple"
  | .ob _ _ => none
  | .ex _ _ => none
  | .fn _ _ _ => none
  | .dic _ => none
  | .cl _ => none
theorem tyX_of {C : Cn} {H : Hp} {v : V} {d : D} (h : Rep C H v d) {T : String} (e : tyD d = some T) : TyX C.K H v (.type T) := by
  cases h with
  | non => cases e; exact .base .non
  | bl b => cases e; exact .base (.bl b)
  | int i => cases e; exact .base (.int i)
  | str x => cases e; exact .base (.str x)
  | lst h r =>
    cases e
    rcases h with (h | ⟨o, h⟩) | ⟨o, its, n, hk, hc, _⟩
    · exact .base (.lst h)
    · exact .base (.frz h)
    · exact .kList hk hc
  | tup h r =>
    cases e
    rcases h with (h | ⟨o, h⟩) | ⟨o, its, n, hk, hc, _⟩
    · exact .base (.tup h)
    · exact .fTuple h
    · exact .kTuple hk hc
  | ob _ _ _ => cases e
  | ex _ _ _ _ => cases e
  | fn _ => cases e
  | dic _ _ _ _ => cases e
  | cl _ => cases e
/-- what isinstance(.., T) says of each type of data -/
structure IsT (T : String) (f : D → Bool) : Prop where
  is : ∀ d S, tyD d = some S → kitB S T = some (f d)
def dInt : D → Bool | .int _ => true | .bl _ => true | _ => false
def dBool : D → Bool | .bl _ => true | _ => false
def dStr : D → Bool | .str _ => true | _ => false
def dLst : D → Bool | .lst _ => true | _ => false
def dTup : D → Bool | .tup _ => true | _ => false
theorem it_int : IsT "int" dInt := ⟨fun d S e => by cases d <;> cases e <;> first | (show kitB _ _ = some true; decide +kernel) | (show kitB _ _ = some false; decide +kernel)⟩
theorem it_bool : IsT "bool" dBool := ⟨fun d S e => by cases d <;> cases e <;> first | (show kitB _ _ = some true; decide +kernel) | (show kitB _ _ = some false; decide +kernel)⟩
theorem it_str : IsT "str" dStr := ⟨fun d S e => by cases d <;> cases e <;> first | (show kitB _ _ = some true; decide +kernel) | (show kitB _ _ = some false; decide +kernel)⟩
theorem it_list : IsT "list" dLst := ⟨fun d S e => by cases d <;> cases e <;> first | (show kitB _ _ = some true; decide +kernel) | (show kitB _ _ = some false; decide +kernel)⟩
theorem it_tuple : IsT "tuple" dTup := ⟨fun d S e => by cases d <;> cases e <;> first | (show kitB _ _ = some true; decide +kernel) | (show kitB _ _ = some false; decide +kernel)⟩
def noOb : D → Bool | .ob _ _ => false | .ex _ _ => false | .fn _ _ _ => false | .dic _ => false | .cl _ => false | _ => true
theorem tyD_some {d : D} (h : noOb d = true) : ∃ S, tyD d = some S := by cases d <;> first | exact ⟨_, rfl⟩ | cases h
theorem ev_isi {x : Str} {T : String} {f : D → Bool} {p1 : Pos} (I : IsT T f) (hv : bootBuiltins x = some (.type T)) (hm : X.mg "isinstance" = none) (hm2 : X.mg x = none)
    (h : EV X e env mem (rd fun d m => noOb d = true ∧ P (.v (.bl (f d))) m)) (hg : Gl X "isinstance" := by rfl) (hg2 : Gl X x := by rfl) (hn2 : x ≠ "__name__" := by decide) (hd2 : (x == ("__debug__" : Str)) = false := by decide)
    (he : starEach [e, .Name x p1] X.env = (false, eval e X.env) :: starEach [.Name x p1] X.env := by rfl) (he2 : starEach [.Name x p1] X.env = (false, eval (.Name x p1) X.env) :: starEach [] X.env := by rfl) (hpl : (backTo pos (starEach [.Name x p1] X.env)).any (·.1) = false := by rfl) :
    EV X (.Call (.Name "isinstance" p0) [e, .Name x p1] [] pos) env mem P := fun as G σ H k => by
  refine EW.of (pe_callB call_isi hg hm (by decide +kernel) (pa_cons (pe_ew X e) (pa_cons (pe_bltn (v := .ty T) hg2 hm2 hv rfl hn2 hd2) pa_nil he2) he) (by decide) (by decide) he hpl) ?_
  refine EW.mono (h as G σ H k) fun v1 H1 ⟨as1, G1, m1, r1, x1, k1, ro1, f1, d, e1, hno, hP⟩ => ?_
  obtain ⟨S, hS⟩ := tyD_some hno
  exact ⟨v1, .ty T, .type S, .type T, f d, rfl, .ty T, tyX_of (ro1.rep k1 e1) hS, kit_ty (I.is d S hS), (Post.now (r := .v (.bl _)) k1 (Rep.bl _) hP).ext x1⟩
theorem ev_isi2 {x y : Str} {T U : String} {f g : D → Bool} {p1 p2 p3 : Pos} {k0 : Nat} (I : IsT T f) (J : IsT U g) (hv : bootBuiltins x = some (.type T)) (hw : bootBuiltins y = some (.type U)) (hm : X.mg "isinstance" = none) (hm2 : X.mg x = none) (hm3 : X.mg y = none)
    (h : EV X e env mem (rd fun d m => noOb d = true ∧ P (.v (.bl (f d || g d))) m)) (hg : Gl X "isinstance" := by rfl) (hg2 : Gl X x := by rfl) (hg3 : Gl X y := by rfl) (hn2 : x ≠ "__name__" := by decide) (hd2 : (x == ("__debug__" : Str)) = false := by decide) (hn3 : y ≠ "__name__" := by decide) (hd3 : (y == ("__debug__" : Str)) = false := by decide)
    (he : starEach [e, .Tuple [.Name x p1, .Name y p2] k0 p3] X.env = (false, eval e X.env) :: starEach [.Tuple [.Name x p1, .Name y p2] k0 p3] X.env := by rfl) (he2 : starEach [.Tuple [.Name x p1, .Name y p2] k0 p3] X.env = (false, eval (.Tuple [.Name x p1, .Name y p2] k0 p3) X.env) :: starEach [] X.env := by rfl)
    (hpl : (backTo pos (starEach [.Tuple [.Name x p1, .Name y p2] k0 p3] X.env)).any (·.1) = false := by rfl) (he3 : starEach [.Name x p1, .Name y p2] X.env = (false, eval (.Name x p1) X.env) :: starEach [.Name y p2] X.env := by rfl) (he4 : starEach [.Name y p2] X.env = (false, eval (.Name y p2) X.env) :: starEach [] X.env := by rfl) :
    EV X (.Call (.Name "isinstance" p0) [e, .Tuple [.Name x p1, .Name y p2] k0 p3] [] pos) env mem P := fun as G σ H k => by
  refine EW.of (pe_callB call_isiT hg hm (by decide +kernel) (pa_cons (pe_ew X e) (pa_cons (pe_tup (pa_cons (pe_bltn (v := .ty T) hg2 hm2 hv rfl hn2 hd2) (pa_cons (pe_bltn (v := .ty U) hg3 hm3 hw rfl hn3 hd3) pa_nil he4) he3)) pa_nil he2) he) (by decide) (by decide) he hpl) ?_
  refine EW.mono (h as G σ H k) fun v1 H1 ⟨as1, G1, m1, r1, x1, k1, ro1, f1, d, e1, hno, hP⟩ => ?_
  refine ⟨by show 2 ≤ sizeLine; decide, fun p hp => ?_⟩
  obtain ⟨S, hS⟩ := tyD_some hno
  obtain ⟨m, y2⟩ := k1.mm.lay hp (.tup [.ty T, .ty U])
  have k2 := k1.ext y2 m
  have rr := (ro1.ext y2).rep k2 e1
  refine ⟨v1, p, [.ty T, .ty U], .type S, [.type T, .type U], (f d || g d), rfl, upd_same, .cons (.ty T) (.cons (.ty U) .nil), tyX_of rr hS, ?_, (Post.now (r := .v (.bl _)) k2 (Rep.bl _) hP).ext (x1.trans y2)⟩
  refine kitAny_cons (kit_ty (I.is d S hS)) (fun ef => ?_) (fun et => by rw [et]; rfl)
  rw [ef]
  exact kitAny_cons (kit_ty (J.is d S hS)) (fun eg => by rw [eg]; rfl) (fun et => by rw [et]; rfl)
/-! ### cells change -/
theorem setCell {C : Cn} {I : Iv} {as : List Addr} {G H : Hp} {mem : Mem} {σ : L2.St} {n : Nat} {a : Addr} {ds' : List D} {vs' : List V} (k : OkS C I as G env mem σ H) (ha : as[n]? = some a) (hc : ∃ ds, mem[n]? = some (.lst ds)) (r : Reps C G vs' ds') :
    Ext as G H as G (upd H a (.lst vs')) ∧ OkS C I as G env (mem.set n (.lst ds')) σ (upd H a (.lst vs')) := by
  obtain ⟨ds, hc⟩ := hc
  obtain ⟨g, vs, h, q⟩ := loc_cell k ha hc
  have hm : a ∈ as := List.mem_of_getElem? ha
  have xx : Ext as G H as G (upd H a (.lst vs')) := by
    refine ⟨⟨[], by simp⟩, Sub.refl _, fun b o hb e _ => by rw [upd_ne (fun z => hb (by rw [z]; exact hm))]; exact e, fun _ _ _ z => z, fun _ z w => (w z).elim, fun b z => ?_⟩
    by_cases q : b = a
    · exact ⟨_, by rw [q, upd_same], nt_lst⟩
    · exact z.upd q
  refine ⟨xx, ⟨⟨?_, k.mm.nd, fun j b c hb hc' => ?_, fun b hb => ?_, fun b u e => ?_, k.mm.nt, tabs_upd k.mm.tabs (.inr ⟨_, h, trivial⟩)⟩, k.len, k.env, I.ext xx k.iv⟩⟩
  · rw [List.length_set]; exact k.mm.len
  · by_cases hj : j = n
    · subst hj
      have hl : j < mem.length := (List.getElem?_eq_some_iff.mp hc).1
      rw [List.getElem?_set_self hl] at hc'
      cases hc'
      rw [ha] at hb
      cases hb
      exact ⟨g, vs', upd_same, r⟩
    · rw [List.getElem?_set_ne (Ne.symm hj)] at hc'
      have z := k.mm.cell j b c hb hc'
      have nb : b ≠ a := fun e => hj ((List.getElem?_inj (List.getElem?_eq_some_iff.mp hb).1 k.mm.nd).mp (by rw [hb, ha, e]))
      exact z.move (fun _ _ _ g => g) (fun o h _ => by rw [upd_ne nb]; exact h) (Sub.refl _)
  · by_cases q : b = a
    · exact ⟨_, by rw [q, upd_same], nt_lst⟩
    · exact (k.mm.there b hb).upd q
  · rw [upd_ne (fun z => by rw [z, g] at e; cases e)]; exact k.mm.sub _ _ e
/-! ### methods of lists in cells -/
theorem rsOne {C : Cn} {as : List Addr} {G : Hp} {v : V} {s : Sl} (h : RepS C as G v s) : RsOk C as G [v] [s] := .cons h .nil
theorem ev_append {o : Expr} {apos : Pos} (h : EV X o env mem fun r m => ∃ n ds0, r = .loc n ∧ m[n]? = some (.lst ds0) ∧ EV X e env m fun r2 m2 => ∃ ds d m3, frz [unl r2] m2 = some ([d], m3) ∧ m3[n]? = some (.lst ds) ∧ ds.length < sizeLine ∧ P (.v .non) (m3.set n (.lst (ds ++ [d]))))
    (hbase : attributeBase o "append" X.env (eval o X.env) = eval o X.env := by rfl)
    (hfew : ((backTo pos (starEach [e] X.env)).all (fun x => !x.1) && (backToKw pos (keywordEach [] X.env)).all (fun x => x.1.isSome) && decide ([e].length + ([] : List Keyword).length + (if ([] : List Keyword).isEmpty then 0 else 1) < 30)) = true := by rfl)
    (hline : (apos.endLine == pos.line) = true := by rfl) (hs : starEach [e] X.env = (false, eval e X.env) :: starEach [] X.env := by rfl) (hpl : (backTo pos (starEach [] X.env)).any (·.1) = false := by rfl) : EV X (.Call (.Attribute o "append" apos) [e] [] pos) env mem P := fun as G σ H k => by
  refine EW.of (pe_bm PySem.F.plainAttrs_list PySem.F.slot_list_append PySem.F.type_list_append mt_append (pe_ew X o) (pa_cons (pe_ew X e) pa_nil hs) hbase hfew hline hs hpl) ?_
  refine EW.mono (h as G σ H k) fun v1 H1 ⟨as1, G1, m1, r1, x1, k1, ro1, f1, n, ds0, en, hc, h1⟩ => ?_
  subst en
  obtain ⟨a, ha, rfl⟩ := ro1
  obtain ⟨_, vs0, hH, _⟩ := loc_cell k1 ha hc
  refine ⟨.inl ⟨rfl, _, SqL.of hH⟩, ?_⟩
  refine EW.mono (h1 as1 G1 σ H1 k1) fun v2 H2 ⟨as2, G2, m2, r2, x2, k2, ro2, f2, ds, d, m3, e1, hc2, hl, hP⟩ => ?_
  obtain ⟨G3, x3, k3, rs3⟩ := learn_post k1.iv x2 k2 ro2 f2
  obtain ⟨G4, x4, k4, rp⟩ := frz_ok k3 (rsOne rs3) e1
  have ha4 := get_pre (x3.trans x4).pre ha
  obtain ⟨_, vs, hH4, rv⟩ := loc_cell k4 ha4 hc2
  cases rp with
  | cons rd _ =>
    obtain ⟨y, k5⟩ := setCell k4 ha4 ⟨_, hc2⟩ (rv.snoc rd)
    exact ⟨a, vs, _, rfl, rfl, hH4, by rw [rv.length]; exact hl, (Post.now (r := .v .non) k5 Rep.non hP).ext (((x1.trans x3).trans x4).trans y)⟩
theorem popK {C : Cn} {G : Hp} {vs : List V} {ds : List D} {i : Int} {kk : Nat} {d : D} (r : Reps C G vs ds) (hk : seqIndex? i ds.length = some kk) (hd : ds[kk]? = some d) : seqIndex? i vs.length = some kk ∧ ∃ v, vs[kk]? = some v ∧ Rep C G v d :=
  ⟨by rw [r.length]; exact hk, r.get hd⟩
theorem ev_popAt {o : Expr} {apos : Pos} (h : EV X o env mem fun r m => ∃ n ds0, r = .loc n ∧ m[n]? = some (.lst ds0) ∧ EV X e env m (rd fun x m2 => ∃ i ds kk d, x = .int i ∧ m2[n]? = some (.lst ds) ∧ -(2 ^ 63) ≤ i ∧ i < 2 ^ 63 ∧ seqIndex? i ds.length = some kk ∧ ds[kk]? = some d ∧ P (.v d) (m2.set n (.lst (ds.eraseIdx kk)))))
    (hbase : attributeBase o "pop" X.env (eval o X.env) = eval o X.env := by rfl)
    (hfew : ((backTo pos (starEach [e] X.env)).all (fun x => !x.1) && (backToKw pos (keywordEach [] X.env)).all (fun x => x.1.isSome) && decide ([e].length + ([] : List Keyword).length + (if ([] : List Keyword).isEmpty then 0 else 1) < 30)) = true := by rfl)
    (hline : (apos.endLine == pos.line) = true := by rfl) (hs : starEach [e] X.env = (false, eval e X.env) :: starEach [] X.env := by rfl) (hpl : (backTo pos (starEach [] X.env)).any (·.1) = false := by rfl) : EV X (.Call (.Attribute o "pop" apos) [e] [] pos) env mem P := fun as G σ H k => by
  refine EW.of (pe_bm PySem.F.plainAttrs_list PySem.F.slot_list_pop PySem.F.type_list_pop mt_popAt (pe_ew X o) (pa_cons (pe_ew X e) pa_nil hs) hbase hfew hline hs hpl) ?_
  refine EW.mono (h as G σ H k) fun v1 H1 ⟨as1, G1, m1, r1, x1, k1, ro1, f1, n, ds0, en, hc, h1⟩ => ?_
  subst en
  obtain ⟨a, ha, rfl⟩ := ro1
  obtain ⟨_, vs0, hH, _⟩ := loc_cell k1 ha hc
  refine ⟨.inl ⟨rfl, _, SqL.of hH⟩, ?_⟩
  refine EW.mono (h1 as1 G1 σ H1 k1) fun v2 H2 ⟨as2, G2, m2, r2, x2, k2, ro2, f2, x, e1, i, ds, kk, d, ex, hc2, hi1, hi2, hk, hd, hP⟩ => ?_
  subst ex
  have ha2 := get_pre x2.pre ha
  obtain ⟨_, vs, hH2, rv⟩ := loc_cell k2 ha2 hc2
  obtain ⟨hk', w, hw, rw'⟩ := popK rv hk hd
  obtain ⟨y, k3⟩ := setCell k2 ha2 ⟨_, hc2⟩ (rv.eraseIdx kk)
  exact ⟨a, vs, i, kk, w, rfl, by rw [ro2.int k2 e1], hH2, hi1, hi2, hk', hw, (Post.now (r := .v d) k3 rw' hP).ext ((x1.trans x2).trans y)⟩
theorem ev_insert {o b : Expr} {apos : Pos} (h : EV X o env mem fun r m => ∃ n ds0, r = .loc n ∧ m[n]? = some (.lst ds0) ∧ AV X [e, b] env m fun rs m2 => ∃ i s ds d m3, rs = [.v (.int i), s] ∧ frz [s] m2 = some ([d], m3) ∧ m3[n]? = some (.lst ds) ∧ ds.length < sizeLine ∧ 0 ≤ i ∧ i < 2 ^ 63 ∧ P (.v .non) (m3.set n (.lst (ds.take i.toNat ++ [d] ++ ds.drop i.toNat))))
    (hbase : attributeBase o "insert" X.env (eval o X.env) = eval o X.env := by rfl)
    (hfew : ((backTo pos (starEach [e, b] X.env)).all (fun x => !x.1) && (backToKw pos (keywordEach [] X.env)).all (fun x => x.1.isSome) && decide ([e, b].length + ([] : List Keyword).length + (if ([] : List Keyword).isEmpty then 0 else 1) < 30)) = true := by rfl)
    (hline : (apos.endLine == pos.line) = true := by rfl) (hs : starEach [e, b] X.env = (false, eval e X.env) :: starEach [b] X.env := by rfl) (hpl : (backTo pos (starEach [b] X.env)).any (·.1) = false := by rfl) : EV X (.Call (.Attribute o "insert" apos) [e, b] [] pos) env mem P := fun as G σ H k => by
  refine EW.of (pe_bm PySem.F.plainAttrs_list PySem.F.slot_list_insert PySem.F.type_list_insert mt_insert (pe_ew X o) (pa_aw X [e, b]) hbase hfew hline hs hpl) ?_
  refine EW.mono (h as G σ H k) fun v1 H1 ⟨as1, G1, m1, r1, x1, k1, ro1, f1, n, ds0, en, hc, h1⟩ => ?_
  subst en
  obtain ⟨a, ha, rfl⟩ := ro1
  obtain ⟨_, vs0, hH, _⟩ := loc_cell k1 ha hc
  refine ⟨.inl ⟨rfl, _, SqL.of hH⟩, ?_⟩
  refine AW.mono (h1 as1 G1 σ H1 k1) fun xs H2 ⟨as2, G2, m2, rs, x2, k2, ro2, i, s, ds, d, m3, ers, e1, hc2, hl, hi1, hi2, hP⟩ => ?_
  subst ers
  cases ro2 with
  | cons q1 q2 =>
    cases q2 with
    | cons q3 q4 =>
      cases q4
      cases (show Rep _ _ _ (.int i) from q1)
      obtain ⟨G4, x4, k4, rp⟩ := frz_ok k2 (rsOne q3) e1
      have ha4 := get_pre (x2.trans x4).pre ha
      obtain ⟨_, vs, hH4, rv⟩ := loc_cell k4 ha4 hc2
      cases rp with
      | cons rd _ =>
        obtain ⟨y, k5⟩ := setCell k4 ha4 ⟨_, hc2⟩ (((rv.take i.toNat).append (.cons rd .nil)).append (rv.drop i.toNat))
        exact ⟨a, vs, i, _, rfl, rfl, hH4, by rw [rv.length]; exact hl, hi1, hi2, (Post.now (r := .v .non) k5 Rep.non hP).ext (((x1.trans x2).trans x4).trans y)⟩
end
end Dl
/-! Dl5: statements, loops, defs. -/
namespace Dl
open PySem PySem.Spec PyProof.Rows L2
/-! ### statements -/
def SW (X : Dx) (st : Stmt) : TS := fun D σ H => ∀ (pins : List (Addr × Obj)) (s : Shared), Inv X pins σ H s → wpAny (model X.prog X.w) X.A (exec st X.env) (SP X pins D) X.xe s
def SWs (X : Dx) (st : List Stmt) : TS := fun D σ H => ∀ (pins : List (Addr × Obj)) (s : Shared), Inv X pins σ H s → wpAny (model X.prog X.w) X.A (execs st X.env) (SP X pins D) X.xe s
def GW (X : Dx) (tg : Expr) : TG := fun v σ H Q => ∀ (pins : List (Addr × Obj)) (s : Shared) (u : Value), Inv X pins σ H s → RelV v u →
  wpAny (model X.prog X.w) X.A (assign tg X.env u) (fun _ s' => ∃ σ' H', Inv X pins σ' H' s' ∧ Q σ' H') X.xe s
def GWs (X : Dx) (ts : List Expr) : TGs := fun vs σ H Q => ∀ (pins : List (Addr × Obj)) (s : Shared) (us : List Value), Inv X pins σ H s → Vals vs us →
  wpAny (model X.prog X.w) X.A (assignInOrder ((assignEach ts X.env).map (·.2)) us) (fun _ s' => ∃ σ' H', Inv X pins σ' H' s' ∧ Q σ' H') X.xe s
structure EndsLe (D D' : Ends) : Prop where
  nx : ∀ σ H, D.nx σ H → D'.nx σ H
  rt : ∀ v H, D.rt v H → D'.rt v H
  bk : ∀ σ H, D.bk σ H → D'.bk σ H
  ct : ∀ σ H, D.ct σ H → D'.ct σ H
theorem SP.mono {X : Dx} {pins : List (Addr × Obj)} {D D' : Ends} (le : EndsLe D D') {f : Flow} {s : Shared} (h : SP X pins D f s) : SP X pins D' f s := by
  cases f with
  | next => obtain ⟨σ, H, I, q⟩ := h; exact ⟨σ, H, I, le.nx _ _ q⟩
  | brk => obtain ⟨σ, H, I, q⟩ := h; exact ⟨σ, H, I, le.bk _ _ q⟩
  | cont => obtain ⟨σ, H, I, q⟩ := h; exact ⟨σ, H, I, le.ct _ _ q⟩
  | ret u => obtain ⟨v, σ, H, I, r, q⟩ := h; exact ⟨v, σ, H, I, r, le.rt _ _ q⟩
section
variable {X : Dx} {st : Stmt} {sts : List Stmt} {tg : Expr} {tgs : List Expr} {σ : L2.St} {H : Hp} {D D' : Ends}
theorem ps_sw (X : Dx) (st : Stmt) : PS X st (SW X st) := ⟨fun pins s _ _ _ I h => h pins s I⟩
theorem pss_sw (X : Dx) (st : List Stmt) : PSs X st (SWs X st) := ⟨fun pins s _ _ _ I h => h pins s I⟩
theorem pg_gw (X : Dx) (tg : Expr) : PG X tg (GW X tg) := ⟨fun pins s _ _ _ u _ I r h => h pins s u I r⟩
theorem pgs_gw (X : Dx) (tgs : List Expr) : PGs X tgs (GWs X tgs) := ⟨fun pins s _ _ _ us _ I r h => h pins s us I r⟩
theorem SW.of {t : TS} (h : PS X st t) (q : t D σ H) : SW X st D σ H := fun pins s I => h.run pins s σ H D I q
theorem SWs.of {t : TS} (h : PSs X sts t) (q : t D σ H) : SWs X sts D σ H := fun pins s I => h.run pins s σ H D I q
theorem SW.mono (le : EndsLe D D') (h : SW X st D σ H) : SW X st D' σ H := fun pins s I => thn (h pins s I) fun _ _ q => Dl.SP.mono le q
theorem SWs.mono (le : EndsLe D D') (h : SWs X sts D σ H) : SWs X sts D' σ H := fun pins s I => thn (h pins s I) fun _ _ q => Dl.SP.mono le q
theorem GW.mono {v : V} {Q Q' : L2.St → Hp → Prop} (h : GW X tg v σ H Q) (hq : ∀ σ H, Q σ H → Q' σ H) : GW X tg v σ H Q' := fun pins s u I r => thn (h pins s u I r) fun _ _ ⟨σ', H', I', q⟩ => ⟨σ', H', I', hq _ _ q⟩
theorem GWs.mono {v : List V} {Q Q' : L2.St → Hp → Prop} (h : GWs X tgs v σ H Q) (hq : ∀ σ H, Q σ H → Q' σ H) : GWs X tgs v σ H Q' := fun pins s u I r => thn (h pins s u I r) fun _ _ ⟨σ', H', I', q⟩ => ⟨σ', H', I', hq _ _ q⟩
theorem GW.of {v : V} {Q : L2.St → Hp → Prop} {t : TG} (h : PG X tg t) (q : t v σ H Q) : GW X tg v σ H Q := fun pins s u I r => h.run pins s σ H v u Q I r q
theorem GWs.of {v : List V} {Q : L2.St → Hp → Prop} {t : TGs} (h : PGs X tgs t) (q : t v σ H Q) : GWs X tgs v σ H Q := fun pins s u I r => h.run pins s σ H v u Q I r q
end
structure Ks where
  nx : Envt → Mem → Prop
  rt : Rs → Mem → Prop
  bk : Envt → Mem → Prop := fun _ _ => False
  ct : Envt → Mem → Prop := fun _ _ => False
def PostS (C : Cn) (I : Iv) (as : List Addr) (G H : Hp) (P : Envt → Mem → Prop) : L2.St → Hp → Prop := fun σ' H' => ∃ as' G' env' mem', Ext as G H as' G' H' ∧ OkS C I as' G' env' mem' σ' H' ∧ P env' mem'
def PostR (C : Cn) (as : List Addr) (G H : Hp) (P : Rs → Mem → Prop) : VK := fun v H' => ∃ as' G' mem' r, Ext as G H as' G' H' ∧ Mm C as' mem' G' H' ∧ ResOk C as' G' H' v r ∧ Fr H v r ∧ P r mem'
def endsOf (C : Cn) (I : Iv) (as : List Addr) (G H : Hp) (K : Ks) : Ends := { nx := PostS C I as G H K.nx, rt := PostR C as G H K.rt, bk := PostS C I as G H K.bk, ct := PostS C I as G H K.ct }
def SV (X : Dx) (st : Stmt) (env : Envt) (mem : Mem) (K : Ks) : Prop := ∀ as G σ H, OkS (Cx.cn X) X.iv as G env mem σ H → SW X st (endsOf (Cx.cn X) X.iv as G H K) σ H
def SVs (X : Dx) (st : List Stmt) (env : Envt) (mem : Mem) (K : Ks) : Prop := ∀ as G σ H, OkS (Cx.cn X) X.iv as G env mem σ H → SWs X st (endsOf (Cx.cn X) X.iv as G H K) σ H
/-- a target takes a slot's value -/
def GV (X : Dx) (tg : Expr) (s : Sl) (env : Envt) (mem : Mem) (P : Envt → Mem → Prop) : Prop := ∀ as G σ H v, OkS (Cx.cn X) X.iv as G env mem σ H → RepS (Cx.cn X) as G v s → GW X tg v σ H (PostS (Cx.cn X) X.iv as G H P)
def GVs (X : Dx) (tgs : List Expr) (ds : List D) (env : Envt) (mem : Mem) (P : Envt → Mem → Prop) : Prop := ∀ as G σ H vs, OkS (Cx.cn X) X.iv as G env mem σ H → Reps (Cx.cn X) G vs ds → GWs X tgs vs σ H (PostS (Cx.cn X) X.iv as G H P)
section
variable {C : Cn} {I : Iv} {as as1 : List Addr} {G G1 H H1 : Hp} {env : Envt} {mem : Mem} {σ : L2.St} {v : V} {s : Sl}
theorem PostS.ext {P : Envt → Mem → Prop} (x : Ext as G H as1 G1 H1) {σ' : L2.St} {H' : Hp} : PostS C I as1 G1 H1 P σ' H' → PostS C I as G H P σ' H' := fun ⟨as', G', e', m', y, k, p⟩ => ⟨as', G', e', m', x.trans y, k, p⟩
theorem PostR.ext {P : Rs → Mem → Prop} (x : Ext as G H as1 G1 H1) {v : V} {H' : Hp} : PostR C as1 G1 H1 P v H' → PostR C as G H P v H' := fun ⟨as', G', m', r, y, k, ro, f, p⟩ => ⟨as', G', m', r, x.trans y, k, ro, f.back x, p⟩
theorem endsOf.ext {K : Ks} (x : Ext as G H as1 G1 H1) : EndsLe (endsOf C I as1 G1 H1 K) (endsOf C I as G H K) := ⟨fun _ _ q => q.ext x, fun _ _ q => q.ext x, fun _ _ q => q.ext x, fun _ _ q => q.ext x⟩
theorem PostS.now {P : Envt → Mem → Prop} (k : OkS C I as G env mem σ H) (p : P env mem) : PostS C I as G H P σ H := ⟨as, G, env, mem, .refl _ _ _, k, p⟩
theorem OkS.set (k : OkS C I as G env mem σ H) (i : Nat) (r : RepS C as G v s) : OkS C I as G (env.set i (some s)) mem (σ.set i (some v)) H := by
  refine ⟨k.mm, by rw [List.length_set, List.length_set]; exact k.len, fun j t e => ?_, k.iv⟩
  by_cases hj : j = i
  · subst hj
    have hl : j < env.length := by
      have := (List.getElem?_eq_some_iff.mp e).1
      rw [List.length_set] at this
      exact this
    rw [List.getElem?_set_self hl] at e
    cases e
    exact ⟨v, by rw [List.getElem?_set_self (by rw [k.len]; exact hl)], r⟩
  · rw [List.getElem?_set_ne (Ne.symm hj)] at e ⊢
    exact k.env j t e
/-- a new list becomes a cell -/
theorem OkS.cell {ds : List D} {as0 : List Addr} {G0 H0 : Hp} (i0 : I.p as0 G0 H0) (x : Ext as0 G0 H0 as G H) (k : OkS C I as G env mem σ H) (ro : ResOk C as G H v (.nl ds)) (f : Fr H0 v (.nl ds)) :
    ∃ as', Ext as0 G0 H0 as' G H ∧ OkS C I as' G env (mem ++ [.lst ds]) σ H ∧ RepS C as' G v (.loc mem.length) := by
  obtain ⟨p, vs, rfl, h, g, n, q⟩ := ro
  have pre : ∃ more, as ++ [p] = as ++ more := ⟨[p], rfl⟩
  obtain ⟨m0, e0⟩ := x.pre
  have xx : Ext as0 G0 H0 (as ++ [p]) G H := by
    refine ⟨⟨m0 ++ [p], by rw [e0, List.append_assoc]⟩, x.sub, x.keep, x.old, fun a ha hn => ?_, x.there⟩
    rcases List.mem_append.mp ha with ha | ha
    · exact x.new a ha hn
    · rw [List.mem_singleton.mp ha]; exact f p rfl
  refine ⟨as ++ [p], xx, ⟨⟨?_, ?_, fun j b c hb hc => ?_, fun b hb => ?_, k.mm.sub, k.mm.nt, k.mm.tabs⟩, k.len, fun i s e => ?_, I.ext xx i0⟩, p, ?_, rfl⟩
  · rw [List.length_append, List.length_append, k.mm.len] <;> rfl
  · rw [List.nodup_append]
    exact ⟨k.mm.nd, by simp, fun a ha b hb e => n (by rw [← List.mem_singleton.mp hb, ← e]; exact ha)⟩
  · by_cases hj : j < as.length
    · rw [List.getElem?_append_left hj] at hb
      rw [List.getElem?_append_left (by rw [← k.mm.len]; exact hj)] at hc
      exact k.mm.cell j b c hb hc
    · have hj' : j = as.length := by
        have := (List.getElem?_eq_some_iff.mp hb).1
        rw [List.length_append, List.length_singleton] at this
        omega
      subst hj'
      rw [List.getElem?_append_right (Nat.le_refl _), Nat.sub_self] at hb
      rw [k.mm.len, List.getElem?_append_right (Nat.le_refl _), Nat.sub_self] at hc
      cases hb
      cases hc
      exact ⟨g, vs, h, q⟩
  · rcases List.mem_append.mp hb with hb | hb
    · exact k.mm.there b hb
    · rw [List.mem_singleton.mp hb]; exact trL h
  · obtain ⟨w, h1, h2⟩ := k.env i s e
    refine ⟨w, h1, ?_⟩
    cases s with
    | v d => exact h2
    | loc n => obtain ⟨a, ha, e⟩ := h2; exact ⟨a, get_pre pre ha, e⟩
  · rw [← k.mm.len, List.getElem?_append_right (Nat.le_refl _), Nat.sub_self] <;> rfl
end
section
variable {X : Dx} {e c a b tg : Expr} {es tgs : List Expr} {st : Stmt} {rest body A B : List Stmt} {pos : Pos} {env : Envt} {mem : Mem} {K : Ks}
theorem svs_nil (h : K.nx env mem) : SVs X [] env mem K := fun as G σ H k => SWs.of pss_nil (PostS.now k h)
theorem svs_cons (h : SV X st env mem { K with nx := fun e m => SVs X rest e m K }) : SVs X (st :: rest) env mem K := fun as G σ H k => by
  refine SWs.of (pss_cons (ps_sw X st) (pss_sw X rest)) (SW.mono (D := endsOf (Cx.cn X) X.iv as G H { K with nx := fun e m => SVs X rest e m K }) ⟨fun σ' H' q => ?_, fun _ _ q => q, fun _ _ q => q, fun _ _ q => q⟩ (h as G σ H k))
  obtain ⟨as', G', e', m', x, k', p⟩ := q
  exact SWs.mono (endsOf.ext x) (p as' G' σ' H' k')
theorem svs_one (h : SV X st env mem K) : SVs X [st] env mem K := fun as G σ H k => SWs.of (pss_one (ps_sw X st)) (h as G σ H k)
/-! ### targets -/
theorem gv_name (i : Nat) {x : Str} {s : Sl} {P : Envt → Mem → Prop} (h : P (env.set i (some s)) mem) (hN : X.N.Nodup) (hi : X.N[i]? = some x := by rfl) (hx : Loc X.env.scope x := by first | exact .inl rfl | exact .inr rfl)
    (hf : X.fn x = true ∨ X.env.scope.names.lookup x = some .local := by first | exact .inl rfl | exact .inr rfl) : GV X (.Name x pos) s env mem P := fun as G σ H v k r =>
  GW.of (pg_name hN hi hx hf) (PostS.now (k.set i r) h)
theorem gvs_nil {P : Envt → Mem → Prop} (h : P env mem) : GVs X [] [] env mem P := fun as G σ H vs k r => by
  cases r
  exact GWs.of pgs_nil ⟨rfl, PostS.now k h⟩
theorem gvs_cons {d : D} {ds : List D} {P : Envt → Mem → Prop} (h : GV X tg (.v d) env mem fun e m => GVs X tgs ds e m P) (hs : (assignEach (tg :: tgs) X.env).map (·.2) = assign tg X.env :: (assignEach tgs X.env).map (·.2) := by rfl) : GVs X (tg :: tgs) (d :: ds) env mem P := fun as G σ H vs k r => by
  cases r with
  | cons r rr =>
    refine GWs.of (pgs_cons (pg_gw X tg) (pgs_gw X tgs) hs) ⟨_, _, rfl, GW.mono (h as G σ H _ k r) fun σ' H' ⟨as', G', e', m', x, k', p⟩ => ?_⟩
    exact GWs.mono (p as' G' σ' H' _ k' (rr.mono x.sub)) fun _ _ q => q.ext x
theorem gv_tup {k0 : Nat} {ds : List D} {n : Nat} {P : Envt → Mem → Prop} (hc : X.calm = true) (hl : ds.length = n) (h : GVs X tgs ds env mem P) (hn : (assignEach tgs X.env).length = n := by rfl) (hst : (assignEach tgs X.env).findIdx? (·.1) = none := by rfl) :
    GV X (.Tuple tgs k0 pos) (.v (.tup ds)) env mem P := fun as G σ H v k r => by
  cases (show Rep _ _ _ (.tup ds) from r) with
  | tup hq rp => exact GW.of (pg_tup hc (pgs_gw X tgs) hn hst) ⟨_, _, rfl, k.mm.sub.sqT hq, by rw [rp.length]; exact hl, h as G σ H _ k rp⟩
theorem gv_item {o i : Expr} {s : Sl} {P : Envt → Mem → Prop} (h : EV X o env mem fun r m => EV X i env m (rd fun x m2 => ∃ n z ds j d m3, r = .loc n ∧ x = .int z ∧ frz [s] m2 = some ([d], m3) ∧ m3[n]? = some (.lst ds) ∧ ixN ds.length z = some j ∧ P env (m3.set n (.lst (ds.set j d)))))
    (ha : ∀ v, assign (.Subscript o i pos) X.env v = (do
      let ov ← holding [v] (eval o X.env)
      let iv ← holding [v, ov] (eval i X.env)
      standAt pos
      holding [v, ov, iv] (setItem ov iv v)
      release [v, ov, iv] []) := by intro _; rfl) : GV X (.Subscript o i pos) s env mem P := fun as G σ H v k r => by
  refine GW.of (pg_sub (pe_ew X o) (pe_ew X i) set_list ha) ?_
  refine EW.mono (h as G σ H k) fun v1 H1 ⟨as1, G1, m1, r1, x1, k1, ro1, f1, h1⟩ => ?_
  refine EW.mono (h1 as1 G1 σ H1 k1) fun v2 H2 ⟨as2, G2, m2, r2, x2, k2, ro2, f2, x, e1, n, z, ds, j, d, m3, en, ex, ef, hc, hj, hP⟩ => ?_
  subst en
  subst ex
  obtain ⟨a, ha, rfl⟩ := ro1
  obtain ⟨G4, x4, k4, rp⟩ := frz_ok k2 (rsOne (r.ext (x1.trans x2))) ef
  have ha4 := get_pre (x2.trans x4).pre ha
  obtain ⟨_, vs, hH, rv⟩ := loc_cell k4 ha4 hc
  cases rp with
  | cons rd _ =>
    obtain ⟨y, k5⟩ := setCell k4 ha4 ⟨_, hc⟩ (rv.set rd j)
    exact ⟨a, vs, z, j, rfl, ro2.int k2 e1, hH, by rw [rv.length]; exact hj, (PostS.now k5 hP).ext (((x1.trans x2).trans x4).trans y)⟩
/-! ### assignments -/
theorem sv_asg (h : EV X e env mem fun r m => GV X tg (unl r) env m K.nx) (hs : swapsWithSole [tg] e pos.line X.env = pure false := by rfl) (hw : swappedStores [tg] e X.env = pure none := by rfl) (h1 : (assignEach [tg] X.env).map (·.2) = [assign tg X.env] := by rfl) :
    SV X (.Assign [tg] e pos) env mem K := fun as G σ H k => by
  refine SW.of (ps_asg (pe_ew X e) (pg_gw X tg) hs hw h1) (EW.mono (h as G σ H k) fun v1 H1 ⟨as1, G1, m1, r1, x1, k1, ro1, f1, h1⟩ => ?_)
  obtain ⟨G2, x2, k2, rs2⟩ := learn_post k.iv x1 k1 ro1 f1
  exact GW.mono (h1 as1 G2 σ H1 v1 k2 rs2) fun _ _ q => q.ext x2
theorem sv_set (i : Nat) {x : Str} {p' : Pos} (h : EV X e env mem fun r m => K.nx (env.set i (some (unl r))) m) (hN : X.N.Nodup) (hs : swapsWith e (some (.Name x p')) pos.line X.env = pure false := by rfl) (hi : X.N[i]? = some x := by rfl) (hx : Loc X.env.scope x := by first | exact .inl rfl | exact .inr rfl)
    (hf : X.fn x = true ∨ X.env.scope.names.lookup x = some .local := by first | exact .inl rfl | exact .inr rfl) : SV X (.Assign [.Name x p'] e pos) env mem K := fun as G σ H k => by
  refine SW.of (ps_set hN hi hx (pe_ew X e) hs hf) (EW.mono (h as G σ H k) fun v1 H1 ⟨as1, G1, m1, r1, x1, k1, ro1, f1, h1⟩ => ?_)
  obtain ⟨G2, x2, k2, rs2⟩ := learn_post k.iv x1 k1 ro1 f1
  exact (PostS.now (k2.set i rs2) h1).ext x2
theorem sv_new (i : Nat) {x : Str} {p' : Pos} (h : EV X e env mem fun r m => ∃ ds, r = .nl ds ∧ K.nx (env.set i (some (.loc m.length))) (m ++ [.lst ds])) (hN : X.N.Nodup) (hs : swapsWith e (some (.Name x p')) pos.line X.env = pure false := by rfl) (hi : X.N[i]? = some x := by rfl) (hx : Loc X.env.scope x := by first | exact .inl rfl | exact .inr rfl)
    (hf : X.fn x = true ∨ X.env.scope.names.lookup x = some .local := by first | exact .inl rfl | exact .inr rfl) : SV X (.Assign [.Name x p'] e pos) env mem K := fun as G σ H k => by
  refine SW.of (ps_set hN hi hx (pe_ew X e) hs hf) (EW.mono (h as G σ H k) fun v1 H1 ⟨as1, G1, m1, r1, x1, k1, ro1, f1, ds, er, h1⟩ => ?_)
  subst er
  obtain ⟨as2, x2, k2, rs2⟩ := k1.cell k.iv x1 ro1 f1
  exact (PostS.now (k2.set i rs2) h1).ext x2
/-- an argument that becomes a new cell -/
theorem av_consC {P : List Sl → Mem → Prop} (h : EV X e env mem fun r m => ∃ ds, r = .nl ds ∧ AV X es env (m ++ [.lst ds]) fun rs m' => P (.loc m.length :: rs) m') (hs : starEach (e :: es) X.env = (false, eval e X.env) :: starEach es X.env := by rfl) : AV X (e :: es) env mem P := fun as G σ H k => by
  refine AW.of (pa_cons (pe_ew X e) (pa_aw X es) hs) ?_
  refine EW.mono (h as G σ H k) fun v1 H1 ⟨as1, G1, m1, r1, x1, k1, ro1, f1, ds, er, h1⟩ => ?_
  subst er
  obtain ⟨as2, x2, k2, rs2⟩ := k1.cell k.iv x1 ro1 f1
  refine AW.mono (h1 as2 G1 σ H1 k2) fun vs H2 ⟨as3, G3, m3, rs, x3, k3, ro3, h3⟩ => ?_
  exact ⟨as3, G3, m3, _, x2.trans x3, k3, .cons (rs2.ext x3) ro3, h3⟩
theorem sv_par (i j : Nat) {x y : Str} {px py pt : Pos} {kt k2 pt2} (h : AV X [a, b] env mem fun rs m => ∃ s t, rs = [s, t] ∧ K.nx ((env.set i (some s)).set j (some t)) m) (hc : X.calm = true) (hN : X.N.Nodup) (hij : i ≠ j)
    (hw : swappedStores [.Tuple [.Name x px, .Name y py] kt pt] (.Tuple [a, b] k2 pt2) X.env = pure (some [x, y])) (hi : X.N[i]? = some x := by rfl) (hj : X.N[j]? = some y := by rfl) (hx : X.env.scope.names.lookup x = some .local := by rfl) (hy : X.env.scope.names.lookup y = some .local := by rfl)
    (hs : swapsWithSole [.Tuple [.Name x px, .Name y py] kt pt] (.Tuple [a, b] k2 pt2) pos.line X.env = pure false := by rfl) : SV X (.Assign [.Tuple [.Name x px, .Name y py] kt pt] (.Tuple [a, b] k2 pt2) pos) env mem K := fun as G σ H k => by
  refine SW.of (ps_par hc hN hi hj hij hx hy (pa_aw X [a, b]) hw hs) (AW.mono (h as G σ H k) fun vs H1 ⟨as1, G1, m1, rs, x1, k1, ro, s, t, ers, h1⟩ => ?_)
  subst ers
  cases ro with
  | cons q1 q2 =>
    cases q2 with
    | cons q3 q4 =>
      cases q4
      exact ⟨_, _, rfl, (PostS.now ((k1.set i q1).set j q3) h1).ext x1⟩
theorem sv_expr (h : EV X e env mem fun _ m => K.nx env m) (hs : swapsWith e none pos.line X.env = pure false := by rfl) : SV X (.Expr e pos) env mem K := fun as G σ H k => by
  refine SW.of (ps_expr (pe_ew X e) hs) (EW.mono (h as G σ H k) fun v1 H1 ⟨as1, G1, m1, r1, x1, k1, ro1, f1, h1⟩ => (PostS.now k1 h1).ext x1)
theorem sv_ret (h : EV X e env mem fun r m => K.rt r m) : SV X (.Return (some e) pos) env mem K := fun as G σ H k => by
  refine SW.of (ps_ret (pe_ew X e)) (EW.mono (h as G σ H k) fun v1 H1 ⟨as1, G1, m1, r1, x1, k1, ro1, f1, h1⟩ => ⟨as1, G1, m1, r1, x1, k1.mm, ro1, f1, h1⟩)
theorem sv_if (h : TV X c env mem fun t m => cond t (SVs X A env m K) (SVs X B env m K)) : SV X (.If c A B pos) env mem K := fun as G σ H k => by
  refine SW.of (ps_if (pt_tw X c) (pss_sw X A) (pss_sw X B)) (TW.mono (h as G σ H k) fun t H1 ⟨as1, G1, m1, x1, k1, h1⟩ => ?_)
  cases t with
  | true => exact SWs.mono (endsOf.ext x1) (h1 as1 G1 σ H1 k1)
  | false => exact SWs.mono (endsOf.ext x1) (h1 as1 G1 σ H1 k1)
/-! ### loops -/
def FV (X : Dx) (tg : Expr) (body : List Stmt) (K : Ks) : List D → Envt → Mem → Prop
  | [], env, mem => K.nx env mem
  | d :: ds, env, mem => GV X tg (.v d) env mem fun e m => SVs X body e m { K with nx := FV X tg body K ds, ct := FV X tg body K ds, bk := K.nx }
def kF (X : Dx) (tg : Expr) (body : List Stmt) (K : Ks) (ds : List D) : Ks := { nx := FV X tg body K ds, rt := K.rt, ct := FV X tg body K ds, bk := K.nx }
theorem fv_step {d : D} {ds : List D} {as : List Addr} {G : Hp} {σ : L2.St} {H : Hp} {x : V} (k : OkS (Cx.cn X) X.iv as G env mem σ H) (f : FV X tg body K (d :: ds) env mem) (r : Rep (Cx.cn X) G x d) {as0 : List Addr} {G0 H0 : Hp} (y : Ext as0 G0 H0 as G H) :
    GW X tg x σ H fun σ2 H2 => SWs X body (endsOf (Cx.cn X) X.iv as0 G0 H0 (kF X tg body K ds)) σ2 H2 := by
  refine GW.mono (f as G σ H x k r) fun σ2 H2 ⟨as', G', e', m', z, k', p⟩ => ?_
  exact SWs.mono (endsOf.ext (y.trans z)) (p as' G' σ2 H2 k')
def rgD (lo : Int) (n : Nat) : List D := (List.range n).map fun (i : Nat) => .int (lo + (i : Int))
theorem rgD_get (lo : Int) (n i : Nat) (h : i < n) : (rgD lo n)[i]? = some (.int (lo + i)) := by
  unfold rgD
  rw [List.getElem?_map, List.getElem?_range h] <;> rfl
theorem sv_while (hp : PassesOwn (model X.prog X.w) X.A X.env X.xe) (I : Nat → Envt → Mem → Prop) (h0 : ∃ n, I n env mem) (hs : ∀ n e m, I n e m → TV X c e m fun t m' => cond t (SVs X body e m' { K with nx := fun e m => ∃ n', n' < n ∧ I n' e m, ct := fun e m => ∃ n', n' < n ∧ I n' e m, bk := K.nx }) (K.nx e m')) :
    SV X (.While c body [] pos) env mem K := fun as G σ H k => by
  refine SW.of (ps_while hp (pt_tw X c) (pss_sw X body)) ?_
  obtain ⟨n0, i0⟩ := h0
  refine ⟨fun n σ' H' => PostS (Cx.cn X) X.iv as G H (fun e m => I n e m) σ' H', ⟨n0, PostS.now k i0⟩, fun n σ' H' ⟨as', G', e', m', x, k', i⟩ => ?_⟩
  refine TW.mono (hs n e' m' i as' G' σ' H' k') fun t H1 ⟨as1, G1, m1, x1, k1, h1⟩ => ?_
  have xx := x.trans x1
  cases t with
  | false => exact ⟨as1, G1, e', m1, xx, k1, h1⟩
  | true =>
    refine ⟨PostS (Cx.cn X) X.iv as G H fun e m => ∃ n', n' < n ∧ I n' e m, fun σ2 H2 ⟨as2, G2, e2, m2, x2, k2, n', hn, i2⟩ => ⟨n', hn, as2, G2, e2, m2, x2, k2, i2⟩, ?_⟩
    exact SWs.mono (D := endsOf (Cx.cn X) X.iv as1 G1 H1 { K with nx := fun e m => ∃ n', n' < n ∧ I n' e m, ct := fun e m => ∃ n', n' < n ∧ I n' e m, bk := K.nx }) ⟨fun _ _ z => PostS.ext xx z, fun _ _ z => PostR.ext xx z, fun _ _ z => PostS.ext xx z, fun _ _ z => PostS.ext xx z⟩ (h1 as1 G1 σ' H1 k1)
end
end Dl
/-! Dl6: defs: what they promise, how they are called. -/
namespace Dl
open PySem PySem.Spec PyProof.Rows L2
/-! ### no list within -/
mutual
def lf : D → Bool
  | .lst _ => false
  | .tup ds => lfs ds
  | .ob _ fs => lff fs
  | .ex _ fs => lff fs
  | .dic ks => lfk ks
  | _ => true
def lfs : List D → Bool
  | [] => true
  | d :: ds => lf d && lfs ds
def lff : List (Str × D) → Bool
  | [] => true
  | (_, d) :: ds => lf d && lff ds
def lfk : List (D × D) → Bool
  | [] => true
  | (_, d) :: ds => lf d && lfk ds
end
def lfR : Rs → Bool
  | .v d => lf d
  | .nl ds => lfs ds
  | .loc _ => false
def isLst : HO → Bool
  | .lst _ => true
  | _ => false
section
variable {C : Cn} {I : Iv} {G1 G2 : Hp}
mutual
theorem Rep.lf (s : ∀ a o, G1 a = some o → isLst o = false → G2 a = some o) : ∀ {v : V} {d : D}, Rep C G1 v d → Dl.lf d = true → Rep C G2 v d
  | _, _, .non, _ => .non
  | _, _, .bl b, _ => .bl b
  | _, _, .int i, _ => .int i
  | _, _, .str x, _ => .str x
  | _, _, .lst h r, l => by rw [Dl.lf] at l; cases l
  | _, _, .tup h r, l => by
    rw [Dl.lf] at l
    refine .tup ?_ (Reps.lf s r l)
    rcases h with (h | ⟨o, h⟩) | h
    · exact .inl (.inl (s _ _ h rfl))
    · exact .inl (.inr ⟨o, s _ _ h rfl⟩)
    · exact .inr h
  | _, _, .ob h m r, l => by
    rw [Dl.lf] at l
    exact .ob (h.to (fun _ z => s _ _ z rfl) (fun z => s _ _ z rfl) fun _ z => s _ _ z rfl) m (RepF.lf s r l)
  | _, _, .ex h h2 m r, l => by
    rw [Dl.lf] at l
    exact .ex (s _ _ h rfl) (s _ _ h2 rfl) m (RepF.lf s r l)
  | _, _, .fn h, l => .fn (s _ _ h rfl)
  | _, _, .dic h n t r, l => by
    rw [Dl.lf] at l
    exact .dic (s _ _ h rfl) n t (RepD.lf s r l)
  | _, _, .cl h, _ => .cl h
theorem Reps.lf (s : ∀ a o, G1 a = some o → isLst o = false → G2 a = some o) : ∀ {vs : List V} {ds : List D}, Reps C G1 vs ds → Dl.lfs ds = true → Reps C G2 vs ds
  | _, _, .nil, _ => .nil
  | _, _, .cons h r, l => by
    rw [Dl.lfs, Bool.and_eq_true] at l
    exact .cons (Rep.lf s h l.1) (Reps.lf s r l.2)
theorem RepF.lf (s : ∀ a o, G1 a = some o → isLst o = false → G2 a = some o) : ∀ {vs : List (Str × V)} {ds : List (Str × D)}, RepF C G1 vs ds → Dl.lff ds = true → RepF C G2 vs ds
  | _, _, .nil, _ => .nil
  | _, _, .cons h r, l => by
    rw [Dl.lff, Bool.and_eq_true] at l
    exact .cons (Rep.lf s h l.1) (RepF.lf s r l.2)
theorem RepD.lf (s : ∀ a o, G1 a = some o → isLst o = false → G2 a = some o) : ∀ {vs : List (List Key × Addr × Value)} {ds : List (D × D)}, RepD C G1 vs ds → Dl.lfk ds = true → RepD C G2 vs ds
  | _, _, .nil, _ => .nil
  | _, _, .cons t v h r, l => by
    rw [Dl.lfk, Bool.and_eq_true] at l
    refine .cons ?_ v (Rep.lf s h l.1) (RepD.lf s r l.2)
    rcases t with (t | ⟨o, t⟩) | t
    · exact .inl (.inl (s _ _ t rfl))
    · exact .inl (.inr ⟨o, s _ _ t rfl⟩)
    · exact .inr t
end
end
section
variable {C : Cn} {I : Iv} {as bs : List Addr} {G Gp H H' : Hp} {env : Envt} {mem : Mem} {σ : L2.St} {v : V} {r : Rs}
structure Back (C : Cn) (as bs : List Addr) (G G' H H' : Hp) (mem : Mem) (Gp : Hp) : Prop where
  ext : Ext as G H as G' H'
  cell : ∀ (n : Nat) (a : Addr) (c : Cell), as[n]? = some a → mem[n]? = some c → a ∉ bs → CellOk C G' H' a c
  sub : Sub G' H'
  rep : ∀ a o, Gp a = some o → isLst o = false → G' a = some o
  at_ : ∀ a, a ∈ bs → G' a = Gp a
  fr : ∀ p, ¬ Tr H p → Gp p = none → G' p = none
/-- a result without lists within, seen again from the caller -/
theorem Back.res {Gp' G' : Hp} (b : Back C as bs G G' H H' mem Gp') (hb : ∀ x ∈ bs, x ∈ as) (there : ∀ a ∈ as, Tr H a) (ro : ResOk C bs Gp' H' v r) (f : Fr H v r) (l : lfR r = true) : ResOk C as G' H' v r := by
  cases r with
  | v d => exact Rep.lf b.rep ro l
  | nl ds =>
    obtain ⟨p, vs, rfl, h, g, n, q⟩ := ro
    exact ⟨p, vs, rfl, h, b.fr p (f p rfl) g, fun z => f p rfl (there p z), q.lf b.rep l⟩
  | loc n => cases l
end
/-! ### what a def promises: the cells that it is handed, the arguments, its result and the cells behind; or an error and the cells behind -/
abbrev XE := Str → List (Str × D) → Mem → Prop
/-- an error: its class's object, its dict -/
def XOk (C : Cn) (G : Hp) (cls : Value) (d : Option Addr) (c : Str) (fs : List (Str × D)) : Prop := ∃ A dx vs, cls = .ref A ∧ C.mg c = some (.ref A) ∧ d = some dx ∧ G dx = some (.xd vs) ∧ RepF C G vs fs
theorem XOk.mono {C : Cn} {G G' : Hp} {cls : Value} {d : Option Addr} {c : Str} {fs : List (Str × D)} (s : Sub G G') : XOk C G cls d c fs → XOk C G' cls d c fs := fun ⟨A, dx, vs, e1, e2, e3, h, r⟩ => ⟨A, dx, vs, e1, e2, e3, s _ _ h, r.mono s⟩
abbrev FS := List Sl → Mem → (Rs → Mem → Prop) → XE → Prop
def spG (C : Cn) (n : Nat) (F : FS) : Sp := fun vs H Q E => ∃ (bs : List Addr) (G : Hp) (mem : Mem) (rs : List Sl), Mm C bs mem G H ∧ RsOk C bs G vs rs ∧ rs.length = n ∧
  F rs mem (fun r mem' => ∀ v G' H', Ext bs G H bs G' H' → Mm C bs mem' G' H' → ResOk C bs G' H' v r → Fr H v r → Q v H')
    (fun c fs mem' => ∀ cls d G' H', Ext bs G H bs G' H' → Mm C bs mem' G' H' → XOk C G' cls d c fs → E cls d H')
/-- what is let out of a context -/
def EK (X : Dx) (E : XE) : XK := fun cls d H' => ∃ as' G' mem' c fs, X.iv.p as' G' H' ∧ Mm (Cx.cn X) as' mem' G' H' ∧ XOk (Cx.cn X) G' cls d c fs ∧ E c fs mem'
def Tk (X : Dx) (E : XE) : Prop := Takes X fun cls d _ H' => EK X E cls d H'
theorem Tk.imp {X : Dx} {E E' : XE} (t : Tk X E) (h : ∀ c fs m, E' c fs m → E c fs m) : Tk X E' := Takes.imp t fun _ _ _ _ ⟨as', G', m', c, fs, a, b, d, e⟩ => ⟨as', G', m', c, fs, a, b, d, h _ _ _ e⟩
theorem Tk.passes {X : Dx} {E : XE} (t : Tk X E) : Passes (L2.CX X.prog X.w) X (EK X E) := passes_call t fun _ _ _ _ h => h
def xNo : XE := fun _ _ _ => False
theorem tkNo {X : Dx} : Tk X xNo := fun _ _ x => by
  obtain ⟨_, _, _, _, _, _, _, _, _, _, _, _, _, _, _, _, _, _, _, _, _, _, _, _, z⟩ := x
  exact z.elim
theorem RsOk.length {C : Cn} {as : List Addr} {G : Hp} : ∀ {vs : List V} {rs : List Sl}, RsOk C as G vs rs → vs.length = rs.length
  | _, _, .nil => rfl
  | _, _, .cons _ r => by rw [List.length_cons, List.length_cons, RsOk.length r]
/-- a def that is called by its name, all parameters by place -/
structure HasF (P : Program) (w : World) (K : PySem.W.Frag) (mg : Str → Option Value) (Tb : List NdefX.NTab) (base : Heap) (x : Str) (j n : Nat) (F : FS) : Prop where
  ex : ∃ (f : Addr) (fd : FuncData) (ps : List Str), FnOk P w K mg base (L2.CX P w) j f fd ps (spG ⟨K, mg, Tb, P, w⟩ n F) ∧ mg x = some (.ref f) ∧ PySem.W.keepIn K (.ref f) = true ∧ Binds K fd ps []
section
variable {C : Cn} {I : Iv} {as : List Addr} {G H : Hp} {env : Envt} {mem : Mem} {σ : L2.St}
end
section
variable {X : Dx} {e : Expr} {es : List Expr} {pos p0 : Pos} {env : Envt} {mem : Mem} {P : Rs → Mem → Prop} {x : Str} {j n : Nat} {F : FS}
theorem mm_nil {C : Cn} {G H : Hp} (s : Sub G H) (nt : ∀ a ps, G a ≠ some (.tbl ps)) (t : NdefX.TabsN C.T H) : Mm C [] [] G H := ⟨rfl, List.nodup_nil, (fun n a c h _ => by cases n <;> cases h), (fun a h => nomatch h), s, nt, t⟩
def nloc : Rs → Bool
  | .loc _ => false
  | _ => true
theorem res_any {C : Cn} {as bs : List Addr} {G H0 H : Hp} {v : V} {r : Rs} (n : nloc r = true) (there : ∀ a ∈ as, Tr H0 a) (f : Fr H0 v r) (h : ResOk C bs G H v r) : ResOk C as G H v r := by
  cases r with
  | v d => exact h
  | nl ds =>
    obtain ⟨p, vs, rfl, a, g, _, q⟩ := h
    exact ⟨p, vs, rfl, a, g, fun z => f p rfl (there p z), q⟩
  | loc n => cases n
section
variable {as : List Addr} {G : Hp} {σ : L2.St} {H : Hp} {vs : List V} {rs ss : List Sl}
end
end
/-! ### cells handed on -/
def idx : List Nat → Nat → Option Nat
  | [], _ => none
  | a :: r, i => bif i == a then some 0 else (idx r i).map (· + 1)
def renO (ix : List Nat) : List Sl → Option (List Sl)
  | [] => some []
  | .v d :: r => (renO ix r).map (.v d :: ·)
  | .loc i :: r => match idx ix i with
    | some j => (renO ix r).map (.loc j :: ·)
    | none => none
def pickO (m : Mem) : List Nat → Option Mem
  | [] => some []
  | i :: r => match m[i]? with
    | some c => (pickO m r).map (c :: ·)
    | none => none
def wb : Mem → List Nat → Mem → Mem
  | m, i :: ix, c :: cs => wb (m.set i c) ix cs
  | m, _, _ => m
theorem idx_get : ∀ {ix : List Nat} {i j : Nat}, idx ix i = some j → ix[j]? = some i
  | [], _, _, h => by cases h
  | a :: r, i, j, h => by
    rw [idx] at h
    cases q : (i == a) with
    | true =>
      rw [q] at h
      cases h
      rw [beq_iff_eq.mp q] <;> rfl
    | false =>
      rw [q] at h
      cases e : idx r i with
      | none => rw [e] at h; cases h
      | some k =>
        rw [e] at h
        cases h
        show r[k]? = some i
        exact idx_get e
theorem pick_len : ∀ {m : Mem} {ix : List Nat} {cs : Mem}, pickO m ix = some cs → cs.length = ix.length
  | _, [], _, h => by cases h; rfl
  | m, i :: r, cs, h => by
    rw [pickO] at h
    cases q : m[i]? with
    | none => simp [q] at h
    | some c =>
      cases e : pickO m r with
      | none => simp [q, e] at h
      | some t =>
        simp only [q, e] at h
        cases h
        rw [List.length_cons, List.length_cons, pick_len e]
theorem pick_get : ∀ {m : Mem} {ix : List Nat} {cs : Mem} {j i : Nat}, pickO m ix = some cs → ix[j]? = some i → cs[j]? = m[i]?
  | _, [], _, _, _, _, e => by cases e
  | m, a :: r, cs, j, i, h, e => by
    rw [pickO] at h
    cases q : m[a]? with
    | none => simp [q] at h
    | some c =>
      cases e2 : pickO m r with
      | none => simp [q, e2] at h
      | some t =>
        simp only [q, e2] at h
        cases h
        cases j with
        | zero => cases e; rw [q] <;> rfl
        | succ j => exact pick_get (j := j) e2 e
theorem wb_length : ∀ (m : Mem) (ix : List Nat) (cs : Mem), (wb m ix cs).length = m.length
  | _, [], _ => by rw [wb]; intro _ _ _ _ h; cases h
  | m, i :: ix, [] => by rw [wb]; intro _ _ _ _ _ h; cases h
  | m, i :: ix, c :: cs => by rw [wb, wb_length, List.length_set]
theorem wb_out : ∀ {m : Mem} {ix : List Nat} {cs : Mem} {n : Nat}, n ∉ ix → (wb m ix cs)[n]? = m[n]?
  | _, [], _, _, _ => by rw [wb]; intro _ _ _ _ h; cases h
  | m, i :: ix, [], _, _ => by rw [wb]; intro _ _ _ _ _ h; cases h
  | m, i :: ix, c :: cs, n, h => by
    rw [wb, wb_out (fun z => h (List.mem_cons_of_mem _ z)), List.getElem?_set_ne (fun z => h (by rw [z]; exact List.mem_cons_self))]
theorem wb_in : ∀ {m : Mem} {ix : List Nat} {cs : Mem} {j n : Nat} {c : Cell}, ix.Nodup → ix[j]? = some n → cs[j]? = some c → n < m.length → (wb m ix cs)[n]? = some c
  | _, [], _, _, _, _, _, h, _, _ => by cases h
  | _, _ :: _, [], _, _, _, _, _, h, _ => by cases h
  | m, i :: ix, c0 :: cs, 0, n, c, nd, h1, h2, hl => by
    cases h1
    cases h2
    rw [wb, wb_out (List.nodup_cons.mp nd).1, List.getElem?_set_self hl]
  | m, i :: ix, c0 :: cs, j + 1, n, c, nd, h1, h2, hl => by
    rw [wb]
    exact wb_in (j := j) (List.nodup_cons.mp nd).2 h1 h2 (by rw [List.length_set]; exact hl)
section
variable {X : Dx} {e : Expr} {es : List Expr} {pos p0 : Pos} {env : Envt} {mem : Mem} {P : Rs → Mem → Prop} {x : Str} {j n : Nat} {F : FS}
variable {as : List Addr} {G : Hp} {σ : L2.St} {H : Hp} {vs : List V} {rs ss : List Sl}
/-- the addresses of the cells handed on -/
def adr (as : List Addr) (ix : List Nat) : List Addr := ix.map fun i => as.getD i 0
theorem ren_ok {C : Cn} {ix : List Nat} : ∀ {vs : List V} {rs ss : List Sl}, RsOk C as G vs rs → renO ix rs = some ss → RsOk C (adr as ix) G vs ss
  | _, [], _, .nil, e => by cases e; exact .nil
  | _, .v d :: rs, ss, .cons r rr, e => by
    rw [renO] at e
    cases q : renO ix rs with
    | none => rw [q] at e; cases e
    | some t => rw [q] at e; cases e; exact .cons r (ren_ok rr q)
  | _, .loc i :: rs, ss, .cons r rr, e => by
    rw [renO] at e
    cases q0 : idx ix i with
    | none => simp [q0] at e
    | some k =>
      cases q : renO ix rs with
      | none => simp [q0, q] at e
      | some t =>
        simp only [q0, q] at e
        cases e
        obtain ⟨a, ha, rfl⟩ := r
        refine .cons ⟨a, ?_, rfl⟩ (ren_ok rr q)
        unfold adr
        rw [List.getElem?_map, idx_get q0]
        show some (as.getD i 0) = some a
        rw [List.getD_eq_getElem?_getD, ha] <;> rfl
theorem call_cells (ix : List Nat) (nd : ix.Nodup) (k : OkS (Cx.cn X) X.iv as G env mem σ H) {cs : Mem} (ro : RsOk (Cx.cn X) as G vs rs) (hr : renO ix rs = some ss) (hp : pickO mem ix = some cs) (hn : ss.length = n)
    {W : XE} (hF : F ss cs (fun r m' => nloc r = true ∧ P r (wb mem ix m')) fun c fs m' => W c fs (wb mem ix m')) (hFm : ∀ (Q Q' : Rs → Mem → Prop) (W W' : XE), (∀ r m, Q r m → Q' r m) → (∀ c fs m, W c fs m → W' c fs m) → F ss cs Q W → F ss cs Q' W') : spG (Cx.cn X) n F vs H (Post (Cx.cn X) X.iv as G env σ H P) (EK X W) := by
  have hlt : ∀ i ∈ ix, i < as.length := fun i hi => by
    obtain ⟨j, hj⟩ := List.getElem?_of_mem hi
    have z := pick_get hp hj
    have hl := pick_len hp
    have h1 : j < cs.length := by rw [hl]; exact (List.getElem?_eq_some_iff.mp hj).1
    rw [List.getElem?_eq_getElem h1] at z
    rw [k.mm.len]
    exact (List.getElem?_eq_some_iff.mp z.symm).1
  have at_ : ∀ {j : Nat} {b : Addr}, (adr as ix)[j]? = some b → ∃ i, ix[j]? = some i ∧ as[i]? = some b := fun {j b} h => by
    unfold adr at h
    rw [List.getElem?_map] at h
    cases q : ix[j]? with
    | none => rw [q] at h; cases h
    | some i =>
      rw [q] at h
      have hi := hlt i (List.mem_of_getElem? q)
      refine ⟨i, rfl, ?_⟩
      have h' : as.getD i 0 = b := Option.some.inj h
      rw [List.getD_eq_getElem?_getD, List.getElem?_eq_getElem hi] at h'
      rw [List.getElem?_eq_getElem hi]
      exact congrArg some h'
  have of_ : ∀ {i : Nat} {a : Addr}, i ∈ ix → as[i]? = some a → a ∈ adr as ix := fun {i a} hi ha => by
    unfold adr
    refine List.mem_map.mpr ⟨i, hi, ?_⟩
    rw [List.getD_eq_getElem?_getD, ha] <;> rfl
  have sub_as : ∀ b ∈ adr as ix, b ∈ as := fun b hb => by
    obtain ⟨j, hj⟩ := List.getElem?_of_mem hb
    obtain ⟨i, _, ha⟩ := at_ hj
    exact List.mem_of_getElem? ha
  have ndA : (adr as ix).Nodup := by
    rw [List.nodup_iff_pairwise_ne, List.pairwise_iff_getElem]
    intro a b ha hb hab e
    have h1 := List.getElem?_eq_getElem ha
    have h2 := List.getElem?_eq_getElem hb
    obtain ⟨i1, e1, f1⟩ := at_ h1
    obtain ⟨i2, e2, f2⟩ := at_ h2
    have ei : i1 = i2 := (List.getElem?_inj (List.getElem?_eq_some_iff.mp f1).1 k.mm.nd).mp (by rw [f1, f2, e])
    rw [← ei] at e2
    have := (List.getElem?_inj (List.getElem?_eq_some_iff.mp e1).1 nd).mp (e1.trans e2.symm)
    omega
  have ext_ : ∀ {G' H' : Hp}, Ext (adr as ix) G H (adr as ix) G' H' → Ext as G H as G' H' := fun x => ⟨⟨[], by simp⟩, x.sub, fun a o ha h nt => x.keep a o (fun z => ha (sub_as a z)) h nt, fun a ha h g => x.old a (fun z => ha (sub_as a z)) h g, fun a h n => (n h).elim, x.there⟩
  have mm_ : ∀ {G' H' : Hp} {m : Mem}, Ext (adr as ix) G H (adr as ix) G' H' → Mm (Cx.cn X) (adr as ix) m G' H' → Mm (Cx.cn X) as (wb mem ix m) G' H' := fun {G' H' m} x mm => by
    refine ⟨by rw [wb_length]; exact k.mm.len, k.mm.nd, fun i a c h1 h2 => ?_, fun a h => x.there a (k.mm.there a h), mm.sub, mm.nt, mm.tabs⟩
    by_cases hi : i ∈ ix
    · obtain ⟨j, hj⟩ := List.getElem?_of_mem hi
      have hb : (adr as ix)[j]? = some a := by
        unfold adr
        rw [List.getElem?_map, hj]
        show some (as.getD i 0) = some a
        rw [List.getD_eq_getElem?_getD, h1] <;> rfl
      have hl : j < m.length := by
        rw [← mm.len]
        exact (List.getElem?_eq_some_iff.mp hb).1
      rw [wb_in nd hj (List.getElem?_eq_getElem hl) (by rw [← k.mm.len]; exact hlt i hi)] at h2
      exact mm.cell j a c hb (by rw [← h2]; exact List.getElem?_eq_getElem hl)
    · rw [wb_out hi] at h2
      have hna : a ∉ adr as ix := fun z => by
        obtain ⟨j, hj⟩ := List.getElem?_of_mem z
        obtain ⟨i', e1, f1⟩ := at_ hj
        have : i = i' := (List.getElem?_inj (List.getElem?_eq_some_iff.mp h1).1 k.mm.nd).mp (h1.trans f1.symm)
        exact hi (by rw [this]; exact List.mem_of_getElem? e1)
      have z := k.mm.cell i a c h1 h2
      exact z.move (fun o h co g => x.old a hna (ownC h co) g) (fun o h co => x.keep _ _ hna h co.nt) x.sub
  refine ⟨adr as ix, G, cs, ss, ⟨by rw [pick_len hp]; unfold adr; rw [List.length_map], ndA, fun j b c h1 h2 => ?_, fun b hb => k.mm.there b (sub_as b hb), k.mm.sub, k.mm.nt, k.mm.tabs⟩, ren_ok ro hr, hn, hFm _ _ _ _ (fun r m q v G' H' x mm res f => ?_) (fun c fs m q cls d G' H' x mm xo => ?_) hF⟩
  · obtain ⟨i, e1, f1⟩ := at_ h1
    rw [pick_get hp e1] at h2
    exact k.mm.cell i b c f1 h2
  · obtain ⟨hnl, hP⟩ := q
    exact ⟨as, G', wb mem ix m, r, ext_ x, k.ext (ext_ x) (mm_ x mm), res_any hnl k.mm.there f res, f, hP⟩
  · exact ⟨as, G', wb mem ix m, c, fs, X.iv.ext (ext_ x) k.iv, mm_ x mm, xo, q⟩
/-! ### the rules for calls by name -/
def monoF (F : FS) : Prop := ∀ rs m (Q Q' : Rs → Mem → Prop) (W W' : XE), (∀ r m, Q r m → Q' r m) → (∀ c fs m, W c fs m → W' c fs m) → F rs m Q W → F rs m Q' W'
theorem EK.back {as as1 : List Addr} {G G1 H H1 : Hp} {E : XE} : ∀ cls d H', EK X E cls d H' → EK X E cls d H' := fun _ _ _ h => h
theorem ev_callX {E : XE} (tk : Tk X E) (hF : HasF X.prog X.w X.K X.mg X.T X.base x j n F) (hr : Room j X.A) (hm : monoF F) (h : AV X (e :: es) env mem fun rs m => ∃ ix, List.Nodup ix ∧ ∃ ss cs, renO ix rs = some ss ∧ pickO m ix = some cs ∧ ss.length = n ∧ F ss cs (fun r m' => nloc r = true ∧ P r (wb m ix m')) fun c fs m' => E c fs (wb m ix m'))
    (hg : Gl X x := by rfl) (hdb : (x == ("__debug__" : Str)) = false := by decide) (he : starEach (e :: es) X.env = (false, eval e X.env) :: starEach es X.env := by rfl) (hpl : (backTo pos (starEach es X.env)).any (·.1) = false := by rfl) : EV X (.Call (.Name x p0) (e :: es) [] pos) env mem P := fun as G σ H k => by
  obtain ⟨f, fd, ps, ok, hmg, hk, hb⟩ := hF.ex
  refine EW.of (pe_call ok hr hg hmg hk hb .nil tk.passes (pa_aw X (e :: es)) hdb he hpl) ?_
  refine AW.mono (h as G σ H k) fun vs H1 ⟨as1, G1, m1, rs, x1, k1, ro, ix, nd, ss, cs, e1, e2, e3, h1⟩ => ?_
  rw [List.append_nil]
  obtain ⟨bs, G2, m2, rs2, a1, a2, a3, a4⟩ := call_cells ix nd k1 ro e1 e2 e3 h1 (fun Q Q' W W' => hm ss cs Q Q' W W')
  exact ⟨bs, G2, m2, rs2, a1, a2, a3, hm _ _ _ _ _ _ (fun r m z v G' H' y1 y2 y3 y4 => (z v G' H' y1 y2 y3 y4).ext x1) (fun c fs m z => z) a4⟩
end
/-! ### a def keeps its promise by its body -/
def exitP (k0 : Nat) (Q : Rs → Mem → Prop) (r : Rs) (m : Mem) : Prop := match r with
  | .v d => Q (.v d) (m.take k0)
  | .nl ds => Q (.nl ds) (m.take k0)
  | .loc n => if n < k0 then Q (.loc n) (m.take k0) else match m[n]? with
    | some (.lst ds) => Q (.nl ds) (m.take k0)
    | some (.dic ds) => Q (.v (.dic ds)) (m.take k0)
    | _ => False
def envOf (N : List Str) (rs : List Sl) : Envt := rs.map some ++ List.replicate (N.length - rs.length) none
abbrev XB (P : Program) (w : World) (K : PySem.W.Frag) (mg : Str → Option Value) (base : Heap) (N : List Str) (qual : Str) (st : Stmt) (f : Addr) (cdv : Value) (A : Around) (outer : List Env) (s : Shared) (H : Hp) (E : XK) (I : Iv) (Tb : List NdefX.NTab) : Dx :=
  ⟨cxOf (L2.CX P w) P w K mg base N qual (defScope st) f cdv A outer s H E, I, Tb⟩
theorem RsOk.get {C : Cn} {bs : List Addr} {G : Hp} : ∀ {vs : List V} {rs : List Sl} {i : Nat} {s : Sl}, RsOk C bs G vs rs → rs[i]? = some s → ∃ v, vs[i]? = some v ∧ RepS C bs G v s
  | _, [], _, _, _, e => by cases e
  | _, _ :: _, 0, _, .cons r _, e => by cases e; exact ⟨_, rfl, r⟩
  | _, _ :: rs, i + 1, _, .cons _ rr, e => RsOk.get (i := i) rr e
theorem start_env {C : Cn} {bs : List Addr} {G : Hp} {N : List Str} {vs : List V} {rs : List Sl} (r : RsOk C bs G vs rs) (hl : rs.length ≤ N.length) : (L2.start N vs).length = (envOf N rs).length ∧ ∀ (i : Nat) (s : Sl), (envOf N rs)[i]? = some (some s) → ∃ v, (L2.start N vs)[i]? = some (some v) ∧ RepS C bs G v s := by
  have el := r.length
  refine ⟨by unfold L2.start envOf; rw [List.length_append, List.length_append, List.length_map, List.length_map, List.length_replicate, List.length_replicate, el], fun i s e => ?_⟩
  unfold envOf at e
  by_cases hi : i < rs.length
  · rw [List.getElem?_append_left (by rw [List.length_map]; exact hi), List.getElem?_map] at e
    cases q : rs[i]? with
    | none => rw [q] at e; cases e
    | some t =>
      rw [q] at e
      cases e
      obtain ⟨v, hv, rv⟩ := RsOk.get r q
      refine ⟨v, ?_, rv⟩
      unfold L2.start
      rw [List.getElem?_append_left (by rw [List.length_map, el]; exact hi), List.getElem?_map, hv] <;> rfl
  · rw [List.getElem?_append_right (by rw [List.length_map]; omega), List.getElem?_replicate] at e
    split at e <;> cases e
theorem exit_st {C : Cn} {bs as' : List Addr} {G G' H H' : Hp} {mem' : Mem} (x : Ext bs G H as' G' H') (mm : Mm C as' mem' G' H') : Ext bs G H bs G' H' ∧ Mm C bs (mem'.take bs.length) G' H' := by
  obtain ⟨more, e⟩ := x.pre
  subst e
  have hl := mm.len
  rw [List.length_append] at hl
  refine ⟨⟨⟨[], by simp⟩, x.sub, x.keep, x.old, fun a h n => (n h).elim, x.there⟩, by rw [List.length_take]; omega, (List.nodup_append.mp mm.nd).1, fun n a c h1 h2 => ?_, fun a ha => mm.there a (List.mem_append_left _ ha), mm.sub, mm.nt, mm.tabs⟩
  have hn := (List.getElem?_eq_some_iff.mp h1).1
  rw [List.getElem?_take_of_lt hn] at h2
  exact mm.cell n a c (by rw [List.getElem?_append_left hn]; exact h1) h2
theorem exit_ok {C : Cn} {bs as' : List Addr} {G G' H H' : Hp} {mem' : Mem} {v : V} {r : Rs} {Q : VK} {F2 : Rs → Mem → Prop} (x : Ext bs G H as' G' H') (mm : Mm C as' mem' G' H') (ro : ResOk C as' G' H' v r) (f : Fr H v r)
    (q : exitP bs.length F2 r mem') (hQ : ∀ r m', F2 r m' → ∀ v G' H', Ext bs G H bs G' H' → Mm C bs m' G' H' → ResOk C bs G' H' v r → Fr H v r → Q v H') : Q v H' := by
  obtain ⟨x2, m2⟩ := exit_st x mm
  obtain ⟨more, e⟩ := x.pre
  subst e
  cases r with
  | v d => exact hQ _ _ q v G' H' x2 m2 ro trivial
  | nl ds =>
    obtain ⟨p, vs, rfl, a, g, n, rp⟩ := ro
    exact hQ _ _ q _ G' H' x2 m2 ⟨p, vs, rfl, a, g, fun z => n (List.mem_append_left _ z), rp⟩ f
  | loc n =>
    obtain ⟨a, ha, rfl⟩ := ro
    unfold exitP at q
    by_cases hn : n < bs.length
    · simp only [hn, if_true] at q
      refine hQ _ _ q _ G' H' x2 m2 ⟨a, ?_, rfl⟩ trivial
      rw [List.getElem?_append_left hn] at ha
      exact ha
    · simp only [hn, if_false] at q
      cases hc : mem'[n]? with
      | none => simp [hc] at q
      | some c =>
        cases c with
        | gone => simp [hc] at q
        | ob _ _ => simp [hc] at q
        | dic ds =>
          simp only [hc] at q
          obtain ⟨g, o, xs, h, ns, t, rp⟩ := mm.cell n a _ ha hc
          rw [List.getElem?_append_right (by omega)] at ha
          have hma := List.mem_of_getElem? ha
          have hnb : a ∉ bs := fun z => (List.nodup_append.mp mm.nd).2.2 a z a hma rfl
          have h0 : ¬ Tr H a := x.new a (List.mem_append_right _ hma) hnb
          obtain ⟨m3, lx⟩ := m2.learn h g hnb
          have sG : Sub G' (upd G' a (ExO a o)) := fun b u e => by rw [upd_ne (ne_of_none e g)]; exact e
          exact hQ _ _ q _ _ H' (lx _ _ _ x2 h0) m3 (Rep.dic upd_same ns t (rp.mono sG)) trivial
        | lst ds =>
          simp only [hc] at q
          obtain ⟨g, vs, h, rp⟩ := mm.cell n a _ ha hc
          rw [List.getElem?_append_right (by omega)] at ha
          have hma := List.mem_of_getElem? ha
          have hnb : a ∉ bs := fun z => (List.nodup_append.mp mm.nd).2.2 a z a hma rfl
          have h0 : ¬ Tr H a := x.new a (List.mem_append_right _ hma) hnb
          exact hQ _ _ q _ G' H' x2 m2 ⟨a, vs, rfl, h, g, hnb, rp⟩ (fun p e => by cases e; exact h0)
section
variable {P : Program} {w : World} {K : PySem.W.Frag} {mg : Str → Option Value} {base : Heap} {Tb : List NdefX.NTab}
/-- a def as it stands, whatever its defaults -/
def FunX (K : PySem.W.Frag) (x qual : Str) (st : Stmt) (f : Addr) (fd : FuncData) : Prop := ∃ dvs kws, FunD K x qual (defArgs st) (defBody st) (defScope st) dvs kws f fd
theorem FunX.okX {x qual : Str} {st : Stmt} {f : Addr} {fd : FuncData} {N ps : List Str} {k : Nat} {sp : Sp} (F : FunX K x qual st f fd) (S : FnScope N ps (defScope st)) (len : ∀ vs H Q E, sp vs H Q E → vs.length = ps.length)
    (hbody : ∀ (cdv : Value) (A : Around) (outer : List Env) (s : Shared) (H : Hp) (vs : List V) (Q : VK) (E : XK), Room k (A.deeper (envOfC qual (defScope st) s.heap.objs.size f cdv)) → sp vs H Q E →
      ∃ t, PSs (cxOf (L2.CX P w) P w K mg base N qual (defScope st) f cdv A outer s H E) (defBody st) t ∧ t { nx := fun _ H' => Q .non H', rt := Q } (start N vs) H) : FnOk P w K mg base (L2.CX P w) (k + 1) f fd ps sp := by
  obtain ⟨dvs, kws, F⟩ := F
  exact F.ok S len hbody
theorem ok_def {x qual : Str} {st : Stmt} {f : Addr} {fd : FuncData} {N ps : List Str} {k n : Nat} {F : FS} (Fn : FunX K x qual st f fd) (S : FnScope N ps (defScope st)) (hn : ps.length = n)
    (hb : ∀ (cdv : Value) (A : Around) (outer : List Env) (s : Shared) (H : Hp) (E : XK) (I : Iv), Room k (A.deeper (envOfC qual (defScope st) s.heap.objs.size f cdv)) → ∀ (rs : List Sl) (mem : Mem) (Q : Rs → Mem → Prop) (W : XE), rs.length = n → F rs mem Q W →
      Tk (XB P w K mg base N qual st f cdv A outer s H E I Tb) (fun c fs m => W c fs (m.take mem.length)) →
      SVs (XB P w K mg base N qual st f cdv A outer s H E I Tb) (defBody st) (envOf N rs) mem { nx := fun _ m => exitP mem.length Q (.v .non) m, rt := exitP mem.length Q }) :
    FnOk P w K mg base (L2.CX P w) (k + 1) f fd ps (spG ⟨K, mg, Tb, P, w⟩ n F) := by
  refine Fn.okX S (fun vs H Q E h => ?_) fun cdv A outer s H vs Q E hr h => ?_
  · obtain ⟨bs, G, mem, rs, mm, ro, hl, _⟩ := h
    rw [ro.length, hl, hn]
  · obtain ⟨bs, G, mem, rs, mm, ro, hl, hF⟩ := h
    have hN : rs.length ≤ N.length := by
      have := congrArg List.length S.pre
      rw [List.length_take] at this
      omega
    obtain ⟨s1, s2⟩ := start_env ro hN
    let I : Iv := ⟨fun as' G' H' => Ext bs G H as' G' H', fun x h => h.trans x⟩
    have tk : Tk (XB P w K mg base N qual st f cdv A outer s H E I Tb) (fun c fs m => (fun c fs mem' => ∀ cls d G' H', Ext bs G H bs G' H' → Mm ⟨K, mg, Tb, P, w⟩ bs mem' G' H' → XOk ⟨K, mg, Tb, P, w⟩ G' cls d c fs → E cls d H') c fs (m.take mem.length)) := by
      refine Takes.imp (takes_of (E := E) rfl rfl rfl rfl) fun cls d σ H' ⟨as', G', m', c, fs, x, mm', xo, w⟩ => ?_
      rw [← mm.len] at w
      obtain ⟨x2, m2⟩ := exit_st x mm'
      exact w cls d G' H' x2 m2 xo
    have q := hb cdv A outer s H E I hr rs mem _ _ hl hF tk bs G (L2.start N vs) H ⟨mm, s1, s2, .refl _ _ _⟩
    refine ⟨_, pss_sw (XB P w K mg base N qual st f cdv A outer s H E I Tb) _, SWs.mono ⟨fun σ' H' z => ?_, fun v H' z => ?_, fun _ _ z => ?_, fun _ _ z => ?_⟩ q⟩
    · obtain ⟨as', G', e', m', y, k', p⟩ := z
      rw [← mm.len] at p
      exact exit_ok (r := .v .non) y k'.mm Rep.non trivial p fun r m' hq => hq
    · obtain ⟨as', G', m', r, y, mm', ro', f', p⟩ := z
      dsimp only at p
      rw [← mm.len] at p
      exact exit_ok y mm' ro' f' p fun r m' hq => hq
    · obtain ⟨_, _, _, _, _, _, p⟩ := z; exact p
    · obtain ⟨_, _, _, _, _, _, p⟩ := z; exact p
end
end Dl
/-! Dl7: what is walked; for over anything, list comprehensions. -/
namespace Dl
open PySem PySem.Spec PyProof.Rows L2
/-! ### iterators by data -/
def IW (X : Dx) (tg it : Expr) : TI := fun σ H R => ∀ (pins : List (Addr × Obj)) (s : Shared), Inv X pins σ H s → wpAny (model X.prog X.w) X.A (eval it X.env) (fun v s1 => wpAny (model X.prog X.w) X.A (pyIter v) (PIE X pins σ tg R) X.xe s1) X.xe s
theorem pi_iw (X : Dx) (tg it : Expr) : PI X tg it (IW X tg it) := ⟨fun pins s _ _ _ I h => h pins s I⟩
theorem IW.of {X : Dx} {tg it : Expr} {t : TI} {σ : L2.St} {H : Hp} {R : It → Hp → Prop} (h : PI X tg it t) (q : t σ H R) : IW X tg it σ H R := fun pins s I => h.run pins s σ H R I q
theorem IW.mono {X : Dx} {tg it : Expr} {σ : L2.St} {H : Hp} {R R' : It → Hp → Prop} (h : IW X tg it σ H R) (hr : ∀ J H', R J H' → R' J H') : IW X tg it σ H R' := fun pins s I =>
  thn (h pins s I) fun v s1 q => thn q fun itv s2 ⟨i, fp, tn, J, H', e, I', T, t0, f, r⟩ => ⟨i, fp, tn, J, H', e, I', T, t0, f, hr J H' r⟩
/-- the i-th turn gives ds[i]: as it stands, or as a new tuple -/
def YD (C : Cn) (G1 : Hp) (ds : List D) : Nat → Hp → V → Hp → Prop := fun i H x H' => ∃ d, ds[i]? = some d ∧
  ((H' = H ∧ Rep C G1 x d) ∨ ∃ T xs es, x = .ref T ∧ H T = none ∧ H' = upd H T (.tup xs) ∧ d = .tup es ∧ Reps C G1 xs es)
def DWalk (C : Cn) (J : It) (G1 : Hp) (ds : List D) : Prop := Walk J ds.length (fun H => Sub G1 H) (YD C G1 ds)
def IV (X : Dx) (tg it : Expr) (env : Envt) (mem : Mem) (P : List D → Mem → Prop) : Prop := ∀ as G σ H, OkS (Cx.cn X) X.iv as G env mem σ H →
  IW X tg it σ H fun J H' => ∃ as' G' mem' ds, Ext as G H as' G' H' ∧ OkS (Cx.cn X) X.iv as' G' env mem' σ H' ∧ DWalk (Cx.cn X) J G' ds ∧ P ds mem'
/-- a turn's item is known by value -/
theorem YD.got {C : Cn} {I : Iv} {G1 : Hp} {ds : List D} {i : Nat} {H H' : Hp} {x : V} {as : List Addr} {G : Hp} {env : Envt} {mem : Mem} {σ : L2.St} (y : YD C G1 ds i H x H') (k : OkS C I as G env mem σ H) (s : Sub G1 G) :
    ∃ d G', ds[i]? = some d ∧ Ext as G H as G' H' ∧ OkS C I as G' env mem σ H' ∧ Rep C G' x d := by
  obtain ⟨d, e, h⟩ := y
  rcases h with ⟨rfl, r⟩ | ⟨T, xs, es, rfl, hT, rfl, rfl, r⟩
  · exact ⟨d, G, e, .refl _ _ _, k, r.mono s⟩
  · obtain ⟨m, z⟩ := k.mm.lay hT (.tup xs)
    exact ⟨_, _, e, z, k.ext z m, .tup (.inl (.inl upd_same)) ((r.mono s).mono z.sub)⟩
section
variable {X : Dx} {tg it a b e : Expr} {pos p p2 : Pos} {env : Envt} {mem : Mem} {P : List D → Mem → Prop}
theorem rgD_length (lo : Int) (n : Nat) : (rgD lo n).length = n := by unfold rgD; rw [List.length_map, List.length_range]
theorem dw_range {C : Cn} {lo : Int} {n : Nat} {G1 : Hp} : DWalk C (Itr lo n) G1 (rgD lo n) := by
  unfold DWalk
  rw [rgD_length]
  exact walk_range.mono (fun _ _ => trivial) fun i H' x H'' hi _ y => ⟨_, rgD_get lo n i hi, .inl ⟨y.1, by rw [y.2]; exact Rep.int _⟩⟩
theorem iv_range1 (hm : X.mg "range" = none) (h : EV X a env mem (rd fun x m => ∃ j, x = .int j ∧ -(2 ^ 62) ≤ j ∧ j < 2 ^ 62 ∧ P (rgD 0 j.toNat) m)) (hg : Gl X "range" := by rfl)
    (hs1 : starEach [a] X.env = [(false, eval a X.env)] := by rfl) (hs2 : starEach [a] X.env = (false, eval a X.env) :: starEach [] X.env := by rfl) : IV X tg (.Call (.Name "range" p) [a] [] p2) env mem P := fun as G σ H k => by
  refine IW.of (pi_range1 hg hm (pa_cons (pe_ew X a) pa_nil hs2) hs1) ?_
  refine EW.mono (h as G σ H k) fun v1 H1 ⟨as1, G1, m1, r1, x1, k1, ro1, f1, x, e1, j, ex, b1, b2, h1⟩ => ?_
  subst ex
  exact ⟨j, by rw [ro1.int k1 e1], b1, b2, as1, G1, m1, _, x1, k1, dw_range, h1⟩
theorem iv_range2 (hm : X.mg "range" = none) (h : EV X a env mem fun r1 m1 => EV X b env m1 (int2 (fun i j m => (-(2 ^ 62) ≤ i ∧ i < 2 ^ 62 ∧ -(2 ^ 62) ≤ j ∧ j < 2 ^ 62) ∧ P (rgD i (j - i).toNat) m) r1)) (hg : Gl X "range" := by rfl)
    (hs1 : starEach [a, b] X.env = [(false, eval a X.env), (false, eval b X.env)] := by rfl) (hs2 : starEach [b] X.env = [(false, eval b X.env)] := by rfl) (hs3 : starEach [a, b] X.env = (false, eval a X.env) :: starEach [b] X.env := by rfl) (hs4 : starEach [b] X.env = (false, eval b X.env) :: starEach [] X.env := by rfl) : IV X tg (.Call (.Name "range" p) [a, b] [] p2) env mem P := fun as G σ H k => by
  refine IW.of (pi_range2 hg hm (pa_cons (pe_ew X a) (pa_cons (pe_ew X b) pa_nil hs4) hs3) hs1 hs2) ?_
  refine EW.mono (h as G σ H k) fun v1 H1 ⟨as1, G1, m1, r1, x1, k1, ro1, f1, h1⟩ => ?_
  refine EW.mono (h1 as1 G1 σ H1 k1) fun v2 H2 ⟨as2, G2, m2, r2, x2, k2, ro2, f2, x, y, e1, e2, i, j, ex, ey, bb, h2⟩ => ?_
  subst ex
  subst ey
  exact ⟨i, j, by rw [(ro1.ext x2).int k2 e1, ro2.int k2 e2], bb, as2, G2, m2, _, x1.trans x2, k2, dw_range, h2⟩
/-! ### for -/
section
variable {body : List Stmt} {K : Ks}
theorem sv_for (hp : PassesOwn (model X.prog X.w) X.A X.env X.xe) (hc : X.calm = true) (h : IV X tg it env mem fun ds m => FV X tg body K ds env m) (hs : ∀ x, foldedSetIterable it X.env x = pure x := by intro _; rfl) : SV X (.For tg it body [] pos) env mem K := fun as G σ H k => by
  refine SW.of (ps_for hp hc (pi_iw X tg it) (pg_gw X tg) (pss_sw X body) hs) ?_
  refine IW.mono (h as G σ H k) fun J H1 ⟨as1, G1, m1, ds, x1, k1, w, h1⟩ => ?_
  refine for_it w (fun i σ' H' => Sub G1 H' ∧ ∃ as' G' e' m', Ext as1 G1 H1 as' G' H' ∧ OkS (Cx.cn X) X.iv as' G' e' m' σ' H' ∧ FV X tg body K (ds.drop i) e' m') ⟨k1.mm.sub, as1, G1, env, m1, .refl _ _ _, k1, by rw [List.drop_zero]; exact h1⟩
    (fun i σ' H' _ q => q.1) (fun i x σ' H' H'' hi ⟨_, as', G', e', m', y, k', f⟩ yd => ?_) fun σ' H' ⟨_, as', G', e', m', y, k', f⟩ => ?_
  · obtain ⟨d, G2, hd, z, k2, rd⟩ := yd.got k' y.sub
    have e2 : ds.drop i = d :: ds.drop (i + 1) := by
      rw [List.drop_eq_getElem_cons hi, (List.getElem?_eq_some_iff.mp hd).2]
    rw [e2] at f
    refine GW.mono (fv_step k2 f rd (y.trans z)) fun σ2 H2 q => SWs.mono ?_ q
    exact ⟨fun _ _ ⟨as3, G3, e3, m3, y3, k3, f3⟩ => ⟨fun a o h => k3.mm.sub _ _ (y3.sub _ _ h), as3, G3, e3, m3, y3, k3, f3⟩, fun _ _ z => PostR.ext x1 z, fun _ _ z => PostS.ext x1 z, fun _ _ ⟨as3, G3, e3, m3, y3, k3, f3⟩ => ⟨fun a o h => k3.mm.sub _ _ (y3.sub _ _ h), as3, G3, e3, m3, y3, k3, f3⟩⟩
  · rw [List.drop_length] at f
    exact ⟨as', G', e', m', x1.trans y, k', f⟩
end
theorem zipL {C : Cn} {G : Hp} {xs ys : List V} {ds es : List D} (rx : Reps C G xs ds) (ry : Reps C G ys es) (K : PySem.W.Frag) (a b : Addr) (J : It) (hw : Walk J (min xs.length ys.length) (fun H => Sub G H) (YPair (fun i => xs[i]?) (fun i => ys[i]?))) :
    DWalk C J G ((ds.zip es).map fun p => .tup [p.1, p.2]) := by
  unfold DWalk
  rw [List.length_map, List.length_zip, ← rx.length, ← ry.length]
  refine hw.mono (fun _ s => s) fun i H x H' hi s ⟨T, u, w, e1, e2, e3, e4, e5⟩ => ?_
  obtain ⟨d, hd, rd⟩ := rx.getV e4
  obtain ⟨e, he, re⟩ := ry.getV e5
  refine ⟨.tup [d, e], ?_, .inr ⟨T, [u, w], [d, e], e1, e2, e3, rfl, .cons rd (.cons re .nil)⟩⟩
  have z : (ds.zip es)[i]? = some (d, e) := List.getElem?_zip_eq_some.mpr ⟨hd, he⟩
  rw [List.getElem?_map, z] <;> rfl
theorem iv_enum {tpos : Pos} {elts : List Expr} {kk : Nat} (hm : X.mg "enumerate" = none) (h : EV X a env mem fun r m => ∃ ds, unl r = .v (.lst ds) ∧ P ((ds.zipIdx).map fun p => .tup [.int (p.2 : Int), p.1]) m) (hg : Gl X "enumerate" := by rfl)
    (hs : starEach [a] X.env = [(false, eval a X.env)] := by rfl) (hs2 : starEach [a] X.env = (false, eval a X.env) :: starEach [] X.env := by rfl) : IV X (.Tuple elts kk tpos) (.Call (.Name "enumerate" p) [a] [] p2) env mem P := fun as G σ H k => by
  refine IW.of (pi_enum hg hm (pa_cons (pe_ew X a) pa_nil hs2) hs) (EW.mono (h as G σ H k) fun v1 H1 ⟨as1, G1, m1, r1, x1, k1, ro1, f1, ds, er, h1⟩ => ?_)
  obtain ⟨G2, x2, k2, rs2⟩ := learn_post k.iv x1 k1 ro1 f1
  rw [er] at rs2
  cases (show Rep _ _ _ (.lst ds) from rs2) with
  | @lst a1 vs _ hq rp =>
    refine ⟨a1, vs, rfl, (k2.mm.sub.sqL hq), as1, G2, m1, _, x2, k2, ?_, h1⟩
    unfold DWalk
    rw [List.length_map, List.length_zipIdx, ← rp.length]
    refine walk_enum.mono (fun H s => s.sqL hq) fun i H x H' hi s ⟨T, u, w, e1, e2, e3, e4, e5⟩ => ?_
    obtain ⟨d, hd, rd⟩ := rp.getV e5
    cases e4
    refine ⟨.tup [.int (i : Nat), d], ?_, .inr ⟨T, _, _, e1, e2, e3, rfl, .cons (Rep.int _) (.cons rd .nil)⟩⟩
    rw [List.getElem?_map, List.getElem?_zipIdx, hd]
    simp
/-! ### list comprehensions -/
/-- a comprehension's target: one name, two names -/
inductive Tg where
  | one (i : Nat) | two (i j : Nat)
def Tg.g (K : PySem.W.Frag) : Tg → TG
  | .one i => gName i
  | .two i j => gTup K 2 (gCons (gName i) (gCons (gName j) gNil))
def Tg.put (env : Envt) : Tg → D → Option Envt
  | .one i, d => some (env.set i (some (.v d)))
  | .two i j, .tup [a, b] => some ((env.set i (some (.v a))).set j (some (.v b)))
  | _, _ => none
def Tg.vs : Tg → List Nat
  | .one i => [i]
  | .two i j => [i, j]
def wipeE (env : Envt) : List Nat → Envt
  | [] => env
  | v :: vs => (wipeE env vs).set v none
theorem wipe_ok {C : Cn} {I : Iv} {as : List Addr} {G H : Hp} {env : Envt} {mem : Mem} {σ : L2.St} (k : OkS C I as G env mem σ H) : ∀ vs : List Nat, OkS C I as G (wipeE env vs) mem (L2.wipe σ vs) H
  | [] => k
  | v :: vs => by
    have k1 := wipe_ok k vs
    refine ⟨k.mm, by show ((L2.wipe σ vs).set v none).length = ((wipeE env vs).set v none).length; rw [List.length_set, List.length_set]; exact k1.len, fun i s e => ?_, k.iv⟩
    have e' : ((wipeE env vs).set v none)[i]? = some (some s) := e
    by_cases hi : i = v
    · subst hi
      by_cases hl : i < (wipeE env vs).length
      · rw [List.getElem?_set_self hl] at e'; cases e'
      · rw [List.getElem?_eq_none (by rw [List.length_set]; omega)] at e'; cases e'
    · rw [List.getElem?_set_ne (Ne.symm hi)] at e'
      obtain ⟨w, h1, h2⟩ := k1.env i s e'
      refine ⟨w, ?_, h2⟩
      show ((L2.wipe σ vs).set v none)[i]? = _
      rw [List.getElem?_set_ne (Ne.symm hi)]
      exact h1
theorem wipe_set {σ : L2.St} {i : Nat} {o : Option V} : ∀ {vs : List Nat}, i ∈ vs → L2.wipe (σ.set i o) vs = L2.wipe σ vs
  | v :: vs, h => by
    show (L2.wipe (σ.set i o) vs).set v none = (L2.wipe σ vs).set v none
    by_cases hi : i ∈ vs
    · rw [wipe_set hi]
    · have hv : i = v := by
        rcases List.mem_cons.mp h with z | z
        · exact z
        · exact (hi z).elim
      subst hv
      have out : ∀ (ws : List Nat) (τ : L2.St), i ∉ ws → L2.wipe (τ.set i o) ws = (L2.wipe τ ws).set i o := by
        intro ws
        induction ws with
        | nil => intro τ _; rfl
        | cons w ws ih =>
          intro τ hn
          show (L2.wipe (τ.set i o) ws).set w none = ((L2.wipe τ ws).set w none).set i o
          rw [ih τ (fun z => hn (List.mem_cons_of_mem _ z))]
          rw [List.set_comm _ _ (fun z => hn (by rw [z]; exact List.mem_cons_self))]
      rw [out vs σ hi, List.set_set]
theorem wipe_wipe {σ : L2.St} {vs : List Nat} : ∀ {ws : List Nat}, (∀ v ∈ ws, v ∈ vs) → L2.wipe (L2.wipe σ ws) vs = L2.wipe σ vs
  | [], _ => rfl
  | w :: ws, h => by
    show L2.wipe ((L2.wipe σ ws).set w none) vs = _
    rw [wipe_set (h w List.mem_cons_self), wipe_wipe fun v hv => h v (List.mem_cons_of_mem _ hv)]
theorem tg_put {C : Cn} {I : Iv} {as : List Addr} {G H : Hp} {env e : Envt} {mem : Mem} {σ : L2.St} {x : V} {d : D} {t : Tg} {vs : List Nat} {Q : L2.St → Hp → Prop} (k : OkS C I as G env mem σ H) (r : Rep C G x d) (h : t.put env d = some e) (hv : ∀ i ∈ t.vs, i ∈ vs)
    (hq : ∀ σ2, OkS C I as G e mem σ2 H → L2.wipe σ2 vs = L2.wipe σ vs → Q σ2 H) : t.g C.K x σ H Q := by
  cases t with
  | one i =>
    cases h
    exact hq _ (k.set i (s := .v d) r) (wipe_set (hv i (by simp [Tg.vs])))
  | two i j =>
    cases d with
    | tup ds =>
      match ds, h, r with
      | [a, b], h, r =>
        cases h
        cases r with
        | tup hs rr =>
          cases rr with
          | cons ra rr =>
            cases rr with
            | cons rb rr =>
              cases rr
              refine ⟨_, _, rfl, k.mm.sub.sqT hs, rfl, _, _, rfl, _, _, rfl, rfl, hq _ ((k.set i (s := .v a) ra).set j (s := .v b) rb) ?_⟩
              rw [wipe_set (hv j (by simp [Tg.vs])), wipe_set (hv i (by simp [Tg.vs]))]
    | _ => cases h
abbrev BX (X : Dx) (scope : Scope) (s : Shared) (H : Hp) (C : Addr) (cl : List (Str × Addr)) (fp : List Addr) : Dx := ⟨X.toCx.blk s H scope (compEnvC scope cl C X.env) fp, X.iv, X.T⟩
def TsV (X : Dx) (env : Envt) (mem : Mem) (P : Bool → Mem → Prop) : List Expr → Prop
  | [] => P true mem
  | [c] => TV X c env mem P
  | _ => False
/-- the turns of a comprehension: ds is left, acc is made; R tells of the tests -/
def CV (X : Dx) (t : Tg) (elt : Expr) (ifs : List Expr) (scope : Scope) (vs : List Nat) (env0 : Envt) (Kc : List D → Mem → Prop) : List D → List D → Mem → Prop
  | [], acc, mem => Kc acc mem
  | d :: ds, acc, mem => ∃ e, t.put (wipeE env0 vs) d = some e ∧ ∃ R : Bool → Mem → Prop, (∀ s H C cl fp, TsV (BX X scope s H C cl fp) e mem R ifs) ∧ ∀ b m2, R b m2 → cond b
      (∀ s H C cl fp, EV (BX X scope s H C cl fp) elt e m2 fun r m3 => ∃ y m4, frz [unl r] m3 = some ([y], m4) ∧ acc.length < sizeLine ∧ CV X t elt ifs scope vs env0 Kc ds (acc ++ [y]) m4)
      (CV X t elt ifs scope vs env0 Kc ds acc m2)
theorem CV.mono {X : Dx} {t : Tg} {elt : Expr} {ifs : List Expr} {scope : Scope} {vs : List Nat} {env0 : Envt} {Kc Kc' : List D → Mem → Prop} (hk : ∀ acc m, Kc acc m → Kc' acc m) : ∀ {ds acc : List D} {mem : Mem}, CV X t elt ifs scope vs env0 Kc ds acc mem → CV X t elt ifs scope vs env0 Kc' ds acc mem
  | [], _, _, h => hk _ _ h
  | d :: ds, acc, mem, ⟨e, he, R, hR, hE⟩ => ⟨e, he, R, hR, fun b m2 r => by
    have z := hE b m2 r
    cases b with
    | false => exact CV.mono hk (ds := ds) z
    | true => exact fun s H C cl fp => (z s H C cl fp).mono fun r m3 ⟨y, m4, a, b, c⟩ => ⟨y, m4, a, b, CV.mono hk (ds := ds) c⟩⟩
def TsW (X : Dx) : List Expr → TT
  | [] => tYes
  | [c] => TW X c
  | _ => fun _ _ _ => False
theorem pts_ts (X : Dx) : ∀ ifs : List Expr, PTs X ifs (TsW X ifs)
  | [] => pts_nil
  | [c] => pts_one (pt_tw X c)
  | _ :: _ :: _ => ⟨fun _ _ _ _ _ _ h => h.elim⟩
theorem ts_of {X : Dx} {env : Envt} {mem : Mem} {P : Bool → Mem → Prop} {as : List Addr} {G : Hp} {σ : L2.St} {H : Hp} (k : OkS (Cx.cn X) X.iv as G env mem σ H) : ∀ {ifs : List Expr}, TsV X env mem P ifs → TsW X ifs σ H (PostT (Cx.cn X) X.iv as G env σ H P)
  | [], h => PostT.now k h
  | [c], h => h as G σ H k
  | _ :: _ :: _, h => h.elim
theorem TsW.mono {X : Dx} {σ : L2.St} {H : Hp} {Q Q' : Bool → Hp → Prop} (hq : ∀ v H', Q v H' → Q' v H') : ∀ {ifs : List Expr}, TsW X ifs σ H Q → TsW X ifs σ H Q'
  | [], h => hq _ _ h
  | [c], h => TW.mono h hq
  | _ :: _ :: _, h => h.elim
/-- an object that neither is a cell nor known by value may change -/
theorem OkS.updFree {C : Cn} {I : Iv} {as : List Addr} {G H : Hp} {env : Envt} {mem : Mem} {σ : L2.St} (k : OkS C I as G env mem σ H) {p : Addr} {us : List V} (hG : G p = none) (hn : p ∉ as) (hl : H p = some (.lst us)) (o : HO) (i0 : I.p as G (upd H p o)) : OkS C I as G env mem σ (upd H p o) := by
  have np : ∀ a ∈ as, a ≠ p := fun a ha e => hn (e ▸ ha)
  refine ⟨⟨k.mm.len, k.mm.nd, fun n a c ha hc => ?_, fun a ha => (k.mm.there a ha).upd (np a ha), fun a u e => ?_, k.mm.nt, tabs_upd k.mm.tabs (.inr ⟨_, hl, trivial⟩)⟩, k.len, k.env, i0⟩
  · have q := k.mm.cell n a c ha hc
    have na := np a (List.mem_of_getElem? ha)
    exact q.move (fun _ _ _ g => g) (fun o h _ => by rw [upd_ne na]; exact h) (Sub.refl _)
  · rw [upd_ne (fun z => by rw [z, hG] at e; cases e)]
    exact k.mm.sub _ _ e
theorem Ext.updFree {as as' : List Addr} {G G' H H' : Hp} (x : Ext as G H as' G' H') {p : Addr} (h0 : H p = none) (o : HO) : Ext as G H as' G' (upd H' p o) :=
  ⟨x.pre, x.sub, fun a u ha h nt => by rw [upd_ne (ne_of_none h h0)]; exact x.keep a u ha h nt, x.old, x.new, fun a h => (x.there a h).upd (fun z => not_tr h0 (z ▸ h))⟩
def ttW (X : Dx) (scope : Scope) (ifs : List Expr) : TT := fun σ3 H3 Q => ∀ s H C cl fp, TsW (BX X scope s H C cl fp) ifs σ3 H3 Q
def teW (X : Dx) (scope : Scope) (elt : Expr) : TE := fun σ3 H3 Q => ∀ s H C cl fp, EW (BX X scope s H C cl fp) elt σ3 H3 Q
section
variable {elt : Expr} {ifs : List Expr} {scope : Scope} {P : Rs → Mem → Prop}
/-- the new list as it grows -/
theorem lc_body (t : Tg) (vs : List Nat) {as0 as1 : List Addr} {G0 G1 : Hp} {σ : L2.St} {H0 H1 : Hp} {m1 : Mem} {J : It} {ds : List D} (x0 : Ext as0 G0 H0 as1 G1 H1) (k1 : OkS (Cx.cn X) X.iv as1 G1 env m1 σ H1) (w : DWalk (Cx.cn X) J G1 ds) (hv : ∀ i ∈ t.vs, i ∈ vs)
    (h1 : CV X t elt ifs scope vs env (fun acc m => P (.nl acc) m) ds [] m1) (D0 : Addr) (hD : H1 D0 = none) :
    ∃ W : Nat → Nat → Hp → Prop, (∃ m, W 0 m (upd H1 D0 (.lst []))) ∧ ∀ i m H, W i m H →
      (J.stop i H ∧ Post (Cx.cn X) X.iv as0 G0 env σ H0 P (.ref D0) H) ∨ (J.go i H ∧ ∃ Nx : Hp → Prop, (∀ H', Nx H' → ∃ m', m' < m ∧ W (i + 1) m' H') ∧ ∀ x H', J.yld i H x H' → t.g X.K x (L2.wipe σ vs) H' fun σ2 H2 => L2.wipe σ2 vs = L2.wipe σ vs ∧
        ttW X scope ifs σ2 H2 fun b H3 => if b = true then teW X scope elt σ2 H3 fun y H4 => ∃ acc, H4 D0 = some (.lst acc) ∧ acc.length < sizeLine ∧ Nx (upd H4 D0 (.lst (acc ++ [y]))) else Nx H3) := by
  refine lc_it (g := t.g X.K) (tt := ttW X scope ifs) (te := teW X scope elt) (vs := vs) (σ := σ) (H1 := H1) (D := D0) (Qd := Post (Cx.cn X) X.iv as0 G0 env σ H0 P (.ref D0)) w (fun i H => Sub G1 H ∧ ∃ acc ws as' G' m', Ext as1 G1 H1 as' G' H ∧ OkS (Cx.cn X) X.iv as' G' (wipeE env vs) m' (L2.wipe σ vs) H ∧ H D0 = some (.lst ws) ∧ G' D0 = none ∧ D0 ∉ as' ∧ Reps (Cx.cn X) G' ws acc ∧ CV X t elt ifs scope vs env (fun acc m => P (.nl acc) m) (ds.drop i) acc m') ?_ (fun i H _ q => q.1) ?_ ?_
  · obtain ⟨m, z⟩ := k1.mm.layH hD (.lst [])
    exact ⟨m.sub, [], [], as1, G1, m1, z, (wipe_ok k1 vs).ext z m, upd_same, none_sub k1 hD, fun h => not_tr hD (k1.mm.there _ h), .nil, by rw [List.drop_zero]; exact h1⟩
  · rintro i x H H' hi ⟨s1, acc, ws, as', G', m', y, k, hw, hG, hn, rp, cv⟩ yd
    obtain ⟨d, G2, hd, z, k2, rd⟩ := yd.got k y.sub
    have e2 : ds.drop i = d :: ds.drop (i + 1) := by
      rw [List.drop_eq_getElem_cons hi, (List.getElem?_eq_some_iff.mp hd).2]
    rw [e2] at cv
    obtain ⟨e, he, R, hR, hE⟩ := cv
    refine tg_put (C := Cx.cn X) k2 rd he hv fun σ2 k3 hwp => ⟨hwp.trans (wipe_wipe fun _ h => h), fun s Hb C cl fp => ?_⟩
    refine TsW.mono ?_ (ts_of (X := BX X scope s Hb C cl fp) k3 (hR s Hb C cl fp))
    rintro b H3 ⟨as3, G3, m3, x3, k4, r3⟩
    have hh := hE b m3 r3
    have x13 := (y.trans z).trans x3
    have hH' : H' D0 = some (.lst ws) := z.keep _ _ hn hw nt_lst
    have hG2 : G2 D0 = none := z.old _ hn (ownL hw) hG
    have hH3 : H3 D0 = some (.lst ws) := x3.keep _ _ hn hH' nt_lst
    have hG3 : G3 D0 = none := x3.old _ hn (ownL hH') hG2
    have hn3 : D0 ∉ as3 := fun q => x3.new _ q hn (trL hH')
    cases b with
    | false =>
      rw [if_neg Bool.false_ne_true]
      exact ⟨fun a o h => k4.mm.sub _ _ (x13.sub _ _ h), acc, ws, as3, G3, m3, x13, k2.ext x3 k4.mm, hH3, hG3, hn3, (rp.mono z.sub).mono x3.sub, hh⟩
    | true =>
      rw [if_pos rfl]
      intro s Hb C cl fp
      refine EW.mono (hh s Hb C cl fp as3 G3 σ2 H3 k4) ?_
      rintro v H4 ⟨as4, G4, m4, r4, x4, k5, ro4, f4, yv, m5, ef, hlen, cv'⟩
      obtain ⟨G5, x5, k6, rs5⟩ := learn_post k4.iv x4 k5 ro4 f4
      obtain ⟨G6, x6, k7, rp6⟩ := frz_ok k6 (rsOne rs5) ef
      have x46 := x5.trans x6
      have x16 := x13.trans x46
      have hH4 : H4 D0 = some (.lst ws) := x46.keep _ _ hn3 hH3 nt_lst
      have hG6 : G6 D0 = none := x46.old _ hn3 (ownL hH3) hG3
      have hn6 : D0 ∉ as4 := fun q => x46.new _ q hn3 (trL hH3)
      cases rp6 with
      | cons ry _ =>
        have kk := (k2.ext (x3.trans x46) k7.mm).updFree hG6 hn6 hH4 (.lst (ws ++ [v])) (X.iv.ext (x16.updFree hD _) k1.iv)
        exact ⟨ws, hH4, by rw [rp.length]; exact hlen, fun a o h => kk.mm.sub _ _ (x16.sub _ _ h), acc ++ [yv], ws ++ [v], as4, G6, m5, x16.updFree hD _, kk, upd_same, hG6, hn6, (((rp.mono z.sub).mono x3.sub).mono x46.sub).snoc ry, cv'⟩
  · rintro H ⟨s1, acc, ws, as', G', m', y, k, hw, hG, hn, rp, cv⟩
    rw [List.drop_length] at cv
    exact ⟨as', G', m', .nl acc, x0.trans y, k1.ext y k.mm, ⟨D0, ws, rfl, hw, hG, hn, rp⟩, fun p e t => by
      cases e
      exact not_tr hD (x0.there D0 t), cv⟩
theorem ev_lc (t : Tg) (own : List (Str × Nat)) (hc : X.calm = true) (hN : X.N.Nodup) (hv : ∀ i ∈ t.vs, i ∈ own.map (·.2)) (h : IV X tg it env mem fun ds m => CV X t elt ifs scope (own.map (·.2)) env (fun acc m => P (.nl acc) m) ds [] m)
    (ok : BlkOk X.N X.env.scope scope own) (hg : ∀ s H C cl fp, PG (BX X scope s H C cl fp) tg (t.g X.K)) (hs : ∀ x, foldedSetIterable it X.env x = pure x := by intro _; rfl) : EV X (.ListComp elt [⟨tg, it, ifs, 0⟩] scope pos) env mem P := fun as G σ H k => by
  refine EW.of (pe_lc (te := teW X scope elt) (tt := ttW X scope ifs) hc hN (pi_iw X tg it) ok (fun s H C cl fp => hg s H C cl fp)
    (fun s H C cl fp => ⟨fun pins s' σ' H' Q I hq => (pts_ts (BX X scope s H C cl fp) ifs).run pins s' σ' H' Q I (hq s H C cl fp)⟩) (fun s H C cl fp => ⟨fun pins s' σ' H' Q I hq => hq s H C cl fp pins s' I⟩) hs) ?_
  refine IW.mono (h as G σ H k) fun J H1 ⟨as1, G1, m1, ds, x1, k1, w, h1⟩ => ?_
  exact fun D0 hD => lc_body t (own.map (·.2)) x1 k1 w hv h1 D0 hD
end
end
end Dl
/-! Dl8: more operations on data: is of truths, in of tuples, lists put together, min and max, how many different cells. -/
namespace Dl
open PySem PySem.Spec PyProof.Rows L2
section
variable {X : Dx} {a b c e : Expr} {es rest : List Expr} {pos p0 p2 : Pos} {env : Envt} {mem : Mem} {P : Rs → Mem → Prop}
def eqB : D → D → Bool
  | .bl x, .bl y => decide (x = y)
  | _, _ => false
/-! ### in, not in of lists and tuples alike -/
def isSeq : D → Prop
  | .lst _ => True
  | .tup _ => True
  | _ => False
def rInS (K : PySem.W.Frag) (neg : Bool) : R2 := fun x y H Q => ∃ d ds, Dp K H x d ∧ (Dp K H y (.list ds) ∨ Dp K H y (.tuple ds)) ∧ SeqAt.shaped d = true ∧ SeqAt.shaped (.list ds) = true ∧ Q (.bl (if neg then !(ds.any fun z => PyData.eqv z d) else ds.any fun z => PyData.eqv z d)) H
theorem shT {ds : List PyData} (h : SeqAt.shaped (.list ds) = true) : PyData.canLayAll0 ds = true := SeqAt.canLay_of_shaped h
theorem roomS {d : PyData} {ds : List PyData} {n : Nat} (sd : SeqAt.shaped d = true) (hu : n + 65 < cLine) : n + 1 + min (PyData.depthAll ds) d.depth < cLine := by
  have h := SeqAt.depth_of_shaped sd
  have h2 : min (PyData.depthAll ds) d.depth ≤ d.depth := Nat.min_le_right _ _
  omega
theorem op_inS (hu : X.A.units + 65 < cLine) : OpR X (compareOp .In) (rInS X.K false) := by
  intro pins s σ H x y v u Q I rx ry h
  obtain ⟨d, ds, hd, he, sd, se, q⟩ := h
  obtain ⟨as, r1⟩ := Dp.reads I d x v hd rx
  rcases he with he | he
  · obtain ⟨bs, r2⟩ := Dp.reads I (.list ds) y u he ry
    exact SeqAt.in_list_reads r2 r1 (shT se) (SeqAt.canLay_of_shaped sd) (roomS sd hu) ⟨.bl _, H, I, rfl, q⟩
  · obtain ⟨bs, r2⟩ := Dp.reads I (.tuple ds) y u he ry
    exact SeqAt.in_tuple_reads r2 r1 (shT se) (SeqAt.canLay_of_shaped sd) (roomS sd hu) ⟨.bl _, H, I, rfl, q⟩
theorem op_notInS (hu : X.A.units + 65 < cLine) : OpR X (compareOp .NotIn) (rInS X.K true) := by
  intro pins s σ H x y v u Q I rx ry h
  obtain ⟨d, ds, hd, he, sd, se, q⟩ := h
  obtain ⟨as, r1⟩ := Dp.reads I d x v hd rx
  rcases he with he | he
  · obtain ⟨bs, r2⟩ := Dp.reads I (.list ds) y u he ry
    exact SeqAt.notIn_list_reads r2 r1 (shT se) (SeqAt.canLay_of_shaped sd) (roomS sd hu) ⟨.bl _, H, I, rfl, q⟩
  · obtain ⟨bs, r2⟩ := Dp.reads I (.tuple ds) y u he ry
    exact SeqAt.notIn_tuple_reads r2 r1 (shT se) (SeqAt.canLay_of_shaped sd) (roomS sd hu) ⟨.bl _, H, I, rfl, q⟩
def cInSq (x y : D) : Prop := isSeq y ∧ sh x = true ∧ sh (.lst (items y)) = true
theorem inS_rep {as : List Addr} {G H : Hp} {σ : L2.St} {v : V} {r : Rs} {m : Mem} {y : D} (k : OkS (Cx.cn X) X.iv as G env m σ H) (ro : ResOk (Cx.cn X) as G H v r) (e : dr m r = some y) (c1 : isSeq y) (c3 : sh (.lst (items y)) = true) :
    Dp X.K H v (.list (toPys (items y))) ∨ Dp X.K H v (.tuple (toPys (items y))) := by
  have cl : PyData.canLayAll0 (toPys (items y)) = true := by
    have z := SeqAt.canLay_of_shaped c3
    rw [toPy, PyData.canLay0] at z
    exact z
  cases y <;> try exact c1.elim
  · rename_i ds
    refine .inr ?_
    have z := (ro.rep k e).dp (by rw [toPy, PyData.canLay0]; exact cl)
    rw [toPy] at z
    exact z
  · rename_i ds
    refine .inl ?_
    have z := (ro.rep k e).dp (by rw [toPy, PyData.canLay0]; exact cl)
    rw [toPy] at z
    exact z
def cInS (hu : X.A.units + 65 < cLine) : CmpRule X .In cInSq (fun x y => inD x (items y)) where
  r := rInS X.K false
  ho := op_inS hu
  hr := fun as G σ H env v1 v2 r1 r2 m x y Q k ro1 ro2 e1 e2 hc q => by
    obtain ⟨c1, c2, c3⟩ := hc
    refine ⟨_, toPys (items y), (ro1.rep k e1).dpS c2, inS_rep k ro2 e2 c1 c3, c2, ?_, ?_⟩
    · unfold sh at c3; rw [toPy] at c3; exact c3
    · rw [any_toPy]; exact q
  mono := fun _ _ _ _ _ h ⟨d, e, a, b, c, c', q⟩ => ⟨d, e, a, b, c, c', h _ _ q⟩
def cNotInS (hu : X.A.units + 65 < cLine) : CmpRule X .NotIn cInSq (fun x y => !inD x (items y)) where
  r := rInS X.K true
  ho := op_notInS hu
  hr := fun as G σ H env v1 v2 r1 r2 m x y Q k ro1 ro2 e1 e2 hc q => by
    obtain ⟨c1, c2, c3⟩ := hc
    refine ⟨_, toPys (items y), (ro1.rep k e1).dpS c2, inS_rep k ro2 e2 c1 c3, c2, ?_, ?_⟩
    · unfold sh at c3; rw [toPy] at c3; exact c3
    · rw [any_toPy]; exact q
  mono := fun _ _ _ _ _ h ⟨d, e, a, b, c, c', q⟩ => ⟨d, e, a, b, c, c', h _ _ q⟩
/-! ### lists put together -/
def rCatL (K : PySem.W.Frag) : R2 := fun x y H Q => ∃ l b xs zs, x = .ref l ∧ y = .ref b ∧ SqL K H l xs ∧ SqL K H b zs ∧ xs.length + zs.length ≤ sizeLine ∧ ∀ p, H p = none → Q (.ref p) (upd H p (.lst (xs ++ zs)))
theorem op_catL : OpR X (binaryOp .Add) (rCatL X.K) := by
  intro pins s σ H x y v u Q I rx ry h
  obtain ⟨l, b, xs, zs, rfl, rfl, hH, hB, hz, q⟩ := h
  cases rx
  cases ry
  obtain ⟨i1, r1, ⟨⟨c1, dd, d1, sl⟩, n1, g1, hc1, hd1, hs1⟩, l1⟩ := I.list hH
  obtain ⟨i2, r2, ⟨⟨c2, dd2, d2, sl2⟩, n2, g2, hc2, hd2, hs2⟩, l2⟩ := I.list hB
  simp only at hc1 hd1 hs1 hc2 hd2 hs2
  subst hc1 hs1 hc2 hs2
  have z1 := r1.length
  have z2 := r2.length
  refine PySem.concat_meets ⟨_, g1, rfl⟩ ⟨_, g2, rfl⟩ PySem.noFill_list_add PySem.seq_list_add PySem.F.slot_list_add PySem.F.entry_list_add (PySem.F.args_list_add_2 _ _) (list_addW l b i1.toArray i2.toArray n1 n2 dd dd2 sl sl2 (by simp only [List.size_toArray]; omega)) ⟨g1, g2, ?_⟩
  rw [show i1.toArray ++ i2.toArray = (i1 ++ i2).toArray from by simp]
  exact ⟨.ref _, _, Inv.lnew (t' := s.toks) I (r1.append r2) (by rw [List.length_append]; exact hz), rfl, q _ I.fresh⟩
/-! ### min, max of a tuple of ints -/
theorem reps_int {C : Cn} {G : Hp} : ∀ {vs : List V} {ns : List Int}, Reps C G vs (ns.map .int) → vs = ns.map V.int
  | _, [], .nil => rfl
  | _, n :: ns, .cons h r => by cases h; rw [List.map_cons, reps_int r]
theorem arg1_inv {as : List Addr} {G H : Hp} {vs : List V} {rs : List Sl} {m : Mem} {Q : D → Mem → Prop} {C : Cn} (ro : RsOk C as G vs rs) (q : arg1 Q rs m) : ∃ v s d, vs = [v] ∧ RepS C as G v s ∧ dr m (slR s) = some d ∧ Q d m := by
  cases ro with
  | nil => exact q.elim
  | cons r1 rr =>
    cases rr with
    | cons _ _ => exact q.elim
    | nil =>
      obtain ⟨d, e1, hQ⟩ := q
      exact ⟨_, _, d, rfl, r1, e1, hQ⟩
end
end Dl
/-! Dl12b: set(xs), xs a tuple of tuples of ints. -/
namespace HandSPT
open PySem PySem.Spec PyProof.Rows L2
/-- the empty set that is made first -/
abbrev noSet (w : World) : Obj := { cls := .type "set", dict := none, data := .set #[] 0 (.fresh 0 0 (!w.params.followText "set-order")) }
/-- the set that comes of the tuple's items -/
abbrev Gets (P : Program) (w : World) (ks : List (Addr × List Int)) (s : Shared) (h' : Heap) : Prop := ∃ L es ep t, SetTR P w h' s.heap.objs.size L es ep t ∧ Got ks ks.length L ∧ ∀ b o, s.heap.get? b = some o → h'.get? b = some o
variable {P : Program} {w : World} {A : Around} {s : Shared} {E : Value → Shared → Prop}
theorem set_of_tuple {l : Addr} {items : Array Value} (ks : List (Addr × List Int)) {Q : Value → Shared → Prop} (hh : A.handled = none) (hl : s.heap.IsTuple l items) (hit : items.toList = ks.map fun p => Value.ref p.1)
    (hk : ∀ p ∈ ks, IsT P w s.heap p.2 p.1) (hfew : ks.length < 64) (hu : A.units + 3 < cLine) (h : ∀ (h' : Heap) (tk : Nat), Gets P w ks s h' → Q (.ref s.heap.objs.size) { s with heap := h', toks := tk }) : wpAny (model P w) A (call (.type "set") [.ref l]) Q E s := by
  have len1 : items.size = ks.length := by
    have q := congrArg List.length hit
    simpa using q
  obtain ⟨c, tl, hmro⟩ := F.called_set.mro
  have m1 := F.called_set.made
  have m2 := F.called_set.sub
  have m3 := F.called_set.notType
  have m4 := F.called_set.canCreate
  have m5 := F.typeCall_set_1 (.ref l)
  refine wpAny_call (codeAny_of_tree ?_)
  show wpAny _ _ (callAny (.type "set") _) _ _ _
  refine wpAny_pure ⟨Code.quiet_builtin _ (by decide +kernel), codeAny_builtin F.entry_type_call ?_⟩
  rw [Around.under_plain (weight_type_call_type "set" [.ref l] []) rfl]
  repeat (any_goals (first | assumption | wp_step))
  refine codeAny_mono (code_set_led1 (.ref l) (E := E) (Q₁ := fun obj s1 => obj = .ref s.heap.objs.size ∧ s1 = { s with heap := s.heap.push (noSet w) }) ⟨rfl, rfl⟩) fun r s1 hr => ?_
  cases r with
  | error e => exact hr
  | ok fl =>
    cases fl with
    | ret obj =>
      obtain ⟨rfl, rfl⟩ := hr
      have new1 : (s.heap.push (noSet w)).get? s.heap.objs.size = some (noSet w) := Heap.get?_push_size _ rfl
      have new2 : Shared.TypeIs { s with heap := s.heap.push (noSet w) } (.ref s.heap.objs.size) "set" := ⟨_, new1, rfl⟩
      have m6 := F.called_set.init.lookup
      have m7 := F.called_set.init.bind (.ref s.heap.objs.size)
      repeat (any_goals (first | assumption | wp_step))
      refine codeAny_mono (codeAny_call_builtin (R := wants (fun r s2 => r = .none ∧ ∃ h' tk, s2 = { s with heap := h', toks := tk } ∧ Gets P w ks s h') E) F.called_set.init.plain F.entry_set_init (check_set_init_1 new2 ?_)) fun r2 s2 hr2 => ?_
      · obtain ⟨⟨oc, od, oda, osl⟩, hol, hcl, nl, hdl⟩ := hl
        simp only at hcl hdl
        subst hcl
        subst hdl
        have there := Heap.get?_push_of_some (noSet w) hol
        have tup1 : (s.heap.push (noSet w)).IsTuple l items := ⟨_, there, rfl, nl, rfl⟩
        have m8 := F.sub_tuple_set
        have m9 := F.sub_tuple_frozenset
        have m10 : (Value.type "tuple" == Value.type "dict") = false := by decide
        unfold Builtin.«set.__init__» noKeywords Builtin.Frozenset.updateFrom
        generalize hPI : pyIter = PI
        wp_walk
        subst hPI
        refine wpAny_pyIter_tuple tup1 ?_
        refine wpAny_bind (wpAny_runValue ?_)
        have lt1 : l < s.heap.objs.size := Heap.lt_size hol
        have calm3 : A.in1.in1.in1.handled = none := by simp [hh]
        have sz : (s.heap.push (noSet w)).objs.size = s.heap.objs.size + 1 := Heap.size_push ..
        have apart : l ≠ (s.heap.push (noSet w)).objs.size := by rw [sz]; exact Nat.ne_of_lt (Nat.lt_succ_of_lt lt1)
        have out : s.heap.objs.size ∉ [(s.heap.push (noSet w)).objs.size, l] := by
          rw [sz]
          simp only [List.mem_cons, List.not_mem_nil, or_false, not_or]
          exact ⟨Nat.ne_of_lt (Nat.lt_succ_self _), Nat.ne_of_gt lt1⟩
        have item : ∀ (i : Nat) (v : Value), items[i]? = some v → ∃ p, ks[i]? = some p ∧ v = .ref p.1 := fun i v hv => by
          have q : items.toList[i]? = some v := by rw [Array.getElem?_toList]; exact hv
          rw [hit, List.getElem?_map] at q
          cases hq : ks[i]? with
          | none => rw [hq] at q; cases q
          | some p => rw [hq] at q; exact ⟨p, rfl, (Option.some.inj q).symm⟩
        have free : ∀ b, s.heap.objs.size ≤ b → s.heap.get? b = none := fun b hb => by
          cases q : s.heap.get? b with
          | none => rfl
          | some o => exact absurd (Nat.lt_of_lt_of_le (Heap.lt_size q) hb) (Nat.lt_irrefl _)
        refine set_update_tups ((Walks.tuple calm3 _ l apart items).toS) s.heap.objs.size out ks len1 hfew item s.heap hk (free _ (Nat.le_refl _)) (fun b hb => free b (by rw [List.mem_singleton.mp hb, sz]; exact Nat.le_succ _)) hu (items.size - 0) 0 _ (by omega) (Nat.zero_le _)
          ⟨⟨_, Heap.get?_push_size _ rfl, rfl, rfl⟩, tup1.push _⟩ (fun b o e => Heap.get?_push_of_some _ (Heap.get?_push_of_some _ e)) ?first ?last
        case first => exact ⟨[], #[], 0, _, setTR_fresh (Heap.get?_push_of_some _ new1), Got.zero ks⟩
        case last =>
          intro s' L es ep t hm hS' g' hkp
          obtain ⟨h', g2, d', tk', os'⟩ := s'
          have eg : g2 = s.gens := hm.gens
          have ed : d' = s.drawn := hm.drawn
          have eo : os' = s.os := hm.os
          subst eg
          subst ed
          subst eo
          show wpAny _ _ _ _ _ _
          refine wpAny_pure ?_
          show wpAny _ _ (ret Value.none) _ _ _
          rw [len1] at g'
          exact wpAny_pure ⟨rfl, h', tk', rfl, L, es, ep, t, hS', g', hkp⟩
      · cases r2 with
        | error e => exact hr2
        | ok fl2 =>
          cases fl2 with
          | ret r =>
            obtain ⟨rfl, h', tk, rfl, G⟩ := hr2
            repeat (any_goals (first | assumption | wp_step))
            exact h _ _ G
          | _ => exact hr2.elim
    | _ => exact hr.elim
end HandSPT
/-! Dl9: a Lean function for each expression and statement; the walk follows it. -/
namespace Dl
open PySem PySem.Spec PyProof.Rows L2
/-- what comes of it: a value and the cells, an error of a class, or: not told -/
inductive Rg (α : Type) where
  | ok (a : α) (m : Mem) | ex (c : Str) (fs : List (Str × D)) (m : Mem) | no
def Rg.sat {α : Type} (E : XE) : Rg α → (α → Mem → Prop) → Prop
  | .ok a m, P => P a m
  | .ex c fs m, _ => E c fs m
  | .no, _ => False
def Rg.bd {α β : Type} : Rg α → (α → Mem → Rg β) → Rg β
  | .ok a m, f => f a m
  | .ex c fs m, _ => .ex c fs m
  | .no, _ => .no
theorem sat_bd {α β : Type} {E : XE} {x : Rg α} {f : α → Mem → Rg β} {P : β → Mem → Prop} (h : (x.bd f).sat E P) : x.sat E fun a m => (f a m).sat E P := by cases x <;> exact h
theorem Rg.sat.mono {α : Type} {E : XE} {x : Rg α} {P P' : α → Mem → Prop} (h : x.sat E P) (hp : ∀ a m, P a m → P' a m) : x.sat E P' := by
  cases x with
  | ok a m => exact hp _ _ h
  | ex c fs m => exact h
  | no => exact h
def rdR {α : Type} (r : Rs) (m : Mem) (f : D → Rg α) : Rg α := match dr m r with
  | some d => f d
  | none => .no
theorem sat_rdR {α : Type} {E : XE} {r : Rs} {m : Mem} {f : D → Rg α} {P : α → Mem → Prop} (h : (rdR r m f).sat E P) : ∃ d, dr m r = some d ∧ (f d).sat E P := by
  unfold rdR at h
  cases q : dr m r with
  | none => rw [q] at h; exact h.elim
  | some d => rw [q] at h; exact ⟨d, rfl, h⟩
abbrev Fe := Envt → Mem → Rg Rs
abbrev Ft := Envt → Mem → Rg Bool
abbrev Fa := Envt → Mem → Rg (List Sl)
abbrev Fo := Envt → Mem → Rg (Option Int)
abbrev Fi := Envt → Mem → Rg (List D)
structure Se (X : Dx) (E : XE) (e : Expr) (f : Fe)  : Prop where
  run : ∀ env mem P, (f env mem).sat E P → EV X e env mem P
instance {X : Dx} {E : XE} {e : Expr} {f : Fe}  : CoeFun (Se X E e f) fun _ => ∀ env mem P, (f env mem).sat E P → EV X e env mem P := ⟨Se.run⟩
structure St (X : Dx) (E : XE) (e : Expr) (f : Ft)  : Prop where
  run : ∀ env mem P, (f env mem).sat E P → TV X e env mem P
instance {X : Dx} {E : XE} {e : Expr} {f : Ft}  : CoeFun (St X E e f) fun _ => ∀ env mem P, (f env mem).sat E P → TV X e env mem P := ⟨St.run⟩
structure Sw (X : Dx) (E : XE) (e : Expr) (f : Ft)  : Prop where
  run : ∀ env mem P, (f env mem).sat E P → WV X e env mem P
instance {X : Dx} {E : XE} {e : Expr} {f : Ft}  : CoeFun (Sw X E e f) fun _ => ∀ env mem P, (f env mem).sat E P → WV X e env mem P := ⟨Sw.run⟩
structure Sa (X : Dx) (E : XE) (e : List Expr) (f : Fa)  : Prop where
  run : ∀ env mem P, (f env mem).sat E P → AV X e env mem P
instance {X : Dx} {E : XE} {e : List Expr} {f : Fa}  : CoeFun (Sa X E e f) fun _ => ∀ env mem P, (f env mem).sat E P → AV X e env mem P := ⟨Sa.run⟩
structure So (X : Dx) (E : XE) (e : Option Expr) (f : Fo)  : Prop where
  run : ∀ env mem P, (f env mem).sat E P → OV X e env mem P
instance {X : Dx} {E : XE} {e : Option Expr} {f : Fo}  : CoeFun (So X E e f) fun _ => ∀ env mem P, (f env mem).sat E P → OV X e env mem P := ⟨So.run⟩
structure Si (X : Dx) (E : XE) (tg e : Expr) (f : Fi)  : Prop where
  run : ∀ env mem P, (f env mem).sat E P → IV X tg e env mem P
instance {X : Dx} {E : XE} {tg e : Expr} {f : Fi}  : CoeFun (Si X E tg e f) fun _ => ∀ env mem P, (f env mem).sat E P → IV X tg e env mem P := ⟨Si.run⟩
/-! ### the functions -/
def varS (i : Nat) : Fe := fun env m => match env[i]? with
  | some (some s) => .ok (slR s) m
  | _ => .no
def valS (d : D) : Fe := fun _ m => .ok (.v d) m
def rd1S {α : Type} (a : Fe) (f : D → Mem → Rg α) : Envt → Mem → Rg α := fun env m => (a env m).bd fun r m1 => rdR r m1 fun d => f d m1
def rd2S {α : Type} (a b : Fe) (f : D → D → Mem → Rg α) : Envt → Mem → Rg α := fun env m => (a env m).bd fun r1 m1 => (b env m1).bd fun r2 m2 => rdR r1 m2 fun x => rdR r2 m2 fun y => f x y m2
def opI (p : Int → Int → Option Int) (x y : D) (m : Mem) : Rg Rs := match x, y with
  | .int i, .int j => match p i j with
    | some z => .ok (.v (.int z)) m
    | none => .no
  | _, _ => .no
instance (i j : Int) : Decidable (CMulW i j) := by unfold CMulW; infer_instance
instance (i j : Int) : Decidable (CDivW i j) := by unfold CDivW; infer_instance
instance (i j : Int) : Decidable (CPow i j) := by unfold CPow; infer_instance
def subI (i j : Int) : Option Int := some (i - j)
def mulI (i j : Int) : Option Int := if CMulW i j then some (i * j) else none
def divI (i j : Int) : Option Int := if CDivW i j then some (i / j) else none
def modI (i j : Int) : Option Int := if 0 < j then some (i % j) else none
def powI (i j : Int) : Option Int := if CPow i j then some (i ^ j.toNat) else none
def addR (x y : D) (m : Mem) : Rg Rs := match x, y with
  | .int i, .int j => .ok (.v (.int (i + j))) m
  | .lst ds, .lst es => if ds.length + es.length ≤ sizeLine then .ok (.nl (ds ++ es)) m else .no
  | _, _ => .no
def addS (a b : Fe) : Fe := rd2S a b addR
def subS (a b : Fe) : Fe := rd2S a b (opI subI)
def mulS (a b : Fe) : Fe := rd2S a b (opI mulI)
def divS (a b : Fe) : Fe := rd2S a b (opI divI)
def modS (a b : Fe) : Fe := rd2S a b (opI modI)
def powS (a b : Fe) : Fe := rd2S a b (opI powI)
def negS (a : Fe) : Fe := rd1S a fun x m => match x with
  | .int i => .ok (.v (.int (-i))) m
  | _ => .no
/-- a comparison: what it needs, what it gives -/
structure Cmp where
  c : D → D → Bool
  f : D → D → Bool
def bI : D → D → Bool
  | .int _, .int _ => true
  | _, _ => false
def bSh (x y : D) : Bool := sh x && sh y
def bSeq : D → Bool
  | .lst _ => true
  | .tup _ => true
  | _ => false
def bIn (x y : D) : Bool := bSeq y && sh x && sh (.lst (items y))
def bB : D → D → Bool
  | .bl _, .bl _ => true
  | _, _ => false
def qLt : Cmp := ⟨bI, fI fun i j => decide (i < j)⟩
def qLe : Cmp := ⟨bI, fI fun i j => decide (i ≤ j)⟩
def qGt : Cmp := ⟨bI, fI fun i j => decide (j < i)⟩
def qGe : Cmp := ⟨bI, fI fun i j => decide (j ≤ i)⟩
def qEq : Cmp := ⟨bSh, eqD⟩
def qNe : Cmp := ⟨bSh, fun x y => !eqD x y⟩
def qIn : Cmp := ⟨bIn, fun x y => inD x (items y)⟩
def qNotIn : Cmp := ⟨bIn, fun x y => !inD x (items y)⟩
def qIs : Cmp := ⟨fun _ y => isN y, fun x _ => isN x⟩
def qIsNot : Cmp := ⟨fun _ y => isN y, fun x _ => !isN x⟩
def qIsB : Cmp := ⟨bB, eqB⟩
def qIsNotB : Cmp := ⟨bB, fun x y => !eqB x y⟩
def cmpS (q : Cmp) (a b : Fe) : Fe := rd2S a b fun x y m => if q.c x y then .ok (.v (.bl (q.f x y))) m else .no
def cmpT (q : Cmp) (a b : Fe) : Ft := rd2S a b fun x y m => if q.c x y then .ok (q.f x y) m else .no
def chainR {α : Type} (q q' : Cmp) (a b c : Fe) (k : Bool → α) : Envt → Mem → Rg α := fun env m => (a env m).bd fun r1 m1 => (b env m1).bd fun r2 m2 => rdR r1 m2 fun x => rdR r2 m2 fun y => if q.c x y then
    (if q.f x y then (c env m2).bd fun r3 m3 => rdR r2 m3 fun y' => rdR r3 m3 fun z => if q'.c y' z then .ok (k (q'.f y' z)) m3 else .no else .ok (k false) m2) else .no
def chainS (q q' : Cmp) (a b c : Fe) : Fe := chainR q q' a b c fun b => .v (.bl b)
def chainT (q q' : Cmp) (a b c : Fe) : Ft := chainR q q' a b c id
def isBl {α : Type} (d : D) (f : Bool → Rg α) : Rg α := match d with
  | .bl b => f b
  | _ => .no
def andS (a b : Fe) : Fe := fun env m => (a env m).bd fun r m1 => rdR r m1 fun d => isBl d fun t => if t then b env m1 else .ok (.v (.bl false)) m1
def orS (a b : Fe) : Fe := fun env m => (a env m).bd fun r m1 => rdR r m1 fun d => isBl d fun t => if t then .ok (.v (.bl true)) m1 else b env m1
def notS (a : Fe) : Fe := rd1S a fun d m => isBl d fun t => .ok (.v (.bl (!t))) m
def ifS (c : Ft) (a b : Fe) : Fe := fun env m => (c env m).bd fun t m1 => if t then a env m1 else b env m1
def valT (a : Fe) : Ft := rd1S a fun d m => isBl d fun t => .ok t m
def andT (a b : Ft) : Ft := fun env m => (a env m).bd fun t m1 => if t then b env m1 else .ok false m1
def orT (a b : Ft) : Ft := fun env m => (a env m).bd fun t m1 => if t then .ok true m1 else b env m1
def notT (a : Ft) : Ft := fun env m => (a env m).bd fun t m1 => .ok (!t) m1
def anil : Fa := fun _ m => .ok [] m
def acons (e : Fe) (es : Fa) : Fa := fun env m => (e env m).bd fun r m1 => (es env m1).bd fun rs m2 => .ok (unl r :: rs) m2
/-- a list just made -/
def isNl {α : Type} (r : Rs) (f : List D → Rg α) : Rg α := match r with
  | .nl ds => f ds
  | _ => .no
def aconsC (e : Fe) (es : Fa) : Fa := fun env m => (e env m).bd fun r m1 => isNl r fun ds => (es env (m1 ++ [.lst ds])).bd fun rs m2 => .ok (.loc m1.length :: rs) m2
def frzR {α : Type} (rs : List Sl) (m : Mem) (f : List D → Mem → Rg α) : Rg α := match frz rs m with
  | some (ds, m') => f ds m'
  | none => .no
theorem sat_frzR {α : Type} {E : XE} {rs : List Sl} {m : Mem} {f : List D → Mem → Rg α} {P : α → Mem → Prop} (h : (frzR rs m f).sat E P) : ∃ ds m', frz rs m = some (ds, m') ∧ (f ds m').sat E P := by
  unfold frzR at h
  cases q : frz rs m with
  | none => rw [q] at h; exact h.elim
  | some p => obtain ⟨ds, m'⟩ := p; rw [q] at h; exact ⟨ds, m', rfl, h⟩
def tupS (a : Fa) : Fe := fun env m => (a env m).bd fun rs m1 => frzR rs m1 fun ds m2 => if ds.length ≤ 100 then .ok (.v (.tup ds)) m2 else .no
def lstS (a : Fa) : Fe := fun env m => (a env m).bd fun rs m1 => frzR rs m1 fun ds m2 => if ds.length ≤ 100 then .ok (.nl ds) m2 else .no
def ixS (a b : Fe) : Fe := rd2S a b fun x y m => match y with
  | .int i => match ixD x i with
    | some d => .ok (.v d) m
    | none => .no
  | _ => .no
def onone : Fo := fun _ m => .ok none m
def osome (a : Fe) : Fo := rd1S a fun d m => match d with
  | .int i => .ok (some i) m
  | _ => .no
def slcR (lo hi : Option Int) (m : Mem) : D → Rg Rs
  | .lst ds => .ok (.nl (cutG ds lo hi)) m
  | .tup ds => .ok (.v (.tup (cutG ds lo hi))) m
  | _ => .no
def sliceS (a : Fe) (lo hi : Fo) : Fe := fun env m => (a env m).bd fun r m1 => (lo env m1).bd fun l m2 => (hi env m2).bd fun u m3 => rdR r m3 fun x => slcR l u m3 x
def optR {α β : Type} (o : Option α) (f : α → Rg β) : Rg β := match o with
  | some a => f a
  | none => .no
theorem sat_optR {α β : Type} {E : XE} {o : Option α} {f : α → Rg β} {P : β → Mem → Prop} (h : (optR o f).sat E P) : ∃ a, o = some a ∧ (f a).sat E P := by
  cases o with
  | none => exact h.elim
  | some a => exact ⟨a, rfl, h⟩
def lenS (a : Fe) : Fe := rd1S a fun d m => optR (lenD d) fun n => .ok (.v (.int (n : Int))) m
def absS (a : Fe) : Fe := rd1S a fun d m => match d with
  | .int i => .ok (.v (.int (if i < 0 then -i else i))) m
  | _ => .no
def intS (a : Fe) : Fe := rd1S a fun d m => optR (intOf d) fun n => .ok (.v (.int n)) m
def bls : List D → Option (List Bool)
  | [] => some []
  | .bl b :: r => (bls r).map (b :: ·)
  | _ :: _ => none
theorem bls_eq : ∀ {ds : List D} {bs : List Bool}, bls ds = some bs → ds = bs.map .bl
  | [], _, h => by cases h; rfl
  | d :: r, bs, h => by
    cases d <;> try cases h
    rename_i b
    rw [bls] at h
    cases q : bls r with
    | none => rw [q] at h; cases h
    | some t => rw [q] at h; cases h; rw [bls_eq q]; rfl
theorem bls_map (bs : List Bool) : bls (bs.map .bl) = some bs := by
  induction bs with
  | nil => rfl
  | cons b r ih => rw [List.map_cons, bls, ih]; rfl
def blsR (d : D) (f : List Bool → Rg Rs) : Rg Rs := match d with
  | .lst ds => optR (bls ds) f
  | _ => .no
def allS (a : Fe) : Fe := rd1S a fun d m => blsR d fun bs => .ok (.v (.bl (bs.all id))) m
def anyS (a : Fe) : Fe := rd1S a fun d m => blsR d fun bs => .ok (.v (.bl (bs.any id))) m
def listS (a : Fe) : Fe := rd1S a fun d m => optR (seqD d) fun ds => .ok (.nl ds) m
def tupleS (a : Fe) : Fe := rd1S a fun d m => optR (seqD d) fun ds => .ok (.v (.tup ds)) m
def isiS (f : D → Bool) (a : Fe) : Fe := rd1S a fun d m => if noOb d then .ok (.v (.bl (f d))) m else .no
def isi2S (f g : D → Bool) (a : Fe) : Fe := rd1S a fun d m => if noOb d then .ok (.v (.bl (f d || g d))) m else .no
/-- a cell that holds a list -/
def cellR {α : Type} (r : Rs) (m : Mem) (f : Nat → List D → Rg α) : Rg α := match r with
  | .loc n => match m[n]? with
    | some (.lst ds) => f n ds
    | _ => .no
  | _ => .no
theorem sat_cellR {α : Type} {E : XE} {r : Rs} {m : Mem} {f : Nat → List D → Rg α} {P : α → Mem → Prop} (h : (cellR r m f).sat E P) : ∃ n ds, r = .loc n ∧ m[n]? = some (.lst ds) ∧ (f n ds).sat E P := by
  unfold cellR at h
  cases r <;> try exact h.elim
  rename_i n
  cases q : m[n]? with
  | none => simp [q, Rg.sat] at h
  | some c =>
    cases c with
    | lst ds => simp only [q] at h; exact ⟨n, ds, rfl, q, h⟩
    | _ => simp [q, Rg.sat] at h
def appendS (o e : Fe) : Fe := fun env m => (o env m).bd fun r m1 => cellR r m1 fun n _ => (e env m1).bd fun r2 m2 => frzR [unl r2] m2 fun q m3 => cellR (.loc n) m3 fun _ ds => match q with
  | [d] => if ds.length < sizeLine then .ok (.v .non) (m3.set n (.lst (ds ++ [d]))) else .no
  | _ => .no
def popAtS (o e : Fe) : Fe := fun env m => (o env m).bd fun r m1 => cellR r m1 fun n _ => (e env m1).bd fun r2 m2 => rdR r2 m2 fun x => match x with
  | .int i => cellR (.loc n) m2 fun _ ds => if -(2 ^ 63) ≤ i ∧ i < 2 ^ 63 then optR (seqIndex? i ds.length) fun kk => optR ds[kk]? fun d => .ok (.v d) (m2.set n (.lst (ds.eraseIdx kk))) else .no
  | _ => .no
def popS (o : Fe) : Fe := fun env m => (o env m).bd fun r m1 => cellR r m1 fun n ds => optR ds[ds.length - 1]? fun d => .ok (.v d) (m1.set n (.lst ds.dropLast))
def insertS (o : Fe) (a : Fa) : Fe := fun env m => (o env m).bd fun r m1 => cellR r m1 fun n _ => (a env m1).bd fun rs m2 => match rs with
  | [.v (.int i), s] => frzR [s] m2 fun q m3 => cellR (.loc n) m3 fun _ ds => match q with
    | [d] => if ds.length < sizeLine ∧ 0 ≤ i ∧ i < 2 ^ 63 then .ok (.v .non) (m3.set n (.lst (ds.take i.toNat ++ [d] ++ ds.drop i.toNat))) else .no
    | _ => .no
  | _ => .no
def unI : List D → Option (List Int)
  | [] => some []
  | .int b :: r => (unI r).map (b :: ·)
  | _ :: _ => none
theorem unI_eq : ∀ {ds : List D} {bs : List Int}, unI ds = some bs → ds = bs.map .int
  | [], _, h => by cases h; rfl
  | d :: r, bs, h => by
    cases d <;> try cases h
    rename_i b
    rw [unI] at h
    cases q : unI r with
    | none => rw [q] at h; cases h
    | some t => rw [q] at h; cases h; rw [unI_eq q]; rfl
def minmaxR (f : Int → Int → Int) (d : D) (m : Mem) : Rg Rs := match d with
  | .tup ds => optR (unI ds) fun
    | n :: ns => .ok (.v (.int (ns.foldl f n))) m
    | [] => .no
  | _ => .no
def minTS (a : Fe) : Fe := rd1S a (minmaxR min)
def maxTS (a : Fe) : Fe := rd1S a (minmaxR max)
/-! ### the walk follows: expressions -/
section
variable {X : Dx} {E : XE} {a b c e o : Expr} {es rest : List Expr} {pos p0 p2 apos : Pos} {f f1 f2 f3 : Fe} {t t1 t2 : Ft} {fa : Fa} {fo fo2 : Fo} {x : Str}
theorem se_var (i : Nat) (hN : X.N[i]? = some x := by rfl) (hv : Vis X.env.scope x := by first | exact Or.inl rfl | exact Or.inr (Or.inl rfl) | exact Or.inr (Or.inr rfl))
    (hd : (x == ("__debug__" : Str)) = false := by decide) (hcd : (x == ("__classdict__" : Str)) = false := by decide) : Se X E (.Name x pos) (varS i) := .mk fun env mem P h => by
  unfold varS at h
  cases q : env[i]? with
  | none => simp [q, Rg.sat] at h
  | some s =>
    cases s with
    | none => simp [q, Rg.sat] at h
    | some s => simp only [q] at h; exact ev_var i q h hN hv hd hcd
theorem se_int {i : Int} {j : Nat} : Se X E (.Constant (.int i) j pos) (valS (.int i)) := .mk fun env mem P h => ev_int h
theorem se_bl {i : Bool} {j : Nat} : Se X E (.Constant (.bool i) j pos) (valS (.bl i)) := .mk fun env mem P h => ev_bl h
theorem se_str {i : Str} {j : Nat} : Se X E (.Constant (.str i) j pos) (valS (.str i)) := .mk fun env mem P h => ev_str h
theorem se_non {j : Nat} : Se X E (.Constant .none j pos) (valS .non) := .mk fun env mem P h => ev_non h
/-- a name of the text that stands for data -/
structure GlobD (C : Cn) (x : Str) (d : D) : Prop where
  ex : ∃ (u : Value) (v : V), C.mg x = some u ∧ RelV v u ∧ Rep C (fun _ => none) v d
theorem se_glob {d : D} (h : GlobD (Cx.cn X) x d) (hg : Gl X x := by rfl) (hd : (x == ("__debug__" : Str)) = false := by decide) : Se X E (.Name x pos) (valS d) := .mk fun env mem P hP => by
  obtain ⟨u, v, hm, hu, hr⟩ := h.ex
  exact ev_glob hm hu hr hP hg hd
theorem se_rd1 {α : Type} {ff : D → Mem → Rg Rs} {env : Envt} {mem : Mem} {P : Rs → Mem → Prop} (ha : Se X E a f) (h : (rd1S f ff env mem).sat E P) : EV X a env mem (rd fun d m => (ff d m).sat E P) :=
  (ha env mem _ (sat_bd h)).mono fun r m q => sat_rdR q
theorem se_rd2 {α : Type} {ff : D → D → Mem → Rg α} {env : Envt} {mem : Mem} {P : α → Mem → Prop} (ha : Se X E a f1) (hb : Se X E b f2) (h : (rd2S f1 f2 ff env mem).sat E P) : EV X a env mem fun r1 m1 => EV X b env m1 (rd2 (fun x y m => (ff x y m).sat E P) r1) :=
  (ha env mem _ (sat_bd h)).mono fun r m q => (hb env m _ (sat_bd q)).mono fun r2 m2 q2 => by
    obtain ⟨d, e1, h1⟩ := sat_rdR q2
    obtain ⟨d2, e2, h2⟩ := sat_rdR h1
    exact ⟨d, d2, e1, e2, h2⟩
theorem sat_opI {p : Int → Int → Option Int} {x y : D} {m : Mem} {P : Rs → Mem → Prop} (h : (opI p x y m).sat E P) : ∃ i j z, x = .int i ∧ y = .int j ∧ p i j = some z ∧ P (.v (.int z)) m := by
  unfold opI at h
  cases x <;> cases y <;> try exact h.elim
  rename_i i j
  cases q : p i j with
  | none => simp [q, Rg.sat] at h
  | some z => simp only [q] at h; exact ⟨i, j, z, rfl, rfl, q, h⟩
theorem OpR.either {op : Value → Value → Sem Value} {r1 r2 : R2} (h1 : OpR X op r1) (h2 : OpR X op r2) : OpR X op fun x y H Q => r1 x y H Q ∨ r2 x y H Q := fun pins s σ H x y v u Q I rx ry h =>
  h.elim (h1 pins s σ H x y v u Q I rx ry) (h2 pins s σ H x y v u Q I rx ry)
theorem se_add (ha : Se X E a f1) (hb : Se X E b f2) : Se X E (.BinOp a .Add b pos) (addS f1 f2) := .mk fun env mem P h => fun as G σ H k => by
  refine EW.of (pe_op (OpR.either op_add op_catL) (pe_ew X a) (pe_ew X b)) (ev_two k (se_rd2 ha hb h) (fun as G H v1 v2 r1 r2 m k ro1 ro2 q => ?_) ?_)
  · obtain ⟨x, y, e1, e2, hP⟩ := q
    cases x <;> try exact hP.elim
    · rename_i i
      cases y <;> try exact hP.elim
      rename_i j
      exact .inl ⟨i, j, ro1.int k e1, ro2.int k e2, Post.now (r := .v (.int _)) k (Rep.int _) hP⟩
    · rename_i ds
      cases y <;> try exact hP.elim
      rename_i es
      have hP' : (if ds.length + es.length ≤ sizeLine then Rg.ok (.nl (ds ++ es)) m else .no).sat E P := hP
      split at hP'
      · rename_i hl
        obtain ⟨p, vs, rfl, hq, rp⟩ := ro1.lst k e1
        obtain ⟨p', vs', rfl, hq', rp'⟩ := ro2.lst k e2
        exact .inr ⟨p, p', vs, vs', rfl, rfl, hq, hq', by rw [rp.length, rp'.length]; exact hl, fun l hl => Post.newList k hl (rp.append rp') hP'⟩
      · exact hP'.elim
  · intro v1 v2 H Q Q' h q
    rcases q with ⟨i, j, a1, a2, q⟩ | ⟨l, b, xs, zs, a1, a2, a3, a4, a5, q⟩
    · exact .inl ⟨i, j, a1, a2, h _ _ q⟩
    · exact .inr ⟨l, b, xs, zs, a1, a2, a3, a4, a5, fun p hp => h _ _ (q p hp)⟩
theorem se_sub (ha : Se X E a f1) (hb : Se X E b f2) : Se X E (.BinOp a .Sub b pos) (subS f1 f2) := .mk fun env mem P h => by
  refine ev_sub ((se_rd2 ha hb h).mono fun r m q => q.mono fun r2 m2 ⟨x, y, e1, e2, q⟩ => ?_)
  obtain ⟨i, j, z, rfl, rfl, hz, hP⟩ := sat_opI q
  cases hz
  exact ⟨_, _, e1, e2, i, j, rfl, rfl, hP⟩
theorem se_mul (ha : Se X E a f1) (hb : Se X E b f2) : Se X E (.BinOp a .Mult b pos) (mulS f1 f2) := .mk fun env mem P h => by
  refine ev_mul ((se_rd2 ha hb h).mono fun r m q => q.mono fun r2 m2 ⟨x, y, e1, e2, q⟩ => ?_)
  obtain ⟨i, j, z, rfl, rfl, hz, hP⟩ := sat_opI q
  unfold mulI at hz
  split at hz
  · rename_i hc; cases hz; exact ⟨_, _, e1, e2, i, j, rfl, rfl, hc, hP⟩
  · cases hz
theorem se_div (ha : Se X E a f1) (hb : Se X E b f2) : Se X E (.BinOp a .FloorDiv b pos) (divS f1 f2) := .mk fun env mem P h => by
  refine ev_div ((se_rd2 ha hb h).mono fun r m q => q.mono fun r2 m2 ⟨x, y, e1, e2, q⟩ => ?_)
  obtain ⟨i, j, z, rfl, rfl, hz, hP⟩ := sat_opI q
  unfold divI at hz
  split at hz
  · rename_i hc; cases hz; exact ⟨_, _, e1, e2, i, j, rfl, rfl, hc, hP⟩
  · cases hz
theorem se_mod (ha : Se X E a f1) (hb : Se X E b f2) : Se X E (.BinOp a .Mod b pos) (modS f1 f2) := .mk fun env mem P h => by
  refine ev_mod ((se_rd2 ha hb h).mono fun r m q => q.mono fun r2 m2 ⟨x, y, e1, e2, q⟩ => ?_)
  obtain ⟨i, j, z, rfl, rfl, hz, hP⟩ := sat_opI q
  unfold modI at hz
  split at hz
  · rename_i hc; cases hz; exact ⟨_, _, e1, e2, i, j, rfl, rfl, hc, hP⟩
  · cases hz
theorem se_pow (ha : Se X E a f1) (hb : Se X E b f2) : Se X E (.BinOp a .Pow b pos) (powS f1 f2) := .mk fun env mem P h => by
  refine ev_pow ((se_rd2 ha hb h).mono fun r m q => q.mono fun r2 m2 ⟨x, y, e1, e2, q⟩ => ?_)
  obtain ⟨i, j, z, rfl, rfl, hz, hP⟩ := sat_opI q
  unfold powI at hz
  split at hz
  · rename_i hc; cases hz; exact ⟨_, _, e1, e2, i, j, rfl, rfl, hc, hP⟩
  · cases hz
theorem se_neg (ha : Se X E a f1) : Se X E (.UnaryOp .USub a pos) (negS f1) := .mk fun env mem P h => by
  refine ev_neg ((se_rd1 (α := Rs) ha h).mono fun r m ⟨d, e1, q⟩ => ⟨d, e1, ?_⟩)
  cases d <;> try exact q.elim
  exact ⟨_, rfl, q⟩
end
end Dl
/-! Dl10: the walk follows: comparisons, truth, displays, built-ins, methods. -/
namespace Dl
open PySem PySem.Spec PyProof.Rows L2
section
variable {X : Dx} {E : XE} {a b c e o : Expr} {es rest : List Expr} {pos p0 p2 apos : Pos} {f f1 f2 f3 : Fe} {t t1 t2 : Ft} {fa : Fa} {fo fo2 : Fo} {x : Str}
def CmpOk (X : Dx) (op : CmpOp) (q : Cmp) : Prop := ∃ (k : D → D → Prop) (_ : CmpRule X op k q.f), ∀ x y, q.c x y = true → k x y
theorem bI_ok {x y : D} (h : bI x y = true) : cI x y := by
  cases x <;> try cases h
  cases y <;> first | exact ⟨trivial, trivial⟩ | cases h
theorem bSh_ok {x y : D} (h : bSh x y = true) : cSh x y := Bool.and_eq_true_iff.mp h
theorem bSeq_ok {x : D} (h : bSeq x = true) : isSeq x := by cases x <;> first | trivial | cases h
theorem bIn_ok {x y : D} (h : bIn x y = true) : cInSq x y := by
  obtain ⟨h1, h2⟩ := Bool.and_eq_true_iff.mp h
  obtain ⟨h3, h4⟩ := Bool.and_eq_true_iff.mp h1
  exact ⟨bSeq_ok h3, h4, h2⟩
theorem oLt : CmpOk X .Lt qLt := ⟨_, cLt, fun _ _ => bI_ok⟩
theorem oLe : CmpOk X .LtE qLe := ⟨_, cLe, fun _ _ => bI_ok⟩
theorem oGt : CmpOk X .Gt qGt := ⟨_, cGt, fun _ _ => bI_ok⟩
theorem oGe : CmpOk X .GtE qGe := ⟨_, cGe, fun _ _ => bI_ok⟩
theorem oEq (hu : X.A.units + 65 < cLine) : CmpOk X .Eq qEq := ⟨_, cEq hu, fun _ _ => bSh_ok⟩
theorem oNe (hu : X.A.units + 65 < cLine) : CmpOk X .NotEq qNe := ⟨_, cNe hu, fun _ _ => bSh_ok⟩
theorem oIn (hu : X.A.units + 65 < cLine) : CmpOk X .In qIn := ⟨_, cInS hu, fun _ _ => bIn_ok⟩
theorem oNotIn (hu : X.A.units + 65 < cLine) : CmpOk X .NotIn qNotIn := ⟨_, cNotInS hu, fun _ _ => bIn_ok⟩
theorem oIs : CmpOk X .Is qIs := ⟨_, cIs, fun _ _ h => h⟩
theorem oIsNot : CmpOk X .IsNot qIsNot := ⟨_, cIsNot, fun _ _ h => h⟩
theorem sat_if {α : Type} {p : Prop} [Decidable p] {x : Rg α} {P : α → Mem → Prop} (h : (if p then x else .no).sat E P) : p ∧ x.sat E P := by
  split at h
  · exact ⟨‹_›, h⟩
  · exact h.elim
theorem se_cmp {op : CmpOp} {q : Cmp} (R : CmpOk X op q) (ha : Se X E a f1) (hb : Se X E b f2) (hm : behindInMarks op b = false := by first | exact nomark _ | rfl) : Se X E (.Compare a [op] [b] pos) (cmpS q f1 f2) := .mk fun env mem P h => by
  obtain ⟨k, R, hk⟩ := R
  refine ev_cmp R ((se_rd2 ha hb h).mono fun r m q => q.mono fun r2 m2 ⟨x, y, e1, e2, q⟩ => ?_) hm
  obtain ⟨h1, h2⟩ := sat_if q
  exact ⟨_, _, e1, e2, hk _ _ h1, h2⟩
theorem st_cmp {op : CmpOp} {q : Cmp} (R : CmpOk X op q) (ha : Se X E a f1) (hb : Se X E b f2) (hm : behindInMarks op b = false := by first | exact nomark _ | rfl) : St X E (.Compare a [op] [b] pos) (cmpT q f1 f2) := .mk fun env mem P h => by
  obtain ⟨k, R, hk⟩ := R
  refine tv_cmp R ((se_rd2 ha hb h).mono fun r m q => q.mono fun r2 m2 ⟨x, y, e1, e2, q⟩ => ?_) hm
  obtain ⟨h1, h2⟩ := sat_if q
  exact ⟨_, _, e1, e2, hk _ _ h1, h2⟩
theorem chain_sat {α : Type} {q q' : Cmp} {k : Bool → α} {env : Envt} {mem : Mem} {P : α → Mem → Prop} {b2 : Expr} (ha : Se X E a f1) (hb : Se X E b f2) (hc : Se X E b2 f3) (h : (chainR q q' f1 f2 f3 k env mem).sat E P) :
    EV X a env mem fun r1 m1 => EV X b env m1 fun r2 m2 => rd2 (fun x y m => q.c x y = true ∧ cond (q.f x y) (EV X b2 env m (rd2 (fun y z m' => q'.c y z = true ∧ P (k (q'.f y z)) m') r2)) (P (k false) m)) r1 r2 m2 := by
  refine (ha env mem _ (sat_bd h)).mono fun r1 m1 h1 => (hb env m1 _ (sat_bd h1)).mono fun r2 m2 h2 => ?_
  obtain ⟨x, e1, h3⟩ := sat_rdR h2
  obtain ⟨y, e2, h4⟩ := sat_rdR h3
  obtain ⟨h5, h6⟩ := sat_if h4
  refine ⟨x, y, e1, e2, h5, ?_⟩
  cases hq : q.f x y with
  | false => rw [hq] at h6; exact h6
  | true =>
    rw [hq] at h6
    refine (hc env m2 _ (sat_bd h6)).mono fun r3 m3 h7 => ?_
    obtain ⟨y', e3, h8⟩ := sat_rdR h7
    obtain ⟨z, e4, h9⟩ := sat_rdR h8
    obtain ⟨h10, h11⟩ := sat_if h9
    exact ⟨y', z, e3, e4, h10, h11⟩
theorem se_chain {op op' : CmpOp} {q q' : Cmp} {b2 : Expr} (R : CmpOk X op q) (R' : CmpOk X op' q') (ha : Se X E a f1) (hb : Se X E b f2) (hc : Se X E b2 f3) (hm : lastMarks [op, op'] [b, b2] = false := by with_unfolding_all rfl) : Se X E (.Compare a [op, op'] [b, b2] pos) (chainS q q' f1 f2 f3) := .mk fun env mem P h => by
  obtain ⟨k, R, hk⟩ := R
  obtain ⟨k', R', hk'⟩ := R'
  refine ev_chain R R' ((chain_sat ha hb hc h).mono fun r1 m1 h1 => h1.mono fun r2 m2 ⟨x, y, e1, e2, h2, h3⟩ => ⟨x, y, e1, e2, hk _ _ h2, ?_⟩) hm
  cases hq : q.f x y with
  | false => rw [hq] at h3; exact h3
  | true => rw [hq] at h3; exact EV.mono h3 fun r m ⟨y, z, e3, e4, h5, h6⟩ => ⟨y, z, e3, e4, hk' _ _ h5, h6⟩
theorem st_chain {op op' : CmpOp} {q q' : Cmp} {b2 : Expr} (R : CmpOk X op q) (R' : CmpOk X op' q') (ha : Se X E a f1) (hb : Se X E b f2) (hc : Se X E b2 f3) (hm : lastMarks [op, op'] [b, b2] = false := by with_unfolding_all rfl) : St X E (.Compare a [op, op'] [b, b2] pos) (chainT q q' f1 f2 f3) := .mk fun env mem P h => by
  obtain ⟨k, R, hk⟩ := R
  obtain ⟨k', R', hk'⟩ := R'
  refine tv_chain R R' ((chain_sat ha hb hc h).mono fun r1 m1 h1 => h1.mono fun r2 m2 ⟨x, y, e1, e2, h2, h3⟩ => ⟨x, y, e1, e2, hk _ _ h2, ?_⟩) hm
  cases hq : q.f x y with
  | false => rw [hq] at h3; exact h3
  | true => rw [hq] at h3; exact EV.mono h3 fun r m ⟨y, z, e3, e4, h5, h6⟩ => ⟨y, z, e3, e4, hk' _ _ h5, h6⟩
theorem sat_isBl {α : Type} {d : D} {ff : Bool → Rg α} {P : α → Mem → Prop} (h : (isBl d ff).sat E P) : ∃ t, d = .bl t ∧ (ff t).sat E P := by
  cases d <;> first | exact ⟨_, rfl, h⟩ | exact h.elim
theorem sat_ite {α : Type} {t : Bool} {x y : Rg α} {P : α → Mem → Prop} (h : (if t = true then x else y).sat E P) : cond t (x.sat E P) (y.sat E P) := by cases t <;> exact h
theorem cond_imp {t : Bool} {A A' B B' : Prop} (h : cond t A B) (ha : A → A') (hb : B → B') : cond t A' B' := by cases t <;> first | exact hb h | exact ha h
theorem se_last {op : BoolOp} (ha : Se X E a f1) : Se X E (.BoolOp op [a] pos) f1 := .mk fun env mem P h => ev_last (ha env mem P h)
theorem se_and (ha : Se X E a f1) (hb : Se X E (.BoolOp .And (b :: rest) pos) f2) : Se X E (.BoolOp .And (a :: b :: rest) pos) (andS f1 f2) := .mk fun env mem P h => by
  refine ev_and ((ha env mem _ (sat_bd h)).mono fun r m q => ?_)
  obtain ⟨d, e1, q1⟩ := sat_rdR q
  obtain ⟨t, rfl, q2⟩ := sat_isBl q1
  exact ⟨_, e1, t, rfl, cond_imp (sat_ite q2) (hb env m P) id⟩
theorem se_or (ha : Se X E a f1) (hb : Se X E (.BoolOp .Or (b :: rest) pos) f2) : Se X E (.BoolOp .Or (a :: b :: rest) pos) (orS f1 f2) := .mk fun env mem P h => by
  refine ev_or ((ha env mem _ (sat_bd h)).mono fun r m q => ?_)
  obtain ⟨d, e1, q1⟩ := sat_rdR q
  obtain ⟨t, rfl, q2⟩ := sat_isBl q1
  exact ⟨_, e1, t, rfl, cond_imp (sat_ite q2) id (hb env m P)⟩
theorem se_not (ha : Se X E a f1) : Se X E (.UnaryOp .Not a pos) (notS f1) := .mk fun env mem P h => by
  refine ev_not ((se_rd1 (α := Rs) ha h).mono fun r m ⟨d, e1, q⟩ => ?_)
  obtain ⟨t, rfl, q2⟩ := sat_isBl q
  exact ⟨_, e1, t, rfl, q2⟩
theorem se_if (hc : St X E c t) (ha : Se X E a f1) (hb : Se X E b f2) : Se X E (.IfExp c a b pos) (ifS t f1 f2) := .mk fun env mem P h =>
  ev_if ((hc env mem _ (sat_bd h)).mono fun t m q => cond_imp (sat_ite q) (ha env m P) (hb env m P))
theorem st_val (ha : Se X E e f) (he : ∀ whole, isTrue e X.env whole = (do let v ← whole; standAt e.pos; holding [v] (truthy v)) := by intro _; rfl) : St X E e (valT f) := .mk fun env mem P h => by
  refine EV.test ((ha env mem _ (sat_bd h)).mono fun r m q => ?_) he
  obtain ⟨d, e1, q1⟩ := sat_rdR q
  obtain ⟨t, rfl, q2⟩ := sat_isBl q1
  exact ⟨_, e1, t, rfl, q2⟩
theorem st_bool (h : Sw X E e t) : St X E e t := .mk fun env mem P q => tv_bool (h env mem P q)
theorem st_not (h : St X E a t) : St X E (.UnaryOp .Not a pos) (notT t) := .mk fun env mem P q => tv_not (h env mem _ (sat_bd q))
theorem sw_and1 (h : St X E a t) : Sw X E (.BoolOp .And [a] pos) t := .mk fun env mem P q => wv_and1 (h env mem P q)
theorem sw_or1 (h : St X E a t) : Sw X E (.BoolOp .Or [a] pos) t := .mk fun env mem P q => wv_or1 (h env mem P q)
theorem sw_and (ha : St X E a t1) (hb : Sw X E (.BoolOp .And (b :: rest) pos) t2) : Sw X E (.BoolOp .And (a :: b :: rest) pos) (andT t1 t2) := .mk fun env mem P q =>
  wv_and ((ha env mem _ (sat_bd q)).mono fun t m q => cond_imp (sat_ite q) (hb env m P) id)
theorem sw_or (ha : St X E a t1) (hb : Sw X E (.BoolOp .Or (b :: rest) pos) t2) : Sw X E (.BoolOp .Or (a :: b :: rest) pos) (orT t1 t2) := .mk fun env mem P q =>
  wv_or ((ha env mem _ (sat_bd q)).mono fun t m q => cond_imp (sat_ite q) id (hb env m P))
/-! ### displays, items -/
theorem sa_nil : Sa X E [] anil := .mk fun env mem P h => av_nil h
theorem AV.mono {env : Envt} {mem : Mem} {P P' : List Sl → Mem → Prop} (h : AV X es env mem P) (hp : ∀ r m, P r m → P' r m) : AV X es env mem P' := fun as G σ H k => (h as G σ H k).mono fun _ _ ⟨as', G', m', r, x, k', ro, p⟩ => ⟨as', G', m', r, x, k', ro, hp r m' p⟩
theorem sa_cons (ha : Se X E e f) (hb : Sa X E es fa) (hs : starEach (e :: es) X.env = (false, eval e X.env) :: starEach es X.env := by rfl) : Sa X E (e :: es) (acons f fa) := .mk fun env mem P h =>
  av_cons ((ha env mem _ (sat_bd h)).mono fun r m q => (hb env m _ (sat_bd q)).mono fun rs m' q => q) hs
theorem sat_isNl {α : Type} {r : Rs} {ff : List D → Rg α} {P : α → Mem → Prop} (h : (isNl r ff).sat E P) : ∃ ds, r = .nl ds ∧ (ff ds).sat E P := by
  cases r <;> first | exact ⟨_, rfl, h⟩ | exact h.elim
theorem sa_consC (ha : Se X E e f) (hb : Sa X E es fa) (hs : starEach (e :: es) X.env = (false, eval e X.env) :: starEach es X.env := by rfl) : Sa X E (e :: es) (aconsC f fa) := .mk fun env mem P h =>
  av_consC ((ha env mem _ (sat_bd h)).mono fun r m q => by
    obtain ⟨ds, rfl, q1⟩ := sat_isNl q
    exact ⟨ds, rfl, (hb env _ _ (sat_bd q1)).mono fun rs m' q => q⟩) hs
theorem le_size {n : Nat} (h : n ≤ 100) : n ≤ sizeLine := Nat.le_trans h (by decide)
theorem se_tup {k0 : Nat} (ha : Sa X E es fa) : Se X E (.Tuple es k0 pos) (tupS fa) := .mk fun env mem P h =>
  ev_tup ((ha env mem _ (sat_bd h)).mono fun rs m q => by
    obtain ⟨ds, m', e1, q1⟩ := sat_frzR q
    obtain ⟨h1, h2⟩ := sat_if q1
    exact ⟨ds, m', e1, le_size h1, h2⟩)
theorem se_lst (ha : Sa X E es fa) : Se X E (.List es pos) (lstS fa) := .mk fun env mem P h =>
  ev_lst ((ha env mem _ (sat_bd h)).mono fun rs m q => by
    obtain ⟨ds, m', e1, q1⟩ := sat_frzR q
    obtain ⟨h1, h2⟩ := sat_if q1
    exact ⟨ds, m', e1, le_size h1, h2⟩)
theorem se_ix (ha : Se X E a f1) (hb : Se X E b f2) (hs : PlainIx b := by intro _ _; rfl) : Se X E (.Subscript a b pos) (ixS f1 f2) := .mk fun env mem P h => by
  refine ev_ix ((se_rd2 ha hb h).mono fun r m q => q.mono fun r2 m2 ⟨x, y, e1, e2, q⟩ => ?_) hs
  cases y <;> try exact q.elim
  rename_i i
  dsimp only at q
  cases hd : ixD x i with
  | none => rw [hd] at q; exact q.elim
  | some d => rw [hd] at q; exact ⟨x, _, e1, e2, i, d, rfl, hd, q⟩
theorem so_none : So X E none onone := .mk fun env mem P h => ov_none h
theorem so_some (ha : Se X E e f) : So X E (some e) (osome f) := .mk fun env mem P h => by
  refine ov_some ((ha env mem _ (sat_bd h)).mono fun r m q => ?_)
  obtain ⟨d, e1, q1⟩ := sat_rdR q
  cases d <;> try exact q1.elim
  exact ⟨_, e1, _, rfl, q1⟩
theorem OV.mono {oe : Option Expr} {env : Envt} {mem : Mem} {P P' : Option Int → Mem → Prop} (h : OV X oe env mem P) (hp : ∀ r m, P r m → P' r m) : OV X oe env mem P' := fun as G σ H k => (h as G σ H k).mono fun _ _ ⟨as', G', m', x, k', p⟩ => ⟨as', G', m', x, k', hp _ m' p⟩
theorem se_slice {lo hi : Option Expr} (ha : Se X E a f1) (hl : So X E lo fo) (hh : So X E hi fo2) : Se X E (.Subscript a (.Slice lo hi none p2) pos) (sliceS f1 fo fo2) := .mk fun env mem P h => by
  refine ev_slice ((ha env mem _ (sat_bd h)).mono fun r m q => (hl env m _ (sat_bd q)).mono fun l m2 q => (hh env m2 _ (sat_bd q)).mono fun u m3 q => ?_)
  obtain ⟨x, e1, q1⟩ := sat_rdR q
  refine ⟨x, e1, ?_⟩
  cases x <;> first | exact q1 | exact q1.elim
/-! ### built-ins -/
theorem se_len (hm : X.mg "len" = none) (ha : Se X E e f) (hg : Gl X "len" := by rfl) (he : starEach [e] X.env = (false, eval e X.env) :: starEach [] X.env := by rfl) : Se X E (.Call (.Name "len" p0) [e] [] pos) (lenS f) := .mk fun env mem P h =>
  ev_len hm ((se_rd1 (α := Rs) ha h).mono fun r m ⟨d, e1, q⟩ => ⟨d, e1, sat_optR q⟩) hg he
theorem se_abs (hm : X.mg "abs" = none) (ha : Se X E e f) (hg : Gl X "abs" := by rfl) (he : starEach [e] X.env = (false, eval e X.env) :: starEach [] X.env := by rfl) : Se X E (.Call (.Name "abs" p0) [e] [] pos) (absS f) := .mk fun env mem P h =>
  ev_abs hm ((se_rd1 (α := Rs) ha h).mono fun r m ⟨d, e1, q⟩ => by
    cases d <;> try exact q.elim
    exact ⟨_, e1, _, rfl, q⟩) hg he
theorem se_intOf (hm : X.mg "int" = none) (ha : Se X E e f) (hg : Gl X "int" := by rfl) (he : starEach [e] X.env = (false, eval e X.env) :: starEach [] X.env := by rfl) : Se X E (.Call (.Name "int" p0) [e] [] pos) (intS f) := .mk fun env mem P h =>
  ev_intOf hm ((se_rd1 (α := Rs) ha h).mono fun r m ⟨d, e1, q⟩ => ⟨d, e1, sat_optR q⟩) hg he
theorem sat_blsR {d : D} {ff : List Bool → Rg Rs} {P : Rs → Mem → Prop} (h : (blsR d ff).sat E P) : ∃ bs : List Bool, d = .lst (bs.map .bl) ∧ (ff bs).sat E P := by
  cases d <;> try exact h.elim
  obtain ⟨bs, e1, q⟩ := sat_optR h
  exact ⟨bs, by rw [bls_eq e1], q⟩
theorem se_all (hc : X.calm = true) (hm : X.mg "all" = none) (ha : Se X E e f) (hg : Gl X "all" := by rfl) (he : starEach [e] X.env = (false, eval e X.env) :: starEach [] X.env := by rfl) : Se X E (.Call (.Name "all" p0) [e] [] pos) (allS f) := .mk fun env mem P h =>
  ev_all hc hm ((se_rd1 (α := Rs) ha h).mono fun r m ⟨d, e1, q⟩ => ⟨d, e1, sat_blsR q⟩) hg he
theorem se_list (hm : X.mg "list" = none) (ha : Se X E e f) (hg : Gl X "list" := by rfl) (he : starEach [e] X.env = (false, eval e X.env) :: starEach [] X.env := by rfl) : Se X E (.Call (.Name "list" p0) [e] [] pos) (listS f) := .mk fun env mem P h =>
  ev_list hm ((se_rd1 (α := Rs) ha h).mono fun r m ⟨d, e1, q⟩ => ⟨d, e1, sat_optR q⟩) hg he
theorem se_tupleOf (hm : X.mg "tuple" = none) (ha : Se X E e f) (hg : Gl X "tuple" := by rfl) (he : starEach [e] X.env = (false, eval e X.env) :: starEach [] X.env := by rfl) : Se X E (.Call (.Name "tuple" p0) [e] [] pos) (tupleS f) := .mk fun env mem P h =>
  ev_tupleOf hm ((se_rd1 (α := Rs) ha h).mono fun r m ⟨d, e1, q⟩ => ⟨d, e1, sat_optR q⟩) hg he
theorem se_isi {y : Str} {T : String} {g : D → Bool} {p1 : Pos} (I : IsT T g) (hv : bootBuiltins y = some (.type T)) (hm : X.mg "isinstance" = none) (hm2 : X.mg y = none) (ha : Se X E e f)
    (hg : Gl X "isinstance" := by rfl) (hg2 : Gl X y := by rfl) (hn2 : y ≠ "__name__" := by decide) (hd2 : (y == ("__debug__" : Str)) = false := by decide)
    (he : starEach [e, .Name y p1] X.env = (false, eval e X.env) :: starEach [.Name y p1] X.env := by rfl) (he2 : starEach [.Name y p1] X.env = (false, eval (.Name y p1) X.env) :: starEach [] X.env := by rfl) (hpl : (backTo pos (starEach [.Name y p1] X.env)).any (·.1) = false := by rfl) :
    Se X E (.Call (.Name "isinstance" p0) [e, .Name y p1] [] pos) (isiS g f) := .mk fun env mem P h =>
  ev_isi I hv hm hm2 ((se_rd1 (α := Rs) ha h).mono fun r m ⟨d, e1, q⟩ => ⟨d, e1, sat_if q⟩) hg hg2 hn2 hd2 he he2 hpl
theorem se_isi2 {y z : Str} {T U : String} {g g2 : D → Bool} {p1 p2 p3 : Pos} {k0 : Nat} (I : IsT T g) (J : IsT U g2) (hv : bootBuiltins y = some (.type T)) (hw : bootBuiltins z = some (.type U)) (hm : X.mg "isinstance" = none) (hm2 : X.mg y = none) (hm3 : X.mg z = none) (ha : Se X E e f)
    (hg : Gl X "isinstance" := by rfl) (hg2 : Gl X y := by rfl) (hg3 : Gl X z := by rfl) (hn2 : y ≠ "__name__" := by decide) (hd2 : (y == ("__debug__" : Str)) = false := by decide) (hn3 : z ≠ "__name__" := by decide) (hd3 : (z == ("__debug__" : Str)) = false := by decide)
    (he : starEach [e, .Tuple [.Name y p1, .Name z p2] k0 p3] X.env = (false, eval e X.env) :: starEach [.Tuple [.Name y p1, .Name z p2] k0 p3] X.env := by rfl) (he2 : starEach [.Tuple [.Name y p1, .Name z p2] k0 p3] X.env = (false, eval (.Tuple [.Name y p1, .Name z p2] k0 p3) X.env) :: starEach [] X.env := by rfl)
    (hpl : (backTo pos (starEach [.Tuple [.Name y p1, .Name z p2] k0 p3] X.env)).any (·.1) = false := by rfl) (he3 : starEach [.Name y p1, .Name z p2] X.env = (false, eval (.Name y p1) X.env) :: starEach [.Name z p2] X.env := by rfl) (he4 : starEach [.Name z p2] X.env = (false, eval (.Name z p2) X.env) :: starEach [] X.env := by rfl) :
    Se X E (.Call (.Name "isinstance" p0) [e, .Tuple [.Name y p1, .Name z p2] k0 p3] [] pos) (isi2S g g2 f) := .mk fun env mem P h =>
  ev_isi2 I J hv hw hm hm2 hm3 ((se_rd1 (α := Rs) ha h).mono fun r m ⟨d, e1, q⟩ => ⟨d, e1, sat_if q⟩) hg hg2 hg3 hn2 hd2 hn3 hd3 he he2 hpl he3 he4
/-! ### methods of lists -/
theorem frz_one {s : Sl} {m m3 : Mem} {q : List D} (h : frz [s] m = some (q, m3)) : ∃ d, q = [d] := by
  cases s with
  | v d => cases h; exact ⟨d, rfl⟩
  | loc n =>
    unfold frz at h
    split at h
    · cases h; exact ⟨_, rfl⟩
    · cases h
theorem se_append (ha : Se X E o f1) (hb : Se X E e f2)
    (hbase : attributeBase o "append" X.env (eval o X.env) = eval o X.env := by rfl)
    (hfew : ((backTo pos (starEach [e] X.env)).all (fun x => !x.1) && (backToKw pos (keywordEach [] X.env)).all (fun x => x.1.isSome) && decide ([e].length + ([] : List Keyword).length + (if ([] : List Keyword).isEmpty then 0 else 1) < 30)) = true := by rfl)
    (hline : (apos.endLine == pos.line) = true := by rfl) (hs : starEach [e] X.env = (false, eval e X.env) :: starEach [] X.env := by rfl) (hpl : (backTo pos (starEach [] X.env)).any (·.1) = false := by rfl) : Se X E (.Call (.Attribute o "append" apos) [e] [] pos) (appendS f1 f2) := .mk fun env mem P h => by
  refine ev_append ((ha env mem _ (sat_bd h)).mono fun r m q => ?_) hbase hfew hline hs hpl
  obtain ⟨n, ds0, rfl, hc, q1⟩ := sat_cellR q
  refine ⟨n, ds0, rfl, hc, (hb env m _ (sat_bd q1)).mono fun r2 m2 q2 => ?_⟩
  obtain ⟨q3, m3, e1, q4⟩ := sat_frzR q2
  obtain ⟨n', ds, en, hc2, q5⟩ := sat_cellR q4
  cases en
  obtain ⟨d, rfl⟩ := frz_one e1
  obtain ⟨h1, h2⟩ := sat_if q5
  exact ⟨ds, d, m3, e1, hc2, h1, h2⟩
theorem se_popAt (ha : Se X E o f1) (hb : Se X E e f2)
    (hbase : attributeBase o "pop" X.env (eval o X.env) = eval o X.env := by rfl)
    (hfew : ((backTo pos (starEach [e] X.env)).all (fun x => !x.1) && (backToKw pos (keywordEach [] X.env)).all (fun x => x.1.isSome) && decide ([e].length + ([] : List Keyword).length + (if ([] : List Keyword).isEmpty then 0 else 1) < 30)) = true := by rfl)
    (hline : (apos.endLine == pos.line) = true := by rfl) (hs : starEach [e] X.env = (false, eval e X.env) :: starEach [] X.env := by rfl) (hpl : (backTo pos (starEach [] X.env)).any (·.1) = false := by rfl) : Se X E (.Call (.Attribute o "pop" apos) [e] [] pos) (popAtS f1 f2) := .mk fun env mem P h => by
  refine ev_popAt ((ha env mem _ (sat_bd h)).mono fun r m q => ?_) hbase hfew hline hs hpl
  obtain ⟨n, ds0, rfl, hc, q1⟩ := sat_cellR q
  refine ⟨n, ds0, rfl, hc, (hb env m _ (sat_bd q1)).mono fun r2 m2 q2 => ?_⟩
  obtain ⟨x, e1, q3⟩ := sat_rdR q2
  cases x <;> try exact q3.elim
  obtain ⟨n', ds, en, hc2, q5⟩ := sat_cellR q3
  cases en
  obtain ⟨⟨h1, h2⟩, q6⟩ := sat_if q5
  obtain ⟨kk, e2, q7⟩ := sat_optR q6
  obtain ⟨d, e3, q8⟩ := sat_optR q7
  exact ⟨_, e1, _, ds, kk, d, rfl, hc2, h1, h2, e2, e3, q8⟩
theorem se_insert (ha : Se X E o f1) (hb : Sa X E [e, b] fa)
    (hbase : attributeBase o "insert" X.env (eval o X.env) = eval o X.env := by rfl)
    (hfew : ((backTo pos (starEach [e, b] X.env)).all (fun x => !x.1) && (backToKw pos (keywordEach [] X.env)).all (fun x => x.1.isSome) && decide ([e, b].length + ([] : List Keyword).length + (if ([] : List Keyword).isEmpty then 0 else 1) < 30)) = true := by rfl)
    (hline : (apos.endLine == pos.line) = true := by rfl) (hs : starEach [e, b] X.env = (false, eval e X.env) :: starEach [b] X.env := by rfl) (hpl : (backTo pos (starEach [b] X.env)).any (·.1) = false := by rfl) : Se X E (.Call (.Attribute o "insert" apos) [e, b] [] pos) (insertS f1 fa) := .mk fun env mem P h => by
  refine ev_insert ((ha env mem _ (sat_bd h)).mono fun r m q => ?_) hbase hfew hline hs hpl
  obtain ⟨n, ds0, rfl, hc, q1⟩ := sat_cellR q
  refine ⟨n, ds0, rfl, hc, (hb env m _ (sat_bd q1)).mono fun rs m2 q2 => ?_⟩
  split at q2
  · rename_i i s
    obtain ⟨q3, m3, e1, q4⟩ := sat_frzR q2
    obtain ⟨n', ds, en, hc2, q5⟩ := sat_cellR q4
    cases en
    obtain ⟨d, rfl⟩ := frz_one e1
    obtain ⟨⟨h1, h2, h3⟩, h4⟩ := sat_if q5
    exact ⟨i, s, ds, d, m3, rfl, e1, hc2, h1, h2, h3, h4⟩
  · exact q2.elim
end
end Dl
/-! Dl11: the walk follows: calls, what is walked, comprehensions, statements, defs. -/
namespace Dl
open PySem PySem.Spec PyProof.Rows L2 RZ
abbrev Fd := List Sl → Mem → Rg Rs
/-- the cells among the arguments, each once -/
def locs : List Sl → List Nat
  | [] => []
  | .v _ :: r => locs r
  | .loc i :: r => i :: (locs r).filter (· != i)
theorem locs_nodup : ∀ rs : List Sl, (locs rs).Nodup
  | [] => List.nodup_nil
  | .v _ :: r => locs_nodup r
  | .loc i :: r => List.nodup_cons.mpr ⟨fun h => by
      have := (List.mem_filter.mp h).2
      simp at this, (locs_nodup r).filter _⟩
/-- a call: the cells among its arguments are handed on -/
def callS (n : Nat) (F : Fd) (a : Fa) : Fe := fun env m => (a env m).bd fun rs m1 => optR (renO (locs rs) rs) fun ss => optR (pickO m1 (locs rs)) fun cs => if ss.length = n then (match F ss cs with
    | .ok r m2 => if nloc r then .ok r (wb m1 (locs rs) m2) else .no
    | .ex c fs m2 => .ex c fs (wb m1 (locs rs) m2)
    | .no => .no) else .no
/-- where nothing may be let out -/
def Rg.nx {α : Type} : Rg α → Rg α
  | .ok a m => .ok a m
  | _ => .no
theorem sat_nx {α : Type} {E : XE} {x : Rg α} {P : α → Mem → Prop} (h : x.nx.sat E P) : x.sat xNo P := by
  cases x with
  | ok a m => exact h
  | ex c fs m => exact h.elim
  | no => exact h.elim
theorem Rg.sat.mono2 {α : Type} {E E' : XE} {x : Rg α} {P P' : α → Mem → Prop} (h : x.sat E P) (hp : ∀ a m, P a m → P' a m) (he : ∀ c fs m, E c fs m → E' c fs m) : x.sat E' P' := by
  cases x with
  | ok a m => exact hp _ _ h
  | ex c fs m => exact he _ _ _ h
  | no => exact h
/-- the promise of a def by its function -/
def FR (F : Fd) : FS := fun rs m Q W => (F rs m).sat W Q
theorem FR.mono (F : Fd) : monoF (FR F) := fun rs m Q Q' W W' h h' q => Rg.sat.mono2 q h h'
section
variable {X : Dx} {E : XE} {a b c e o it : Expr} {es rest : List Expr} {pos p p0 p2 apos : Pos} {f f1 f2 f3 : Fe} {t t1 t2 : Ft} {fa : Fa} {fo fo2 : Fo} {x : Str} {j n : Nat} {F : Fd}
theorem se_call (tk : Tk X E) (hF : HasF X.prog X.w X.K X.mg X.T X.base x j n (FR F)) (hr : Room j X.A) (ha : Sa X E (e :: es) fa)
    (hg : Gl X x := by rfl) (hdb : (x == ("__debug__" : Str)) = false := by decide) (he : starEach (e :: es) X.env = (false, eval e X.env) :: starEach es X.env := by rfl) (hpl : (backTo pos (starEach es X.env)).any (·.1) = false := by rfl) : Se X E (.Call (.Name x p0) (e :: es) [] pos) (callS n F fa) := .mk fun env mem P h => by
  refine ev_callX tk hF hr (FR.mono F) ((ha env mem _ (sat_bd h)).mono fun rs m q => ?_) hg hdb he hpl
  obtain ⟨ss, e1, q1⟩ := sat_optR q
  obtain ⟨cs, e2, q2⟩ := sat_optR q1
  obtain ⟨e3, q3⟩ := sat_if q2
  refine ⟨locs rs, locs_nodup rs, ss, cs, e1, e2, e3, ?_⟩
  unfold FR
  cases hR : F ss cs with
  | ok r m2 => rw [hR] at q3; exact sat_if q3
  | ex k fs m2 => rw [hR] at q3; exact q3
  | no => rw [hR] at q3; exact q3.elim
end
/-! ### what is walked -/
section
variable {X : Dx} {E : XE} {tg a b c e o it : Expr} {es rest : List Expr} {pos p p0 p2 apos : Pos} {f f1 f2 f3 : Fe} {t t1 t2 : Ft} {fa : Fa} {fo fo2 : Fo} {fi : Fi} {x : Str} {env : Envt} {mem : Mem} {P : List D → Mem → Prop}
theorem iv_seq (h : EV X it env mem fun r m => ∃ ds, (unl r = .v (.lst ds) ∨ r = .v (.tup ds)) ∧ P ds m) : IV X tg it env mem P := fun as G σ H k pins s I => by
  refine thn (h as G σ H k pins s I) ?_
  rintro v s1 ⟨v1, H1, I1, rv1, as1, G1, m1, r1, x1, k1, ro1, f1, ds, er, h1⟩
  rcases er with er | er
  · obtain ⟨G2, x2, k2, rs2⟩ := learn_post k.iv x1 k1 ro1 f1
    rw [er] at rs2
    cases (show Rep _ _ _ (.lst ds) from rs2) with
    | @lst a vs _ hq rp =>
      cases rv1
      have sq : SqL X.K H1 a vs := (k2.mm.sub.sqL hq)
      obtain ⟨its, _, hp, _⟩ := I1.list sq
      have fpk : ∀ b ∈ [s1.heap.objs.size], FpOk X pins H1 b := fun b hb => by
        rw [List.mem_singleton.mp hb]
        exact I1.fpOk (Nat.le_refl _) (I1.hok.fresh (Nat.le_refl _))
      have dw : DWalk (Cx.cn X) (Itl X.K a) G2 ds := by
        unfold DWalk
        rw [← rp.length]
        exact walk_list.mono (fun H' s => s.sqL hq) fun i H' x H'' hi s y => (rp.getV y.2).elim fun d hd => ⟨d, hd.1, .inl ⟨y.1, hd.2⟩⟩
      exact wpAny_pyIter_list hp.isList ⟨_, _, _, _, H1, rfl, Inv.kept (t' := s1.toks) I1 fun b o z => Heap.get?_push_of_some _ z, turn_list a _, ⟨_, Heap.get?_push_size _ rfl, rfl, rfl⟩, fpk, as1, G2, m1, ds, x2, k2, dw, h1⟩
  · subst er
    cases (show Rep _ _ _ (.tup ds) from ro1) with
    | @tup a vs _ hq rp =>
      cases rv1
      have sq : SqT X.K H1 a vs := k1.mm.sub.sqT hq
      obtain ⟨its, _, hp, _⟩ := I1.tuple sq
      have fpk : ∀ b ∈ [s1.heap.objs.size], FpOk X pins H1 b := fun b hb => by
        rw [List.mem_singleton.mp hb]
        exact I1.fpOk (Nat.le_refl _) (I1.hok.fresh (Nat.le_refl _))
      have dw : DWalk (Cx.cn X) (Itt X.K a) G1 ds := by
        unfold DWalk
        rw [← rp.length]
        exact walk_tup.mono (fun H' s => s.sqT hq) fun i H' x H'' hi s y => (rp.getV y.2).elim fun d hd => ⟨d, hd.1, .inl ⟨y.1, hd.2⟩⟩
      exact wpAny_pyIter_tuple (show s1.heap.IsTuple a its.toArray from hp) ⟨_, _, _, _, H1, rfl, Inv.kept (t' := s1.toks) I1 fun b o z => Heap.get?_push_of_some _ z, turn_tuple a _, ⟨_, Heap.get?_push_size _ rfl, rfl, rfl⟩, fpk, as1, G1, m1, ds, x1, k1, dw, h1⟩
def seqR (r : Rs) (m : Mem) : Rg (List D) := match unl r with
  | .v (.lst ds) => .ok ds m
  | .v (.tup ds) => .ok ds m
  | _ => .no
def itS (a : Fe) : Fi := fun env m => (a env m).bd seqR
theorem si_seq (ha : Se X E it f) : Si X E tg it (itS f) := .mk fun env mem P h => iv_seq ((ha env mem _ (sat_bd h)).mono fun r m q => by
  unfold seqR at q
  cases r with
  | v d => cases d <;> first | exact ⟨_, .inl rfl, q⟩ | exact ⟨_, .inr rfl, q⟩ | exact q.elim
  | nl ds => exact ⟨_, .inl rfl, q⟩
  | loc n => exact q.elim)
def range1S (a : Fe) : Fi := rd1S a fun d m => match d with
  | .int j => if -(2 ^ 62) ≤ j ∧ j < 2 ^ 62 then .ok (rgD 0 j.toNat) m else .no
  | _ => .no
def range2S (a b : Fe) : Fi := rd2S a b fun x y m => match x, y with
  | .int i, .int j => if -(2 ^ 62) ≤ i ∧ i < 2 ^ 62 ∧ -(2 ^ 62) ≤ j ∧ j < 2 ^ 62 then .ok (rgD i (j - i).toNat) m else .no
  | _, _ => .no
theorem si_range1 (hm : X.mg "range" = none) (ha : Se X E a f) (hg : Gl X "range" := by rfl) (hs1 : starEach [a] X.env = [(false, eval a X.env)] := by rfl) (hs2 : starEach [a] X.env = (false, eval a X.env) :: starEach [] X.env := by rfl) : Si X E tg (.Call (.Name "range" p) [a] [] p2) (range1S f) := .mk fun env mem P h =>
  iv_range1 hm ((ha env mem _ (sat_bd h)).mono fun r m q => by
    obtain ⟨d, e1, q1⟩ := sat_rdR q
    cases d <;> try exact q1.elim
    obtain ⟨⟨h1, h2⟩, h3⟩ := sat_if q1
    exact ⟨_, e1, _, rfl, h1, h2, h3⟩) hg hs1 hs2
theorem si_range2 (hm : X.mg "range" = none) (ha : Se X E a f1) (hb : Se X E b f2) (hg : Gl X "range" := by rfl)
    (hs1 : starEach [a, b] X.env = [(false, eval a X.env), (false, eval b X.env)] := by rfl) (hs2 : starEach [b] X.env = [(false, eval b X.env)] := by rfl) (hs3 : starEach [a, b] X.env = (false, eval a X.env) :: starEach [b] X.env := by rfl) (hs4 : starEach [b] X.env = (false, eval b X.env) :: starEach [] X.env := by rfl) : Si X E tg (.Call (.Name "range" p) [a, b] [] p2) (range2S f1 f2) := .mk fun env mem P h =>
  iv_range2 hm ((se_rd2 ha hb h).mono fun r m q => q.mono fun r2 m2 ⟨x, y, e1, e2, q⟩ => by
    cases x <;> try exact q.elim
    cases y <;> try exact q.elim
    obtain ⟨h1, h2⟩ := sat_if q
    exact ⟨_, _, e1, e2, _, _, rfl, rfl, h1, h2⟩) hg hs1 hs2 hs3 hs4
def pairD (ds es : List D) : List D := (ds.zip es).map fun p => .tup [p.1, p.2]
def zipR (rs : List Sl) (m : Mem) : Rg (List D) := match rs with
  | [.v (.lst ds), .v (.lst es)] => .ok (pairD ds es) m
  | [.v (.tup ds), .v (.tup es)] => .ok (pairD ds es) m
  | _ => .no
def zipS (a : Fa) : Fi := fun env m => (a env m).bd zipR
theorem walk_zT {K : PySem.W.Frag} {a b : Addr} {xs ys : List V} : Walk (ItzT K a b) (min xs.length ys.length) (fun H => SqT K H a xs ∧ SqT K H b ys) (YPair (fun i => xs[i]?) (fun i => ys[i]?)) := by
  refine ⟨?_, ?_, ?_⟩
  · intro i H hi q
    rw [Nat.lt_min] at hi
    exact ⟨xs, ys, xs[i]'hi.1, ys[i]'hi.2, q.1, q.2, List.getElem?_eq_getElem hi.1, List.getElem?_eq_getElem hi.2⟩
  · intro H q
    refine ⟨xs, ys, q.1, q.2, ?_⟩
    rcases Nat.le_total xs.length ys.length with z | z
    · exact .inl (by rw [Nat.min_eq_left z]; exact Nat.le_refl _)
    · exact .inr (by rw [Nat.min_eq_right z]; exact Nat.le_refl _)
  · rintro i H v H' _ ⟨q1, q2⟩ ⟨T, x, z, h1, h2, h3, h4, h5⟩
    exact ⟨T, x, z, h1, h2, h3, h4 _ q1, h5 _ q2⟩
theorem si_zip {tpos : Pos} {elts : List Expr} {kk : Nat} (hm : X.mg "zip" = none) (ha : Sa X E [a, b] fa) (hg : Gl X "zip" := by rfl)
    (hs : starEach [a, b] X.env = (false, eval a X.env) :: starEach [b] X.env := by rfl) (hpl : (backTo p2 (starEach [b] X.env)).any (·.1) = false := by rfl) : Si X E (.Tuple elts kk tpos) (.Call (.Name "zip" p) [a, b] [] p2) (zipS fa) := .mk fun env mem P h => fun as G σ H k => by
  refine IW.of (pi_zipA hg hm (pa_aw X [a, b]) hs hpl) (AW.mono (ha env mem _ (sat_bd h) as G σ H k) ?_)
  rintro vs H1 ⟨as1, G1, m1, rs, x1, k1, ro, q⟩
  unfold zipR at q
  split at q
  · rename_i ds es
    cases ro with
    | cons q1 q2 =>
      cases q2 with
      | cons q3 q4 =>
        cases q4
        cases (show Rep _ _ _ (.lst ds) from q1) with
        | @lst a1 xs _ hx rx =>
          cases (show Rep _ _ _ (.lst es) from q3) with
          | @lst b1 ys _ hy ry => exact ⟨a1, b1, xs, ys, rfl, .inl ⟨(k1.mm.sub.sqL hx), (k1.mm.sub.sqL hy), as1, G1, m1, _, x1, k1, zipL rx ry X.K a1 b1 _ ((walk_zip rfl).mono (fun H s => ⟨s.sqL hx, s.sqL hy⟩) fun _ _ _ _ _ _ y => y), q⟩⟩
  · rename_i ds es
    cases ro with
    | cons q1 q2 =>
      cases q2 with
      | cons q3 q4 =>
        cases q4
        cases (show Rep _ _ _ (.tup ds) from q1) with
        | @tup a1 xs _ hx rx =>
          cases (show Rep _ _ _ (.tup es) from q3) with
          | @tup b1 ys _ hy ry => exact ⟨a1, b1, xs, ys, rfl, .inr ⟨k1.mm.sub.sqT hx, k1.mm.sub.sqT hy, as1, G1, m1, _, x1, k1, zipL rx ry X.K a1 b1 _ (walk_zT.mono (fun H s => ⟨s.sqT hx, s.sqT hy⟩) fun _ _ _ _ _ _ y => y), q⟩⟩
  · exact q.elim
def enumD (ds : List D) : List D := ds.zipIdx.map fun p => .tup [.int (p.2 : Int), p.1]
def enumS (a : Fe) : Fi := fun env m => (a env m).bd fun r m1 => match unl r with
  | .v (.lst ds) => .ok (enumD ds) m1
  | _ => .no
theorem si_enum {tpos : Pos} {elts : List Expr} {kk : Nat} (hm : X.mg "enumerate" = none) (ha : Se X E a f) (hg : Gl X "enumerate" := by rfl) (hs : starEach [a] X.env = [(false, eval a X.env)] := by rfl) (hs2 : starEach [a] X.env = (false, eval a X.env) :: starEach [] X.env := by rfl) : Si X E (.Tuple elts kk tpos) (.Call (.Name "enumerate" p) [a] [] p2) (enumS f) := .mk fun env mem P h =>
  iv_enum hm ((ha env mem _ (sat_bd h)).mono fun r m q => by
    cases r with
    | v d => cases d <;> first | exact ⟨_, rfl, q⟩ | exact q.elim
    | nl ds => exact ⟨_, rfl, q⟩
    | loc n => exact q.elim) hg hs hs2
/-! ### comprehensions -/
def noIf : Ft := fun _ m => .ok true m
def lcGo (t : Tg) (vs : List Nat) (env0 : Envt) (ifs : Ft) (elt : Fe) : List D → List D → Mem → Rg (List D)
  | [], acc, m => .ok acc m
  | d :: ds, acc, m => optR (t.put (wipeE env0 vs) d) fun e => (ifs e m).nx.bd fun b m2 => if b = true then
      (elt e m2).nx.bd fun r m3 => frzR [unl r] m3 fun q m4 => match q with
        | [y] => if acc.length < sizeLine then lcGo t vs env0 ifs elt ds (acc ++ [y]) m4 else .no
        | _ => .no
    else lcGo t vs env0 ifs elt ds acc m2
def lcS (t : Tg) (vs : List Nat) (ifs : Ft) (elt : Fe) (it : Fi) : Fe := fun env m => (it env m).bd fun ds m1 => (lcGo t vs env ifs elt ds [] m1).bd fun acc m2 => .ok (.nl acc) m2
def Sts (X : Dx) (E : XE) (cs : List Expr) (f : Ft) : Prop := ∀ env mem P, (f env mem).sat E P → TsV X env mem P cs
theorem sts_nil : Sts X E [] noIf := fun env mem P h => h
theorem sts_one (h : St X E c t) : Sts X E [c] t := fun env mem P q => h env mem P q
theorem lc_cv {elt : Expr} {ifs : List Expr} {scope : Scope} {tt : Ft} {fe : Fe} (ty : Tg) (vs : List Nat) (env0 : Envt) (hi : ∀ s H C cl fp, Sts (BX X scope s H C cl fp) xNo ifs tt) (he : ∀ s H C cl fp, Se (BX X scope s H C cl fp) xNo elt fe) {Kc : List D → Mem → Prop} :
    ∀ (ds acc : List D) (m : Mem), (lcGo ty vs env0 tt fe ds acc m).sat E Kc → CV X ty elt ifs scope vs env0 Kc ds acc m
  | [], acc, m, h => h
  | d :: ds, acc, m, h => by
    obtain ⟨e, e1, q⟩ := sat_optR h
    refine ⟨e, e1, _, fun s H C cl fp => hi s H C cl fp e m _ (sat_nx (sat_bd q)), fun b m2 r => ?_⟩
    refine cond_imp (sat_ite r) (fun q1 => ?_) fun q1 => lc_cv ty vs env0 hi he ds acc m2 q1
    intro s H C cl fp
    refine (he s H C cl fp e m2 _ (sat_nx (sat_bd q1))).mono fun r3 m3 q2 => ?_
    obtain ⟨q3, m4, e2, q4⟩ := sat_frzR q2
    obtain ⟨y, rfl⟩ := frz_one e2
    obtain ⟨h1, h2⟩ := sat_if q4
    exact ⟨y, m4, e2, h1, lc_cv ty vs env0 hi he ds _ m4 h2⟩
theorem IV.mono {P' : List D → Mem → Prop} (h : IV X tg it env mem P) (hp : ∀ ds m, P ds m → P' ds m) : IV X tg it env mem P' := fun as G σ H k => IW.mono (h as G σ H k) fun J H' ⟨as', G', m', ds, x, k', w, p⟩ => ⟨as', G', m', ds, x, k', w, hp ds m' p⟩
theorem se_lc {elt : Expr} {ifs : List Expr} {scope : Scope} {tt : Ft} {fe : Fe} (ty : Tg) (own : List (Str × Nat)) (hc : X.calm = true) (hN : X.N.Nodup) (hv : ∀ i ∈ ty.vs, i ∈ own.map (·.2)) (hit : Si X E tg it fi) (hi : ∀ s H C cl fp, Sts (BX X scope s H C cl fp) xNo ifs tt) (he : ∀ s H C cl fp, Se (BX X scope s H C cl fp) xNo elt fe)
    (ok : BlkOk X.N X.env.scope scope own) (hg : ∀ s H C cl fp, PG (BX X scope s H C cl fp) tg (ty.g X.K)) (hs : ∀ x, foldedSetIterable it X.env x = pure x := by intro _; rfl) : Se X E (.ListComp elt [⟨tg, it, ifs, 0⟩] scope pos) (lcS ty (own.map (·.2)) tt fe fi) := .mk fun env mem P h =>
  ev_lc ty own hc hN hv (IV.mono (hit env mem _ (sat_bd h)) fun ds m q => lc_cv ty _ env hi he ds [] m (sat_bd q)) ok hg hs
end
end Dl
/-! Dl12: the walk follows: statements, loops, defs. -/
namespace Dl
open PySem PySem.Spec PyProof.Rows L2
/-- no comprehension -/
def isLC : Expr → Bool
  | .ListComp _ _ _ _ => true
  | .SetComp _ _ _ _ => true
  | .DictComp _ _ _ _ _ => true
  | _ => false
theorem sw_nc {e : Expr} {t : Option Expr} {l : Nat} {env : Env} (h : isLC e = false) : swapsWith e t l env = pure false := by cases e <;> first | rfl | cases h
theorem sws_nc {e tg : Expr} {l : Nat} {env : Env} (h : isLC e = false) : swapsWithSole [tg] e l env = pure false := sw_nc h
/-- what comes of a statement -/
inductive Oc where
  | nx (e : Envt) (m : Mem) | rt (r : Rs) (m : Mem) | bk (e : Envt) (m : Mem) | ct (e : Envt) (m : Mem) | ex (c : Str) (fs : List (Str × D)) (m : Mem) | no
def Oc.sat (E : XE) (K : Ks) : Oc → Prop
  | .nx e m => K.nx e m
  | .rt r m => K.rt r m
  | .bk e m => K.bk e m
  | .ct e m => K.ct e m
  | .ex c fs m => E c fs m
  | .no => False
def Oc.bd : Oc → (Envt → Mem → Oc) → Oc
  | .nx e m, f => f e m
  | .rt r m, _ => .rt r m
  | .bk e m, _ => .bk e m
  | .ct e m, _ => .ct e m
  | .ex c fs m, _ => .ex c fs m
  | .no, _ => .no
def Rg.to {α : Type} : Rg α → (α → Mem → Oc) → Oc
  | .ok a m, f => f a m
  | .ex c fs m, _ => .ex c fs m
  | .no, _ => .no
theorem sat_to {α : Type} {E : XE} {K : Ks} {x : Rg α} {f : α → Mem → Oc} (h : (x.to f).sat E K) : x.sat E fun a m => (f a m).sat E K := by cases x <;> exact h
theorem osat_bd {E : XE} {K : Ks} {x : Oc} {f : Envt → Mem → Oc} (h : (x.bd f).sat E K) : x.sat E { K with nx := fun e m => (f e m).sat E K } := by cases x <;> exact h
abbrev Fs := Envt → Mem → Oc
structure Ss (X : Dx) (E : XE) (st : Stmt) (g : Fs)  : Prop where
  run : ∀ env mem K, (g env mem).sat E K → SV X st env mem K
instance {X : Dx} {E : XE} {st : Stmt} {g : Fs}  : CoeFun (Ss X E st g) fun _ => ∀ env mem K, (g env mem).sat E K → SV X st env mem K := ⟨Ss.run⟩
structure Ssl (X : Dx) (E : XE) (st : List Stmt) (g : Fs)  : Prop where
  run : ∀ env mem K, (g env mem).sat E K → SVs X st env mem K
instance {X : Dx} {E : XE} {st : List Stmt} {g : Fs}  : CoeFun (Ssl X E st g) fun _ => ∀ env mem K, (g env mem).sat E K → SVs X st env mem K := ⟨Ssl.run⟩
abbrev Fg := D → Envt → Option Envt
structure Sg (X : Dx) (tg : Expr) (g : Fg)  : Prop where
  run : ∀ d env mem P e, g d env = some e → P e mem → GV X tg (.v d) env mem P
instance {X : Dx} {tg : Expr} {g : Fg}  : CoeFun (Sg X tg g) fun _ => ∀ d env mem P e, g d env = some e → P e mem → GV X tg (.v d) env mem P := ⟨Sg.run⟩
structure Sgs (X : Dx) (tgs : List Expr) (g : List D → Envt → Option Envt)  : Prop where
  run : ∀ ds env mem P e, g ds env = some e → P e mem → GVs X tgs ds env mem P
instance {X : Dx} {tgs : List Expr} {g : List D → Envt → Option Envt}  : CoeFun (Sgs X tgs g) fun _ => ∀ ds env mem P e, g ds env = some e → P e mem → GVs X tgs ds env mem P := ⟨Sgs.run⟩
def gn (i : Nat) : Fg := fun d env => some (env.set i (some (.v d)))
def gsn : List D → Envt → Option Envt
  | [], env => some env
  | _, _ => none
def gsc (g : Fg) (gs : List D → Envt → Option Envt) : List D → Envt → Option Envt
  | d :: ds, env => (g d env).bind fun e => gs ds e
  | [], _ => none
def gt (n : Nat) (gs : List D → Envt → Option Envt) : Fg := fun d env => match d with
  | .tup ds => if ds.length = n then gs ds env else none
  | _ => none
/-! ### the functions -/
def nilB : Fs := fun e m => .nx e m
def seqB (a b : Fs) : Fs := fun e m => (a e m).bd b
def setB (i : Nat) (a : Fe) : Fs := fun env m => (a env m).to fun r m1 => .nx (env.set i (some (unl r))) m1
def newB (i : Nat) (a : Fe) : Fs := fun env m => (a env m).to fun r m1 => match r with
  | .nl ds => .nx (env.set i (some (.loc m1.length))) (m1 ++ [.lst ds])
  | _ => .no
def parB (i j : Nat) (a : Fa) : Fs := fun env m => (a env m).to fun rs m1 => match rs with
  | [s, t] => .nx ((env.set i (some s)).set j (some t)) m1
  | _ => .no
def asgB (g : Fg) (a : Fe) : Fs := fun env m => (a env m).to fun r m1 => match unl r with
  | .v d => match g d env with
    | some e => .nx e m1
    | none => .no
  | _ => .no
def itemB (o i a : Fe) : Fs := fun env m => (a env m).to fun r m1 => (o env m1).to fun ro m2 => (i env m2).to fun ri m3 => match ro, dr m3 ri with
  | .loc n, some (.int z) => match frz [unl r] m3 with
    | some ([d], m4) => match m4[n]? with
      | some (.lst ds) => match ixN ds.length z with
        | some j => .nx env (m4.set n (.lst (ds.set j d)))
        | none => .no
      | _ => .no
    | _ => .no
  | _, _ => .no
def augB (i : Nat) (p : Int → Int → Int) (a : Fe) : Fs := fun env m => match env[i]? with
  | some (some (.v (.int z))) => (a env m).to fun r m1 => match dr m1 r with
    | some (.int w) => .nx (env.set i (some (.v (.int (p z w))))) m1
    | _ => .no
  | _ => .no
def exprB (a : Fe) : Fs := fun env m => (a env m).to fun _ m1 => .nx env m1
def retB (a : Fe) : Fs := fun env m => (a env m).to fun r m1 => .rt r m1
def retNB : Fs := fun _ m => .rt (.v .non) m
def ifB (c : Ft) (a b : Fs) : Fs := fun env m => (c env m).to fun t m1 => if t = true then a env m1 else b env m1
def forGo (g : Fg) (body : Fs) : List D → Fs
  | [], e, m => .nx e m
  | d :: ds, e, m => match g d e with
    | none => .no
    | some e1 => match body e1 m with
      | .nx e2 m2 => forGo g body ds e2 m2
      | .ct e2 m2 => forGo g body ds e2 m2
      | .bk e2 m2 => .nx e2 m2
      | .rt r m2 => .rt r m2
      | .ex c fs m2 => .ex c fs m2
      | .no => .no
def forB (g : Fg) (it : Fi) (body : Fs) : Fs := fun env m => (it env m).to fun ds m1 => forGo g body ds env m1
/-- n turns at most -/
def loopN (c : Ft) (body : Fs) : Nat → Fs
  | 0, _, _ => .no
  | n + 1, e, m => (c e m).to fun t m1 => if t = true then (match body e m1 with
      | .nx e2 m2 => loopN c body n e2 m2
      | .ct e2 m2 => loopN c body n e2 m2
      | .bk e2 m2 => .nx e2 m2
      | .rt r m2 => .rt r m2
      | .ex c fs m2 => .ex c fs m2
      | .no => .no) else .nx e m1
open Classical in
noncomputable def whileB (c : Ft) (body : Fs) : Fs := fun e m => if h : ∃ n, loopN c body n e m ≠ .no then loopN c body (Classical.choose h) e m else .no
theorem loop_up {c : Ft} {body : Fs} : ∀ {n : Nat} {e : Envt} {m : Mem}, loopN c body n e m ≠ .no → ∀ k, loopN c body (n + k) e m = loopN c body n e m
  | 0, _, _, h, _ => (h rfl).elim
  | n + 1, e, m, h, k => by
    rw [show n + 1 + k = (n + k) + 1 from by omega]
    unfold loopN at h ⊢
    cases hc : c e m with
    | ok t m1 =>
      rw [hc] at h
      cases t with
      | false => rfl
      | true =>
        simp only [Rg.to, if_pos] at h ⊢
        cases hb : body e m1 with
        | nx e2 m2 => rw [hb] at h; exact loop_up h k
        | ct e2 m2 => rw [hb] at h; exact loop_up h k
        | _ => rfl
    | ex a b d => rfl
    | no => rfl
theorem while_of {c : Ft} {body : Fs} {e : Envt} {m : Mem} {o : Oc} (n : Nat) (h : loopN c body n e m = o) (ho : o ≠ .no) : whileB c body e m = o := by
  have hx : ∃ n, loopN c body n e m ≠ .no := ⟨n, by rw [h]; exact ho⟩
  unfold whileB
  rw [dif_pos hx]
  have h1 := loop_up (Classical.choose_spec hx) n
  have h2 := loop_up (n := n) (by rw [h]; exact ho) (Classical.choose hx)
  rw [Nat.add_comm] at h1
  rw [← h1, h2, h]
/-! ### the walk follows -/
section
variable {X : Dx} {E : XE} {tg a b c e o it : Expr} {tgs es : List Expr} {pos p p0 p2 apos : Pos} {f f1 f2 f3 : Fe} {t t1 t2 : Ft} {fa : Fa} {fi : Fi} {x : Str} {st : Stmt} {rest A B body : List Stmt} {g1 g2 : Fs} {g : Fg} {gs : List D → Envt → Option Envt}
theorem sb_nil : Ssl X E [] nilB := .mk fun env mem K h => svs_nil h
theorem SV.mono {env : Envt} {mem : Mem} {K K' : Ks} (h : SV X st env mem K) (h1 : ∀ e m, K.nx e m → K'.nx e m) (h2 : ∀ e m, K.rt e m → K'.rt e m) (h3 : ∀ e m, K.bk e m → K'.bk e m) (h4 : ∀ e m, K.ct e m → K'.ct e m) : SV X st env mem K' := fun as G σ H k =>
  SW.mono (D := endsOf (Cx.cn X) X.iv as G H K) (D' := endsOf (Cx.cn X) X.iv as G H K') ⟨fun _ _ ⟨a, b, c, d, x, y, z⟩ => ⟨a, b, c, d, x, y, h1 _ _ z⟩, fun _ _ ⟨a, b, c, d, x, y, z, f, w⟩ => ⟨a, b, c, d, x, y, z, f, h2 _ _ w⟩, fun _ _ ⟨a, b, c, d, x, y, z⟩ => ⟨a, b, c, d, x, y, h3 _ _ z⟩, fun _ _ ⟨a, b, c, d, x, y, z⟩ => ⟨a, b, c, d, x, y, h4 _ _ z⟩⟩ (h as G σ H k)
theorem SVs.mono {env : Envt} {mem : Mem} {K K' : Ks} (h : SVs X rest env mem K) (h1 : ∀ e m, K.nx e m → K'.nx e m) (h2 : ∀ e m, K.rt e m → K'.rt e m) (h3 : ∀ e m, K.bk e m → K'.bk e m) (h4 : ∀ e m, K.ct e m → K'.ct e m) : SVs X rest env mem K' := fun as G σ H k =>
  SWs.mono (D := endsOf (Cx.cn X) X.iv as G H K) (D' := endsOf (Cx.cn X) X.iv as G H K') ⟨fun _ _ ⟨a, b, c, d, x, y, z⟩ => ⟨a, b, c, d, x, y, h1 _ _ z⟩, fun _ _ ⟨a, b, c, d, x, y, z, f, w⟩ => ⟨a, b, c, d, x, y, z, f, h2 _ _ w⟩, fun _ _ ⟨a, b, c, d, x, y, z⟩ => ⟨a, b, c, d, x, y, h3 _ _ z⟩, fun _ _ ⟨a, b, c, d, x, y, z⟩ => ⟨a, b, c, d, x, y, h4 _ _ z⟩⟩ (h as G σ H k)
theorem sb_cons (h : Ss X E st g1) (hr : Ssl X E rest g2) : Ssl X E (st :: rest) (seqB g1 g2) := .mk fun env mem K q =>
  svs_cons (SV.mono (h env mem _ (osat_bd q)) (fun e m z => hr e m K z) (fun _ _ z => z) (fun _ _ z => z) fun _ _ z => z)
theorem sb_one (h : Ss X E st g1) : Ssl X E [st] g1 := .mk fun env mem K q => svs_one (h env mem K q)
theorem sg_name (i : Nat) (hN : X.N.Nodup) (hi : X.N[i]? = some x := by rfl) (hx : Loc X.env.scope x := by first | exact .inl rfl | exact .inr rfl)
    (hf : X.fn x = true ∨ X.env.scope.names.lookup x = some .local := by first | exact .inl rfl | exact .inr rfl) : Sg X (.Name x pos) (gn i) := .mk fun d env mem P e h q => by
  cases h
  exact gv_name i q hN hi hx hf
theorem sgs_nil : Sgs X [] gsn := .mk fun ds env mem P e h q => by
  cases ds with
  | nil => cases h; exact gvs_nil q
  | cons d ds => cases h
theorem sgs_cons (h : Sg X tg g) (hs : Sgs X tgs gs) (he : (assignEach (tg :: tgs) X.env).map (·.2) = assign tg X.env :: (assignEach tgs X.env).map (·.2) := by rfl) : Sgs X (tg :: tgs) (gsc g gs) := .mk fun ds env mem P e q hP => by
  cases ds with
  | nil => cases q
  | cons d ds =>
    have q' : (g d env).bind (fun e => gs ds e) = some e := q
    cases hg : g d env with
    | none => rw [hg] at q'; cases q'
    | some e1 =>
      rw [hg] at q'
      exact gvs_cons (h d env mem _ e1 hg (hs ds e1 mem P e q' hP)) he
theorem sg_tup {k0 n : Nat} (hc : X.calm = true) (hs : Sgs X tgs gs) (hn : (assignEach tgs X.env).length = n := by rfl) (hst : (assignEach tgs X.env).findIdx? (·.1) = none := by rfl) : Sg X (.Tuple tgs k0 pos) (gt n gs) := .mk fun d env mem P e q hP => by
  cases d <;> try cases q
  rename_i ds
  have q' : (if ds.length = n then gs ds env else none) = some e := q
  by_cases hl : ds.length = n
  · rw [if_pos hl] at q'
    exact gv_tup hc hl (hs ds env mem P e q' hP) hn hst
  · rw [if_neg hl] at q'; cases q'
theorem ss_set (i : Nat) (ha : Se X E e f) (hN : X.N.Nodup) (hi : X.N[i]? = some x := by rfl) (hx : Loc X.env.scope x := by first | exact .inl rfl | exact .inr rfl)
    (hf : X.fn x = true ∨ X.env.scope.names.lookup x = some .local := by first | exact .inl rfl | exact .inr rfl) (hs : swapsWith e (some (.Name x p)) pos.line X.env = pure false := by first | exact sw_nc rfl | rfl) : Ss X E (.Assign [.Name x p] e pos) (setB i f) := .mk fun env mem K h =>
  sv_set i ((ha env mem _ (sat_to h)).mono fun r m q => q) hN hs hi hx hf
theorem ss_new (i : Nat) (ha : Se X E e f) (hN : X.N.Nodup) (hi : X.N[i]? = some x := by rfl) (hx : Loc X.env.scope x := by first | exact .inl rfl | exact .inr rfl)
    (hf : X.fn x = true ∨ X.env.scope.names.lookup x = some .local := by first | exact .inl rfl | exact .inr rfl) (hs : swapsWith e (some (.Name x p)) pos.line X.env = pure false := by first | exact sw_nc rfl | rfl) : Ss X E (.Assign [.Name x p] e pos) (newB i f) := .mk fun env mem K h =>
  sv_new i ((ha env mem _ (sat_to h)).mono fun r m q => by
    cases r with
    | nl ds => exact ⟨ds, rfl, q⟩
    | v d => exact q.elim
    | loc n => exact q.elim) hN hs hi hx hf
theorem ss_par (i j : Nat) {x y : Str} {px py pt : Pos} {kt k2 pt2} (ha : Sa X E [a, b] fa) (hc : X.calm = true) (hN : X.N.Nodup) (hij : i ≠ j)
    (hw : swappedStores [.Tuple [.Name x px, .Name y py] kt pt] (.Tuple [a, b] k2 pt2) X.env = pure (some [x, y])) (hi : X.N[i]? = some x := by rfl) (hj : X.N[j]? = some y := by rfl) (hx : X.env.scope.names.lookup x = some .local := by rfl) (hy : X.env.scope.names.lookup y = some .local := by rfl)
    (hs : swapsWithSole [.Tuple [.Name x px, .Name y py] kt pt] (.Tuple [a, b] k2 pt2) pos.line X.env = pure false := by rfl) : Ss X E (.Assign [.Tuple [.Name x px, .Name y py] kt pt] (.Tuple [a, b] k2 pt2) pos) (parB i j fa) := .mk fun env mem K h =>
  sv_par i j ((ha env mem _ (sat_to h)).mono fun rs m q => by
    split at q
    · exact ⟨_, _, rfl, q⟩
    · exact q.elim) hc hN hij hw hi hj hx hy hs
theorem ss_item {i : Expr} (ha : Se X E e f) (ho : Se X E o f1) (hi : Se X E i f2)
    (hx : ∀ v, assign (.Subscript o i p) X.env v = (do
      let ov ← holding [v] (eval o X.env)
      let iv ← holding [v, ov] (eval i X.env)
      standAt p
      holding [v, ov, iv] (setItem ov iv v)
      release [v, ov, iv] []) := by intro _; rfl) (hs : swapsWithSole [.Subscript o i p] e pos.line X.env = pure false := by first | exact sws_nc rfl | rfl) (hw : swappedStores [.Subscript o i p] e X.env = pure none := by rfl) (h1 : (assignEach [.Subscript o i p] X.env).map (·.2) = [assign (.Subscript o i p) X.env] := by rfl) : Ss X E (.Assign [.Subscript o i p] e pos) (itemB f1 f2 f) := .mk fun env mem K h => by
  refine sv_asg ((ha env mem _ (sat_to h)).mono fun r m q1 => gv_item ((ho env m _ (sat_to q1)).mono fun ro m2 q2 => (hi env m2 _ (sat_to q2)).mono fun ri m3 q => ?_) hx) hs hw h1
  split at q
  · rename_i n z hd
    split at q
    · rename_i d m4 hf
      split at q
      · rename_i ds hm
        split at q
        · rename_i j hj
          exact ⟨_, hd, n, z, ds, j, d, m4, rfl, rfl, hf, hm, hj, q⟩
        · exact q.elim
      · exact q.elim
    · exact q.elim
  · exact q.elim
theorem ss_expr (ha : Se X E e f) (hs : swapsWith e none pos.line X.env = pure false := by first | exact sw_nc rfl | rfl) : Ss X E (.Expr e pos) (exprB f) := .mk fun env mem K h => sv_expr ((ha env mem _ (sat_to h)).mono fun _ _ q => q) hs
theorem ss_ret (ha : Se X E e f) : Ss X E (.Return (some e) pos) (retB f) := .mk fun env mem K h => sv_ret ((ha env mem _ (sat_to h)).mono fun _ _ q => q)
theorem ss_if (hc : St X E c t) (h1 : Ssl X E A g1) (h2 : Ssl X E B g2) : Ss X E (.If c A B pos) (ifB t g1 g2) := .mk fun env mem K h =>
  sv_if ((hc env mem _ (sat_to h)).mono fun t m q => by
    cases t with
    | true => exact h1 env m K q
    | false => exact h2 env m K q)
theorem for_fv (hg : Sg X tg g) (hb : Ssl X E body g1) {K : Ks} : ∀ (ds : List D) (env : Envt) (mem : Mem), (forGo g g1 ds env mem).sat E K → FV X tg body K ds env mem
  | [], env, mem, h => h
  | d :: ds, env, mem, h => by
    unfold forGo at h
    cases q : g d env with
    | none => rw [q] at h; exact h.elim
    | some e1 =>
      rw [q] at h
      dsimp only at h
      refine hg d env mem _ e1 q (hb e1 mem _ ?_)
      cases hq : g1 e1 mem with
      | nx e2 m2 => rw [hq] at h; exact for_fv hg hb ds e2 m2 h
      | ct e2 m2 => rw [hq] at h; exact for_fv hg hb ds e2 m2 h
      | bk e2 m2 => rw [hq] at h; exact h
      | rt r m2 => rw [hq] at h; exact h
      | ex a b d => rw [hq] at h; exact h
      | no => rw [hq] at h; exact h
theorem ss_for (hp : PassesOwn (model X.prog X.w) X.A X.env X.xe) (hc : X.calm = true) (hg : Sg X tg g) (hit : Si X E tg it fi) (hb : Ssl X E body g1) (hs : ∀ x, foldedSetIterable it X.env x = pure x := by intro _; rfl) : Ss X E (.For tg it body [] pos) (forB g fi g1) := .mk fun env mem K h =>
  sv_for hp hc (IV.mono (hit env mem _ (sat_to h)) fun ds m q => for_fv hg hb ds env m q) hs
theorem ss_while (hp : PassesOwn (model X.prog X.w) X.A X.env X.xe) (hc : St X E c t) (hb : Ssl X E body g1) : Ss X E (.While c body [] pos) (whileB t g1) := .mk fun env mem K h => by
  have h0 : ∃ n, (loopN t g1 n env mem).sat E K := by
    unfold whileB at h
    split at h
    · exact ⟨_, h⟩
    · exact h.elim
  refine sv_while hp (fun n e m => (loopN t g1 n e m).sat E K) h0 fun n e m i => ?_
  cases n with
  | zero => exact i.elim
  | succ n =>
    refine (hc e m _ (sat_to i)).mono fun t1 m1 q => ?_
    cases t1 with
    | false => exact q
    | true =>
      rw [if_pos rfl] at q
      refine hb e m1 _ ?_
      cases hq : g1 e m1 with
      | nx e2 m2 => rw [hq] at q; exact ⟨n, Nat.lt_succ_self n, q⟩
      | ct e2 m2 => rw [hq] at q; exact ⟨n, Nat.lt_succ_self n, q⟩
      | bk e2 m2 => rw [hq] at q; exact q
      | rt r m2 => rw [hq] at q; exact q
      | ex a b d => rw [hq] at q; exact q
      | no => rw [hq] at q; exact q
end
/-! ### defs -/
def exitR (k0 : Nat) (r : Rs) (m : Mem) : Rg Rs := match r with
  | .v d => .ok (.v d) (m.take k0)
  | .nl ds => .ok (.nl ds) (m.take k0)
  | .loc n => if n < k0 then .ok (.loc n) (m.take k0) else match m[n]? with
    | some (.lst ds) => .ok (.nl ds) (m.take k0)
    | some (.dic ds) => .ok (.v (.dic ds)) (m.take k0)
    | _ => .no
/-- a def's function by its body's; l names -/
def defF (l : Nat) (body : Fs) : Fd := fun rs m => match body (rs.map some ++ List.replicate (l - rs.length) none) m with
  | .nx _ m1 => exitR m.length (.v .non) m1
  | .rt r m1 => exitR m.length r m1
  | .ex c fs m1 => .ex c fs (m1.take m.length)
  | _ => .no
theorem exit_sat {k0 : Nat} {Q : Rs → Mem → Prop} {r : Rs} {m : Mem} {W : XE} (h : (exitR k0 r m).sat W Q) : exitP k0 Q r m := by
  unfold exitR at h
  unfold exitP
  cases r with
  | v d => exact h
  | nl ds => exact h
  | loc n =>
    dsimp only at h ⊢
    split at h
    · rename_i hl; rw [if_pos hl]; exact h
    · rename_i hl
      rw [if_neg hl]
      split at h
      · rename_i ds hd; first | exact h | (rw [hd]; exact h)
      · rename_i ds hd; first | exact h | (rw [hd]; exact h)
      · exact h.elim
section
variable {P : Program} {w : World} {K : PySem.W.Frag} {mg : Str → Option Value} {base : Heap} {Tb : List NdefX.NTab}
theorem def_ok {x qual : Str} {st : Stmt} {f : Addr} {fd : FuncData} {N ps : List Str} {k n l : Nat} {g : Fs} (Fn : FunX K x qual st f fd) (S : FnScope N ps (defScope st)) (hn : ps.length = n) (hl : N.length = l)
    (hb : ∀ (cdv : Value) (A : Around) (outer : List Env) (s : Shared) (H : Hp) (E : XK) (I : Iv) (W : XE), Room k (A.deeper (envOfC qual (defScope st) s.heap.objs.size f cdv)) → Tk (XB P w K mg base N qual st f cdv A outer s H E I Tb) W → Ssl (XB P w K mg base N qual st f cdv A outer s H E I Tb) W (defBody st) g) :
    FnOk P w K mg base (L2.CX P w) (k + 1) f fd ps (spG ⟨K, mg, Tb, P, w⟩ n (FR (defF l g))) := by
  refine ok_def Fn S hn fun cdv A outer s H E I hr rs mem Q W hl' hF tk => ?_
  refine hb cdv A outer s H E I _ hr tk _ mem _ ?_
  unfold envOf
  rw [hl]
  unfold FR defF at hF
  cases q : g (rs.map some ++ List.replicate (l - rs.length) none) mem with
  | nx e m1 => rw [q] at hF; exact exit_sat hF
  | rt r m1 => rw [q] at hF; exact exit_sat hF
  | ex a b d => rw [q] at hF; exact hF
  | bk _ _ => rw [q] at hF; exact hF.elim
  | ct _ _ => rw [q] at hF; exact hF.elim
  | no => rw [q] at hF; exact hF.elim
theorem room_hu {k : Nat} {A : Around} (r : Room k A) : A.units + 65 < cLine := by have := r.un; omega
theorem fnok_no {f : Addr} {fd : FuncData} {ps : List Str} {j n : Nat} : FnOk P w K mg base (L2.CX P w) j f fd ps (spG ⟨K, mg, Tb, P, w⟩ n (FR fun _ _ => .no)) :=
  ⟨fun vs H Q E ⟨_, _, _, _, _, _, _, h⟩ => h.elim, fun A outer s H args us vs Q E _ _ _ _ ⟨_, _, _, _, _, _, _, h⟩ => h.elim⟩
/-- defs of a text: by name, from their promises -/
theorem hasF {x : Str} {j n : Nat} {F : Fd} {f : Addr} {fd : FuncData} {ps : List Str} (ok : FnOk P w K mg base (L2.CX P w) j f fd ps (spG ⟨K, mg, Tb, P, w⟩ n (FR F))) (hm : mg x = some (.ref f)) (hk : PySem.W.keepIn K (.ref f) = true) (hb : Binds K fd ps []) : HasF P w K mg Tb base x j n (FR F) := ⟨f, fd, ps, ok, hm, hk, hb⟩
theorem HasF.up {x : Str} {j k n : Nat} {F : FS} (h : HasF P w K mg Tb base x j n F) (le : j ≤ k) : HasF P w K mg Tb base x k n F := by
  obtain ⟨f, fd, ps, ok, a, b, c⟩ := h.ex
  exact ⟨f, fd, ps, ok.mono le, a, b, c⟩
end
end Dl
/-! Dl13: len(set(..)) of tuples of ints. -/
namespace Dl
open PySem PySem.Spec PyProof.Rows L2
def unTs : List D → Option (List (List Int))
  | [] => some []
  | .tup xs :: r => (unI xs).bind fun ns => (unTs r).map (ns :: ·)
  | _ :: _ => none
/-- each once -/
def ddL : List (List Int) → List (List Int)
  | [] => []
  | k :: ks => if k ∈ ks then ddL ks else k :: ddL ks
theorem ddL_mem : ∀ (ks : List (List Int)) (k : List Int), k ∈ ddL ks ↔ k ∈ ks
  | [], k => Iff.rfl
  | a :: ks, k => by
    unfold ddL
    split
    · rename_i h
      rw [ddL_mem ks k, List.mem_cons]
      exact ⟨.inr, fun z => z.elim (fun e => e ▸ h) id⟩
    · rw [List.mem_cons, List.mem_cons, ddL_mem ks k]
theorem ddL_nodup : ∀ ks : List (List Int), (ddL ks).Nodup
  | [] => List.nodup_nil
  | a :: ks => by
    unfold ddL
    split
    · exact ddL_nodup ks
    · rename_i h
      exact List.nodup_cons.mpr ⟨fun z => h ((ddL_mem ks a).mp z), ddL_nodup ks⟩
theorem ddL_le : ∀ ks : List (List Int), (ddL ks).length ≤ ks.length
  | [] => Nat.le_refl _
  | a :: ks => by
    have := ddL_le ks
    unfold ddL
    split <;> simp <;> omega
theorem ddL_len : ∀ ks : List (List Int), (ddL ks).length = ks.length ↔ ks.Nodup
  | [] => by simp [ddL]
  | a :: ks => by
    have := ddL_le ks
    have ih := ddL_len ks
    unfold ddL
    split
    · rename_i h
      simp only [List.length_cons, List.nodup_cons]
      exact ⟨fun e => by omega, fun z => (z.1 h).elim⟩
    · rename_i h
      simp only [List.length_cons, List.nodup_cons, Nat.add_right_cancel_iff]
      exact ⟨fun e => ⟨h, ih.mp e⟩, fun z => ih.mpr z.2⟩
theorem ddL_eq {ks ls : List (List Int)} (nd : ls.Nodup) (h : ∀ k, k ∈ ls ↔ k ∈ ks) : ls.length = (ddL ks).length :=
  ((List.perm_ext_iff_of_nodup nd (ddL_nodup ks)).mpr fun k => (h k).trans (ddL_mem ks k).symm).length_eq
def lenSetS (a : Fe) : Fe := rd1S a fun d m => optR (seqD d) fun ds => optR (unTs ds) fun ks => if ks.length < 64 then .ok (.v (.int ((ddL ks).length : Nat))) m else .no
theorem reps_unTs {C : Cn} {G : Hp} : ∀ {vs : List V} {ds : List D} {ks : List (List Int)}, Reps C G vs ds → unTs ds = some ks → ∃ ps : List (Addr × List Int), vs = ps.map (fun p => V.ref p.1) ∧ ps.map (·.2) = ks ∧ ∀ p ∈ ps, SqT C.K G p.1 (p.2.map V.int)
  | _, [], _, .nil, h => by cases h; exact ⟨[], rfl, rfl, fun _ z => nomatch z⟩
  | _, d :: ds, ks, .cons r rr, h => by
    cases d <;> try cases h
    rename_i xs
    rw [unTs] at h
    cases q1 : unI xs with
    | none => rw [q1] at h; cases h
    | some ns =>
      cases q2 : unTs ds with
      | none => rw [q1, q2] at h; cases h
      | some ts =>
        rw [q1, q2] at h
        cases h
        obtain ⟨ps, e1, e2, e3⟩ := reps_unTs rr q2
        cases r with
        | @tup a ws _ hq rp =>
          have := unI_eq q1
          subst this
          rw [reps_int rp] at hq
          refine ⟨(a, ns) :: ps, by rw [e1]; rfl, by rw [List.map_cons, e2], fun p hp => ?_⟩
          rcases List.mem_cons.mp hp with rfl | hp
          · exact hq
          · exact e3 p hp
section
variable {X : Dx} {E : XE} {e : Expr} {p0 p1 pos pos2 : Pos} {f : Fe}
theorem se_lenSet (hc : X.calm = true) (hu : X.A.units + 65 < cLine) (hm : X.mg "len" = none) (hm2 : X.mg "set" = none) (ha : Se X E e f) (hg : Gl X "len" := by rfl) (hg2 : Gl X "set" := by rfl) (na : starEach [e] X.env = (false, eval e X.env) :: starEach [] X.env := by rfl) :
    Se X E (.Call (.Name "len" p0) [.Call (.Name "set" p1) [e] [] pos2] [] pos) (lenSetS f) := .mk fun env mem P h => fun as G σ H k pins s I => by
  refine Call_ (ld_blt I hg hm PySem.boot_len ?_)
  refine PyProof.Rows.callWith_builtin1 (PyProof.Rows.args_cons ?_ rfl) rfl rfl
  refine Call_ (ld_blt I hg2 hm2 PyProof.Rows.boot_set ?_)
  refine PyProof.Rows.callWith_type1 (PyProof.Rows.args_cons (thn (se_rd1 (α := Rs) ha h as G σ H k pins s I) ?_) na) na rfl
  rintro v s1 ⟨x, H1, I1, r1, as1, G1, m1, rr, x1, k1, ro, fr, d, e1, hq⟩
  refine PyProof.Rows.args_nil ?_
  obtain ⟨ds, e2, q2⟩ := sat_optR hq
  obtain ⟨ks, e3, q3⟩ := sat_optR q2
  obtain ⟨h64, hP⟩ := sat_if q3
  have fin : ∀ (ps : List (Addr × List Int)) (h' : Heap) (tk : Nat), ps.map (·.2) = ks → HandSPT.Gets X.prog X.w ps s1 h' → wpAny (model X.prog X.w) X.A (call (.builtin "len") [.ref s1.heap.objs.size]) (EP X pins σ (Post (Cx.cn X) X.iv as G env σ H P)) X.xe { s1 with heap := h', toks := tk } := by
    intro ps h' tk hk ⟨L, es, ep, t, R, g, keep⟩
    have I2 : Inv X pins σ H1 { s1 with heap := h', toks := tk } := I1.kept keep
    obtain ⟨o, ho, hex, hd⟩ := R.ob
    have hlen : L.length = (ddL ks).length := by
      have := ddL_eq (ks := ks) R.nd fun kk => ?_
      · rw [List.length_map] at this; exact this
      · constructor
        · intro z
          obtain ⟨p, hp, rfl⟩ := List.mem_map.mp z
          rw [← hk]
          exact List.mem_map.mpr ⟨p, List.mem_of_mem_take (g.sub p hp), rfl⟩
        · intro z
          rw [← hk] at z
          obtain ⟨p, hp, rfl⟩ := List.mem_map.mp z
          exact g.all p (by rw [List.take_length]; exact hp)
    have hsz : es.size = (ddL ks).length := by rw [SetTR.size (s := { s1 with heap := h', toks := tk }) R, hlen]
    refine call_len_set ho hex hd (SetTR.fits (s := { s1 with heap := h', toks := tk }) R) (by rw [hsz]; have := ddL_le ks; omega) ⟨.int ((ddL ks).length : Nat), H1, I2.tok _, ⟨_, by rw [hsz]⟩, ?_⟩
    exact (Post.now (r := .v (.int _)) k1 (Rep.int _) hP).ext x1
  cases d <;> try cases e2
  · obtain ⟨a, vs, rfl, hs, rp⟩ := ro.tup k1 e1
    obtain ⟨ps, rfl, hk, ht⟩ := reps_unTs rp e3
    cases r1
    obtain ⟨its, rv, pt, hz⟩ := I1.tuple hs
    refine HandSPT.set_of_tuple ps (I1.ok.hd hc) pt (by simpa using refs_of_vals rv) (fun p hp => I1.isT (k1.mm.sub.sqT (ht p hp))) (by rw [← List.length_map (f := (·.2)), hk]; exact h64) (by omega) fun h' tk G => ?_
    exact PyProof.Rows.args_nil (fin ps h' tk hk G)
  · obtain ⟨a, vs, rfl, hs, rp⟩ := ro.lst k1 e1
    obtain ⟨ps, rfl, hk, ht⟩ := reps_unTs rp e3
    cases r1
    obtain ⟨its, rv, pl, hz⟩ := I1.list hs
    refine call_set_tups ps (I1.ok.hd hc) pl.isList (by simpa using refs_of_vals rv) (fun p hp => I1.isT (k1.mm.sub.sqT (ht p hp))) (by rw [← List.length_map (f := (·.2)), hk]; exact h64) (by omega) fun h' tk L es ep t R g keep => ?_
    exact PyProof.Rows.args_nil (fin ps h' tk hk ⟨L, es, ep, t, R, g, keep⟩)
end
end Dl
/-! Dl14: the head: data of the text; the end of a law. -/
namespace Dl
open PySem PySem.Spec PyProof.Rows L2
variable {P : Program} {w : World}
/-- a value of the text stands for data -/
def vB (K : PySem.W.Frag) : Nat → Value → D → Bool
  | _, .none, .non => true
  | _, .bool b, .bl c => b == c
  | _, .int i _, .int j => decide (i = j)
  | _, .str x _, .str y => decide (x = y)
  | n + 1, .ref a, .tup ds => (match K.lookup a with
    | some ⟨.type c, _, .seq its _, _⟩ => decide (c = "tuple") && (decide (its.size ≤ sizeLine) && ((its.toList.length == ds.length) && (its.toList.zip ds).all fun p => vB K n p.1 p.2))
    | _ => false)
  | _, _, _ => false
theorem vBs_ok {K : PySem.W.Frag} {mg : Str → Option Value} {Tb : List NdefX.NTab} {n : Nat} (ih : ∀ {u : Value} {d : D}, vB K n u d = true → ∃ v, RelV v u ∧ Rep ⟨K, mg, Tb, P, w⟩ (fun _ => none) v d) : ∀ {us : List Value} {ds : List D}, us.length = ds.length → ((us.zip ds).all fun p => vB K n p.1 p.2) = true → ∃ vs, Vals vs us ∧ Reps ⟨K, mg, Tb, P, w⟩ (fun _ => none) vs ds
  | [], [], _, _ => ⟨[], .nil, .nil⟩
  | [], _ :: _, h, _ => by cases h
  | _ :: _, [], h, _ => by cases h
  | u :: us, d :: ds, h, q => by
    rw [List.zip_cons_cons, List.all_cons, Bool.and_eq_true] at q
    obtain ⟨v, a, b⟩ := ih q.1
    obtain ⟨vs, a2, b2⟩ := vBs_ok ih (us := us) (ds := ds) (Nat.succ.inj h) q.2
    exact ⟨v :: vs, .cons a a2, .cons b b2⟩
theorem vB_flat {K : PySem.W.Frag} {mg : Str → Option Value} {Tb : List NdefX.NTab} {n : Nat} {u : Value} {d : D} (h : vB K n u d = true) (hd : ∀ ds, d ≠ .tup ds) : ∃ v, RelV v u ∧ Rep ⟨K, mg, Tb, P, w⟩ (fun _ => none) v d := by
  cases d with
  | non =>
    have : u = .none := by cases n <;> cases u <;> first | rfl | cases h
    subst this
    exact ⟨.non, rfl, .non⟩
  | bl c =>
    have : u = .bool c := by
      cases n <;> cases u <;> first | (rename_i b; have z : (b == c) = true := h; rw [eq_of_beq z]) | cases h
    subst this
    exact ⟨.bl c, rfl, .bl c⟩
  | int j =>
    have : ∃ t, u = .int j t := by
      cases n <;> cases u <;> first | (rename_i i t; have z : decide (i = j) = true := h; exact ⟨t, by rw [of_decide_eq_true z]⟩) | cases h
    obtain ⟨t, rfl⟩ := this
    exact ⟨.int j, ⟨t, rfl⟩, .int j⟩
  | str y =>
    have : ∃ t, u = .str y t := by
      cases n <;> cases u <;> first | (rename_i i t; have z : decide (i = y) = true := h; exact ⟨t, by rw [of_decide_eq_true z]⟩) | cases h
    obtain ⟨t, rfl⟩ := this
    exact ⟨.str y, ⟨t, rfl⟩, .str y⟩
  | tup ds => exact (hd ds rfl).elim
  | lst ds => cases n <;> cases u <;> cases h
  | ob c fs => cases n <;> cases u <;> cases h
  | ex c fs => cases n <;> cases u <;> cases h
  | fn f c q => cases n <;> cases u <;> cases h
  | dic _ => cases n <;> cases u <;> cases h
  | cl _ => cases n <;> cases u <;> cases h
theorem vB_ok {K : PySem.W.Frag} {mg : Str → Option Value} {Tb : List NdefX.NTab} : ∀ {n : Nat} {u : Value} {d : D}, vB K n u d = true → ∃ v, RelV v u ∧ Rep ⟨K, mg, Tb, P, w⟩ (fun _ => none) v d := by
  intro n
  induction n with
  | zero =>
    intro u d h
    refine vB_flat h fun ds e => ?_
    subst e
    cases u <;> cases h
  | succ n ih =>
    intro u d h
    cases d with
    | tup ds =>
      cases u <;> try cases h
      rename_i a
      have h' : (match K.lookup a with
        | some ⟨.type c, _, .seq its _, _⟩ => decide (c = "tuple") && (decide (its.size ≤ sizeLine) && ((its.toList.length == ds.length) && (its.toList.zip ds).all fun p => vB K n p.1 p.2))
        | _ => false) = true := h
      cases q : K.lookup a with
      | none => rw [q] at h'; cases h'
      | some o =>
        obtain ⟨oc, od, dt, osl⟩ := o
        rw [q] at h'
        cases oc <;> try cases h'
        cases dt <;> try cases h'
        rename_i c its m
        simp only [Bool.and_eq_true, decide_eq_true_eq, beq_iff_eq] at h'
        obtain ⟨h1, h2, h3, h4⟩ := h'
        subst h1
        obtain ⟨vs, r1, r2⟩ := vBs_ok ih h3 h4
        exact ⟨.ref a, rfl, .tup (.inr ⟨_, its, m, q, rfl, rfl, h2, r1⟩) r2⟩
    | _ => exact vB_flat h fun ds e => by cases e
/-- names of the text that stand for data -/
def gB (K : PySem.W.Frag) (x : Str) (d : D) : Bool := match PySem.W.nsIn K mainGlobals x with
  | some (some u) => vB K 8 u d
  | _ => false
theorem gB_ok {K : PySem.W.Frag} {h : Heap} {mg : Str → Option Value} {Tb : List NdefX.NTab} {x : Str} {d : D} (X : K.In h) (G : h.Ns mainGlobals mg) (c : gB K x d = true) : GlobD ⟨K, mg, Tb, P, w⟩ x d := by
  unfold gB at c
  cases q : PySem.W.nsIn K mainGlobals x with
  | none => rw [q] at c; cases c
  | some o =>
    cases o with
    | none => rw [q] at c; cases c
    | some u =>
      rw [q] at c
      obtain ⟨v, r, rp⟩ := vB_ok (mg := mg) (Tb := Tb) c
      exact ⟨u, v, PySem.W.mg_of X G q, r, rp⟩
def gAll (gs : List (Str × D)) (K : PySem.W.Frag) : Bool := gs.all fun p => gB K p.1 p.2
theorem gAll_get {gs : List (Str × D)} {K : PySem.W.Frag} (h : gAll gs K = true) (i : Nat) {x : Str} {d : D} (e : gs[i]? = some (x, d) := by rfl) : gB K x d = true := List.all_eq_true.mp h (x, d) (List.mem_of_getElem? e)
theorem toFun {K : PySem.W.Frag} {x qual : Str} {st : Stmt} {f : Addr} {fd : FuncData} (F : FunD K x qual (defArgs st) (defBody st) (defScope st) [] [] f fd) : Fun K x qual st f fd := by
  obtain ⟨oc, od, dV, kV, doc, pm, an, cdv, ct, osl, e, lk, hcd, hD, hK⟩ := F.ex
  rcases hD with ⟨_, rfl⟩ | ⟨ne, _⟩
  · exact ⟨⟨oc, od, kV, doc, pm, an, cdv, ct, osl, e, lk, hcd⟩, F.kp⟩
  · exact (ne rfl).elim
/-- the script as data -/
theorem script_rep {K : PySem.W.Frag} {mg : Str → Option Value} {Tb : List NdefX.NTab} {H : Hp} : ∀ ns : List Int, Reps ⟨K, mg, Tb, P, w⟩ H (ns.map V.int) (ns.map D.int)
  | [] => .nil
  | n :: ns => .cons (.int n) (script_rep ns)
end Dl
/-! Dl15: an own exception's __init__ that says super().__init__(text) and stores its fields. -/
namespace Dl
open PySem PySem.Spec PyProof.Rows L2
section
variable {prog : Program} {w : World} {A : Around} {E : Value → Shared → Prop} {hp : Heap} {g : Array GenState} {dr : Drawn} {tk : Nat} {os : OsState}
variable {nm q : Str} {C N : Addr} {bs bm : List Value} {hdct : Bool} {sn : List Str} {sub : List Value} {ab : Bool} {col : Option Bool} {dd : Option Addr} {k0 k1 k2 k3 k5 : Option Value}
/-- the wrapper of ValueError.__init__, bound to the exception at e, is called -/
theorem mw_call {u e t0 : Addr} {vs : List Value} {Q : Value → Shared → Prop} (hC : hp.get? C = some (excClassObj nm q C N bs bm hdct sn sub ab col dd k0 k1 k2 k3 k5 "ValueError.__new__"))
    (he : hp.get? e = some (HandSPX.excO C t0)) (hu : hp.get? u = some (W.kxs_mw "ValueError.__init__" e)) (hz : vs.length ≤ sizeLine)
    (hq : ∀ h' t1, (∀ b o, b ≠ e → hp.get? b = some o → h'.get? b = some o) → h'.get? e = some (HandSPX.excO C t1) → Q .none ⟨h', g, dr, tk, os⟩) : wpAny (model prog w) A (call (.ref u) vs) Q E ⟨hp, g, dr, tk, os⟩ := by
  have m1 : (Value.type "method-wrapper" == Value.type "method" || Value.type "method-wrapper" == Value.type "builtin_function_or_method" || Value.type "method-wrapper" == Value.type "method-wrapper") = true := by decide
  refine wpAny_call (codeAny_of_tree (show wpAny _ A.in1 (callAny (.ref u) ⟨vs, []⟩) _ _ _ from ?_))
  simp only [callAny]
  refine wpAny_bind (wpAny_load hu (show wpAny _ _ _ _ _ _ from ?_))
  simp only [W.kxs_mw, m1, if_true]
  refine W.KFB.if_so (by decide) (wpAny_bind (W.check_bound_init (PySem.F.excBase_ValueError).toExcCallFacts hC he rfl (wpAny_bind (wpAny_pure (wpAny_pure ?_)))))
  refine ⟨plainId_quiet (PySem.F.excBase_ValueError).init.plain _, codeAny_builtin (PySem.F.excBase_ValueError).initEntry ?_⟩
  refine W.exc_init_tree (cls := .ref C) (t0 := t0) (dv := none) (c2 := .none) (c3 := .none) (b4 := .bool false) he hz fun h' k he' _ => ?_
  exact hq h' _ (fun b o hb ho => k b o hb ho) he'
end
/-! ### the body's context -/
abbrev xEnv (qual : Str) (scope : Scope) (L f : Addr) (cdv : Value) (cc : Addr) : Env := W.ksEnv qual scope L f cdv cc
abbrev xCx (P : Program) (w : World) (K : PySem.W.Frag) (mg : Str → Option Value) (base : Heap) (N : List Str) (qual : Str) (scope : Scope) (f cc : Addr) (cdv : Value) (A : Around) (outer : List Env) (s : Shared) (H : Hp) : Cx where
  prog := P
  w := w
  K := K
  mg := mg
  base := base
  A := A.deeper (xEnv qual scope s.heap.objs.size f cdv cc)
  N := N
  s_0 := s
  H_0 := H
  env := xEnv qual scope s.heap.objs.size f cdv cc
  outer := outer
  stack := xEnv qual scope s.heap.objs.size f cdv cc :: outer
  ex := []
  fn := fun _ => false
  calm := true
  pn := []
  xe := fun _ _ => False
/-- the names of such a def -/
structure XScope (ps : List Str) (scope : Scope) : Prop where
  nd : ps.Nodup
  kind : scope.kind = .function
  co : scope.isCoroutine = false
  gen : scope.isGenerator = false
  par : ∀ p ∈ ps, scope.names.lookup p = some .local
  nocell : ∀ y ∈ scope.names, y.2 ≠ .cell
  free : ∀ x, scope.names.lookup x = some .free → x = "__class__"
  sup : scope.names.lookup ("super" : Str) = some .globalImplicit
  cls : scope.names.lookup ("__class__" : Str) = some .free
  look : ∀ (us : List Value) (i : Nat) (x : Str) (u : Value), us.length = ps.length → ps[i]? = some x → us[i]? = some u → (ps.zip us).reverse.lookup x = some u
section
variable {P : Program} {w : World} {K : PySem.W.Frag} {mg : Str → Option Value} {base : Heap} {ps : List Str} {qual : Str} {scope : Scope} {f cc : Addr} {cdv : Value} {A : Around} {outer : List Env} {s : Shared} {H : Hp} {us : List Value} {vs : List V}
theorem x_start (S : XScope ps scope) (hd : A.handled = none) (e0 : Env0 P w K mg base A outer s H) (hl : vs.length = ps.length) (r : Vals vs us) {oc : Obj} {v0 : Option Value} (hcc : K.lookup cc = some oc) (hcd : oc.data = .cell v0)
    {h1 : Heap} {tk : Nat} (hns : h1.Ns s.heap.objs.size fun x => (ps.zip us).reverse.lookup x) (hk : ∀ b o, s.heap.get? b = some o → h1.get? b = some o) : Inv (xCx P w K mg base ps qual scope f cc cdv A outer s H) [] (vs.map some) H { s with heap := h1, toks := tk } := by
  have kin : ∀ b o, K.lookup b = some o → s.heap.get? b = some o ∧ H b = none := fun b o e => e0.bs b o (e0.mod.kin _ _ e)
  have one : ∀ {x : Str} {c : Addr}, (xCx P w K mg base ps qual scope f cc cdv A outer s H).env.cells.lookup x = some c → x = "__class__" ∧ c = cc := fun {x c} e => by
    have e' : ([(("__class__" : Str), cc)] : List (Str × Addr)).lookup x = some c := e
    rw [List.lookup_cons] at e'
    cases q : (x == ("__class__" : Str)) with
    | true => rw [q] at e'; cases e'; exact ⟨beq_iff_eq.mp q, rfl⟩
    | false => rw [q] at e'; cases e'
  refine ⟨⟨e0.mod, S.kind, rfl, rfl, Nat.le_refl _, (fun x y c a b => by rw [(one a).1, (one b).1]), (fun x hx => ?_), (fun _ _ z _ => Bool.noConfusion z), fun _ => hd, Around.frames_deeper e0.frames, .inr ⟨rfl, rfl⟩, (fun _ z => absurd z List.not_mem_nil), e0.bs, e0.bsz, (fun _ _ _ => List.not_mem_nil), (fun _ z => absurd z List.not_mem_nil), e0.funs, e0.frf⟩,
    rfl, e0.bare, Un.kept hk, ⟨_, hns, fun i x v a b c => ?_⟩, fun x c e => ?_, e0.hok.fresh (Nat.le_refl _), fun x c e => ?_, (fun _ z => absurd z List.not_mem_nil), e0.hok.kept hk, by rw [List.length_map]; exact hl⟩
  · have hx' : scope.names.lookup x = some .cell ∨ scope.names.lookup x = some .free := hx
    rcases hx' with z | z
    · exact absurd rfl (S.nocell _ (PySem.mem_of_lookup z))
    · rw [S.free x z]; exact ⟨cc, rfl⟩
  · have a' : ps[i]? = some x := a
    rw [List.getElem?_map] at b
    cases q : vs[i]? with
    | none => rw [q] at b; cases b
    | some v' =>
      rw [q] at b
      cases b
      obtain ⟨u, hu, ru⟩ := r.get q
      exact ⟨u, ru, .inl ⟨S.par x (List.mem_of_getElem? a'), S.look us i x u (by rw [← r.length]; exact hl) a' hu⟩⟩
  · rw [(one e).2]
    exact ⟨v0, oc, hk _ _ (kin _ _ hcc).1, hcd⟩
  · rw [(one e).2]
    exact (kin _ _ hcc).2
/-- what the written part says of such a class C and its __init__ at f: its cell cc, its code's record at cda -/
structure XCls (P : Program) (K : PySem.W.Frag) (C f cc cda : Addr) : Prop where
  oex : OexC K C
  cls : ∃ cd, PySem.W.clsIn K C = some cd ∧ PySem.W.alongIn K "__init__" ((cd.mro.dropWhile (· != .ref C)).drop 1) = some (some (.builtin "ValueError.__init__"))
  val : PySem.W.subIn K (.ref C) (.type "ValueError") = some true
  own : PySem.W.mroIn K C (.ref C) = some true
  opq : PySem.W.nsIn K PySem.cStatics "thirdparty.any" = some none
  cell : ∃ oc, K.lookup cc = some oc ∧ oc.data = .cell (some (.ref C))
  code : ∃ oc vs file tf, K.lookup cda = some oc ∧ oc.data = .fields vs ∧ vs[2]? = some (.str file tf) ∧ ((P.main.file : Str) == file) = true
section
variable {P : Program} {w : World} {K : PySem.W.Frag} {mg : Str → Option Value} {base : Heap} {ps : List Str} {qual : Str} {scope : Scope} {f cc cda C a : Addr} {A : Around} {outer : List Env} {s0 s : Shared} {H0 H : Hp} {σ : L2.St}
/-- how such a call is read (the rows of the text decide it) -/
def SupEv (z : Str) (j : Nat) (p0 p1 p2 p3 pe : Pos) (pl : Sem Bool) : Prop := ∀ env : Env, eval (.Call (.Attribute (.Call (.Name "super" p0) [] [] p1) "__init__" p2) [.Constant (.str z) j pe] [] p3) env = (do
      let ov ← attributeBase (.Call (.Name "super" p0) [] [] p1) "__init__" env (eval (.Call (.Name "super" p0) [] [] p1) env)
      standAt p2.atName
      let (f, first) ← holding [ov] (getMethod ov "__init__" pl)
      callWith p3 f first (backTo p3 (starEach [.Constant (.str z) j pe] env)) [])
theorem sup_step {fd : FuncData} {of : Obj} {ar : Arg} {body : List Stmt} {Dn : Ends} {xe : Value → Shared → Prop} {z : Str} {j : Nat} {p0 p1 p2 p3 p4 pe : Pos} {pl : Sem Bool} (hev : SupEv z j p0 p1 p2 p3 pe pl) (hsw : ∀ env : Env, swapsWith (.Call (.Attribute (.Call (.Name "super" p0) [] [] p1) "__init__" p2) [.Constant (.str z) j pe] [] p3) none p4.line env = pure false) (S : XScope ps scope) (T : XCls P K C f cc cda)
    (hf : K.lookup f = some of) (hfd : of.data = .func fd) (har : (fd.params.posonlyargs ++ fd.params.args).head? = some ar) (hps : ps[0]? = some ar.arg) (hsg : mg "super" = none) (htop : (P.main.scope.names.lookup ("super" : Str)).isSome = false)
    (I : Inv (xCx P w K mg base ps qual scope f cc (.ref cda) A outer s0 H0) [] σ H s) (hσ : σ[0]? = some (some (.ref a))) (ha : H a = some (exo a C none)) (hn : Dn.nx σ H) :
    _root_.PySem.wpAt (model P w) (xCx P w K mg base ps qual scope f cc (.ref cda) A outer s0 H0).A (.func body (xCx P w K mg base ps qual scope f cc (.ref cda) A outer s0 H0).env)
      (exec (.Expr (.Call (.Attribute (.Call (.Name "super" p0) [] [] p1) "__init__" p2) [.Constant (.str z) j pe] [] p3) p4) (xCx P w K mg base ps qual scope f cc (.ref cda) A outer s0 H0).env) (SP (xCx P w K mg base ps qual scope f cc (.ref cda) A outer s0 H0) [] Dn) xe s := by
  obtain ⟨cd, hcd, hal⟩ := T.cls
  obtain ⟨oc, hcc, hcell⟩ := T.cell
  obtain ⟨ocd, vs, file, tf, hcode, hvs, hvs', hff⟩ := T.code
  obtain ⟨oD, hD1, hD2⟩ : ∃ oD, K.lookup C = some oD ∧ oD.data = .cls cd := by
    unfold PySem.W.clsIn at hcd
    split at hcd
    · rename_i hl
      cases hcd
      exact ⟨_, hl, rfl⟩
    · cases hcd
  have kI := I.kIn
  obtain ⟨m, hns, hlk⟩ := id I.loc
  have hself : m ar.arg = some (.ref a) := by
    have hl : scope.names.lookup ar.arg = some .local := S.par _ (List.mem_of_getElem? hps)
    obtain ⟨u, ru, q⟩ := hlk 0 ar.arg (.ref a) hps hσ (.inl hl)
    obtain rfl : u = Value.ref a := ru
    rcases q with ⟨_, e⟩ | ⟨k, _⟩
    · exact e
    · have k' : scope.names.lookup ar.arg = some .cell ∨ scope.names.lookup ar.arg = some .free := k
      rw [hl] at k'
      rcases k' with k' | k' <;> cases k'
  obtain ⟨t0, hob⟩ := exo_at I.hok ha
  obtain ⟨mb, b1, b2⟩ := I.mod.blt
  refine ks_wpAt_Expr_any (ks_wpAt_MethodCall (pl := pl) ?_ (hev _)) (by unfold interactive; rw [show (xCx P w K mg base ps qual scope f cc (.ref cda) A outer s0 H0).env.scope.kind = .function from S.kind]; rfl) (hsw _)
  refine ks_wpAt_super_base (f := f) (cc := cda) (of := of) (oc := ocd) (fd := fd) (ar := ar) S.sup S.cls (by decide) rfl (kI _ _ hf) hfd har rfl (kI _ _ hcode) hvs hvs' hff htop ?_
  refine PySem.W.ks_loadName_global S.kind S.sup (Calls.loadGlobal_builtin (I.mod.glob.keeps I.bk) hsg (b1.keeps I.bk) ((b2 "super" (by decide)).trans (by rfl)) ⟨rfl, ?_⟩)
  refine wpAny_loadName_free S.kind S.cls rfl ⟨_, kI _ _ hcc, hcell⟩ ?_
  refine wpAny_loadName_local S.kind (S.par _ (List.mem_of_getElem? hps)) hns hself ?_
  obtain ⟨hh, g, d, t, os⟩ := s
  refine ks_wpAny_isType_cls (kI _ _ hD1) hD2 ⟨rfl, ?_⟩
  refine ks_wpAny_call_super (kI _ _ hD1) hD2 hob rfl (fun c e => by cases e) (PySem.W.looks_mroIn kI T.own) (fun h1 e1 k1 => ?_)
  have I1 : Inv (xCx P w K mg base ps qual scope f cc (.ref cda) A outer s0 H0) [] σ H ⟨h1, g, d, t, os⟩ := Inv.kept (t' := t) I k1
  obtain ⟨t1, hob1⟩ := exo_at I1.hok ha
  have hne : a ≠ C := fun e => by
    have z := I1.kIn _ _ hD1
    rw [← e] at z
    rw [show h1.get? a = _ from hob1] at z
    cases z
    cases hD2
  refine PySem.W.kxs_getMethod PySem.W.kxs_ValueError e1 (PySem.W.looks_opaque I1.kIn T.opq) (l₀ := cd.mro) (fun A Q E s k q => wpAny_bind ((PySem.W.looks_clsIn I1.kIn hcd) A _ E s k (wpAny_pure q))) rfl I1.kIn hal
    (PySem.W.InstAt.type (⟨hob1, rfl, rfl, trivial⟩ : PySem.W.InstAt h1 a _ C none) |>.andThen (PySem.W.looks_subIn I1.kIn T.val)) hne (by decide) ?_
  have k2 : ∀ b o, h1.get? b = some o → (h1.push (PySem.W.kxs_mw "ValueError.__init__" a)).get? b = some o := fun b o e => Heap.get?_push_of_some _ e
  have hu : (h1.push (PySem.W.kxs_mw "ValueError.__init__" a)).get? h1.objs.size = some (PySem.W.kxs_mw "ValueError.__init__" a) := Heap.get?_push_at rfl rfl
  have I2 : Inv (xCx P w K mg base ps qual scope f cc (.ref cda) A outer s0 H0) [] σ H ⟨h1.push (PySem.W.kxs_mw "ValueError.__init__" a), g, d, t + 1, os⟩ := Inv.kept (s := ⟨h1, g, d, t, os⟩) (t' := t + 1) I1 k2
  obtain ⟨nm, qn, Nn, bs, bm, sn, sub, ab, col, dd, x0, x1, x2, x3, x5, hC, hbm⟩ := T.oex.cls
  have hnu : H h1.objs.size = none := I1.hok.fresh (Nat.le_refl _)
  have I2p := Inv.pins_of (pins' := [(h1.objs.size, PySem.W.kxs_mw "ValueError.__init__" a)]) I2 (fun p hp => by
    rw [List.mem_singleton.mp hp]
    exact ⟨hu, hnu, Nat.ne_of_gt (show _ < h1.objs.size from I1.lt), fun hb => I1.nofs (Nat.le_refl _) hb, fun v e => by cases e⟩)
  refine PySem.W.kxs_callWith (i := "ValueError.__init__") (x := a) (by rfl) (Calls.evalArgs_plain (wpAny_mono ((pa_cons (X := xCx P w K mg base ps qual scope f cc (.ref cda) A outer s0 H0) (e := .Constant (.str z) j pe) (es := []) pe_str pa_nil).run p3 _ _ σ H (fun vs H' => vs = [.str z] ∧ H' = H) I2p ⟨rfl, rfl⟩) (fun us s3 h3 => ?_) fun _ _ z => z.elim))
  obtain ⟨vs3, H3, I3, r3, e3, eH⟩ := h3
  subst e3
  subst eH
  obtain ⟨h3, g3, d3, t3, os3⟩ := s3
  have hu3 : h3.get? h1.objs.size = some (PySem.W.kxs_mw "ValueError.__init__" a) := (I3.pin (h1.objs.size, _) (List.mem_append_right _ List.mem_cons_self)).1
  obtain ⟨t0', hob3⟩ := exo_at I3.hok ha
  have hl3 : us.length ≤ sizeLine := by
    rw [← r3.length]
    show 1 ≤ sizeLine
    rw [sizeLine_eq]
    decide
  refine ⟨hu3, mw_call (I3.kIn _ _ hC) hob3 hu3 hl3 fun h4 t4 k4 e4 => ?_⟩
  have J := I3.write (t' := t3) (x := a) (e := a) (o := exo a C none) (by rw [ha]; exact True.intro) (.inl rfl) k4 ⟨_, e4⟩ (exo_ok e4)
  have eu : upd H3 a (exo a C none) = H3 := funext fun b => by
    by_cases hb : b = a
    · rw [hb, upd_same, ha]
    · rw [upd_ne hb]
  rw [eu] at J
  exact ⟨σ, H3, ⟨J.ok, J.os, J.bare, J.base, J.loc, J.cell, J.free, J.freeC, (fun p hp => absurd hp List.not_mem_nil), J.hok, J.len⟩, hn⟩
end
end
end Dl
/-! Dl16: the promise of such an __init__; such an error is made; raise. -/
namespace Dl
open PySem PySem.Spec PyProof.Rows L2
section
variable {P : Program} {w : World} {K : PySem.W.Frag} {mg : Str → Option Value} {base : Heap} {ps : List Str} {name qual : Str} {params : Arguments} {scope : Scope} {f cc cda C : Addr} {dV kV doc pm ct oc : Value} {an od : Option Addr} {osl : Array (Option Value)}
/-- an error is made: its dict holds fs -/
def spI (C : Addr) (n : Nat) (mk : List V → List (Str × V)) : Sp := fun vs H Q _ => ∃ a us, vs = .ref a :: us ∧ us.length = n ∧ H a = some (exo a C none) ∧
  ∀ dx H', H dx = none → dx ≠ a → H' a = some (exo a C (some dx)) → H' dx = some (exd dx (mk us)) → (∀ b, b ≠ a → b ≠ dx → H' b = H b) → Q .non H'
theorem xinit {CX : CXT} {k n : Nat} {ar : Arg} {z : Str} {j : Nat} {p0 p1 p2 p3 p4 pe : Pos} {pl : Sem Bool} {rest : List Stmt} {mk : List V → List (Str × V)} (hev : SupEv z j p0 p1 p2 p3 pe pl)
    (hsw : ∀ env : Env, swapsWith (.Call (.Attribute (.Call (.Name "super" p0) [] [] p1) "__init__" p2) [.Constant (.str z) j pe] [] p3) none p4.line env = pure false) (S : XScope ps scope) (T : XCls P K C f cc cda)
    (lk : K.lookup f = some ⟨oc, od, .func (PySem.W.ksFn name qual params (.Expr (.Call (.Attribute (.Call (.Name "super" p0) [] [] p1) "__init__" p2) [.Constant (.str z) j pe] [] p3) p4 :: rest) scope dV kV doc pm an (.ref cda) ct cc), osl⟩)
    (hcd : PySem.W.codeIn K (.ref cda) qual = true) (har : (params.posonlyargs ++ params.args).head? = some ar) (hps : ps[0]? = some ar.arg) (hn : ps.length = n + 1) (hsg : mg "super" = none) (htop : (P.main.scope.names.lookup ("super" : Str)).isSome = false)
    (hrest : ∀ (A : Around) (outer : List Env) (s0 : Shared) (H : Hp) (a : Addr) (us : List V) (Q : VK), us.length = n → H a = some (exo a C none) →
      (∀ dx H', H dx = none → dx ≠ a → H' a = some (exo a C (some dx)) → H' dx = some (exd dx (mk us)) → (∀ b, b ≠ a → b ≠ dx → H' b = H b) → Q .non H') →
      ∃ t, PSs (xCx P w K mg base ps qual scope f cc (.ref cda) A outer s0 H) rest t ∧ t { nx := fun _ H' => Q .non H', rt := Q } ((V.ref a :: us).map some) H) :
    FnOk P w K mg base CX (k + 1) f (PySem.W.ksFn name qual params (.Expr (.Call (.Attribute (.Call (.Name "super" p0) [] [] p1) "__init__" p2) [.Constant (.str z) j pe] [] p3) p4 :: rest) scope dV kV doc pm an (.ref cda) ct cc) ps (spI C n mk) := by
  refine ⟨fun vs H Q E h => ?_, fun A outer s H args us vs Q E hr e0 hb r hsp => ?_⟩
  · obtain ⟨a, us, rfl, hl, _⟩ := h
    rw [List.length_cons, hl, hn]
  · obtain ⟨a, ws, rfl, hl, ha, hq⟩ := hsp
    have KX : K.In s.heap := e0.mod.kin.keeps fun b o e => (e0.bs b o e).1
    have lim : s.heap.NoLimit := e0.mod.nolimit.keeps fun b o e => (e0.bs b o e).1
    have hl2 : (V.ref a :: ws).length = ps.length := by rw [List.length_cons, hl, hn]
    refine ks_codeAny_call_defAt hr.depth (KX _ _ lk) rfl lim (PySem.W.codeRec_of KX hcd) rfl hb S.nocell (fun y hy => S.par _ ((List.of_mem_zip (a := y.1) (b := y.2) hy).1)) (fun h1 hns hk => ?_) S.co S.gen S.kind
    obtain ⟨oc2, hcc, hcell⟩ := T.cell
    have I := x_start (f := f) (cdv := .ref cda) (qual := qual) (tk := s.toks + (ps.zip us).length) S hr.hd e0 hl2 r hcc hcell hns hk
    obtain ⟨t, ht, hD⟩ := hrest A outer s H a ws Q hl ha hq
    have fin : ∀ (fl : Flow) (s' : Shared), SP (xCx P w K mg base ps qual scope f cc (.ref cda) A outer s H) [] { nx := fun _ H' => Q .non H', rt := Q } fl s' → CR CX outer P w H s Q E (.ok (.ret (match fl with | .ret v => v | _ => .none))) s' := fun fl s' hs => by
      cases fl with
      | ret u =>
        obtain ⟨v, σ', H', J, rv, q⟩ := hs
        exact ⟨v, H', J.os, J.bare, J.base, J.hok, rv, q⟩
      | next =>
        obtain ⟨σ', H', J, q⟩ := hs
        exact ⟨.non, H', J.os, J.bare, J.base, J.hok, rfl, q⟩
      | brk => obtain ⟨_, _, _, q⟩ := hs; exact q.elim
      | cont => obtain ⟨_, _, _, q⟩ := hs; exact q.elim
    refine ks_wpAt_execs_cons (ks_wpAt_mono (sup_step (Dn := { nx := fun σ' H' => t { nx := fun _ H' => Q .non H', rt := Q } σ' H', rt := fun _ _ => False }) hev hsw S T lk rfl har hps hsg htop I rfl ha hD) (fun fl s1 q1 => ?_) fun _ _ z => z)
    cases fl with
    | next =>
      obtain ⟨σ1, H1, J1, q1⟩ := q1
      exact wpAt_of_wpAny (wpAny_mono (ht.run [] s1 σ1 H1 _ J1 q1) (fun fl s' q => fin fl s' q) fun _ _ z => z.elim)
    | ret u => obtain ⟨_, _, _, _, _, q⟩ := q1; exact q.elim
    | brk => obtain ⟨_, _, _, q⟩ := q1; exact q.elim
    | cont => obtain ⟨_, _, _, q⟩ := q1; exact q.elim
/-- self.tag = text; self.fld = p -/
theorem xrest2 {sf pn fld z : Str} {j : Nat} {a1 a2 a3 a4 b1 b2 b3 b4 : Pos} (T : OexC K C) (h1 : PySem.W.findIn K (.ref C) "tag" = some none) (h2 : PySem.W.findIn K (.ref C) fld = some none) (S : XScope [sf, pn] scope)
    (d1 : (sf == ("__debug__" : Str)) = false) (d2 : (sf == ("__classdict__" : Str)) = false) (d3 : (pn == ("__debug__" : Str)) = false) (d4 : (pn == ("__classdict__" : Str)) = false)
    {A : Around} {outer : List Env} {s0 : Shared} {H : Hp} {a : Addr} {us : List V} {Q : VK} (hl : us.length = 1) (ha : H a = some (exo a C none))
    (hq : ∀ dx H', H dx = none → dx ≠ a → H' a = some (exo a C (some dx)) → H' dx = some (exd dx (us.map (fun u => (fld, u)) ++ [(("tag" : Str), V.str z)])) → (∀ b, b ≠ a → b ≠ dx → H' b = H b) → Q .non H') :
    ∃ t, PSs (xCx P w K mg base [sf, pn] qual scope f cc (.ref cda) A outer s0 H) [.Assign [.Attribute (.Name sf a1) "tag" a2] (.Constant (.str z) j a3) a4, .Assign [.Attribute (.Name sf b1) fld b2] (.Name pn b3) b4] t ∧ t { nx := fun _ H' => Q .non H', rt := Q } ((V.ref a :: us).map some) H := by
  match us, hl with
  | [u], _ =>
    refine ⟨_, pss_cons (ps_ost (pe_var (i := 0) rfl (.inl (S.par sf (by simp))) d1 d2) pe_str (by rfl)) (pss_one (ps_ost (pe_var (i := 0) rfl (.inl (S.par sf (by simp))) d1 d2) (pe_var (i := 1) rfl (.inl (S.par pn (by simp))) d3 d4) (by rfl))), ?_⟩
    refine ⟨_, rfl, a, C, rfl, T, h1, .inl ⟨ha, fun dx hdx hne => ?_⟩⟩
    refine ⟨_, rfl, _, rfl, a, C, rfl, T, h2, .inr ⟨dx, _, upd_same, by rw [upd_ne hne]; exact upd_same, by show 1 ≤ 900; decide, ?_⟩⟩
    refine hq dx _ hdx hne ?_ upd_same fun b n1 n2 => ?_
    · rw [upd_ne (Ne.symm hne)]; exact upd_same
    · rw [upd_ne n2, upd_ne n1, upd_ne n2]
end
/-! ### raise -/
/-- a class of errors: made with n values it holds mk of them -/
structure HasX (P : Program) (w : World) (K : PySem.W.Frag) (mg : Str → Option Value) (base : Heap) (x : Str) (j n : Nat) (mk : List D → List (Str × D)) : Prop where
  ex : ∃ (C fI : Addr) (fd : FuncData) (ps : List Str) (mv : List V → List (Str × V)), FnOk P w K mg base (L2.CX P w) j fI fd ps (spI C n mv) ∧ mg x = some (.ref C) ∧ OexC K C ∧ PySem.W.findIn K (.ref C) "__init__" = some (some (.ref fI)) ∧ PySem.W.typeIn K (.ref fI) = some (.type "function") ∧ Binds K fd ps [] ∧ n ≤ 1000 ∧
    ∀ Tb G us ds, Reps ⟨K, mg, Tb, P, w⟩ G us ds → RepF ⟨K, mg, Tb, P, w⟩ G (mv us) (mk ds)
def raiseB (x : Str) (n : Nat) (mk : List D → List (Str × D)) (a : Fa) : Fs := fun env m => (a env m).to fun rs m1 => match frz rs m1 with
  | some (ds, m2) => if ds.length = n then .ex x (mk ds) m2 else .no
  | none => .no
theorem ss_raise {X : Dx} {E : XE} {x : Str} {j n : Nat} {mk : List D → List (Str × D)} {e : Expr} {es : List Expr} {fa : Fa} {p0 p1 pos : Pos} (tk : Tk X E) (hX : HasX X.prog X.w X.K X.mg X.base x j n mk) (hr : Room (j + 1) X.A) (hc : X.calm = true) (ha : Sa X E (e :: es) fa)
    (hg : Gl X x := by rfl) (hdb : (x == ("__debug__" : Str)) = false := by decide) (he : starEach (e :: es) X.env = (false, eval e X.env) :: starEach es X.env := by rfl) (hpl : (backTo p1 (starEach es X.env)).any (·.1) = false := by rfl) :
    Ss X E (.Raise (some (.Call (.Name x p0) (e :: es) [] p1)) none pos) (raiseB x n mk fa) := .mk fun env mem KK h => fun as G σ H k => by
  obtain ⟨C, fI, fd, ps, mv, F1, hm, T, iC, tI, hb, h1000, rel⟩ := hX.ex
  refine SW.of (ps_raise hc tk (pmk_oex (dvs := []) T iC tI F1 hr hb .nil passL hg hm (pa_aw X (e :: es)) hdb he hpl)) ?_
  refine AW.mono (ha env mem _ (sat_to h) as G σ H k) fun vs H1 ⟨as1, G1, m1, rs, x1, k1, ro, q⟩ => ?_
  dsimp only at q
  cases hf : frz rs m1 with
  | none => rw [hf] at q; exact q.elim
  | some pr =>
    obtain ⟨ds, m2⟩ := pr
    rw [hf] at q
    dsimp only at q
    split at q
    · rename_i hln
      obtain ⟨G2, x2, k2, rp⟩ := frz_ok k1 ro hf
      have hvl : vs.length = n := by rw [rp.length]; exact hln
      refine ⟨by rw [hvl]; exact h1000, fun a hna => ⟨a, vs, by rw [List.append_nil], hvl, upd_same, fun dx H' hdx hne ha' hdx' hrest => ?_⟩⟩
      have hd1 : H1 dx = none := by rw [upd_ne hne] at hdx; exact hdx
      refine ⟨rfl, dx, mv vs, ha', hdx', hd1, ?_⟩
      have eH : upd (del H' a) dx (.xd (mv vs)) = upd H1 dx (.xd (mv vs)) := funext fun b => by
        by_cases hb1 : b = dx
        · rw [hb1, upd_same, upd_same]
        · rw [upd_ne hb1, upd_ne hb1]
          by_cases hb2 : b = a
          · rw [hb2, del_same, hna]
          · rw [del_ne hb2, hrest b hb2 hb1, upd_ne hb2]
      rw [eH]
      obtain ⟨mm, xx⟩ := k2.mm.lay hd1 (.xd (mv vs))
      exact ⟨as1, _, m2, x, mk ds, X.iv.ext xx k2.iv, mm, ⟨C, dx, mv vs, rfl, hm, rfl, upd_same, rel _ _ _ _ (rp.mono xx.sub)⟩, q⟩
    · exact q.elim
end Dl
/-! Dl17: fields of a caught error; defs called whatever is handled. -/
namespace Dl
open PySem PySem.Spec PyProof.Rows L2
/-! ### a def that is called whatever is handled -/
structure FnA (P : Program) (w : World) (K : PySem.W.Frag) (mg : Str → Option Value) (base : Heap) (CX : CXT) (k : Nat) (f : Addr) (fd : FuncData) (ps : List Str) (sp : Sp) : Prop where
  len : ∀ vs H Q E, sp vs H Q E → vs.length = ps.length
  run : ∀ (A : Around) (outer : List Env) (s : Shared) (H : Hp) (args : Args) (us : List Value) (vs : List V) (Q : VK) (E : XK), L2H.RoomH k A → Env0 P w K mg base A outer s H → BindsTo s fd args (ps.zip us) → Vals vs us → sp vs H Q E → codeAny (model P w) A (.call (.ref f) args) (CR CX outer P w H s Q E) s
section
variable {CX : CXT} {P : Program} {w : World} {K : PySem.W.Frag} {mg : Str → Option Value} {base : Heap} {N ps : List Str} {qual : Str} {scope : Scope} {f : Addr}
end
end Dl
/-! Dl18: such defs by their functions; their calls. -/
namespace Dl
open PySem PySem.Spec PyProof.Rows L2
section
variable {X : Cx} {CX : CXT} {k : Nat} {f : Addr} {fd : FuncData} {ps : List Str} {sp : Sp} {E : XK} {x : Str} {p pos : Pos} {e : Expr} {es : List Expr} {t : TA}
end
structure HasA (P : Program) (w : World) (K : PySem.W.Frag) (mg : Str → Option Value) (Tb : List NdefX.NTab) (base : Heap) (x : Str) (j n : Nat) (F : FS) : Prop where
  ex : ∃ (f : Addr) (fd : FuncData) (ps : List Str), FnA P w K mg base (L2.CX P w) j f fd ps (spG ⟨K, mg, Tb, P, w⟩ n F) ∧ mg x = some (.ref f) ∧ PySem.W.keepIn K (.ref f) = true ∧ Binds K fd ps []
section
variable {X : Dx} {E : XE} {e : Expr} {es : List Expr} {pos p0 : Pos} {fa : Fa} {x : Str} {j n : Nat} {F : Fd}
end
section
variable {P : Program} {w : World} {K : PySem.W.Frag} {mg : Str → Option Value} {base : Heap} {Tb : List NdefX.NTab}
end
end Dl
/-! Dl19: try: .. except C as e: .., several clauses; the caught error is known as data. -/
namespace Dl
open PySem PySem.Spec PyProof.Rows L2
section
variable {X : Cx} {pins : List (Addr × Obj)} {σ : L2.St} {H : Hp} {s : Shared}
end
inductive HN (X : Cx) (n : Str) : List ExceptHandler → List (Value × TS) → Prop
  | nil : HN X n [] []
  | cons {x : Str} {c : Value} {ts : TS} {b0 : Stmt} {suite : List Stmt} {np pos' : Pos} {hds : List ExceptHandler} {l : List (Value × TS)} (hc : Names X x c) (hsu : ∀ (a : Addr) (pn : List (Addr × Obj)), PSs (X.suite a pn) (b0 :: suite) ts) (r : HN X n hds l) :
      HN X n (.ExceptHandler (some (.Name x np)) (some n) (b0 :: suite) pos' :: hds) ((c, ts) :: l)
end Dl
/-! Dl20: try by functions. -/
namespace Dl
open PySem PySem.Spec PyProof.Rows L2
inductive HND (X : Dx) (n : Str) : List ExceptHandler → List Value → List Fs → Prop
  | nil : HND X n [] [] []
  | cons {x : Str} {c : Value} {g : Fs} {b0 : Stmt} {suite : List Stmt} {np pos' : Pos} {hds : List ExceptHandler} {cs : List Value} {gs : List Fs} (hc : Names X x c) (hsu : ∀ (a : Addr) (pn : List (Addr × Obj)) (I : Iv), Ssl ⟨X.toCx.suite a pn, I, X.T⟩ xNo (b0 :: suite) g) (r : HND X n hds cs gs) :
      HND X n (.ExceptHandler (some (.Name x np)) (some n) (b0 :: suite) pos' :: hds) (c :: cs) (g :: gs)
def tsW (X : Dx) (su : List Stmt) : TS := fun D σ H => ∀ (a : Addr) (pn : List (Addr × Obj)), SWs ⟨X.toCx.suite a pn, X.iv, X.T⟩ su D σ H
theorem HND.hn {X : Dx} {n : Str} : ∀ {hds : List ExceptHandler} {cs : List Value} {gs : List Fs}, HND X n hds cs gs → ∃ l : List (Value × TS), HN X n hds l ∧ l.map (·.1) = cs ∧
    ∀ (k : Nat) (g : Fs), gs[k]? = some g → ∃ (v : Value) (su : List Stmt), l[k]? = some (v, tsW X su) ∧ ∀ (a : Addr) (pn : List (Addr × Obj)) (I : Iv), Ssl ⟨X.toCx.suite a pn, I, X.T⟩ xNo su g
  | _, _, _, .nil => ⟨[], .nil, rfl, fun k g e => by cases e⟩
  | _, _, _, @HND.cons _ _ x c g b0 suite np pos' hds cs gs hc hsu r => by
    obtain ⟨l, h1, h2, h3⟩ := HND.hn r
    refine ⟨(c, tsW X (b0 :: suite)) :: l, .cons hc (fun a pn => ⟨fun pins s σ H D I h => h a pn pins s I⟩) h1, by rw [List.map_cons, h2], fun k g' e => ?_⟩
    cases k with
    | zero => cases e; exact ⟨c, _, rfl, hsu⟩
    | succ k => exact h3 k g' e
end Dl
/-! Dl21: f(lambda: e), where f is a def of the form: try: return ('value', a()) / except .. -/
namespace Dl
open PySem PySem.Spec PyProof.Rows L2 LamX
end Dl
/-! Dl22: the call f(lambda: e) by functions. -/
namespace Dl
open PySem PySem.Spec PyProof.Rows L2 LamX
end Dl
/-! Dl23: f(lambda: e): the rule. -/
namespace Dl
open PySem PySem.Spec PyProof.Rows L2 LamX
/-- a table that tells one name -/
def oneT (p : Addr × Str) : NdefX.NTab := (p.1, fun _ _ => p.2)
/-- the table of a def's code -/
structure TabOf (X : Dx) : Prop where
  ex : ∃ (c P : Addr) (T0 : List (Addr × Str)), TabB X.base X.mg c P ∧ X.env.code = .ref c ∧ X.T = T0.map oneT ∧ (P, X.env.qual ++ "<lambda>") ∈ T0 ∧ ∀ p ∈ T0, p.1 = P → p.2 = X.env.qual ++ "<lambda>"
end Dl
/-! Dl24: what the head tells of the classes of errors. -/
namespace Dl
open PySem PySem.Spec PyProof.Rows L2
def slB (sl : Array (Option Value)) : Bool := match sl.toList with
  | [_, _, _, _, some (.builtin n), _] => decide (n = "ValueError.__new__")
  | _ => false
theorem slB_ok {sl : Array (Option Value)} (h : slB sl = true) : ∃ k0 k1 k2 k3 k5, sl = #[k0, k1, k2, k3, some (.builtin "ValueError.__new__"), k5] := by
  unfold slB at h
  split at h
  · rename_i k0 k1 k2 k3 n k5 e
    refine ⟨k0, k1, k2, k3, k5, ?_⟩
    rw [of_decide_eq_true h] at e
    exact Array.toList_inj.mp e
  · cases h
def oexB (K : PySem.W.Frag) (C : Addr) : Bool := (match K.lookup C with
  | some ⟨.type t, _, .cls cd, sl⟩ => decide (t = "type") && (cd.hasDict && (!cd.hasDel && (slB sl && (match cd.mro with
    | .ref D :: bm => decide (D = C) && PySem.HandSPX.refsVE bm
    | _ => false))))
  | _ => false) && (decide (PySem.W.findIn K (.ref C) "__setattr__" = some (some (.builtin "object.__setattr__"))) && (decide (PySem.W.subIn K (.ref C) (.type "BaseException") = some true) && (decide (PySem.W.typeIn K (.ref C) = some (.type "type")) && PySem.W.keepIn K (.ref C))))
theorem oexB_ok {K : PySem.W.Frag} {C : Addr} (h : oexB K C = true) : OexC K C := by
  obtain ⟨h0, h1⟩ := He.ba h
  obtain ⟨h1, h2⟩ := He.ba h1
  obtain ⟨h2, h3⟩ := He.ba h2
  obtain ⟨h3, h4⟩ := He.ba h3
  refine ⟨?_, of_decide_eq_true h1, of_decide_eq_true h2, of_decide_eq_true h3, h4⟩
  split at h0
  · rename_i t d cd sl e
    obtain ⟨a1, h0⟩ := He.ba h0
    obtain ⟨a2, h0⟩ := He.ba h0
    obtain ⟨a3, h0⟩ := He.ba h0
    obtain ⟨a4, h0⟩ := He.ba h0
    split at h0
    · rename_i D bm em
      obtain ⟨a5, a6⟩ := He.ba h0
      obtain ⟨k0, k1, k2, k3, k5, es⟩ := slB_ok a4
      obtain ⟨nm, bs, mro, ns, qn, hd, sn, sb, ab, col, del⟩ := cd
      dsimp only at a2 a3 em
      have a1 := of_decide_eq_true a1
      have a5 := of_decide_eq_true a5
      subst a1 a2 a5 em es
      have a3 : del = false := by cases del <;> first | rfl | cases a3
      subst a3
      exact ⟨nm, qn, ns, bs, bm, sn, sb, ab, col, d, k0, k1, k2, k3, k5, e, a6⟩
    · cases h0
  · cases h0
def xfd (K : PySem.W.Frag) (c : Str) : Option FuncData := match K.lookup (He.ma K (He.ga K c) "__init__") with
  | some ⟨_, _, .func fd, _⟩ => some fd
  | _ => none
abbrev FnE : Type := Option (Str × Str × Arguments × FuncBody × Scope × Addr × Addr × List Str)
def fnE (K : PySem.W.Frag) (c : Str) : FnE := (xfd K c).map fun fd => (fd.name, fd.qualname, fd.params, fd.body, fd.scope, fd.globals, fd.builtins, fd.closure.map (·.1))
/-- a class of errors of the text: its __init__ -/
structure XD where
  c : Str
  params : Arguments
  body : List Stmt
  scope : Scope
  own : Bool := false
def XD.val (d : XD) : FnE := some ("__init__", d.c ++ ".__init__", d.params, .stmts d.body, d.scope, mainGlobals, builtinsNs, ["__class__"])
def cellB (K : PySem.W.Frag) (cc C : Addr) : Bool := match K.lookup cc with
  | some ⟨_, _, .cell (some (.ref D)), _⟩ => decide (D = C)
  | _ => false
def fileB (P : Program) (K : PySem.W.Frag) (cda : Addr) : Bool := match K.lookup cda with
  | some ⟨_, _, .fields vs, _⟩ => (match (vs[2]? : Option Value) with
    | some (.str file _) => (P.main.file : Str) == file
    | _ => false)
  | _ => false
def supB (K : PySem.W.Frag) (C : Addr) : Bool := match PySem.W.clsIn K C with
  | some cd => decide (PySem.W.alongIn K "__init__" ((cd.mro.dropWhile (· != .ref C)).drop 1) = some (some (.builtin "ValueError.__init__")))
  | none => false
def exB (P : Program) (flds : List Str) (K : PySem.W.Frag) (c : Str) : Bool :=
  He.eqO (PySem.W.nsIn K mainGlobals c) (some (some (.ref (He.ga K c)))) && (oexB K (He.ga K c) && (xfB K (He.ga K c) && (He.eqO (PySem.W.findIn K (.ref (He.ga K c)) "__init__") (some (some (.ref (He.ma K (He.ga K c) "__init__")))) &&
    (decide (PySem.W.typeIn K (.ref (He.ma K (He.ga K c) "__init__")) = some (.type "function")) && ((flds.all fun n => He.eqO (PySem.W.findIn K (.ref (He.ga K c)) n) (some none)) && (supB K (He.ga K c) &&
    (decide (PySem.W.subIn K (.ref (He.ga K c)) (.type "ValueError") = some true) && (decide (PySem.W.mroIn K (He.ga K c) (.ref (He.ga K c)) = some true) && (He.eqO (PySem.W.nsIn K PySem.cStatics "thirdparty.any") (some none) &&
    (match xfd K c with
    | some fd => decide (fd.defaults = .none) && (match fd.closure, fd.code with
      | [(_, cc)], .ref cda => PySem.W.codeIn K (.ref cda) fd.qualname && (cellB K cc (He.ga K c) && fileB P K cda)
      | _, _ => false)
    | none => false))))))))))
theorem exB_ok {P : Program} {K : PySem.W.Frag} {h : Heap} {mg : Str → Option Value} {flds : List Str} {d : XD} (X : K.In h) (G : h.Ns mainGlobals mg) (e : exB P flds K d.c = true) (ef : fnE K d.c = d.val) :
    ∃ (C fI cc cda : Addr) (kV doc pm ct oc : Value) (an od : Option Addr) (osl : Array (Option Value)), mg d.c = some (.ref C) ∧ XCls P K C fI cc cda ∧ XfC K C ∧ PySem.W.findIn K (.ref C) "__init__" = some (some (.ref fI)) ∧ PySem.W.typeIn K (.ref fI) = some (.type "function") ∧
      (∀ n, flds.contains n = true → PySem.W.findIn K (.ref C) n = some none) ∧ PySem.W.codeIn K (.ref cda) (d.c ++ ".__init__") = true ∧
      K.lookup fI = some ⟨oc, od, .func (PySem.W.ksFn "__init__" (d.c ++ ".__init__") d.params d.body d.scope .none kV doc pm an (.ref cda) ct cc), osl⟩ := by
  unfold exB at e
  obtain ⟨e1, e⟩ := He.ba e
  obtain ⟨e2, e⟩ := He.ba e
  obtain ⟨e3, e⟩ := He.ba e
  obtain ⟨e4, e⟩ := He.ba e
  obtain ⟨e5, e⟩ := He.ba e
  obtain ⟨e6, e⟩ := He.ba e
  obtain ⟨e7, e⟩ := He.ba e
  obtain ⟨e8, e⟩ := He.ba e
  obtain ⟨e9, e⟩ := He.ba e
  obtain ⟨e10, e⟩ := He.ba e
  cases hx : xfd K d.c with
  | none => rw [hx] at e; cases e
  | some fd =>
    rw [hx] at e
    obtain ⟨e11, e⟩ := He.ba e
    have ef' : some (fd.name, fd.qualname, fd.params, fd.body, fd.scope, fd.globals, fd.builtins, fd.closure.map (·.1)) = d.val := by
      rw [← ef]
      unfold fnE
      rw [hx] <;> rfl
    split at e
    · rename_i nm cc cda hcl hco
      obtain ⟨e12, e⟩ := He.ba e
      obtain ⟨e13, e14⟩ := He.ba e
      unfold xfd at hx
      split at hx
      · rename_i oc od fd' osl hl
        cases hx
        obtain ⟨name, qn, params, body, scope, glob, clo, dfl, kw, doc, pm, an, cod, clt, blt⟩ := fd
        unfold XD.val at ef'
        simp only [Option.some.injEq, Prod.mk.injEq] at ef'
        obtain ⟨f1, f2, f3, f4, f5, f6, f7, f8⟩ := ef'
        dsimp only at e11 hcl hco e12
        have e15 := of_decide_eq_true e11
        clear e11
        subst f1 f2 f3 f4 f5 f6 f7 e15 hcl hco
        have f8 : nm = "__class__" := by
          have z : [nm] = [("__class__" : Str)] := f8
          injection z
        subst f8
        refine ⟨He.ga K d.c, He.ma K (He.ga K d.c) "__init__", cc, cda, kw, doc, pm, clt, oc, an, od, osl, PySem.W.mg_of X G (He.eqO_ok e1), ⟨oexB_ok e2, ?_, of_decide_eq_true e8, of_decide_eq_true e9, He.eqO_ok e10, ?_, ?_⟩, xfB_ok e3, He.eqO_ok e4, of_decide_eq_true e5, fun n hn => ?_, e12, hl⟩
        · unfold supB at e7
          cases q : PySem.W.clsIn K (He.ga K d.c) with
          | none => rw [q] at e7; cases e7
          | some cd => rw [q] at e7; exact ⟨cd, rfl, of_decide_eq_true e7⟩
        · unfold cellB at e13
          split at e13
          · rename_i D _ q
            exact ⟨_, q, by rw [of_decide_eq_true e13]⟩
          · cases e13
        · unfold fileB at e14
          split at e14
          · rename_i vs _ q
            split at e14
            · rename_i file tf q2
              exact ⟨_, vs, file, tf, q, rfl, q2, e14⟩
            · cases e14
          · cases e14
        · exact He.eqO_ok (List.all_eq_true.mp e6 n (by simpa using hn))
      · cases hx
    · cases e
end Dl
/-! Dl25: the head's hook; the end of a law. -/
namespace Dl
open PySem PySem.Spec PyProof.Rows L2 LamX
/-- all addresses below n -/
def asE (_ : Addr → Option Obj) (n : Nat) : List Addr := List.range n
def frE (g : Addr → Option Obj) (n : Nat) : PySem.W.Frag := He.frT g (asE g n)
abbrev AlE : Type := He.AlD × Bool × List FnE
def exAll (P : Program) (gs : List (Str × D)) (xs : List XD) (flds : List Str) (more : PySem.W.Frag → Bool) (K : PySem.W.Frag) : Bool := gAll gs K && ((xs.all fun d => d.own || exB P flds K d.c) && more K)
def obsE (P : Program) (n : Nat) (fa : List He.Fa) (fn : List He.DefD) (tf : List He.Defn) (gs : List (Str × D)) (xs : List XD) (flds : List Str) (more : PySem.W.Frag → Bool) (g : Addr → Option Obj) : AlE :=
  (He.obsD fa fn (frE g n), exAll P gs xs flds more (frE g n) && He.tabsB g tf (frE g n), xs.map fun d => fnE (frE g n) d.c)
structure SaysE (P : Program) (fa : List He.Fa) (fn : List He.DefD) (tf : List He.Defn) (gs : List (Str × D)) (xs : List XD) (flds : List Str) (more : PySem.W.Frag → Bool) (h : Heap) (K : PySem.W.Frag) : Prop where
  d : He.SaysD fa fn K
  gl : gAll gs K = true
  ex : ∀ d ∈ xs, (d.own = false → exB P flds K d.c = true) ∧ fnE K d.c = d.val
  more : more K = true
  hd : ∀ p ∈ tf, PySem.W.codeHdIn K (He.cT K p).1 (He.cT K p).2 = true
  out : ∀ p ∈ tf, K.lookup (He.cT K p).2 = none
  empty : ∀ p ∈ tf, h.get? (He.cT K p).2 = some { cls := .none, data := .fields #[] }
theorem saysE_of {P : Program} {n : Nat} {fa : List He.Fa} {fn : List He.DefD} {tf : List He.Defn} {gs : List (Str × D)} {xs : List XD} {flds : List Str} {more : PySem.W.Frag → Bool} {h : Heap} (e : obsE P n fa fn tf gs xs flds more h.get? = (He.valD fn, true, xs.map XD.val)) : SaysE P fa fn tf gs xs flds more h (frE h.get? n) := by
  have e1 : He.obsD fa fn (frE h.get? n) = He.valD fn := congrArg (fun z : AlE => z.1) e
  have e2 : (exAll P gs xs flds more (frE h.get? n) && He.tabsB h.get? tf (frE h.get? n)) = true := congrArg (fun z : AlE => z.2.1) e
  have e3 : (xs.map fun d => fnE (frE h.get? n) d.c) = xs.map XD.val := congrArg (fun z : AlE => z.2.2) e
  obtain ⟨a1, a2⟩ := He.ba e2
  obtain ⟨a3, a4⟩ := He.ba a1
  obtain ⟨a5, a6⟩ := He.ba a4
  have tab : ∀ p ∈ tf, PySem.W.codeHdIn (frE h.get? n) (He.cT (frE h.get? n) p).1 (He.cT (frE h.get? n) p).2 = true ∧ ∃ o, h.get? (He.cT (frE h.get? n) p).2 = some o ∧ He.emptyTab o = true := fun p hp => by
    obtain ⟨b1, b2⟩ := He.ba (List.all_eq_true.mp a2 p hp)
    cases q : h.get? (He.cT (frE h.get? n) p).2 with
    | none => rw [q] at b2; cases b2
    | some o => rw [q] at b2; exact ⟨b1, o, rfl, b2⟩
  refine ⟨e1, a3, fun d hd => ⟨fun ho => by
    have := List.all_eq_true.mp a5 d hd
    rw [ho] at this
    exact this, ?_⟩, a6, fun p hp => (tab p hp).1, fun p hp => ?_, fun p hp => ?_⟩
  · obtain ⟨i, hi, rfl⟩ := List.mem_iff_getElem.mp hd
    have z := congrArg (fun l : List FnE => l[i]?) e3
    simp only [List.getElem?_map, List.getElem?_eq_getElem hi, Option.map_some] at z
    exact Option.some.inj z
  · obtain ⟨_, o, q, z⟩ := tab p hp
    exact He.frT_none q z
  · obtain ⟨_, o, q, z⟩ := tab p hp
    rw [q, He.emptyTab_eq z]
/-- a heap of a law's start without its tables is known by value -/
def noTab (H : Hp) : Hp := fun a => match H a with
  | some (.tbl _) => none
  | o => o
theorem noTab_sub (H : Hp) : Sub (noTab H) H := fun a o e => by
  unfold noTab at e
  cases q : H a with
  | none => rw [q] at e; cases e
  | some u =>
    rw [q] at e
    cases u <;> first | exact e | cases e
theorem noTab_nt (H : Hp) : ∀ a ps, noTab H a ≠ some (.tbl ps) := fun a ps e => by
  unfold noTab at e
  cases q : H a with
  | none => rw [q] at e; cases e
  | some u => rw [q] at e; cases u <;> cases e
theorem noTab_get {H : Hp} {a : Addr} {o : HO} (h : H a = some o) (n : NoT o) : noTab H a = some o := by
  unfold noTab
  rw [h]
  cases o <;> first | rfl | exact (n _ rfl).elim
theorem noTab_sqL {K : PySem.W.Frag} {H : Hp} {a : Addr} {xs : List V} (h : SqL K H a xs) : SqL K (noTab H) a xs := by
  rcases h with (h | ⟨o, h⟩) | h
  · exact .inl (.inl (noTab_get h nt_lst))
  · exact .inl (.inr ⟨o, noTab_get h (fun _ z => nomatch z)⟩)
  · exact .inr h
/-- a law's end: the script is data; the tables stand empty -/
theorem law_start {K : PySem.W.Frag} {mg : Str → Option Value} {Tb : List NdefX.NTab} {H : Hp} {a : Addr} {ns : List Int} {E : XK} {F : Fd} (hT : ∀ p ∈ Tb, H p.1 = some (.tbl #[])) (h : SqL K H a (ns.map V.int)) (hF : F [.v (.lst (ns.map .int))] [] = .ok (.v (.bl true)) []) :
    spG ⟨K, mg, Tb, P, w⟩ 1 (FR F) [.ref a] H (fun v _ => v = .bl true) E := by
  refine ⟨[], noTab H, [], [.v (.lst (ns.map .int))], mm_nil (noTab_sub H) (noTab_nt H) (fun p hp => NdefX.TabN.nil (hT p hp)), .cons (.lst (noTab_sqL h) (script_rep ns)) .nil, rfl, ?_⟩
  unfold FR
  rw [hF]
  intro v G' H' _ _ r _
  cases (show Rep ⟨K, mg, Tb, P, w⟩ G' v (.bl true) from r)
  rfl
end Dl
/-! Dl26: defs with lambdas; helpers for the printed texts. -/
namespace Dl
open PySem PySem.Spec PyProof.Rows L2 LamX
def cBody : Stmt → List Stmt
  | .ClassDef _ _ _ b _ _ _ _ _ _ _ => b
  | _ => []
def cItem (st : Stmt) (i : Nat) : Stmt := (cBody st).getD i (.Pass ⟨0, 0, 0, 0⟩)
/-- the table of a def's code object -/
def TabD (mg : Str → Option Value) (base : Heap) (Tb : List NdefX.NTab) (fd : FuncData) (q : Str) : Prop := ∃ (c Pt : Addr) (T0 : List (Addr × Str)), fd.code = .ref c ∧ TabB base mg c Pt ∧ Tb = T0.map oneT ∧ (Pt, q) ∈ T0 ∧ ∀ p ∈ T0, p.1 = Pt → p.2 = q
section
variable {P : Program} {w : World} {K : PySem.W.Frag} {mg : Str → Option Value} {base : Heap} {Tb : List NdefX.NTab}
/-- two-parameter and one-parameter __init__: the names -/
theorem look2 {a b : Str} (h : (a == b) = false) : ∀ (us : List Value) (i : Nat) (x : Str) (u : Value), us.length = [a, b].length → [a, b][i]? = some x → us[i]? = some u → ([a, b].zip us).reverse.lookup x = some u := fun us i x u hl hx hu => by
  match us, hl with
  | [p, q], _ =>
    match i, hx, hu with
    | 0, hx, hu => cases hx; cases hu; simp [List.lookup_cons, h]
    | 1, hx, hu => cases hx; cases hu; simp [List.lookup_cons]
    | i + 2, hx, _ => simp at hx
end
end Dl
/-! Dl27: small helpers for the printed texts. -/
namespace Dl
open PySem PySem.Spec PyProof.Rows L2
theorem repf_map {C : Cn} {G : Hp} {f g : Str} {z : Str} : ∀ {us : List V} {ds : List D}, Reps C G us ds → RepF C G (us.map (fun u => (f, u)) ++ [(g, V.str z)]) (ds.map (fun d => (f, d)) ++ [(g, .str z)])
  | _, _, .nil => .cons (.str z) .nil
  | _, _, .cons h r => .cons h (repf_map r)
theorem PyScopeFree {sc : Scope} {x : Str} (h : sc.names.lookup x = some .free) (ok : sc.names.all (fun y => !decide (y.2 = .free) || decide (y.1 = "__class__")) = true) : x = "__class__" := by
  have z := List.all_eq_true.mp ok (x, .free) (PySem.mem_of_lookup h)
  simpa using z
end Dl
/-! Dl28: helpers for the join. -/
namespace Dl
open PySem PySem.Spec PyProof.Rows L2 LamX
theorem tb_start {H : Hp} {cs : List (Addr × Addr)} {Tb : List NdefX.NTab} (h : ∀ p ∈ cs, H p.2 = some (.tbl #[])) (hs : ∀ p ∈ Tb, ∃ q ∈ cs, q.2 = p.1) : ∀ p ∈ Tb, H p.1 = some (.tbl #[]) := fun p hp => by
  obtain ⟨q, hq, e⟩ := hs p hp
  rw [← e]
  exact h q hq
theorem HasA.up {P : Program} {w : World} {K : PySem.W.Frag} {mg : Str → Option Value} {Tb : List NdefX.NTab} {base : Heap} {x : Str} {j k n : Nat} {F : FS} (h : HasA P w K mg Tb base x j n F) (le : j ≤ k) : HasA P w K mg Tb base x k n F := by
  obtain ⟨f, fd, ps, ok, a, b, c⟩ := h.ex
  exact ⟨f, fd, ps, ⟨ok.len, fun A outer s H args us vs Q E hr => ok.run A outer s H args us vs Q E (hr.mono le)⟩, a, b, c⟩
end Dl
/-! El29: sorted. -/
namespace Dl
open PySem PySem.Spec PyProof.Rows L2
open PySem.W (EachIs dataLe AllAlike Sortable alike SortsAt dataKind sortVals sortVals_data sortVals_length list_sort_vals sortingHeap sortingHeap_old each_map bound_map)
section
variable {prog : Program} {w : World} {A : Around} {E : Value → Shared → Prop} {s : Shared} {β : Type}
/-- what a sorted list asks of the things it is made from -/
structure SortIn (A : Around) (h : Heap) (vs : List Value) (bs : List β) (R : Value → β → Prop) (enc : β → PyData) : Prop where
  r : EachIs R vs bs
  rd : EachIs (fun v b => ∃ as, Reads h v (enc b) as) vs bs
  al : AllAlike (bs.map enc)
  so : Sortable (bs.map enc)
  len : bs.length ≤ sizeLine
  room : ∀ b ∈ bs, A.units + 2 + (enc b).depth < cLine
theorem sorted_from {x : Value} {R : Value → β → Prop} {enc : β → PyData} {Q : Value → Shared → Prop}
    (hcol : wpAny (model prog w) A.in1 (collect x) (fun vs s1 => ∃ bs, SortIn A s1.heap vs bs R enc ∧
      ∀ out c h', (∀ b o, s1.heap.get? b = some o → h'.get? b = some o) → h'.get? s1.heap.objs.size = some (seqObj "list" (List.toArray out) c) → EachIs R out (bs.mergeSort (dataLe false enc)) → Q (.ref s1.heap.objs.size) { s1 with heap := h' }) E s) :
    wpAny (model prog w) A (call (.builtin "sorted") [x]) Q E s := by
  refine Calls.call_function_entry kind_sorted plain_sorted entry_sorted (args_sorted1 _) ?_
  unfold Builtin.«sorted»
  refine wpAny_bind (m := checkCount "sorted" 1 1 _) (wpAny_pure ?_)
  refine wpAny_bind (wpAny_mono hcol (fun vs s1 h => ?_) fun _ _ e => e)
  obtain ⟨bs, S, fin⟩ := h
  have hL : vs.length ≤ sizeLine := by rw [S.r.length]; exact S.len
  refine wpAny_bind (wpAny_newList ?_ hL)
  have hoL : (s1.heap.push (seqObj "list" vs.toArray 0)).get? s1.heap.objs.size = some (seqObj "list" vs.toArray 0) := Heap.get?_push_size _ rfl
  have kp : ∀ b o, s1.heap.get? b = some o → (sortingHeap (s1.heap.push (seqObj "list" vs.toArray 0)) s1.heap.objs.size vs).get? b = some o := fun b o e =>
    sortingHeap_old (Nat.ne_of_lt (Heap.lt_size e)) (Heap.get?_push_of_some _ e)
  have er' : EachIs (fun v b => ∃ as, Reads (sortingHeap (s1.heap.push (seqObj "list" vs.toArray 0)) s1.heap.objs.size vs) v (enc b) as) vs bs := S.rd.mono fun _ _ ⟨as, r⟩ => ⟨as, PyProof.Rows.Reads.keeps kp r⟩
  have SA : SortsAt prog w A.in1.in1 { s1 with heap := sortingHeap (s1.heap.push (seqObj "list" vs.toArray 0)) s1.heap.objs.size vs } (dataKind (sortingHeap (s1.heap.push (seqObj "list" vs.toArray 0)) s1.heap.objs.size vs) (bs.map enc)) vs :=
    SortsAt.data (each_map (R := fun v d => ∃ as, Reads (sortingHeap (s1.heap.push (seqObj "list" vs.toArray 0)) s1.heap.objs.size vs) v d as) enc er') S.al S.so (bound_map S.room)
  refine wpAny_bind (wpAny_holding (wpAny_call_entry slot_list_sort ⟨_, hoL, rfl⟩ entry_list_sort ?_ (args_list_sort _)))
  refine list_sort_vals (s := { s1 with heap := s1.heap.push (seqObj "list" vs.toArray 0) }) (A := A.in1.in1) hoL SA hL ?_
  obtain ⟨c, hc⟩ := sortedHeap_at (vs := vs) (out := (sortVals (dataKind (sortingHeap (s1.heap.push (seqObj "list" vs.toArray 0)) s1.heap.objs.size vs) (bs.map enc)) false vs vs).toArray) hoL
  refine ⟨_, rfl, wpAny_pure ⟨_, rfl, fin _ c _ (fun b o q => ?_) hc (sortVals_data false S.r er' S.al)⟩⟩
  have hb := Heap.lt_size q
  show (sortedHeap _ _ _ _).get? b = some o
  rw [sortedHeap_old (Nat.ne_of_lt hb) (by rw [size_push']; exact Nat.lt_succ_of_lt hb)]
  exact Heap.get?_push_of_some _ q
end
theorem room_hv {k : Nat} {A : Around} (r : Room k A) : A.units + 67 < cLine := by have := r.un; omega
/-! ### data -/
theorem each_of {C : Cn} {G : Hp} : ∀ {xs : List V} {us : List Value} {ds : List D}, Vals xs us → Reps C G xs ds → EachIs (fun u d => ∃ v, RelV v u ∧ Rep C G v d) us ds
  | _, _, _, .nil, .nil => .nil
  | _, _, _, .cons r t, .cons q t' => .cons ⟨_, r, q⟩ (each_of t t')
theorem each_back {C : Cn} {G : Hp} : ∀ {us : List Value} {ds : List D}, EachIs (fun u d => ∃ v, RelV v u ∧ Rep C G v d) us ds → ∃ xs, Vals xs us ∧ Reps C G xs ds
  | _, _, .nil => ⟨[], .nil, .nil⟩
  | _, _, .cons ⟨v, r, q⟩ t => let ⟨xs, a, b⟩ := each_back t; ⟨v :: xs, .cons r a, .cons q b⟩
def tup1 : D → Bool
  | .tup (_ :: _) => true
  | _ => false
def notNT : D → Bool
  | .int _ => true
  | .str _ => true
  | .bl _ => true
  | .lst _ => true
  | _ => false
def alk (ds : List D) : Bool := ds.all fun d => ds.all fun e => alike (toPy d) (toPy e)
def srtOk (ds : List D) : Bool := ds.all sh && alk ds && (ds.all tup1 || ds.all notNT)
noncomputable def sortD (ds : List D) : List D := ds.mergeSort (dataLe false toPy)
theorem srt_alike {ds : List D} (h : srtOk ds = true) : AllAlike (ds.map toPy) := by
  simp only [srtOk, alk, Bool.and_eq_true, List.all_eq_true] at h
  intro d hd e he
  obtain ⟨x, hx, rfl⟩ := List.mem_map.mp hd
  obtain ⟨y, hy, rfl⟩ := List.mem_map.mp he
  exact h.1.2 x hx y hy
theorem srt_sh {ds : List D} (h : srtOk ds = true) : ∀ d ∈ ds, sh d = true := by
  simp only [srtOk, Bool.and_eq_true, List.all_eq_true] at h
  exact h.1.1
theorem srt_so {ds : List D} (h : srtOk ds = true) : Sortable (ds.map toPy) := by
  simp only [srtOk, Bool.and_eq_true, Bool.or_eq_true, List.all_eq_true] at h
  rcases h.2 with h | h
  · refine .inl fun d hd => ?_
    obtain ⟨x, hx, rfl⟩ := List.mem_map.mp hd
    have := h x hx
    unfold tup1 at this
    split at this
    · exact ⟨_, _, rfl⟩
    · cases this
  · refine .inr fun d hd => ?_
    obtain ⟨x, hx, rfl⟩ := List.mem_map.mp hd
    have := h x hx
    cases x <;> first | (cases (show false = true from this)) | exact ⟨by simp [toPy], by simp [toPy]⟩
section
variable {X : Dx} {pins : List (Addr × Obj)} {σ : L2.St} {H G : Hp} {s : Shared} {C : Cn}
theorem each_reads {us : List Value} (I : Inv X pins σ H s) (hK : C.K = X.K) (sub : Sub G H) : ∀ {us : List Value} {ds : List D}, (∀ d ∈ ds, sh d = true) → EachIs (fun u d => ∃ v, RelV v u ∧ Rep C G v d) us ds → EachIs (fun u d => ∃ as, Reads s.heap u (toPy d) as) us ds
  | _, _, _, .nil => .nil
  | _, d :: _, h, .cons ⟨v, r, q⟩ t => by
    have z := (q.mono sub).dpS (h d List.mem_cons_self)
    rw [hK] at z
    exact .cons (Dp.reads I _ v _ z r) (each_reads I hK sub (us := us) (fun e he => h e (List.mem_cons_of_mem _ he)) t)
theorem sort_in {us : List Value} {ds : List D} (hu : X.A.units + 67 < cLine) (I : Inv X pins σ H s) (hK : C.K = X.K) (sub : Sub G H) (hs : srtOk ds = true) (hl : ds.length ≤ sizeLine) (e : EachIs (fun u d => ∃ v, RelV v u ∧ Rep C G v d) us ds) :
    SortIn X.A s.heap us ds (fun u d => ∃ v, RelV v u ∧ Rep C G v d) toPy where
  r := e
  rd := each_reads (us := us) I hK sub (srt_sh hs) e
  al := srt_alike hs
  so := srt_so hs
  len := hl
  room := fun b hb => by
    have := SeqAt.depth_of_shaped (srt_sh hs b hb)
    omega
end
noncomputable def sortedR (d : D) (m : Mem) : Rg Rs := optR (seqD d) fun ds => if srtOk ds = true then .ok (.nl (sortD ds)) m else .no
noncomputable def sortedS (a : Fe) : Fe := rd1S a sortedR
section
variable {X : Dx} {E : XE} {e : Expr} {p0 pos : Pos} {f : Fe}
def rSort (X : Dx) : List V → Hp → VK → Prop := fun vs H Q => ∃ (a : Addr) (xs : List V) (ds : List D) (C : Cn) (G : Hp), C.K = X.K ∧ Sub G H ∧ vs = [V.ref a] ∧ (SqL X.K H a xs ∨ SqT X.K H a xs) ∧ Reps C G xs ds ∧ srtOk ds = true ∧
  ∀ ys p, Reps C G ys (sortD ds) → H p = none → Q (.ref p) (upd H p (.lst ys))
theorem cr_sort (hu : X.A.units + 67 < cLine) : CallR X.toCx (.builtin "sorted") (rSort X) := by
  intro pins s σ H vs us Q I r h
  obtain ⟨a, xs, ds, C, G, hK, sub, rfl, hs, hr, ho, q⟩ := h
  obtain ⟨u, rfl, ru⟩ := vals1 r
  obtain rfl : u = Value.ref a := ru
  have fin : ∀ (its : List Value), Vals xs its → xs.length ≤ sizeLine → ∀ h' : Heap, (∀ b o, s.heap.get? b = some o → h'.get? b = some o) →
      ∃ bs, SortIn X.A h' its bs (fun u d => ∃ v, RelV v u ∧ Rep C G v d) toPy ∧
      ∀ out c h2, (∀ b o, h'.get? b = some o → h2.get? b = some o) → h2.get? h'.objs.size = some (seqObj "list" (List.toArray out) c) → EachIs (fun u d => ∃ v, RelV v u ∧ Rep C G v d) out (bs.mergeSort (dataLe false toPy)) → EP X.toCx pins σ Q (.ref h'.objs.size) { { s with heap := h' } with heap := h2 } := by
    intro its rv hz h' k1
    have I1 : Inv X.toCx pins σ H { s with heap := h' } := I.kept (t' := s.toks) k1
    have el : ds.length = xs.length := hr.length.symm
    refine ⟨ds, sort_in hu I1 hK sub ho (by omega) (each_of rv hr), fun out c h2 k2 hg eo => ?_⟩
    obtain ⟨ys, rv2, rp2⟩ := each_back eo
    have I2 : Inv X.toCx pins σ (upd H h'.objs.size (.lst ys)) { s with heap := h2 } :=
      I1.laid (t' := s.toks) k2 (Nat.le_refl _) (show ObjOk X.prog X.w _ h2 _ (.lst ys) from ⟨by
        have := rp2.length
        rw [this]
        show (ds.mergeSort _).length ≤ _
        rw [List.length_mergeSort]
        omega, out, c, rv2, hg⟩)
    exact ⟨.ref h'.objs.size, _, I2, rfl, q ys _ rp2 (I1.hok.fresh (Nat.le_refl _))⟩
  rcases hs with hs | hs
  · obtain ⟨its, rv, pl, hz⟩ := I.list hs
    obtain ⟨o, ho2, hc, n, hd⟩ := pl.isList
    have hlen := rv.length
    exact sorted_from (wpAny_collect_seq a (.inl rfl) ho2 hc hd (fun h' kp => by simpa using fin its rv hz h' kp) (by simp only [List.size_toArray]; omega))
  · obtain ⟨its, rv, pl, hz⟩ := I.tuple hs
    obtain ⟨o, ho2, hc, n, hd⟩ := pl
    have hlen := rv.length
    exact sorted_from (wpAny_collect_seq a (.inr rfl) ho2 hc hd (fun h' kp => by simpa using fin its rv hz h' kp) (by simp only [List.size_toArray]; omega))
theorem ev_sorted {env : Envt} {mem : Mem} {P : Rs → Mem → Prop} (hu : X.A.units + 67 < cLine) (hm : X.mg "sorted" = none) (h : EV X e env mem (rd fun x m => ∃ ds, seqD x = some ds ∧ srtOk ds = true ∧ P (.nl (sortD ds)) m)) (hg : Gl X "sorted" := by rfl) (he : starEach [e] X.env = (false, eval e X.env) :: starEach [] X.env := by rfl) : EV X (.Call (.Name "sorted" p0) [e] [] pos) env mem P := by
  refine ev_B (cr_sort hu) (by decide +kernel) hm (av_arg h he) (fun as G σ H vs rs m k ro q => ?_) (fun vs H Q Q' h ⟨a, xs, ds, C, G, a1, a2, a3, a4, a5, a6, q⟩ => ⟨a, xs, ds, C, G, a1, a2, a3, a4, a5, a6, fun ys p b1 b2 => h _ _ (q ys p b1 b2)⟩) hg (by decide) (by decide) he rfl
  obtain ⟨v, sl, d, rfl, r1, e1, ds, hd, hso, hP⟩ := arg1_inv (H := H) ro q
  cases d <;> try cases hd
  · obtain ⟨p, ws, rfl, hq, rp⟩ := (r1.res (H := H)).tup k e1
    exact ⟨p, ws, _, _, G, rfl, k.mm.sub, rfl, .inr hq, rp, hso, fun ys p b1 b2 => Post.newList k b2 b1 hP⟩
  · obtain ⟨p, ws, rfl, hq, rp⟩ := (r1.res (H := H)).lst k e1
    exact ⟨p, ws, _, _, G, rfl, k.mm.sub, rfl, .inl hq, rp, hso, fun ys p b1 b2 => Post.newList k b2 b1 hP⟩
theorem se_sorted (hu : X.A.units + 67 < cLine) (hm : X.mg "sorted" = none) (ha : Se X E e f) (hg : Gl X "sorted" := by rfl) (he : starEach [e] X.env = (false, eval e X.env) :: starEach [] X.env := by rfl) : Se X E (.Call (.Name "sorted" p0) [e] [] pos) (sortedS f) := .mk fun env mem P h =>
  ev_sorted hu hm ((se_rd1 (α := Rs) ha h).mono fun r m ⟨d, e1, q⟩ => by
    obtain ⟨ds, e2, q2⟩ := sat_optR q
    obtain ⟨e3, q3⟩ := sat_if q2
    exact ⟨d, e1, ds, e2, e3, q3⟩) hg he
end
end Dl
/-! El30: sorted of sets of tuples of ints. -/
namespace Dl
open PySem PySem.Spec PyProof.Rows L2
open PySem.W (EachIs dataLe AllAlike Sortable alike)
/-- the pairs and longer tuples of ints -/
def encK (k : List Int) : PyData := .tuple (k.map .int)
def leK (a b : List Int) : Bool := decide (a ≤ b)
theorem le_encK : dataLe false encK = leK := by
  funext a b
  have h := congrFun (congrFun (PySem.W.dataLe_rows (fun x : List Int => x)) a) b
  exact h
def tI (k : List Int) : D := .tup (k.map .int)
section
variable {P : Program} {w : World} {A : Around} {E : Value → Shared → Prop} {s : Shared}
end
end Dl
/-! El31: sorted({elt for .. in ..}). -/
namespace Dl
open PySem PySem.Spec PyProof.Rows L2
section
variable {X : Cx}
end
/-- the set holds just these -/
structure KeysOf (L : List (Addr × List Int)) (ks : List (List Int)) : Prop where
  mem : ∀ k, k ∈ L.map (·.2) ↔ k ∈ ks
  nd : (L.map (·.2)).Nodup
  len : L.length ≤ ks.length
theorem KeysOf.nil : KeysOf [] [] := ⟨fun _ => Iff.rfl, List.nodup_nil, Nat.le_refl _⟩
end Dl
/-! El32: sorted({elt for .. in ..}) by value. -/
namespace Dl
open PySem PySem.Spec PyProof.Rows L2
section
variable {X : Dx} {tg it : Expr} {pos : Pos} {env : Envt} {mem : Mem} {elt : Expr} {ifs : List Expr} {scope : Scope} {P : List (List Int) → Mem → Prop}
end
end Dl
/-! El33: the rules for sorted({elt for .. in ..}) and sorted(set(..)). -/
namespace Dl
open PySem PySem.Spec PyProof.Rows L2
section
variable {X : Dx} {E : XE} {tg it : Expr} {p0 pos pos2 : Pos} {elt : Expr} {ifs : List Expr} {scope : Scope} {fi : Fi}
end
end Dl
/-! El34: raise X(), without arguments. -/
namespace Dl
open PySem PySem.Spec PyProof.Rows L2
end Dl
/-! El35: an expression that only reads: cells are read as values. -/
namespace Dl
open PySem PySem.Spec PyProof.Rows L2
section
variable {X : Dx} {E : XE} {e : Expr} {f : Fe} {t : Ft}
end
end Dl
/-! El36: loops and comprehensions over a list that may change elsewhere (a cell), and does not while they go. -/
namespace Dl
open PySem PySem.Spec PyProof.Rows L2
def FVC (X : Dx) (tg : Expr) (body : List Stmt) (K : Ks) (n : Nat) (ds0 : List D) : List D → Envt → Mem → Prop
  | [], env, mem => mem[n]? = some (.lst ds0) ∧ K.nx env mem
  | d :: ds, env, mem => mem[n]? = some (.lst ds0) ∧ GV X tg (.v d) env mem fun e m => SVs X body e m { K with nx := FVC X tg body K n ds0 ds, ct := FVC X tg body K n ds0 ds, bk := K.nx }
theorem FVC.at {X : Dx} {tg : Expr} {body : List Stmt} {K : Ks} {n : Nat} {ds0 : List D} : ∀ {ds : List D} {env : Envt} {m : Mem}, FVC X tg body K n ds0 ds env m → m[n]? = some (.lst ds0)
  | [], _, _, h => h.1
  | _ :: _, _, _, h => h.1
/-- the list at a, of so many items -/
theorem walk_cell {K : PySem.W.Frag} {a : Addr} {n : Nat} : Walk (Itl K a) n (fun H => ∃ vs, H a = some (.lst vs) ∧ vs.length = n) (fun i H x H' => H' = H ∧ ∀ vs, H a = some (.lst vs) → vs[i]? = some x) :=
  ⟨fun i H hi ⟨vs, h, e⟩ => ⟨vs, vs[i]'(by omega), SqL.of h, by simp [e, hi]⟩, fun H ⟨vs, h, e⟩ => ⟨vs, SqL.of h, by omega⟩, fun i H x H' hi _ y => ⟨y.1, fun vs h => y.2 vs (SqL.of h)⟩⟩
section
variable {X : Dx} {tg it c : Expr} {pos : Pos} {env : Envt} {mem : Mem} {body : List Stmt} {K : Ks}
end
/-! ### comprehensions -/
def CVC (X : Dx) (t : Tg) (elt : Expr) (ifs : List Expr) (scope : Scope) (vs : List Nat) (env0 : Envt) (n : Nat) (ds0 : List D) (Kc : List D → Mem → Prop) : List D → List D → Mem → Prop
  | [], acc, mem => mem[n]? = some (.lst ds0) ∧ Kc acc mem
  | d :: ds, acc, mem => mem[n]? = some (.lst ds0) ∧ ∃ e, t.put (wipeE env0 vs) d = some e ∧ ∃ R : Bool → Mem → Prop, (∀ s H C cl fp, TsV (BX X scope s H C cl fp) e mem R ifs) ∧ ∀ b m2, R b m2 → cond b
      (∀ s H C cl fp, EV (BX X scope s H C cl fp) elt e m2 fun r m3 => ∃ y m4, frz [unl r] m3 = some ([y], m4) ∧ acc.length < sizeLine ∧ CVC X t elt ifs scope vs env0 n ds0 Kc ds (acc ++ [y]) m4)
      (CVC X t elt ifs scope vs env0 n ds0 Kc ds acc m2)
theorem CVC.at {X : Dx} {t : Tg} {elt : Expr} {ifs : List Expr} {scope : Scope} {vs : List Nat} {env0 : Envt} {n : Nat} {ds0 : List D} {Kc : List D → Mem → Prop} : ∀ {ds acc : List D} {m : Mem}, CVC X t elt ifs scope vs env0 n ds0 Kc ds acc m → m[n]? = some (.lst ds0)
  | [], _, _, h => h.1
  | _ :: _, _, _, h => h.1
section
variable {X : Dx} {tg it : Expr} {pos : Pos} {env : Envt} {mem : Mem} {elt : Expr} {ifs : List Expr} {scope : Scope} {P : Rs → Mem → Prop}
theorem ev_lcC (t : Tg) (own : List (Str × Nat)) (hc : X.calm = true) (hN : X.N.Nodup) (hv : ∀ i ∈ t.vs, i ∈ own.map (·.2)) (h : EV X it env mem fun r m => ∃ n ds, r = .loc n ∧ CVC X t elt ifs scope (own.map (·.2)) env n ds (fun acc m => P (.nl acc) m) ds [] m)
    (ok : BlkOk X.N X.env.scope scope own) (hg : ∀ s H C cl fp, PG (BX X scope s H C cl fp) tg (t.g X.K)) (hs : ∀ x, foldedSetIterable it X.env x = pure x := by intro _; rfl) : EV X (.ListComp elt [⟨tg, it, ifs, 0⟩] scope pos) env mem P := fun as G σ H k => by
  refine EW.of (pe_lc (te := teW X scope elt) (tt := ttW X scope ifs) hc hN (pi_list (pe_ew X it)) ok (fun s H C cl fp => hg s H C cl fp)
    (fun s H C cl fp => ⟨fun pins s' σ' H' Q I hq => (pts_ts (BX X scope s H C cl fp) ifs).run pins s' σ' H' Q I (hq s H C cl fp)⟩) (fun s H C cl fp => ⟨fun pins s' σ' H' Q I hq => hq s H C cl fp pins s' I⟩) hs) ?_
  refine EW.mono (h as G σ H k) fun v1 H1 ⟨as1, G1, m1, r1, x1, k1, ro1, f1, n, ds, er, h1⟩ => ?_
  subst er
  obtain ⟨a, ha, rfl⟩ := ro1
  have cell : ∀ {as' : List Addr} {G' H' : Hp} {e' : Envt} {m' : Mem} {σ' : L2.St} {l acc : List D}, Ext as1 G1 H1 as' G' H' → OkS (Cx.cn X) X.iv as' G' e' m' σ' H' → CVC X t elt ifs scope (own.map (·.2)) env n ds (fun acc m => P (.nl acc) m) l acc m' → ∃ vs, H' a = some (.lst vs) ∧ vs.length = ds.length ∧ Reps (Cx.cn X) G' vs ds := fun x' k' f' => by
    obtain ⟨_, vs, e, r⟩ := loc_cell k' (get_pre x'.pre ha) f'.at
    exact ⟨vs, e, r.length, r⟩
  obtain ⟨vs0, e0, l0, r0⟩ := cell (.refl _ _ _) k1 h1
  refine ⟨a, rfl, ⟨vs0, SqL.of e0⟩, fun D0 hD => ?_⟩
  let vs := own.map (·.2)
  refine lc_it (g := t.g X.K) (tt := ttW X scope ifs) (te := teW X scope elt) (vs := vs) (σ := σ) (H1 := H1) (D := D0) (Qd := Post (Cx.cn X) X.iv as G env σ H P (.ref D0)) (walk_cell (n := ds.length)) (fun i H => ∃ acc ws as' G' m', Ext as1 G1 H1 as' G' H ∧ OkS (Cx.cn X) X.iv as' G' (wipeE env vs) m' (L2.wipe σ vs) H ∧ H D0 = some (.lst ws) ∧ G' D0 = none ∧ D0 ∉ as' ∧ Reps (Cx.cn X) G' ws acc ∧ CVC X t elt ifs scope vs env n ds (fun acc m => P (.nl acc) m) (ds.drop i) acc m') ?_ (fun i H _ ⟨acc, ws, as', G', m', y, k', _, _, _, _, f⟩ => let ⟨vs, e, l, _⟩ := cell y k' f; ⟨vs, e, l⟩) ?_ ?_
  · obtain ⟨m, z⟩ := k1.mm.layH hD (.lst [])
    exact ⟨[], [], as1, G1, m1, z, (wipe_ok k1 vs).ext z m, upd_same, none_sub k1 hD, fun h => not_tr hD (k1.mm.there _ h), .nil, by rw [List.drop_zero]; exact h1⟩
  · rintro i x H H' hi ⟨acc, ws, as', G', m', y, k2, hw, hG, hn, rp, cv⟩ ⟨rfl, yx⟩
    obtain ⟨us, eu, lu, ru⟩ := cell y k2 cv
    obtain ⟨d, hd, rd⟩ := ru.getV (yx us eu)
    have e2 : ds.drop i = d :: ds.drop (i + 1) := by
      rw [List.drop_eq_getElem_cons hi, (List.getElem?_eq_some_iff.mp hd).2]
    rw [e2] at cv
    obtain ⟨_, e, he, R, hR, hE⟩ := cv
    refine tg_put (C := Cx.cn X) k2 rd he hv fun σ2 k3 hwp => ⟨hwp.trans (wipe_wipe fun _ h => h), fun s Hb C cl fp => ?_⟩
    refine TsW.mono ?_ (ts_of (X := BX X scope s Hb C cl fp) k3 (hR s Hb C cl fp))
    rintro b H3 ⟨as3, G3, m3, x3, k4, r3⟩
    have hh := hE b m3 r3
    have x13 := y.trans x3
    have hH3 : H3 D0 = some (.lst ws) := x3.keep _ _ hn hw nt_lst
    have hG3 : G3 D0 = none := x3.old _ hn (ownL hw) hG
    have hn3 : D0 ∉ as3 := fun q => x3.new _ q hn (trL hw)
    cases b with
    | false =>
      rw [if_neg Bool.false_ne_true]
      exact ⟨acc, ws, as3, G3, m3, x13, k2.ext x3 k4.mm, hH3, hG3, hn3, rp.mono x3.sub, hh⟩
    | true =>
      rw [if_pos rfl]
      intro s Hb C cl fp
      refine EW.mono (hh s Hb C cl fp as3 G3 σ2 H3 k4) ?_
      rintro v H4 ⟨as4, G4, m4, r4, x4, k5, ro4, f4, yv, m5, ef, hlen, cv'⟩
      obtain ⟨G5, x5, k6, rs5⟩ := learn_post k4.iv x4 k5 ro4 f4
      obtain ⟨G6, x6, k7, rp6⟩ := frz_ok k6 (rsOne rs5) ef
      have x46 := x5.trans x6
      have x16 := x13.trans x46
      have hH4 : H4 D0 = some (.lst ws) := x46.keep _ _ hn3 hH3 nt_lst
      have hG6 : G6 D0 = none := x46.old _ hn3 (ownL hH3) hG3
      have hn6 : D0 ∉ as4 := fun q => x46.new _ q hn3 (trL hH3)
      cases rp6 with
      | cons ry _ =>
        have kk := (k2.ext (x3.trans x46) k7.mm).updFree hG6 hn6 hH4 (.lst (ws ++ [v])) (X.iv.ext (x16.updFree hD _) k1.iv)
        exact ⟨ws, hH4, by rw [rp.length]; exact hlen, acc ++ [yv], ws ++ [v], as4, G6, m5, x16.updFree hD _, kk, upd_same, hG6, hn6, ((rp.mono x3.sub).mono x46.sub).snoc ry, cv'⟩
  · rintro H ⟨acc, ws, as', G', m', y, k2, hw, hG, hn, rp, cv⟩
    rw [List.drop_length] at cv
    exact ⟨as', G', m', .nl acc, x1.trans y, k1.ext y k2.mm, ⟨D0, ws, rfl, hw, hG, hn, rp⟩, fun p e t => by
      cases e
      exact not_tr hD (x1.there D0 t), cv.2⟩
end
open Classical in
noncomputable def lcGoC (t : Tg) (vs : List Nat) (env0 : Envt) (ifs : Ft) (elt : Fe) (n : Nat) (ds0 : List D) : List D → List D → Mem → Rg (List D)
  | [], acc, m => if m[n]? = some (.lst ds0) then .ok acc m else .no
  | d :: ds, acc, m => if m[n]? = some (.lst ds0) then optR (t.put (wipeE env0 vs) d) fun e => (ifs e m).nx.bd fun b m2 => if b = true then
      (elt e m2).nx.bd fun r m3 => frzR [unl r] m3 fun q m4 => match q with
        | [y] => if acc.length < sizeLine then lcGoC t vs env0 ifs elt n ds0 ds (acc ++ [y]) m4 else .no
        | _ => .no
    else lcGoC t vs env0 ifs elt n ds0 ds acc m2 else .no
noncomputable def lcCS (t : Tg) (vs : List Nat) (ifs : Ft) (elt : Fe) (f : Fe) : Fe := fun env m => (f env m).bd fun r m1 => match r with
  | .loc n => (match m1[n]? with
    | some (.lst ds) => (lcGoC t vs env ifs elt n ds ds [] m1).bd fun acc m2 => .ok (.nl acc) m2
    | _ => .no)
  | _ => .no
section
variable {X : Dx} {E : XE} {tg it : Expr} {pos : Pos} {elt : Expr} {ifs : List Expr} {scope : Scope} {f : Fe} {body : List Stmt} {g : Fg} {g1 : Fs}
theorem lc_cvC {tt : Ft} {fe : Fe} (ty : Tg) (vs : List Nat) (env0 : Envt) (n : Nat) (ds0 : List D) (hi : ∀ s H C cl fp, Sts (BX X scope s H C cl fp) xNo ifs tt) (he : ∀ s H C cl fp, Se (BX X scope s H C cl fp) xNo elt fe) {Kc : List D → Mem → Prop} :
    ∀ (ds acc : List D) (m : Mem), (lcGoC ty vs env0 tt fe n ds0 ds acc m).sat E Kc → CVC X ty elt ifs scope vs env0 n ds0 Kc ds acc m
  | [], acc, m, h => by
    rw [lcGoC] at h
    split at h
    · exact ⟨by assumption, h⟩
    · exact h.elim
  | d :: ds, acc, m, h => by
    rw [lcGoC] at h
    have hm : m[n]? = some (.lst ds0) := by
      split at h
      · assumption
      · exact h.elim
    rw [if_pos hm] at h
    obtain ⟨e, e1, q⟩ := sat_optR h
    refine ⟨hm, e, e1, _, fun s H C cl fp => hi s H C cl fp e m _ (sat_nx (sat_bd q)), fun b m2 r => ?_⟩
    refine cond_imp (sat_ite r) (fun q1 => ?_) fun q1 => lc_cvC ty vs env0 n ds0 hi he ds acc m2 q1
    intro s H C cl fp
    refine (he s H C cl fp e m2 _ (sat_nx (sat_bd q1))).mono fun r3 m3 q2 => ?_
    obtain ⟨q3, m4, e2, q4⟩ := sat_frzR q2
    obtain ⟨y, rfl⟩ := frz_one e2
    obtain ⟨h1, h2⟩ := sat_if q4
    exact ⟨y, m4, e2, h1, lc_cvC ty vs env0 n ds0 hi he ds _ m4 h2⟩
theorem se_lcC {tt : Ft} {fe : Fe} (ty : Tg) (own : List (Str × Nat)) (hc : X.calm = true) (hN : X.N.Nodup) (hv : ∀ i ∈ ty.vs, i ∈ own.map (·.2)) (hit : Se X E it f) (hi : ∀ s H C cl fp, Sts (BX X scope s H C cl fp) xNo ifs tt) (he : ∀ s H C cl fp, Se (BX X scope s H C cl fp) xNo elt fe)
    (ok : BlkOk X.N X.env.scope scope own) (hg : ∀ s H C cl fp, PG (BX X scope s H C cl fp) tg (ty.g X.K)) (hs : ∀ x, foldedSetIterable it X.env x = pure x := by intro _; rfl) : Se X E (.ListComp elt [⟨tg, it, ifs, 0⟩] scope pos) (lcCS ty (own.map (·.2)) tt fe f) := .mk fun env mem P h =>
  ev_lcC ty own hc hN hv ((hit env mem _ (sat_bd h)).mono fun r m q => by
    cases r with
    | v d => exact q.elim
    | nl ds => exact q.elim
    | loc n =>
      dsimp only at q
      split at q
      · rename_i ds e
        exact ⟨n, ds, rfl, lc_cvC ty _ env n ds hi he ds [] m (sat_bd q)⟩
      · exact q.elim) ok hg hs
end
end Dl
/-! El37: x, y = a, b by way of a tuple (names that a lambda reads). -/
namespace Dl
open PySem PySem.Spec PyProof.Rows L2
section
variable {X : Dx} {E : XE} {a b : Expr} {env : Envt} {mem : Mem} {K : Ks} {fa : Fa} {pos : Pos}
end
end Dl
/-! El38: a list that is changed no more: from here on it is known by value. -/
namespace Dl
open PySem PySem.Spec PyProof.Rows L2
def frzB (i : Nat) (f : Fs) : Fs := fun env m => match env[i]? with
  | some (some (.loc n)) => (match m[n]? with
    | some (.lst ds) => f (env.set i (some (.v (.lst ds)))) (m.set n .gone)
    | _ => .no)
  | _ => f env m
section
variable {X : Dx} {E : XE} {st : Stmt} {f : Fs}
end
end Dl
/-! El39: instances of own classes: fields read and stored, constants of the class. -/
namespace Dl
open PySem PySem.Spec PyProof.Rows L2
/-- a field of a class -/
structure CFld (K : PySem.W.Frag) (mg : Str → Option Value) (c x : Str) : Prop where
  ex : ∃ A, mg c = some (.ref A) ∧ Cls K A ∧ NoAttr K A x
  pl : slN c = false := by decide +kernel
/-- a constant of a class, read by an instance -/
structure CCon (C : Cn) (c x : Str) (d : D) : Prop where
  ex : ∃ A v u, C.mg c = some (.ref A) ∧ Cls C.K A ∧ Con C.K A x v u ∧ Rep C (fun _ => none) v d
  pl : slN c = false := by decide +kernel
def obR {α : Type} (r : Rs) (m : Mem) (f : Str → List (Str × D) → Rg α) : Rg α := match r with
  | .v (.ob c fs) => f c fs
  | .loc n => match m[n]? with
    | some (.ob c fs) => f c fs
    | _ => .no
  | _ => .no
section
variable {C : Cn} {I : Iv} {as : List Addr} {G H : Hp} {env : Envt} {mem : Mem} {σ : L2.St} {v : V} {r : Rs} {α : Type} {E : XE} {P : α → Mem → Prop}
theorem obR_ok {F : Str → List (Str × D) → Rg α} (k : OkS C I as G env mem σ H) (ro : ResOk C as G H v r) (h : (obR r mem F).sat E P) :
    ∃ c fs, (F c fs).sat E P ∧ ∃ a A dx vs, v = .ref a ∧ InsG c G H a A dx vs ∧ C.mg c = some (.ref A) ∧ RepF C G vs fs := by
  unfold obR at h
  cases r with
  | nl ds => exact h.elim
  | v d =>
    cases d <;> try exact h.elim
    rename_i c fs
    cases (show Rep C G v (.ob c fs) from ro) with
    | ob g m rf => exact ⟨c, fs, h, _, _, _, _, rfl, g.to (fun _ z => z) (k.mm.sub _ _) (fun _ => k.mm.sub _ _), m, rf⟩
  | loc n =>
    obtain ⟨a, ha, rfl⟩ := ro
    cases q : mem[n]? with
    | none => simp [q, Rg.sat] at h
    | some cl =>
      cases cl with
      | ob c fs =>
        simp only [q] at h
        obtain ⟨_, A, dx, vs, e, m, rf⟩ := loc_cell k ha q
        exact ⟨c, fs, h, a, A, dx, vs, rfl, e, m, rf⟩
      | _ => simp [q, Rg.sat] at h
end
def fldS (cs : List Str) (x : Str) (a : Fe) : Fe := fun env m => (a env m).bd fun r m1 => obR r m1 fun c fs => if cs.contains c = true then optR (fs.lookup x) fun d => .ok (.v d) m1 else .no
/-- e.x, a field, or a constant of the class -/
def conS (cs : List (Str × D)) (x : Str) (a : Fe) : Fe := fun env m => (a env m).bd fun r m1 => obR r m1 fun c fs => if fs.lookup x = none then optR (cs.lookup c) fun d => .ok (.v d) m1 else .no
theorem look_mem {α : Type} {c : Str} {d : α} : ∀ {cs : List (Str × α)}, cs.lookup c = some d → (c, d) ∈ cs
  | (k, v) :: r, h => by
    rw [List.lookup_cons] at h
    cases q : (c == k) with
    | true =>
      rw [q] at h
      have e1 : c = k := eq_of_beq q
      cases h
      rw [e1]
      exact List.mem_cons_self
    | false => rw [q] at h; exact List.mem_cons_of_mem _ (look_mem h)
section
variable {X : Dx} {E : XE} {a b c e o : Expr} {es rest : List Expr} {pos p0 p2 apos : Pos} {f f1 f2 f3 : Fe} {x : Str}
theorem se_fld {cs : List Str} (hc : ∀ c ∈ cs, CFld X.K X.mg c x) (ha : Se X E a f) (hb : attributeBase a x X.env (eval a X.env) = eval a X.env := by rfl) : Se X E (.Attribute a x pos) (fldS cs x f) := .mk fun env mem P h => fun as G σ H k => by
  refine EW.of (pe_fld (pe_ew X a) hb) (EW.mono (ha env mem _ (sat_bd h) as G σ H k) fun v1 H1 ⟨as1, G1, m1, r1, x1, k1, ro1, f1, h1⟩ => ?_)
  obtain ⟨c, fs, h2, a, A, dx, vs, e1, e2, e3, rf⟩ := obR_ok k1 ro1 h1
  obtain ⟨hm, h3⟩ := sat_if h2
  obtain ⟨d, e4, h4⟩ := sat_optR h3
  obtain ⟨A', g1, g2, g3⟩ := (hc c (by simpa using hm)).ex
  have eA : A' = A := by
    have := g1.symm.trans e3
    injection this with this
    injection this
  subst eA
  obtain ⟨v, e5, rv⟩ := RepF.look rf e4
  exact ⟨a, A', dx, vs, v, e1, e2.pl (hc c (by simpa using hm)).pl, g2, g3, e5, (Post.now (r := .v d) k1 rv h4).ext x1⟩
theorem se_con {cs : List (Str × D)} (hc : ∀ c d, (c, d) ∈ cs → CCon (Cx.cn X) c x d) (ha : Se X E a f) (hb : attributeBase a x X.env (eval a X.env) = eval a X.env := by rfl) : Se X E (.Attribute a x pos) (conS cs x f) := .mk fun env mem P h => fun as G σ H k => by
  refine EW.of (pe_con (pe_ew X a) hb) (EW.mono (ha env mem _ (sat_bd h) as G σ H k) fun v1 H1 ⟨as1, G1, m1, r1, x1, k1, ro1, f1, h1⟩ => ?_)
  obtain ⟨c, fs, h2, a, A, dx, vs, e1, e2, e3, rf⟩ := obR_ok k1 ro1 h1
  obtain ⟨hm, h3⟩ := sat_if h2
  obtain ⟨d, e4, h4⟩ := sat_optR h3
  obtain ⟨A', v, u, g1, g2, g3, g4⟩ := (hc c d (look_mem e4)).ex
  have eA : A' = A := by
    have := g1.symm.trans e3
    injection this with this
    injection this
  subst eA
  exact ⟨a, A', dx, vs, v, u, e1, e2.pl (hc c d (look_mem e4)).pl, g2, g3, RepF.nolook rf hm, (Post.now (r := .v d) k1 (g4.mono fun _ _ z => by cases z) h4).ext x1⟩
end
/-! ### stores -/
def putD (f : Str) (v : D) : List (Str × D) → List (Str × D)
  | [] => [(f, v)]
  | (g, x) :: r => if g = f then (g, v) :: r else (g, x) :: putD f v r
theorem RepF.put {C : Cn} {G : Hp} {f : Str} {v : V} {d : D} (h : Rep C G v d) : ∀ {vs : List (Str × V)} {ds : List (Str × D)}, RepF C G vs ds → RepF C G (putF f v vs) (putD f d ds)
  | _, _, .nil => .cons h .nil
  | _, _, .cons (f := g) r rr => by
    unfold putF putD
    split
    · exact .cons h rr
    · exact .cons r (RepF.put h rr)
theorem RepF.length {C : Cn} {G : Hp} : ∀ {vs : List (Str × V)} {ds : List (Str × D)}, RepF C G vs ds → vs.length = ds.length
  | _, _, .nil => rfl
  | _, _, .cons _ r => by rw [List.length_cons, List.length_cons, RepF.length r]
/-- an instance's cell takes other fields -/
theorem setObG {C : Cn} {I : Iv} {as : List Addr} {G H : Hp} {env : Envt} {mem : Mem} {σ : L2.St} {n : Nat} {a A dx : Addr} {c : Str} {fs fs' : List (Str × D)} {vs' : List (Str × V)} {o o' : HO} (k : OkS C I as G env mem σ H) (ha : as[n]? = some a) (hc : mem[n]? = some (.ob c fs)) (hH : H a = some o) (co : CO o) (co' : CO o') (hn : InsG c G (upd H a o') a A dx vs') (hm : C.mg c = some (.ref A)) (r : RepF C G vs' fs') :
    Ext as G H as G (upd H a o') ∧ OkS C I as G env (mem.set n (.ob c fs')) σ (upd H a o') := by
  obtain ⟨g, _⟩ := loc_cell k ha hc
  have hma : a ∈ as := List.mem_of_getElem? ha
  have nt : NoT o' := co'.nt
  have xx : Ext as G H as G (upd H a o') := by
    refine ⟨⟨[], by simp⟩, Sub.refl _, fun b o hb e _ => by rw [upd_ne (fun z => hb (by rw [z]; exact hma))]; exact e, fun _ _ _ z => z, fun _ z w => (w z).elim, fun b z => ?_⟩
    by_cases q : b = a
    · exact ⟨_, by rw [q, upd_same], nt⟩
    · exact z.upd q
  refine ⟨xx, ⟨⟨?_, k.mm.nd, fun j b c' hb hc' => ?_, fun b hb => ?_, fun b u e => ?_, k.mm.nt, tabs_upd k.mm.tabs (.inr ⟨_, hH, co⟩)⟩, k.len, k.env, I.ext xx k.iv⟩⟩
  · rw [List.length_set]; exact k.mm.len
  · by_cases hj : j = n
    · subst hj
      have hl : j < mem.length := (List.getElem?_eq_some_iff.mp hc).1
      rw [List.getElem?_set_self hl] at hc'
      cases hc'
      rw [ha] at hb
      cases hb
      exact ⟨g, A, dx, vs', hn, hm, r⟩
    · rw [List.getElem?_set_ne (Ne.symm hj)] at hc'
      have z := k.mm.cell j b c' hb hc'
      have nb : b ≠ a := fun e => hj ((List.getElem?_inj (List.getElem?_eq_some_iff.mp hb).1 k.mm.nd).mp (by rw [hb, ha, e]))
      exact z.move (fun _ _ _ g => g) (fun o h _ => by rw [upd_ne nb]; exact h) (Sub.refl _)
  · by_cases q : b = a
    · exact ⟨_, by rw [q, upd_same], nt⟩
    · exact (k.mm.there b hb).upd q
  · rw [upd_ne (fun z => by rw [z, g] at e; cases e)]; exact k.mm.sub _ _ e
theorem setOb {C : Cn} {I : Iv} {as : List Addr} {G H : Hp} {env : Envt} {mem : Mem} {σ : L2.St} {n : Nat} {a A dx : Addr} {c : Str} {fs fs' : List (Str × D)} {vs vs' : List (Str × V)} (pl : slN c = false) (k : OkS C I as G env mem σ H) (ha : as[n]? = some a) (hc : mem[n]? = some (.ob c fs)) (hH : H a = some (.ins A dx vs)) (hm : C.mg c = some (.ref A)) (r : RepF C G vs' fs') :
    Ext as G H as G (upd H a (.ins A dx vs')) ∧ OkS C I as G env (mem.set n (.ob c fs')) σ (upd H a (.ins A dx vs')) :=
  setObG k ha hc hH trivial trivial (.inl ⟨pl, upd_same⟩) hm r
/-- o.x = e, o an instance that changes -/
def fldB (cs : List Str) (x : Str) (o e : Fe) : Fs := fun env m => ((e env m).bd fun r m1 => (o env m1).bd fun r2 m2 => frzR [unl r] m2 fun q m3 => match r2 with
  | .loc n => (match m3[n]? with
    | some (.ob c fs) => (match q with
      | [d] => if cs.contains c = true ∧ fs.length < 1000 then .ok () (m3.set n (.ob c (putD x d fs))) else .no
      | _ => .no)
    | _ => .no)
  | _ => .no).to fun _ m4 => Oc.nx env m4
section
variable {X : Dx} {E : XE} {o e : Expr} {pos p' : Pos} {f1 f2 : Fe} {x : Str}
theorem ss_fld {cs : List Str} (hc : ∀ c ∈ cs, CFld X.K X.mg c x) (ho : Se X E o f1) (he : Se X E e f2) (hs : swapsWith e (some (.Attribute o x p')) pos.line X.env = pure false := by first | exact sw_nc rfl | rfl) : Ss X E (.Assign [.Attribute o x p'] e pos) (fldB cs x f1 f2) := .mk fun env mem K hK => fun as G σ H k => by
  refine SW.of (ps_fld (pe_ew X o) (pe_ew X e) hs) ?_
  refine EW.mono (he env mem _ (sat_bd (sat_to hK)) as G σ H k) fun v1 H1 ⟨as1, G1, m1, r1, x1, k1, ro1, f1, h1⟩ => ?_
  obtain ⟨G2, x2, k2, rs2⟩ := learn_post k.iv x1 k1 ro1 f1
  refine EW.mono (ho env m1 _ (sat_bd h1) as1 G2 σ H1 k2) fun v2 H2 ⟨as3, G3, m3, r3, x3, k3, ro3, f3, h3⟩ => ?_
  obtain ⟨q, m4, ef, h4⟩ := sat_frzR h3
  obtain ⟨G4, x4, k4, rp4⟩ := frz_ok k3 (rsOne (rs2.ext x3)) ef
  cases r3 <;> try exact h4.elim
  rename_i n
  dsimp only at h4
  cases hn : m4[n]? with
  | none => simp [hn, Rg.sat] at h4
  | some cl =>
    cases cl <;> simp only [hn] at h4 <;> try exact h4.elim
    rename_i c fs
    obtain ⟨d, rfl⟩ := frz_one ef
    obtain ⟨⟨hm, hl⟩, hP⟩ := sat_if h4
    obtain ⟨a, ha, rfl⟩ := ro3
    obtain ⟨_, A, dx, vs, eH, eM, rf⟩ := loc_cell k4 ha hn
    obtain ⟨A', g1, g2, g3⟩ := (hc c (by simpa using hm)).ex
    have eA : A' = A := by
      have := g1.symm.trans eM
      injection this with this
      injection this
    subst eA
    have pl := (hc c (by simpa using hm)).pl
    have eH := eH.pl pl
    cases rp4 with
    | cons rv _ =>
      obtain ⟨y, k5⟩ := setOb pl k4 ha hn eH eM (RepF.put (f := x) rv rf)
      exact ⟨a, A', dx, vs, rfl, eH, g2, g3, by rw [rf.length]; exact hl, (PostS.now k5 hP).ext (((x2.trans x3).trans x4).trans y)⟩
end
end Dl
/-! El40: calls by what is called: methods, classes. -/
namespace Dl
open PySem PySem.Spec PyProof.Rows L2
/-! ### some cells are handed on, the others are read now -/
def mixO (m : Mem) (ix : List Nat) : List Sl → Option (List Sl)
  | [] => some []
  | .v d :: r => (mixO m ix r).map (.v d :: ·)
  | .loc i :: r => match idx ix i with
    | some j => (mixO m ix r).map (.loc j :: ·)
    | none => match drL m (.loc i) with
      | some d => (mixO m ix r).map (.v d :: ·)
      | none => none
def lfC : Cell → Bool
  | .lst ds => lfs ds
  | .ob _ fs => lff fs
  | .dic ks => lfk ks
  | .gone => true
def lfM : Mem → Bool
  | [] => true
  | c :: r => lfC c && lfM r
theorem CellOk.lf {C : Cn} {G1 G2 H : Hp} {a : Addr} {c : Cell} (s : ∀ a o, G1 a = some o → isLst o = false → G2 a = some o) (e : G2 a = G1 a) (l : lfC c = true) (h : CellOk C G1 H a c) : CellOk C G2 H a c := by
  cases c with
  | lst ds => obtain ⟨g, vs, h, r⟩ := h; exact ⟨e.trans g, vs, h, r.lf s l⟩
  | ob c fs => obtain ⟨g, A, dx, vs, h, m, r⟩ := h; exact ⟨e.trans g, A, dx, vs, h.to (fun _ z => s _ _ z rfl) (fun z => z) (fun _ z => z), m, r.lf s l⟩
  | dic ks =>
    obtain ⟨g, o, xs, h, n, t, r⟩ := h
    exact ⟨e.trans g, o, xs, h, n, t, r.lf s l⟩
  | gone => exact h
section
variable {X : Dx} {e : Expr} {es : List Expr} {pos p0 : Pos} {env : Envt} {mem : Mem} {P : Rs → Mem → Prop} {x : Str} {j n : Nat} {F : FS}
variable {as : List Addr} {G : Hp} {σ : L2.St} {H : Hp} {vs : List V} {rs ss : List Sl}
end
/-! ### runs of a def's function -/
/-- the cells among the arguments are handed on -/
def runA (F : Fd) (n : Nat) (rs : List Sl) (m1 : Mem) : Rg Rs := optR (renO (locs rs) rs) fun ss => optR (pickO m1 (locs rs)) fun cs => if ss.length = n then (match F ss cs with
    | .ok r m2 => if nloc r then .ok r (wb m1 (locs rs) m2) else .no
    | .ex c fs m2 => .ex c fs (wb m1 (locs rs) m2)
    | .no => .no) else .no
/-- the cells at ix are handed on, the others read -/
def runM (ix : List Nat) (F : Fd) (n : Nat) (rs : List Sl) (m1 : Mem) : Rg Rs := optR (mixO m1 ix rs) fun ss => optR (pickO m1 ix) fun cs => if ss.length = n ∧ ix.Nodup then (match F ss cs with
    | .ok r m2 => if nloc r = true ∧ lfR r = true ∧ lfM m2 = true then .ok r (wb m1 ix m2) else .no
    | .ex c fs m2 => if lff fs = true ∧ lfM m2 = true then .ex c fs (wb m1 ix m2) else .no
    | .no => .no) else .no
section
variable {X : Dx} {env : Envt} {mem : Mem} {P : Rs → Mem → Prop} {n : Nat} {F : Fd} {as : List Addr} {G : Hp} {σ : L2.St} {H : Hp} {vs : List V} {rs : List Sl} {E : XE}
theorem runA_sp (k : OkS (Cx.cn X) X.iv as G env mem σ H) (ro : RsOk (Cx.cn X) as G vs rs) (h : (runA F n rs mem).sat E P) : spG (Cx.cn X) n (FR F) vs H (Post (Cx.cn X) X.iv as G env σ H P) (EK X E) := by
  obtain ⟨ss, e1, q1⟩ := sat_optR h
  obtain ⟨cs, e2, q2⟩ := sat_optR q1
  obtain ⟨e3, q3⟩ := sat_if q2
  refine call_cells (locs rs) (locs_nodup rs) k ro e1 e2 e3 (W := E) ?_ (fun Q Q' W W' => FR.mono F ss cs Q Q' W W')
  unfold FR
  cases hR : F ss cs with
  | ok r m2 => rw [hR] at q3; exact sat_if q3
  | ex k fs m2 => rw [hR] at q3; exact q3
  | no => rw [hR] at q3; exact q3.elim
end
/-! ### methods -/
structure HasM (P : Program) (w : World) (K : PySem.W.Frag) (mg : Str → Option Value) (Tb : List NdefX.NTab) (base : Heap) (c m : Str) (j n : Nat) (dds : List D) (F : FS) : Prop where
  ex : ∃ (A f : Addr) (fd : FuncData) (ps : List Str) (ds : List Value) (dvs : List V), FnOk P w K mg base (L2.CX P w) j f fd ps (spG ⟨K, mg, Tb, P, w⟩ n F) ∧ mg c = some (.ref A) ∧ Cls K A ∧ Meth K A m f ∧ Binds K fd ps ds ∧ Vals dvs ds ∧ ∀ G, Reps ⟨K, mg, Tb, P, w⟩ G dvs dds
  pl : slN c = false := by decide +kernel
theorem HasM.up {P : Program} {w : World} {K : PySem.W.Frag} {mg : Str → Option Value} {Tb : List NdefX.NTab} {base : Heap} {c m : Str} {j k n : Nat} {dds : List D} {F : FS} (h : HasM P w K mg Tb base c m j n dds F) (le : j ≤ k) : HasM P w K mg Tb base c m k n dds F := by
  obtain ⟨A, f, fd, ps, ds, dvs, ok, r⟩ := h.ex
  exact ⟨⟨A, f, fd, ps, ds, dvs, ok.mono le, r⟩, h.pl⟩
def tMethA (X : Cx) (m : Str) (ta : TE) (t : TA) : TE := fun σ H Q => ta σ H fun x H1 => ∃ (a dx : Addr) (fs : List (Str × V)) (C f : Addr) (fd : FuncData) (ps : List Str) (sp : Sp) (k : Nat) (ds : List Value) (dvs : List V) (CX : CXT) (E : XK), x = .ref a ∧ H1 a = some (.ins C dx fs) ∧ fs.lookup m = none ∧
  (Cls X.K C ∧ Meth X.K C m f ∧ FnOk X.prog X.w X.K X.mg X.base CX k f fd ps sp ∧ Room k X.A ∧ Binds X.K fd ps ds ∧ Vals dvs ds ∧ Passes CX X E) ∧ t σ H1 fun vs H2 => sp (x :: (vs ++ dvs)) H2 Q E
section
variable {X : Cx} {o e : Expr} {es : List Expr} {ta : TE} {t : TA} {pos apos : Pos} {m : Str}
theorem pe_methA0 {pl : Sem Bool} (he : PE X o ta)
    (ht : eval (.Call (.Attribute o m apos) [] [] pos) X.env = (do
      let ov ← eval o X.env
      standAt apos.atName
      let (f, first) ← holding [ov] (getMethod ov m pl)
      callWith pos f first (backTo pos (starEach [] X.env)) (backToKw pos (keywordEach [] X.env))) := by rfl) :
    PE X (.Call (.Attribute o m apos) [] [] pos) (tMethA X m ta tNil) := by
  refine ⟨fun pins s σ H Q I h => ?_⟩
  refine PySem.W.methodCall_KW (pl := pl) (thn (he.run pins s σ H _ I h) fun u s1 ⟨x, H1, I1, rx, a, dx, fs, C, f, fd, ps, sp, k, ds, dvs, CX, E, ex, ea, l, ⟨c, hm, F, hr, hb, hd, hx⟩, q⟩ => ?_) ht
  subst ex
  obtain rfl : u = Value.ref a := rx
  refine getmeth_ok I1 ea c hm l ?_
  exact PySem.W.callWith_K0 (first := [.ref a]) I1.kIn hm.kp (run_fn (us := [.ref a]) (vs := [.ref a]) F hr hb hd hx I1 (.cons rfl .nil) q)
end
/-- o.m(..): the class of o tells the def -/
def methS (run : Fd → Nat → List Sl → Mem → Rg Rs) (tb : List (Str × Fd)) (n : Nat) (dds : List D) (m : Str) (o : Fe) (a : Fa) : Fe := fun env mem => (o env mem).bd fun r m0 => obR r m0 fun c fs => if fs.lookup m = none then optR (tb.lookup c) fun F => (a env m0).bd fun rs m1 => run F n (unl r :: (rs ++ dds.map .v)) m1 else .no
/-- how a def's function is run -/
def RunOk (run : Fd → Nat → List Sl → Mem → Rg Rs) : Prop := ∀ {X : Dx} {env : Envt} {mem : Mem} {P : Rs → Mem → Prop} {n : Nat} {F : Fd} {as : List Addr} {G : Hp} {σ : L2.St} {H : Hp} {vs : List V} {rs : List Sl} {E : XE}, OkS (Cx.cn X) X.iv as G env mem σ H → RsOk (Cx.cn X) as G vs rs → (run F n rs mem).sat E P → spG (Cx.cn X) n (FR F) vs H (Post (Cx.cn X) X.iv as G env σ H P) (EK X E)
theorem ro_A : RunOk runA := fun k ro h => runA_sp k ro h
/-- all cells are read -/
theorem RsOk.append {C : Cn} {as : List Addr} {G : Hp} : ∀ {vs ws : List V} {rs ss : List Sl}, RsOk C as G vs rs → RsOk C as G ws ss → RsOk C as G (vs ++ ws) (rs ++ ss)
  | _, _, _, _, .nil, s => s
  | _, _, _, _, .cons h r, s => .cons h (RsOk.append r s)
theorem rsV {C : Cn} {as : List Addr} {G : Hp} : ∀ {vs : List V} {ds : List D}, Reps C G vs ds → RsOk C as G vs (ds.map .v)
  | _, _, .nil => .nil
  | _, _, .cons h r => .cons h (rsV r)
theorem spG_mono {C : Cn} {n : Nat} {F : Fd} {vs : List V} {H : Hp} {Q Q' : VK} {E : XK} (h : spG C n (FR F) vs H Q E) (hq : ∀ v H', Q v H' → Q' v H') : spG C n (FR F) vs H Q' E := by
  obtain ⟨bs, G2, m2, rs2, a1, a2, a3, a4⟩ := h
  exact ⟨bs, G2, m2, rs2, a1, a2, a3, FR.mono F _ _ _ _ _ _ (fun r m z v G' H' y1 y2 y3 y4 => hq _ _ (z v G' H' y1 y2 y3 y4)) (fun c fs m z => z) a4⟩
theorem ob_unl {r : Rs} {m : Mem} {α : Type} {E : XE} {P : α → Mem → Prop} {F : Str → List (Str × D) → Rg α} (h : (obR r m F).sat E P) : ∀ {C : Cn} {as : List Addr} {G H : Hp} {v : V}, ResOk C as G H v r → RepS C as G v (unl r) := by
  intro C as G H v ro
  cases r with
  | v d => exact ro
  | loc n => exact ro
  | nl ds => exact h.elim
section
variable {X : Dx} {E : XE} {a b c e o : Expr} {es rest : List Expr} {pos p0 p2 apos : Pos} {f f1 f2 f3 : Fe} {fa : Fa} {x m : Str} {j n : Nat} {dds : List D} {tb : List (Str × Fd)} {run : Fd → Nat → List Sl → Mem → Rg Rs}
theorem se_meth0 (ru : RunOk run) (tk : Tk X E) (hT : ∀ c F, (c, F) ∈ tb → HasM X.prog X.w X.K X.mg X.T X.base c m j n dds (FR F)) (hr : Room j X.A) (ho : Se X E o f1) {pl : Sem Bool}
    (ht : eval (.Call (.Attribute o m apos) [] [] pos) X.env = (do
      let ov ← eval o X.env
      standAt apos.atName
      let (f, first) ← holding [ov] (getMethod ov m pl)
      callWith pos f first (backTo pos (starEach [] X.env)) (backToKw pos (keywordEach [] X.env))) := by rfl) : Se X E (.Call (.Attribute o m apos) [] [] pos) (methS run tb n dds m f1 anil) := .mk fun env mem P h => fun as G σ H k => by
  refine EW.of (pe_methA0 (pl := pl) (pe_ew X o) ht) (EW.mono (ho env mem _ (sat_bd h) as G σ H k) fun v1 H1 ⟨as1, G1, m1, r1, x1, k1, ro1, f1, h1⟩ => ?_)
  have rs1 := ob_unl h1 ro1
  obtain ⟨c, fs, h2, a, A, dx, vs, e1, e2, e3, rf⟩ := obR_ok k1 ro1 h1
  obtain ⟨hm, h3⟩ := sat_if h2
  obtain ⟨F, e4, h4⟩ := sat_optR h3
  obtain ⟨A', f, fd, ps, ds, dvs, ok, g1, g2, g3, g4, g5, g6⟩ := (hT c F (look_mem e4)).ex
  have eA : A' = A := by
    have := g1.symm.trans e3
    injection this with this
    injection this
  subst eA
  refine ⟨a, dx, vs, A', f, fd, ps, _, j, ds, dvs, _, EK X E, e1, e2.pl (hT c F (look_mem e4)).pl, RepF.nolook rf hm, ⟨g2, g3, ok, hr, g4, g5, tk.passes⟩, ?_⟩
  show spG _ _ _ (v1 :: ([] ++ dvs)) H1 _ _
  have h5 : (run F n (unl r1 :: (([] : List Sl) ++ dds.map .v)) m1).sat E P := h4
  exact spG_mono (ru k1 (.cons rs1 (RsOk.append .nil (rsV (g6 G1)))) h5) fun v H' q => q.ext x1
end
/-! ### C(..) -/
structure HasK (P : Program) (w : World) (K : PySem.W.Frag) (mg : Str → Option Value) (Tb : List NdefX.NTab) (base : Heap) (c : Str) (j n : Nat) (dds : List D) (F : FS) : Prop where
  ex : ∃ (A f : Addr) (fd : FuncData) (ps : List Str) (ds : List Value) (dvs : List V), FnOk P w K mg base (L2.CX P w) j f fd ps (spG ⟨K, mg, Tb, P, w⟩ n F) ∧ mg c = some (.ref A) ∧ Mk K A f ∧ Binds K fd ps ds ∧ Vals dvs ds ∧ ∀ G, Reps ⟨K, mg, Tb, P, w⟩ G dvs dds
  pl : slN c = false := by decide +kernel
theorem HasK.up {P : Program} {w : World} {K : PySem.W.Frag} {mg : Str → Option Value} {Tb : List NdefX.NTab} {base : Heap} {c : Str} {j k n : Nat} {dds : List D} {F : FS} (h : HasK P w K mg Tb base c j n dds F) (le : j ≤ k) : HasK P w K mg Tb base c k n dds F := by
  obtain ⟨A, f, fd, ps, ds, dvs, ok, r⟩ := h.ex
  exact ⟨⟨A, f, fd, ps, ds, dvs, ok.mono le, r⟩, h.pl⟩
/-- a new instance: a cell for the time of its __init__, known by value from then on -/
def newOb (run : Nat → Fd → Nat → List Sl → Mem → Rg Rs) (c : Str) (F : Fd) (n : Nat) (rs : List Sl) (m1 : Mem) : Rg Rs := match run m1.length F n (.loc m1.length :: rs) (m1 ++ [.ob c []]) with
  | .ok (.v .non) m2 => (match m2[m1.length]? with
    | some (.ob c' fs) => .ok (.v (.ob c' fs)) (m2.take m1.length)
    | _ => .no)
  | .ex k fs m2 => .ex k fs m2
  | _ => .no
def makeS (run : Nat → Fd → Nat → List Sl → Mem → Rg Rs) (c : Str) (F : Fd) (n : Nat) (dds : List D) (a : Fa) : Fe := fun env mem => (a env mem).bd fun rs m1 => newOb run c F n (rs ++ dds.map .v) m1
def runN (_ : Nat) : Fd → Nat → List Sl → Mem → Rg Rs := runA
def runL (k : Nat) : Fd → Nat → List Sl → Mem → Rg Rs := runM [k]
theorem OkS.addOb {C : Cn} {I : Iv} {as : List Addr} {G H : Hp} {env : Envt} {mem : Mem} {σ : L2.St} {x dx A : Addr} {c : Str} (pl : slN c = false) (k : OkS C I as G env mem σ H) (hx : H x = none) (hd : H dx = none) (ne : dx ≠ x) (hm : C.mg c = some (.ref A)) :
    Ext as G H (as ++ [x]) G (upd (upd H dx (.own x)) x (.ins A dx [])) ∧ OkS C I (as ++ [x]) G env (mem ++ [.ob c []]) σ (upd (upd H dx (.own x)) x (.ins A dx [])) := by
  obtain ⟨m1, x1⟩ := k.mm.layH hd (.own x)
  have hx1 : (upd H dx (.own x)) x = none := by rw [upd_ne ne.symm]; exact hx
  obtain ⟨m2, x2⟩ := m1.layH hx1 (.ins A dx [])
  have xx := x1.trans x2
  have hn : x ∉ as := fun z => not_tr hx (k.mm.there x z)
  have gx : G x = none := none_sub k hx
  have xe : Ext as G H (as ++ [x]) G (upd (upd H dx (.own x)) x (.ins A dx [])) := ⟨⟨[x], rfl⟩, Sub.refl _, xx.keep, xx.old, fun a h h' => by
    rcases List.mem_append.mp h with z | z
    · exact (h' z).elim
    · rw [List.mem_singleton.mp z]; exact not_tr hx, xx.there⟩
  refine ⟨xe, ⟨⟨by rw [List.length_append, List.length_append, k.mm.len]; rfl, ?_, fun i a c' ha hc => ?_, fun a ha => ?_, m2.sub, m2.nt, m2.tabs⟩, k.len, fun i s e => ?_, I.ext xe k.iv⟩⟩
  · exact List.nodup_append.mpr ⟨k.mm.nd, by simp, fun a ha b hb e => by
      rw [List.mem_singleton] at hb
      exact hn (hb ▸ e ▸ ha)⟩
  · by_cases hi : i < as.length
    · rw [List.getElem?_append_left hi] at ha
      rw [List.getElem?_append_left (by rw [← k.mm.len]; exact hi)] at hc
      exact m2.cell i a c' ha hc
    · rw [List.getElem?_append_right (by omega)] at ha
      rw [List.getElem?_append_right (by rw [← k.mm.len]; omega), ← k.mm.len] at hc
      cases q : i - as.length with
      | zero =>
        rw [q] at ha hc
        cases ha
        cases hc
        exact ⟨gx, A, dx, [], .inl ⟨pl, upd_same⟩, hm, .nil⟩
      | succ j => rw [q] at ha; cases ha
  · rcases List.mem_append.mp ha with z | z
    · exact m2.there a z
    · rw [List.mem_singleton.mp z]
      exact ⟨_, upd_same, fun _ z => nomatch z⟩
  · obtain ⟨v, h1, h2⟩ := k.env i s e
    exact ⟨v, h1, h2.ext xe⟩
section
variable {X : Dx} {E : XE} {a b c e o : Expr} {es rest : List Expr} {pos p0 p2 apos : Pos} {f f1 f2 f3 : Fe} {fa : Fa} {x m : Str} {j n : Nat} {dds : List D} {F : Fd} {run : Nat → Fd → Nat → List Sl → Mem → Rg Rs}
variable {as : List Addr} {G : Hp} {σ : L2.St} {H : Hp} {vs : List V} {rs : List Sl} {env : Envt} {mem : Mem} {P : Rs → Mem → Prop}
theorem newOb_ok (pl : slN x = false) (ru : ∀ k, RunOk (run k)) {A y dx : Addr} (k : OkS (Cx.cn X) X.iv as G env mem σ H) (ro : RsOk (Cx.cn X) as G vs rs) (hm : X.mg x = some (.ref A)) (hx : H y = none) (hd : H dx = none) (ne : dx ≠ y) (h : (newOb run x F n rs mem).sat E P) :
    spG (Cx.cn X) n (FR F) (.ref y :: vs) (upd (upd H dx (.own y)) y (.ins A dx [])) (fun v H2 => v = .non ∧ Post (Cx.cn X) X.iv as G env σ H P (.ref y) H2) (EK X E) := by
  obtain ⟨x1, k1⟩ := OkS.addOb (c := x) pl k hx hd ne hm
  have hl := k.mm.len
  have rs1 : RsOk (Cx.cn X) (as ++ [y]) G (.ref y :: vs) (.loc mem.length :: rs) := .cons ⟨y, by rw [← hl, List.getElem?_append_right (Nat.le_refl _)]; simp, rfl⟩ (ro.ext x1)
  let P' : Rs → Mem → Prop := fun r m2 => r = .v .non ∧ ∃ c' fs, m2[mem.length]? = some (.ob c' fs) ∧ P (.v (.ob c' fs)) (m2.take mem.length)
  have h2 : (run mem.length F n (.loc mem.length :: rs) (mem ++ [.ob x []])).sat E P' := by
    unfold newOb at h
    cases q : run mem.length F n (.loc mem.length :: rs) (mem ++ [.ob x []]) with
    | no => rw [q] at h; exact h.elim
    | ex c fs m2 => rw [q] at h; exact h
    | ok r m2 =>
      rw [q] at h
      cases r with
      | loc _ => exact h.elim
      | nl _ => exact h.elim
      | v d =>
        cases d <;> try exact h.elim
        dsimp only at h
        cases q2 : m2[mem.length]? with
        | none => rw [q2] at h; exact h.elim
        | some cl =>
          cases cl <;> rw [q2] at h <;> try exact h.elim
          exact ⟨rfl, _, _, q2, h⟩
  obtain ⟨bs, G2, m2, rs2, a1, a2, a3, a4⟩ := ru mem.length k1 rs1 h2
  refine ⟨bs, G2, m2, rs2, a1, a2, a3, FR.mono F _ _ _ _ _ _ (fun r m z v G' H' y1 y2 y3 y4 => ?_) (fun c fs m z cls d G' H' y1 y2 y3 => ?_) a4⟩
  · obtain ⟨as', G'', m', r', xe, kk, ro', f', rn, c', fs, hc, hP⟩ := z v G' H' y1 y2 y3 y4
    subst rn
    have hv : v = .non := by
      cases (show Rep _ _ v .non from ro')
      rfl
    refine ⟨hv, ?_⟩
    have hpre : (as ++ [y]) <+: as' := let ⟨t, e⟩ := xe.pre; ⟨t, e.symm⟩
    have hy : as'[mem.length]? = some y := get_pre xe.pre (by rw [← hl, List.getElem?_append_right (Nat.le_refl _)]; simp)
    obtain ⟨g, A', dx', vs', e2, e3, rf⟩ := loc_cell kk hy hc
    have xt := x1.trans xe
    obtain ⟨xo, mo⟩ := exit_st xt kk.mm
    rw [hl] at mo
    have hyn : y ∉ as := fun z => not_tr hx (k.mm.there y z)
    rcases e2 with ⟨p2, e2⟩ | ⟨p2, ss, e2, gd, sk⟩
    · obtain ⟨ml, lx⟩ := mo.learn e2 g hyn
      have x3 := lx G H as xo (not_tr hx)
      refine ⟨as, _, m'.take mem.length, .v (.ob c' fs), x3, k.ext x3 ml, ?_, trivial, hP⟩
      exact .ob (.inl ⟨p2, upd_same⟩) e3 (rf.mono fun b u e => by rw [upd_ne (ne_of_none e g)]; exact e)
    · obtain ⟨ml, lx⟩ := mo.learn e2 g hyn CO.sl.nt
      have x3 := lx G H as xo (not_tr hx)
      refine ⟨as, _, m'.take mem.length, .v (.ob c' fs), x3, k.ext x3 ml, ?_, trivial, hP⟩
      exact .ob (.inr ⟨p2, ss, upd_same, by rw [upd_ne (ne_of_none gd g)]; exact gd, sk⟩) e3 (rf.mono fun b u e => by rw [upd_ne (ne_of_none e g)]; exact e)
  · exact z cls d G' H' y1 y2 y3
end
end Dl
/-! El41: len, repr, in, ==, | of instances: their own defs. -/
namespace Dl
open PySem PySem.Spec PyProof.Rows L2
section
variable {X : Cx} {CX : CXT} {pins : List (Addr × Obj)} {σ : L2.St} {H : Hp} {s : Shared} {f : Addr} {k : Nat} {fd : FuncData} {ps : List Str} {sp : Sp} {ds : List Value} {dvs : List V} {E : XK}
end
end Dl
/-! El42: len, repr, in, |, == of instances, by functions. -/
namespace Dl
open PySem PySem.Spec PyProof.Rows L2
theorem CallR.or {X : Cx} {f : Value} {r1 r2 : List V → Hp → VK → Prop} (h1 : CallR X f r1) (h2 : CallR X f r2) : CallR X f fun xs H Q => r1 xs H Q ∨ r2 xs H Q := fun pins s σ H xs us Q I r h =>
  h.elim (h1 pins s σ H xs us Q I r) (h2 pins s σ H xs us Q I r)
def obO (r : Rs) (m : Mem) : Option Str := match r with
  | .v (.ob c _) => some c
  | .loc n => match m[n]? with
    | some (.ob c _) => some c
    | _ => none
  | _ => none
section
variable {C : Cn} {I : Iv} {as : List Addr} {G H : Hp} {env : Envt} {mem : Mem} {σ : L2.St} {v : V} {r : Rs}
end
section
variable {X : Dx} {as : List Addr} {G H : Hp} {env : Envt} {mem : Mem} {σ : L2.St} {v : V} {r : Rs} {m c : Str} {j n i : Nat} {E : XE} {dds : List D}
end
def intR (r : Rs) (m : Mem) : Rg Rs := match r with
  | .v (.int i) => if 0 ≤ i ∧ i < 2 ^ 63 then .ok (.v (.int i)) m else .no
  | _ => .no
def strR (r : Rs) (m : Mem) : Rg Rs := match r with
  | .v (.str i) => .ok (.v (.str i)) m
  | _ => .no
def blR (p : Bool → Bool) (r : Rs) (m : Mem) : Rg Rs := match r with
  | .v (.bl i) => .ok (.v (.bl (p i))) m
  | _ => .no
def lenOS (tb : List (Str × Fd)) (a : Fe) : Fe := fun env mem => (a env mem).bd fun r m1 => match obO r m1 with
  | some c => optR (tb.lookup c) fun F => (runA F 1 [unl r] m1).bd intR
  | none => rdR r m1 fun d => optR (lenD d) fun n => .ok (.v (.int (n : Int))) m1
def reprOS (tb : List (Str × Fd)) (a : Fe) : Fe := fun env mem => (a env mem).bd fun r m1 => match obO r m1 with
  | some c => optR (tb.lookup c) fun F => (runA F 1 [unl r] m1).bd strR
  | none => .no
section
variable {X : Dx} {E : XE} {a b c e o : Expr} {pos p0 : Pos} {f f1 f2 : Fe} {j : Nat} {tb : List (Str × Fd)}
end
section
variable {X : Dx} {E : XE} {a b c e o : Expr} {pos p0 : Pos} {f f1 f2 : Fe} {j : Nat} {tb : List (Str × Fd)} {m : Str}
end
end Dl
/-! El43: for .. else. -/
namespace Dl
open PySem PySem.Spec PyProof.Rows L2
theorem for_itE {J : It} {n : Nat} {G : Hp → Prop} {Y : Nat → Hp → V → Hp → Prop} (w : Walk J n G Y) {g : TG} {tb u : TS} {D : Ends} {σ : L2.St} {H : Hp} (Pv : Nat → L2.St → Hp → Prop) (h0 : Pv 0 σ H) (hG : ∀ i σ H, i ≤ n → Pv i σ H → G H)
    (hs : ∀ i x σ H H', i < n → Pv i σ H → Y i H x H' → g x σ H' fun σ2 H2 => tb { D with nx := Pv (i + 1), ct := Pv (i + 1), bk := D.nx } σ2 H2) (hd : ∀ σ H, Pv n σ H → u D σ H) :
    ∃ W : Nat → Nat → L2.St → Hp → Prop, (∃ m, W 0 m σ H) ∧ ∀ i m σ H, W i m σ H →
      (J.stop i H ∧ u D σ H) ∨ (J.go i H ∧ ∃ N : L2.St → Hp → Prop, (∀ σ' H', N σ' H' → ∃ m', m' < m ∧ W (i + 1) m' σ' H') ∧ ∀ x H', J.yld i H x H' → g x σ H' fun σ2 H2 => tb { D with nx := N, ct := N, bk := D.nx } σ2 H2) := by
  refine ⟨fun i m σ H => m = n - i ∧ i ≤ n ∧ Pv i σ H, ⟨n, by simp, Nat.zero_le _, h0⟩, ?_⟩
  rintro i m σ H ⟨rfl, hi, p⟩
  have q := hG i σ H hi p
  by_cases hlt : i < n
  · exact .inr ⟨w.goes i H hlt q, Pv (i + 1), fun σ' H' p' => ⟨n - (i + 1), by omega, rfl, hlt, p'⟩, fun x H' y => hs i x σ H H' hlt p (w.yields i H x H' hlt q y)⟩
  · have e : i = n := by omega
    subst e
    exact .inl ⟨w.stops H q, hd σ H p⟩
section
variable {X : Dx} {tg it e : Expr} {body orelse : List Stmt} {pos : Pos} {env : Envt} {mem : Mem} {K : Ks} {Z : Envt → Mem → Prop}
def FVE (X : Dx) (tg : Expr) (body : List Stmt) (K : Ks) (Z : Envt → Mem → Prop) : List D → Envt → Mem → Prop
  | [], env, mem => Z env mem
  | d :: ds, env, mem => GV X tg (.v d) env mem fun e m => SVs X body e m { K with nx := FVE X tg body K Z ds, ct := FVE X tg body K Z ds, bk := K.nx }
def kFE (X : Dx) (tg : Expr) (body : List Stmt) (K : Ks) (Z : Envt → Mem → Prop) (ds : List D) : Ks := { nx := FVE X tg body K Z ds, rt := K.rt, ct := FVE X tg body K Z ds, bk := K.nx }
theorem fvE_step {d : D} {ds : List D} {as : List Addr} {G : Hp} {σ : L2.St} {H : Hp} {x : V} (k : OkS (Cx.cn X) X.iv as G env mem σ H) (f : FVE X tg body K Z (d :: ds) env mem) (r : Rep (Cx.cn X) G x d) {as0 : List Addr} {G0 H0 : Hp} (y : Ext as0 G0 H0 as G H) :
    GW X tg x σ H fun σ2 H2 => SWs X body (endsOf (Cx.cn X) X.iv as0 G0 H0 (kFE X tg body K Z ds)) σ2 H2 := by
  refine GW.mono (f as G σ H x k r) fun σ2 H2 ⟨as', G', e', m', z, k', p⟩ => ?_
  exact SWs.mono (endsOf.ext (y.trans z)) (p as' G' σ2 H2 k')
theorem sv_forE (hp : PassesOwn (model X.prog X.w) X.A X.env X.xe) (hc : X.calm = true) (h : IV X tg it env mem fun ds m => FVE X tg body K (fun e m => SVs X orelse e m K) ds env m) (hs : ∀ x, foldedSetIterable it X.env x = pure x := by intro _; rfl) : SV X (.For tg it body orelse pos) env mem K := fun as G σ H k => by
  refine SW.of (ps_forE hp hc (pi_iw X tg it) (pg_gw X tg) (pss_sw X body) (pss_sw X orelse) hs) ?_
  refine IW.mono (h as G σ H k) fun J H1 ⟨as1, G1, m1, ds, x1, k1, w, h1⟩ => ?_
  refine for_itE w (fun i σ' H' => Sub G1 H' ∧ ∃ as' G' e' m', Ext as1 G1 H1 as' G' H' ∧ OkS (Cx.cn X) X.iv as' G' e' m' σ' H' ∧ FVE X tg body K (fun e m => SVs X orelse e m K) (ds.drop i) e' m') ⟨k1.mm.sub, as1, G1, env, m1, .refl _ _ _, k1, by rw [List.drop_zero]; exact h1⟩
    (fun i σ' H' _ q => q.1) (fun i x σ' H' H'' hi ⟨_, as', G', e', m', y, k', f⟩ yd => ?_) fun σ' H' ⟨_, as', G', e', m', y, k', f⟩ => ?_
  · obtain ⟨d, G2, hd, z, k2, rd⟩ := yd.got k' y.sub
    have e2 : ds.drop i = d :: ds.drop (i + 1) := by
      rw [List.drop_eq_getElem_cons hi, (List.getElem?_eq_some_iff.mp hd).2]
    rw [e2] at f
    refine GW.mono (fvE_step k2 f rd (y.trans z)) fun σ2 H2 q => SWs.mono ?_ q
    exact ⟨fun _ _ ⟨as3, G3, e3, m3, y3, k3, f3⟩ => ⟨fun a o h => k3.mm.sub _ _ (y3.sub _ _ h), as3, G3, e3, m3, y3, k3, f3⟩, fun _ _ z => PostR.ext x1 z, fun _ _ z => PostS.ext x1 z, fun _ _ ⟨as3, G3, e3, m3, y3, k3, f3⟩ => ⟨fun a o h => k3.mm.sub _ _ (y3.sub _ _ h), as3, G3, e3, m3, y3, k3, f3⟩⟩
  · rw [List.drop_length] at f
    exact SWs.mono (endsOf.ext (x1.trans y)) (f as' G' σ' H' k')
end
/-- for .. else: what follows where no turn breaks -/
def forGoE (g : Fg) (body z : Fs) : List D → Fs
  | [], e, m => z e m
  | d :: ds, e, m => match g d e with
    | none => .no
    | some e1 => match body e1 m with
      | .nx e2 m2 => forGoE g body z ds e2 m2
      | .ct e2 m2 => forGoE g body z ds e2 m2
      | .bk e2 m2 => .nx e2 m2
      | .rt r m2 => .rt r m2
      | .ex c fs m2 => .ex c fs m2
      | .no => .no
def forEB (g : Fg) (it : Fi) (body z : Fs) : Fs := fun env m => (it env m).to fun ds m1 => forGoE g body z ds env m1
section
variable {X : Dx} {E : XE} {tg it : Expr} {body orelse : List Stmt} {pos : Pos} {g : Fg} {fi : Fi} {g1 g2 : Fs}
theorem for_fvE (hg : Sg X tg g) (hb : Ssl X E body g1) (hz : Ssl X E orelse g2) {K : Ks} : ∀ (ds : List D) (env : Envt) (mem : Mem), (forGoE g g1 g2 ds env mem).sat E K → FVE X tg body K (fun e m => SVs X orelse e m K) ds env mem
  | [], env, mem, h => hz env mem K h
  | d :: ds, env, mem, h => by
    unfold forGoE at h
    cases q : g d env with
    | none => rw [q] at h; exact h.elim
    | some e1 =>
      rw [q] at h
      dsimp only at h
      refine hg d env mem _ e1 q (hb e1 mem _ ?_)
      cases hq : g1 e1 mem with
      | nx e2 m2 => rw [hq] at h; exact for_fvE hg hb hz ds e2 m2 h
      | ct e2 m2 => rw [hq] at h; exact for_fvE hg hb hz ds e2 m2 h
      | bk e2 m2 => rw [hq] at h; exact h
      | rt r m2 => rw [hq] at h; exact h
      | ex a b d => rw [hq] at h; exact h
      | no => rw [hq] at h; exact h
theorem ss_forE (hp : PassesOwn (model X.prog X.w) X.A X.env X.xe) (hc : X.calm = true) (hg : Sg X tg g) (hit : Si X E tg it fi) (hb : Ssl X E body g1) (hz : Ssl X E orelse g2) (hs : ∀ x, foldedSetIterable it X.env x = pure x := by intro _; rfl) : Ss X E (.For tg it body orelse pos) (forEB g fi g1 g2) := .mk fun env mem K h =>
  sv_forE hp hc (IV.mono (hit env mem _ (sat_to h)) fun ds m q => for_fvE hg hb hz ds env m q) hs
end
end Dl
/-! El44: C(..), properties; how the head gives methods and classes. -/
namespace Dl
open PySem PySem.Spec PyProof.Rows L2
section
variable {X : Dx} {E : XE} {a b c e o : Expr} {es rest : List Expr} {pos p0 p2 apos : Pos} {f f1 f2 f3 : Fe} {fa : Fa} {x m : Str} {j n : Nat} {dds : List D} {F : Fd} {run : Nat → Fd → Nat → List Sl → Mem → Rg Rs}
theorem se_make (ru : ∀ k, RunOk (run k)) (tk : Tk X E) (hK : HasK X.prog X.w X.K X.mg X.T X.base x j n dds (FR F)) (hr : Room (j + 1) X.A) (ha : Sa X E (e :: es) fa)
    (hg : Gl X x := by rfl) (hdb : (x == ("__debug__" : Str)) = false := by decide) (he : starEach (e :: es) X.env = (false, eval e X.env) :: starEach es X.env := by rfl) (hpl : (backTo pos (starEach es X.env)).any (·.1) = false := by rfl) : Se X E (.Call (.Name x p0) (e :: es) [] pos) (makeS run x F n dds fa) := .mk fun env mem P h => fun as G σ H k => by
  obtain ⟨A, f, fd, ps, ds, dvs, ok, g1, g2, g3, g4, g5⟩ := hK.ex
  refine EW.of (pe_make g2 ok hr hg g1 g3 g4 tk.passes (pa_aw X (e :: es)) hdb he hpl) ?_
  refine AW.mono (ha env mem _ (sat_bd h) as G σ H k) fun vs H1 ⟨as1, G1, m1, rs, x1, k1, ro, h1⟩ => ?_
  intro y dx hy hd ne
  exact spG_mono (newOb_ok hK.pl ru k1 (ro.append (rsV (g5 G1))) g1 hy hd ne h1) fun v H' q => ⟨q.1, q.2.ext x1⟩
end
/-! ### properties -/
structure HasP (P : Program) (w : World) (K : PySem.W.Frag) (mg : Str → Option Value) (Tb : List NdefX.NTab) (base : Heap) (c m : Str) (j : Nat) (F : FS) : Prop where
  ex : ∃ (A p g : Addr) (fd : FuncData) (ps : List Str), FnOk P w K mg base (L2.CX P w) j g fd ps (spG ⟨K, mg, Tb, P, w⟩ 1 F) ∧ mg c = some (.ref A) ∧ Cls K A ∧ PropOf K A m p g ∧ Binds K fd ps []
  pl : slN c = false := by decide +kernel
theorem HasP.up {P : Program} {w : World} {K : PySem.W.Frag} {mg : Str → Option Value} {Tb : List NdefX.NTab} {base : Heap} {c m : Str} {j k : Nat} {F : FS} (h : HasP P w K mg Tb base c m j F) (le : j ≤ k) : HasP P w K mg Tb base c m k F := by
  obtain ⟨A, p, g, fd, ps, ok, r⟩ := h.ex
  exact ⟨⟨A, p, g, fd, ps, ok.mono le, r⟩, h.pl⟩
def propS (tb : List (Str × Fd)) (a : Fe) : Fe := fun env m => (a env m).bd fun r m1 => optR (obO r m1) fun c => optR (tb.lookup c) fun F => (runA F 1 [unl r] m1).nx
/-! ### from the head -/
section
variable {P : Program} {w : World} {K : PySem.W.Frag} {mg : Str → Option Value} {Tb : List NdefX.NTab} {base : Heap} {c m : Str} {j n : Nat} {F : Fd} {A f : Addr} {fd : FuncData} {ps : List Str}
theorem hasM (ok : FnOk P w K mg base (L2.CX P w) j f fd ps (spG ⟨K, mg, Tb, P, w⟩ n (FR F))) (hm : mg c = some (.ref A)) (hc : Cls K A) (hM : Meth K A m f) (hb : Binds K fd ps []) (pl : slN c = false := by decide +kernel) : HasM P w K mg Tb base c m j n [] (FR F) := ⟨⟨A, f, fd, ps, [], [], ok, hm, hc, hM, hb, .nil, fun _ => .nil⟩, pl⟩
theorem hasK (ok : FnOk P w K mg base (L2.CX P w) j f fd ps (spG ⟨K, mg, Tb, P, w⟩ n (FR F))) (hm : mg c = some (.ref A)) (hM : Mk K A f) (hb : Binds K fd ps []) (pl : slN c = false := by decide +kernel) : HasK P w K mg Tb base c j n [] (FR F) := ⟨⟨A, f, fd, ps, [], [], ok, hm, hM, hb, .nil, fun _ => .nil⟩, pl⟩
end
end Dl
/-! El45: helpers for the printed texts. -/
namespace Dl
open PySem PySem.Spec PyProof.Rows L2
theorem tb_cons {α : Type} {p : Str → α → Prop} {c : Str} {F : α} {l : List (Str × α)} (h : p c F) (r : ∀ c F, (c, F) ∈ l → p c F) : ∀ c' F', (c', F') ∈ (c, F) :: l → p c' F' := fun c' F' h' => by
  rcases List.mem_cons.mp h' with z | z
  · injection z with a b; subst a; subst b; exact h
  · exact r _ _ z
theorem cs_cons {p : Str → Prop} {c : Str} {l : List Str} (h : p c) (r : ∀ c ∈ l, p c) : ∀ c' ∈ c :: l, p c' := fun c' h' => by
  rcases List.mem_cons.mp h' with z | z
  · rw [z]; exact h
  · exact r _ z
/-! ### y = [..] on one line -/
section
variable {X : Dx} {E : XE} {tg it elt : Expr} {ifs : List Expr} {scope : Scope} {pos py spos : Pos} {y : Str} {env : Envt} {mem : Mem} {tt : Ft} {fe : Fe} {fi : Fi}
theorem sv_setLcG {Pn : List D → Mem → Prop} {K : Ks} (i : Nat) (t : Tg) (own : List (Str × Nat)) (hc : X.calm = true) (hN : X.N.Nodup) (hv : ∀ i ∈ t.vs, i ∈ own.map (·.2)) (h : IV X tg it env mem fun ds m => CV X t elt ifs scope (own.map (·.2)) env Pn ds [] m)
    (fin : ∀ as G σ H as2 G2 H2 m2 v acc, OkS (Cx.cn X) X.iv as G env mem σ H → Ext as G H as2 G2 H2 → OkS (Cx.cn X) X.iv as2 G2 env m2 σ H2 → ResOk (Cx.cn X) as2 G2 H2 v (.nl acc) → Fr H v (.nl acc) → Pn acc m2 → gName i v σ H2 (PostS (Cx.cn X) X.iv as G H K.nx))
    (ok : BlkOk X.N X.env.scope scope own) (hg : ∀ s H C cl fp, PG (BX X scope s H C cl fp) tg (t.g X.K)) (hsw : swapsWith (.ListComp elt [⟨tg, it, ifs, 0⟩] scope pos) (some (.Name y py)) spos.line X.env = pure true) (hy : X.N[i]? = some y := by rfl) (hyl : X.env.scope.names.lookup y = some .local := by rfl) (hs : ∀ x, foldedSetIterable it X.env x = pure x := by intro _; rfl) :
    SV X (.Assign [.Name y py] (.ListComp elt [⟨tg, it, ifs, 0⟩] scope pos) spos) env mem K := fun as G σ H k => by
  refine SW.of (ps_setLc (i := i) (te := teW X scope elt) (tt := ttW X scope ifs) hc hN hy hyl hsw (pi_iw X tg it) ok (fun s H C cl fp => hg s H C cl fp)
    (fun s H C cl fp => ⟨fun pins s' σ' H' Q I hq => (pts_ts (BX X scope s H C cl fp) ifs).run pins s' σ' H' Q I (hq s H C cl fp)⟩) (fun s H C cl fp => ⟨fun pins s' σ' H' Q I hq => hq s H C cl fp pins s' I⟩) hs) ?_
  show tLc _ _ _ _ _ σ H (fun v H1 => gName i v σ H1 (PostS (Cx.cn X) X.iv as G H K.nx))
  refine IW.mono (h as G σ H k) fun J H1 ⟨as1, G1, m1, ds, x1, k1, w, h1⟩ => ?_
  intro D0 hD
  obtain ⟨W, w0, hW⟩ := lc_body (P := fun r m => ∃ acc, r = .nl acc ∧ Pn acc m) t (own.map (·.2)) x1 k1 w hv (CV.mono (fun acc m q => ⟨acc, rfl, q⟩) h1) D0 hD
  refine ⟨W, w0, fun j m H' w' => (hW j m H' w').elim (fun ⟨s, q⟩ => .inl ⟨s, ?_⟩) fun q => .inr q⟩
  obtain ⟨as2, G2, m2, r2, x2, k2, ro2, f2, acc, er, hP⟩ := q
  subst er
  exact fin as G σ H as2 G2 H' m2 _ acc k x2 k2 ro2 f2 hP
theorem ss_setLc (i : Nat) (ty : Tg) (own : List (Str × Nat)) (hc : X.calm = true) (hN : X.N.Nodup) (hv : ∀ i ∈ ty.vs, i ∈ own.map (·.2)) (hit : Si X E tg it fi) (hi : ∀ s H C cl fp, Sts (BX X scope s H C cl fp) xNo ifs tt) (he : ∀ s H C cl fp, Se (BX X scope s H C cl fp) xNo elt fe)
    (ok : BlkOk X.N X.env.scope scope own) (hg : ∀ s H C cl fp, PG (BX X scope s H C cl fp) tg (ty.g X.K)) (hsw : swapsWith (.ListComp elt [⟨tg, it, ifs, 0⟩] scope pos) (some (.Name y py)) spos.line X.env = pure true) (hy : X.N[i]? = some y := by rfl) (hyl : X.env.scope.names.lookup y = some .local := by rfl) (hs : ∀ x, foldedSetIterable it X.env x = pure x := by intro _; rfl) :
    Ss X E (.Assign [.Name y py] (.ListComp elt [⟨tg, it, ifs, 0⟩] scope pos) spos) (setB i (lcS ty (own.map (·.2)) tt fe fi)) := .mk fun env mem K h => by
  have h' := sat_to h
  refine sv_setLcG (Pn := fun acc m => K.nx (env.set i (some (.v (.lst acc)))) m) i ty own hc hN hv (IV.mono (hit env mem _ (sat_bd h')) fun ds m q => lc_cv ty _ env hi he ds [] m (sat_bd q)) (fun as G σ H as2 G2 H2 m2 v acc k x2 k2 ro2 f2 hP => ?_) ok hg hsw hy hyl hs
  obtain ⟨G3, x3, k3, rs3⟩ := learn_post k.iv x2 k2 ro2 f2
  exact (PostS.now (k3.set i rs3) hP).ext x3
end
end Dl
/-! El46: written data. -/
namespace Dl
open PySem PySem.Spec PyProof.Rows L2
def litRs : D → Rs
  | .lst ds => .nl ds
  | d => .v d
theorem unl_lit (d : D) : unl (litRs d) = .v d := by cases d <;> rfl
mutual
def litD : Nat → Expr → Option D
  | 0, _ => none
  | _ + 1, .Constant (.int i) _ _ => some (.int i)
  | _ + 1, .Constant (.bool b) _ _ => some (.bl b)
  | _ + 1, .Constant (.str s) _ _ => some (.str s)
  | _ + 1, .Constant .none _ _ => some .non
  | _ + 1, .UnaryOp .USub (.Constant (.int i) _ _) _ => some (.int (-i))
  | n + 1, .Tuple es _ _ => match litDs n es with
    | some ds => if ds.length ≤ 100 then some (.tup ds) else none
    | none => none
  | n + 1, .List es _ => match litDs n es with
    | some ds => if ds.length ≤ 100 then some (.lst ds) else none
    | none => none
  | _ + 1, _ => none
def litDs : Nat → List Expr → Option (List D)
  | 0, _ => none
  | _ + 1, [] => some []
  | n + 1, e :: es => match litD n e, litDs n es with
    | some d, some ds => some (d :: ds)
    | _, _ => none
end
theorem frz_vs (m : Mem) : ∀ ds : List D, frz (ds.map .v) m = some (ds, m)
  | [] => rfl
  | d :: ds => by rw [List.map_cons, frz, frz_vs m ds]; rfl
section
variable {X : Dx} {env : Envt} {mem : Mem}
theorem star_of {n : Nat} {e : Expr} {d : D} (h : litD n e = some d) (es : List Expr) : starEach (e :: es) X.env = (false, eval e X.env) :: starEach es X.env := by
  cases n with
  | zero => rw [litD] at h; cases h
  | succ n => cases e <;> first | rfl | (rw [litD] at h; cases h; done) | (simp [litD] at h)
mutual
theorem lit_ok : ∀ {n : Nat} {e : Expr} {d : D}, litD n e = some d → EV X e env mem (fun r m => m = mem ∧ r = litRs d)
  | 0, _, _, h => by rw [litD] at h; cases h
  | _ + 1, .Constant (.int i) _ _, d, h => by rw [litD] at h; cases h; exact ev_int ⟨rfl, rfl⟩
  | _ + 1, .Constant (.bool b) _ _, d, h => by rw [litD] at h; cases h; exact ev_bl ⟨rfl, rfl⟩
  | _ + 1, .Constant (.str s) _ _, d, h => by rw [litD] at h; cases h; exact ev_str ⟨rfl, rfl⟩
  | _ + 1, .Constant .none _ _, d, h => by rw [litD] at h; cases h; exact ev_non ⟨rfl, rfl⟩
  | _ + 1, .UnaryOp .USub (.Constant (.int i) _ _) _, d, h => by
    rw [litD] at h; cases h
    exact ev_neg (ev_int ⟨_, rfl, i, rfl, rfl, rfl⟩)
  | n + 1, .Tuple es _ _, d, h => by
    rw [litD] at h
    cases q : litDs n es with
    | none => rw [q] at h; cases h
    | some ds =>
      rw [q] at h
      dsimp only at h
      split at h
      · rename_i hl
        cases h
        exact ev_tup ((lits_ok q).mono fun rs m ⟨e1, e2⟩ => ⟨ds, m, by rw [e2]; exact frz_vs m ds, le_size hl, e1, rfl⟩)
      · cases h
  | n + 1, .List es _, d, h => by
    rw [litD] at h
    cases q : litDs n es with
    | none => rw [q] at h; cases h
    | some ds =>
      rw [q] at h
      dsimp only at h
      split at h
      · rename_i hl
        cases h
        exact ev_lst ((lits_ok q).mono fun rs m ⟨e1, e2⟩ => ⟨ds, m, by rw [e2]; exact frz_vs m ds, le_size hl, e1, rfl⟩)
      · cases h
theorem lits_ok : ∀ {n : Nat} {es : List Expr} {ds : List D}, litDs n es = some ds → AV X es env mem (fun rs m => m = mem ∧ rs = ds.map .v)
  | 0, _, _, h => by rw [litDs] at h; cases h
  | _ + 1, [], _, h => by rw [litDs] at h; cases h; exact av_nil ⟨rfl, rfl⟩
  | n + 1, e :: es, ds, h => by
    rw [litDs] at h
    cases q1 : litD n e with
    | none => simp [q1] at h
    | some d =>
      cases q2 : litDs n es with
      | none => simp [q1, q2] at h
      | some ds' =>
        simp only [q1, q2] at h
        cases h
        refine av_cons ((lit_ok q1).mono fun r m ⟨e1, e2⟩ => ?_) (star_of q1 es)
        rw [e1, e2]
        exact (lits_ok q2).mono fun rs m' ⟨e3, e4⟩ => ⟨e3, by rw [e4, unl_lit, List.map_cons]⟩
end
end
def litS (d : D) : Fe := fun _ m => .ok (litRs d) m
theorem se_lit {X : Dx} {E : XE} {e : Expr} {d : D} (h : litD 60 e = some d) : Se X E e (litS d) := .mk fun env mem P hP => (lit_ok h).mono fun r m ⟨e1, e2⟩ => by
  subst e1; subst e2; exact hP
end Dl
/-! El47: the program's errors, and what the head tells of them. -/
namespace Lw
open PySem
end Lw
namespace Dl
open PySem PySem.Spec PyProof.Rows L2
end Dl
/-! El48: what the head tells of own classes: constants, defaults. -/
namespace Dl
open PySem PySem.Spec PyProof.Rows L2
variable {P : Program} {w : World}
/-- where a def's default stands -/
def dflA (K : PySem.W.Frag) (p : Str × Option Str) (i : Nat) : Addr := match K.lookup (He.fAd K p) with
  | some ⟨_, _, .func fd, _⟩ => (match fd.defaults with
    | .ref T => (match K.lookup T with
      | some ⟨_, _, .seq its _, _⟩ => (match its[i]? with
        | some (.ref a) => a
        | _ => 0)
      | _ => 0)
    | _ => 0)
  | _ => 0
def conB (K : PySem.W.Frag) (c x : Str) (d : D) : Bool := match PySem.W.findIn K (.ref (He.ga K c)) x with
  | some (some u) => vB K 4 u d && (He.eqO (PySem.W.specialIn K u "__get__") (some none) && !PySem.W.copiedNames.contains x)
  | _ => false
theorem con_ok {K : PySem.W.Frag} {h : Heap} {mg : Str → Option Value} {Tb : List NdefX.NTab} {c x : Str} {d : D} (X : K.In h) (G : h.Ns mainGlobals mg) (hm : mg c = some (.ref (He.ga K c))) (hc : Cls K (He.ga K c)) (b : conB K c x d = true) (pl : slN c = false := by decide +kernel) : CCon ⟨K, mg, Tb, P, w⟩ c x d := by
  unfold conB at b
  split at b
  · rename_i u e
    obtain ⟨b1, b2⟩ := He.ba b
    obtain ⟨b3, b4⟩ := He.ba b2
    obtain ⟨v, r, rp⟩ := vB_ok (mg := mg) (Tb := Tb) b1
    exact ⟨⟨_, v, u, hm, hc, ⟨e, r, He.eqO_ok b3, by simpa using b4⟩, rp⟩, pl⟩
  · cases b
end Dl
namespace Dl
open PySem PySem.Spec PyProof.Rows L2
end Dl
/-! El49: [..] * k. -/
namespace Dl
open PySem PySem.Spec PyProof.Rows L2
def repS (a b : Fe) : Fe := fun env m => (a env m).bd fun r1 m1 => isNl r1 fun ds => (b env m1).bd fun r2 m2 => rdR r2 m2 fun y => match y with
  | .int k => if -(2 ^ 63) ≤ k ∧ k < 2 ^ 63 ∧ ds.length * k.toNat ≤ 100 then .ok (.nl (List.replicate k.toNat ds).flatten) m2 else .no
  | _ => .no
theorem Reps.rep {C : Cn} {G : Hp} {vs : List V} {ds : List D} (r : Reps C G vs ds) : ∀ n : Nat, Reps C G (List.replicate n vs).flatten (List.replicate n ds).flatten
  | 0 => .nil
  | n + 1 => by rw [List.replicate_succ, List.replicate_succ, List.flatten_cons, List.flatten_cons]; exact r.append (Reps.rep r n)
end Dl
/-! El50: parts of the text that the law does not reach: nothing is told of them. -/
namespace Dl
open PySem PySem.Spec PyProof.Rows L2
end Dl
/-! El51: max, min of lists of ints, of two ints. -/
namespace Dl
open PySem PySem.Spec PyProof.Rows L2
def mxL (n : Int) (ns : List Int) : Int := ns.foldl max n
def mnL (n : Int) (ns : List Int) : Int := ns.foldl min n
section
variable {X : Dx} {E : XE} {e a b : Expr} {pos p0 : Pos} {env : Envt} {mem : Mem} {P : Rs → Mem → Prop} {f f1 f2 : Fe}
def maxLR (mx : Int → List Int → Int) (d : D) (m : Mem) : Rg Rs := match d with
  | .lst ds => optR (unI ds) fun
    | n :: ns => .ok (.v (.int (mx n ns))) m
    | [] => .no
  | _ => .no
def maxLS (a : Fe) : Fe := rd1S a (maxLR mxL)
def minLS (a : Fe) : Fe := rd1S a (maxLR mnL)
end
end Dl
/-! El52: list comprehensions with two for. -/
namespace Dl
open PySem PySem.Spec PyProof.Rows L2
theorem lc_itG {J : It} {n : Nat} {G : Hp → Prop} {Y : Nat → Hp → V → Hp → Prop} (w : Walk J n G Y) {g : TG} {tt : TT} {te : TE} {vs : List Nat} {σ : L2.St} {S : Hp} {D : Addr} {Qd : Hp → Prop} (Pv : Nat → Hp → Prop) (h0 : Pv 0 S) (hG : ∀ i H, i ≤ n → Pv i H → G H)
    (hs : ∀ i x H H', i < n → Pv i H → Y i H x H' → g x (L2.wipe σ vs) H' fun σ2 H2 => L2.wipe σ2 vs = L2.wipe σ vs ∧ tt σ2 H2 fun b H3 =>
      if b = true then te σ2 H3 fun y H4 => ∃ acc, H4 D = some (.lst acc) ∧ acc.length < sizeLine ∧ Pv (i + 1) (upd H4 D (.lst (acc ++ [y]))) else Pv (i + 1) H3) (hd : ∀ H, Pv n H → Qd H) :
    ∃ W : Nat → Nat → Hp → Prop, (∃ m, W 0 m S) ∧ ∀ i m H, W i m H →
      (J.stop i H ∧ Qd H) ∨ (J.go i H ∧ ∃ Nx : Hp → Prop, (∀ H', Nx H' → ∃ m', m' < m ∧ W (i + 1) m' H') ∧ ∀ x H', J.yld i H x H' → g x (L2.wipe σ vs) H' fun σ2 H2 => L2.wipe σ2 vs = L2.wipe σ vs ∧ tt σ2 H2 fun b H3 =>
        if b = true then te σ2 H3 fun y H4 => ∃ acc, H4 D = some (.lst acc) ∧ acc.length < sizeLine ∧ Nx (upd H4 D (.lst (acc ++ [y]))) else Nx H3) := by
  refine ⟨fun i m H => m = n - i ∧ i ≤ n ∧ Pv i H, ⟨n, by simp, Nat.zero_le _, h0⟩, ?_⟩
  rintro i m H ⟨rfl, hi, p⟩
  have q := hG i H hi p
  by_cases hlt : i < n
  · refine .inr ⟨w.goes i H hlt q, Pv (i + 1), fun H' p' => ⟨n - (i + 1), by omega, rfl, hlt, p'⟩, fun x H' y => hs i x H H' hlt p (w.yields i H x H' hlt q y)⟩
  · have e : i = n := by omega
    subst e
    exact .inl ⟨w.stops H q, hd H p⟩
section
variable {X : Dx} {tg it tg1 it1 elt : Expr} {ifs1 : List Expr} {scope : Scope} {env : Envt} {mem : Mem} {P : Rs → Mem → Prop} {pos : Pos}
/-- the inner loop: a list at D0 grows on -/
theorem lc_inner (t : Tg) (vs : List Nat) {asB as1 : List Addr} {GB G1 HB H4 : Hp} {σ : L2.St} {m1 : Mem} {J : It} {ds acc0 : List D} {ws0 : List V} {Kc : List D → Mem → Prop} {Nx : Hp → Prop} {D0 : Addr} (hD : HB D0 = none) (i0 : X.iv.p asB GB HB)
    (xB : Ext asB GB HB as1 G1 H4) (k1 : OkS (Cx.cn X) X.iv as1 G1 env m1 σ H4) (hw0 : H4 D0 = some (.lst ws0)) (hG0 : G1 D0 = none) (hn0 : D0 ∉ as1) (rp0 : Reps (Cx.cn X) G1 ws0 acc0) (w : DWalk (Cx.cn X) J G1 ds) (hv : ∀ i ∈ t.vs, i ∈ vs)
    (h1 : CV X t elt ifs1 scope vs env Kc ds acc0 m1)
    (hN : ∀ H acc ws as' G' m', Ext asB GB HB as' G' H → Mm (Cx.cn X) as' m' G' H → H D0 = some (.lst ws) → G' D0 = none → D0 ∉ as' → Reps (Cx.cn X) G' ws acc → Kc acc m' → Nx H) :
    ∃ W : Nat → Nat → Hp → Prop, (∃ m, W 0 m H4) ∧ ∀ i m H, W i m H →
      (J.stop i H ∧ Nx H) ∨ (J.go i H ∧ ∃ Nx1 : Hp → Prop, (∀ H', Nx1 H' → ∃ m', m' < m ∧ W (i + 1) m' H') ∧ ∀ x H', J.yld i H x H' → t.g X.K x (L2.wipe σ vs) H' fun σ2 H2 => L2.wipe σ2 vs = L2.wipe σ vs ∧
        ttW X scope ifs1 σ2 H2 fun b H3 => if b = true then teW X scope elt σ2 H3 fun y H4 => ∃ acc, H4 D0 = some (.lst acc) ∧ acc.length < sizeLine ∧ Nx1 (upd H4 D0 (.lst (acc ++ [y]))) else Nx1 H3) := by
  refine lc_itG (g := t.g X.K) (tt := ttW X scope ifs1) (te := teW X scope elt) (vs := vs) (σ := σ) (S := H4) (D := D0) (Qd := Nx) w (fun i H => Sub G1 H ∧ ∃ acc ws as' G' m', Sub G1 G' ∧ Ext asB GB HB as' G' H ∧ OkS (Cx.cn X) X.iv as' G' (wipeE env vs) m' (L2.wipe σ vs) H ∧ H D0 = some (.lst ws) ∧ G' D0 = none ∧ D0 ∉ as' ∧ Reps (Cx.cn X) G' ws acc ∧ CV X t elt ifs1 scope vs env Kc (ds.drop i) acc m') ?_ (fun i H _ q => q.1) ?_ ?_
  · exact ⟨k1.mm.sub, acc0, ws0, as1, G1, m1, Sub.refl _, xB, wipe_ok k1 vs, hw0, hG0, hn0, rp0, by rw [List.drop_zero]; exact h1⟩
  · rintro i x H H' hi ⟨s1, acc, ws, as', G', m', sG, y, k, hw, hG, hn, rp, cv⟩ yd
    obtain ⟨d, G2, hd, z, k2, rd⟩ := yd.got k sG
    have e2 : ds.drop i = d :: ds.drop (i + 1) := by
      rw [List.drop_eq_getElem_cons hi, (List.getElem?_eq_some_iff.mp hd).2]
    rw [e2] at cv
    obtain ⟨e, he, R, hR, hE⟩ := cv
    refine tg_put (C := Cx.cn X) k2 rd he hv fun σ2 k3 hwp => ⟨hwp.trans (wipe_wipe fun _ h => h), fun s Hb C cl fp => ?_⟩
    refine TsW.mono ?_ (ts_of (X := BX X scope s Hb C cl fp) k3 (hR s Hb C cl fp))
    rintro b H3 ⟨as3, G3, m3, x3, k4, r3⟩
    have hh := hE b m3 r3
    have x13 := (y.trans z).trans x3
    have hH' : H' D0 = some (.lst ws) := z.keep _ _ hn hw nt_lst
    have hG2 : G2 D0 = none := z.old _ hn (ownL hw) hG
    have hH3 : H3 D0 = some (.lst ws) := x3.keep _ _ hn hH' nt_lst
    have hG3 : G3 D0 = none := x3.old _ hn (ownL hH') hG2
    have hn3 : D0 ∉ as3 := fun q => x3.new _ q hn (trL hH')
    cases b with
    | false =>
      rw [if_neg Bool.false_ne_true]
      exact ⟨fun a o h => k4.mm.sub _ _ (x3.sub _ _ (z.sub _ _ (sG _ _ h))), acc, ws, as3, G3, m3, (sG.trans z.sub).trans x3.sub, x13, k2.ext x3 k4.mm, hH3, hG3, hn3, (rp.mono z.sub).mono x3.sub, hh⟩
    | true =>
      rw [if_pos rfl]
      intro s Hb C cl fp
      refine EW.mono (hh s Hb C cl fp as3 G3 σ2 H3 k4) ?_
      rintro v H4' ⟨as4, G4, m4, r4, x4, k5, ro4, f4, yv, m5, ef, hlen, cv'⟩
      obtain ⟨G5, x5, k6, rs5⟩ := learn_post k4.iv x4 k5 ro4 f4
      obtain ⟨G6, x6, k7, rp6⟩ := frz_ok k6 (rsOne rs5) ef
      have x46 := x5.trans x6
      have x16 := x13.trans x46
      have sG6 : Sub G1 G6 := ((sG.trans z.sub).trans x3.sub).trans x46.sub
      have hH4 : H4' D0 = some (.lst ws) := x46.keep _ _ hn3 hH3 nt_lst
      have hG6 : G6 D0 = none := x46.old _ hn3 (ownL hH3) hG3
      have hn6 : D0 ∉ as4 := fun q => x46.new _ q hn3 (trL hH3)
      cases rp6 with
      | cons ry _ =>
        have kk := (k2.ext (x3.trans x46) k7.mm).updFree hG6 hn6 hH4 (.lst (ws ++ [v])) (X.iv.ext (x16.updFree hD _) i0)
        exact ⟨ws, hH4, by rw [rp.length]; exact hlen, fun a o h => kk.mm.sub _ _ (sG6 _ _ h), acc ++ [yv], ws ++ [v], as4, G6, m5, sG6, x16.updFree hD _, kk, upd_same, hG6, hn6, (((rp.mono z.sub).mono x3.sub).mono x46.sub).snoc ry, cv'⟩
  · rintro H ⟨s1, acc, ws, as', G', m', sG, y, k, hw, hG, hn, rp, cv⟩
    rw [List.drop_length] at cv
    exact hN H acc ws as' G' m' y k.mm hw hG hn rp cv
/-- the turns of a comprehension with two for -/
def CV2 (X : Dx) (t t1 : Tg) (elt tg1 it1 : Expr) (ifs1 : List Expr) (scope : Scope) (vs vs1 : List Nat) (env0 : Envt) (Kc : List D → Mem → Prop) : List D → List D → Mem → Prop
  | [], acc, mem => Kc acc mem
  | d :: ds, acc, mem => ∃ e, t.put (wipeE env0 vs) d = some e ∧ ∀ s H C cl fp, IV (BX X scope s H C cl fp) tg1 it1 e mem fun ds1 m1 => CV X t1 elt ifs1 scope vs1 e (CV2 X t t1 elt tg1 it1 ifs1 scope vs vs1 env0 Kc ds) ds1 acc m1
theorem lc2_body (t t1 : Tg) (vs vs1 : List Nat) {Pn : List D → Mem → Prop} {as1 : List Addr} {G1 : Hp} {σ : L2.St} {H0 H1 : Hp} {m1 : Mem} {J : It} {ds : List D} {Q : VK} (k1 : OkS (Cx.cn X) X.iv as1 G1 env m1 σ H1) (w : DWalk (Cx.cn X) J G1 ds) (hv : ∀ i ∈ t.vs, i ∈ vs) (hv1 : ∀ i ∈ t1.vs, i ∈ vs1)
    (h1 : CV2 X t t1 elt tg1 it1 ifs1 scope vs vs1 env Pn ds [] m1) (fin : ∀ D0 H as2 G2 m2 acc, H1 D0 = none → Ext as1 G1 H1 as2 G2 H → Mm (Cx.cn X) as2 m2 G2 H → ResOk (Cx.cn X) as2 G2 H (.ref D0) (.nl acc) → Pn acc m2 → Q (.ref D0) H) :
    tLc2 (fun _ _ R => R J H1) (t.g X.K) tYes (fun σ H R => ∀ s Hb C cl fp, IW (BX X scope s Hb C cl fp) tg1 it1 σ H R) (t1.g X.K) (ttW X scope ifs1) (teW X scope elt) vs vs1 σ H0 Q := by
  unfold tLc2
  intro D0 hD
  refine ⟨fun i m H => m = ds.length - i ∧ i ≤ ds.length ∧ Sub G1 H ∧ ∃ acc ws as' G' m', Ext as1 G1 H1 as' G' H ∧ Mm (Cx.cn X) as' m' G' H ∧ H D0 = some (.lst ws) ∧ G' D0 = none ∧ D0 ∉ as' ∧ Reps (Cx.cn X) G' ws acc ∧ CV2 X t t1 elt tg1 it1 ifs1 scope vs vs1 env Pn (ds.drop i) acc m', ⟨ds.length, by simp, Nat.zero_le _, ?_⟩, ?_⟩
  · obtain ⟨m, z⟩ := k1.mm.layH hD (.lst [])
    exact ⟨m.sub, [], [], as1, G1, m1, z, m, upd_same, none_sub k1 hD, fun h => not_tr hD (k1.mm.there _ h), .nil, by rw [List.drop_zero]; exact h1⟩
  · rintro i m H ⟨rfl, hi, s1, acc, ws, as', G', m', y, mm, hw, hG, hn, rp, cv⟩
    by_cases hlt : i < ds.length
    · refine .inr ⟨w.goes i H hlt s1, fun H' => ds.length - (i + 1) = ds.length - (i + 1) ∧ i + 1 ≤ ds.length ∧ Sub G1 H' ∧ ∃ acc ws as' G' m', Ext as1 G1 H1 as' G' H' ∧ Mm (Cx.cn X) as' m' G' H' ∧ H' D0 = some (.lst ws) ∧ G' D0 = none ∧ D0 ∉ as' ∧ Reps (Cx.cn X) G' ws acc ∧ CV2 X t t1 elt tg1 it1 ifs1 scope vs vs1 env Pn (ds.drop (i + 1)) acc m', fun H' p' => ⟨ds.length - (i + 1), by omega, p'⟩, fun x H' yl => ?_⟩
      have k : OkS (Cx.cn X) X.iv as' G' (wipeE env vs) m' (L2.wipe σ vs) H := (wipe_ok k1 _).ext y mm
      obtain ⟨d, G2, hd, z, k2, rd⟩ := (show YD (Cx.cn X) G1 ds i H x H' from w.yields i H x H' hlt s1 yl).got k y.sub
      have e2 : ds.drop i = d :: ds.drop (i + 1) := by
        rw [List.drop_eq_getElem_cons hlt, (List.getElem?_eq_some_iff.mp hd).2]
      rw [e2] at cv
      obtain ⟨e, he, hI⟩ := cv
      refine tg_put (C := Cx.cn X) k2 rd he hv fun σ2 k3 hwp => ⟨hwp.trans (wipe_wipe fun _ h => h), ?_⟩
      intro s Hb C cl fp
      refine IW.mono (hI s Hb C cl fp as' G2 σ2 H' k3) fun J1 H4 ⟨as4, G4, m4, ds1, x4, k4, w4, cv1⟩ => ?_
      have hH' : H' D0 = some (.lst ws) := z.keep _ _ hn hw nt_lst
      have hG2 : G2 D0 = none := z.old _ hn (ownL hw) hG
      have hH4 : H4 D0 = some (.lst ws) := x4.keep _ _ hn hH' nt_lst
      have hG4 : G4 D0 = none := x4.old _ hn (ownL hH') hG2
      have hn4 : D0 ∉ as4 := fun q => x4.new _ q hn (trL hH')
      exact lc_inner t1 vs1 hD k1.iv ((y.trans z).trans x4) k4 hH4 hG4 hn4 ((rp.mono z.sub).mono x4.sub) w4 hv1 cv1 fun H5 acc5 ws5 as5 G5 m5 x5 mm5 hw5 hG5 hn5 rp5 cv5 =>
        ⟨rfl, hlt, fun a o h => mm5.sub _ _ (x5.sub _ _ h), acc5, ws5, as5, G5, m5, x5, mm5, hw5, hG5, hn5, rp5, cv5⟩
    · have ei : i = ds.length := by omega
      subst ei
      rw [List.drop_length] at cv
      exact .inl ⟨w.stops H s1, fin D0 H as' G' m' acc hD y mm ⟨D0, ws, rfl, hw, hG, hn, rp⟩ cv⟩
theorem sv_setLc2 {Pn : List D → Mem → Prop} {K : Ks} {y : Str} {py spos : Pos} (i : Nat) (t t1 : Tg) (own : List (Str × Nat)) (vs1 : List Nat) (hc : X.calm = true) (hN : X.N.Nodup) (hv : ∀ i ∈ t.vs, i ∈ own.map (·.2)) (hv1 : ∀ i ∈ t1.vs, i ∈ vs1) (hvs : ∀ i ∈ vs1, i ∈ own.map (·.2))
    (h : IV X tg it env mem fun ds m => CV2 X t t1 elt tg1 it1 ifs1 scope (own.map (·.2)) vs1 env Pn ds [] m)
    (fin : ∀ as G σ H as2 G2 H2 m2 v acc, OkS (Cx.cn X) X.iv as G env mem σ H → Ext as G H as2 G2 H2 → OkS (Cx.cn X) X.iv as2 G2 env m2 σ H2 → ResOk (Cx.cn X) as2 G2 H2 v (.nl acc) → Fr H v (.nl acc) → Pn acc m2 → gName i v σ H2 (PostS (Cx.cn X) X.iv as G H K.nx))
    (ok : BlkOk X.N X.env.scope scope own) (hg : ∀ s H C cl fp, PG (BX X scope s H C cl fp) tg (t.g X.K)) (hg1 : ∀ s H C cl fp, PG (BX X scope s H C cl fp) tg1 (t1.g X.K)) (hsw : swapsWith (.ListComp elt [⟨tg, it, [], 0⟩, ⟨tg1, it1, ifs1, 0⟩] scope pos) (some (.Name y py)) spos.line X.env = pure true) (hy : X.N[i]? = some y := by rfl) (hyl : X.env.scope.names.lookup y = some .local := by rfl) (hs : ∀ x, foldedSetIterable it X.env x = pure x := by intro _; rfl) (hs1 : ∀ env x, foldedSetIterable it1 env x = pure x := by intro _ _; rfl) :
    SV X (.Assign [.Name y py] (.ListComp elt [⟨tg, it, [], 0⟩, ⟨tg1, it1, ifs1, 0⟩] scope pos) spos) env mem K := fun as G σ H k => by
  refine SW.of (ps_setLc2 (i := i) (te := teW X scope elt) (tt := tYes) (tt1 := ttW X scope ifs1) (wi1 := fun σ H R => ∀ s Hb C cl fp, IW (BX X scope s Hb C cl fp) tg1 it1 σ H R) (vs1 := vs1) hc hN hy hyl hsw (pi_iw X tg it) ok hvs (fun s H C cl fp => hg s H C cl fp)
    (fun s H C cl fp => pts_nil) (fun s H C cl fp => ⟨fun pins s' σ' H' Q I hq => hq s H C cl fp pins s' I⟩) (fun s H C cl fp => hg1 s H C cl fp) (fun s H C cl fp => ⟨fun pins s' σ' H' Q I hq => (pts_ts (BX X scope s H C cl fp) ifs1).run pins s' σ' H' Q I (hq s H C cl fp)⟩) (fun s H C cl fp => ⟨fun pins s' σ' H' Q I hq => hq s H C cl fp pins s' I⟩) hs hs1) ?_
  refine IW.mono (h as G σ H k) fun J H1 ⟨as1, G1, m1, ds, x1, k1, w, h1⟩ => ?_
  exact lc2_body (H0 := H) (Q := fun v H1 => gName i v σ H1 (PostS (Cx.cn X) X.iv as G H K.nx)) t t1 (own.map (·.2)) vs1 k1 w hv hv1 h1 fun D0 H' as2 G2 m2 acc hD y mm ro cv =>
    fin as G σ H as2 G2 H' m2 _ acc k (x1.trans y) (k.ext (x1.trans y) mm) ro (fun p e t => by
      cases e
      exact not_tr hD (x1.there D0 t)) cv
/-! ### by functions -/
def lc2Go (t t1 : Tg) (vs vs1 : List Nat) (env0 : Envt) (ifs1 : Ft) (elt : Fe) (it1 : Fi) : List D → List D → Mem → Rg (List D)
  | [], acc, m => .ok acc m
  | d :: ds, acc, m => optR (t.put (wipeE env0 vs) d) fun e => (it1 e m).nx.bd fun ds1 m1 => (lcGo t1 vs1 e ifs1 elt ds1 acc m1).bd fun acc' m2 => lc2Go t t1 vs vs1 env0 ifs1 elt it1 ds acc' m2
def lc2S (t t1 : Tg) (vs vs1 : List Nat) (ifs1 : Ft) (elt : Fe) (it it1 : Fi) : Fe := fun env m => (it env m).bd fun ds m1 => (lc2Go t t1 vs vs1 env ifs1 elt it1 ds [] m1).bd fun acc m2 => .ok (.nl acc) m2
theorem lc2_cv {E : XE} {tt1 : Ft} {fe : Fe} {fi1 : Fi} (t t1 : Tg) (vs vs1 : List Nat) (env0 : Envt) (hi : ∀ s H C cl fp, Sts (BX X scope s H C cl fp) xNo ifs1 tt1) (he : ∀ s H C cl fp, Se (BX X scope s H C cl fp) xNo elt fe) (hit : ∀ s H C cl fp, Si (BX X scope s H C cl fp) xNo tg1 it1 fi1) {Kc : List D → Mem → Prop} :
    ∀ (ds acc : List D) (m : Mem), (lc2Go t t1 vs vs1 env0 tt1 fe fi1 ds acc m).sat E Kc → CV2 X t t1 elt tg1 it1 ifs1 scope vs vs1 env0 Kc ds acc m
  | [], acc, m, h => h
  | d :: ds, acc, m, h => by
    obtain ⟨e, e1, q⟩ := sat_optR h
    refine ⟨e, e1, fun s H C cl fp => IV.mono (hit s H C cl fp e m _ (sat_nx (sat_bd q))) fun ds1 m1 q1 => ?_⟩
    exact lc_cv t1 vs1 e hi he ds1 acc m1 (Rg.sat.mono (sat_bd q1) fun acc' m2 q2 => lc2_cv t t1 vs vs1 env0 hi he hit ds acc' m2 q2)
end
end Dl
namespace Dl
open PySem PySem.Spec PyProof.Rows L2
end Dl
namespace Dl
open PySem PySem.Spec PyProof.Rows L2
theorem ss_setLc2 {X : Dx} {E : XE} {y : Str} {py spos : Pos} {tg it tg1 it1 elt : Expr} {ifs1 : List Expr} {scope : Scope} {pos : Pos} {tt1 : Ft} {fe : Fe} {fi fi1 : Fi} (i : Nat) (t t1 : Tg) (own : List (Str × Nat)) (vs1 : List Nat) (hc : X.calm = true) (hN : X.N.Nodup) (hv : ∀ i ∈ t.vs, i ∈ own.map (·.2)) (hv1 : ∀ i ∈ t1.vs, i ∈ vs1) (hvs : ∀ i ∈ vs1, i ∈ own.map (·.2))
    (hit : Si X E tg it fi) (hit1 : ∀ s H C cl fp, Si (BX X scope s H C cl fp) xNo tg1 it1 fi1) (hi : ∀ s H C cl fp, Sts (BX X scope s H C cl fp) xNo ifs1 tt1) (he : ∀ s H C cl fp, Se (BX X scope s H C cl fp) xNo elt fe)
    (ok : BlkOk X.N X.env.scope scope own) (hg : ∀ s H C cl fp, PG (BX X scope s H C cl fp) tg (t.g X.K)) (hg1 : ∀ s H C cl fp, PG (BX X scope s H C cl fp) tg1 (t1.g X.K)) (hsw : swapsWith (.ListComp elt [⟨tg, it, [], 0⟩, ⟨tg1, it1, ifs1, 0⟩] scope pos) (some (.Name y py)) spos.line X.env = pure true) (hy : X.N[i]? = some y := by rfl) (hyl : X.env.scope.names.lookup y = some .local := by rfl) (hs : ∀ x, foldedSetIterable it X.env x = pure x := by intro _; rfl) (hs1 : ∀ env x, foldedSetIterable it1 env x = pure x := by intro _ _; rfl) :
    Ss X E (.Assign [.Name y py] (.ListComp elt [⟨tg, it, [], 0⟩, ⟨tg1, it1, ifs1, 0⟩] scope pos) spos) (setB i (lc2S t t1 (own.map (·.2)) vs1 tt1 fe fi fi1)) := .mk fun env mem K h => by
  have h' := sat_to h
  refine sv_setLc2 (Pn := fun acc m => K.nx (env.set i (some (.v (.lst acc)))) m) i t t1 own vs1 hc hN hv hv1 hvs (IV.mono (hit env mem _ (sat_bd h')) fun ds m q => lc2_cv t t1 _ vs1 env hi he hit1 ds [] m (sat_bd q)) (fun as G σ H as2 G2 H2 m2 v acc k x2 k2 ro2 f2 hP => ?_) ok hg hg1 hsw hy hyl hs hs1
  obtain ⟨G3, x3, k3, rs3⟩ := learn_post k.iv x2 k2 ro2 f2
  exact (PostS.now (k3.set i rs3) hP).ext x3
end Dl
/-! El53: [*a, b, *c]. -/
namespace Dl
open PySem PySem.Spec PyProof.Rows L2
theorem rsOk_map {C : Cn} {as : List Addr} {G : Hp} : ∀ {vs : List V} {ds : List D}, Reps C G vs ds → RsOk C as G vs (ds.map .v)
  | _, _, .nil => .nil
  | _, _, .cons h r => .cons h (rsOk_map r)
theorem RsOk.app {C : Cn} {as : List Addr} {G : Hp} : ∀ {vs ws : List V} {rs ss : List Sl}, RsOk C as G vs rs → RsOk C as G ws ss → RsOk C as G (vs ++ ws) (rs ++ ss)
  | _, _, _, _, .nil, h => h
  | _, _, _, _, .cons a r, h => .cons a (r.app h)
/-- what stands in a list or tuple just now -/
theorem seq_read {C : Cn} {I : Iv} {as : List Addr} {G H : Hp} {env : Envt} {mem : Mem} {σ : L2.St} {v : V} {r : Rs} {d : D} {ds : List D} (k : OkS C I as G env mem σ H) (ro : ResOk C as G H v r) (e : dr mem r = some d) (hs : seqD d = some ds) :
    ∃ a xs, v = .ref a ∧ (SqT C.K H a xs ∨ SqL C.K H a xs) ∧ Reps C G xs ds := by
  cases d with
  | lst es =>
    cases hs
    obtain ⟨a, vs, rfl, hq, rp⟩ := ro.lst k e
    exact ⟨a, vs, rfl, .inr hq, rp⟩
  | tup es =>
    cases hs
    obtain ⟨a, vs, rfl, hq, rp⟩ := ro.tup k e
    exact ⟨a, vs, rfl, .inl hq, rp⟩
  | _ => cases hs
def aconsX (e : Fe) (es : Fa) : Fa := fun env m => (e env m).bd fun r m1 => rdR r m1 fun d => optR (seqD d) fun ds => (es env m1).bd fun rs m2 => .ok (ds.map .v ++ rs) m2
section
variable {X : Dx} {E : XE} {e : Expr} {es : List Expr} {p : Pos} {f : Fe} {fa : Fa} {env : Envt} {mem : Mem}
theorem av_star {P : List Sl → Mem → Prop} (h : EV X e env mem fun r m => ∃ d ds, dr m r = some d ∧ seqD d = some ds ∧ AV X es env m fun rs m' => P (ds.map .v ++ rs) m') (hs : starEach (.Starred e p :: es) X.env = (true, eval e X.env) :: starEach es X.env := by rfl) : AV X (.Starred e p :: es) env mem P := fun as G σ H k => by
  refine AW.of (StX.pa_star (pe_ew X e) (pa_aw X es) hs) ?_
  refine EW.mono (h as G σ H k) fun v1 H1 ⟨as1, G1, m1, r1, x1, k1, ro1, f1, d, ds, e1, e2, h1⟩ => ?_
  obtain ⟨a, xs, ev, hq, rp⟩ := seq_read k1 ro1 e1 e2
  refine ⟨a, xs, ev, hq, ?_⟩
  refine AW.mono (h1 as1 G1 σ H1 k1) fun vs H2 ⟨as3, G3, m3, rs, x3, k3, ro3, h3⟩ => ?_
  exact ⟨as3, G3, m3, ds.map .v ++ rs, x1.trans x3, k3, (rsOk_map (rp.mono x3.sub)).app ro3, h3⟩
theorem sa_star (ha : Se X E e f) (hb : Sa X E es fa) (hs : starEach (.Starred e p :: es) X.env = (true, eval e X.env) :: starEach es X.env := by rfl) : Sa X E (.Starred e p :: es) (aconsX f fa) := .mk fun env mem P h => by
  refine av_star ((ha env mem _ (sat_bd h)).mono fun r m q => ?_) hs
  obtain ⟨d, e1, q1⟩ := sat_rdR q
  obtain ⟨ds, e2, q2⟩ := sat_optR q1
  exact ⟨d, ds, e1, e2, hb env m _ (sat_bd q2)⟩
end
end Dl
/-! El54: y = [..] on one line, over a list that may change elsewhere. -/
namespace Dl
open PySem PySem.Spec PyProof.Rows L2
section
variable {X : Dx} {E : XE} {tg it elt : Expr} {ifs : List Expr} {scope : Scope} {pos py spos : Pos} {y : Str} {env : Envt} {mem : Mem} {tt : Ft} {fe f : Fe}
end
end Dl
/-! El55: f(). -/
namespace Dl
open PySem PySem.Spec PyProof.Rows L2
section
variable {X : Dx} {E : XE} {x : Str} {j : Nat} {F : Fd} {p0 pos : Pos} {env : Envt} {mem : Mem}
end
end Dl
/-! El56: max, min of two ints. -/
namespace Dl
open PySem PySem.Spec PyProof.Rows L2
section
variable {X : Dx} {E : XE} {e e2 : Expr} {pos p0 : Pos} {fa : Fa}
end
end Dl
/-! El57: super().__init__(..) of an own class whose base is an own class. -/
namespace Dl
open PySem PySem.Spec PyProof.Rows L2
section
variable {P : Program} {w : World} {K : PySem.W.Frag} {mg : Str → Option Value} {base : Heap} {ps : List Str} {qual : Str} {scope : Scope} {f cc cda C a f2 dx : Addr} {A : Around} {outer : List Env} {s0 s : Shared} {H0 H : Hp} {σ : L2.St}
end
section
variable {P : Program} {w : World} {K : PySem.W.Frag} {mg : Str → Option Value} {base : Heap} {Tb : List NdefX.NTab} {ps : List Str} {name qual : Str} {params : Arguments} {scope : Scope} {f cc cda C f2 : Addr} {dV kV doc pm ct oc : Value} {an od : Option Addr} {osl : Array (Option Value)}
end
end Dl
/-! El58: such classes in the head. -/
namespace Dl
open PySem PySem.Spec PyProof.Rows L2
end Dl
/-! El59: one of two readings. -/
namespace Dl
open PySem PySem.Spec PyProof.Rows L2
end Dl
/-! El60: dicts whose keys are tuples of ints and texts: in, d[k], d[k] = v, {}, len. -/
namespace Dl
open PySem PySem.Spec PyProof.Rows L2
def unK : List D → Option (List Key)
  | [] => some []
  | .int i :: r => (unK r).map (Sum.inl i :: ·)
  | .str x :: r => (unK r).map (Sum.inr x :: ·)
  | _ :: _ => none
theorem unK_kD : ∀ k : List Key, unK (k.map kD) = some k
  | [] => rfl
  | .inl i :: r => by show (unK (r.map kD)).map _ = _; rw [unK_kD r]; rfl
  | .inr i :: r => by show (unK (r.map kD)).map _ = _; rw [unK_kD r]; rfl
def keyD : D → Option (List Key)
  | .tup ds => unK ds
  | _ => none
theorem keyD_kD (k : List Key) : keyD (.tup (k.map kD)) = some k := unK_kD k
def dget : List (D × D) → List Key → Option D
  | [], _ => none
  | (q, d) :: r, k => if keyD q = some k then some d else dget r k
def dput (kvs : List (D × D)) (k : List Key) (d : D) : List (D × D) :=
  if (dget kvs k).isSome then kvs.map (fun p => if keyD p.1 = some k then (p.1, d) else p) else kvs ++ [(.tup (k.map kD), d)]
section
variable {C : Cn} {G H : Hp}
theorem RepD.keys : ∀ {xs : List (List Key × Addr × Value)} {ds : List (D × D)}, RepD C G xs ds → ∀ x ∈ xs, SqT C.K G x.2.1 (x.1.map kV)
  | _, _, .nil, _, h => nomatch h
  | _, _, .cons t _ _ r, x, h => by
    rcases List.mem_cons.mp h with rfl | h
    · exact t
    · exact r.keys x h
theorem RepD.length : ∀ {xs : List (List Key × Addr × Value)} {ds : List (D × D)}, RepD C G xs ds → xs.length = ds.length
  | _, _, .nil => rfl
  | _, _, .cons t _ _ r => by rw [List.length_cons, List.length_cons, r.length]
theorem atKey_cons {x : List Key × Addr × Value} {xs : List (List Key × Addr × Value)} {k : List Key} : atKey (x :: xs) k = if x.1 = k then some x.2 else atKey xs k := by
  unfold atKey
  rw [List.find?_cons]
  by_cases e : x.1 = k <;> simp [e]
theorem RepD.get : ∀ {xs : List (List Key × Addr × Value)} {ds : List (D × D)} (k : List Key), RepD C G xs ds → (∃ p v d, atKey xs k = some p ∧ dget ds k = some d ∧ RelV v p.2 ∧ Rep C G v d) ∨ (atKey xs k = none ∧ dget ds k = none)
  | _, _, _, .nil => .inr ⟨rfl, rfl⟩
  | _, _, k, .cons (k := k1) (b := b1) (u := u1) (v := v) (d := d) t rv rd r => by
    rw [atKey_cons, dget, keyD_kD]
    by_cases e : k1 = k
    · subst e
      exact .inl ⟨(b1, u1), v, d, by simp, by simp, rv, rd⟩
    · have e2 : ¬ (some k1 = some k) := fun z => e (Option.some.inj z)
      rcases r.get k with ⟨p, v, d, h1, h2, h3, h4⟩ | ⟨h1, h2⟩
      · exact .inl ⟨p, v, d, by simp [e, h1], by simp [e, h2], h3, h4⟩
      · exact .inr ⟨by simp [e, h1], by simp [e, h2]⟩
theorem RepD.isSome {xs : List (List Key × Addr × Value)} {ds : List (D × D)} (k : List Key) (r : RepD C G xs ds) : (atKey xs k).isSome = (dget ds k).isSome := by
  rcases r.get k with ⟨p, v, d, h1, h2, _⟩ | ⟨h1, h2⟩ <;> rw [h1, h2] <;> rfl
theorem RepD.repl {k : List Key} {u : Value} {v : V} {d : D} (rv : RelV v u) (rd : Rep C G v d) : ∀ {xs : List (List Key × Addr × Value)} {ds : List (D × D)}, RepD C G xs ds →
    RepD C G (xs.map (putAt k u)) (ds.map fun p => if keyD p.1 = some k then (p.1, d) else p)
  | _, _, .nil => .nil
  | _, _, .cons (k := k1) t rv1 rd1 r => by
    rw [List.map_cons, List.map_cons]
    unfold putAt
    rw [keyD_kD]
    by_cases e : k1 = k
    · subst e
      simp only [if_true]
      exact .cons t rv rd (r.repl rv rd)
    · have e2 : ¬ (some k1 = some k) := fun z => e (Option.some.inj z)
      simp only [if_neg e, if_neg e2]
      exact .cons t rv1 rd1 (r.repl rv rd)
theorem RepD.snoc {k : List Key} {b : Addr} {u : Value} {v : V} {d : D} (t : SqT C.K G b (k.map kV)) (rv : RelV v u) (rd : Rep C G v d) : ∀ {xs : List (List Key × Addr × Value)} {ds : List (D × D)}, RepD C G xs ds →
    RepD C G (xs ++ [(k, b, u)]) (ds ++ [(.tup (k.map kD), d)])
  | _, _, .nil => .cons t rv rd .nil
  | _, _, .cons t1 rv1 rd1 r => .cons t1 rv1 rd1 (r.snoc t rv rd)
theorem RepD.put {k : List Key} {b : Addr} {u : Value} {v : V} {d : D} (t : SqT C.K G b (k.map kV)) (rv : RelV v u) (rd : Rep C G v d) {xs : List (List Key × Addr × Value)} {ds : List (D × D)} (r : RepD C G xs ds) :
    RepD C G (storedH xs k b u) (dput ds k d) := by
  unfold storedH dput
  rw [r.isSome k]
  split
  · exact r.repl rv rd
  · exact r.snoc t rv rd
end
/-- a dict that stands at a -/
structure DX (X : Cx) (H : Hp) (a : Addr) (o : Obj) (xs : List (List Key × Addr × Value)) : Prop where
  at_ : H a = some (ExO a o)
  sys : (a == sysModules) = false
  t : DicT X.prog X.w o xs
  ks : ∀ x ∈ xs, SqT X.K H x.2.1 (x.1.map kV)
section
variable {X : Cx} {pins : List (Addr × Obj)} {σ : L2.St} {H : Hp} {s : Shared}
theorem is_key {b : Addr} {k : List Key} (I : Inv X pins σ H s) (h : SqT X.K H b (k.map kV)) : (tupleKind (mixKind X.prog X.w)).is s.heap k b := by
  obtain ⟨its, rv, ⟨o, h1, h2, n, h3⟩, _⟩ := I.tuple h
  exact ⟨o, its.toArray, n, h1, h2, h3, by simpa using items_are rv⟩
theorem DX.ho {a : Addr} {o : Obj} {xs : List (List Key × Addr × Value)} (d : DX X H a o xs) (I : Inv X pins σ H s) : s.heap.get? a = some o := (show ObjOk X.prog X.w H s.heap a (ExO a o) from I.hok a _ d.at_).1
theorem DX.dd {a : Addr} {o : Obj} {xs : List (List Key × Addr × Value)} (d : DX X H a o xs) (I : Inv X pins σ H s) : s.heap.DictOfH (tupleKind (mixKind X.prog X.w)) a xs := by
  obtain ⟨es, ep, d1, d2⟩ := d.t.dat
  exact ⟨o, es, ep, d.ho I, d.t.ex, d1, d2, fun x hx => is_key I (d.ks x hx), d.t.nd⟩
end
theorem Sub.rdx {C : Cn} {G H : Hp} (s : Sub G H) {X : Cx} (hK : C.K = X.K) (hP : C.P = X.prog) (hw : C.w = X.w) {a : Addr} {o : Obj} {xs : List (List Key × Addr × Value)} {ds : List (D × D)} (h : H a = some (ExO a o)) (n : (a == sysModules) = false) (t : DicT C.P C.w o xs) (r : RepD C G xs ds) : DX X H a o xs :=
  ⟨h, n, by rw [← hP, ← hw]; exact t, fun x hx => by rw [← hK]; exact s.sqT (r.keys x hx)⟩
section
variable {X : Dx} {as : List Addr} {G H : Hp} {env : Envt} {mem : Mem} {σ : L2.St} {v : V} {r : Rs} {kvs : List (D × D)}
theorem ResOk.dic (k : OkS (Cx.cn X) X.iv as G env mem σ H) (ro : ResOk (Cx.cn X) as G H v r) (e : dr mem r = some (.dic kvs)) : ∃ a o xs, v = .ref a ∧ DX X H a o xs ∧ RepD (Cx.cn X) G xs kvs := by
  cases r with
  | v x =>
    cases e
    cases (show Rep _ G v (.dic kvs) from ro) with
    | dic h n t q => exact ⟨_, _, _, rfl, k.mm.sub.rdx rfl rfl rfl (k.mm.sub _ _ h) n t q, q⟩
  | nl ds => cases e
  | loc n =>
    obtain ⟨a, ha, rfl⟩ := ro
    rcases dr_loc e with ⟨ds', e1, hc⟩ | ⟨ds', e1, hc⟩ <;> cases e1
    obtain ⟨_, o, xs, h, n, t, q⟩ := loc_cell k ha hc
    exact ⟨a, o, xs, rfl, k.mm.sub.rdx rfl rfl rfl h n t q, q⟩
end
section
variable {X : Dx} {E : XE} {a b e o i : Expr} {pos p0 p' : Pos} {f f1 f2 f3 : Fe} {x : Str}
end
end Dl
/-! El61: dicts: {}, len, list, sorted, walked, known by value from now on. -/
namespace Dl
open PySem PySem.Spec PyProof.Rows L2
/-! ### a new cell -/
theorem OkS.cellG {C : Cn} {I : Iv} {as as0 : List Addr} {G G0 H H0 : Hp} {env : Envt} {mem : Mem} {σ : L2.St} {p : Addr} {c : Cell} (i0 : I.p as0 G0 H0) (x : Ext as0 G0 H0 as G H) (k : OkS C I as G env mem σ H) (n : p ∉ as) (t : Tr H p) (new : CellOk C G H p c) (f : ¬ Tr H0 p) :
    ∃ as', Ext as0 G0 H0 as' G H ∧ OkS C I as' G env (mem ++ [c]) σ H ∧ ∀ v, v = .ref p → RepS C as' G v (.loc mem.length) := by
  have pre : ∃ more, as ++ [p] = as ++ more := ⟨[p], rfl⟩
  obtain ⟨m0, e0⟩ := x.pre
  have xx : Ext as0 G0 H0 (as ++ [p]) G H := by
    refine ⟨⟨m0 ++ [p], by rw [e0, List.append_assoc]⟩, x.sub, x.keep, x.old, fun a ha hn => ?_, x.there⟩
    rcases List.mem_append.mp ha with ha | ha
    · exact x.new a ha hn
    · rw [List.mem_singleton.mp ha]; exact f
  refine ⟨as ++ [p], xx, ⟨⟨?_, ?_, fun j b c hb hc => ?_, fun b hb => ?_, k.mm.sub, k.mm.nt, k.mm.tabs⟩, k.len, fun i s e => ?_, I.ext xx i0⟩, fun v hv => ⟨p, ?_, hv⟩⟩
  · rw [List.length_append, List.length_append, k.mm.len] <;> rfl
  · rw [List.nodup_append]
    exact ⟨k.mm.nd, by simp, fun a ha b hb e => n (by rw [← List.mem_singleton.mp hb, ← e]; exact ha)⟩
  · by_cases hj : j < as.length
    · rw [List.getElem?_append_left hj] at hb
      rw [List.getElem?_append_left (by rw [← k.mm.len]; exact hj)] at hc
      exact k.mm.cell j b c hb hc
    · have hj' : j = as.length := by
        have := (List.getElem?_eq_some_iff.mp hb).1
        rw [List.length_append, List.length_singleton] at this
        omega
      subst hj'
      rw [List.getElem?_append_right (Nat.le_refl _), Nat.sub_self] at hb
      rw [k.mm.len, List.getElem?_append_right (Nat.le_refl _), Nat.sub_self] at hc
      cases hb
      cases hc
      exact new
  · rcases List.mem_append.mp hb with hb | hb
    · exact k.mm.there b hb
    · rw [List.mem_singleton.mp hb]; exact t
  · obtain ⟨w, h1, h2⟩ := k.env i s e
    refine ⟨w, h1, ?_⟩
    cases s with
    | v d => exact h2
    | loc n => obtain ⟨a, ha, e⟩ := h2; exact ⟨a, get_pre pre ha, e⟩
  · rw [← k.mm.len, List.getElem?_append_right (Nat.le_refl _), Nat.sub_self] <;> rfl
section
variable {X : Dx} {E : XE} {a b e o : Expr} {pos p0 p' p2 : Pos} {f f1 f2 f3 : Fe} {x : Str} {st : Stmt} {fs : Fs}
end
section
variable {X : Dx} {E : XE} {e : Expr} {p0 pos : Pos} {f : Fe}
end
section
variable {X : Dx} {E : XE} {tg it : Expr} {f : Fe} {env : Envt} {mem : Mem} {P : List D → Mem → Prop}
end
end Dl
/-! El62: {k: v for .. in ..}, keys tuples. -/
namespace Dl
open PySem PySem.Spec PyProof.Rows L2
section
variable {X : Cx}
end
end Dl
/-! El63: the walk follows: dict comprehensions. -/
namespace Dl
open PySem PySem.Spec PyProof.Rows L2
section
variable {X : Dx} {kx vx : Expr} {ifs : List Expr} {scope : Scope} {env : Envt}
/-- the new dict behind the turns -/
def PX (X : Dx) (as0 : List Addr) (G0 H0 : Hp) (env : Envt) (σ : L2.St) (P : List (D × D) → Mem → Prop) : V → Hp → Prop := fun v H => ∃ D as' G' m' acc o xs, v = .ref D ∧ Ext as0 G0 H0 as' G' H ∧ OkS (Cx.cn X) X.iv as' G' env m' σ H ∧ H D = some (ExO D o) ∧ (D == sysModules) = false ∧ DicT X.prog X.w o xs ∧ RepD (Cx.cn X) G' xs acc ∧ G' D = none ∧ D ∉ as' ∧ ¬ Tr H0 D ∧ P acc m'
end
section
variable {X : Dx} {E : XE} {tg it kx vx : Expr} {ifs : List Expr} {scope : Scope} {pos py spos : Pos} {y : Str} {env : Envt} {mem : Mem} {tt : Ft} {fk fv : Fe} {fi : Fi}
theorem PX.val {as : List Addr} {G H : Hp} {σ : L2.St} {P : Rs → Mem → Prop} {v : V} {H' : Hp} (h : PX X as G H env σ (fun acc m => P (.v (.dic acc)) m) v H') (i0 : X.iv.p as G H) : Post (Cx.cn X) X.iv as G env σ H P v H' := by
  obtain ⟨D0, as', G', m', acc, o, xs, rfl, x, k, hH, hs, t, rp, hG, hn, h0, hp⟩ := h
  obtain ⟨m3, lx⟩ := k.mm.learn hH hG hn (coX (a := D0) t).nt
  have x2 := lx _ _ _ x h0
  have sG : Sub G' (upd G' D0 (ExO D0 o)) := fun b u e => by rw [upd_ne (ne_of_none e hG)]; exact e
  refine ⟨as', _, m', .v (.dic acc), x2, ⟨m3, k.len, fun i s e => ?_, X.iv.ext x2 i0⟩, Rep.dic upd_same hs t (rp.mono sG), trivial, hp⟩
  obtain ⟨w, h1, h2⟩ := k.env i s e
  refine ⟨w, h1, ?_⟩
  cases s with
  | v d => exact Rep.mono sG h2
  | loc n => exact h2
/-! ### x = {..}, x a cell of its own from here on -/
theorem PX.cell {as : List Addr} {G H : Hp} {σ : L2.St} {i : Nat} {K : Ks} {v : V} {H' : Hp} (h : PX X as G H env σ (fun acc m => K.nx (env.set i (some (.loc m.length))) (m ++ [.dic acc])) v H') (i0 : X.iv.p as G H) : PostS (Cx.cn X) X.iv as G H K.nx (σ.set i (some v)) H' := by
  obtain ⟨D0, as', G', m', acc, o, xs, rfl, x, k, hH, hs, t, rp, hG, hn, h0, hp⟩ := h
  obtain ⟨as2, x2, k2, rs2⟩ := OkS.cellG i0 x k hn ⟨_, hH, (coX (a := D0) t).nt⟩ (c := .dic acc) ⟨hG, o, xs, hH, hs, t, rp⟩ h0
  exact (PostS.now (k2.set i (rs2 _ rfl)) hp).ext x2
theorem PX.slot {as : List Addr} {G H : Hp} {σ : L2.St} {i : Nat} {K : Ks} {v : V} {H' : Hp} (h : PX X as G H env σ (fun acc m => K.nx (env.set i (some (.v (.dic acc)))) m) v H') (i0 : X.iv.p as G H) : PostS (Cx.cn X) X.iv as G H K.nx (σ.set i (some v)) H' := by
  have z := PX.val (P := fun r m => ∃ acc, r = .v (.dic acc) ∧ K.nx (env.set i (some (.v (.dic acc)))) m) (by
    obtain ⟨D0, as', G', m', acc, o, xs, e, x, k, hH, hs, t, rp, hG, hn, h0, hp⟩ := h
    exact ⟨D0, as', G', m', acc, o, xs, e, x, k, hH, hs, t, rp, hG, hn, h0, acc, rfl, hp⟩) i0
  obtain ⟨as', G', m', r, x, k, ro, _, acc, rfl, hp⟩ := z
  exact (PostS.now (k.set (s := .v (.dic acc)) i ro) hp).ext x
section
variable (hu : X.A.units + 65 < cLine) (ty : Tg) (own : List (Str × Nat)) (hc : X.calm = true) (hN : X.N.Nodup) (hv : ∀ i ∈ ty.vs, i ∈ own.map (·.2)) (hit : Si X E tg it fi) (hi : ∀ s H C cl fp, Sts (BX X scope s H C cl fp) xNo ifs tt) (hk : ∀ s H C cl fp, Se (BX X scope s H C cl fp) xNo kx fk) (he : ∀ s H C cl fp, Se (BX X scope s H C cl fp) xNo vx fv)
    (ok : BlkOk X.N X.env.scope scope own) (hg : ∀ s H C cl fp, PG (BX X scope s H C cl fp) tg (ty.g X.K))
include hu hc hN hv hit hi hk he ok hg
end
end
end Dl
/-! El64: functions made within a def, handed to another def: their cells stand in the abstract heap while that one runs. -/
namespace Dl
open PySem PySem.Spec PyProof.Rows L2 NdefX
abbrev Cells := Addr → Option Obj
/-- they are not -/
def cd (L : Cells) (H : Hp) : Hp := fun a => match L a with
  | some _ => none
  | none => H a
section
variable {P : Program} {w : World} {K : PySem.W.Frag} {mg : Str → Option Value} {base : Heap} {L : Cells} {H H' : Hp} {h : Heap} {A : Around} {outer : List Env} {s s' : Shared} {Q : VK} {u : Value}
end
/-! ### a function value: what it gives, wherever the heap has grown -/
def Keeps (H0 H : Hp) : Prop := ∀ a o, H0 a = some o → NoT o → H a = some o
structure VFn (P : Program) (w : World) (K : PySem.W.Frag) (mg : Str → Option Value) (base : Heap) (C : Cn) (k : Nat) (f : Addr) (φ : List Key → Option Bool) (H0 : Hp) : Prop where
  fn : ∃ F : NF, H0 f = some (FnO f F)
  run : ∀ (A : Around) (outer : List Env) (s : Shared) (H G : Hp) (u : Value) (v : V) (d : D) (kk : List Key) (b : Bool) (E : XK), Room k A → Env0 P w K mg base A outer s H → Keeps H0 H → Mm C [] [] G H → RelV v u → Rep C G v d → keyD d = some kk → φ kk = some b →
    codeAny (model P w) A (.call (.ref f) ⟨[u], []⟩) (CR (L2.CX P w) outer P w H s (fun r H' => r = .bl b ∧ ∃ G', Ext [] G H [] G' H' ∧ Mm C [] [] G' H') E) s
theorem VFn.mono {P : Program} {w : World} {K : PySem.W.Frag} {mg : Str → Option Value} {base : Heap} {C : Cn} {j k : Nat} {f : Addr} {φ : List Key → Option Bool} {H0 : Hp} (V : VFn P w K mg base C j f φ H0) (h : j ≤ k) : VFn P w K mg base C k f φ H0 :=
  ⟨V.fn, fun A outer s H G u v d kk b E hr => V.run A outer s H G u v d kk b E (hr.mono h)⟩
section
variable {X : Dx} {E : XE} {e : Expr} {x : Str} {p0 pos : Pos} {fe : Fe} {k i : Nat} {f : Addr} {φ : List Key → Option Bool} {H0 : Hp}
end
end Dl
/-! El65: a def whose promise leans on what the heap tells; a function made within a def, by its body. -/
namespace Dl
open PySem PySem.Spec PyProof.Rows L2 NdefX
section
variable {P : Program} {w : World} {K : PySem.W.Frag} {mg : Str → Option Value} {base : Heap} {Tb : List NTab}
end
section
variable {P : Program} {w : World} {K : PySem.W.Frag} {mg : Str → Option Value} {base : Heap} {Tb : List NTab}
end
end Dl
/-! El66: a def within a def as a statement; a call that hands such functions on. -/
namespace Dl
open PySem PySem.Spec PyProof.Rows L2 NdefX
section
variable {X : Dx}
end
section
variable {X : Dx} {E : XE} {x : Str} {p0 pos : Pos} {e : Expr} {es : List Expr} {j n : Nat} {env : Envt} {mem : Mem} {P : Rs → Mem → Prop}
end
end Dl
/-! El67: a def that makes two functions and hands them on. -/
namespace Dl
open PySem PySem.Spec PyProof.Rows L2 NdefX
abbrev A4 := Addr × Addr × Addr × Addr
section
variable {X : Dx} {E : XE} {α : Type}
end
section
variable {P : Program} {w : World} {K : PySem.W.Frag} {mg : Str → Option Value} {base : Heap} {Tb : List NTab}
end
section
variable {C : Cn} {I : Iv} {as : List Addr} {G H : Hp} {env : Envt} {m : Mem} {σ : L2.St}
end
/-! ### the call that hands both on -/
abbrev AV2 := (Addr × (List Key → Option Bool)) × (Addr × (List Key → Option Bool))
end Dl
/-! El68: calls that leave defaults out, calls with keywords. -/
namespace Dl
open PySem PySem.Spec PyProof.Rows L2
section
variable {X : Dx} {E : XE} {x : Str} {p0 pos : Pos} {e : Expr} {es : List Expr} {kws : List Keyword} {j n np : Nat} {F : Fd} {dds : List D} {fa fb : Fa} {as : List Addr} {G H : Hp} {env : Envt} {mem : Mem} {σ : L2.St} {vs : List V} {rs : List Sl} {P : Rs → Mem → Prop}
end
end Dl
/-! El69: helpers for the printed texts: tables of several names, defaults, keywords. -/
namespace Dl
open PySem PySem.Spec PyProof.Rows L2
end Dl
noncomputable section
namespace Lw
open PySem PySem.Spec PyProof.Rows L2 Dl
def f__law_bag : Fd := defF 3 (seqB (setB 1 (valS (.int 5641)))
    (seqB (forB (gn 2) (itS (sliceS (varS 0) onone (osome (valS (.int 63))))) (seqB (setB 1 (modS (intS (addS (addS (mulS (varS 1) (valS (.int 50207))) (modS (intS (varS 2)) (valS (.int 2147483353)))) (valS (.int 37)))) (valS (.int 2147483563))))
    nilB))
    (retB (lstS (acons (listS (sliceS (varS 0) onone (osome (valS (.int 63))))) (acons (valS (.int 0)) (acons (valS (.int 0)) (acons (varS 1) anil))))))))
def f__law_pull : Fd := defF 5 (seqB (ifB (andT (cmpT qEq (ixS (varS 0) (valS (.int 2))) (valS (.int 0))) (cmpT qLt (ixS (varS 0) (valS (.int 1))) (lenS (ixS (varS 0) (valS (.int 0)))))) (seqB (setB 2 (ixS (ixS (varS 0) (valS (.int 0))) (ixS (varS 0) (valS (.int 1)))))
    (seqB (itemB (varS 0) (valS (.int 1)) (addS (ixS (varS 0) (valS (.int 1))) (valS (.int 1))))
    (seqB (ifB (cmpT qGe (varS 2) (powS (valS (.int 10)) (valS (.int 18)))) (seqB (itemB (varS 0) (valS (.int 2)) (varS 2))
    nilB) (seqB (itemB (varS 0) (valS (.int 3)) (modS (intS (addS (addS (mulS (ixS (varS 0) (valS (.int 3))) (valS (.int 43691))) (mulS (modS (intS (varS 2)) (valS (.int 2147483353))) (valS (.int 1613)))) (valS (.int 23)))) (valS (.int 2147483563))))
    nilB))
    nilB))) nilB)
    (seqB (ifB (cmpT qGt (ixS (varS 0) (valS (.int 2))) (valS (.int 0))) (seqB (setB 3 (modS (intS (ixS (varS 0) (valS (.int 2)))) (varS 1)))
    (seqB (itemB (varS 0) (valS (.int 2)) (divS (ixS (varS 0) (valS (.int 2))) (varS 1)))
    (retB (varS 3)))) nilB)
    (seqB (setB 4 (ixS (varS 0) (valS (.int 3))))
    (seqB (itemB (varS 0) (valS (.int 3)) (modS (intS (addS (addS (mulS (varS 4) (varS 4)) (mulS (varS 4) (valS (.int 27031)))) (valS (.int 1500083)))) (valS (.int 2147483563))))
    (retB (modS (intS (addS (divS (ixS (varS 0) (valS (.int 3))) (valS (.int 71))) (mulS (modS (intS (ixS (varS 0) (valS (.int 3)))) (valS (.int 8117))) (valS (.int 59))))) (varS 1)))))))
def f__law_near : Fd := defF 4 (seqB (newB 1 (litS (.lst [])))
    (seqB (forB (gn 2) (range2S (negS (varS 0)) (addS (varS 0) (valS (.int 1)))) (seqB (newB 1 (addS (varS 1) (lcS (.one 3) [3] (cmpT qNe (tupS (acons (varS 2) (acons (varS 3) anil))) (litS (.tup [(.int 0), (.int 0)]))) (tupS (acons (varS 2) (acons (varS 3) anil))) (range2S (negS (varS 0)) (addS (varS 0) (valS (.int 1)))))))
    nilB))
    (retB (varS 1))))
def f__law_shape : Fd := defF 4 (seqB (parB 1 2 (aconsC (callS 1 f__law_near (acons (addS (valS (.int 1)) (intS (cmpS qEq (callS 2 f__law_pull (acons (varS 0) (acons (valS (.int 3)) anil))) (valS (.int 0))))) anil)) (aconsC (litS (.lst [])) anil)))
    (seqB (forB (gn 3) (range1S (addS (valS (.int 1)) (callS 2 f__law_pull (acons (varS 0) (acons (valS (.int 4)) anil))))) (seqB (exprB (appendS (varS 2) (popAtS (varS 1) (callS 2 f__law_pull (acons (varS 0) (acons (lenS (varS 1)) anil))))))
    nilB))
    (retB (varS 2))))
def f__law_model : Fd := defF 7 (seqB (setB 2 (callS 2 f__law_pull (acons (varS 0) (acons (valS (.int 9)) anil))))
    (seqB (newB 3 (litS (.lst [])))
    (seqB (ifB (cmpT qEq (varS 2) (valS (.int 0))) (seqB (newB 3 (litS (.lst [(.lst [(.tup [(.int 1), (.int 0)]), (.tup [(.int 0), (.int 1)])]), (.lst [(.tup [(.int (-1)), (.int 0)]), (.tup [(.int 0), (.int 1)])]), (.lst [(.tup [(.int 1), (.int 0)]), (.tup [(.int 0), (.int (-1))])]), (.lst [(.tup [(.int (-1)), (.int 0)]), (.tup [(.int 0), (.int (-1))])])])))
    nilB) nilB)
    (seqB (ifB (cmpT qEq (varS 2) (valS (.int 1))) (seqB (newB 3 (litS (.lst [(.lst [(.tup [(.int 1), (.int 0)]), (.tup [(.int (-1)), (.int 0)])]), (.lst [(.tup [(.int 0), (.int 1)]), (.tup [(.int 0), (.int (-1))])])])))
    nilB) nilB)
    (seqB (ifB (cmpT qEq (varS 2) (valS (.int 2))) (seqB (newB 3 (litS (.lst [(.lst [(.tup [(.int (-1)), (.int 0)]), (.tup [(.int (-1)), (.int 1)])]), (.lst [(.tup [(.int 0), (.int (-1))]), (.tup [(.int 1), (.int 1)])]), (.lst [(.tup [(.int 1), (.int 0)])])])))
    nilB) nilB)
    (seqB (ifB (cmpT qEq (varS 2) (valS (.int 3))) (seqB (newB 3 (litS (.lst [(.lst [(.tup [(.int (-1)), (.int 0)]), (.tup [(.int 0), (.int (-1))])]), (.lst [(.tup [(.int 1), (.int 0)]), (.tup [(.int 1), (.int 1)])]), (.lst [(.tup [(.int 0), (.int 1)]), (.tup [(.int (-1)), (.int 1)])])])))
    nilB) nilB)
    (seqB (newB 3 (sliceS (varS 3) onone (osome (varS 1))))
    (seqB (ifB (andT (cmpT qLt (varS 2) (valS (.int 4))) (cmpT qEq (callS 2 f__law_pull (acons (varS 0) (acons (valS (.int 2)) anil))) (valS (.int 0)))) (retB (varS 3)) nilB)
    (seqB (forB (gn 4) (range1S (callS 2 f__law_pull (acons (varS 0) (acons (addS (varS 1) (valS (.int 1))) anil)))) (seqB (setB 5 (callS 1 f__law_shape (acons (varS 0) anil)))
    (seqB (ifB (andT (cmpT qLt (lenS (varS 3)) (varS 1)) (cmpT qNotIn (sortedS (varS 5)) (lcCS (.one 6) [6] noIf (sortedS (varS 6)) (varS 3)))) (seqB (exprB (appendS (varS 3) (varS 5)))
    nilB) nilB)
    nilB)))
    (retB (varS 3)))))))))))
def f_is_listed : Fd := defF 1 (retB (isi2S dLst dTup (varS 0)))
def f_is_number : Fd := defF 1 (retB (andS (isiS dInt (varS 0)) (notS (isiS dBool (varS 0)))))
def f_is_cell : Fd := defF 1 (retB (andS (isiS dTup (varS 0)) (andS (cmpS qEq (lenS (varS 0)) (valS (.int 2))) (andS (callS 1 f_is_number (acons (ixS (varS 0) (valS (.int 0))) anil)) (callS 1 f_is_number (acons (ixS (varS 0) (valS (.int 1))) anil))))))
def f_is_within : Fd := defF 3 (retB (andS (callS 1 f_is_number (acons (varS 0) anil)) (chainS qLe qLe (varS 1) (varS 0) (varS 2))))
def g_ORIGIN : D := (.tup [(.int 0), (.int 0)])
def g_REACH : D := (.int 2)
def f_is_near : Fd := defF 2 (retB (andS (callS 1 f_is_cell (acons (varS 0) anil)) (andS (cmpS qNe (varS 0) (valS g_ORIGIN)) (allS (lcS (.one 1) [1] noIf (callS 3 f_is_within (acons (varS 1) (acons (negS (valS g_REACH)) (acons (valS g_REACH) anil)))) (itS (varS 0)))))))
def g_MOST_CELLS : D := (.int 4)
def f_is_shape : Fd := defF 2 (seqB (ifB (orT (notT (valT (callS 1 f_is_listed (acons (varS 0) anil)))) (notT (chainT qLe qLe (valS (.int 1)) (lenS (varS 0)) (valS g_MOST_CELLS)))) (retB (valS (.bl false))) nilB)
    (retB (andS (allS (lcS (.one 1) [1] noIf (callS 1 f_is_near (acons (varS 1) anil)) (itS (varS 0)))) (cmpS qEq (lenSetS (varS 0)) (lenS (varS 0))))))
def mk_TooMany (ds : List D) : List (Str × D) := ds.map (fun d => (("most" : Str), d)) ++ [(("tag" : Str), D.str "TooMany")]
def mk_InvalidShape (ds : List D) : List (Str × D) := ds.map (fun d => (("index" : Str), d)) ++ [(("tag" : Str), D.str "InvalidShape")]
def mk_DuplicateShape (ds : List D) : List (Str × D) := ds.map (fun d => (("index" : Str), d)) ++ [(("tag" : Str), D.str "DuplicateShape")]
def f_Book___init__ : Fd := defF 6 (seqB (setB 2 (listS (varS 1)))
    (seqB (ifB (cmpT qGt (lenS (varS 2)) (conS [("Book", (.int 5))] "MOST" (varS 0))) (raiseB "TooMany" 1 mk_TooMany (acons (conS [("Book", (.int 5))] "MOST" (varS 0)) anil)) nilB)
    (seqB (forB (gt 2 (gsc (gn 3) (gsc (gn 4) gsn))) (enumS (varS 2)) (seqB (ifB (notT (valT (callS 1 f_is_shape (acons (varS 4) anil)))) (raiseB "InvalidShape" 1 mk_InvalidShape (acons (varS 3) anil)) nilB)
    nilB))
    (seqB (setB 5 (lcS (.one 4) [4] noIf (tupleS (sortedS (varS 4))) (itS (varS 2))))
    (seqB (forB (gt 2 (gsc (gn 3) (gsc (gn 4) gsn))) (enumS (varS 5)) (seqB (ifB (cmpT qIn (varS 4) (sliceS (varS 5) onone (osome (varS 3)))) (raiseB "DuplicateShape" 1 mk_DuplicateShape (acons (varS 3) anil)) nilB)
    nilB))
    (seqB (fldB ["Book"] "held" (varS 0) (tupleS (varS 5)))
    nilB))))))
def f__law_made : Fd := defF 2 (retB (makeS runN "Book" f_Book___init__ 2 [] (acons (lcS (.one 1) [1] noIf (listS (varS 1)) (itS (varS 0))) anil)))
def f__law_of : Fd := defF 2 (retB (ixS (varS 1) (callS 2 f__law_pull (acons (varS 0) (acons (lenS (varS 1)) anil)))))
def f__law_same : Nat → Fd
  | 0 => fun _ _ => .no
  | n + 1 => defF 4 (seqB (ifB (orT (valT (isiS dLst (varS 1))) (valT (isiS dTup (varS 1)))) (seqB (ifB (orT (cmpT qNe (isiS dLst (varS 0)) (isiS dLst (varS 1))) (cmpT qNe (isiS dTup (varS 0)) (isiS dTup (varS 1)))) (retB (valS (.bl false))) nilB)
    (retB (andS (cmpS qEq (lenS (varS 0)) (lenS (varS 1))) (allS (lcS (.two 2 3) [2, 3] noIf (callS 2 (f__law_same n) (acons (varS 2) (acons (varS 3) anil))) (zipS (acons (varS 0) (acons (varS 1) anil)))))))) nilB)
    (seqB (ifB (orT (cmpT qIs (varS 1) (valS (.non))) (cmpT qIs (varS 0) (valS (.non)))) (retB (andS (cmpS qIs (varS 1) (valS (.non))) (cmpS qIs (varS 0) (valS (.non))))) nilB)
    (seqB (ifB (orT (cmpT qNe (isiS dBool (varS 0)) (isiS dBool (varS 1))) (cmpT qNe (isiS dInt (varS 0)) (isiS dInt (varS 1)))) (retB (valS (.bl false))) nilB)
    (retB (andS (cmpS qEq (isiS dStr (varS 0)) (isiS dStr (varS 1))) (cmpS qEq (varS 0) (varS 1)))))))
def f__law_number : Fd := defF 2 (retB (subS (callS 2 f__law_pull (acons (varS 0) (acons (addS (mulS (valS (.int 2)) (varS 1)) (valS (.int 1))) anil))) (varS 1)))
def f__law_common : Fd := defF 2 (seqB (parB 0 1 (acons (absS (varS 0)) (acons (absS (varS 1)) anil)))
    (seqB (whileB (cmpT qNe (varS 1) (valS (.int 0))) (seqB (parB 0 1 (acons (varS 1) (acons (modS (intS (varS 0)) (intS (varS 1))) anil)))
    nilB))
    (retB (varS 0))))
def f__law_way_of : Fd := defF 2 (seqB (setB 1 (callS 2 f__law_common (acons (ixS (varS 0) (valS (.int 0))) (acons (ixS (varS 0) (valS (.int 1))) anil))))
    (retB (tupS (acons (divS (ixS (varS 0) (valS (.int 0))) (varS 1)) (acons (divS (ixS (varS 0) (valS (.int 1))) (varS 1)) anil)))))
def f__law_way : Fd := defF 4 (seqB (parB 2 3 (acons (callS 2 f__law_number (acons (varS 0) (acons (varS 1) anil))) (acons (callS 2 f__law_number (acons (varS 0) (acons (varS 1) anil))) anil)))
    (retB (ifS (andT (cmpT qEq (varS 2) (valS (.int 0))) (cmpT qEq (varS 3) (valS (.int 0)))) (litS (.tup [(.int 1), (.int 0)])) (callS 1 f__law_way_of (acons (tupS (acons (varS 2) (acons (varS 3) anil))) anil)))))
def f_common : Fd := defF 2 (seqB (parB 0 1 (acons (absS (varS 0)) (acons (absS (varS 1)) anil)))
    (seqB (whileB (cmpT qNe (varS 1) (valS (.int 0))) (seqB (parB 0 1 (acons (varS 1) (acons (modS (varS 0) (varS 1)) anil)))
    nilB))
    (retB (varS 0))))
def f_is_direction : Fd := defF 1 (retB (andS (callS 1 f_is_cell (acons (varS 0) anil)) (cmpS qEq (callS 2 f_common (acons (ixS (varS 0) (valS (.int 0))) (acons (ixS (varS 0) (valS (.int 1))) anil))) (valS (.int 1)))))
def mk_InvalidDirection (ds : List D) : List (Str × D) := ds.map (fun d => (("given" : Str), d)) ++ [(("tag" : Str), D.str "InvalidDirection")]
def f_need_direction : Fd := defF 1 (seqB (ifB (notT (valT (callS 1 f_is_direction (acons (varS 0) anil)))) (raiseB "InvalidDirection" 1 mk_InvalidDirection (acons (varS 0) anil)) nilB)
    nilB)
def f_product : Fd := defF 2 (retB (addS (mulS (ixS (varS 0) (valS (.int 0))) (ixS (varS 1) (valS (.int 0)))) (mulS (ixS (varS 0) (valS (.int 1))) (ixS (varS 1) (valS (.int 1))))))
def f_opens : Fd := defF 3 (retB (allS (lcS (.one 2) [2] noIf (cmpS qLt (callS 2 f_product (acons (varS 2) (acons (varS 1) anil))) (valS (.int 0))) (itS (varS 0)))))
def f_Book_shapes : Fd := defF 2 (retB (lcS (.one 1) [1] noIf (listS (varS 1)) (itS (fldS ["Book"] "held" (varS 0)))))
def f_opener : Fd := defF 4 (seqB (exprB (callS 1 f_need_direction (acons (varS 1) anil)))
    (seqB (forEB (gt 2 (gsc (gn 2) (gsc (gn 3) gsn))) (enumS (methS runA [("Book", f_Book_shapes)] 1 [] "shapes" (varS 0) anil)) (seqB (ifB (valT (callS 2 f_opens (acons (varS 3) (acons (varS 1) anil)))) (retB (varS 2)) nilB)
    nilB) (retB (valS (.non))))
    nilB))
def f_is_open : Fd := defF 2 (retB (cmpS qIsNot (callS 2 f_opener (acons (varS 0) (acons (varS 1) anil))) (valS (.non))))
def mk_InvalidIndex (ds : List D) : List (Str × D) := ds.map (fun d => (("given" : Str), d)) ++ [(("tag" : Str), D.str "InvalidIndex")]
end Lw
end
namespace Lw
open PySem Dl
theorem call_v {n : Nat} {F : Fd} {a : Fa} {env : Envt} {m m1 : Mem} {ds : List D} {r : Rs} (ha : a env m = .ok (ds.map .v) m1) (hn : ds.length = n) (hF : F (ds.map .v) [] = .ok r []) (hl : nloc r = true) : callS n F a env m = .ok r m1 := by
  have hlo : ∀ ds : List D, locs (ds.map Sl.v) = [] := fun ds => by
    induction ds with
    | nil => rfl
    | cons d ds ih => rw [List.map_cons, locs]; exact ih
  have hre : ∀ ds : List D, renO [] (ds.map Sl.v) = some (ds.map Sl.v) := fun ds => by
    induction ds with
    | nil => rfl
    | cons d ds ih => rw [List.map_cons, renO, ih]; rfl
  unfold callS
  rw [ha]
  simp only [Rg.bd, hlo, hre, optR, pickO, List.length_map, hn, if_true, hF, hl]
  rfl
theorem noOb_non : noOb .non = true := rfl
theorem noOb_bl (b : Bool) : noOb (.bl b) = true := rfl
theorem noOb_int (b : Int) : noOb (.int b) = true := rfl
theorem noOb_str (b : Str) : noOb (.str b) = true := rfl
theorem noOb_tup (b : List D) : noOb (.tup b) = true := rfl
theorem noOb_lst (b : List D) : noOb (.lst b) = true := rfl
theorem bSh_ii (i j : Int) : bSh (.int i) (.int j) = true := rfl
theorem eqD_ii (i j : Int) : eqD (.int i) (.int j) = decide (i = j) := rfl
def isNum (d : D) : Bool := dInt d && !dBool d
theorem n_is_number (d : D) (h : noOb d = true) (m : Mem) : f_is_number [.v d] m = .ok (.v (.bl (isNum d))) m := by
  cases d <;> first | (cases (show false = true from h)) | (simp [f_is_number, isNum, callS, lcS, lcGo, itS, seqR, Tg.put, Tg.vs, wipeE, noIf, Dl.locs, renO, pickO, idx, wb, nloc, bSh_ii, eqD_ii, defF, retB, retNB, seqB, setB, newB, parB, asgB, itemB, augB, exprB, ifB, nilB, Oc.bd, Rg.to, Rg.bd, rdR, dr, slR, unl, varS, valS, rd1S, rd2S, addS, addR, subS, subI, mulS, divS, modS, powS, opI, negS, cmpS, cmpT, chainS, chainT, chainR, andS, orS, notS, ifS, valT, andT, orT, notT, isBl, anil, acons, tupS, lstS, frzR, frz, ixS, onone, osome, sliceS, slcR, optR, Rg.nx, lenS, lenD, absS, intS, intOf, allS, anyS, blsR, bls, listS, tupleS, seqD, isiS, isi2S, noOb_non, noOb_bl, noOb_int, noOb_str, noOb_tup, noOb_lst, cellR, appendS, popAtS, popS, insertS, minTS, maxTS, minmaxR, unI, lenSetS, exitR, gn, gsn, gsc, gt, qLt, qLe, qGt, qGe, qEq, qNe, qIn, qNotIn, qIs, qIsNot, qIsB, qIsNotB, bI, fI, bB, eqB, isN, dInt, dBool, dStr, dLst, dTup, litS, litRs, obR, fldS, conS, runA, runM, Dl.runN, Dl.runL, methS, newOb, makeS, obO, intR, strR, blR, lenOS, reprOS, putD, fldB, forEB, forGoE, propS, mixO, lfC, lfM, repS, maxLS, minLS, maxLR, lcCS, lc2S, aconsX])
def isCell : D → Bool
  | .tup [x, y] => isNum x && isNum y
  | _ => false
theorem sh_noOb {d : D} (h : sh d = true) : noOb d = true := by
  cases d <;> first | rfl | (simp [sh, SeqAt.shaped, toPy, PyData.canLay0] at h)
theorem canAll_mem : ∀ {xs : List D}, PyData.canLayAll0 (toPys xs) = true → ∀ x ∈ xs, (toPy x).canLay0 = true
  | y :: ys, h, x, hx => by
    rw [toPys, PyData.canLayAll0, Bool.and_eq_true] at h
    rcases List.mem_cons.mp hx with rfl | hx
    · exact h.1
    · exact canAll_mem h.2 x hx
theorem depAll_mem : ∀ {xs : List D}, ∀ x ∈ xs, (toPy x).depth ≤ PyData.depthAll (toPys xs)
  | y :: ys, x, hx => by
    rw [toPys, PyData.depthAll]
    rcases List.mem_cons.mp hx with rfl | hx
    · exact Nat.le_max_left _ _
    · exact Nat.le_trans (depAll_mem x hx) (Nat.le_max_right _ _)
theorem sh_tup {xs : List D} (h : sh (.tup xs) = true) : ∀ x ∈ xs, sh x = true := fun x hx => by
  unfold sh SeqAt.shaped at h ⊢
  rw [toPy, Bool.and_eq_true] at h
  rw [PyData.canLay0, PyData.depth] at h
  have h2 := of_decide_eq_true h.2
  have := depAll_mem x hx
  rw [canAll_mem h.1 x hx, decide_eq_true (by omega)]
  rfl
theorem ix_tup (xs : List D) (i : Int) : ixD (.tup xs) i = L2.atI xs i := rfl
theorem at0 {α : Type} (x : α) (xs : List α) : L2.atI (x :: xs) 0 = some x := by simp [L2.atI, L2.ixN]
theorem at1 {α : Type} (x y : α) (xs : List α) : L2.atI (x :: y :: xs) 1 = some y := by
  unfold L2.atI L2.ixN
  rw [if_pos (by decide), if_pos (by simp only [List.length_cons]; omega)]
  rfl
theorem n_is_cell (d : D) (h : sh d = true) (m : Mem) : f_is_cell [.v d] m = .ok (.v (.bl (isCell d))) m := by
  have hno := sh_noOb h
  cases d with
  | tup xs =>
    have hx := sh_tup h
    match xs, hx with
    | [], _ => simp [f_is_cell, isCell, callS, lcS, lcGo, itS, seqR, Tg.put, Tg.vs, wipeE, noIf, Dl.locs, renO, pickO, idx, wb, nloc, bSh_ii, eqD_ii, defF, retB, retNB, seqB, setB, newB, parB, asgB, itemB, augB, exprB, ifB, nilB, Oc.bd, Rg.to, Rg.bd, rdR, dr, slR, unl, varS, valS, rd1S, rd2S, addS, addR, subS, subI, mulS, divS, modS, powS, opI, negS, cmpS, cmpT, chainS, chainT, chainR, andS, orS, notS, ifS, valT, andT, orT, notT, isBl, anil, acons, tupS, lstS, frzR, frz, ixS, onone, osome, sliceS, slcR, optR, Rg.nx, lenS, lenD, absS, intS, intOf, allS, anyS, blsR, bls, listS, tupleS, seqD, isiS, isi2S, noOb_non, noOb_bl, noOb_int, noOb_str, noOb_tup, noOb_lst, cellR, appendS, popAtS, popS, insertS, minTS, maxTS, minmaxR, unI, lenSetS, exitR, gn, gsn, gsc, gt, qLt, qLe, qGt, qGe, qEq, qNe, qIn, qNotIn, qIs, qIsNot, qIsB, qIsNotB, bI, fI, bB, eqB, isN, dInt, dBool, dStr, dLst, dTup, litS, litRs, obR, fldS, conS, runA, runM, Dl.runN, Dl.runL, methS, newOb, makeS, obO, intR, strR, blR, lenOS, reprOS, putD, fldB, forEB, forGoE, propS, mixO, lfC, lfM, repS, maxLS, minLS, maxLR, lcCS, lc2S, aconsX]
    | [x], _ => simp [f_is_cell, isCell, callS, lcS, lcGo, itS, seqR, Tg.put, Tg.vs, wipeE, noIf, Dl.locs, renO, pickO, idx, wb, nloc, bSh_ii, eqD_ii, defF, retB, retNB, seqB, setB, newB, parB, asgB, itemB, augB, exprB, ifB, nilB, Oc.bd, Rg.to, Rg.bd, rdR, dr, slR, unl, varS, valS, rd1S, rd2S, addS, addR, subS, subI, mulS, divS, modS, powS, opI, negS, cmpS, cmpT, chainS, chainT, chainR, andS, orS, notS, ifS, valT, andT, orT, notT, isBl, anil, acons, tupS, lstS, frzR, frz, ixS, onone, osome, sliceS, slcR, optR, Rg.nx, lenS, lenD, absS, intS, intOf, allS, anyS, blsR, bls, listS, tupleS, seqD, isiS, isi2S, noOb_non, noOb_bl, noOb_int, noOb_str, noOb_tup, noOb_lst, cellR, appendS, popAtS, popS, insertS, minTS, maxTS, minmaxR, unI, lenSetS, exitR, gn, gsn, gsc, gt, qLt, qLe, qGt, qGe, qEq, qNe, qIn, qNotIn, qIs, qIsNot, qIsB, qIsNotB, bI, fI, bB, eqB, isN, dInt, dBool, dStr, dLst, dTup, litS, litRs, obR, fldS, conS, runA, runM, Dl.runN, Dl.runL, methS, newOb, makeS, obO, intR, strR, blR, lenOS, reprOS, putD, fldB, forEB, forGoE, propS, mixO, lfC, lfM, repS, maxLS, minLS, maxLR, lcCS, lc2S, aconsX]
    | [x, y], hx =>
      have h1 := sh_noOb (hx x (by simp))
      have h2 := sh_noOb (hx y (by simp))
      cases e : isNum x <;> simp [f_is_cell, isCell, callS, lcS, lcGo, itS, seqR, Tg.put, Tg.vs, wipeE, noIf, Dl.locs, renO, pickO, idx, wb, nloc, bSh_ii, eqD_ii, defF, retB, retNB, seqB, setB, newB, parB, asgB, itemB, augB, exprB, ifB, nilB, Oc.bd, Rg.to, Rg.bd, rdR, dr, slR, unl, varS, valS, rd1S, rd2S, addS, addR, subS, subI, mulS, divS, modS, powS, opI, negS, cmpS, cmpT, chainS, chainT, chainR, andS, orS, notS, ifS, valT, andT, orT, notT, isBl, anil, acons, tupS, lstS, frzR, frz, ixS, onone, osome, sliceS, slcR, optR, Rg.nx, lenS, lenD, absS, intS, intOf, allS, anyS, blsR, bls, listS, tupleS, seqD, isiS, isi2S, noOb_non, noOb_bl, noOb_int, noOb_str, noOb_tup, noOb_lst, cellR, appendS, popAtS, popS, insertS, minTS, maxTS, minmaxR, unI, lenSetS, exitR, gn, gsn, gsc, gt, qLt, qLe, qGt, qGe, qEq, qNe, qIn, qNotIn, qIs, qIsNot, qIsB, qIsNotB, bI, fI, bB, eqB, isN, dInt, dBool, dStr, dLst, dTup, litS, litRs, obR, fldS, conS, runA, runM, Dl.runN, Dl.runL, methS, newOb, makeS, obO, intR, strR, blR, lenOS, reprOS, putD, fldB, forEB, forGoE, propS, mixO, lfC, lfM, repS, maxLS, minLS, maxLR, lcCS, lc2S, aconsX, n_is_number, h1, h2, ix_tup, at0, at1, e]
    | x :: y :: z :: l, _ => 
      have hl : ¬ ((l.length : Int) + 1 + 1 + 1 = 2) := by omega
      simp [f_is_cell, isCell, callS, lcS, lcGo, itS, seqR, Tg.put, Tg.vs, wipeE, noIf, Dl.locs, renO, pickO, idx, wb, nloc, bSh_ii, eqD_ii, defF, retB, retNB, seqB, setB, newB, parB, asgB, itemB, augB, exprB, ifB, nilB, Oc.bd, Rg.to, Rg.bd, rdR, dr, slR, unl, varS, valS, rd1S, rd2S, addS, addR, subS, subI, mulS, divS, modS, powS, opI, negS, cmpS, cmpT, chainS, chainT, chainR, andS, orS, notS, ifS, valT, andT, orT, notT, isBl, anil, acons, tupS, lstS, frzR, frz, ixS, onone, osome, sliceS, slcR, optR, Rg.nx, lenS, lenD, absS, intS, intOf, allS, anyS, blsR, bls, listS, tupleS, seqD, isiS, isi2S, noOb_non, noOb_bl, noOb_int, noOb_str, noOb_tup, noOb_lst, cellR, appendS, popAtS, popS, insertS, minTS, maxTS, minmaxR, unI, lenSetS, exitR, gn, gsn, gsc, gt, qLt, qLe, qGt, qGe, qEq, qNe, qIn, qNotIn, qIs, qIsNot, qIsB, qIsNotB, bI, fI, bB, eqB, isN, dInt, dBool, dStr, dLst, dTup, litS, litRs, obR, fldS, conS, runA, runM, Dl.runN, Dl.runL, methS, newOb, makeS, obO, intR, strR, blR, lenOS, reprOS, putD, fldB, forEB, forGoE, propS, mixO, lfC, lfM, repS, maxLS, minLS, maxLR, lcCS, lc2S, aconsX, hl]
  | _ => first | (cases (show false = true from hno)) | (simp [f_is_cell, isCell, callS, lcS, lcGo, itS, seqR, Tg.put, Tg.vs, wipeE, noIf, Dl.locs, renO, pickO, idx, wb, nloc, bSh_ii, eqD_ii, defF, retB, retNB, seqB, setB, newB, parB, asgB, itemB, augB, exprB, ifB, nilB, Oc.bd, Rg.to, Rg.bd, rdR, dr, slR, unl, varS, valS, rd1S, rd2S, addS, addR, subS, subI, mulS, divS, modS, powS, opI, negS, cmpS, cmpT, chainS, chainT, chainR, andS, orS, notS, ifS, valT, andT, orT, notT, isBl, anil, acons, tupS, lstS, frzR, frz, ixS, onone, osome, sliceS, slcR, optR, Rg.nx, lenS, lenD, absS, intS, intOf, allS, anyS, blsR, bls, listS, tupleS, seqD, isiS, isi2S, noOb_non, noOb_bl, noOb_int, noOb_str, noOb_tup, noOb_lst, cellR, appendS, popAtS, popS, insertS, minTS, maxTS, minmaxR, unI, lenSetS, exitR, gn, gsn, gsc, gt, qLt, qLe, qGt, qGe, qEq, qNe, qIn, qNotIn, qIs, qIsNot, qIsB, qIsNotB, bI, fI, bB, eqB, isN, dInt, dBool, dStr, dLst, dTup, litS, litRs, obR, fldS, conS, runA, runM, Dl.runN, Dl.runL, methS, newOb, makeS, obO, intR, strR, blR, lenOS, reprOS, putD, fldB, forEB, forGoE, propS, mixO, lfC, lfM, repS, maxLS, minLS, maxLR, lcCS, lc2S, aconsX])
abbrev sI (i : Int) : Option Sl := some (.v (.int i))
theorem while_gcd {c : Ft} {body : Fs} (hc : ∀ a b m, c [sI a, sI b] m = .ok (decide (b ≠ 0)) m) (hb : ∀ a b m, 0 < b → body [sI a, sI b] m = .nx [sI b, sI (a % b)] m) (m : Mem) (a b : Int) (h0 : 0 ≤ b) : ∃ n : Int, whileB c body [sI a, sI b] m = .nx [sI n, sI 0] m ∧ (0 ≤ a → n = Int.gcd a b) := by
  have H : ∀ (k : Nat) (a b : Int), 0 ≤ b → b.toNat ≤ k → ∃ n : Int, loopN c body (k + 1) [sI a, sI b] m = .nx [sI n, sI 0] m ∧ (0 ≤ a → n = Int.gcd a b) := by
    intro k
    induction k with
    | zero =>
      intro a b h1 h2
      have : b = 0 := by omega
      subst this
      refine ⟨a, ?_, fun h => ?_⟩
      · unfold loopN; rw [hc]; rfl
      · rw [Int.gcd_zero_right]; omega
    | succ k ih =>
      intro a b h1 h2
      by_cases hz : b = 0
      · subst hz
        refine ⟨a, ?_, fun h => ?_⟩
        · unfold loopN; rw [hc]; rfl
        · rw [Int.gcd_zero_right]; omega
      · have hp : 0 < b := by omega
        have hm1 := Int.emod_nonneg a hz
        have hm2 := Int.emod_lt_of_pos a hp
        obtain ⟨n, e1, e2⟩ := ih b (a % b) hm1 (by omega)
        refine ⟨n, ?_, fun h => ?_⟩
        · unfold loopN; rw [hc, decide_eq_true hz]
          simp only [Rg.to, if_true]
          rw [hb a b m hp]
          exact e1
        · rw [e2 h1]
          obtain ⟨A, rfl⟩ := Int.eq_ofNat_of_zero_le h
          obtain ⟨B, rfl⟩ := Int.eq_ofNat_of_zero_le h1
          show ((Nat.gcd B (A % B) : Nat) : Int) = (Nat.gcd A B : Nat)
          rw [Nat.gcd_comm B, ← Nat.gcd_rec, Nat.gcd_comm]
  obtain ⟨n, e1, e2⟩ := H b.toNat a b h0 (Nat.le_refl _)
  exact ⟨n, while_of _ e1 (by simp), e2⟩
def absI (i : Int) : Int := if i < 0 then -i else i
theorem absI_gcd (a b : Int) : Int.gcd (absI a) (absI b) = Int.gcd a b := by
  unfold absI; split <;> split <;> simp
theorem absI_nn (a : Int) : 0 ≤ absI a := by unfold absI; split <;> omega
theorem n_common (a b : Int) (m : Mem) : f_common [.v (.int a), .v (.int b)] m = .ok (.v (.int (Int.gcd a b))) m := by
  obtain ⟨n, e1, e2⟩ := while_gcd (c := cmpT qNe (varS 1) (valS (.int 0))) (body := seqB (parB 0 1 (acons (varS 1) (acons (modS (varS 0) (varS 1)) anil))) nilB)
    (fun a b m => by simp [callS, lcS, lcGo, itS, seqR, Tg.put, Tg.vs, wipeE, noIf, Dl.locs, renO, pickO, idx, wb, nloc, bSh_ii, eqD_ii, defF, retB, retNB, seqB, setB, newB, parB, asgB, itemB, augB, exprB, ifB, nilB, Oc.bd, Rg.to, Rg.bd, rdR, dr, slR, unl, varS, valS, rd1S, rd2S, addS, addR, subS, subI, mulS, divS, modS, powS, opI, negS, cmpS, cmpT, chainS, chainT, chainR, andS, orS, notS, ifS, valT, andT, orT, notT, isBl, anil, acons, tupS, lstS, frzR, frz, ixS, onone, osome, sliceS, slcR, optR, Rg.nx, lenS, lenD, absS, intS, intOf, allS, anyS, blsR, bls, listS, tupleS, seqD, isiS, isi2S, noOb_non, noOb_bl, noOb_int, noOb_str, noOb_tup, noOb_lst, cellR, appendS, popAtS, popS, insertS, minTS, maxTS, minmaxR, unI, lenSetS, exitR, gn, gsn, gsc, gt, qLt, qLe, qGt, qGe, qEq, qNe, qIn, qNotIn, qIs, qIsNot, qIsB, qIsNotB, bI, fI, bB, eqB, isN, dInt, dBool, dStr, dLst, dTup, litS, litRs, obR, fldS, conS, runA, runM, Dl.runN, Dl.runL, methS, newOb, makeS, obO, intR, strR, blR, lenOS, reprOS, putD, fldB, forEB, forGoE, propS, mixO, lfC, lfM, repS, maxLS, minLS, maxLR, lcCS, lc2S, aconsX]) (fun a b m h => by simp [callS, lcS, lcGo, itS, seqR, Tg.put, Tg.vs, wipeE, noIf, Dl.locs, renO, pickO, idx, wb, nloc, bSh_ii, eqD_ii, defF, retB, retNB, seqB, setB, newB, parB, asgB, itemB, augB, exprB, ifB, nilB, Oc.bd, Rg.to, Rg.bd, rdR, dr, slR, unl, varS, valS, rd1S, rd2S, addS, addR, subS, subI, mulS, divS, modS, powS, opI, negS, cmpS, cmpT, chainS, chainT, chainR, andS, orS, notS, ifS, valT, andT, orT, notT, isBl, anil, acons, tupS, lstS, frzR, frz, ixS, onone, osome, sliceS, slcR, optR, Rg.nx, lenS, lenD, absS, intS, intOf, allS, anyS, blsR, bls, listS, tupleS, seqD, isiS, isi2S, noOb_non, noOb_bl, noOb_int, noOb_str, noOb_tup, noOb_lst, cellR, appendS, popAtS, popS, insertS, minTS, maxTS, minmaxR, unI, lenSetS, exitR, gn, gsn, gsc, gt, qLt, qLe, qGt, qGe, qEq, qNe, qIn, qNotIn, qIs, qIsNot, qIsB, qIsNotB, bI, fI, bB, eqB, isN, dInt, dBool, dStr, dLst, dTup, litS, litRs, obR, fldS, conS, runA, runM, Dl.runN, Dl.runL, methS, newOb, makeS, obO, intR, strR, blR, lenOS, reprOS, putD, fldB, forEB, forGoE, propS, mixO, lfC, lfM, repS, maxLS, minLS, maxLR, lcCS, lc2S, aconsX, modI, h]) m (absI a) (absI b) (absI_nn b)
  have e3 := e2 (absI_nn a)
  rw [absI_gcd] at e3
  subst e3
  simp [callS, lcS, lcGo, itS, seqR, Tg.put, Tg.vs, wipeE, noIf, Dl.locs, renO, pickO, idx, wb, nloc, bSh_ii, eqD_ii, defF, retB, retNB, seqB, setB, newB, parB, asgB, itemB, augB, exprB, ifB, nilB, Oc.bd, Rg.to, Rg.bd, rdR, dr, slR, unl, varS, valS, rd1S, rd2S, addS, addR, subS, subI, mulS, divS, modS, powS, opI, negS, cmpS, cmpT, chainS, chainT, chainR, andS, orS, notS, ifS, valT, andT, orT, notT, isBl, anil, acons, tupS, lstS, frzR, frz, ixS, onone, osome, sliceS, slcR, optR, Rg.nx, lenS, lenD, absS, intS, intOf, allS, anyS, blsR, bls, listS, tupleS, seqD, isiS, isi2S, noOb_non, noOb_bl, noOb_int, noOb_str, noOb_tup, noOb_lst, cellR, appendS, popAtS, popS, insertS, minTS, maxTS, minmaxR, unI, lenSetS, exitR, gn, gsn, gsc, gt, qLt, qLe, qGt, qGe, qEq, qNe, qIn, qNotIn, qIs, qIsNot, qIsB, qIsNotB, bI, fI, bB, eqB, isN, dInt, dBool, dStr, dLst, dTup, litS, litRs, obR, fldS, conS, runA, runM, Dl.runN, Dl.runL, methS, newOb, makeS, obO, intR, strR, blR, lenOS, reprOS, putD, fldB, forEB, forGoE, propS, mixO, lfC, lfM, repS, maxLS, minLS, maxLR, lcCS, lc2S, aconsX, absI, sI] at e1
  simp [f_common, callS, lcS, lcGo, itS, seqR, Tg.put, Tg.vs, wipeE, noIf, Dl.locs, renO, pickO, idx, wb, nloc, bSh_ii, eqD_ii, defF, retB, retNB, seqB, setB, newB, parB, asgB, itemB, augB, exprB, ifB, nilB, Oc.bd, Rg.to, Rg.bd, rdR, dr, slR, unl, varS, valS, rd1S, rd2S, addS, addR, subS, subI, mulS, divS, modS, powS, opI, negS, cmpS, cmpT, chainS, chainT, chainR, andS, orS, notS, ifS, valT, andT, orT, notT, isBl, anil, acons, tupS, lstS, frzR, frz, ixS, onone, osome, sliceS, slcR, optR, Rg.nx, lenS, lenD, absS, intS, intOf, allS, anyS, blsR, bls, listS, tupleS, seqD, isiS, isi2S, noOb_non, noOb_bl, noOb_int, noOb_str, noOb_tup, noOb_lst, cellR, appendS, popAtS, popS, insertS, minTS, maxTS, minmaxR, unI, lenSetS, exitR, gn, gsn, gsc, gt, qLt, qLe, qGt, qGe, qEq, qNe, qIn, qNotIn, qIs, qIsNot, qIsB, qIsNotB, bI, fI, bB, eqB, isN, dInt, dBool, dStr, dLst, dTup, litS, litRs, obR, fldS, conS, runA, runM, Dl.runN, Dl.runL, methS, newOb, makeS, obO, intR, strR, blR, lenOS, reprOS, putD, fldB, forEB, forGoE, propS, mixO, lfC, lfM, repS, maxLS, minLS, maxLR, lcCS, lc2S, aconsX, e1]
theorem n__law_common (a b : Int) (m : Mem) : f__law_common [.v (.int a), .v (.int b)] m = .ok (.v (.int (Int.gcd a b))) m := by
  obtain ⟨n, e1, e2⟩ := while_gcd (c := cmpT qNe (varS 1) (valS (.int 0))) (body := seqB (parB 0 1 (acons (varS 1) (acons (modS (intS (varS 0)) (intS (varS 1))) anil))) nilB)
    (fun a b m => by simp [callS, lcS, lcGo, itS, seqR, Tg.put, Tg.vs, wipeE, noIf, Dl.locs, renO, pickO, idx, wb, nloc, bSh_ii, eqD_ii, defF, retB, retNB, seqB, setB, newB, parB, asgB, itemB, augB, exprB, ifB, nilB, Oc.bd, Rg.to, Rg.bd, rdR, dr, slR, unl, varS, valS, rd1S, rd2S, addS, addR, subS, subI, mulS, divS, modS, powS, opI, negS, cmpS, cmpT, chainS, chainT, chainR, andS, orS, notS, ifS, valT, andT, orT, notT, isBl, anil, acons, tupS, lstS, frzR, frz, ixS, onone, osome, sliceS, slcR, optR, Rg.nx, lenS, lenD, absS, intS, intOf, allS, anyS, blsR, bls, listS, tupleS, seqD, isiS, isi2S, noOb_non, noOb_bl, noOb_int, noOb_str, noOb_tup, noOb_lst, cellR, appendS, popAtS, popS, insertS, minTS, maxTS, minmaxR, unI, lenSetS, exitR, gn, gsn, gsc, gt, qLt, qLe, qGt, qGe, qEq, qNe, qIn, qNotIn, qIs, qIsNot, qIsB, qIsNotB, bI, fI, bB, eqB, isN, dInt, dBool, dStr, dLst, dTup, litS, litRs, obR, fldS, conS, runA, runM, Dl.runN, Dl.runL, methS, newOb, makeS, obO, intR, strR, blR, lenOS, reprOS, putD, fldB, forEB, forGoE, propS, mixO, lfC, lfM, repS, maxLS, minLS, maxLR, lcCS, lc2S, aconsX]) (fun a b m h => by simp [callS, lcS, lcGo, itS, seqR, Tg.put, Tg.vs, wipeE, noIf, Dl.locs, renO, pickO, idx, wb, nloc, bSh_ii, eqD_ii, defF, retB, retNB, seqB, setB, newB, parB, asgB, itemB, augB, exprB, ifB, nilB, Oc.bd, Rg.to, Rg.bd, rdR, dr, slR, unl, varS, valS, rd1S, rd2S, addS, addR, subS, subI, mulS, divS, modS, powS, opI, negS, cmpS, cmpT, chainS, chainT, chainR, andS, orS, notS, ifS, valT, andT, orT, notT, isBl, anil, acons, tupS, lstS, frzR, frz, ixS, onone, osome, sliceS, slcR, optR, Rg.nx, lenS, lenD, absS, intS, intOf, allS, anyS, blsR, bls, listS, tupleS, seqD, isiS, isi2S, noOb_non, noOb_bl, noOb_int, noOb_str, noOb_tup, noOb_lst, cellR, appendS, popAtS, popS, insertS, minTS, maxTS, minmaxR, unI, lenSetS, exitR, gn, gsn, gsc, gt, qLt, qLe, qGt, qGe, qEq, qNe, qIn, qNotIn, qIs, qIsNot, qIsB, qIsNotB, bI, fI, bB, eqB, isN, dInt, dBool, dStr, dLst, dTup, litS, litRs, obR, fldS, conS, runA, runM, Dl.runN, Dl.runL, methS, newOb, makeS, obO, intR, strR, blR, lenOS, reprOS, putD, fldB, forEB, forGoE, propS, mixO, lfC, lfM, repS, maxLS, minLS, maxLR, lcCS, lc2S, aconsX, modI, h]) m (absI a) (absI b) (absI_nn b)
  have e3 := e2 (absI_nn a)
  rw [absI_gcd] at e3
  subst e3
  simp [callS, lcS, lcGo, itS, seqR, Tg.put, Tg.vs, wipeE, noIf, Dl.locs, renO, pickO, idx, wb, nloc, bSh_ii, eqD_ii, defF, retB, retNB, seqB, setB, newB, parB, asgB, itemB, augB, exprB, ifB, nilB, Oc.bd, Rg.to, Rg.bd, rdR, dr, slR, unl, varS, valS, rd1S, rd2S, addS, addR, subS, subI, mulS, divS, modS, powS, opI, negS, cmpS, cmpT, chainS, chainT, chainR, andS, orS, notS, ifS, valT, andT, orT, notT, isBl, anil, acons, tupS, lstS, frzR, frz, ixS, onone, osome, sliceS, slcR, optR, Rg.nx, lenS, lenD, absS, intS, intOf, allS, anyS, blsR, bls, listS, tupleS, seqD, isiS, isi2S, noOb_non, noOb_bl, noOb_int, noOb_str, noOb_tup, noOb_lst, cellR, appendS, popAtS, popS, insertS, minTS, maxTS, minmaxR, unI, lenSetS, exitR, gn, gsn, gsc, gt, qLt, qLe, qGt, qGe, qEq, qNe, qIn, qNotIn, qIs, qIsNot, qIsB, qIsNotB, bI, fI, bB, eqB, isN, dInt, dBool, dStr, dLst, dTup, litS, litRs, obR, fldS, conS, runA, runM, Dl.runN, Dl.runL, methS, newOb, makeS, obO, intR, strR, blR, lenOS, reprOS, putD, fldB, forEB, forGoE, propS, mixO, lfC, lfM, repS, maxLS, minLS, maxLR, lcCS, lc2S, aconsX, absI, sI] at e1
  simp [f__law_common, callS, lcS, lcGo, itS, seqR, Tg.put, Tg.vs, wipeE, noIf, Dl.locs, renO, pickO, idx, wb, nloc, bSh_ii, eqD_ii, defF, retB, retNB, seqB, setB, newB, parB, asgB, itemB, augB, exprB, ifB, nilB, Oc.bd, Rg.to, Rg.bd, rdR, dr, slR, unl, varS, valS, rd1S, rd2S, addS, addR, subS, subI, mulS, divS, modS, powS, opI, negS, cmpS, cmpT, chainS, chainT, chainR, andS, orS, notS, ifS, valT, andT, orT, notT, isBl, anil, acons, tupS, lstS, frzR, frz, ixS, onone, osome, sliceS, slcR, optR, Rg.nx, lenS, lenD, absS, intS, intOf, allS, anyS, blsR, bls, listS, tupleS, seqD, isiS, isi2S, noOb_non, noOb_bl, noOb_int, noOb_str, noOb_tup, noOb_lst, cellR, appendS, popAtS, popS, insertS, minTS, maxTS, minmaxR, unI, lenSetS, exitR, gn, gsn, gsc, gt, qLt, qLe, qGt, qGe, qEq, qNe, qIn, qNotIn, qIs, qIsNot, qIsB, qIsNotB, bI, fI, bB, eqB, isN, dInt, dBool, dStr, dLst, dTup, litS, litRs, obR, fldS, conS, runA, runM, Dl.runN, Dl.runL, methS, newOb, makeS, obO, intR, strR, blR, lenOS, reprOS, putD, fldB, forEB, forGoE, propS, mixO, lfC, lfM, repS, maxLS, minLS, maxLR, lcCS, lc2S, aconsX, e1]
theorem isCell_inv {d : D} (h : isCell d = true) : ∃ x y, d = .tup [.int x, .int y] := by
  cases d <;> try cases h
  rename_i xs
  match xs, h with
  | [x, y], h =>
    obtain ⟨h1, h2⟩ := Bool.and_eq_true_iff.mp (show (isNum x && isNum y) = true from h)
    cases x <;> try cases h1
    cases y <;> try cases h2
    exact ⟨_, _, rfl⟩
def isDir : D → Bool
  | .tup [.int x, .int y] => decide (Int.gcd x y = 1)
  | _ => false
theorem isDir_no {d : D} (h : isCell d = false) : isDir d = false := by
  unfold isDir
  split
  · cases h
  · rfl
theorem n_is_direction (d : D) (h : sh d = true) (m : Mem) : f_is_direction [.v d] m = .ok (.v (.bl (isDir d))) m := by
  cases e : isCell d with
  | false => simp [f_is_direction, callS, lcS, lcGo, itS, seqR, Tg.put, Tg.vs, wipeE, noIf, Dl.locs, renO, pickO, idx, wb, nloc, bSh_ii, eqD_ii, defF, retB, retNB, seqB, setB, newB, parB, asgB, itemB, augB, exprB, ifB, nilB, Oc.bd, Rg.to, Rg.bd, rdR, dr, slR, unl, varS, valS, rd1S, rd2S, addS, addR, subS, subI, mulS, divS, modS, powS, opI, negS, cmpS, cmpT, chainS, chainT, chainR, andS, orS, notS, ifS, valT, andT, orT, notT, isBl, anil, acons, tupS, lstS, frzR, frz, ixS, onone, osome, sliceS, slcR, optR, Rg.nx, lenS, lenD, absS, intS, intOf, allS, anyS, blsR, bls, listS, tupleS, seqD, isiS, isi2S, noOb_non, noOb_bl, noOb_int, noOb_str, noOb_tup, noOb_lst, cellR, appendS, popAtS, popS, insertS, minTS, maxTS, minmaxR, unI, lenSetS, exitR, gn, gsn, gsc, gt, qLt, qLe, qGt, qGe, qEq, qNe, qIn, qNotIn, qIs, qIsNot, qIsB, qIsNotB, bI, fI, bB, eqB, isN, dInt, dBool, dStr, dLst, dTup, litS, litRs, obR, fldS, conS, runA, runM, Dl.runN, Dl.runL, methS, newOb, makeS, obO, intR, strR, blR, lenOS, reprOS, putD, fldB, forEB, forGoE, propS, mixO, lfC, lfM, repS, maxLS, minLS, maxLR, lcCS, lc2S, aconsX, n_is_cell, h, e, isDir_no e]
  | true =>
    obtain ⟨x, y, rfl⟩ := isCell_inv e
    have : ((Int.gcd x y : Int) = 1) = (Int.gcd x y = 1) := by simp; omega
    simp [f_is_direction, callS, lcS, lcGo, itS, seqR, Tg.put, Tg.vs, wipeE, noIf, Dl.locs, renO, pickO, idx, wb, nloc, bSh_ii, eqD_ii, defF, retB, retNB, seqB, setB, newB, parB, asgB, itemB, augB, exprB, ifB, nilB, Oc.bd, Rg.to, Rg.bd, rdR, dr, slR, unl, varS, valS, rd1S, rd2S, addS, addR, subS, subI, mulS, divS, modS, powS, opI, negS, cmpS, cmpT, chainS, chainT, chainR, andS, orS, notS, ifS, valT, andT, orT, notT, isBl, anil, acons, tupS, lstS, frzR, frz, ixS, onone, osome, sliceS, slcR, optR, Rg.nx, lenS, lenD, absS, intS, intOf, allS, anyS, blsR, bls, listS, tupleS, seqD, isiS, isi2S, noOb_non, noOb_bl, noOb_int, noOb_str, noOb_tup, noOb_lst, cellR, appendS, popAtS, popS, insertS, minTS, maxTS, minmaxR, unI, lenSetS, exitR, gn, gsn, gsc, gt, qLt, qLe, qGt, qGe, qEq, qNe, qIn, qNotIn, qIs, qIsNot, qIsB, qIsNotB, bI, fI, bB, eqB, isN, dInt, dBool, dStr, dLst, dTup, litS, litRs, obR, fldS, conS, runA, runM, Dl.runN, Dl.runL, methS, newOb, makeS, obO, intR, strR, blR, lenOS, reprOS, putD, fldB, forEB, forGoE, propS, mixO, lfC, lfM, repS, maxLS, minLS, maxLR, lcCS, lc2S, aconsX, n_is_cell, h, e, ix_tup, at0, at1, n_common, isDir, this]
theorem eqD_bb (a b : Bool) : eqD (.bl a) (.bl b) = (a == b) := rfl
theorem bSh_cell (a b c d : Int) : bSh (.tup [.int a, .int b]) (.tup [.int c, .int d]) = true := rfl
theorem eqD_cell (a b c d : Int) : eqD (.tup [.int a, .int b]) (.tup [.int c, .int d]) = (a == c && b == d) := by
  simp [eqD, toPy, toPys, PyData.eqv, PyData.eqvAll]
theorem szl (n : Nat) (h : n ≤ 100) : n < sizeLine := Nat.lt_of_le_of_lt h (by decide)
theorem szle (n : Nat) (h : n ≤ 100) : n ≤ sizeLine := Nat.le_trans h (by decide)
end Lw
namespace Lw
open PySem Dl
def bagL (ns : List Int) (i big salt : Int) : List D := [.lst (ns.map .int), .int i, .int big, .int salt]
def BagC (c : Cell) : Prop := ∃ ns i big salt, c = .lst (bagL ns i big salt) ∧ 0 ≤ i ∧ 0 ≤ big ∧ 0 ≤ salt ∧ salt < 2147483563
def Amt (n : Int) : Prop := 0 < n ∧ n.natAbs.log2 < 9000
theorem log2_small {i : Int} (h0 : 0 ≤ i) (h1 : i < 2 ^ 64) : i.natAbs.log2 < 64 := by
  by_cases h : i.natAbs = 0
  · rw [h]; decide
  · exact (Nat.log2_lt h).mpr (by omega)
theorem mulI_ok {i j : Int} (h0 : 0 ≤ i) (h1 : i < 2 ^ 64) (g0 : 0 ≤ j) (g1 : j < 2 ^ 64) : mulI i j = some (i * j) := by
  unfold mulI
  rw [if_pos]
  have a := log2_small h0 h1
  have b := log2_small g0 g1
  show _ + _ < 1000000
  omega
theorem modI_ok {i j : Int} (h : 0 < j) : modI i j = some (i % j) := by unfold modI; rw [if_pos h]
theorem divI_ok {i j : Int} (h : Amt j) : divI i j = some (i / j) := by unfold divI; rw [if_pos]; exact h
theorem amt_small {i : Int} (h0 : 0 < i) (h1 : i < 2 ^ 64) : Amt i := ⟨h0, by have := log2_small (by omega) h1; omega⟩
theorem l4_0 (a b c d : D) : ixD (.lst [a, b, c, d]) 0 = some a := rfl
theorem l4_1 (a b c d : D) : ixD (.lst [a, b, c, d]) 1 = some b := rfl
theorem l4_2 (a b c d : D) : ixD (.lst [a, b, c, d]) 2 = some c := rfl
theorem l4_3 (a b c d : D) : ixD (.lst [a, b, c, d]) 3 = some d := rfl
theorem x4_0 : L2.ixN 4 0 = some 0 := rfl
theorem x4_1 : L2.ixN 4 1 = some 1 := rfl
theorem x4_2 : L2.ixN 4 2 = some 2 := rfl
theorem x4_3 : L2.ixN 4 3 = some 3 := rfl
theorem ix_ints (ns : List Int) (i : Int) (h0 : 0 ≤ i) (h : i < ns.length) : ∃ z, ixD (.lst (ns.map .int)) i = some (.int z) := by
  have e : L2.ixN (ns.map D.int).length i = some i.toNat := by
    unfold L2.ixN
    rw [if_pos h0, if_pos (by rw [List.length_map]; exact h)]
  refine ⟨ns[i.toNat]'(by omega), ?_⟩
  show L2.atI (ns.map D.int) i = _
  unfold L2.atI
  rw [e]
  simp
theorem pow18 : powI 10 18 = some 1000000000000000000 := by decide
def seedS (s : Int) : Int := (s * s + s * 27031 + 1500083) % 2147483563
def outS (s n : Int) : Int := (s / 71 + s % 8117 * 59) % n
def saltS (s z : Int) : Int := (s * 43691 + z % 2147483353 * 1613 + 23) % 2147483563
theorem seed_bd (s : Int) : 0 ≤ seedS s ∧ seedS s < 2147483563 := ⟨Int.emod_nonneg _ (by decide), Int.emod_lt_of_pos _ (by decide)⟩
theorem salt_bd (s z : Int) : 0 ≤ saltS s z ∧ saltS s z < 2147483563 := ⟨Int.emod_nonneg _ (by decide), Int.emod_lt_of_pos _ (by decide)⟩
theorem div71 (s : Int) : divI s 71 = some (s / 71) := divI_ok (amt_small (by decide) (by decide))
theorem pull_big (n : Int) (hn : Amt n) (ns : List Int) (i big salt : Int) (hb : 0 < big) : f__law_pull [.loc 0, .v (.int n)] [.lst (bagL ns i big salt)] = .ok (.v (.int (big % n))) [.lst (bagL ns i (big / n) salt)] := by
  have h1 : ¬ big = 0 := by omega
  have em := modI_ok (i := big) hn.1
  have ed := divI_ok (i := big) hn
  simp [f__law_pull, callS, lcS, lcGo, itS, seqR, Tg.put, Tg.vs, wipeE, noIf, Dl.locs, renO, pickO, idx, wb, nloc, bSh_ii, eqD_ii, defF, retB, retNB, seqB, setB, newB, parB, asgB, itemB, augB, exprB, ifB, nilB, Oc.bd, Rg.to, Rg.bd, rdR, dr, slR, unl, varS, valS, rd1S, rd2S, addS, addR, subS, subI, mulS, divS, modS, powS, opI, negS, cmpS, cmpT, chainS, chainT, chainR, andS, orS, notS, ifS, valT, andT, orT, notT, isBl, anil, acons, tupS, lstS, frzR, frz, ixS, onone, osome, sliceS, slcR, optR, Rg.nx, lenS, lenD, absS, intS, intOf, allS, anyS, blsR, bls, listS, tupleS, seqD, isiS, isi2S, noOb_non, noOb_bl, noOb_int, noOb_str, noOb_tup, noOb_lst, cellR, appendS, popAtS, popS, insertS, minTS, maxTS, minmaxR, unI, lenSetS, exitR, gn, gsn, gsc, gt, qLt, qLe, qGt, qGe, qEq, qNe, qIn, qNotIn, qIs, qIsNot, qIsB, qIsNotB, bI, fI, bB, eqB, isN, dInt, dBool, dStr, dLst, dTup, litS, litRs, obR, fldS, conS, runA, runM, Dl.runN, Dl.runL, methS, newOb, makeS, obO, intR, strR, blR, lenOS, reprOS, putD, fldB, forEB, forGoE, propS, mixO, lfC, lfM, repS, maxLS, minLS, maxLR, lcCS, lc2S, aconsX, bagL, l4_0, l4_1, l4_2, l4_3, x4_0, x4_1, x4_2, x4_3, h1, hb, em, ed]
theorem pull_end (n : Int) (hn : Amt n) (ns : List Int) (i salt : Int) (h0 : 0 ≤ salt) (h1 : salt < 2147483563) (hi : ¬ i < (ns.length : Int)) : f__law_pull [.loc 0, .v (.int n)] [.lst (bagL ns i 0 salt)] = .ok (.v (.int (outS (seedS salt) n))) [.lst (bagL ns i 0 (seedS salt))] := by
  obtain ⟨b0, b1⟩ := seed_bd salt
  have e1 := mulI_ok (i := salt) (j := salt) h0 (by omega) h0 (by omega)
  have e2 := mulI_ok (i := salt) (j := 27031) h0 (by omega) (by decide) (by decide)
  have e3 := modI_ok (i := salt * salt + salt * 27031 + 1500083) (j := 2147483563) (by decide)
  have e4 := div71 (seedS salt)
  have e5 := modI_ok (i := seedS salt) (j := 8117) (by decide)
  have e6 := mulI_ok (i := seedS salt % 8117) (j := 59) (Int.emod_nonneg _ (by decide)) (Int.lt_trans (Int.emod_lt_of_pos _ (by decide)) (by decide)) (by decide) (by decide)
  have e7 := modI_ok (i := seedS salt / 71 + seedS salt % 8117 * 59) hn.1
  unfold seedS at *
  simp [f__law_pull, callS, lcS, lcGo, itS, seqR, Tg.put, Tg.vs, wipeE, noIf, Dl.locs, renO, pickO, idx, wb, nloc, bSh_ii, eqD_ii, defF, retB, retNB, seqB, setB, newB, parB, asgB, itemB, augB, exprB, ifB, nilB, Oc.bd, Rg.to, Rg.bd, rdR, dr, slR, unl, varS, valS, rd1S, rd2S, addS, addR, subS, subI, mulS, divS, modS, powS, opI, negS, cmpS, cmpT, chainS, chainT, chainR, andS, orS, notS, ifS, valT, andT, orT, notT, isBl, anil, acons, tupS, lstS, frzR, frz, ixS, onone, osome, sliceS, slcR, optR, Rg.nx, lenS, lenD, absS, intS, intOf, allS, anyS, blsR, bls, listS, tupleS, seqD, isiS, isi2S, noOb_non, noOb_bl, noOb_int, noOb_str, noOb_tup, noOb_lst, cellR, appendS, popAtS, popS, insertS, minTS, maxTS, minmaxR, unI, lenSetS, exitR, gn, gsn, gsc, gt, qLt, qLe, qGt, qGe, qEq, qNe, qIn, qNotIn, qIs, qIsNot, qIsB, qIsNotB, bI, fI, bB, eqB, isN, dInt, dBool, dStr, dLst, dTup, litS, litRs, obR, fldS, conS, runA, runM, Dl.runN, Dl.runL, methS, newOb, makeS, obO, intR, strR, blR, lenOS, reprOS, putD, fldB, forEB, forGoE, propS, mixO, lfC, lfM, repS, maxLS, minLS, maxLR, lcCS, lc2S, aconsX, bagL, l4_0, l4_1, l4_2, l4_3, x4_0, x4_1, x4_2, x4_3, hi, e1, e2, e3, e4, e5, e6, e7, outS]
theorem pull_take (n : Int) (hn : Amt n) (ns : List Int) (i salt z : Int) (hi : i < (ns.length : Int)) (hz : ixD (.lst (ns.map .int)) i = some (.int z)) (hz2 : 1000000000000000000 ≤ z) : f__law_pull [.loc 0, .v (.int n)] [.lst (bagL ns i 0 salt)] = .ok (.v (.int (z % n))) [.lst (bagL ns (i + 1) (z / n) salt)] := by
  have h1 : 0 < z := by omega
  have em := modI_ok (i := z) hn.1
  have ed := divI_ok (i := z) hn
  simp [f__law_pull, callS, lcS, lcGo, itS, seqR, Tg.put, Tg.vs, wipeE, noIf, Dl.locs, renO, pickO, idx, wb, nloc, bSh_ii, eqD_ii, defF, retB, retNB, seqB, setB, newB, parB, asgB, itemB, augB, exprB, ifB, nilB, Oc.bd, Rg.to, Rg.bd, rdR, dr, slR, unl, varS, valS, rd1S, rd2S, addS, addR, subS, subI, mulS, divS, modS, powS, opI, negS, cmpS, cmpT, chainS, chainT, chainR, andS, orS, notS, ifS, valT, andT, orT, notT, isBl, anil, acons, tupS, lstS, frzR, frz, ixS, onone, osome, sliceS, slcR, optR, Rg.nx, lenS, lenD, absS, intS, intOf, allS, anyS, blsR, bls, listS, tupleS, seqD, isiS, isi2S, noOb_non, noOb_bl, noOb_int, noOb_str, noOb_tup, noOb_lst, cellR, appendS, popAtS, popS, insertS, minTS, maxTS, minmaxR, unI, lenSetS, exitR, gn, gsn, gsc, gt, qLt, qLe, qGt, qGe, qEq, qNe, qIn, qNotIn, qIs, qIsNot, qIsB, qIsNotB, bI, fI, bB, eqB, isN, dInt, dBool, dStr, dLst, dTup, litS, litRs, obR, fldS, conS, runA, runM, Dl.runN, Dl.runL, methS, newOb, makeS, obO, intR, strR, blR, lenOS, reprOS, putD, fldB, forEB, forGoE, propS, mixO, lfC, lfM, repS, maxLS, minLS, maxLR, lcCS, lc2S, aconsX, bagL, l4_0, l4_1, l4_2, l4_3, x4_0, x4_1, x4_2, x4_3, hi, hz, hz2, h1, em, ed, pow18]
theorem pull_salt (n : Int) (hn : Amt n) (ns : List Int) (i salt z : Int) (h0 : 0 ≤ salt) (h1 : salt < 2147483563) (hi : i < (ns.length : Int)) (hz : ixD (.lst (ns.map .int)) i = some (.int z)) (hz2 : ¬ 1000000000000000000 ≤ z) : f__law_pull [.loc 0, .v (.int n)] [.lst (bagL ns i 0 salt)] = .ok (.v (.int (outS (seedS (saltS salt z)) n))) [.lst (bagL ns (i + 1) 0 (seedS (saltS salt z)))] := by
  obtain ⟨a0, a1⟩ := salt_bd salt z
  obtain ⟨b0, b1⟩ := seed_bd (saltS salt z)
  have d1 := mulI_ok (i := salt) (j := 43691) h0 (by omega) (by decide) (by decide)
  have d2 := modI_ok (i := z) (j := 2147483353) (by decide)
  have d3 := mulI_ok (i := z % 2147483353) (j := 1613) (Int.emod_nonneg _ (by decide)) (Int.lt_trans (Int.emod_lt_of_pos _ (by decide)) (by decide)) (by decide) (by decide)
  have d4 := modI_ok (i := salt * 43691 + z % 2147483353 * 1613 + 23) (j := 2147483563) (by decide)
  have d5 : (salt * 43691 + z % 2147483353 * 1613 + 23) % 2147483563 = saltS salt z := rfl
  generalize saltS salt z = s at *
  have e1 := mulI_ok (i := s) (j := s) a0 (by omega) a0 (by omega)
  have e2 := mulI_ok (i := s) (j := 27031) a0 (by omega) (by decide) (by decide)
  have e3 := modI_ok (i := s * s + s * 27031 + 1500083) (j := 2147483563) (by decide)
  have e4 := div71 (seedS s)
  have e5 := modI_ok (i := seedS s) (j := 8117) (by decide)
  have e6 := mulI_ok (i := seedS s % 8117) (j := 59) (Int.emod_nonneg _ (by decide)) (Int.lt_trans (Int.emod_lt_of_pos _ (by decide)) (by decide)) (by decide) (by decide)
  have e7 := modI_ok (i := seedS s / 71 + seedS s % 8117 * 59) hn.1
  unfold seedS at *
  simp [f__law_pull, callS, lcS, lcGo, itS, seqR, Tg.put, Tg.vs, wipeE, noIf, Dl.locs, renO, pickO, idx, wb, nloc, bSh_ii, eqD_ii, defF, retB, retNB, seqB, setB, newB, parB, asgB, itemB, augB, exprB, ifB, nilB, Oc.bd, Rg.to, Rg.bd, rdR, dr, slR, unl, varS, valS, rd1S, rd2S, addS, addR, subS, subI, mulS, divS, modS, powS, opI, negS, cmpS, cmpT, chainS, chainT, chainR, andS, orS, notS, ifS, valT, andT, orT, notT, isBl, anil, acons, tupS, lstS, frzR, frz, ixS, onone, osome, sliceS, slcR, optR, Rg.nx, lenS, lenD, absS, intS, intOf, allS, anyS, blsR, bls, listS, tupleS, seqD, isiS, isi2S, noOb_non, noOb_bl, noOb_int, noOb_str, noOb_tup, noOb_lst, cellR, appendS, popAtS, popS, insertS, minTS, maxTS, minmaxR, unI, lenSetS, exitR, gn, gsn, gsc, gt, qLt, qLe, qGt, qGe, qEq, qNe, qIn, qNotIn, qIs, qIsNot, qIsB, qIsNotB, bI, fI, bB, eqB, isN, dInt, dBool, dStr, dLst, dTup, litS, litRs, obR, fldS, conS, runA, runM, Dl.runN, Dl.runL, methS, newOb, makeS, obO, intR, strR, blR, lenOS, reprOS, putD, fldB, forEB, forGoE, propS, mixO, lfC, lfM, repS, maxLS, minLS, maxLR, lcCS, lc2S, aconsX, bagL, l4_0, l4_1, l4_2, l4_3, x4_0, x4_1, x4_2, x4_3, hi, hz, hz2, d1, d2, d3, d4, d5, e1, e2, e3, e4, e5, e6, e7, outS, pow18]
theorem pull_ok (n : Int) (hn : Amt n) (c : Cell) (hc : BagC c) : ∃ r c', f__law_pull [.loc 0, .v (.int n)] [c] = .ok (.v (.int r)) [c'] ∧ 0 ≤ r ∧ r < n ∧ BagC c' := by
  obtain ⟨ns, i, big, salt, rfl, hi, hb, h0, h1⟩ := hc
  have hn0 := hn.1
  have hnz : n ≠ 0 := by omega
  by_cases hb0 : big = 0
  · subst hb0
    by_cases hl : i < (ns.length : Int)
    · obtain ⟨z, hz⟩ := ix_ints ns i hi hl
      by_cases hz2 : 1000000000000000000 ≤ z
      · exact ⟨_, _, pull_take n hn ns i salt z hl hz hz2, Int.emod_nonneg _ hnz, Int.emod_lt_of_pos _ hn0, ns, _, _, _, rfl, by omega, Int.ediv_nonneg (by omega) (by omega), h0, h1⟩
      · obtain ⟨b0, b1⟩ := seed_bd (saltS salt z)
        exact ⟨_, _, pull_salt n hn ns i salt z h0 h1 hl hz hz2, Int.emod_nonneg _ hnz, Int.emod_lt_of_pos _ hn0, ns, _, _, _, rfl, by omega, by omega, b0, b1⟩
    · obtain ⟨b0, b1⟩ := seed_bd salt
      exact ⟨_, _, pull_end n hn ns i salt h0 h1 hl, Int.emod_nonneg _ hnz, Int.emod_lt_of_pos _ hn0, ns, _, _, _, rfl, by omega, by omega, b0, b1⟩
  · exact ⟨_, _, pull_big n hn ns i big salt (by omega), Int.emod_nonneg _ hnz, Int.emod_lt_of_pos _ hn0, ns, _, _, _, rfl, hi, Int.ediv_nonneg hb (by omega), h0, h1⟩
end Lw
namespace Lw
open PySem Dl
theorem cut_take {α : Type} (xs : List α) (n : Nat) : cutG xs none (some (n : Int)) = xs.take n := by
  unfold cutG
  rw [HT.sIx_none, HT.sIx_nat, List.drop_zero, Nat.sub_zero]
  rcases Nat.le_total n xs.length with h | h
  · rw [Nat.min_eq_left h]
  · rw [Nat.min_eq_right h, List.take_length, List.take_of_length_le h]
def stepS (s z : Int) : Int := (s * 50207 + z % 2147483353 + 37) % 2147483563
theorem step_bd (s z : Int) : 0 ≤ stepS s z ∧ stepS s z < 2147483563 := ⟨Int.emod_nonneg _ (by decide), Int.emod_lt_of_pos _ (by decide)⟩
theorem bag_loop {body : Fs} {S : Option Sl} (hb : ∀ s z m, 0 ≤ s → s < 2147483563 → body [S, sI s, sI z] m = .nx [S, sI (stepS s z), sI z] m) (m : Mem) : ∀ (zs : List Int) (s : Int) (o : Option Sl), 0 ≤ s → s < 2147483563 →
    ∃ s' o', forGo (gn 2) body (zs.map .int) [S, sI s, o] m = .nx [S, sI s', o'] m ∧ 0 ≤ s' ∧ s' < 2147483563
  | [], s, o, h0, h1 => ⟨s, o, rfl, h0, h1⟩
  | z :: zs, s, o, h0, h1 => by
    obtain ⟨a, b⟩ := step_bd s z
    obtain ⟨s', o', e, c⟩ := bag_loop hb m zs (stepS s z) (sI z) a b
    refine ⟨s', o', ?_, c⟩
    rw [← e, List.map_cons, forGo]
    show (match body [S, sI s, sI z] m with
      | .nx e2 m2 => forGo (gn 2) body (zs.map .int) e2 m2
      | .ct e2 m2 => forGo (gn 2) body (zs.map .int) e2 m2
      | .bk e2 m2 => .nx e2 m2
      | .rt r m2 => .rt r m2
      | .ex c fs m2 => .ex c fs m2
      | .no => .no) = _
    rw [hb s z m h0 h1]
theorem bag_ok (ns : List Int) : ∃ bs, f__law_bag [.v (.lst (ns.map .int))] [] = .ok (.nl bs) [] ∧ BagC (.lst bs) := by
  have hb : ∀ s z (m : Mem), 0 ≤ s → s < 2147483563 → (seqB (setB 1 (modS (intS (addS (addS (mulS (varS 1) (valS (.int 50207))) (modS (intS (varS 2)) (valS (.int 2147483353)))) (valS (.int 37)))) (valS (.int 2147483563)))) nilB) [some (.v (.lst (ns.map .int))), sI s, sI z] m = .nx [some (.v (.lst (ns.map .int))), sI (stepS s z), sI z] m := by
    intro s z m h0 h1
    have e1 := mulI_ok (i := s) (j := 50207) h0 (by omega) (by decide) (by decide)
    have e2 := modI_ok (i := z) (j := 2147483353) (by decide)
    have e3 := modI_ok (i := s * 50207 + z % 2147483353 + 37) (j := 2147483563) (by decide)
    simp [callS, lcS, lcGo, itS, seqR, Tg.put, Tg.vs, wipeE, noIf, Dl.locs, renO, pickO, idx, wb, nloc, bSh_ii, eqD_ii, defF, retB, retNB, seqB, setB, newB, parB, asgB, itemB, augB, exprB, ifB, nilB, Oc.bd, Rg.to, Rg.bd, rdR, dr, slR, unl, varS, valS, rd1S, rd2S, addS, addR, subS, subI, mulS, divS, modS, powS, opI, negS, cmpS, cmpT, chainS, chainT, chainR, andS, orS, notS, ifS, valT, andT, orT, notT, isBl, anil, acons, tupS, lstS, frzR, frz, ixS, onone, osome, sliceS, slcR, optR, Rg.nx, lenS, lenD, absS, intS, intOf, allS, anyS, blsR, bls, listS, tupleS, seqD, isiS, isi2S, noOb_non, noOb_bl, noOb_int, noOb_str, noOb_tup, noOb_lst, cellR, appendS, popAtS, popS, insertS, minTS, maxTS, minmaxR, unI, lenSetS, exitR, gn, gsn, gsc, gt, qLt, qLe, qGt, qGe, qEq, qNe, qIn, qNotIn, qIs, qIsNot, qIsB, qIsNotB, bI, fI, bB, eqB, isN, dInt, dBool, dStr, dLst, dTup, litS, litRs, obR, fldS, conS, runA, runM, Dl.runN, Dl.runL, methS, newOb, makeS, obO, intR, strR, blR, lenOS, reprOS, putD, fldB, forEB, forGoE, propS, mixO, lfC, lfM, repS, maxLS, minLS, maxLR, lcCS, lc2S, aconsX, sI, e1, e2, e3, stepS]
  obtain ⟨s', o', e, c0, c1⟩ := bag_loop hb [] (ns.take 63) 5641 none (by decide) (by decide)
  refine ⟨bagL (ns.take 63) 0 0 s', ?_, ns.take 63, 0, 0, s', rfl, by decide, by decide, c0, c1⟩
  have hc : cutG (ns.map D.int) none (some 63) = (ns.take 63).map D.int := by
    rw [show (63 : Int) = ((63 : Nat) : Int) from rfl, cut_take, List.map_take]
  simp [callS, lcS, lcGo, itS, seqR, Tg.put, Tg.vs, wipeE, noIf, Dl.locs, renO, pickO, idx, wb, nloc, bSh_ii, eqD_ii, defF, retB, retNB, seqB, setB, newB, parB, asgB, itemB, augB, exprB, ifB, nilB, Oc.bd, Rg.to, Rg.bd, rdR, dr, slR, unl, varS, valS, rd1S, rd2S, addS, addR, subS, subI, mulS, divS, modS, powS, opI, negS, cmpS, cmpT, chainS, chainT, chainR, andS, orS, notS, ifS, valT, andT, orT, notT, isBl, anil, acons, tupS, lstS, frzR, frz, ixS, onone, osome, sliceS, slcR, optR, Rg.nx, lenS, lenD, absS, intS, intOf, allS, anyS, blsR, bls, listS, tupleS, seqD, isiS, isi2S, noOb_non, noOb_bl, noOb_int, noOb_str, noOb_tup, noOb_lst, cellR, appendS, popAtS, popS, insertS, minTS, maxTS, minmaxR, unI, lenSetS, exitR, gn, gsn, gsc, gt, qLt, qLe, qGt, qGe, qEq, qNe, qIn, qNotIn, qIs, qIsNot, qIsB, qIsNotB, bI, fI, bB, eqB, isN, dInt, dBool, dStr, dLst, dTup, litS, litRs, obR, fldS, conS, runA, runM, Dl.runN, Dl.runL, methS, newOb, makeS, obO, intR, strR, blR, lenOS, reprOS, putD, fldB, forEB, forGoE, propS, mixO, lfC, lfM, repS, maxLS, minLS, maxLR, lcCS, lc2S, aconsX, sI] at e
  simp [f__law_bag, callS, lcS, lcGo, itS, seqR, Tg.put, Tg.vs, wipeE, noIf, Dl.locs, renO, pickO, idx, wb, nloc, bSh_ii, eqD_ii, defF, retB, retNB, seqB, setB, newB, parB, asgB, itemB, augB, exprB, ifB, nilB, Oc.bd, Rg.to, Rg.bd, rdR, dr, slR, unl, varS, valS, rd1S, rd2S, addS, addR, subS, subI, mulS, divS, modS, powS, opI, negS, cmpS, cmpT, chainS, chainT, chainR, andS, orS, notS, ifS, valT, andT, orT, notT, isBl, anil, acons, tupS, lstS, frzR, frz, ixS, onone, osome, sliceS, slcR, optR, Rg.nx, lenS, lenD, absS, intS, intOf, allS, anyS, blsR, bls, listS, tupleS, seqD, isiS, isi2S, noOb_non, noOb_bl, noOb_int, noOb_str, noOb_tup, noOb_lst, cellR, appendS, popAtS, popS, insertS, minTS, maxTS, minmaxR, unI, lenSetS, exitR, gn, gsn, gsc, gt, qLt, qLe, qGt, qGe, qEq, qNe, qIn, qNotIn, qIs, qIsNot, qIsB, qIsNotB, bI, fI, bB, eqB, isN, dInt, dBool, dStr, dLst, dTup, litS, litRs, obR, fldS, conS, runA, runM, Dl.runN, Dl.runL, methS, newOb, makeS, obO, intR, strR, blR, lenOS, reprOS, putD, fldB, forEB, forGoE, propS, mixO, lfC, lfM, repS, maxLS, minLS, maxLR, lcCS, lc2S, aconsX, forB, hc, e, bagL]
theorem at_nth {α : Type} (ds : List α) (r : Int) (h0 : 0 ≤ r) (h : r < ds.length) : ∃ d, L2.atI ds r = some d ∧ d ∈ ds := by
  refine ⟨ds[r.toNat]'(by omega), ?_, List.getElem_mem _⟩
  unfold L2.atI L2.ixN
  rw [if_pos h0, if_pos h]
  simp
theorem amt_len {α : Type} (ds : List α) (h0 : ds ≠ []) (h : ds.length ≤ 100) : Amt (ds.length : Int) := amt_small (by have := List.length_pos_iff.mpr h0; omega) (by omega)
theorem of_ok (ds : List D) (h0 : ds ≠ []) (hl : ds.length ≤ 100) (c : Cell) (hc : BagC c) : ∃ d c', f__law_of [.loc 0, .v (.lst ds)] [c] = .ok (.v d) [c'] ∧ d ∈ ds ∧ BagC c' := by
  obtain ⟨r, c', e, r0, r1, hc'⟩ := pull_ok _ (amt_len ds h0 hl) c hc
  obtain ⟨d, e2, hd⟩ := at_nth ds r r0 r1
  refine ⟨d, c', ?_, hd, hc'⟩
  simp [f__law_of, callS, lcS, lcGo, itS, seqR, Tg.put, Tg.vs, wipeE, noIf, Dl.locs, renO, pickO, idx, wb, nloc, bSh_ii, eqD_ii, defF, retB, retNB, seqB, setB, newB, parB, asgB, itemB, augB, exprB, ifB, nilB, Oc.bd, Rg.to, Rg.bd, rdR, dr, slR, unl, varS, valS, rd1S, rd2S, addS, addR, subS, subI, mulS, divS, modS, powS, opI, negS, cmpS, cmpT, chainS, chainT, chainR, andS, orS, notS, ifS, valT, andT, orT, notT, isBl, anil, acons, tupS, lstS, frzR, frz, ixS, onone, osome, sliceS, slcR, optR, Rg.nx, lenS, lenD, absS, intS, intOf, allS, anyS, blsR, bls, listS, tupleS, seqD, isiS, isi2S, noOb_non, noOb_bl, noOb_int, noOb_str, noOb_tup, noOb_lst, cellR, appendS, popAtS, popS, insertS, minTS, maxTS, minmaxR, unI, lenSetS, exitR, gn, gsn, gsc, gt, qLt, qLe, qGt, qGe, qEq, qNe, qIn, qNotIn, qIs, qIsNot, qIsB, qIsNotB, bI, fI, bB, eqB, isN, dInt, dBool, dStr, dLst, dTup, litS, litRs, obR, fldS, conS, runA, runM, Dl.runN, Dl.runL, methS, newOb, makeS, obO, intR, strR, blR, lenOS, reprOS, putD, fldB, forEB, forGoE, propS, mixO, lfC, lfM, repS, maxLS, minLS, maxLR, lcCS, lc2S, aconsX, e, ixD, e2]
theorem log2_100 {i : Int} (h0 : 0 ≤ i) (h1 : i < 2 ^ 200) : i.natAbs.log2 < 200 := by
  by_cases h : i.natAbs = 0
  · rw [h]; decide
  · exact (Nat.log2_lt h).mpr (by omega)
theorem number_ok (k : Int) (k0 : 0 ≤ k) (k1 : k < 2 ^ 100) (c : Cell) (hc : BagC c) : ∃ r c', f__law_number [.loc 0, .v (.int k)] [c] = .ok (.v (.int r)) [c'] ∧ -k ≤ r ∧ r ≤ k ∧ BagC c' := by
  obtain ⟨r, c', e, r0, r1, hc'⟩ := pull_ok (2 * k + 1) ⟨by omega, by have := log2_100 (i := 2 * k + 1) (by omega) (by omega); omega⟩ c hc
  have em : mulI 2 k = some (2 * k) := by
    unfold mulI
    rw [if_pos]
    have a := log2_100 (i := k) k0 (by omega)
    have b : (2 : Int).natAbs.log2 < 200 := by decide
    show _ + _ < 1000000
    omega
  refine ⟨r - k, c', ?_, by omega, by omega, hc'⟩
  simp [f__law_number, callS, lcS, lcGo, itS, seqR, Tg.put, Tg.vs, wipeE, noIf, Dl.locs, renO, pickO, idx, wb, nloc, bSh_ii, eqD_ii, defF, retB, retNB, seqB, setB, newB, parB, asgB, itemB, augB, exprB, ifB, nilB, Oc.bd, Rg.to, Rg.bd, rdR, dr, slR, unl, varS, valS, rd1S, rd2S, addS, addR, subS, subI, mulS, divS, modS, powS, opI, negS, cmpS, cmpT, chainS, chainT, chainR, andS, orS, notS, ifS, valT, andT, orT, notT, isBl, anil, acons, tupS, lstS, frzR, frz, ixS, onone, osome, sliceS, slcR, optR, Rg.nx, lenS, lenD, absS, intS, intOf, allS, anyS, blsR, bls, listS, tupleS, seqD, isiS, isi2S, noOb_non, noOb_bl, noOb_int, noOb_str, noOb_tup, noOb_lst, cellR, appendS, popAtS, popS, insertS, minTS, maxTS, minmaxR, unI, lenSetS, exitR, gn, gsn, gsc, gt, qLt, qLe, qGt, qGe, qEq, qNe, qIn, qNotIn, qIs, qIsNot, qIsB, qIsNotB, bI, fI, bB, eqB, isN, dInt, dBool, dStr, dLst, dTup, litS, litRs, obR, fldS, conS, runA, runM, Dl.runN, Dl.runL, methS, newOb, makeS, obO, intR, strR, blR, lenOS, reprOS, putD, fldB, forEB, forGoE, propS, mixO, lfC, lfM, repS, maxLS, minLS, maxLR, lcCS, lc2S, aconsX, e, em]
theorem gcd_pos {x y : Int} (h : ¬ (x = 0 ∧ y = 0)) : 0 < (Int.gcd x y : Int) := by
  have : Int.gcd x y ≠ 0 := fun e => h (Int.gcd_eq_zero_iff.mp e)
  omega
theorem gcd_le {x y k : Int} (hx : x.natAbs ≤ k) (hy : y.natAbs ≤ k) : (Int.gcd x y : Int) ≤ k := by
  by_cases h : x = 0
  · subst h; rw [Int.gcd_zero_left]; exact hy
  · have := Nat.le_of_dvd (Int.natAbs_pos.mpr h) (Int.gcd_dvd_natAbs_left x y)
    omega
theorem gcd_unit {x y : Int} (h : 0 < (Int.gcd x y : Int)) : Int.gcd (x / Int.gcd x y) (y / Int.gcd x y) = 1 := Int.gcd_ediv_gcd_ediv_gcd (by omega)
theorem div_abs {x g : Int} (h : 0 < g) : (x / g).natAbs ≤ x.natAbs := by
  by_cases hx : 0 ≤ x
  · have a := Int.ediv_nonneg hx (by omega : 0 ≤ g)
    have b := Int.ediv_le_self g hx
    omega
  · have hx' : x < 0 := by omega
    have a := Int.ediv_neg_of_neg_of_pos hx' h
    have b : x ≤ x / g := by
      have := Int.le_ediv_of_mul_le h (by
        have : x * g ≤ x * 1 := Int.mul_le_mul_of_nonpos_left (by omega) (by omega)
        omega : x * g ≤ x)
      exact this
    omega
theorem way_of_ok (x y k : Int) (hz : ¬ (x = 0 ∧ y = 0)) (hx : x.natAbs ≤ k) (hy : y.natAbs ≤ k) (k1 : k < 2 ^ 100) : f__law_way_of [.v (.tup [.int x, .int y])] [] = .ok (.v (.tup [.int (x / Int.gcd x y), .int (y / Int.gcd x y)])) [] := by
  have g0 := gcd_pos hz
  have g1 : (Int.gcd x y : Int) ≤ k := gcd_le hx hy
  have ha : Amt (Int.gcd x y) := ⟨g0, by have := log2_100 (i := Int.gcd x y) (by omega) (by omega); omega⟩
  have d1 := divI_ok (i := x) ha
  have d2 := divI_ok (i := y) ha
  simp [f__law_way_of, callS, lcS, lcGo, itS, seqR, Tg.put, Tg.vs, wipeE, noIf, Dl.locs, renO, pickO, idx, wb, nloc, bSh_ii, eqD_ii, defF, retB, retNB, seqB, setB, newB, parB, asgB, itemB, augB, exprB, ifB, nilB, Oc.bd, Rg.to, Rg.bd, rdR, dr, slR, unl, varS, valS, rd1S, rd2S, addS, addR, subS, subI, mulS, divS, modS, powS, opI, negS, cmpS, cmpT, chainS, chainT, chainR, andS, orS, notS, ifS, valT, andT, orT, notT, isBl, anil, acons, tupS, lstS, frzR, frz, ixS, onone, osome, sliceS, slcR, optR, Rg.nx, lenS, lenD, absS, intS, intOf, allS, anyS, blsR, bls, listS, tupleS, seqD, isiS, isi2S, noOb_non, noOb_bl, noOb_int, noOb_str, noOb_tup, noOb_lst, cellR, appendS, popAtS, popS, insertS, minTS, maxTS, minmaxR, unI, lenSetS, exitR, gn, gsn, gsc, gt, qLt, qLe, qGt, qGe, qEq, qNe, qIn, qNotIn, qIs, qIsNot, qIsB, qIsNotB, bI, fI, bB, eqB, isN, dInt, dBool, dStr, dLst, dTup, litS, litRs, obR, fldS, conS, runA, runM, Dl.runN, Dl.runL, methS, newOb, makeS, obO, intR, strR, blR, lenOS, reprOS, putD, fldB, forEB, forGoE, propS, mixO, lfC, lfM, repS, maxLS, minLS, maxLR, lcCS, lc2S, aconsX, ix_tup, at0, at1, n__law_common, d1, d2]
theorem way_ok (k : Int) (k0 : 1 ≤ k) (k1 : k < 2 ^ 100) (c : Cell) (hc : BagC c) : ∃ x y c', f__law_way [.loc 0, .v (.int k)] [c] = .ok (.v (.tup [.int x, .int y])) [c'] ∧ Int.gcd x y = 1 ∧ x.natAbs ≤ k ∧ y.natAbs ≤ k ∧ BagC c' := by
  obtain ⟨x, c1, e1, x0, x1, h1⟩ := number_ok k (by omega) k1 c hc
  obtain ⟨y, c2, e2, y0, y1, h2⟩ := number_ok k (by omega) k1 c1 h1
  by_cases hz : x = 0 ∧ y = 0
  · refine ⟨1, 0, c2, ?_, by decide, by omega, by omega, h2⟩
    obtain ⟨rfl, rfl⟩ := hz
    simp [f__law_way, callS, lcS, lcGo, itS, seqR, Tg.put, Tg.vs, wipeE, noIf, Dl.locs, renO, pickO, idx, wb, nloc, bSh_ii, eqD_ii, defF, retB, retNB, seqB, setB, newB, parB, asgB, itemB, augB, exprB, ifB, nilB, Oc.bd, Rg.to, Rg.bd, rdR, dr, slR, unl, varS, valS, rd1S, rd2S, addS, addR, subS, subI, mulS, divS, modS, powS, opI, negS, cmpS, cmpT, chainS, chainT, chainR, andS, orS, notS, ifS, valT, andT, orT, notT, isBl, anil, acons, tupS, lstS, frzR, frz, ixS, onone, osome, sliceS, slcR, optR, Rg.nx, lenS, lenD, absS, intS, intOf, allS, anyS, blsR, bls, listS, tupleS, seqD, isiS, isi2S, noOb_non, noOb_bl, noOb_int, noOb_str, noOb_tup, noOb_lst, cellR, appendS, popAtS, popS, insertS, minTS, maxTS, minmaxR, unI, lenSetS, exitR, gn, gsn, gsc, gt, qLt, qLe, qGt, qGe, qEq, qNe, qIn, qNotIn, qIs, qIsNot, qIsB, qIsNotB, bI, fI, bB, eqB, isN, dInt, dBool, dStr, dLst, dTup, litS, litRs, obR, fldS, conS, runA, runM, Dl.runN, Dl.runL, methS, newOb, makeS, obO, intR, strR, blR, lenOS, reprOS, putD, fldB, forEB, forGoE, propS, mixO, lfC, lfM, repS, maxLS, minLS, maxLR, lcCS, lc2S, aconsX, e1, e2]
  · have g0 := gcd_pos hz
    have ew := way_of_ok x y k hz (by omega) (by omega) k1
    have z1 := div_abs (x := x) g0
    have z2 := div_abs (x := y) g0
    refine ⟨x / Int.gcd x y, y / Int.gcd x y, c2, ?_, gcd_unit g0, by omega, by omega, h2⟩
    by_cases hx : x = 0
    · have hy : ¬ y = 0 := fun h => hz ⟨hx, h⟩
      subst hx
      simp [f__law_way, callS, lcS, lcGo, itS, seqR, Tg.put, Tg.vs, wipeE, noIf, Dl.locs, renO, pickO, idx, wb, nloc, bSh_ii, eqD_ii, defF, retB, retNB, seqB, setB, newB, parB, asgB, itemB, augB, exprB, ifB, nilB, Oc.bd, Rg.to, Rg.bd, rdR, dr, slR, unl, varS, valS, rd1S, rd2S, addS, addR, subS, subI, mulS, divS, modS, powS, opI, negS, cmpS, cmpT, chainS, chainT, chainR, andS, orS, notS, ifS, valT, andT, orT, notT, isBl, anil, acons, tupS, lstS, frzR, frz, ixS, onone, osome, sliceS, slcR, optR, Rg.nx, lenS, lenD, absS, intS, intOf, allS, anyS, blsR, bls, listS, tupleS, seqD, isiS, isi2S, noOb_non, noOb_bl, noOb_int, noOb_str, noOb_tup, noOb_lst, cellR, appendS, popAtS, popS, insertS, minTS, maxTS, minmaxR, unI, lenSetS, exitR, gn, gsn, gsc, gt, qLt, qLe, qGt, qGe, qEq, qNe, qIn, qNotIn, qIs, qIsNot, qIsB, qIsNotB, bI, fI, bB, eqB, isN, dInt, dBool, dStr, dLst, dTup, litS, litRs, obR, fldS, conS, runA, runM, Dl.runN, Dl.runL, methS, newOb, makeS, obO, intR, strR, blR, lenOS, reprOS, putD, fldB, forEB, forGoE, propS, mixO, lfC, lfM, repS, maxLS, minLS, maxLR, lcCS, lc2S, aconsX, e1, e2, hy, ew]
    · simp [f__law_way, callS, lcS, lcGo, itS, seqR, Tg.put, Tg.vs, wipeE, noIf, Dl.locs, renO, pickO, idx, wb, nloc, bSh_ii, eqD_ii, defF, retB, retNB, seqB, setB, newB, parB, asgB, itemB, augB, exprB, ifB, nilB, Oc.bd, Rg.to, Rg.bd, rdR, dr, slR, unl, varS, valS, rd1S, rd2S, addS, addR, subS, subI, mulS, divS, modS, powS, opI, negS, cmpS, cmpT, chainS, chainT, chainR, andS, orS, notS, ifS, valT, andT, orT, notT, isBl, anil, acons, tupS, lstS, frzR, frz, ixS, onone, osome, sliceS, slcR, optR, Rg.nx, lenS, lenD, absS, intS, intOf, allS, anyS, blsR, bls, listS, tupleS, seqD, isiS, isi2S, noOb_non, noOb_bl, noOb_int, noOb_str, noOb_tup, noOb_lst, cellR, appendS, popAtS, popS, insertS, minTS, maxTS, minmaxR, unI, lenSetS, exitR, gn, gsn, gsc, gt, qLt, qLe, qGt, qGe, qEq, qNe, qIn, qNotIn, qIs, qIsNot, qIsB, qIsNotB, bI, fI, bB, eqB, isN, dInt, dBool, dStr, dLst, dTup, litS, litRs, obR, fldS, conS, runA, runM, Dl.runN, Dl.runL, methS, newOb, makeS, obO, intR, strR, blR, lenOS, reprOS, putD, fldB, forEB, forGoE, propS, mixO, lfC, lfM, repS, maxLS, minLS, maxLR, lcCS, lc2S, aconsX, e1, e2, hx, ew]
theorem lc_map {t : Tg} {vs : List Nat} {env0 : Envt} {elt : Fe} {g : D → D} (m : Mem) : ∀ (ds acc : List D), (∀ d ∈ ds, ∃ e, t.put (wipeE env0 vs) d = some e ∧ elt e m = .ok (.v (g d)) m) → acc.length + ds.length ≤ sizeLine → lcGo t vs env0 noIf elt ds acc m = .ok (acc ++ ds.map g) m
  | [], acc, h, hl => by rw [List.map_nil, List.append_nil]; rfl
  | d :: ds, acc, h, hl => by
    obtain ⟨e, e1, e2⟩ := h d List.mem_cons_self
    rw [List.length_cons] at hl
    have hs : acc.length < sizeLine := by omega
    have ih := lc_map (t := t) (vs := vs) (env0 := env0) (elt := elt) (g := g) m ds (acc ++ [g d]) (fun x hx => h x (List.mem_cons_of_mem _ hx)) (by rw [List.length_append]; simp; omega)
    simp [lcGo, optR, e1, noIf, Rg.nx, Rg.bd, e2, frzR, frz, unl, hs, ih]
theorem seqB_nx {a b : Fs} {e e' : Envt} {m m' : Mem} (h : a e m = .nx e' m') : seqB a b e m = b e' m' := by unfold seqB; rw [h]; rfl
theorem defF_rt {l : Nat} {body : Fs} {rs : List Sl} {m m' : Mem} {d : D} (h : body (rs.map some ++ List.replicate (l - rs.length) none) m = .rt (.v d) m') : defF l body rs m = .ok (.v d) (m'.take m.length) := by unfold defF; rw [h]; rfl
theorem defF_ex {l : Nat} {body : Fs} {rs : List Sl} {m m' : Mem} {r : Rs} (h : body (rs.map some ++ List.replicate (l - rs.length) none) m = .rt r m') : defF l body rs m = exitR m.length r m' := by unfold defF; rw [h]
end Lw
namespace Lw
open PySem Dl
def atomD : D → Bool
  | .non => true
  | .bl _ => true
  | .int _ => true
  | .str s => sh (.str s)
  | _ => false
theorem bSh_bb (a b : Bool) : bSh (.bl a) (.bl b) = true := rfl
theorem sh_bSh {a b : D} (h : sh a = true) (h2 : sh b = true) : bSh a b = true := by unfold bSh; rw [h, h2]; rfl
def okD : Nat → D → Bool
  | 0, d => atomD d
  | n + 1, .tup xs => decide (xs.length ≤ 100) && xs.all (okD n)
  | n + 1, .lst xs => decide (xs.length ≤ 100) && xs.all (okD n)
  | _ + 1, d => atomD d
theorem eq_self {d : D} (h : sh d = true) : eqD d d = true := SeqAt.eqv_refl _ (SeqAt.canLay_of_shaped h)
theorem same_atom (n : Nat) (d : D) (h : atomD d = true) : f__law_same (n + 1) [.v d, .v d] [] = .ok (.v (.bl true)) [] := by
  cases d <;> first | (cases (show false = true from h)) | skip
  · rfl
  · rename_i b; cases b <;> rfl
  · rename_i i
    have e := eq_self (d := .int i) rfl
    have e2 : bSh (.int i) (.int i) = true := rfl
    rw [f__law_same]
    simp [callS, lcS, lcGo, itS, seqR, Tg.put, Tg.vs, wipeE, noIf, Dl.locs, renO, pickO, idx, wb, nloc, bSh_ii, eqD_ii, defF, retB, retNB, seqB, setB, newB, parB, asgB, itemB, augB, exprB, ifB, nilB, Oc.bd, Rg.to, Rg.bd, rdR, dr, slR, unl, varS, valS, rd1S, rd2S, addS, addR, subS, subI, mulS, divS, modS, powS, opI, negS, cmpS, cmpT, chainS, chainT, chainR, andS, orS, notS, ifS, valT, andT, orT, notT, isBl, anil, acons, tupS, lstS, frzR, frz, ixS, onone, osome, sliceS, slcR, optR, Rg.nx, lenS, lenD, absS, intS, intOf, allS, anyS, blsR, bls, listS, tupleS, seqD, isiS, isi2S, noOb_non, noOb_bl, noOb_int, noOb_str, noOb_tup, noOb_lst, cellR, appendS, popAtS, popS, insertS, minTS, maxTS, minmaxR, unI, lenSetS, exitR, gn, gsn, gsc, gt, qLt, qLe, qGt, qGe, qEq, qNe, qIn, qNotIn, qIs, qIsNot, qIsB, qIsNotB, bI, fI, bB, eqB, isN, dInt, dBool, dStr, dLst, dTup, litS, litRs, obR, fldS, conS, runA, runM, Dl.runN, Dl.runL, methS, newOb, makeS, obO, intR, strR, blR, lenOS, reprOS, putD, fldB, forEB, forGoE, propS, mixO, lfC, lfM, repS, maxLS, minLS, maxLR, lcCS, lc2S, aconsX, e, e2, bSh_bb, eqD_bb]
  · rename_i i
    have e := eq_self (d := .str i) h
    have e2 : bSh (.str i) (.str i) = true := sh_bSh h h
    rw [f__law_same]
    simp [callS, lcS, lcGo, itS, seqR, Tg.put, Tg.vs, wipeE, noIf, Dl.locs, renO, pickO, idx, wb, nloc, bSh_ii, eqD_ii, defF, retB, retNB, seqB, setB, newB, parB, asgB, itemB, augB, exprB, ifB, nilB, Oc.bd, Rg.to, Rg.bd, rdR, dr, slR, unl, varS, valS, rd1S, rd2S, addS, addR, subS, subI, mulS, divS, modS, powS, opI, negS, cmpS, cmpT, chainS, chainT, chainR, andS, orS, notS, ifS, valT, andT, orT, notT, isBl, anil, acons, tupS, lstS, frzR, frz, ixS, onone, osome, sliceS, slcR, optR, Rg.nx, lenS, lenD, absS, intS, intOf, allS, anyS, blsR, bls, listS, tupleS, seqD, isiS, isi2S, noOb_non, noOb_bl, noOb_int, noOb_str, noOb_tup, noOb_lst, cellR, appendS, popAtS, popS, insertS, minTS, maxTS, minmaxR, unI, lenSetS, exitR, gn, gsn, gsc, gt, qLt, qLe, qGt, qGe, qEq, qNe, qIn, qNotIn, qIs, qIsNot, qIsB, qIsNotB, bI, fI, bB, eqB, isN, dInt, dBool, dStr, dLst, dTup, litS, litRs, obR, fldS, conS, runA, runM, Dl.runN, Dl.runL, methS, newOb, makeS, obO, intR, strR, blR, lenOS, reprOS, putD, fldB, forEB, forGoE, propS, mixO, lfC, lfM, repS, maxLS, minLS, maxLR, lcCS, lc2S, aconsX, e, e2, bSh_bb, eqD_bb]
theorem put2 {env : Envt} {x y : D} (hv : 4 ≤ env.length) : ∃ e, Tg.put (wipeE env [2, 3]) (.two 2 3) (.tup [x, y]) = some e ∧ e[2]? = some (some (.v x)) ∧ e[3]? = some (some (.v y)) := by
  refine ⟨_, rfl, ?_, ?_⟩
  · rw [List.getElem?_set_ne (by decide), List.getElem?_set_self]
    show 2 < (wipeE env [2, 3]).length
    simp [wipeE]; omega
  · rw [List.getElem?_set_self]
    simp [wipeE]; omega
theorem same_lc {F : Fd} (env : Envt) (hv : 4 ≤ env.length) (ds : List D) (hF : ∀ x ∈ ds, F [.v x, .v x] [] = .ok (.v (.bl true)) []) (hl : ds.length ≤ 100) : lcGo (.two 2 3) [2, 3] env noIf (callS 2 F (acons (varS 2) (acons (varS 3) anil))) (pairD ds ds) [] [] = .ok ((pairD ds ds).map fun _ => .bl true) [] := by
  refine lc_map (g := fun _ => .bl true) [] (pairD ds ds) [] (fun d hd => ?_) (by unfold pairD; rw [List.length_map, List.length_zip, Nat.min_self, List.length_nil]; exact szle _ (by omega))
  unfold pairD at hd
  obtain ⟨p, hp, rfl⟩ := List.mem_map.mp hd
  have e : p.1 = p.2 := by
    obtain ⟨i, hi, rfl⟩ := List.mem_iff_getElem.mp hp
    simp
  have hx : p.1 ∈ ds := (List.of_mem_zip (a := p.1) (b := p.2) hp).1
  obtain ⟨e1, h1, h2, h3⟩ := put2 (env := env) (x := p.1) (y := p.2) hv
  refine ⟨e1, h1, ?_⟩
  have hf := hF p.1 hx
  rw [← e] at h3
  simp [callS, acons, anil, varS, h2, h3, Rg.bd, slR, unl, Dl.locs, renO, pickO, optR, hf, nloc, wb]
theorem bls_true (n : List D) : bls (n.map fun _ => .bl true) = some (n.map fun _ => true) := by
  induction n with
  | nil => rfl
  | cons d n ih => rw [List.map_cons, bls, ih]; rfl
theorem all_true {α : Type} (l : List α) : (l.map fun _ => true).all id = true := by
  rw [List.all_map, List.all_eq_true]; intro x _; rfl
theorem same_refl : ∀ (n : Nat) (d : D), okD n d = true → f__law_same (n + 1) [.v d, .v d] [] = .ok (.v (.bl true)) []
  | 0, d, h => same_atom 0 d h
  | n + 1, d, h => by
    have key : ∀ xs : List D, (d = .tup xs ∨ d = .lst xs) → xs.length ≤ 100 → xs.all (okD n) = true → f__law_same (n + 1 + 1) [.v d, .v d] [] = .ok (.v (.bl true)) [] := fun xs hd hl ha => by
      have hF : ∀ x ∈ xs, f__law_same (n + 1) [.v x, .v x] [] = .ok (.v (.bl true)) [] := fun x hx => same_refl n x (List.all_eq_true.mp ha x hx)
      have hlc := same_lc [some (.v d), some (.v d), none, none] (by simp) xs hF hl
      have hb := bls_true (pairD xs xs)
      have ht := all_true (pairD xs xs)
      have e2 : bSh (.int xs.length) (.int xs.length) = true := rfl
      have e3 := eq_self (d := .int xs.length) rfl
      rw [f__law_same]
      generalize f__law_same (n + 1) = F at *
      rcases hd with rfl | rfl <;> simp [callS, lcS, lcGo, itS, seqR, Tg.put, Tg.vs, wipeE, noIf, Dl.locs, renO, pickO, idx, wb, nloc, bSh_ii, eqD_ii, defF, retB, retNB, seqB, setB, newB, parB, asgB, itemB, augB, exprB, ifB, nilB, Oc.bd, Rg.to, Rg.bd, rdR, dr, slR, unl, varS, valS, rd1S, rd2S, addS, addR, subS, subI, mulS, divS, modS, powS, opI, negS, cmpS, cmpT, chainS, chainT, chainR, andS, orS, notS, ifS, valT, andT, orT, notT, isBl, anil, acons, tupS, lstS, frzR, frz, ixS, onone, osome, sliceS, slcR, optR, Rg.nx, lenS, lenD, absS, intS, intOf, allS, anyS, blsR, bls, listS, tupleS, seqD, isiS, isi2S, noOb_non, noOb_bl, noOb_int, noOb_str, noOb_tup, noOb_lst, cellR, appendS, popAtS, popS, insertS, minTS, maxTS, minmaxR, unI, lenSetS, exitR, gn, gsn, gsc, gt, qLt, qLe, qGt, qGe, qEq, qNe, qIn, qNotIn, qIs, qIsNot, qIsB, qIsNotB, bI, fI, bB, eqB, isN, dInt, dBool, dStr, dLst, dTup, litS, litRs, obR, fldS, conS, runA, runM, Dl.runN, Dl.runL, methS, newOb, makeS, obO, intR, strR, blR, lenOS, reprOS, putD, fldB, forEB, forGoE, propS, mixO, lfC, lfM, repS, maxLS, minLS, maxLR, lcCS, lc2S, aconsX, zipS, zipR, hlc, hb, ht, e2, e3, bSh_bb, eqD_bb]
    cases d with
    | tup xs =>
      obtain ⟨a, b⟩ := Bool.and_eq_true_iff.mp (show (decide (xs.length ≤ 100) && xs.all (okD n)) = true from h)
      exact key xs (.inl rfl) (of_decide_eq_true a) b
    | lst xs =>
      obtain ⟨a, b⟩ := Bool.and_eq_true_iff.mp (show (decide (xs.length ≤ 100) && xs.all (okD n)) = true from h)
      exact key xs (.inr rfl) (of_decide_eq_true a) b
    | _ => exact same_atom (n + 1) _ h
end Lw
namespace Lw
open PySem Dl
theorem log2_lt' {i : Int} {k : Nat} (hk : 0 < k) (h : i.natAbs < 2 ^ k) : i.natAbs.log2 < k := by
  by_cases h0 : i.natAbs = 0
  · rw [h0]; exact hk
  · exact (Nat.log2_lt h0).mpr h
def oD : D := .tup [.int 0, .int 0]
theorem n_need (d : D) (h : sh d = true) (hd : isDir d = true) (m : Mem) : f_need_direction [.v d] m = .ok (.v .non) m := by
  have e1 := n_is_direction d h []
  rw [hd] at e1
  simp [f_need_direction, callS, lcS, lcGo, itS, seqR, Tg.put, Tg.vs, wipeE, noIf, Dl.locs, renO, pickO, idx, wb, nloc, bSh_ii, eqD_ii, defF, retB, retNB, seqB, setB, newB, parB, asgB, itemB, augB, exprB, ifB, nilB, Oc.bd, Rg.to, Rg.bd, rdR, dr, slR, unl, varS, valS, rd1S, rd2S, addS, addR, subS, subI, mulS, divS, modS, powS, opI, negS, cmpS, cmpT, chainS, chainT, chainR, andS, orS, notS, ifS, valT, andT, orT, notT, isBl, anil, acons, tupS, lstS, frzR, frz, ixS, onone, osome, sliceS, slcR, optR, Rg.nx, lenS, lenD, absS, intS, intOf, allS, anyS, blsR, bls, listS, tupleS, seqD, isiS, isi2S, noOb_non, noOb_bl, noOb_int, noOb_str, noOb_tup, noOb_lst, cellR, appendS, popAtS, popS, insertS, minTS, maxTS, minmaxR, unI, lenSetS, exitR, gn, gsn, gsc, gt, qLt, qLe, qGt, qGe, qEq, qNe, qIn, qNotIn, qIs, qIsNot, qIsB, qIsNotB, bI, fI, bB, eqB, isN, dInt, dBool, dStr, dLst, dTup, litS, litRs, obR, fldS, conS, runA, runM, Dl.runN, Dl.runL, methS, newOb, makeS, obO, intR, strR, blR, lenOS, reprOS, putD, fldB, forEB, forGoE, propS, mixO, lfC, lfM, repS, maxLS, minLS, maxLR, lcCS, lc2S, aconsX, e1]
theorem isDir_g {x y : Int} (g : Int.gcd x y = 1) : isDir (.tup [.int x, .int y]) = true := by
  show decide (Int.gcd x y = 1) = true
  rw [g]; rfl
end Lw
namespace Lw
open PySem Dl
theorem same6 {a b : Fe} {env : Envt} {m m1 m2 : Mem} {r s : Rs} {d : D} (ha : a env m = .ok r m1) (hr : unl r = .v d) (hb : b env m1 = .ok s m2) (hs : unl s = .v d) (ho : okD 5 d = true) : callS 2 (f__law_same 6) (acons a (acons b anil)) env m = .ok (.v (.bl true)) m2 :=
  call_v (ds := [d, d]) (by simp [acons, anil, ha, Rg.bd, hr, hb, hs]) rfl (same_refl 5 d ho) rfl
end Lw
/-! the round order of directions -/
namespace Lw
abbrev Pt := Int × Int
def cross (a b : Pt) : Int := a.1 * b.2 - a.2 * b.1
def up (a : Pt) : Bool := decide (0 < a.2) || (decide (a.2 = 0) && decide (0 < a.1))
def bef (a b : Pt) : Bool := if up a != up b then up a else decide (0 < cross a b)
/-! ### put in its place -/
def putIn (fs : List Pt) (d : Pt) : List Pt := fs.take (fs.filter (bef · d)).length ++ d :: fs.drop (fs.filter (bef · d)).length
def ro : List Pt → List Pt → List Pt
  | fs, [] => fs
  | fs, d :: ds => ro (if d ∈ fs then fs else putIn fs d) ds
end Lw
/-! points as data, sorted -/
namespace Lw
open PySem Dl
def pD (p : Pt) : D := .tup [.int p.1, .int p.2]
def kP (p : Pt) : List Int := [p.1, p.2]
def leP (p q : Pt) : Bool := leK (kP p) (kP q)
theorem kP_inj {a b : Pt} (h : kP a = kP b) : a = b := by
  unfold kP at h
  simp only [List.cons.injEq, and_true] at h
  exact Prod.ext h.1 h.2
def sortP (ps : List Pt) : List Pt := ps.mergeSort leP
theorem sortP_perm (ps : List Pt) : (sortP ps).Perm ps := List.mergeSort_perm ps leP
theorem sortP_len (ps : List Pt) : (sortP ps).length = ps.length := (sortP_perm ps).length_eq
theorem mem_sortP {ps : List Pt} {p : Pt} : p ∈ sortP ps ↔ p ∈ ps := (sortP_perm ps).mem_iff
theorem toPy_pD (p : Pt) : toPy (pD p) = encK (kP p) := by
  simp [pD, kP, toPy, toPys, encK]
theorem le_pD : (fun p q : Pt => PySem.W.dataLe false toPy (pD p) (pD q)) = leP := by
  funext p q
  have e : PySem.W.dataLe false toPy (pD p) (pD q) = PySem.W.dataLe false encK (kP p) (kP q) := by
    unfold PySem.W.dataLe
    simp only [PySem.W.sortLe, toPy_pD]
  rw [e, le_encK]
  rfl
theorem sortD_pD (ps : List Pt) : sortD (ps.map pD) = (sortP ps).map pD := by
  unfold sortD sortP
  rw [List.map_mergeSort (s := PySem.W.dataLe false toPy)]
  intro a _ b _
  rw [← le_pD]
theorem sh_pD (p : Pt) : sh (pD p) = true := rfl
theorem srtOk_pD (ps : List Pt) : srtOk (ps.map pD) = true := by
  have h1 : (ps.map pD).all sh = true := by rw [List.all_map, List.all_eq_true]; intro p _; rfl
  have h2 : alk (ps.map pD) = true := by
    unfold alk
    rw [List.all_map, List.all_eq_true]
    intro p _
    show (ps.map pD).all _ = true
    rw [List.all_map, List.all_eq_true]
    intro q _
    rfl
  have h3 : (ps.map pD).all tup1 = true := by rw [List.all_map, List.all_eq_true]; intro p _; rfl
  unfold srtOk
  rw [h1, h2, h3]
  rfl
theorem eqD_pD (p q : Pt) : eqD (pD p) (pD q) = decide (p = q) := by
  obtain ⟨a, b⟩ := p
  obtain ⟨c, d⟩ := q
  show eqD (.tup [.int a, .int b]) (.tup [.int c, .int d]) = _
  rw [eqD_cell]
  by_cases h1 : a = c <;> by_cases h2 : b = d <;> simp [h1, h2]
/-- shapes as data -/
def sL (s : List Pt) : D := .lst (s.map pD)
def sT (s : List Pt) : D := .tup (s.map pD)
theorem pairs_can : ∀ qs : List Pt, PyData.canLayAll0 (toPys (qs.map pD)) = true ∧ PyData.depthAll (toPys (qs.map pD)) ≤ 1
  | [] => ⟨rfl, Nat.zero_le _⟩
  | q :: qs => by
    obtain ⟨a, b⟩ := pairs_can qs
    rw [List.map_cons, toPys, PyData.canLayAll0, PyData.depthAll, a]
    exact ⟨rfl, Nat.max_le.mpr ⟨Nat.le_refl 1, b⟩⟩
theorem sh_sL (qs : List Pt) : sh (sL qs) = true := by
  obtain ⟨a, b⟩ := pairs_can qs
  unfold sL sh SeqAt.shaped
  rw [toPy, PyData.canLay0, PyData.depth, a, decide_eq_true (by omega)]
  rfl
theorem sh_sT (qs : List Pt) : sh (sT qs) = true := by
  obtain ⟨a, b⟩ := pairs_can qs
  unfold sT sh SeqAt.shaped
  rw [toPy, PyData.canLay0, PyData.depth, a, decide_eq_true (by omega)]
  rfl
theorem shs_can (f : List Pt → D) (hf : (∀ s, f s = sL s) ∨ ∀ s, f s = sT s) : ∀ qs : List (List Pt), PyData.canLayAll0 (toPys (qs.map f)) = true ∧ PyData.depthAll (toPys (qs.map f)) ≤ 2
  | [] => ⟨rfl, Nat.zero_le _⟩
  | q :: qs => by
    obtain ⟨a, b⟩ := shs_can f hf qs
    obtain ⟨c, d⟩ := pairs_can q
    rw [List.map_cons, toPys, PyData.canLayAll0, PyData.depthAll, a]
    rcases hf with hf | hf
    · rw [hf q]; unfold sL; rw [toPy, PyData.canLay0, PyData.depth, c]
      exact ⟨rfl, Nat.max_le.mpr ⟨by omega, b⟩⟩
    · rw [hf q]; unfold sT; rw [toPy, PyData.canLay0, PyData.depth, c]
      exact ⟨rfl, Nat.max_le.mpr ⟨by omega, b⟩⟩
theorem sh_lsL (qs : List (List Pt)) : sh (.lst (qs.map sL)) = true := by
  obtain ⟨a, b⟩ := shs_can sL (.inl fun _ => rfl) qs
  unfold sh SeqAt.shaped
  rw [toPy, PyData.canLay0, PyData.depth, a, decide_eq_true (by omega)]
  rfl
theorem sh_lsT (qs : List (List Pt)) : sh (.lst (qs.map sT)) = true := by
  obtain ⟨a, b⟩ := shs_can sT (.inr fun _ => rfl) qs
  unfold sh SeqAt.shaped
  rw [toPy, PyData.canLay0, PyData.depth, a, decide_eq_true (by omega)]
  rfl
theorem eqAll_pD : ∀ (s t : List Pt), PyData.eqvAll (toPys (s.map pD)) (toPys (t.map pD)) = decide (s = t)
  | [], [] => by simp [toPys, PyData.eqvAll]
  | [], _ :: _ => by simp [toPys, PyData.eqvAll]
  | _ :: _, [] => by simp [toPys, PyData.eqvAll]
  | p :: s, q :: t => by
    rw [List.map_cons, List.map_cons, toPys, toPys, PyData.eqvAll, eqAll_pD s t]
    have := eqD_pD p q
    unfold eqD at this
    rw [this]
    by_cases h1 : p = q <;> by_cases h2 : s = t <;> simp [h1, h2]
theorem eqD_sT (s t : List Pt) : eqD (sT s) (sT t) = decide (s = t) := by
  unfold eqD sT
  rw [toPy, toPy, PyData.eqv, eqAll_pD]
theorem eqD_sL (s t : List Pt) : eqD (sL s) (sL t) = decide (s = t) := by
  unfold eqD sL
  rw [toPy, toPy, PyData.eqv, eqAll_pD]
theorem inD_sL (s : List Pt) (qs : List (List Pt)) : inD (sL s) (qs.map sL) = decide (s ∈ qs) := by
  unfold inD
  induction qs with
  | nil => simp
  | cons q qs ih =>
    rw [List.map_cons, List.any_cons, ih, eqD_sL]
    by_cases h1 : q = s
    · simp [h1]
    · have h1' : ¬ s = q := fun h => h1 h.symm
      simp [h1, h1']
theorem inD_sT (s : List Pt) (qs : List (List Pt)) : inD (sT s) (qs.map sT) = decide (s ∈ qs) := by
  unfold inD
  induction qs with
  | nil => simp
  | cons q qs ih =>
    rw [List.map_cons, List.any_cons, ih, eqD_sT]
    by_cases h1 : q = s
    · simp [h1]
    · have h1' : ¬ s = q := fun h => h1 h.symm
      simp [h1, h1']
theorem inD_pD (s : Pt) (qs : List Pt) : inD (pD s) (qs.map pD) = decide (s ∈ qs) := by
  unfold inD
  induction qs with
  | nil => simp
  | cons q qs ih =>
    rw [List.map_cons, List.any_cons, ih, eqD_pD]
    by_cases h1 : q = s
    · simp [h1]
    · have h1' : ¬ s = q := fun h => h1 h.symm
      simp [h1, h1']
end Lw
/-! drawn shapes -/
namespace Lw
open PySem Dl
def near1P : List Pt := [(-1, -1), (-1, 0), (-1, 1), (0, -1), (0, 1), (1, -1), (1, 0), (1, 1)]
def near2P : List Pt := [(-2, -2), (-2, -1), (-2, 0), (-2, 1), (-2, 2), (-1, -2), (-1, -1), (-1, 0), (-1, 1), (-1, 2), (0, -2), (0, -1), (0, 1), (0, 2), (1, -2), (1, -1), (1, 0), (1, 1), (1, 2), (2, -2), (2, -1), (2, 0), (2, 1), (2, 2)]
theorem rg3 : rgD (-1) 3 = [.int (-1), .int 0, .int 1] := rfl
theorem rg5 : rgD (-2) 5 = [.int (-2), .int (-1), .int 0, .int 1, .int 2] := rfl
theorem near1 : f__law_near [.v (.int 1)] [] = .ok (.nl (near1P.map pD)) [] := by
  simp [f__law_near, callS, lcS, lcGo, itS, seqR, Tg.put, Tg.vs, wipeE, noIf, Dl.locs, renO, pickO, idx, wb, nloc, bSh_ii, eqD_ii, defF, retB, retNB, seqB, setB, newB, parB, asgB, itemB, augB, exprB, ifB, nilB, Oc.bd, Rg.to, Rg.bd, rdR, dr, slR, unl, varS, valS, rd1S, rd2S, addS, addR, subS, subI, mulS, divS, modS, powS, opI, negS, cmpS, cmpT, chainS, chainT, chainR, andS, orS, notS, ifS, valT, andT, orT, notT, isBl, anil, acons, tupS, lstS, frzR, frz, ixS, onone, osome, sliceS, slcR, optR, Rg.nx, lenS, lenD, absS, intS, intOf, allS, anyS, blsR, bls, listS, tupleS, seqD, isiS, isi2S, noOb_non, noOb_bl, noOb_int, noOb_str, noOb_tup, noOb_lst, cellR, appendS, popAtS, popS, insertS, minTS, maxTS, minmaxR, unI, lenSetS, exitR, gn, gsn, gsc, gt, qLt, qLe, qGt, qGe, qEq, qNe, qIn, qNotIn, qIs, qIsNot, qIsB, qIsNotB, bI, fI, bB, eqB, isN, dInt, dBool, dStr, dLst, dTup, litS, litRs, obR, fldS, conS, runA, runM, Dl.runN, Dl.runL, methS, newOb, makeS, obO, intR, strR, blR, lenOS, reprOS, putD, fldB, forEB, forGoE, propS, mixO, lfC, lfM, repS, maxLS, minLS, maxLR, lcCS, lc2S, aconsX, forB, forGo, range2S, rg3, bSh_cell, eqD_cell, szl, szle, near1P, pD]
theorem near2 : f__law_near [.v (.int 2)] [] = .ok (.nl (near2P.map pD)) [] := by
  simp [f__law_near, callS, lcS, lcGo, itS, seqR, Tg.put, Tg.vs, wipeE, noIf, Dl.locs, renO, pickO, idx, wb, nloc, bSh_ii, eqD_ii, defF, retB, retNB, seqB, setB, newB, parB, asgB, itemB, augB, exprB, ifB, nilB, Oc.bd, Rg.to, Rg.bd, rdR, dr, slR, unl, varS, valS, rd1S, rd2S, addS, addR, subS, subI, mulS, divS, modS, powS, opI, negS, cmpS, cmpT, chainS, chainT, chainR, andS, orS, notS, ifS, valT, andT, orT, notT, isBl, anil, acons, tupS, lstS, frzR, frz, ixS, onone, osome, sliceS, slcR, optR, Rg.nx, lenS, lenD, absS, intS, intOf, allS, anyS, blsR, bls, listS, tupleS, seqD, isiS, isi2S, noOb_non, noOb_bl, noOb_int, noOb_str, noOb_tup, noOb_lst, cellR, appendS, popAtS, popS, insertS, minTS, maxTS, minmaxR, unI, lenSetS, exitR, gn, gsn, gsc, gt, qLt, qLe, qGt, qGe, qEq, qNe, qIn, qNotIn, qIs, qIsNot, qIsB, qIsNotB, bI, fI, bB, eqB, isN, dInt, dBool, dStr, dLst, dTup, litS, litRs, obR, fldS, conS, runA, runM, Dl.runN, Dl.runL, methS, newOb, makeS, obO, intR, strR, blR, lenOS, reprOS, putD, fldB, forEB, forGoE, propS, mixO, lfC, lfM, repS, maxLS, minLS, maxLR, lcCS, lc2S, aconsX, forB, forGo, range2S, rg5, bSh_cell, eqD_cell, szl, szle, near2P, pD]
/-- a shape, its cells in any order -/
structure ShOk (s : List Pt) : Prop where
  l1 : 1 ≤ s.length
  l4 : s.length ≤ 4
  nd : s.Nodup
  near : ∀ p ∈ s, p ∈ near2P
theorem seqIx (r : Int) (n : Nat) (h0 : 0 ≤ r) (h : r < n) : seqIndex? r n = some r.toNat := (L2.ixN_seq (by unfold L2.ixN; rw [if_pos h0, if_pos h])).1
abbrev shB : Fs := seqB (exprB (appendS (varS 2) (popAtS (varS 1) (callS 2 f__law_pull (acons (varS 0) (acons (lenS (varS 1)) anil)))))) nilB
theorem map_er : ∀ (l : List Pt) (i : Nat), (l.eraseIdx i).map pD = (l.map pD).eraseIdx i
  | [], _ => rfl
  | _ :: _, 0 => rfl
  | a :: l, i + 1 => by rw [List.eraseIdx_cons_succ, List.map_cons, List.map_cons, List.eraseIdx_cons_succ, map_er l i]
theorem sh_step (c : Cell) (hc : BagC c) (pool found : List Pt) (o : Option Sl) (h0 : pool ≠ []) (h1 : pool.length ≤ 50) (h2 : found.length ≤ 50) :
    ∃ d c' kk, shB [some (.loc 0), some (.loc 1), some (.loc 2), o] [c, .lst (pool.map pD), .lst (found.map pD)] = .nx [some (.loc 0), some (.loc 1), some (.loc 2), o] [c', .lst ((pool.eraseIdx kk).map pD), .lst ((found ++ [d]).map pD)] ∧ pool[kk]? = some d ∧ BagC c' := by
  have hl : (pool.map pD).length = pool.length := List.length_map _
  obtain ⟨r, c', e, r0, r1, h⟩ := pull_ok _ (amt_len (pool.map pD) (by simpa using h0) (by omega)) c hc
  rw [hl] at e r1
  have hk : r.toNat < pool.length := by omega
  have e2 := seqIx r pool.length r0 r1
  have e3 : pool[r.toNat]? = some (pool[r.toNat]'hk) := List.getElem?_eq_getElem hk
  have hs : found.length < sizeLine := szl _ (by omega)
  refine ⟨pool[r.toNat]'hk, c', r.toNat, ?_, e3, h⟩
  have b1 : -9223372036854775808 ≤ r := by omega
  have b2 : r < 9223372036854775808 := by omega
  have e4 : ((pool.map pD).eraseIdx r.toNat) = (pool.eraseIdx r.toNat).map pD := (map_er pool r.toNat).symm
  simp [callS, lcS, lcGo, itS, seqR, Tg.put, Tg.vs, wipeE, noIf, Dl.locs, renO, pickO, idx, wb, nloc, bSh_ii, eqD_ii, defF, retB, retNB, seqB, setB, newB, parB, asgB, itemB, augB, exprB, ifB, nilB, Oc.bd, Rg.to, Rg.bd, rdR, dr, slR, unl, varS, valS, rd1S, rd2S, addS, addR, subS, subI, mulS, divS, modS, powS, opI, negS, cmpS, cmpT, chainS, chainT, chainR, andS, orS, notS, ifS, valT, andT, orT, notT, isBl, anil, acons, tupS, lstS, frzR, frz, ixS, onone, osome, sliceS, slcR, optR, Rg.nx, lenS, lenD, absS, intS, intOf, allS, anyS, blsR, bls, listS, tupleS, seqD, isiS, isi2S, noOb_non, noOb_bl, noOb_int, noOb_str, noOb_tup, noOb_lst, cellR, appendS, popAtS, popS, insertS, minTS, maxTS, minmaxR, unI, lenSetS, exitR, gn, gsn, gsc, gt, qLt, qLe, qGt, qGe, qEq, qNe, qIn, qNotIn, qIs, qIsNot, qIsB, qIsNotB, bI, fI, bB, eqB, isN, dInt, dBool, dStr, dLst, dTup, litS, litRs, obR, fldS, conS, runA, runM, Dl.runN, Dl.runL, methS, newOb, makeS, obO, intR, strR, blR, lenOS, reprOS, putD, fldB, forEB, forGoE, propS, mixO, lfC, lfM, repS, maxLS, minLS, maxLR, lcCS, lc2S, aconsX, e, e2, e3, hs, b1, b2, e4]
theorem sh_loop : ∀ (zs : List D) (c : Cell) (hc : BagC c) (pool found : List Pt) (o : Option Sl), zs.length < pool.length → pool.length ≤ 50 → found.length + zs.length ≤ 50 → pool.Nodup →
    ∃ c' pool' new o', forGo (gn 3) shB zs [some (.loc 0), some (.loc 1), some (.loc 2), o] [c, .lst (pool.map pD), .lst (found.map pD)] = .nx [some (.loc 0), some (.loc 1), some (.loc 2), o'] [c', pool', .lst ((found ++ new).map pD)] ∧ new.length = zs.length ∧ (∀ d ∈ new, d ∈ pool) ∧ new.Nodup ∧ BagC c'
  | [], c, hc, pool, found, o, _, _, _, _ => ⟨c, _, [], o, by rw [List.append_nil]; rfl, rfl, by simp, by simp, hc⟩
  | z :: zs, c, hc, pool, found, o, h0, h1, h2, nd => by
    rw [List.length_cons] at h0 h2
    obtain ⟨d, c1, kk, e, hd, hc1⟩ := sh_step c hc pool found (some (.v z)) (by intro z; rw [z] at h0; cases h0) h1 (by omega)
    have hk := (List.getElem?_eq_some_iff.mp hd).1
    have hl : (pool.eraseIdx kk).length = pool.length - 1 := List.length_eraseIdx_of_lt hk
    have nde : (pool.eraseIdx kk).Nodup := nd.sublist (List.eraseIdx_sublist _ _)
    obtain ⟨c2, p2, new, o2, e2, l2, m2, n2, hc2⟩ := sh_loop zs c1 hc1 (pool.eraseIdx kk) (found ++ [d]) (some (.v z)) (by omega) (by omega) (by rw [List.length_append]; simp; omega) nde
    refine ⟨c2, p2, d :: new, o2, ?_, by rw [List.length_cons, l2, List.length_cons], ?_, ?_, hc2⟩
    · rw [show found ++ d :: new = (found ++ [d]) ++ new by simp, ← e2, forGo]
      simp only [gn, List.set]
      rw [e]
    · intro x hx
      rcases List.mem_cons.mp hx with rfl | hx
      · exact List.mem_of_getElem? hd
      · exact List.mem_of_mem_eraseIdx (m2 x hx)
    · refine List.nodup_cons.mpr ⟨fun hx => ?_, n2⟩
      have h3 := m2 d hx
      have h4 : pool[kk]'hk = d := (List.getElem?_eq_some_iff.mp hd).2
      obtain ⟨j, hj, hjk⟩ := List.mem_eraseIdx_iff_getElem.mp h3
      exact hjk.1 ((List.getElem?_inj hj nd).mp (by rw [List.getElem?_eq_getElem hj, List.getElem?_eq_getElem hk, hjk.2, h4]))
theorem near1_sub : ∀ d ∈ near1P, d ∈ near2P := by decide
theorem shape_ok (c : Cell) (hc : BagC c) : ∃ s c', f__law_shape [.loc 0] [c] = .ok (.nl (s.map pD)) [c'] ∧ ShOk s ∧ BagC c' := by
  obtain ⟨r, c1, e1, r0, r1, h1⟩ := pull_ok 3 (amt_small (by decide) (by decide)) c hc
  obtain ⟨q, c2, e2, q0, q1, h2⟩ := pull_ok 4 (amt_small (by decide) (by decide)) c1 h1
  have hp : ∃ pool : List Pt, (∀ d ∈ pool, d ∈ near2P) ∧ 8 ≤ pool.length ∧ pool.length ≤ 24 ∧ pool.Nodup ∧ f__law_near [.v (.int (1 + if r = 0 then 1 else 0))] [] = .ok (.nl (pool.map pD)) [] := by
    by_cases hr : r = 0
    · refine ⟨near2P, fun d h => h, by decide, by decide, by decide, ?_⟩
      rw [if_pos hr]; exact near2
    · refine ⟨near1P, near1_sub, by decide, by decide, by decide, ?_⟩
      rw [if_neg hr]; exact near1
  obtain ⟨pool, p1, p2, p3, pn, p4⟩ := hp
  have hl : (rgD 0 (1 + q).toNat).length = (1 + q).toNat := rgD_length _ _
  obtain ⟨c3, pool', new, o', e3, l3, m3, n3, h3⟩ := sh_loop (rgD 0 (1 + q).toNat) c2 h2 pool [] none (by omega) (by omega) (by rw [List.length_nil]; omega) pn
  refine ⟨new, c3, ?_, ⟨by omega, by omega, n3, fun d hd => p1 d (m3 d hd)⟩, h3⟩
  have b1 : (-4611686018427387904 : Int) ≤ 1 + q := by omega
  have b2 : 1 + q < 4611686018427387904 := by omega
  have hd : (if decide (r = 0) = true then (1 : Int) else 0) = if r = 0 then 1 else 0 := by simp
  simp [shB, callS, lcS, lcGo, itS, seqR, Tg.put, Tg.vs, wipeE, noIf, Dl.locs, renO, pickO, idx, wb, nloc, bSh_ii, eqD_ii, defF, retB, retNB, seqB, setB, newB, parB, asgB, itemB, augB, exprB, ifB, nilB, Oc.bd, Rg.to, Rg.bd, rdR, dr, slR, unl, varS, valS, rd1S, rd2S, addS, addR, subS, subI, mulS, divS, modS, powS, opI, negS, cmpS, cmpT, chainS, chainT, chainR, andS, orS, notS, ifS, valT, andT, orT, notT, isBl, anil, acons, tupS, lstS, frzR, frz, ixS, onone, osome, sliceS, slcR, optR, Rg.nx, lenS, lenD, absS, intS, intOf, allS, anyS, blsR, bls, listS, tupleS, seqD, isiS, isi2S, noOb_non, noOb_bl, noOb_int, noOb_str, noOb_tup, noOb_lst, cellR, appendS, popAtS, popS, insertS, minTS, maxTS, minmaxR, unI, lenSetS, exitR, gn, gsn, gsc, gt, qLt, qLe, qGt, qGe, qEq, qNe, qIn, qNotIn, qIs, qIsNot, qIsB, qIsNotB, bI, fI, bB, eqB, isN, dInt, dBool, dStr, dLst, dTup, litS, litRs, obR, fldS, conS, runA, runM, Dl.runN, Dl.runL, methS, newOb, makeS, obO, intR, strR, blR, lenOS, reprOS, putD, fldB, forEB, forGoE, propS, mixO, lfC, lfM, repS, maxLS, minLS, maxLR, lcCS, lc2S, aconsX] at e3
  simp [f__law_shape, callS, lcS, lcGo, itS, seqR, Tg.put, Tg.vs, wipeE, noIf, Dl.locs, renO, pickO, idx, wb, nloc, bSh_ii, eqD_ii, defF, retB, retNB, seqB, setB, newB, parB, asgB, itemB, augB, exprB, ifB, nilB, Oc.bd, Rg.to, Rg.bd, rdR, dr, slR, unl, varS, valS, rd1S, rd2S, addS, addR, subS, subI, mulS, divS, modS, powS, opI, negS, cmpS, cmpT, chainS, chainT, chainR, andS, orS, notS, ifS, valT, andT, orT, notT, isBl, anil, acons, tupS, lstS, frzR, frz, ixS, onone, osome, sliceS, slcR, optR, Rg.nx, lenS, lenD, absS, intS, intOf, allS, anyS, blsR, bls, listS, tupleS, seqD, isiS, isi2S, noOb_non, noOb_bl, noOb_int, noOb_str, noOb_tup, noOb_lst, cellR, appendS, popAtS, popS, insertS, minTS, maxTS, minmaxR, unI, lenSetS, exitR, gn, gsn, gsc, gt, qLt, qLe, qGt, qGe, qEq, qNe, qIn, qNotIn, qIs, qIsNot, qIsB, qIsNotB, bI, fI, bB, eqB, isN, dInt, dBool, dStr, dLst, dTup, litS, litRs, obR, fldS, conS, runA, runM, Dl.runN, Dl.runL, methS, newOb, makeS, obO, intR, strR, blR, lenOS, reprOS, putD, fldB, forEB, forGoE, propS, mixO, lfC, lfM, repS, maxLS, minLS, maxLR, lcCS, lc2S, aconsX, e1, p4, e2, forB, range1S, b1, b2, e3, aconsC, isNl]
end Lw
/-! drawn lists of shapes -/
namespace Lw
open PySem Dl
theorem lc_mapC {t : Tg} {vs : List Nat} {env0 : Envt} {elt : Fe} {g : D → D} {n : Nat} {ds0 : List D} (m : Mem) (hm : m[n]? = some (.lst ds0)) : ∀ (ds acc : List D), (∀ d ∈ ds, ∃ e r, t.put (wipeE env0 vs) d = some e ∧ elt e m = .ok r m ∧ unl r = .v (g d)) → acc.length + ds.length ≤ sizeLine → lcGoC t vs env0 noIf elt n ds0 ds acc m = .ok (acc ++ ds.map g) m
  | [], acc, h, hl => by rw [List.map_nil, List.append_nil, lcGoC, if_pos hm]
  | d :: ds, acc, h, hl => by
    obtain ⟨e, r, e1, e2, e3⟩ := h d List.mem_cons_self
    rw [List.length_cons] at hl
    have hs : acc.length < sizeLine := by omega
    have ih := lc_mapC (t := t) (vs := vs) (env0 := env0) (elt := elt) (g := g) m hm ds (acc ++ [g d]) (fun x hx => h x (List.mem_cons_of_mem _ hx)) (by rw [List.length_append]; simp; omega)
    rw [lcGoC, if_pos hm]
    simp [optR, e1, noIf, Rg.nx, Rg.bd, e2, e3, frzR, frz, hs, ih]
theorem lc_mapR {t : Tg} {vs : List Nat} {env0 : Envt} {elt : Fe} {g : D → D} (m : Mem) : ∀ (ds acc : List D), (∀ d ∈ ds, ∃ e r, t.put (wipeE env0 vs) d = some e ∧ elt e m = .ok r m ∧ unl r = .v (g d)) → acc.length + ds.length ≤ sizeLine → lcGo t vs env0 noIf elt ds acc m = .ok (acc ++ ds.map g) m
  | [], acc, h, hl => by rw [List.map_nil, List.append_nil]; rfl
  | d :: ds, acc, h, hl => by
    obtain ⟨e, r, e1, e2, e3⟩ := h d List.mem_cons_self
    rw [List.length_cons] at hl
    have hs : acc.length < sizeLine := by omega
    have ih := lc_mapR (t := t) (vs := vs) (env0 := env0) (elt := elt) (g := g) m ds (acc ++ [g d]) (fun x hx => h x (List.mem_cons_of_mem _ hx)) (by rw [List.length_append]; simp; omega)
    simp [lcGo, optR, e1, noIf, Rg.nx, Rg.bd, e2, e3, frzR, frz, hs, ih]
/-- lists of different shapes -/
structure ModOk (ms : List (List Pt)) : Prop where
  sh : ∀ s ∈ ms, ShOk s
  nd : (ms.map sortP).Nodup
theorem ModOk.take {ms : List (List Pt)} (h : ModOk ms) (n : Nat) : ModOk (ms.take n) :=
  ⟨fun s hs => h.sh s (List.mem_of_mem_take hs), by rw [List.map_take]; exact h.nd.sublist (List.take_sublist _ _)⟩
theorem ModOk.snoc {ms : List (List Pt)} {s : List Pt} (h : ModOk ms) (hs : ShOk s) (hn : sortP s ∉ ms.map sortP) : ModOk (ms ++ [s]) :=
  ⟨fun t ht => by
    rcases List.mem_append.mp ht with q | q
    · exact h.sh t q
    · rw [List.mem_singleton.mp q]; exact hs, by
    rw [List.map_append]
    exact List.nodup_append.mpr ⟨h.nd, by simp, fun a ha b hb e => by
      simp only [List.map_cons, List.map_nil, List.mem_singleton] at hb
      exact hn (by rw [← hb, ← e]; exact ha)⟩⟩
theorem sorted_sL (s : List Pt) (m : Mem) : sortedR (sL s) m = .ok (.nl ((sortP s).map pD)) m := by
  unfold sortedR sL
  simp only [seqD, optR, srtOk_pD, if_true, sortD_pD]
noncomputable abbrev mB : Fs := seqB (setB 5 (callS 1 f__law_shape (acons (varS 0) anil)))
    (seqB (ifB (andT (cmpT qLt (lenS (varS 3)) (varS 1)) (cmpT qNotIn (sortedS (varS 5)) (lcCS (.one 6) [6] noIf (sortedS (varS 6)) (varS 3)))) (seqB (exprB (appendS (varS 3) (varS 5)))
    nilB) nilB)
    nilB)
theorem mo_step (c : Cell) (hc : BagC c) (m : Mem) (h0 : m[0]? = some c) (k : Nat) (k0 : k ≠ 0) (ms : List (List Pt)) (hk : m[k]? = some (.lst (ms.map sL))) (most : Nat) (w o4 o5 o6 : Option Sl) (ok : ModOk ms) (hl : ms.length ≤ most) (h5 : most ≤ 5) :
    ∃ m' c' ms' o5', mB [some (.loc 0), some (.v (.int most)), w, some (.loc k), o4, o5, o6] m = .nx [some (.loc 0), some (.v (.int most)), w, some (.loc k), o4, o5', o6] m' ∧ m'[0]? = some c' ∧ BagC c' ∧ m'[k]? = some (.lst (ms'.map sL)) ∧ ModOk ms' ∧ ms'.length ≤ most ∧ m'.length = m.length := by
  obtain ⟨s, c1, e1, hs, hc1⟩ := shape_ok c hc
  have hm0 : 0 < m.length := (List.getElem?_eq_some_iff.mp h0).1
  have hmk : k < m.length := (List.getElem?_eq_some_iff.mp hk).1
  have g0 : (m.set 0 c1)[0]? = some c1 := List.getElem?_set_self hm0
  have gk : (m.set 0 c1)[k]? = some (.lst (ms.map sL)) := by rw [List.getElem?_set_ne (Ne.symm k0)]; exact hk
  have s1 : setB 5 (callS 1 f__law_shape (acons (varS 0) anil)) [some (.loc 0), some (.v (.int most)), w, some (.loc k), o4, o5, o6] m = .nx [some (.loc 0), some (.v (.int most)), w, some (.loc k), o4, some (.v (sL s)), o6] (m.set 0 c1) := by
    simp [callS, lcS, lcGo, itS, seqR, Tg.put, Tg.vs, wipeE, noIf, Dl.locs, renO, pickO, idx, wb, nloc, bSh_ii, eqD_ii, defF, retB, retNB, seqB, setB, newB, parB, asgB, itemB, augB, exprB, ifB, nilB, Oc.bd, Rg.to, Rg.bd, rdR, dr, slR, unl, varS, valS, rd1S, rd2S, addS, addR, subS, subI, mulS, divS, modS, powS, opI, negS, cmpS, cmpT, chainS, chainT, chainR, andS, orS, notS, ifS, valT, andT, orT, notT, isBl, anil, acons, tupS, lstS, frzR, frz, ixS, onone, osome, sliceS, slcR, optR, Rg.nx, lenS, lenD, absS, intS, intOf, allS, anyS, blsR, bls, listS, tupleS, seqD, isiS, isi2S, noOb_non, noOb_bl, noOb_int, noOb_str, noOb_tup, noOb_lst, cellR, appendS, popAtS, popS, insertS, minTS, maxTS, minmaxR, unI, lenSetS, exitR, gn, gsn, gsc, gt, qLt, qLe, qGt, qGe, qEq, qNe, qIn, qNotIn, qIs, qIsNot, qIsB, qIsNotB, bI, fI, bB, eqB, isN, dInt, dBool, dStr, dLst, dTup, litS, litRs, obR, fldS, conS, runA, runM, Dl.runN, Dl.runL, methS, newOb, makeS, obO, intR, strR, blR, lenOS, reprOS, putD, fldB, forEB, forGoE, propS, mixO, lfC, lfM, repS, maxLS, minLS, maxLR, lcCS, lc2S, aconsX, h0, e1, sL]
  refine Exists.imp (fun m' h => h) ?_
  rw [show mB _ m = _ from seqB_nx s1]
  have lc : lcCS (.one 6) [6] noIf (sortedS (varS 6)) (varS 3) [some (.loc 0), some (.v (.int most)), w, some (.loc k), o4, some (.v (sL s)), o6] (m.set 0 c1) = .ok (.nl ((ms.map sortP).map sL)) (m.set 0 c1) := by
    have z := lc_mapC (t := .one 6) (vs := [6]) (env0 := [some (.loc 0), some (.v (.int most)), w, some (.loc k), o4, some (.v (sL s)), o6]) (elt := sortedS (varS 6)) (g := fun d => match d with | .lst ds => .lst (sortD ds) | d => d) (m.set 0 c1) gk (ms.map sL) [] (fun d hd => by
      obtain ⟨t, _, rfl⟩ := List.mem_map.mp hd
      refine ⟨[some (.loc 0), some (.v (.int most)), w, some (.loc k), o4, some (.v (sL s)), some (.v (sL t))], .nl ((sortP t).map pD), rfl, ?_, ?_⟩
      · simp [sortedS, rd1S, varS, Rg.bd, slR, rdR, dr, sorted_sL]
      · simp [unl, sL, sortD_pD]) (by rw [List.length_map]; exact szle _ (by simp; omega))
    unfold lcCS
    simp only [varS, Rg.bd, slR, List.getElem?_cons_succ, List.getElem?_cons_zero, gk]
    rw [z]
    simp [Rg.bd, sL, sortD_pD]
  have hb : bIn (sL (sortP s)) (.lst ((ms.map sortP).map sL)) = true := by
    unfold bIn
    rw [sh_sL]
    show (true && true && sh (.lst ((ms.map sortP).map sL))) = true
    rw [sh_lsL]; rfl
  have nt : cmpT qNotIn (sortedS (varS 5)) (lcCS (.one 6) [6] noIf (sortedS (varS 6)) (varS 3)) [some (.loc 0), some (.v (.int most)), w, some (.loc k), o4, some (.v (sL s)), o6] (m.set 0 c1) = .ok (!decide (sortP s ∈ ms.map sortP)) (m.set 0 c1) := by
    have a1 : sortedS (varS 5) [some (.loc 0), some (.v (.int most)), w, some (.loc k), o4, some (.v (sL s)), o6] (m.set 0 c1) = .ok (.nl ((sortP s).map pD)) (m.set 0 c1) := by
      simp [sortedS, rd1S, varS, Rg.bd, slR, rdR, dr, sorted_sL]
    have hb' : bIn (.lst ((sortP s).map pD)) (.lst ((ms.map sortP).map sL)) = true := hb
    have hi : inD (.lst ((sortP s).map pD)) ((ms.map sortP).map sL) = decide (sortP s ∈ ms.map sortP) := inD_sL _ _
    simp only [cmpT, rd2S, a1, Rg.bd, lc, rdR, dr, qNotIn, hb', if_true, items, hi]
  have hq : ms.length ≤ 100 := by omega
  have cl : cmpT qLt (lenS (varS 3)) (varS 1) [some (.loc 0), some (.v (.int most)), w, some (.loc k), o4, some (.v (sL s)), o6] (m.set 0 c1) = .ok (decide (ms.length < most)) (m.set 0 c1) := by
    simp [callS, lcS, lcGo, itS, seqR, Tg.put, Tg.vs, wipeE, noIf, Dl.locs, renO, pickO, idx, wb, nloc, bSh_ii, eqD_ii, defF, retB, retNB, seqB, setB, newB, parB, asgB, itemB, augB, exprB, ifB, nilB, Oc.bd, Rg.to, Rg.bd, rdR, dr, slR, unl, varS, valS, rd1S, rd2S, addS, addR, subS, subI, mulS, divS, modS, powS, opI, negS, cmpS, cmpT, chainS, chainT, chainR, andS, orS, notS, ifS, valT, andT, orT, notT, isBl, anil, acons, tupS, lstS, frzR, frz, ixS, onone, osome, sliceS, slcR, optR, Rg.nx, lenS, lenD, absS, intS, intOf, allS, anyS, blsR, bls, listS, tupleS, seqD, isiS, isi2S, noOb_non, noOb_bl, noOb_int, noOb_str, noOb_tup, noOb_lst, cellR, appendS, popAtS, popS, insertS, minTS, maxTS, minmaxR, unI, lenSetS, exitR, gn, gsn, gsc, gt, qLt, qLe, qGt, qGe, qEq, qNe, qIn, qNotIn, qIs, qIsNot, qIsB, qIsNotB, bI, fI, bB, eqB, isN, dInt, dBool, dStr, dLst, dTup, litS, litRs, obR, fldS, conS, runA, runM, Dl.runN, Dl.runL, methS, newOb, makeS, obO, intR, strR, blR, lenOS, reprOS, putD, fldB, forEB, forGoE, propS, mixO, lfC, lfM, repS, maxLS, minLS, maxLR, lcCS, lc2S, aconsX, gk]
  have ca : andT (cmpT qLt (lenS (varS 3)) (varS 1)) (cmpT qNotIn (sortedS (varS 5)) (lcCS (.one 6) [6] noIf (sortedS (varS 6)) (varS 3))) [some (.loc 0), some (.v (.int most)), w, some (.loc k), o4, some (.v (sL s)), o6] (m.set 0 c1) = .ok (decide (ms.length < most) && !decide (sortP s ∈ ms.map sortP)) (m.set 0 c1) := by
    unfold andT
    rw [cl]
    simp only [Rg.bd, nt]
    by_cases hlt : ms.length < most <;> simp [hlt]
  have fin : ∀ {x : Oc}, ifB (andT (cmpT qLt (lenS (varS 3)) (varS 1)) (cmpT qNotIn (sortedS (varS 5)) (lcCS (.one 6) [6] noIf (sortedS (varS 6)) (varS 3)))) (seqB (exprB (appendS (varS 3) (varS 5))) nilB) nilB [some (.loc 0), some (.v (.int most)), w, some (.loc k), o4, some (.v (sL s)), o6] (m.set 0 c1) = x → (∃ e' m', x = .nx e' m') → seqB (ifB (andT (cmpT qLt (lenS (varS 3)) (varS 1)) (cmpT qNotIn (sortedS (varS 5)) (lcCS (.one 6) [6] noIf (sortedS (varS 6)) (varS 3)))) (seqB (exprB (appendS (varS 3) (varS 5))) nilB) nilB) nilB [some (.loc 0), some (.v (.int most)), w, some (.loc k), o4, some (.v (sL s)), o6] (m.set 0 c1) = x := by
    rintro x hx ⟨e', m', rfl⟩
    rw [seqB_nx hx]
    rfl
  by_cases hlt : (decide (ms.length < most) && !decide (sortP s ∈ ms.map sortP)) = true
  · have h1 : ms.length < most := by
      rw [Bool.and_eq_true] at hlt; exact of_decide_eq_true hlt.1
    have hin : sortP s ∉ ms.map sortP := by
      rw [Bool.and_eq_true] at hlt; simpa using hlt.2
    have hlk : ms.length < sizeLine := szl _ (by omega)
    have ap : seqB (exprB (appendS (varS 3) (varS 5))) nilB [some (.loc 0), some (.v (.int most)), w, some (.loc k), o4, some (.v (sL s)), o6] (m.set 0 c1) = .nx [some (.loc 0), some (.v (.int most)), w, some (.loc k), o4, some (.v (sL s)), o6] ((m.set 0 c1).set k (.lst ((ms ++ [s]).map sL))) := by
      simp [callS, lcS, lcGo, itS, seqR, Tg.put, Tg.vs, wipeE, noIf, Dl.locs, renO, pickO, idx, wb, nloc, bSh_ii, eqD_ii, defF, retB, retNB, seqB, setB, newB, parB, asgB, itemB, augB, exprB, ifB, nilB, Oc.bd, Rg.to, Rg.bd, rdR, dr, slR, unl, varS, valS, rd1S, rd2S, addS, addR, subS, subI, mulS, divS, modS, powS, opI, negS, cmpS, cmpT, chainS, chainT, chainR, andS, orS, notS, ifS, valT, andT, orT, notT, isBl, anil, acons, tupS, lstS, frzR, frz, ixS, onone, osome, sliceS, slcR, optR, Rg.nx, lenS, lenD, absS, intS, intOf, allS, anyS, blsR, bls, listS, tupleS, seqD, isiS, isi2S, noOb_non, noOb_bl, noOb_int, noOb_str, noOb_tup, noOb_lst, cellR, appendS, popAtS, popS, insertS, minTS, maxTS, minmaxR, unI, lenSetS, exitR, gn, gsn, gsc, gt, qLt, qLe, qGt, qGe, qEq, qNe, qIn, qNotIn, qIs, qIsNot, qIsB, qIsNotB, bI, fI, bB, eqB, isN, dInt, dBool, dStr, dLst, dTup, litS, litRs, obR, fldS, conS, runA, runM, Dl.runN, Dl.runL, methS, newOb, makeS, obO, intR, strR, blR, lenOS, reprOS, putD, fldB, forEB, forGoE, propS, mixO, lfC, lfM, repS, maxLS, minLS, maxLR, lcCS, lc2S, aconsX, gk, hlk]
    refine ⟨(m.set 0 c1).set k (.lst ((ms ++ [s]).map sL)), c1, ms ++ [s], some (.v (sL s)), fin ?_ ⟨_, _, rfl⟩, by rw [List.getElem?_set_ne k0]; exact g0, hc1, List.getElem?_set_self (by rw [List.length_set]; exact hmk), ok.snoc hs hin, by rw [List.length_append]; simp; omega, by rw [List.length_set, List.length_set]⟩
    unfold ifB
    rw [ca, hlt]
    exact ap
  · refine ⟨m.set 0 c1, c1, ms, some (.v (sL s)), fin ?_ ⟨_, _, rfl⟩, g0, hc1, gk, ok, hl, List.length_set⟩
    unfold ifB
    rw [ca, Bool.eq_false_iff.mpr hlt]
    rfl
end Lw
/-! drawn models -/
namespace Lw
open PySem Dl
def dif (a b : List Pt) : Bool := a.any (fun p => !decide (p ∈ b)) || b.any (fun p => !decide (p ∈ a))
theorem dif_ok {a b : List Pt} (h : dif a b = true) : sortP a ≠ sortP b := fun e => by
  have m : ∀ p, p ∈ a ↔ p ∈ b := fun p => by rw [← mem_sortP, e, mem_sortP]
  unfold dif at h
  rcases Bool.or_eq_true_iff.mp h with h | h
  · obtain ⟨p, hp, hn⟩ := List.any_eq_true.mp h
    exact (by simpa using hn : p ∉ b) ((m p).mp hp)
  · obtain ⟨p, hp, hn⟩ := List.any_eq_true.mp h
    exact (by simpa using hn : p ∉ a) ((m p).mpr hp)
def shB? (s : List Pt) : Bool := decide (1 ≤ s.length) && decide (s.length ≤ 4) && decide s.Nodup && s.all fun p => decide (p ∈ near2P)
theorem shB_ok {s : List Pt} (h : shB? s = true) : ShOk s := by
  unfold shB? at h
  simp only [Bool.and_eq_true, decide_eq_true_eq, List.all_eq_true] at h
  exact ⟨h.1.1.1, h.1.1.2, h.1.2, h.2⟩
def pwB : List (List Pt) → Bool
  | [] => true
  | s :: r => r.all (dif s) && pwB r
theorem pwB_ok : ∀ {ms : List (List Pt)}, pwB ms = true → (ms.map sortP).Nodup
  | [], _ => List.nodup_nil
  | s :: r, h => by
    rw [pwB, Bool.and_eq_true, List.all_eq_true] at h
    rw [List.map_cons]
    refine List.nodup_cons.mpr ⟨fun hm => ?_, pwB_ok h.2⟩
    obtain ⟨t, ht, e⟩ := List.mem_map.mp hm
    exact dif_ok (h.1 t ht) e.symm
theorem mod_of {ms : List (List Pt)} (h : (ms.all shB? && pwB ms) = true) : ModOk ms := by
  rw [Bool.and_eq_true, List.all_eq_true] at h
  exact ⟨fun s hs => shB_ok (h.1 s hs), pwB_ok h.2⟩
def M0 : List (List Pt) := [[(1, 0), (0, 1)], [(-1, 0), (0, 1)], [(1, 0), (0, -1)], [(-1, 0), (0, -1)]]
def M1 : List (List Pt) := [[(1, 0), (-1, 0)], [(0, 1), (0, -1)]]
def M2 : List (List Pt) := [[(-1, 0), (-1, 1)], [(0, -1), (1, 1)], [(1, 0)]]
def M3 : List (List Pt) := [[(-1, 0), (0, -1)], [(1, 0), (1, 1)], [(0, 1), (-1, 1)]]
theorem m0_ok : ModOk M0 := mod_of (by decide)
theorem m1_ok : ModOk M1 := mod_of (by decide)
theorem m2_ok : ModOk M2 := mod_of (by decide)
theorem m3_ok : ModOk M3 := mod_of (by decide)
theorem mo_loop (k : Nat) (k0 : k ≠ 0) (most : Nat) (w : Option Sl) (h5 : most ≤ 5) : ∀ (zs : List D) (c : Cell) (hc : BagC c) (m : Mem) (h0 : m[0]? = some c) (ms : List (List Pt)) (hk : m[k]? = some (.lst (ms.map sL))) (o4 o5 o6 : Option Sl) (ok : ModOk ms) (hl : ms.length ≤ most),
    ∃ m' c' ms' o4' o5', forGo (gn 4) mB zs [some (.loc 0), some (.v (.int most)), w, some (.loc k), o4, o5, o6] m = .nx [some (.loc 0), some (.v (.int most)), w, some (.loc k), o4', o5', o6] m' ∧ m'[0]? = some c' ∧ BagC c' ∧ m'[k]? = some (.lst (ms'.map sL)) ∧ ModOk ms' ∧ ms'.length ≤ most ∧ m'.length = m.length
  | [], c, hc, m, h0, ms, hk, o4, o5, o6, ok, hl => ⟨m, c, ms, o4, o5, rfl, h0, hc, hk, ok, hl, rfl⟩
  | z :: zs, c, hc, m, h0, ms, hk, o4, o5, o6, ok, hl => by
    obtain ⟨m1, c1, ms1, o5', e1, a1, a2, a3, a4, a5, a6⟩ := mo_step c hc m h0 k k0 ms hk most w (some (.v z)) o5 o6 ok hl h5
    obtain ⟨m2, c2, ms2, p4, p5, e2, b1, b2, b3, b4, b5, b6⟩ := mo_loop k k0 most w h5 zs c1 a2 m1 a1 ms1 a3 (some (.v z)) o5' o6 a4 a5
    refine ⟨m2, c2, ms2, p4, p5, ?_, b1, b2, b3, b4, b5, b6.trans a6⟩
    rw [forGo]
    simp only [gn, List.set]
    rw [e1]
    exact e2
noncomputable abbrev mT : Fs := seqB (ifB (andT (cmpT qLt (varS 2) (valS (.int 4))) (cmpT qEq (callS 2 f__law_pull (acons (varS 0) (acons (valS (.int 2)) anil))) (valS (.int 0)))) (retB (varS 3)) nilB)
    (seqB (forB (gn 4) (range1S (callS 2 f__law_pull (acons (varS 0) (acons (addS (varS 1) (valS (.int 1))) anil)))) mB)
    (retB (varS 3)))
theorem tail_ok (k : Nat) (k0 : k ≠ 0) (most : Nat) (r : Int) (h5 : most ≤ 5) (c : Cell) (hc : BagC c) (m : Mem) (h0 : m[0]? = some c) (ms : List (List Pt)) (hk : m[k]? = some (.lst (ms.map sL))) (ok : ModOk ms) (hl : ms.length ≤ most) :
    ∃ m' c' ms', mT [some (.loc 0), some (.v (.int most)), some (.v (.int r)), some (.loc k), none, none, none] m = .rt (.loc k) m' ∧ m'[0]? = some c' ∧ BagC c' ∧ m'[k]? = some (.lst (ms'.map sL)) ∧ ModOk ms' ∧ ms'.length ≤ most ∧ m'.length = m.length := by
  have loop : ∀ (c : Cell) (hc : BagC c) (m : Mem) (h0 : m[0]? = some c) (hk : m[k]? = some (.lst (ms.map sL))), ∃ m' c' ms', seqB (forB (gn 4) (range1S (callS 2 f__law_pull (acons (varS 0) (acons (addS (varS 1) (valS (.int 1))) anil)))) mB) (retB (varS 3)) [some (.loc 0), some (.v (.int most)), some (.v (.int r)), some (.loc k), none, none, none] m = .rt (.loc k) m' ∧ m'[0]? = some c' ∧ BagC c' ∧ m'[k]? = some (.lst (ms'.map sL)) ∧ ModOk ms' ∧ ms'.length ≤ most ∧ m'.length = m.length := by
    intro c hc m h0 hk
    obtain ⟨q, c1, e, q0, q1, hc1⟩ := pull_ok ((most : Int) + 1) (amt_small (by omega) (by omega)) c hc
    have hm0 : 0 < m.length := (List.getElem?_eq_some_iff.mp h0).1
    have g0 : (m.set 0 c1)[0]? = some c1 := List.getElem?_set_self hm0
    have gk : (m.set 0 c1)[k]? = some (.lst (ms.map sL)) := by rw [List.getElem?_set_ne (Ne.symm k0)]; exact hk
    obtain ⟨m2, c2, ms2, p4, p5, e2, b1, b2, b3, b4, b5, b6⟩ := mo_loop k k0 most (some (.v (.int r))) h5 (rgD 0 q.toNat) c1 hc1 (m.set 0 c1) g0 ms gk none none none ok hl
    refine ⟨m2, c2, ms2, ?_, b1, b2, b3, b4, b5, by rw [b6, List.length_set]⟩
    have x1 : (-4611686018427387904 : Int) ≤ q := by omega
    have x2 : q < 4611686018427387904 := by omega
    have er : range1S (callS 2 f__law_pull (acons (varS 0) (acons (addS (varS 1) (valS (.int 1))) anil))) [some (.loc 0), some (.v (.int most)), some (.v (.int r)), some (.loc k), none, none, none] m = .ok (rgD 0 q.toNat) (m.set 0 c1) := by
      simp [callS, lcS, lcGo, itS, seqR, Tg.put, Tg.vs, wipeE, noIf, Dl.locs, renO, pickO, idx, wb, nloc, bSh_ii, eqD_ii, defF, retB, retNB, seqB, setB, newB, parB, asgB, itemB, augB, exprB, ifB, nilB, Oc.bd, Rg.to, Rg.bd, rdR, dr, slR, unl, varS, valS, rd1S, rd2S, addS, addR, subS, subI, mulS, divS, modS, powS, opI, negS, cmpS, cmpT, chainS, chainT, chainR, andS, orS, notS, ifS, valT, andT, orT, notT, isBl, anil, acons, tupS, lstS, frzR, frz, ixS, onone, osome, sliceS, slcR, optR, Rg.nx, lenS, lenD, absS, intS, intOf, allS, anyS, blsR, bls, listS, tupleS, seqD, isiS, isi2S, noOb_non, noOb_bl, noOb_int, noOb_str, noOb_tup, noOb_lst, cellR, appendS, popAtS, popS, insertS, minTS, maxTS, minmaxR, unI, lenSetS, exitR, gn, gsn, gsc, gt, qLt, qLe, qGt, qGe, qEq, qNe, qIn, qNotIn, qIs, qIsNot, qIsB, qIsNotB, bI, fI, bB, eqB, isN, dInt, dBool, dStr, dLst, dTup, litS, litRs, obR, fldS, conS, runA, runM, Dl.runN, Dl.runL, methS, newOb, makeS, obO, intR, strR, blR, lenOS, reprOS, putD, fldB, forEB, forGoE, propS, mixO, lfC, lfM, repS, maxLS, minLS, maxLR, lcCS, lc2S, aconsX, range1S, h0, e, x1, x2]
    refine (seqB_nx (e' := [some (.loc 0), some (.v (.int most)), some (.v (.int r)), some (.loc k), p4, p5, none]) (m' := m2) ?_).trans rfl
    unfold forB
    rw [er]
    exact e2
  by_cases hr : r < 4
  · obtain ⟨q, c1, e, q0, q1, hc1⟩ := pull_ok 2 (amt_small (by decide) (by decide)) c hc
    have hm0 : 0 < m.length := (List.getElem?_eq_some_iff.mp h0).1
    have g0 : (m.set 0 c1)[0]? = some c1 := List.getElem?_set_self hm0
    have gk : (m.set 0 c1)[k]? = some (.lst (ms.map sL)) := by rw [List.getElem?_set_ne (Ne.symm k0)]; exact hk
    by_cases hq : q = 0
    · refine ⟨m.set 0 c1, c1, ms, ?_, g0, hc1, gk, ok, hl, List.length_set⟩
      simp [callS, lcS, lcGo, itS, seqR, Tg.put, Tg.vs, wipeE, noIf, Dl.locs, renO, pickO, idx, wb, nloc, bSh_ii, eqD_ii, defF, retB, retNB, seqB, setB, newB, parB, asgB, itemB, augB, exprB, ifB, nilB, Oc.bd, Rg.to, Rg.bd, rdR, dr, slR, unl, varS, valS, rd1S, rd2S, addS, addR, subS, subI, mulS, divS, modS, powS, opI, negS, cmpS, cmpT, chainS, chainT, chainR, andS, orS, notS, ifS, valT, andT, orT, notT, isBl, anil, acons, tupS, lstS, frzR, frz, ixS, onone, osome, sliceS, slcR, optR, Rg.nx, lenS, lenD, absS, intS, intOf, allS, anyS, blsR, bls, listS, tupleS, seqD, isiS, isi2S, noOb_non, noOb_bl, noOb_int, noOb_str, noOb_tup, noOb_lst, cellR, appendS, popAtS, popS, insertS, minTS, maxTS, minmaxR, unI, lenSetS, exitR, gn, gsn, gsc, gt, qLt, qLe, qGt, qGe, qEq, qNe, qIn, qNotIn, qIs, qIsNot, qIsB, qIsNotB, bI, fI, bB, eqB, isN, dInt, dBool, dStr, dLst, dTup, litS, litRs, obR, fldS, conS, runA, runM, Dl.runN, Dl.runL, methS, newOb, makeS, obO, intR, strR, blR, lenOS, reprOS, putD, fldB, forEB, forGoE, propS, mixO, lfC, lfM, repS, maxLS, minLS, maxLR, lcCS, lc2S, aconsX, hr, h0, e, hq]
    · obtain ⟨m2, c2, ms2, e2, b1, b2, b3, b4, b5, b6⟩ := loop c1 hc1 (m.set 0 c1) g0 gk
      refine ⟨m2, c2, ms2, ?_, b1, b2, b3, b4, b5, by rw [b6, List.length_set]⟩
      refine (seqB_nx (m' := m.set 0 c1) ?_).trans e2
      simp [callS, lcS, lcGo, itS, seqR, Tg.put, Tg.vs, wipeE, noIf, Dl.locs, renO, pickO, idx, wb, nloc, bSh_ii, eqD_ii, defF, retB, retNB, seqB, setB, newB, parB, asgB, itemB, augB, exprB, ifB, nilB, Oc.bd, Rg.to, Rg.bd, rdR, dr, slR, unl, varS, valS, rd1S, rd2S, addS, addR, subS, subI, mulS, divS, modS, powS, opI, negS, cmpS, cmpT, chainS, chainT, chainR, andS, orS, notS, ifS, valT, andT, orT, notT, isBl, anil, acons, tupS, lstS, frzR, frz, ixS, onone, osome, sliceS, slcR, optR, Rg.nx, lenS, lenD, absS, intS, intOf, allS, anyS, blsR, bls, listS, tupleS, seqD, isiS, isi2S, noOb_non, noOb_bl, noOb_int, noOb_str, noOb_tup, noOb_lst, cellR, appendS, popAtS, popS, insertS, minTS, maxTS, minmaxR, unI, lenSetS, exitR, gn, gsn, gsc, gt, qLt, qLe, qGt, qGe, qEq, qNe, qIn, qNotIn, qIs, qIsNot, qIsB, qIsNotB, bI, fI, bB, eqB, isN, dInt, dBool, dStr, dLst, dTup, litS, litRs, obR, fldS, conS, runA, runM, Dl.runN, Dl.runL, methS, newOb, makeS, obO, intR, strR, blR, lenOS, reprOS, putD, fldB, forEB, forGoE, propS, mixO, lfC, lfM, repS, maxLS, minLS, maxLR, lcCS, lc2S, aconsX, hr, h0, e, hq]
  · obtain ⟨m2, c2, ms2, e2, b1, b2, b3, b4, b5, b6⟩ := loop c hc m h0 hk
    refine ⟨m2, c2, ms2, ?_, b1, b2, b3, b4, b5, b6⟩
    refine (seqB_nx (m' := m) ?_).trans e2
    simp [callS, lcS, lcGo, itS, seqR, Tg.put, Tg.vs, wipeE, noIf, Dl.locs, renO, pickO, idx, wb, nloc, bSh_ii, eqD_ii, defF, retB, retNB, seqB, setB, newB, parB, asgB, itemB, augB, exprB, ifB, nilB, Oc.bd, Rg.to, Rg.bd, rdR, dr, slR, unl, varS, valS, rd1S, rd2S, addS, addR, subS, subI, mulS, divS, modS, powS, opI, negS, cmpS, cmpT, chainS, chainT, chainR, andS, orS, notS, ifS, valT, andT, orT, notT, isBl, anil, acons, tupS, lstS, frzR, frz, ixS, onone, osome, sliceS, slcR, optR, Rg.nx, lenS, lenD, absS, intS, intOf, allS, anyS, blsR, bls, listS, tupleS, seqD, isiS, isi2S, noOb_non, noOb_bl, noOb_int, noOb_str, noOb_tup, noOb_lst, cellR, appendS, popAtS, popS, insertS, minTS, maxTS, minmaxR, unI, lenSetS, exitR, gn, gsn, gsc, gt, qLt, qLe, qGt, qGe, qEq, qNe, qIn, qNotIn, qIs, qIsNot, qIsB, qIsNotB, bI, fI, bB, eqB, isN, dInt, dBool, dStr, dLst, dTup, litS, litRs, obR, fldS, conS, runA, runM, Dl.runN, Dl.runL, methS, newOb, makeS, obO, intR, strR, blR, lenOS, reprOS, putD, fldB, forEB, forGoE, propS, mixO, lfC, lfM, repS, maxLS, minLS, maxLR, lcCS, lc2S, aconsX, hr]
theorem take1 {m : Mem} {c : Cell} (h : m[0]? = some c) : m.take 1 = [c] := by
  cases m with
  | nil => cases h
  | cons a r => cases h; rfl
theorem cut_to (l : List D) (n : Nat) : cutG l none (some (n : Int)) = l.take n := cut_take l n
noncomputable abbrev mH : Fs := seqB (setB 2 (callS 2 f__law_pull (acons (varS 0) (acons (valS (.int 9)) anil))))
    (seqB (newB 3 (litS (.lst [])))
    (seqB (ifB (cmpT qEq (varS 2) (valS (.int 0))) (seqB (newB 3 (litS (.lst [.lst [.tup [.int 1, .int 0], .tup [.int 0, .int 1]], .lst [.tup [.int (-1), .int 0], .tup [.int 0, .int 1]], .lst [.tup [.int 1, .int 0], .tup [.int 0, .int (-1)]], .lst [.tup [.int (-1), .int 0], .tup [.int 0, .int (-1)]]]))) nilB) nilB)
    (seqB (ifB (cmpT qEq (varS 2) (valS (.int 1))) (seqB (newB 3 (litS (.lst [.lst [.tup [.int 1, .int 0], .tup [.int (-1), .int 0]], .lst [.tup [.int 0, .int 1], .tup [.int 0, .int (-1)]]]))) nilB) nilB)
    (seqB (ifB (cmpT qEq (varS 2) (valS (.int 2))) (seqB (newB 3 (litS (.lst [.lst [.tup [.int (-1), .int 0], .tup [.int (-1), .int 1]], .lst [.tup [.int 0, .int (-1)], .tup [.int 1, .int 1]], .lst [.tup [.int 1, .int 0]]]))) nilB) nilB)
    (seqB (ifB (cmpT qEq (varS 2) (valS (.int 3))) (seqB (newB 3 (litS (.lst [.lst [.tup [.int (-1), .int 0], .tup [.int 0, .int (-1)]], .lst [.tup [.int 1, .int 0], .tup [.int 1, .int 1]], .lst [.tup [.int 0, .int 1], .tup [.int (-1), .int 1]]]))) nilB) nilB)
    (seqB (newB 3 (sliceS (varS 3) onone (osome (varS 1)))) mT))))))
theorem model_eq : f__law_model = defF 7 mH := rfl
theorem model_ok (most : Nat) (h5 : most ≤ 5) (c : Cell) (hc : BagC c) : ∃ ms c', f__law_model [.loc 0, .v (.int most)] [c] = .ok (.nl (ms.map sL)) [c'] ∧ BagC c' ∧ ModOk ms ∧ ms.length ≤ most := by
  obtain ⟨r, c1, e, r0, r1, hc1⟩ := pull_ok 9 (amt_small (by decide) (by decide)) c hc
  have fin : ∀ (k : Nat) (m : Mem) (ms : List (List Pt)), k ≠ 0 → m[0]? = some c1 → m[k]? = some (.lst ((ms.take most).map sL)) → ModOk ms → mH [some (.loc 0), some (.v (.int most)), none, none, none, none, none] [c] = mT [some (.loc 0), some (.v (.int most)), some (.v (.int r)), some (.loc k), none, none, none] m →
      ∃ ms c', f__law_model [.loc 0, .v (.int most)] [c] = .ok (.nl (ms.map sL)) [c'] ∧ BagC c' ∧ ModOk ms ∧ ms.length ≤ most := by
    intro k m ms k0 h0 hk ok eq
    obtain ⟨m2, c2, ms2, e2, b1, b2, b3, b4, b5, b6⟩ := tail_ok k k0 most r h5 c1 hc1 m h0 (ms.take most) hk (ok.take most) (by rw [List.length_take]; omega)
    refine ⟨ms2, c2, ?_, b2, b4, b5⟩
    rw [model_eq, defF_ex (r := .loc k) (m' := m2) (eq.trans e2)]
    unfold exitR
    simp only [List.length_cons, List.length_nil]
    rw [if_neg (by omega), b3]
    simp only [take1 b1]
  have s1 : setB 2 (callS 2 f__law_pull (acons (varS 0) (acons (valS (.int 9)) anil))) [some (.loc 0), some (.v (.int most)), none, none, none, none, none] [c] = .nx [some (.loc 0), some (.v (.int most)), some (.v (.int r)), none, none, none, none] [c1] := by
    simp [callS, lcS, lcGo, itS, seqR, Tg.put, Tg.vs, wipeE, noIf, Dl.locs, renO, pickO, idx, wb, nloc, bSh_ii, eqD_ii, defF, retB, retNB, seqB, setB, newB, parB, asgB, itemB, augB, exprB, ifB, nilB, Oc.bd, Rg.to, Rg.bd, rdR, dr, slR, unl, varS, valS, rd1S, rd2S, addS, addR, subS, subI, mulS, divS, modS, powS, opI, negS, cmpS, cmpT, chainS, chainT, chainR, andS, orS, notS, ifS, valT, andT, orT, notT, isBl, anil, acons, tupS, lstS, frzR, frz, ixS, onone, osome, sliceS, slcR, optR, Rg.nx, lenS, lenD, absS, intS, intOf, allS, anyS, blsR, bls, listS, tupleS, seqD, isiS, isi2S, noOb_non, noOb_bl, noOb_int, noOb_str, noOb_tup, noOb_lst, cellR, appendS, popAtS, popS, insertS, minTS, maxTS, minmaxR, unI, lenSetS, exitR, gn, gsn, gsc, gt, qLt, qLe, qGt, qGe, qEq, qNe, qIn, qNotIn, qIs, qIsNot, qIsB, qIsNotB, bI, fI, bB, eqB, isN, dInt, dBool, dStr, dLst, dTup, litS, litRs, obR, fldS, conS, runA, runM, Dl.runN, Dl.runL, methS, newOb, makeS, obO, intR, strR, blR, lenOS, reprOS, putD, fldB, forEB, forGoE, propS, mixO, lfC, lfM, repS, maxLS, minLS, maxLR, lcCS, lc2S, aconsX, e]
  have s2 : newB 3 (litS (.lst [])) [some (.loc 0), some (.v (.int most)), some (.v (.int r)), none, none, none, none] [c1] = .nx [some (.loc 0), some (.v (.int most)), some (.v (.int r)), some (.loc 1), none, none, none] [c1, .lst []] := by
    simp [callS, lcS, lcGo, itS, seqR, Tg.put, Tg.vs, wipeE, noIf, Dl.locs, renO, pickO, idx, wb, nloc, bSh_ii, eqD_ii, defF, retB, retNB, seqB, setB, newB, parB, asgB, itemB, augB, exprB, ifB, nilB, Oc.bd, Rg.to, Rg.bd, rdR, dr, slR, unl, varS, valS, rd1S, rd2S, addS, addR, subS, subI, mulS, divS, modS, powS, opI, negS, cmpS, cmpT, chainS, chainT, chainR, andS, orS, notS, ifS, valT, andT, orT, notT, isBl, anil, acons, tupS, lstS, frzR, frz, ixS, onone, osome, sliceS, slcR, optR, Rg.nx, lenS, lenD, absS, intS, intOf, allS, anyS, blsR, bls, listS, tupleS, seqD, isiS, isi2S, noOb_non, noOb_bl, noOb_int, noOb_str, noOb_tup, noOb_lst, cellR, appendS, popAtS, popS, insertS, minTS, maxTS, minmaxR, unI, lenSetS, exitR, gn, gsn, gsc, gt, qLt, qLe, qGt, qGe, qEq, qNe, qIn, qNotIn, qIs, qIsNot, qIsB, qIsNotB, bI, fI, bB, eqB, isN, dInt, dBool, dStr, dLst, dTup, litS, litRs, obR, fldS, conS, runA, runM, Dl.runN, Dl.runL, methS, newOb, makeS, obO, intR, strR, blR, lenOS, reprOS, putD, fldB, forEB, forGoE, propS, mixO, lfC, lfM, repS, maxLS, minLS, maxLR, lcCS, lc2S, aconsX]
  have no : ∀ (j : Int) (b : Fs) (k : Nat) (m : Mem), r ≠ j → ifB (cmpT qEq (varS 2) (valS (.int j))) b nilB [some (.loc 0), some (.v (.int most)), some (.v (.int r)), some (.loc k), none, none, none] m = .nx [some (.loc 0), some (.v (.int most)), some (.v (.int r)), some (.loc k), none, none, none] m := by
    intro j b k m h
    simp [callS, lcS, lcGo, itS, seqR, Tg.put, Tg.vs, wipeE, noIf, Dl.locs, renO, pickO, idx, wb, nloc, bSh_ii, eqD_ii, defF, retB, retNB, seqB, setB, newB, parB, asgB, itemB, augB, exprB, ifB, nilB, Oc.bd, Rg.to, Rg.bd, rdR, dr, slR, unl, varS, valS, rd1S, rd2S, addS, addR, subS, subI, mulS, divS, modS, powS, opI, negS, cmpS, cmpT, chainS, chainT, chainR, andS, orS, notS, ifS, valT, andT, orT, notT, isBl, anil, acons, tupS, lstS, frzR, frz, ixS, onone, osome, sliceS, slcR, optR, Rg.nx, lenS, lenD, absS, intS, intOf, allS, anyS, blsR, bls, listS, tupleS, seqD, isiS, isi2S, noOb_non, noOb_bl, noOb_int, noOb_str, noOb_tup, noOb_lst, cellR, appendS, popAtS, popS, insertS, minTS, maxTS, minmaxR, unI, lenSetS, exitR, gn, gsn, gsc, gt, qLt, qLe, qGt, qGe, qEq, qNe, qIn, qNotIn, qIs, qIsNot, qIsB, qIsNotB, bI, fI, bB, eqB, isN, dInt, dBool, dStr, dLst, dTup, litS, litRs, obR, fldS, conS, runA, runM, Dl.runN, Dl.runL, methS, newOb, makeS, obO, intR, strR, blR, lenOS, reprOS, putD, fldB, forEB, forGoE, propS, mixO, lfC, lfM, repS, maxLS, minLS, maxLR, lcCS, lc2S, aconsX, h]
  have yes : ∀ (j : Int) (l : List (List Pt)) (d : D) (m : Mem), r = j → d = .lst (l.map sL) → m = [c1, .lst []] → ifB (cmpT qEq (varS 2) (valS (.int j))) (seqB (newB 3 (litS d)) nilB) nilB [some (.loc 0), some (.v (.int most)), some (.v (.int r)), some (.loc 1), none, none, none] m = .nx [some (.loc 0), some (.v (.int most)), some (.v (.int r)), some (.loc 2), none, none, none] [c1, .lst [], .lst (l.map sL)] := by
    intro j l d m h hd hm
    subst hd
    subst hm
    simp [callS, lcS, lcGo, itS, seqR, Tg.put, Tg.vs, wipeE, noIf, Dl.locs, renO, pickO, idx, wb, nloc, bSh_ii, eqD_ii, defF, retB, retNB, seqB, setB, newB, parB, asgB, itemB, augB, exprB, ifB, nilB, Oc.bd, Rg.to, Rg.bd, rdR, dr, slR, unl, varS, valS, rd1S, rd2S, addS, addR, subS, subI, mulS, divS, modS, powS, opI, negS, cmpS, cmpT, chainS, chainT, chainR, andS, orS, notS, ifS, valT, andT, orT, notT, isBl, anil, acons, tupS, lstS, frzR, frz, ixS, onone, osome, sliceS, slcR, optR, Rg.nx, lenS, lenD, absS, intS, intOf, allS, anyS, blsR, bls, listS, tupleS, seqD, isiS, isi2S, noOb_non, noOb_bl, noOb_int, noOb_str, noOb_tup, noOb_lst, cellR, appendS, popAtS, popS, insertS, minTS, maxTS, minmaxR, unI, lenSetS, exitR, gn, gsn, gsc, gt, qLt, qLe, qGt, qGe, qEq, qNe, qIn, qNotIn, qIs, qIsNot, qIsB, qIsNotB, bI, fI, bB, eqB, isN, dInt, dBool, dStr, dLst, dTup, litS, litRs, obR, fldS, conS, runA, runM, Dl.runN, Dl.runL, methS, newOb, makeS, obO, intR, strR, blR, lenOS, reprOS, putD, fldB, forEB, forGoE, propS, mixO, lfC, lfM, repS, maxLS, minLS, maxLR, lcCS, lc2S, aconsX, h]
  have sl2 : ∀ (l : List (List Pt)), newB 3 (sliceS (varS 3) onone (osome (varS 1))) [some (.loc 0), some (.v (.int most)), some (.v (.int r)), some (.loc 2), none, none, none] [c1, .lst [], .lst (l.map sL)] = .nx [some (.loc 0), some (.v (.int most)), some (.v (.int r)), some (.loc 3), none, none, none] [c1, .lst [], .lst (l.map sL), .lst ((l.take most).map sL)] := by
    intro l
    have z := cut_to (l.map sL) most
    simp [callS, lcS, lcGo, itS, seqR, Tg.put, Tg.vs, wipeE, noIf, Dl.locs, renO, pickO, idx, wb, nloc, bSh_ii, eqD_ii, defF, retB, retNB, seqB, setB, newB, parB, asgB, itemB, augB, exprB, ifB, nilB, Oc.bd, Rg.to, Rg.bd, rdR, dr, slR, unl, varS, valS, rd1S, rd2S, addS, addR, subS, subI, mulS, divS, modS, powS, opI, negS, cmpS, cmpT, chainS, chainT, chainR, andS, orS, notS, ifS, valT, andT, orT, notT, isBl, anil, acons, tupS, lstS, frzR, frz, ixS, onone, osome, sliceS, slcR, optR, Rg.nx, lenS, lenD, absS, intS, intOf, allS, anyS, blsR, bls, listS, tupleS, seqD, isiS, isi2S, noOb_non, noOb_bl, noOb_int, noOb_str, noOb_tup, noOb_lst, cellR, appendS, popAtS, popS, insertS, minTS, maxTS, minmaxR, unI, lenSetS, exitR, gn, gsn, gsc, gt, qLt, qLe, qGt, qGe, qEq, qNe, qIn, qNotIn, qIs, qIsNot, qIsB, qIsNotB, bI, fI, bB, eqB, isN, dInt, dBool, dStr, dLst, dTup, litS, litRs, obR, fldS, conS, runA, runM, Dl.runN, Dl.runL, methS, newOb, makeS, obO, intR, strR, blR, lenOS, reprOS, putD, fldB, forEB, forGoE, propS, mixO, lfC, lfM, repS, maxLS, minLS, maxLR, lcCS, lc2S, aconsX, z, List.map_take]
  have sl1 : newB 3 (sliceS (varS 3) onone (osome (varS 1))) [some (.loc 0), some (.v (.int most)), some (.v (.int r)), some (.loc 1), none, none, none] [c1, .lst []] = .nx [some (.loc 0), some (.v (.int most)), some (.v (.int r)), some (.loc 2), none, none, none] [c1, .lst [], .lst []] := by
    have z := cut_to ([] : List D) most
    simp [callS, lcS, lcGo, itS, seqR, Tg.put, Tg.vs, wipeE, noIf, Dl.locs, renO, pickO, idx, wb, nloc, bSh_ii, eqD_ii, defF, retB, retNB, seqB, setB, newB, parB, asgB, itemB, augB, exprB, ifB, nilB, Oc.bd, Rg.to, Rg.bd, rdR, dr, slR, unl, varS, valS, rd1S, rd2S, addS, addR, subS, subI, mulS, divS, modS, powS, opI, negS, cmpS, cmpT, chainS, chainT, chainR, andS, orS, notS, ifS, valT, andT, orT, notT, isBl, anil, acons, tupS, lstS, frzR, frz, ixS, onone, osome, sliceS, slcR, optR, Rg.nx, lenS, lenD, absS, intS, intOf, allS, anyS, blsR, bls, listS, tupleS, seqD, isiS, isi2S, noOb_non, noOb_bl, noOb_int, noOb_str, noOb_tup, noOb_lst, cellR, appendS, popAtS, popS, insertS, minTS, maxTS, minmaxR, unI, lenSetS, exitR, gn, gsn, gsc, gt, qLt, qLe, qGt, qGe, qEq, qNe, qIn, qNotIn, qIs, qIsNot, qIsB, qIsNotB, bI, fI, bB, eqB, isN, dInt, dBool, dStr, dLst, dTup, litS, litRs, obR, fldS, conS, runA, runM, Dl.runN, Dl.runL, methS, newOb, makeS, obO, intR, strR, blR, lenOS, reprOS, putD, fldB, forEB, forGoE, propS, mixO, lfC, lfM, repS, maxLS, minLS, maxLR, lcCS, lc2S, aconsX, z]
  by_cases h0 : r = 0
  · exact fin 3 _ M0 (by decide) rfl rfl m0_ok ((seqB_nx s1).trans ((seqB_nx s2).trans ((seqB_nx (yes 0 M0 _ _ h0 rfl rfl)).trans ((seqB_nx (no 1 _ 2 _ (by omega))).trans ((seqB_nx (no 2 _ 2 _ (by omega))).trans ((seqB_nx (no 3 _ 2 _ (by omega))).trans ((seqB_nx (sl2 M0)))))))))
  by_cases h1 : r = 1
  · exact fin 3 _ M1 (by decide) rfl rfl m1_ok ((seqB_nx s1).trans ((seqB_nx s2).trans ((seqB_nx (no 0 _ 1 _ h0)).trans ((seqB_nx (yes 1 M1 _ _ h1 rfl rfl)).trans ((seqB_nx (no 2 _ 2 _ (by omega))).trans ((seqB_nx (no 3 _ 2 _ (by omega))).trans ((seqB_nx (sl2 M1)))))))))
  by_cases h2 : r = 2
  · exact fin 3 _ M2 (by decide) rfl rfl m2_ok ((seqB_nx s1).trans ((seqB_nx s2).trans ((seqB_nx (no 0 _ 1 _ h0)).trans ((seqB_nx (no 1 _ 1 _ h1)).trans ((seqB_nx (yes 2 M2 _ _ h2 rfl rfl)).trans ((seqB_nx (no 3 _ 2 _ (by omega))).trans ((seqB_nx (sl2 M2)))))))))
  by_cases h3 : r = 3
  · exact fin 3 _ M3 (by decide) rfl rfl m3_ok ((seqB_nx s1).trans ((seqB_nx s2).trans ((seqB_nx (no 0 _ 1 _ h0)).trans ((seqB_nx (no 1 _ 1 _ h1)).trans ((seqB_nx (no 2 _ 1 _ h2)).trans ((seqB_nx (yes 3 M3 _ _ h3 rfl rfl)).trans ((seqB_nx (sl2 M3)))))))))
  exact fin 2 _ [] (by decide) rfl (by simp) ⟨by simp, by simp⟩ ((seqB_nx s1).trans ((seqB_nx s2).trans ((seqB_nx (no 0 _ 1 _ h0)).trans ((seqB_nx (no 1 _ 1 _ h1)).trans ((seqB_nx (no 2 _ 1 _ h2)).trans ((seqB_nx (no 3 _ 1 _ h3)).trans ((seqB_nx sl1))))))))
end Lw
/-! shapes as the program takes them -/
namespace Lw
open PySem Dl
theorem n_is_listed (d : D) (h : noOb d = true) (m : Mem) : f_is_listed [.v d] m = .ok (.v (.bl (dLst d || dTup d))) m := by
  cases d <;> first | (cases (show false = true from h)) | (simp [f_is_listed, callS, lcS, lcGo, itS, seqR, Tg.put, Tg.vs, wipeE, noIf, Dl.locs, renO, pickO, idx, wb, nloc, bSh_ii, eqD_ii, defF, retB, retNB, seqB, setB, newB, parB, asgB, itemB, augB, exprB, ifB, nilB, Oc.bd, Rg.to, Rg.bd, rdR, dr, slR, unl, varS, valS, rd1S, rd2S, addS, addR, subS, subI, mulS, divS, modS, powS, opI, negS, cmpS, cmpT, chainS, chainT, chainR, andS, orS, notS, ifS, valT, andT, orT, notT, isBl, anil, acons, tupS, lstS, frzR, frz, ixS, onone, osome, sliceS, slcR, optR, Rg.nx, lenS, lenD, absS, intS, intOf, allS, anyS, blsR, bls, listS, tupleS, seqD, isiS, isi2S, noOb_non, noOb_bl, noOb_int, noOb_str, noOb_tup, noOb_lst, cellR, appendS, popAtS, popS, insertS, minTS, maxTS, minmaxR, unI, lenSetS, exitR, gn, gsn, gsc, gt, qLt, qLe, qGt, qGe, qEq, qNe, qIn, qNotIn, qIs, qIsNot, qIsB, qIsNotB, bI, fI, bB, eqB, isN, dInt, dBool, dStr, dLst, dTup, litS, litRs, obR, fldS, conS, runA, runM, Dl.runN, Dl.runL, methS, newOb, makeS, obO, intR, strR, blR, lenOS, reprOS, putD, fldB, forEB, forGoE, propS, mixO, lfC, lfM, repS, maxLS, minLS, maxLR, lcCS, lc2S, aconsX])
def isNear : D → Bool
  | .tup [.int x, .int y] => !(x == 0 && y == 0) && (decide (-2 ≤ x) && decide (x ≤ 2) && (decide (-2 ≤ y) && decide (y ≤ 2)))
  | _ => false
theorem isNear_no {d : D} (h : isCell d = false) : isNear d = false := by
  unfold isNear
  split
  · cases h
  · rfl
theorem n_is_within (x lo hi : Int) : f_is_within [.v (.int x), .v (.int lo), .v (.int hi)] [] = .ok (.v (.bl (decide (lo ≤ x) && decide (x ≤ hi)))) [] := by
  have e := n_is_number (.int x) rfl []
  have e2 : isNum (.int x) = true := rfl
  rw [e2] at e
  by_cases h : lo ≤ x <;> simp [f_is_within, callS, lcS, lcGo, itS, seqR, Tg.put, Tg.vs, wipeE, noIf, Dl.locs, renO, pickO, idx, wb, nloc, bSh_ii, eqD_ii, defF, retB, retNB, seqB, setB, newB, parB, asgB, itemB, augB, exprB, ifB, nilB, Oc.bd, Rg.to, Rg.bd, rdR, dr, slR, unl, varS, valS, rd1S, rd2S, addS, addR, subS, subI, mulS, divS, modS, powS, opI, negS, cmpS, cmpT, chainS, chainT, chainR, andS, orS, notS, ifS, valT, andT, orT, notT, isBl, anil, acons, tupS, lstS, frzR, frz, ixS, onone, osome, sliceS, slcR, optR, Rg.nx, lenS, lenD, absS, intS, intOf, allS, anyS, blsR, bls, listS, tupleS, seqD, isiS, isi2S, noOb_non, noOb_bl, noOb_int, noOb_str, noOb_tup, noOb_lst, cellR, appendS, popAtS, popS, insertS, minTS, maxTS, minmaxR, unI, lenSetS, exitR, gn, gsn, gsc, gt, qLt, qLe, qGt, qGe, qEq, qNe, qIn, qNotIn, qIs, qIsNot, qIsB, qIsNotB, bI, fI, bB, eqB, isN, dInt, dBool, dStr, dLst, dTup, litS, litRs, obR, fldS, conS, runA, runM, Dl.runN, Dl.runL, methS, newOb, makeS, obO, intR, strR, blR, lenOS, reprOS, putD, fldB, forEB, forGoE, propS, mixO, lfC, lfM, repS, maxLS, minLS, maxLR, lcCS, lc2S, aconsX, e, h]
theorem n_is_near (d : D) (h : sh d = true) : f_is_near [.v d] [] = .ok (.v (.bl (isNear d))) [] := by
  cases e : isCell d with
  | false => simp [f_is_near, callS, lcS, lcGo, itS, seqR, Tg.put, Tg.vs, wipeE, noIf, Dl.locs, renO, pickO, idx, wb, nloc, bSh_ii, eqD_ii, defF, retB, retNB, seqB, setB, newB, parB, asgB, itemB, augB, exprB, ifB, nilB, Oc.bd, Rg.to, Rg.bd, rdR, dr, slR, unl, varS, valS, rd1S, rd2S, addS, addR, subS, subI, mulS, divS, modS, powS, opI, negS, cmpS, cmpT, chainS, chainT, chainR, andS, orS, notS, ifS, valT, andT, orT, notT, isBl, anil, acons, tupS, lstS, frzR, frz, ixS, onone, osome, sliceS, slcR, optR, Rg.nx, lenS, lenD, absS, intS, intOf, allS, anyS, blsR, bls, listS, tupleS, seqD, isiS, isi2S, noOb_non, noOb_bl, noOb_int, noOb_str, noOb_tup, noOb_lst, cellR, appendS, popAtS, popS, insertS, minTS, maxTS, minmaxR, unI, lenSetS, exitR, gn, gsn, gsc, gt, qLt, qLe, qGt, qGe, qEq, qNe, qIn, qNotIn, qIs, qIsNot, qIsB, qIsNotB, bI, fI, bB, eqB, isN, dInt, dBool, dStr, dLst, dTup, litS, litRs, obR, fldS, conS, runA, runM, Dl.runN, Dl.runL, methS, newOb, makeS, obO, intR, strR, blR, lenOS, reprOS, putD, fldB, forEB, forGoE, propS, mixO, lfC, lfM, repS, maxLS, minLS, maxLR, lcCS, lc2S, aconsX, n_is_cell, h, e, isNear_no e]
  | true =>
    obtain ⟨x, y, rfl⟩ := isCell_inv e
    by_cases hz : x = 0 ∧ y = 0
    · obtain ⟨rfl, rfl⟩ := hz
      simp [f_is_near, callS, lcS, lcGo, itS, seqR, Tg.put, Tg.vs, wipeE, noIf, Dl.locs, renO, pickO, idx, wb, nloc, bSh_ii, eqD_ii, defF, retB, retNB, seqB, setB, newB, parB, asgB, itemB, augB, exprB, ifB, nilB, Oc.bd, Rg.to, Rg.bd, rdR, dr, slR, unl, varS, valS, rd1S, rd2S, addS, addR, subS, subI, mulS, divS, modS, powS, opI, negS, cmpS, cmpT, chainS, chainT, chainR, andS, orS, notS, ifS, valT, andT, orT, notT, isBl, anil, acons, tupS, lstS, frzR, frz, ixS, onone, osome, sliceS, slcR, optR, Rg.nx, lenS, lenD, absS, intS, intOf, allS, anyS, blsR, bls, listS, tupleS, seqD, isiS, isi2S, noOb_non, noOb_bl, noOb_int, noOb_str, noOb_tup, noOb_lst, cellR, appendS, popAtS, popS, insertS, minTS, maxTS, minmaxR, unI, lenSetS, exitR, gn, gsn, gsc, gt, qLt, qLe, qGt, qGe, qEq, qNe, qIn, qNotIn, qIs, qIsNot, qIsB, qIsNotB, bI, fI, bB, eqB, isN, dInt, dBool, dStr, dLst, dTup, litS, litRs, obR, fldS, conS, runA, runM, Dl.runN, Dl.runL, methS, newOb, makeS, obO, intR, strR, blR, lenOS, reprOS, putD, fldB, forEB, forGoE, propS, mixO, lfC, lfM, repS, maxLS, minLS, maxLR, lcCS, lc2S, aconsX, n_is_cell, h, e, isNear, g_ORIGIN, bSh_cell, eqD_cell]
    · have hz2 : (x == 0 && y == 0) = false := by simp; exact fun a b => hz ⟨a, b⟩
      have hs := szl 0 (by decide)
      have hs1 := szl 1 (by decide)
      simp [f_is_near, callS, lcS, lcGo, itS, seqR, Tg.put, Tg.vs, wipeE, noIf, Dl.locs, renO, pickO, idx, wb, nloc, bSh_ii, eqD_ii, defF, retB, retNB, seqB, setB, newB, parB, asgB, itemB, augB, exprB, ifB, nilB, Oc.bd, Rg.to, Rg.bd, rdR, dr, slR, unl, varS, valS, rd1S, rd2S, addS, addR, subS, subI, mulS, divS, modS, powS, opI, negS, cmpS, cmpT, chainS, chainT, chainR, andS, orS, notS, ifS, valT, andT, orT, notT, isBl, anil, acons, tupS, lstS, frzR, frz, ixS, onone, osome, sliceS, slcR, optR, Rg.nx, lenS, lenD, absS, intS, intOf, allS, anyS, blsR, bls, listS, tupleS, seqD, isiS, isi2S, noOb_non, noOb_bl, noOb_int, noOb_str, noOb_tup, noOb_lst, cellR, appendS, popAtS, popS, insertS, minTS, maxTS, minmaxR, unI, lenSetS, exitR, gn, gsn, gsc, gt, qLt, qLe, qGt, qGe, qEq, qNe, qIn, qNotIn, qIs, qIsNot, qIsB, qIsNotB, bI, fI, bB, eqB, isN, dInt, dBool, dStr, dLst, dTup, litS, litRs, obR, fldS, conS, runA, runM, Dl.runN, Dl.runL, methS, newOb, makeS, obO, intR, strR, blR, lenOS, reprOS, putD, fldB, forEB, forGoE, propS, mixO, lfC, lfM, repS, maxLS, minLS, maxLR, lcCS, lc2S, aconsX, n_is_cell, h, e, isNear, g_ORIGIN, g_REACH, bSh_cell, eqD_cell, hz2, n_is_within, hs, hs1]
theorem unTs_pairs : ∀ ps : List (Int × Int), unTs (ps.map pD) = some (ps.map fun p => [p.1, p.2])
  | [] => rfl
  | p :: ps => by
    rw [List.map_cons, List.map_cons, pD, unTs, unTs_pairs ps]
    rfl
theorem near_pairs : ∀ ds : List D, ds.all isNear = true → ∃ ps : List (Int × Int), ds = ps.map pD
  | [], _ => ⟨[], rfl⟩
  | d :: ds, h => by
    rw [List.all_cons, Bool.and_eq_true] at h
    obtain ⟨ps, e⟩ := near_pairs ds h.2
    cases q : isCell d with
    | false => rw [isNear_no q] at h; cases h.1
    | true =>
      obtain ⟨x, y, rfl⟩ := isCell_inv q
      exact ⟨(x, y) :: ps, by rw [e]; rfl⟩
def keys (ds : List D) : List (List Int) := (unTs ds).getD []
def isShL (ds : List D) : Bool := decide (1 ≤ ds.length) && decide (ds.length ≤ 4) && (ds.all isNear && decide ((keys ds).Nodup))
def isShape (d : D) : Bool := match seqD d with
  | some ds => isShL ds
  | none => false
theorem all_id {α : Type} (f : α → Bool) (l : List α) : (l.map f).all id = l.all f := by rw [List.all_map]; rfl
theorem bls_map2 (f : D → Bool) (ds : List D) : bls (ds.map fun d => .bl (f d)) = some (ds.map f) := by
  rw [← bls_map (ds.map f), List.map_map]; rfl
theorem sh_lst {xs : List D} (h : sh (.lst xs) = true) : ∀ x ∈ xs, sh x = true := sh_tup (xs := xs) (by
  unfold sh SeqAt.shaped at h ⊢
  rw [toPy] at h
  rw [PyData.canLay0, PyData.depth] at h
  rw [toPy]
  rw [PyData.canLay0, PyData.depth]
  exact h)
theorem lenset_e (ds : List D) (h : ds.all isNear = true) (hl : ds.length ≤ 4) : ∃ ks, unTs ds = some ks ∧ ks.length = ds.length ∧ keys ds = ks := by
  obtain ⟨ps, rfl⟩ := near_pairs ds h
  exact ⟨_, unTs_pairs ps, by rw [List.length_map, List.length_map], by unfold keys; rw [unTs_pairs]; rfl⟩
theorem near_all (env : Envt) (hv : 2 ≤ env.length) (ds : List D) (hx : ∀ x ∈ ds, sh x = true) (hl : ds.length ≤ 4) : lcGo (.one 1) [1] env noIf (callS 1 f_is_near (acons (varS 1) anil)) ds [] [] = .ok (ds.map fun d => .bl (isNear d)) [] := by
  refine lc_map (g := fun d => .bl (isNear d)) [] ds [] (fun d hd => ?_) (by rw [List.length_nil]; exact szle _ (by omega))
  refine ⟨_, rfl, ?_⟩
  have hn := n_is_near d (hx d hd)
  have he : ((wipeE env [1]).set 1 (some (.v d)))[1]? = some (some (.v d)) := by
    rw [List.getElem?_set_self]
    show 1 < (wipeE env [1]).length
    show 1 < ((wipeE env []).set 1 none).length
    rw [List.length_set]; exact hv
  simp [callS, acons, anil, varS, he, Rg.bd, slR, unl, Dl.locs, renO, pickO, optR, hn, nloc, wb]
theorem n_is_shape (d : D) (h : sh d = true) : f_is_shape [.v d] [] = .ok (.v (.bl (isShape d))) [] := by
  have hno := sh_noOb h
  have key : ∀ ds : List D, (∀ x ∈ ds, sh x = true) → (d = .lst ds ∨ d = .tup ds) → f_is_shape [.v d] [] = .ok (.v (.bl (isShL ds))) [] := by
    intro ds hx hd
    have hs : seqD d = some ds := by rcases hd with rfl | rfl <;> rfl
    have hl : lenD d = some ds.length := by rcases hd with rfl | rfl <;> rfl
    have hi := n_is_listed d hno []
    have hi2 : (dLst d || dTup d) = true := by rcases hd with rfl | rfl <;> rfl
    rw [hi2] at hi
    have hit : seqR (.v d) [] = .ok ds [] := by rcases hd with rfl | rfl <;> rfl
    have hg : g_MOST_CELLS = .int 4 := rfl
    by_cases h1 : 1 ≤ ds.length
    · have h1' : (1 : Int) ≤ (ds.length : Int) := by omega
      by_cases h4 : ds.length ≤ 4
      · have h4' : (ds.length : Int) ≤ 4 := by omega
        have hall := near_all [some (.v d), none] (by simp) ds hx h4
        have hb := bls_map2 isNear ds
        have hid := all_id isNear ds
        cases q : ds.all isNear with
        | false =>
          rw [q] at hid
          have hr : isShL ds = false := by unfold isShL; rw [q]; simp
          rw [hr]
          rcases hd with rfl | rfl <;> simp [f_is_shape, callS, lcS, lcGo, itS, seqR, Tg.put, Tg.vs, wipeE, noIf, Dl.locs, renO, pickO, idx, wb, nloc, bSh_ii, eqD_ii, defF, retB, retNB, seqB, setB, newB, parB, asgB, itemB, augB, exprB, ifB, nilB, Oc.bd, Rg.to, Rg.bd, rdR, dr, slR, unl, varS, valS, rd1S, rd2S, addS, addR, subS, subI, mulS, divS, modS, powS, opI, negS, cmpS, cmpT, chainS, chainT, chainR, andS, orS, notS, ifS, valT, andT, orT, notT, isBl, anil, acons, tupS, lstS, frzR, frz, ixS, onone, osome, sliceS, slcR, optR, Rg.nx, lenS, lenD, absS, intS, intOf, allS, anyS, blsR, bls, listS, tupleS, seqD, isiS, isi2S, noOb_non, noOb_bl, noOb_int, noOb_str, noOb_tup, noOb_lst, cellR, appendS, popAtS, popS, insertS, minTS, maxTS, minmaxR, unI, lenSetS, exitR, gn, gsn, gsc, gt, qLt, qLe, qGt, qGe, qEq, qNe, qIn, qNotIn, qIs, qIsNot, qIsB, qIsNotB, bI, fI, bB, eqB, isN, dInt, dBool, dStr, dLst, dTup, litS, litRs, obR, fldS, conS, runA, runM, Dl.runN, Dl.runL, methS, newOb, makeS, obO, intR, strR, blR, lenOS, reprOS, putD, fldB, forEB, forGoE, propS, mixO, lfC, lfM, repS, maxLS, minLS, maxLR, lcCS, lc2S, aconsX, hi, hg, h1', h4', hall, hb, hid]
        | true =>
          rw [q] at hid
          obtain ⟨ks, k1, k2, k3⟩ := lenset_e ds q h4
          have k4 : ks.length < 64 := by omega
          have hr : isShL ds = decide (((ddL ks).length : Int) = (ds.length : Int)) := by
            unfold isShL
            rw [q, k3, decide_eq_true h1, decide_eq_true h4]
            have := ddL_len ks
            simp only [Bool.true_and, decide_eq_decide]
            rw [← this, k2]
            omega
          rw [hr]
          rcases hd with rfl | rfl <;> simp [f_is_shape, callS, lcS, lcGo, itS, seqR, Tg.put, Tg.vs, wipeE, noIf, Dl.locs, renO, pickO, idx, wb, nloc, bSh_ii, eqD_ii, defF, retB, retNB, seqB, setB, newB, parB, asgB, itemB, augB, exprB, ifB, nilB, Oc.bd, Rg.to, Rg.bd, rdR, dr, slR, unl, varS, valS, rd1S, rd2S, addS, addR, subS, subI, mulS, divS, modS, powS, opI, negS, cmpS, cmpT, chainS, chainT, chainR, andS, orS, notS, ifS, valT, andT, orT, notT, isBl, anil, acons, tupS, lstS, frzR, frz, ixS, onone, osome, sliceS, slcR, optR, Rg.nx, lenS, lenD, absS, intS, intOf, allS, anyS, blsR, bls, listS, tupleS, seqD, isiS, isi2S, noOb_non, noOb_bl, noOb_int, noOb_str, noOb_tup, noOb_lst, cellR, appendS, popAtS, popS, insertS, minTS, maxTS, minmaxR, unI, lenSetS, exitR, gn, gsn, gsc, gt, qLt, qLe, qGt, qGe, qEq, qNe, qIn, qNotIn, qIs, qIsNot, qIsB, qIsNotB, bI, fI, bB, eqB, isN, dInt, dBool, dStr, dLst, dTup, litS, litRs, obR, fldS, conS, runA, runM, Dl.runN, Dl.runL, methS, newOb, makeS, obO, intR, strR, blR, lenOS, reprOS, putD, fldB, forEB, forGoE, propS, mixO, lfC, lfM, repS, maxLS, minLS, maxLR, lcCS, lc2S, aconsX, hi, hg, h1', h4', hall, hb, hid, k1, k4, bSh_ii, eqD_ii]
      · have h4' : ¬ (ds.length : Int) ≤ 4 := by omega
        have hr : isShL ds = false := by unfold isShL; rw [decide_eq_false h4]; simp
        rw [hr]
        rcases hd with rfl | rfl <;> simp [f_is_shape, callS, lcS, lcGo, itS, seqR, Tg.put, Tg.vs, wipeE, noIf, Dl.locs, renO, pickO, idx, wb, nloc, bSh_ii, eqD_ii, defF, retB, retNB, seqB, setB, newB, parB, asgB, itemB, augB, exprB, ifB, nilB, Oc.bd, Rg.to, Rg.bd, rdR, dr, slR, unl, varS, valS, rd1S, rd2S, addS, addR, subS, subI, mulS, divS, modS, powS, opI, negS, cmpS, cmpT, chainS, chainT, chainR, andS, orS, notS, ifS, valT, andT, orT, notT, isBl, anil, acons, tupS, lstS, frzR, frz, ixS, onone, osome, sliceS, slcR, optR, Rg.nx, lenS, lenD, absS, intS, intOf, allS, anyS, blsR, bls, listS, tupleS, seqD, isiS, isi2S, noOb_non, noOb_bl, noOb_int, noOb_str, noOb_tup, noOb_lst, cellR, appendS, popAtS, popS, insertS, minTS, maxTS, minmaxR, unI, lenSetS, exitR, gn, gsn, gsc, gt, qLt, qLe, qGt, qGe, qEq, qNe, qIn, qNotIn, qIs, qIsNot, qIsB, qIsNotB, bI, fI, bB, eqB, isN, dInt, dBool, dStr, dLst, dTup, litS, litRs, obR, fldS, conS, runA, runM, Dl.runN, Dl.runL, methS, newOb, makeS, obO, intR, strR, blR, lenOS, reprOS, putD, fldB, forEB, forGoE, propS, mixO, lfC, lfM, repS, maxLS, minLS, maxLR, lcCS, lc2S, aconsX, hi, hg, h1', h4']
    · have h1' : ¬ (1 : Int) ≤ (ds.length : Int) := by omega
      have hr : isShL ds = false := by unfold isShL; rw [decide_eq_false h1]; simp
      rw [hr]
      rcases hd with rfl | rfl <;> simp [f_is_shape, callS, lcS, lcGo, itS, seqR, Tg.put, Tg.vs, wipeE, noIf, Dl.locs, renO, pickO, idx, wb, nloc, bSh_ii, eqD_ii, defF, retB, retNB, seqB, setB, newB, parB, asgB, itemB, augB, exprB, ifB, nilB, Oc.bd, Rg.to, Rg.bd, rdR, dr, slR, unl, varS, valS, rd1S, rd2S, addS, addR, subS, subI, mulS, divS, modS, powS, opI, negS, cmpS, cmpT, chainS, chainT, chainR, andS, orS, notS, ifS, valT, andT, orT, notT, isBl, anil, acons, tupS, lstS, frzR, frz, ixS, onone, osome, sliceS, slcR, optR, Rg.nx, lenS, lenD, absS, intS, intOf, allS, anyS, blsR, bls, listS, tupleS, seqD, isiS, isi2S, noOb_non, noOb_bl, noOb_int, noOb_str, noOb_tup, noOb_lst, cellR, appendS, popAtS, popS, insertS, minTS, maxTS, minmaxR, unI, lenSetS, exitR, gn, gsn, gsc, gt, qLt, qLe, qGt, qGe, qEq, qNe, qIn, qNotIn, qIs, qIsNot, qIsB, qIsNotB, bI, fI, bB, eqB, isN, dInt, dBool, dStr, dLst, dTup, litS, litRs, obR, fldS, conS, runA, runM, Dl.runN, Dl.runL, methS, newOb, makeS, obO, intR, strR, blR, lenOS, reprOS, putD, fldB, forEB, forGoE, propS, mixO, lfC, lfM, repS, maxLS, minLS, maxLR, lcCS, lc2S, aconsX, hi, hg, h1']
  have hi := n_is_listed d hno []
  cases d with
  | lst ds => exact key ds (sh_lst h) (.inl rfl)
  | tup ds => exact key ds (sh_tup h) (.inr rfl)
  | _ => first | (cases (show false = true from hno)) | (simp [f_is_shape, callS, lcS, lcGo, itS, seqR, Tg.put, Tg.vs, wipeE, noIf, Dl.locs, renO, pickO, idx, wb, nloc, bSh_ii, eqD_ii, defF, retB, retNB, seqB, setB, newB, parB, asgB, itemB, augB, exprB, ifB, nilB, Oc.bd, Rg.to, Rg.bd, rdR, dr, slR, unl, varS, valS, rd1S, rd2S, addS, addR, subS, subI, mulS, divS, modS, powS, opI, negS, cmpS, cmpT, chainS, chainT, chainR, andS, orS, notS, ifS, valT, andT, orT, notT, isBl, anil, acons, tupS, lstS, frzR, frz, ixS, onone, osome, sliceS, slcR, optR, Rg.nx, lenS, lenD, absS, intS, intOf, allS, anyS, blsR, bls, listS, tupleS, seqD, isiS, isi2S, noOb_non, noOb_bl, noOb_int, noOb_str, noOb_tup, noOb_lst, cellR, appendS, popAtS, popS, insertS, minTS, maxTS, minmaxR, unI, lenSetS, exitR, gn, gsn, gsc, gt, qLt, qLe, qGt, qGe, qEq, qNe, qIn, qNotIn, qIs, qIsNot, qIsB, qIsNotB, bI, fI, bB, eqB, isN, dInt, dBool, dStr, dLst, dTup, litS, litRs, obR, fldS, conS, runA, runM, Dl.runN, Dl.runL, methS, newOb, makeS, obO, intR, strR, blR, lenOS, reprOS, putD, fldB, forEB, forGoE, propS, mixO, lfC, lfM, repS, maxLS, minLS, maxLR, lcCS, lc2S, aconsX, dLst, dTup] at hi ⊢; simp [hi, isShape, seqD])
theorem near_pD {p : Pt} (h : p ∈ near2P) : isNear (pD p) = true := by
  have : ∀ p ∈ near2P, isNear (pD p) = true := by decide
  exact this p h
theorem keys_pD (s : List Pt) : keys (s.map pD) = s.map kP := by
  unfold keys
  rw [unTs_pairs]
  rfl
theorem nodup_kP {s : List Pt} (h : s.Nodup) : (s.map kP).Nodup := by
  rw [List.nodup_iff_pairwise_ne, List.pairwise_map]
  exact (List.nodup_iff_pairwise_ne.mp h).imp fun h e => h (kP_inj e)
theorem isShL_ok {s : List Pt} (h : ShOk s) : isShL (s.map pD) = true := by
  unfold isShL
  rw [keys_pD, List.length_map, decide_eq_true h.l1, decide_eq_true h.l4, decide_eq_true (nodup_kP h.nd)]
  have : (s.map pD).all isNear = true := by
    rw [List.all_map, List.all_eq_true]
    intro p hp
    exact near_pD (h.near p hp)
  rw [this]; rfl
theorem n_sh_L {s : List Pt} (h : ShOk s) : f_is_shape [.v (sL s)] [] = .ok (.v (.bl true)) [] := by
  rw [n_is_shape (sL s) (sh_sL s)]
  show (Rg.ok (Rs.v (.bl (isShL (s.map pD)))) [] : Rg Rs) = _
  rw [isShL_ok h]
end Lw
/-! a Book is made -/
namespace Lw
open PySem Dl
theorem for_inv {g : Fg} {body : Fs} (I : Envt → Prop) (m : Mem) : ∀ (ds : List D) (env : Envt), I env → (∀ d ∈ ds, ∀ env, I env → ∃ e1 e2, g d env = some e1 ∧ body e1 m = .nx e2 m ∧ I e2) → ∃ e2, forGo g body ds env m = .nx e2 m ∧ I e2
  | [], env, h, _ => ⟨env, rfl, h⟩
  | d :: ds, env, h, hs => by
    obtain ⟨e1, e2, a, b, c⟩ := hs d List.mem_cons_self env h
    obtain ⟨e3, x, y⟩ := for_inv I m ds e2 c fun z hz => hs z (List.mem_cons_of_mem _ hz)
    refine ⟨e3, ?_, y⟩
    rw [forGo, a]
    simp only [b]
    exact x
theorem mem_enum {l : List D} {d : D} (h : d ∈ enumD l) : ∃ (i : Nat) (x : D), d = .tup [.int (i : Int), x] ∧ l[i]? = some x := by
  unfold enumD at h
  obtain ⟨p, hp, rfl⟩ := List.mem_map.mp h
  obtain ⟨x, i⟩ := p
  refine ⟨i, x, rfl, ?_⟩
  have := List.mem_zipIdx_iff_getElem?.mp hp
  simpa using this
def bookD (ms : List (List Pt)) : D := .ob "Book" [("held", .tup ((ms.map sortP).map sT))]
noncomputable abbrev bk1 : Fs := seqB (ifB (notT (valT (callS 1 f_is_shape (acons (varS 4) anil)))) (raiseB "InvalidShape" 1 mk_InvalidShape (acons (varS 3) anil)) nilB) nilB
noncomputable abbrev bk2 : Fs := seqB (ifB (cmpT qIn (varS 4) (sliceS (varS 5) onone (osome (varS 3)))) (raiseB "DuplicateShape" 1 mk_DuplicateShape (acons (varS 3) anil)) nilB) nilB
theorem bk_loop1 (a g : Sl) (m : Mem) (l : List D) (h : ∀ d ∈ l, f_is_shape [.v d] [] = .ok (.v (.bl true)) []) (o3 o4 o5 : Option Sl) : ∃ p3 p4, forGo (gt 2 (gsc (gn 3) (gsc (gn 4) gsn))) bk1 (enumD l) [some (.loc 0), some a, some g, o3, o4, o5] m = .nx [some (.loc 0), some a, some g, p3, p4, o5] m := by
  obtain ⟨e2, x, p3, p4, rfl⟩ := for_inv (g := gt 2 (gsc (gn 3) (gsc (gn 4) gsn))) (body := bk1) (fun e => ∃ p3 p4, e = [some (.loc 0), some a, some g, p3, p4, o5]) m (enumD l) _ ⟨o3, o4, rfl⟩ (fun d hd env ⟨q3, q4, he⟩ => by
    subst he
    obtain ⟨i, y, rfl, hy⟩ := mem_enum hd
    have hs := h y (List.mem_of_getElem? hy)
    refine ⟨[some (.loc 0), some a, some g, some (.v (.int i)), some (.v y), o5], [some (.loc 0), some a, some g, some (.v (.int i)), some (.v y), o5], ?_, ?_, _, _, rfl⟩
    · simp [gt, gsc, gn, gsn]
    · simp [callS, lcS, lcGo, itS, seqR, Tg.put, Tg.vs, wipeE, noIf, Dl.locs, renO, pickO, idx, wb, nloc, bSh_ii, eqD_ii, defF, retB, retNB, seqB, setB, newB, parB, asgB, itemB, augB, exprB, ifB, nilB, Oc.bd, Rg.to, Rg.bd, rdR, dr, slR, unl, varS, valS, rd1S, rd2S, addS, addR, subS, subI, mulS, divS, modS, powS, opI, negS, cmpS, cmpT, chainS, chainT, chainR, andS, orS, notS, ifS, valT, andT, orT, notT, isBl, anil, acons, tupS, lstS, frzR, frz, ixS, onone, osome, sliceS, slcR, optR, Rg.nx, lenS, lenD, absS, intS, intOf, allS, anyS, blsR, bls, listS, tupleS, seqD, isiS, isi2S, noOb_non, noOb_bl, noOb_int, noOb_str, noOb_tup, noOb_lst, cellR, appendS, popAtS, popS, insertS, minTS, maxTS, minmaxR, unI, lenSetS, exitR, gn, gsn, gsc, gt, qLt, qLe, qGt, qGe, qEq, qNe, qIn, qNotIn, qIs, qIsNot, qIsB, qIsNotB, bI, fI, bB, eqB, isN, dInt, dBool, dStr, dLst, dTup, litS, litRs, obR, fldS, conS, runA, runM, Dl.runN, Dl.runL, methS, newOb, makeS, obO, intR, strR, blR, lenOS, reprOS, putD, fldB, forEB, forGoE, propS, mixO, lfC, lfM, repS, maxLS, minLS, maxLR, lcCS, lc2S, aconsX, hs])
  exact ⟨p3, p4, x⟩
theorem nd_take {ss : List (List Pt)} (h : ss.Nodup) {i : Nat} {s : List Pt} (e : ss[i]? = some s) : s ∉ ss.take i := fun hm => by
  obtain ⟨j, hj, e2⟩ := List.mem_iff_getElem.mp hm
  rw [List.length_take] at hj
  rw [List.getElem_take] at e2
  have hi := (List.getElem?_eq_some_iff.mp e).1
  have := (List.getElem?_inj (i := j) (j := i) (by omega) h).mp (by rw [e, List.getElem?_eq_getElem (by omega), e2])
  omega
theorem bk_loop2 (a g : Sl) (m : Mem) (ss : List (List Pt)) (nd : ss.Nodup) (o3 o4 : Option Sl) : ∃ p3 p4, forGo (gt 2 (gsc (gn 3) (gsc (gn 4) gsn))) bk2 (enumD (ss.map sT)) [some (.loc 0), some a, some g, o3, o4, some (.v (.lst (ss.map sT)))] m = .nx [some (.loc 0), some a, some g, p3, p4, some (.v (.lst (ss.map sT)))] m := by
  obtain ⟨e2, x, p3, p4, rfl⟩ := for_inv (g := gt 2 (gsc (gn 3) (gsc (gn 4) gsn))) (body := bk2) (fun e => ∃ p3 p4, e = [some (.loc 0), some a, some g, p3, p4, some (.v (.lst (ss.map sT)))]) m (enumD (ss.map sT)) _ ⟨o3, o4, rfl⟩ (fun d hd env ⟨q3, q4, he⟩ => by
    subst he
    obtain ⟨i, y, rfl, hy⟩ := mem_enum hd
    rw [List.getElem?_map] at hy
    cases e : ss[i]? with
    | none => rw [e] at hy; cases hy
    | some s =>
      rw [e] at hy
      cases hy
      refine ⟨[some (.loc 0), some a, some g, some (.v (.int i)), some (.v (sT s)), some (.v (.lst (ss.map sT)))], [some (.loc 0), some a, some g, some (.v (.int i)), some (.v (sT s)), some (.v (.lst (ss.map sT)))], ?_, ?_, _, _, rfl⟩
      · simp [gt, gsc, gn, gsn]
      · have hc : cutG (ss.map sT) none (some (i : Int)) = (ss.take i).map sT := by rw [cut_to, List.map_take]
        have hb : bIn (sT s) (.lst ((ss.take i).map sT)) = true := by
          unfold bIn
          rw [sh_sT]
          show (true && true && sh (.lst ((ss.take i).map sT))) = true
          rw [sh_lsT]; rfl
        have hi : inD (sT s) ((ss.take i).map sT) = false := by
          rw [inD_sT, decide_eq_false (nd_take nd e)]
        have hh : cmpT qIn (varS 4) (sliceS (varS 5) onone (osome (varS 3))) [some (.loc 0), some a, some g, some (.v (.int i)), some (.v (sT s)), some (.v (.lst (ss.map sT)))] m = .ok false m := by
          have h1 : sliceS (varS 5) onone (osome (varS 3)) [some (.loc 0), some a, some g, some (.v (.int i)), some (.v (sT s)), some (.v (.lst (ss.map sT)))] m = .ok (.nl ((ss.take i).map sT)) m := by
            simp [callS, lcS, lcGo, itS, seqR, Tg.put, Tg.vs, wipeE, noIf, Dl.locs, renO, pickO, idx, wb, nloc, bSh_ii, eqD_ii, defF, retB, retNB, seqB, setB, newB, parB, asgB, itemB, augB, exprB, ifB, nilB, Oc.bd, Rg.to, Rg.bd, rdR, dr, slR, unl, varS, valS, rd1S, rd2S, addS, addR, subS, subI, mulS, divS, modS, powS, opI, negS, cmpS, cmpT, chainS, chainT, chainR, andS, orS, notS, ifS, valT, andT, orT, notT, isBl, anil, acons, tupS, lstS, frzR, frz, ixS, onone, osome, sliceS, slcR, optR, Rg.nx, lenS, lenD, absS, intS, intOf, allS, anyS, blsR, bls, listS, tupleS, seqD, isiS, isi2S, noOb_non, noOb_bl, noOb_int, noOb_str, noOb_tup, noOb_lst, cellR, appendS, popAtS, popS, insertS, minTS, maxTS, minmaxR, unI, lenSetS, exitR, gn, gsn, gsc, gt, qLt, qLe, qGt, qGe, qEq, qNe, qIn, qNotIn, qIs, qIsNot, qIsB, qIsNotB, bI, fI, bB, eqB, isN, dInt, dBool, dStr, dLst, dTup, litS, litRs, obR, fldS, conS, runA, runM, Dl.runN, Dl.runL, methS, newOb, makeS, obO, intR, strR, blR, lenOS, reprOS, putD, fldB, forEB, forGoE, propS, mixO, lfC, lfM, repS, maxLS, minLS, maxLR, lcCS, lc2S, aconsX, hc]
          have h2 : varS 4 [some (.loc 0), some a, some g, some (.v (.int i)), some (.v (sT s)), some (.v (.lst (ss.map sT)))] m = .ok (.v (sT s)) m := rfl
          simp only [cmpT, rd2S, h1, h2, Rg.bd, rdR, dr, qIn, hb, if_true, items, hi]
        unfold bk2 seqB ifB
        rw [hh]
        rfl)
  exact ⟨p3, p4, x⟩
/-- shapes as lists or as tuples -/
structure ShF (f : List Pt → D) : Prop where
  sq : ∀ s, seqD (f s) = some (s.map pD)
  ok : ∀ {s}, ShOk s → f_is_shape [.v (f s)] [] = .ok (.v (.bl true)) []
theorem shf_L : ShF sL := ⟨fun _ => rfl, n_sh_L⟩
theorem init_ok {f : List Pt → D} (F : ShF f) (ms : List (List Pt)) (ok : ModOk ms) (h5 : ms.length ≤ 5) (arg : D) (ha : seqD arg = some (ms.map f)) : f_Book___init__ [.loc 0, .v arg] [.ob "Book" []] = .ok (.v .non) [.ob "Book" [("held", .tup ((ms.map sortP).map sT))]] := by
  obtain ⟨p3, p4, e1⟩ := bk_loop1 (.v arg) (.v (.lst (ms.map f))) [.ob "Book" []] (ms.map f) (fun d hd => by
    obtain ⟨s, hs, rfl⟩ := List.mem_map.mp hd
    exact F.ok (ok.sh s hs)) none none none
  obtain ⟨q3, q4, e2⟩ := bk_loop2 (.v arg) (.v (.lst (ms.map f))) [.ob "Book" []] (ms.map sortP) ok.nd p3 p4
  have lc : lcS (.one 4) [4] noIf (tupleS (sortedS (varS 4))) (itS (varS 2)) [some (.loc 0), some (.v arg), some (.v (.lst (ms.map f))), p3, p4, none] [.ob "Book" []] = .ok (.nl ((ms.map sortP).map sT)) [.ob "Book" []] := by
    have z := lc_mapR (t := .one 4) (vs := [4]) (env0 := [some (.loc 0), some (.v arg), some (.v (.lst (ms.map f))), p3, p4, none]) (elt := tupleS (sortedS (varS 4))) (g := fun d => .tup (sortD ((seqD d).getD []))) [.ob "Book" []] (ms.map f) [] (fun d hd => by
      obtain ⟨s, _, rfl⟩ := List.mem_map.mp hd
      refine ⟨[some (.loc 0), some (.v arg), some (.v (.lst (ms.map f))), p3, some (.v (f s)), none], .v (sT (sortP s)), rfl, ?_, ?_⟩
      · have a1 : sortedS (varS 4) [some (.loc 0), some (.v arg), some (.v (.lst (ms.map f))), p3, some (.v (f s)), none] [.ob "Book" []] = .ok (.nl ((sortP s).map pD)) [.ob "Book" []] := by
          simp [sortedS, rd1S, varS, Rg.bd, slR, rdR, dr, sortedR, F.sq, optR, srtOk_pD, sortD_pD]
        simp [tupleS, rd1S, a1, Rg.bd, rdR, dr, seqD, optR, sT]
      · simp [unl, F.sq, sT, sortD_pD]) (by rw [List.length_map]; exact szle _ (by simp; omega))
    unfold lcS
    have hi : itS (varS 2) [some (.loc 0), some (.v arg), some (.v (.lst (ms.map f))), p3, p4, none] [.ob "Book" []] = .ok (ms.map f) [.ob "Book" []] := by simp [callS, lcS, lcGo, itS, seqR, Tg.put, Tg.vs, wipeE, noIf, Dl.locs, renO, pickO, idx, wb, nloc, bSh_ii, eqD_ii, defF, retB, retNB, seqB, setB, newB, parB, asgB, itemB, augB, exprB, ifB, nilB, Oc.bd, Rg.to, Rg.bd, rdR, dr, slR, unl, varS, valS, rd1S, rd2S, addS, addR, subS, subI, mulS, divS, modS, powS, opI, negS, cmpS, cmpT, chainS, chainT, chainR, andS, orS, notS, ifS, valT, andT, orT, notT, isBl, anil, acons, tupS, lstS, frzR, frz, ixS, onone, osome, sliceS, slcR, optR, Rg.nx, lenS, lenD, absS, intS, intOf, allS, anyS, blsR, bls, listS, tupleS, seqD, isiS, isi2S, noOb_non, noOb_bl, noOb_int, noOb_str, noOb_tup, noOb_lst, cellR, appendS, popAtS, popS, insertS, minTS, maxTS, minmaxR, unI, lenSetS, exitR, gn, gsn, gsc, gt, qLt, qLe, qGt, qGe, qEq, qNe, qIn, qNotIn, qIs, qIsNot, qIsB, qIsNotB, bI, fI, bB, eqB, isN, dInt, dBool, dStr, dLst, dTup, litS, litRs, obR, fldS, conS, runA, runM, Dl.runN, Dl.runL, methS, newOb, makeS, obO, intR, strR, blR, lenOS, reprOS, putD, fldB, forEB, forGoE, propS, mixO, lfC, lfM, repS, maxLS, minLS, maxLR, lcCS, lc2S, aconsX]
    rw [hi]
    simp only [Rg.bd]
    rw [z]
    simp [F.sq, sT, sortD_pD]
  have c5 : ¬ (5 : Int) < (ms.length : Int) := by omega
  have s1 : ∀ (k : Fs), seqB (setB 2 (listS (varS 1))) k [some (.loc 0), some (.v arg), none, none, none, none] [.ob "Book" []] = k [some (.loc 0), some (.v arg), some (.v (.lst (ms.map f))), none, none, none] [.ob "Book" []] := fun k => seqB_nx (by
    have : listS (varS 1) [some (.loc 0), some (.v arg), none, none, none, none] [.ob "Book" []] = .ok (.nl (ms.map f)) [.ob "Book" []] := by
      simp [listS, rd1S, varS, Rg.bd, slR, rdR, dr, ha, optR]
    unfold setB
    rw [this]
    rfl)
  have s2 : ∀ (k : Fs), seqB (ifB (cmpT qGt (lenS (varS 2)) (conS [("Book", (.int 5))] "MOST" (varS 0))) (raiseB "TooMany" 1 mk_TooMany (acons (conS [("Book", (.int 5))] "MOST" (varS 0)) anil)) nilB) k [some (.loc 0), some (.v arg), some (.v (.lst (ms.map f))), none, none, none] [.ob "Book" []] = k [some (.loc 0), some (.v arg), some (.v (.lst (ms.map f))), none, none, none] [.ob "Book" []] := fun k => seqB_nx (by simp [callS, lcS, lcGo, itS, seqR, Tg.put, Tg.vs, wipeE, noIf, Dl.locs, renO, pickO, idx, wb, nloc, bSh_ii, eqD_ii, defF, retB, retNB, seqB, setB, newB, parB, asgB, itemB, augB, exprB, ifB, nilB, Oc.bd, Rg.to, Rg.bd, rdR, dr, slR, unl, varS, valS, rd1S, rd2S, addS, addR, subS, subI, mulS, divS, modS, powS, opI, negS, cmpS, cmpT, chainS, chainT, chainR, andS, orS, notS, ifS, valT, andT, orT, notT, isBl, anil, acons, tupS, lstS, frzR, frz, ixS, onone, osome, sliceS, slcR, optR, Rg.nx, lenS, lenD, absS, intS, intOf, allS, anyS, blsR, bls, listS, tupleS, seqD, isiS, isi2S, noOb_non, noOb_bl, noOb_int, noOb_str, noOb_tup, noOb_lst, cellR, appendS, popAtS, popS, insertS, minTS, maxTS, minmaxR, unI, lenSetS, exitR, gn, gsn, gsc, gt, qLt, qLe, qGt, qGe, qEq, qNe, qIn, qNotIn, qIs, qIsNot, qIsB, qIsNotB, bI, fI, bB, eqB, isN, dInt, dBool, dStr, dLst, dTup, litS, litRs, obR, fldS, conS, runA, runM, Dl.runN, Dl.runL, methS, newOb, makeS, obO, intR, strR, blR, lenOS, reprOS, putD, fldB, forEB, forGoE, propS, mixO, lfC, lfM, repS, maxLS, minLS, maxLR, lcCS, lc2S, aconsX, c5])
  have s3 : ∀ (k : Fs), seqB (forB (gt 2 (gsc (gn 3) (gsc (gn 4) gsn))) (enumS (varS 2)) bk1) k [some (.loc 0), some (.v arg), some (.v (.lst (ms.map f))), none, none, none] [.ob "Book" []] = k [some (.loc 0), some (.v arg), some (.v (.lst (ms.map f))), p3, p4, none] [.ob "Book" []] := fun k => seqB_nx (by
    unfold forB
    have : enumS (varS 2) [some (.loc 0), some (.v arg), some (.v (.lst (ms.map f))), none, none, none] [.ob "Book" []] = .ok (enumD (ms.map f)) [.ob "Book" []] := rfl
    rw [this]
    exact e1)
  have s4 : ∀ (k : Fs), seqB (setB 5 (lcS (.one 4) [4] noIf (tupleS (sortedS (varS 4))) (itS (varS 2)))) k [some (.loc 0), some (.v arg), some (.v (.lst (ms.map f))), p3, p4, none] [.ob "Book" []] = k [some (.loc 0), some (.v arg), some (.v (.lst (ms.map f))), p3, p4, some (.v (.lst ((ms.map sortP).map sT)))] [.ob "Book" []] := fun k => seqB_nx (by
    unfold setB
    rw [lc]
    rfl)
  have s5 : ∀ (k : Fs), seqB (forB (gt 2 (gsc (gn 3) (gsc (gn 4) gsn))) (enumS (varS 5)) bk2) k [some (.loc 0), some (.v arg), some (.v (.lst (ms.map f))), p3, p4, some (.v (.lst ((ms.map sortP).map sT)))] [.ob "Book" []] = k [some (.loc 0), some (.v arg), some (.v (.lst (ms.map f))), q3, q4, some (.v (.lst ((ms.map sortP).map sT)))] [.ob "Book" []] := fun k => seqB_nx (by
    unfold forB
    have : enumS (varS 5) [some (.loc 0), some (.v arg), some (.v (.lst (ms.map f))), p3, p4, some (.v (.lst ((ms.map sortP).map sT)))] [.ob "Book" []] = .ok (enumD ((ms.map sortP).map sT)) [.ob "Book" []] := rfl
    rw [this]
    exact e2)
  have s6 : seqB (fldB ["Book"] "held" (varS 0) (tupleS (varS 5))) nilB [some (.loc 0), some (.v arg), some (.v (.lst (ms.map f))), q3, q4, some (.v (.lst ((ms.map sortP).map sT)))] [.ob "Book" []] = .nx [some (.loc 0), some (.v arg), some (.v (.lst (ms.map f))), q3, q4, some (.v (.lst ((ms.map sortP).map sT)))] [.ob "Book" [("held", .tup ((ms.map sortP).map sT))]] := by
    simp [callS, lcS, lcGo, itS, seqR, Tg.put, Tg.vs, wipeE, noIf, Dl.locs, renO, pickO, idx, wb, nloc, bSh_ii, eqD_ii, defF, retB, retNB, seqB, setB, newB, parB, asgB, itemB, augB, exprB, ifB, nilB, Oc.bd, Rg.to, Rg.bd, rdR, dr, slR, unl, varS, valS, rd1S, rd2S, addS, addR, subS, subI, mulS, divS, modS, powS, opI, negS, cmpS, cmpT, chainS, chainT, chainR, andS, orS, notS, ifS, valT, andT, orT, notT, isBl, anil, acons, tupS, lstS, frzR, frz, ixS, onone, osome, sliceS, slcR, optR, Rg.nx, lenS, lenD, absS, intS, intOf, allS, anyS, blsR, bls, listS, tupleS, seqD, isiS, isi2S, noOb_non, noOb_bl, noOb_int, noOb_str, noOb_tup, noOb_lst, cellR, appendS, popAtS, popS, insertS, minTS, maxTS, minmaxR, unI, lenSetS, exitR, gn, gsn, gsc, gt, qLt, qLe, qGt, qGe, qEq, qNe, qIn, qNotIn, qIs, qIsNot, qIsB, qIsNotB, bI, fI, bB, eqB, isN, dInt, dBool, dStr, dLst, dTup, litS, litRs, obR, fldS, conS, runA, runM, Dl.runN, Dl.runL, methS, newOb, makeS, obO, intR, strR, blR, lenOS, reprOS, putD, fldB, forEB, forGoE, propS, mixO, lfC, lfM, repS, maxLS, minLS, maxLR, lcCS, lc2S, aconsX]
  show defF 6 _ _ _ = _
  unfold defF
  show (match seqB (setB 2 (listS (varS 1))) _ [some (.loc 0), some (.v arg), none, none, none, none] [.ob "Book" []] with | .nx _ m1 => _ | .rt r m1 => _ | .ex c fs m1 => _ | _ => _) = _
  rw [s1, s2, s3, s4, s5, s6]
  rfl
end Lw
/-! books told; opener -/
namespace Lw
open PySem Dl
def Bd (p : Pt) : Prop := p.1.natAbs < 2 ^ 100 ∧ p.2.natAbs < 2 ^ 100
theorem mul_bd {x y : Int} (hx : x.natAbs < 2 ^ 100) (hy : y.natAbs < 2 ^ 100) : mulI x y = some (x * y) := by
  unfold mulI
  rw [if_pos]
  have a := log2_lt' (by decide) hx
  have b := log2_lt' (by decide) hy
  show _ + _ < 1000000
  omega
def dot (a b : Pt) : Int := a.1 * b.1 + a.2 * b.2
theorem near_bd {p : Pt} (h : p ∈ near2P) : Bd p := by
  have : ∀ p ∈ near2P, p.1.natAbs ≤ 2 ∧ p.2.natAbs ≤ 2 := by decide
  have := this p h
  exact ⟨Nat.lt_of_le_of_lt this.1 (by decide), Nat.lt_of_le_of_lt this.2 (by decide)⟩
theorem n_product (a b : Pt) (ha : Bd a) (hb : Bd b) (m : Mem) : f_product [.v (pD a), .v (pD b)] m = .ok (.v (.int (dot a b))) m := by
  have e1 := mul_bd ha.1 hb.1
  have e2 := mul_bd ha.2 hb.2
  simp [f_product, callS, lcS, lcGo, itS, seqR, Tg.put, Tg.vs, wipeE, noIf, Dl.locs, renO, pickO, idx, wb, nloc, bSh_ii, eqD_ii, defF, retB, retNB, seqB, setB, newB, parB, asgB, itemB, augB, exprB, ifB, nilB, Oc.bd, Rg.to, Rg.bd, rdR, dr, slR, unl, varS, valS, rd1S, rd2S, addS, addR, subS, subI, mulS, divS, modS, powS, opI, negS, cmpS, cmpT, chainS, chainT, chainR, andS, orS, notS, ifS, valT, andT, orT, notT, isBl, anil, acons, tupS, lstS, frzR, frz, ixS, onone, osome, sliceS, slcR, optR, Rg.nx, lenS, lenD, absS, intS, intOf, allS, anyS, blsR, bls, listS, tupleS, seqD, isiS, isi2S, noOb_non, noOb_bl, noOb_int, noOb_str, noOb_tup, noOb_lst, cellR, appendS, popAtS, popS, insertS, minTS, maxTS, minmaxR, unI, lenSetS, exitR, gn, gsn, gsc, gt, qLt, qLe, qGt, qGe, qEq, qNe, qIn, qNotIn, qIs, qIsNot, qIsB, qIsNotB, bI, fI, bB, eqB, isN, dInt, dBool, dStr, dLst, dTup, litS, litRs, obR, fldS, conS, runA, runM, Dl.runN, Dl.runL, methS, newOb, makeS, obO, intR, strR, blR, lenOS, reprOS, putD, fldB, forEB, forGoE, propS, mixO, lfC, lfM, repS, maxLS, minLS, maxLR, lcCS, lc2S, aconsX, pD, ixD, L2.atI, L2.ixN, e1, e2, dot, at0, at1]
def opn (u : Pt) (s : List Pt) : Bool := s.all fun p => decide (dot p u < 0)
theorem n_opens {f : List Pt → D} (F : ShF f) (s : List Pt) (u : Pt) (hs : ∀ p ∈ s, Bd p) (hl : s.length ≤ 100) (hu : Bd u) : f_opens [.v (f s), .v (pD u)] [] = .ok (.v (.bl (opn u s))) [] := by
  have z := lc_mapR (t := .one 2) (vs := [2]) (env0 := [some (.v (f s)), some (.v (pD u)), none]) (elt := cmpS qLt (callS 2 f_product (acons (varS 2) (acons (varS 1) anil))) (valS (.int 0))) (g := fun d => match d with | .tup [.int x, .int y] => .bl (decide (dot (x, y) u < 0)) | _ => .non) [] (s.map pD) [] (fun d hd => by
    obtain ⟨p, hp, rfl⟩ := List.mem_map.mp hd
    refine ⟨[some (.v (f s)), some (.v (pD u)), some (.v (pD p))], .v (.bl (decide (dot p u < 0))), rfl, ?_, rfl⟩
    have hq := n_product p u (hs p hp) hu []
    simp [callS, lcS, lcGo, itS, seqR, Tg.put, Tg.vs, wipeE, noIf, Dl.locs, renO, pickO, idx, wb, nloc, bSh_ii, eqD_ii, defF, retB, retNB, seqB, setB, newB, parB, asgB, itemB, augB, exprB, ifB, nilB, Oc.bd, Rg.to, Rg.bd, rdR, dr, slR, unl, varS, valS, rd1S, rd2S, addS, addR, subS, subI, mulS, divS, modS, powS, opI, negS, cmpS, cmpT, chainS, chainT, chainR, andS, orS, notS, ifS, valT, andT, orT, notT, isBl, anil, acons, tupS, lstS, frzR, frz, ixS, onone, osome, sliceS, slcR, optR, Rg.nx, lenS, lenD, absS, intS, intOf, allS, anyS, blsR, bls, listS, tupleS, seqD, isiS, isi2S, noOb_non, noOb_bl, noOb_int, noOb_str, noOb_tup, noOb_lst, cellR, appendS, popAtS, popS, insertS, minTS, maxTS, minmaxR, unI, lenSetS, exitR, gn, gsn, gsc, gt, qLt, qLe, qGt, qGe, qEq, qNe, qIn, qNotIn, qIs, qIsNot, qIsB, qIsNotB, bI, fI, bB, eqB, isN, dInt, dBool, dStr, dLst, dTup, litS, litRs, obR, fldS, conS, runA, runM, Dl.runN, Dl.runL, methS, newOb, makeS, obO, intR, strR, blR, lenOS, reprOS, putD, fldB, forEB, forGoE, propS, mixO, lfC, lfM, repS, maxLS, minLS, maxLR, lcCS, lc2S, aconsX, hq]) (by rw [List.length_map]; exact szle _ (by simp; omega))
  have hi : itS (varS 0) [some (.v (f s)), some (.v (pD u)), none] [] = .ok (s.map pD) [] := by
    have := F.sq s
    cases e : f s <;> rw [e] at this <;> simp [seqD] at this <;> simp [itS, varS, Rg.bd, slR, seqR, unl, e, this]
  have hb : bls ((s.map pD).map fun d => match d with | .tup [.int x, .int y] => D.bl (decide (dot (x, y) u < 0)) | _ => .non) = some (s.map fun p => decide (dot p u < 0)) := by
    rw [← bls_map, List.map_map, List.map_map]
    rfl
  have hl : lcS (.one 2) [2] noIf (cmpS qLt (callS 2 f_product (acons (varS 2) (acons (varS 1) anil))) (valS (.int 0))) (itS (varS 0)) [some (.v (f s)), some (.v (pD u)), none] [] = .ok (.nl ((s.map pD).map fun d => match d with | .tup [.int x, .int y] => D.bl (decide (dot (x, y) u < 0)) | _ => .non)) [] := by
    unfold lcS
    rw [hi]
    simp only [Rg.bd]
    rw [z]
    rfl
  have ha : allS (lcS (.one 2) [2] noIf (cmpS qLt (callS 2 f_product (acons (varS 2) (acons (varS 1) anil))) (valS (.int 0))) (itS (varS 0))) [some (.v (f s)), some (.v (pD u)), none] [] = .ok (.v (.bl (opn u s))) [] := by
    unfold allS rd1S
    rw [hl]
    simp only [Rg.bd, rdR, dr, blsR, hb, optR]
    simp [opn, List.all_map, Function.comp_def]
  show defF 3 _ _ _ = _
  unfold defF retB
  show (match (allS (lcS (.one 2) [2] noIf (cmpS qLt (callS 2 f_product (acons (varS 2) (acons (varS 1) anil))) (valS (.int 0))) (itS (varS 0))) [some (.v (f s)), some (.v (pD u)), none] []).to fun r m1 => Oc.rt r m1 with | .nx _ m1 => _ | .rt r m1 => _ | .ex c fs m1 => _ | _ => _) = _
  rw [ha]
  rfl
end Lw
/-! opener, is_open, by the law and by the program -/
namespace Lw
open PySem Dl
theorem seqB_rt {a b : Fs} {e : Envt} {m m' : Mem} {r : Rs} (h : a e m = .rt r m') : seqB a b e m = .rt r m' := by unfold seqB; rw [h]; rfl
theorem opn_sort (u : Pt) (s : List Pt) : opn u (sortP s) = opn u s := by
  unfold opn
  rw [Bool.eq_iff_iff, List.all_eq_true, List.all_eq_true]
  exact ⟨fun h p hp => h p (mem_sortP.mpr hp), fun h p hp => h p (mem_sortP.mp hp)⟩
theorem n_shapes (ms : List (List Pt)) (hl : ms.length ≤ 5) : f_Book_shapes [.v (bookD ms)] [] = .ok (.nl ((ms.map sortP).map sL)) [] := by
  have z := lc_mapR (t := .one 1) (vs := [1]) (env0 := [some (.v (bookD ms)), none]) (elt := listS (varS 1)) (g := fun d => match d with | .tup ds => .lst ds | d => d) [] ((ms.map sortP).map sT) [] (fun d hd => by
    obtain ⟨s, _, rfl⟩ := List.mem_map.mp hd
    exact ⟨[some (.v (bookD ms)), some (.v (sT s))], .nl (s.map pD), rfl, rfl, rfl⟩) (by simp only [List.length_map, List.length_nil]; exact szle _ (by omega))
  have hi : itS (fldS ["Book"] "held" (varS 0)) [some (.v (bookD ms)), none] [] = .ok ((ms.map sortP).map sT) [] := by
    simp [callS, lcS, lcGo, itS, seqR, Tg.put, Tg.vs, wipeE, noIf, Dl.locs, renO, pickO, idx, wb, nloc, bSh_ii, eqD_ii, defF, retB, retNB, seqB, setB, newB, parB, asgB, itemB, augB, exprB, ifB, nilB, Oc.bd, Rg.to, Rg.bd, rdR, dr, slR, unl, varS, valS, rd1S, rd2S, addS, addR, subS, subI, mulS, divS, modS, powS, opI, negS, cmpS, cmpT, chainS, chainT, chainR, andS, orS, notS, ifS, valT, andT, orT, notT, isBl, anil, acons, tupS, lstS, frzR, frz, ixS, onone, osome, sliceS, slcR, optR, Rg.nx, lenS, lenD, absS, intS, intOf, allS, anyS, blsR, bls, listS, tupleS, seqD, isiS, isi2S, noOb_non, noOb_bl, noOb_int, noOb_str, noOb_tup, noOb_lst, cellR, appendS, popAtS, popS, insertS, minTS, maxTS, minmaxR, unI, lenSetS, exitR, gn, gsn, gsc, gt, qLt, qLe, qGt, qGe, qEq, qNe, qIn, qNotIn, qIs, qIsNot, qIsB, qIsNotB, bI, fI, bB, eqB, isN, dInt, dBool, dStr, dLst, dTup, litS, litRs, obR, fldS, conS, runA, runM, Dl.runN, Dl.runL, methS, newOb, makeS, obO, intR, strR, blR, lenOS, reprOS, putD, fldB, forEB, forGoE, propS, mixO, lfC, lfM, repS, maxLS, minLS, maxLR, lcCS, lc2S, aconsX, bookD]
  have lc : lcS (.one 1) [1] noIf (listS (varS 1)) (itS (fldS ["Book"] "held" (varS 0))) [some (.v (bookD ms)), none] [] = .ok (.nl ((ms.map sortP).map sL)) [] := by
    unfold lcS
    rw [hi]
    simp only [Rg.bd]
    rw [z]
    simp [Rg.bd, sL, sT, Function.comp_def]
  refine (defF_ex (l := 2) (body := retB (lcS (.one 1) [1] noIf (listS (varS 1)) (itS (fldS ["Book"] "held" (varS 0))))) (rs := [.v (bookD ms)]) (m := []) (m' := []) (r := .nl ((ms.map sortP).map sL)) ?_).trans rfl
  show retB _ [some (.v (bookD ms)), none] [] = _
  unfold retB
  rw [lc]
  rfl
theorem n_made (ms : List (List Pt)) (ok : ModOk ms) (hl : ms.length ≤ 5) : f__law_made [.v (.lst (ms.map sL))] [] = .ok (.v (bookD ms)) [] := by
  have z := lc_mapR (t := .one 1) (vs := [1]) (env0 := [some (.v (.lst (ms.map sL))), none]) (elt := listS (varS 1)) (g := fun d => d) [] (ms.map sL) [] (fun d hd => by
    obtain ⟨s, _, rfl⟩ := List.mem_map.mp hd
    exact ⟨[some (.v (.lst (ms.map sL))), some (.v (sL s))], .nl (s.map pD), rfl, rfl, rfl⟩) (by simp only [List.length_map, List.length_nil]; exact szle _ (by omega))
  have lc : lcS (.one 1) [1] noIf (listS (varS 1)) (itS (varS 0)) [some (.v (.lst (ms.map sL))), none] [] = .ok (.nl (ms.map sL)) [] := by
    unfold lcS
    show Rg.bd (Rg.ok (ms.map sL) []) _ = _
    simp only [Rg.bd]
    rw [z]
    simp [Rg.bd]
  have hi := init_ok shf_L ms ok hl (.lst (ms.map sL)) rfl
  have mk : makeS Dl.runN "Book" f_Book___init__ 2 [] (acons (lcS (.one 1) [1] noIf (listS (varS 1)) (itS (varS 0))) anil) [some (.v (.lst (ms.map sL))), none] [] = .ok (.v (bookD ms)) [] := by
    simp [makeS, acons, anil, lc, Rg.bd, unl, newOb, Dl.runN, runA, Dl.locs, renO, idx, pickO, optR, hi, nloc, wb, bookD]
  refine (defF_ex (l := 2) (body := retB (makeS Dl.runN "Book" f_Book___init__ 2 [] (acons (lcS (.one 1) [1] noIf (listS (varS 1)) (itS (varS 0))) anil))) (rs := [.v (.lst (ms.map sL))]) (m := []) (m' := []) (r := .v (bookD ms)) ?_).trans rfl
  show retB _ [some (.v (.lst (ms.map sL))), none] [] = _
  unfold retB
  rw [mk]
  rfl
def optD : Option Nat → D
  | none => .non
  | some i => .int (i : Int)
noncomputable abbrev opB : Fs := seqB (ifB (valT (callS 2 f_opens (acons (varS 3) (acons (varS 1) anil)))) (retB (varS 2)) nilB) nilB
theorem op_loop (b : D) (u : Pt) (hu : Bd u) : ∀ (ss : List (List Pt)) (k : Nat) (o2 o3 : Option Sl), (∀ s ∈ ss, (∀ p ∈ s, Bd p) ∧ s.length ≤ 100) →
    forGoE (gt 2 (gsc (gn 2) (gsc (gn 3) gsn))) opB (retB (valS .non)) (((ss.map sL).zipIdx k).map fun p => .tup [.int (p.2 : Int), p.1]) [some (.v b), some (.v (pD u)), o2, o3] [] = .rt (.v (optD ((ss.findIdx? (opn u)).map (k + ·)))) []
  | [], k, o2, o3, _ => rfl
  | s :: ss, k, o2, o3, h => by
    have hs := h s List.mem_cons_self
    have e := n_opens shf_L s u hs.1 hs.2 hu
    rw [List.map_cons, List.zipIdx_cons, List.map_cons, forGoE]
    have g1 : gt 2 (gsc (gn 2) (gsc (gn 3) gsn)) (.tup [.int (k : Int), sL s]) [some (.v b), some (.v (pD u)), o2, o3] = some [some (.v b), some (.v (pD u)), some (.v (.int k)), some (.v (sL s))] := by simp [gt, gsc, gn, gsn]
    rw [g1]
    cases q : opn u s with
    | true =>
      have b1 : opB [some (.v b), some (.v (pD u)), some (.v (.int k)), some (.v (sL s))] [] = .rt (.v (.int k)) [] := by
        rw [q] at e
        simp [callS, lcS, lcGo, itS, seqR, Tg.put, Tg.vs, wipeE, noIf, Dl.locs, renO, pickO, idx, wb, nloc, bSh_ii, eqD_ii, defF, retB, retNB, seqB, setB, newB, parB, asgB, itemB, augB, exprB, ifB, nilB, Oc.bd, Rg.to, Rg.bd, rdR, dr, slR, unl, varS, valS, rd1S, rd2S, addS, addR, subS, subI, mulS, divS, modS, powS, opI, negS, cmpS, cmpT, chainS, chainT, chainR, andS, orS, notS, ifS, valT, andT, orT, notT, isBl, anil, acons, tupS, lstS, frzR, frz, ixS, onone, osome, sliceS, slcR, optR, Rg.nx, lenS, lenD, absS, intS, intOf, allS, anyS, blsR, bls, listS, tupleS, seqD, isiS, isi2S, noOb_non, noOb_bl, noOb_int, noOb_str, noOb_tup, noOb_lst, cellR, appendS, popAtS, popS, insertS, minTS, maxTS, minmaxR, unI, lenSetS, exitR, gn, gsn, gsc, gt, qLt, qLe, qGt, qGe, qEq, qNe, qIn, qNotIn, qIs, qIsNot, qIsB, qIsNotB, bI, fI, bB, eqB, isN, dInt, dBool, dStr, dLst, dTup, litS, litRs, obR, fldS, conS, runA, runM, Dl.runN, Dl.runL, methS, newOb, makeS, obO, intR, strR, blR, lenOS, reprOS, putD, fldB, forEB, forGoE, propS, mixO, lfC, lfM, repS, maxLS, minLS, maxLR, lcCS, lc2S, aconsX, e]
      simp only [b1, List.findIdx?_cons, q, if_true]
      simp [optD]
    | false =>
      have b1 : opB [some (.v b), some (.v (pD u)), some (.v (.int k)), some (.v (sL s))] [] = .nx [some (.v b), some (.v (pD u)), some (.v (.int k)), some (.v (sL s))] [] := by
        rw [q] at e
        simp [callS, lcS, lcGo, itS, seqR, Tg.put, Tg.vs, wipeE, noIf, Dl.locs, renO, pickO, idx, wb, nloc, bSh_ii, eqD_ii, defF, retB, retNB, seqB, setB, newB, parB, asgB, itemB, augB, exprB, ifB, nilB, Oc.bd, Rg.to, Rg.bd, rdR, dr, slR, unl, varS, valS, rd1S, rd2S, addS, addR, subS, subI, mulS, divS, modS, powS, opI, negS, cmpS, cmpT, chainS, chainT, chainR, andS, orS, notS, ifS, valT, andT, orT, notT, isBl, anil, acons, tupS, lstS, frzR, frz, ixS, onone, osome, sliceS, slcR, optR, Rg.nx, lenS, lenD, absS, intS, intOf, allS, anyS, blsR, bls, listS, tupleS, seqD, isiS, isi2S, noOb_non, noOb_bl, noOb_int, noOb_str, noOb_tup, noOb_lst, cellR, appendS, popAtS, popS, insertS, minTS, maxTS, minmaxR, unI, lenSetS, exitR, gn, gsn, gsc, gt, qLt, qLe, qGt, qGe, qEq, qNe, qIn, qNotIn, qIs, qIsNot, qIsB, qIsNotB, bI, fI, bB, eqB, isN, dInt, dBool, dStr, dLst, dTup, litS, litRs, obR, fldS, conS, runA, runM, Dl.runN, Dl.runL, methS, newOb, makeS, obO, intR, strR, blR, lenOS, reprOS, putD, fldB, forEB, forGoE, propS, mixO, lfC, lfM, repS, maxLS, minLS, maxLR, lcCS, lc2S, aconsX, e]
      simp only [b1, List.findIdx?_cons, q]
      rw [op_loop b u hu ss (k + 1) _ _ fun t ht => h t (List.mem_cons_of_mem _ ht)]
      cases ss.findIdx? (opn u) with
      | none => rfl
      | some i => simp [optD]; omega
theorem find_sort (u : Pt) : ∀ ms : List (List Pt), (ms.map sortP).findIdx? (opn u) = ms.findIdx? (opn u)
  | [] => rfl
  | s :: ms => by rw [List.map_cons, List.findIdx?_cons, List.findIdx?_cons, opn_sort, find_sort u ms]
theorem n_opener (ms : List (List Pt)) (ok : ModOk ms) (hl : ms.length ≤ 5) (u : Pt) (hu : Bd u) (hd : isDir (pD u) = true) : f_opener [.v (bookD ms), .v (pD u)] [] = .ok (.v (optD (ms.findIdx? (opn u)))) [] := by
  have e1 := n_need (pD u) (sh_pD u) hd []
  have e2 := n_shapes ms hl
  have s1 : ∀ k : Fs, seqB (exprB (callS 1 f_need_direction (acons (varS 1) anil))) k [some (.v (bookD ms)), some (.v (pD u)), none, none] [] = k [some (.v (bookD ms)), some (.v (pD u)), none, none] [] := fun k => seqB_nx (by simp [callS, lcS, lcGo, itS, seqR, Tg.put, Tg.vs, wipeE, noIf, Dl.locs, renO, pickO, idx, wb, nloc, bSh_ii, eqD_ii, defF, retB, retNB, seqB, setB, newB, parB, asgB, itemB, augB, exprB, ifB, nilB, Oc.bd, Rg.to, Rg.bd, rdR, dr, slR, unl, varS, valS, rd1S, rd2S, addS, addR, subS, subI, mulS, divS, modS, powS, opI, negS, cmpS, cmpT, chainS, chainT, chainR, andS, orS, notS, ifS, valT, andT, orT, notT, isBl, anil, acons, tupS, lstS, frzR, frz, ixS, onone, osome, sliceS, slcR, optR, Rg.nx, lenS, lenD, absS, intS, intOf, allS, anyS, blsR, bls, listS, tupleS, seqD, isiS, isi2S, noOb_non, noOb_bl, noOb_int, noOb_str, noOb_tup, noOb_lst, cellR, appendS, popAtS, popS, insertS, minTS, maxTS, minmaxR, unI, lenSetS, exitR, gn, gsn, gsc, gt, qLt, qLe, qGt, qGe, qEq, qNe, qIn, qNotIn, qIs, qIsNot, qIsB, qIsNotB, bI, fI, bB, eqB, isN, dInt, dBool, dStr, dLst, dTup, litS, litRs, obR, fldS, conS, runA, runM, Dl.runN, Dl.runL, methS, newOb, makeS, obO, intR, strR, blR, lenOS, reprOS, putD, fldB, forEB, forGoE, propS, mixO, lfC, lfM, repS, maxLS, minLS, maxLR, lcCS, lc2S, aconsX, e1])
  have it : enumS (methS runA [("Book", f_Book_shapes)] 1 [] "shapes" (varS 0) anil) [some (.v (bookD ms)), some (.v (pD u)), none, none] [] = .ok (enumD ((ms.map sortP).map sL)) [] := by
    have hm : methS runA [("Book", f_Book_shapes)] 1 [] "shapes" (varS 0) anil [some (.v (bookD ms)), some (.v (pD u)), none, none] [] = .ok (.nl ((ms.map sortP).map sL)) [] := by
      have e3 : f_Book_shapes [.v (.ob "Book" [("held", .tup ((ms.map sortP).map sT))])] [] = .ok (.nl ((ms.map sortP).map sL)) [] := e2
      have ne : ¬ (("shapes" : Str) = "held") := by decide +kernel
      unfold bookD
      generalize (ms.map sortP).map sT = T at e3 ⊢
      generalize (ms.map sortP).map sL = L at e3 ⊢
      simp [methS, varS, Rg.bd, slR, obR, optR, anil, unl, runA, Dl.locs, renO, pickO, e3, nloc, wb, ne]
    unfold enumS
    rw [hm]
    rfl
  have lp := op_loop (bookD ms) u hu (ms.map sortP) 0 none none (fun t ht => by
    obtain ⟨s, hs, rfl⟩ := List.mem_map.mp ht
    exact ⟨fun p hp => near_bd ((ok.sh s hs).near p (mem_sortP.mp hp)), by rw [sortP_len]; have := (ok.sh s hs).l4; omega⟩)
  have lp2 : forEB (gt 2 (gsc (gn 2) (gsc (gn 3) gsn))) (enumS (methS runA [("Book", f_Book_shapes)] 1 [] "shapes" (varS 0) anil)) opB (retB (valS .non)) [some (.v (bookD ms)), some (.v (pD u)), none, none] [] = .rt (.v (optD (ms.findIdx? (opn u)))) [] := by
    unfold forEB
    rw [it]
    refine lp.trans ?_
    rw [find_sort]
    cases ms.findIdx? (opn u) <;> simp
  show defF 4 _ _ _ = _
  rw [defF_rt (d := optD (ms.findIdx? (opn u))) (m' := [])]
  · rfl
  · show seqB (exprB (callS 1 f_need_direction (acons (varS 1) anil))) _ [some (.v (bookD ms)), some (.v (pD u)), none, none] [] = _
    exact (s1 _).trans (seqB_rt lp2)
theorem n_is_open (ms : List (List Pt)) (ok : ModOk ms) (hl : ms.length ≤ 5) (u : Pt) (hu : Bd u) (hd : isDir (pD u) = true) : f_is_open [.v (bookD ms), .v (pD u)] [] = .ok (.v (.bl (ms.findIdx? (opn u)).isSome)) [] := by
  have e := n_opener ms ok hl u hu hd
  cases q : ms.findIdx? (opn u) with
  | none => rw [q] at e; simp [f_is_open, callS, lcS, lcGo, itS, seqR, Tg.put, Tg.vs, wipeE, noIf, Dl.locs, renO, pickO, idx, wb, nloc, bSh_ii, eqD_ii, defF, retB, retNB, seqB, setB, newB, parB, asgB, itemB, augB, exprB, ifB, nilB, Oc.bd, Rg.to, Rg.bd, rdR, dr, slR, unl, varS, valS, rd1S, rd2S, addS, addR, subS, subI, mulS, divS, modS, powS, opI, negS, cmpS, cmpT, chainS, chainT, chainR, andS, orS, notS, ifS, valT, andT, orT, notT, isBl, anil, acons, tupS, lstS, frzR, frz, ixS, onone, osome, sliceS, slcR, optR, Rg.nx, lenS, lenD, absS, intS, intOf, allS, anyS, blsR, bls, listS, tupleS, seqD, isiS, isi2S, noOb_non, noOb_bl, noOb_int, noOb_str, noOb_tup, noOb_lst, cellR, appendS, popAtS, popS, insertS, minTS, maxTS, minmaxR, unI, lenSetS, exitR, gn, gsn, gsc, gt, qLt, qLe, qGt, qGe, qEq, qNe, qIn, qNotIn, qIs, qIsNot, qIsB, qIsNotB, bI, fI, bB, eqB, isN, dInt, dBool, dStr, dLst, dTup, litS, litRs, obR, fldS, conS, runA, runM, Dl.runN, Dl.runL, methS, newOb, makeS, obO, intR, strR, blR, lenOS, reprOS, putD, fldB, forEB, forGoE, propS, mixO, lfC, lfM, repS, maxLS, minLS, maxLR, lcCS, lc2S, aconsX, e, optD]
  | some i => rw [q] at e; simp [f_is_open, callS, lcS, lcGo, itS, seqR, Tg.put, Tg.vs, wipeE, noIf, Dl.locs, renO, pickO, idx, wb, nloc, bSh_ii, eqD_ii, defF, retB, retNB, seqB, setB, newB, parB, asgB, itemB, augB, exprB, ifB, nilB, Oc.bd, Rg.to, Rg.bd, rdR, dr, slR, unl, varS, valS, rd1S, rd2S, addS, addR, subS, subI, mulS, divS, modS, powS, opI, negS, cmpS, cmpT, chainS, chainT, chainR, andS, orS, notS, ifS, valT, andT, orT, notT, isBl, anil, acons, tupS, lstS, frzR, frz, ixS, onone, osome, sliceS, slcR, optR, Rg.nx, lenS, lenD, absS, intS, intOf, allS, anyS, blsR, bls, listS, tupleS, seqD, isiS, isi2S, noOb_non, noOb_bl, noOb_int, noOb_str, noOb_tup, noOb_lst, cellR, appendS, popAtS, popS, insertS, minTS, maxTS, minmaxR, unI, lenSetS, exitR, gn, gsn, gsc, gt, qLt, qLe, qGt, qGe, qEq, qNe, qIn, qNotIn, qIs, qIsNot, qIsB, qIsNotB, bI, fI, bB, eqB, isN, dInt, dBool, dStr, dLst, dTup, litS, litRs, obR, fldS, conS, runA, runM, Dl.runN, Dl.runL, methS, newOb, makeS, obO, intR, strR, blR, lenOS, reprOS, putD, fldB, forEB, forGoE, propS, mixO, lfC, lfM, repS, maxLS, minLS, maxLR, lcCS, lc2S, aconsX, e, optD]
end Lw
/-! what _law_try tells of each error -/
namespace Lw
open PySem Dl
end Lw
namespace Lw
open PySem Dl
end Lw
namespace Lw
open PySem Dl
end Lw
namespace Lw
open PySem Dl
end Lw
namespace Lw
open PySem Dl
theorem rgD_cons' (i : Int) (k : Nat) : rgD i (k + 1) = .int i :: rgD (i + 1) k := by
  unfold rgD
  rw [List.range_succ_eq_map, List.map_cons, List.map_map]
  congr 1
  · simp
  · apply List.map_congr_left
    intro x _
    simp only [Function.comp]
    congr 1
    push_cast
    omega
theorem rgl' {a : Fe} {env : Envt} {m m1 : Mem} {n : Nat} (h : a env m = .ok (.v (.int (n : Int))) m1) (hn : n ≤ 1000) : range1S a env m = .ok (rgD 0 n) m1 := by
  have key : ∀ q : Int, 0 ≤ q → q ≤ 1000 → a env m = .ok (.v (.int q)) m1 → range1S a env m = .ok (rgD 0 q.toNat) m1 := by
    intro q q0 q5 h
    have x1 : (-4611686018427387904 : Int) ≤ q := by omega
    have x2 : q < 4611686018427387904 := by omega
    simp [range1S, rd1S, h, Rg.bd, rdR, dr, x1, x2]
  have := key n (by omega) (by omega) h
  simpa using this
end Lw
/-! open and still directions: what stands between a still one and an open one -/
namespace Lw
open PySem Dl
abbrev cellsOf (ms : List (List Pt)) : List Pt := ms.flatten
def Opn (ms : List (List Pt)) (u : Pt) : Bool := ms.any (opn u)
def lf (p : Pt) : Pt := (-p.2, p.1)
def rt (p : Pt) : Pt := (p.2, -p.1)
def sc (k : Int) (p : Pt) : Pt := (k * p.1, k * p.2)
theorem opn_iff {u : Pt} {s : List Pt} : opn u s = true ↔ ∀ p ∈ s, dot p u < 0 := by
  unfold opn
  rw [List.all_eq_true]
  exact ⟨fun h p hp => of_decide_eq_true (h p hp), fun h p hp => decide_eq_true (h p hp)⟩
theorem Opn_iff {ms : List (List Pt)} {u : Pt} : Opn ms u = true ↔ ∃ s ∈ ms, ∀ p ∈ s, dot p u < 0 := by
  unfold Opn
  rw [List.any_eq_true]
  exact ⟨fun ⟨s, a, b⟩ => ⟨s, a, opn_iff.mp b⟩, fun ⟨s, a, b⟩ => ⟨s, a, opn_iff.mpr b⟩⟩
theorem pos_of_mul {a b : Int} (ha : 0 < a) (h : 0 < a * b) : 0 < b := by
  rcases Int.lt_trichotomy b 0 with q | q | q
  · have := Int.mul_neg_of_pos_of_neg ha q; omega
  · subst q; simp at h
  · exact q
theorem neg_of_mul {a b : Int} (ha : 0 < a) (h : a * b < 0) : b < 0 := by
  rcases Int.lt_trichotomy b 0 with q | q | q
  · exact q
  · subst q; simp at h
  · have := Int.mul_pos ha q; omega
theorem dot_sc (k : Int) (p q : Pt) : dot p (sc k q) = k * dot p q := by unfold dot sc; grind
theorem Opn_sc (ms : List (List Pt)) {k : Int} (hk : 0 < k) (u : Pt) : Opn ms (sc k u) = Opn ms u := by
  rw [Bool.eq_iff_iff, Opn_iff, Opn_iff]
  constructor
  · rintro ⟨s, hs, h⟩
    exact ⟨s, hs, fun p hp => neg_of_mul hk (by rw [← dot_sc]; exact h p hp)⟩
  · rintro ⟨s, hs, h⟩
    exact ⟨s, hs, fun p hp => by rw [dot_sc]; exact Int.mul_neg_of_pos_of_neg hk (h p hp)⟩
/-- the vector between v and c that a cell does not tell from the edge -/
def mid (p v c : Pt) : Pt := (dot p v * c.1 - dot p c * v.1, dot p v * c.2 - dot p c * v.2)
theorem dot_mid (q p v c : Pt) : dot q (mid p v c) = dot p v * dot q c - dot p c * dot q v := by unfold dot mid; unfold dot; grind
theorem mid_edge (p v c : Pt) : dot p (mid p v c) = 0 := by rw [dot_mid]; grind
theorem along (p w : Pt) (h : dot p w = 0) : sc (dot p p) w = sc (dot w (lf p)) (lf p) := by
  unfold dot at h
  have h1 : p.1 * w.1 = - (p.2 * w.2) := by omega
  unfold sc dot lf
  refine Prod.ext ?_ ?_
  · simp only; grind
  · simp only; grind
theorem lf_neg (p : Pt) (k : Int) : sc (-k) (rt p) = sc k (lf p) := by unfold sc rt lf; refine Prod.ext ?_ ?_ <;> simp only <;> grind
def cnt (ms : List (List Pt)) (v c : Pt) : Nat := (cellsOf ms).countP fun q => decide (0 ≤ dot q v) && decide (dot q c < 0)
theorem countP_lt {α : Type} {P Q : α → Bool} : ∀ {l : List α}, (∀ x ∈ l, P x = true → Q x = true) → (∃ x ∈ l, Q x = true ∧ P x = false) → l.countP P < l.countP Q
  | [], _, ⟨x, hx, _⟩ => absurd hx List.not_mem_nil
  | a :: l, h, hx => by
    obtain ⟨x, hm, hq, hp⟩ := hx
    rw [List.countP_cons, List.countP_cons]
    have hl : ∀ x ∈ l, P x = true → Q x = true := fun x hx => h x (List.mem_cons_of_mem _ hx)
    have le := List.countP_mono_left hl
    rcases List.mem_cons.mp hm with rfl | hm
    · rw [hp, hq]; simp; omega
    · have := countP_lt hl ⟨x, hm, hq, hp⟩
      cases hP : P a with
      | true => rw [h a List.mem_cons_self hP]; simp; exact this
      | false => cases Q a <;> simp <;> omega
theorem sq_nn (a : Int) : 0 ≤ a * a := by
  rcases Int.le_total 0 a with h | h
  · exact Int.mul_nonneg h h
  · exact Int.mul_nonneg_of_nonpos_of_nonpos h h
theorem dot_self {p : Pt} (h : p ≠ (0, 0)) : 0 < dot p p := by
  unfold dot
  have h1 := sq_nn p.1
  have h2 := sq_nn p.2
  rcases Int.lt_trichotomy (p.1 * p.1 + p.2 * p.2) 0 with z | z | z
  · omega
  · exfalso
    have z1 : p.1 * p.1 = 0 := by omega
    have z2 : p.2 * p.2 = 0 := by omega
    have a1 := Int.mul_eq_zero.mp z1
    have a2 := Int.mul_eq_zero.mp z2
    exact h (Prod.ext (by simpa using a1) (by simpa using a2))
  · exact z
/-- an edge vector of a cell: left or right of it -/
theorem key (ms : List (List Pt)) (x v : Pt) (hv : Opn ms v = false) (vx : 0 < dot v x) : ∀ (n : Nat) (c : Pt), cnt ms v c ≤ n → Opn ms c = true → 0 < dot c x → ∃ p ∈ cellsOf ms, ∃ e, (e = lf p ∨ e = rt p) ∧ Opn ms e = false ∧ 0 < dot e x := by
  have dc : ∀ a b : Pt, dot a b = dot b a := fun a b => by unfold dot; grind
  intro n
  induction n with
  | zero =>
    intro c hn hc cx
    obtain ⟨s, hs, ho⟩ := Opn_iff.mp hc
    have hv' : ¬ ∀ p ∈ s, dot p v < 0 := fun h => by rw [Opn_iff.mpr ⟨s, hs, h⟩] at hv; cases hv
    obtain ⟨p, hp, hpv⟩ : ∃ p ∈ s, ¬ dot p v < 0 := by
      refine Classical.byContradiction fun z => hv' fun p hp => Classical.byContradiction fun q => z ⟨p, hp, q⟩
    have hm : p ∈ cellsOf ms := List.mem_flatten.mpr ⟨s, hs, hp⟩
    have : 0 < cnt ms v c := List.countP_pos_iff.mpr ⟨p, hm, by rw [decide_eq_true (ho p hp), decide_eq_true (by omega)]; rfl⟩
    omega
  | succ n ih =>
    intro c hn hc cx
    obtain ⟨s, hs, ho⟩ := Opn_iff.mp hc
    have hv' : ¬ ∀ p ∈ s, dot p v < 0 := fun h => by rw [Opn_iff.mpr ⟨s, hs, h⟩] at hv; cases hv
    obtain ⟨p, hp, hpv⟩ : ∃ p ∈ s, ¬ dot p v < 0 := by
      refine Classical.byContradiction fun z => hv' fun p hp => Classical.byContradiction fun q => z ⟨p, hp, q⟩
    have hm : p ∈ cellsOf ms := List.mem_flatten.mpr ⟨s, hs, hp⟩
    have hpc := ho p hp
    -- the vector on the edge
    have mx : 0 < dot (mid p v c) x := by
      rw [dc, dot_mid, dc x c, dc x v]
      have a1 : 0 ≤ dot p v * dot c x := Int.mul_nonneg (by omega) (by omega)
      have a2 : dot p c * dot v x < 0 := Int.mul_neg_of_neg_of_pos hpc vx
      omega
    cases ho2 : Opn ms (mid p v c) with
    | true =>
      refine ih (mid p v c) ?_ ho2 mx
      have lt : cnt ms v (mid p v c) < cnt ms v c := by
        refine countP_lt (fun q _ hq => ?_) ⟨p, hm, by rw [decide_eq_true (by omega : 0 ≤ dot p v), decide_eq_true hpc]; rfl, by rw [mid_edge]; simp⟩
        rw [Bool.and_eq_true, decide_eq_true_eq, decide_eq_true_eq] at hq ⊢
        refine ⟨hq.1, ?_⟩
        have h2 := hq.2
        rw [dot_mid] at h2
        have a2 : dot p c * dot q v ≤ 0 := Int.mul_nonpos_of_nonpos_of_nonneg (by omega) hq.1
        have a3 : dot p v * dot q c < 0 := by omega
        rcases Int.lt_trichotomy (dot q c) 0 with z | z | z
        · exact z
        · rw [z] at a3; simp at a3
        · have := Int.mul_nonneg (by omega : 0 ≤ dot p v) (by omega : 0 ≤ dot q c); omega
      omega
    | false =>
      have al := along p (mid p v c) (mid_edge p v c)
      have pp : 0 < dot p p := dot_self fun z => by rw [z] at hpc; simp [dot] at hpc
      have ho3 : Opn ms (sc (dot p p) (mid p v c)) = false := by rw [Opn_sc ms pp]; exact ho2
      have mx3 : 0 < dot (sc (dot p p) (mid p v c)) x := by rw [dc, dot_sc, dc x]; exact Int.mul_pos pp mx
      rw [al] at ho3 mx3
      generalize dot (mid p v c) (lf p) = k at ho3 mx3
      rcases Int.lt_trichotomy k 0 with hk | hk | hk
      · rw [← lf_neg] at ho3 mx3
        refine ⟨p, hm, rt p, .inr rfl, by rw [Opn_sc ms (by omega : 0 < -k)] at ho3; exact ho3, ?_⟩
        rw [dc, dot_sc] at mx3
        rw [dc]
        exact pos_of_mul (by omega) mx3
      · rw [hk] at mx3
        simp [sc, dot] at mx3
      · refine ⟨p, hm, lf p, .inl rfl, by rw [Opn_sc ms hk] at ho3; exact ho3, ?_⟩
        rw [dc, dot_sc] at mx3
        rw [dc]
        exact pos_of_mul hk mx3
theorem still_end {ms : List (List Pt)} {x v c : Pt} (hv : Opn ms v = false) (vx : 0 < dot v x) (hc : Opn ms c = true) (cx : 0 < dot c x) : ∃ p ∈ cellsOf ms, ∃ e, (e = lf p ∨ e = rt p) ∧ Opn ms e = false ∧ 0 < dot e x :=
  key ms x v hv vx (cnt ms v c) c (Nat.le_refl _) hc cx
end Lw
/-! climbed directions -/
namespace Lw
open PySem Dl
def Clm (ms : List (List Pt)) (u : Pt) : Prop := ∀ v : Pt, 0 < dot v u → Opn ms v = true
def nrm (p : Pt) : Pt := (p.1 / (Int.gcd p.1 p.2 : Int), p.2 / (Int.gcd p.1 p.2 : Int))
def eL (p : Pt) : Pt := lf (nrm p)
def eR (p : Pt) : Pt := rt (nrm p)
def ng (p : Pt) : Pt := (-p.1, -p.2)
theorem dotc (a b : Pt) : dot a b = dot b a := by unfold dot; grind
theorem gcd_pos' {p : Pt} (h : p ≠ (0, 0)) : 0 < (Int.gcd p.1 p.2 : Int) := gcd_pos fun ⟨a, b⟩ => h (Prod.ext a b)
theorem sc_nrm (p : Pt) : sc (Int.gcd p.1 p.2) (nrm p) = p := by
  unfold sc nrm
  exact Prod.ext (Int.mul_ediv_cancel' (Int.gcd_dvd_left _ _)) (Int.mul_ediv_cancel' (Int.gcd_dvd_right _ _))
theorem lf_sc (k : Int) (p : Pt) : lf (sc k p) = sc k (lf p) := by unfold lf sc; refine Prod.ext ?_ ?_ <;> simp only <;> grind
theorem rt_sc (k : Int) (p : Pt) : rt (sc k p) = sc k (rt p) := by unfold rt sc; refine Prod.ext ?_ ?_ <;> simp only <;> grind
theorem dot_scl (k : Int) (p q : Pt) : dot (sc k p) q = k * dot p q := by rw [dotc, dot_sc, dotc]
theorem norm_e {ms : List (List Pt)} {p e x : Pt} (hp : p ≠ (0, 0)) (he : e = lf p ∨ e = rt p) (ho : Opn ms e = false) (hx : 0 < dot e x) : ∃ f, (f = eL p ∨ f = eR p) ∧ Opn ms f = false ∧ 0 < dot f x := by
  have g := gcd_pos' hp
  rcases he with rfl | rfl
  · refine ⟨eL p, .inl rfl, ?_, ?_⟩
    · rw [← Opn_sc ms g, eL, ← lf_sc, sc_nrm]; exact ho
    · have : dot (lf p) x = Int.gcd p.1 p.2 * dot (eL p) x := by rw [← dot_scl, eL, ← lf_sc, sc_nrm]
      rw [this] at hx
      exact pos_of_mul g hx
  · refine ⟨eR p, .inr rfl, ?_, ?_⟩
    · rw [← Opn_sc ms g, eR, ← rt_sc, sc_nrm]; exact ho
    · have : dot (rt p) x = Int.gcd p.1 p.2 * dot (eR p) x := by rw [← dot_scl, eR, ← rt_sc, sc_nrm]
      rw [this] at hx
      exact pos_of_mul g hx
def axes : List Pt := [(1, 0), (0, 1), (-1, 0), (0, -1)]
theorem axis_pos {u : Pt} (h : u ≠ (0, 0)) : ∃ a ∈ axes, 0 < dot a u := by
  obtain ⟨x, y⟩ := u
  have : x ≠ 0 ∨ y ≠ 0 := by
    rcases Classical.em (x = 0) with hx | hx
    · right; intro hy; exact h (by rw [hx, hy])
    · exact .inl hx
  rcases Int.lt_trichotomy x 0 with a | a | a
  · exact ⟨(-1, 0), by decide, by simp [dot]; omega⟩
  · rcases Int.lt_trichotomy y 0 with b | b | b
    · exact ⟨(0, -1), by decide, by simp [dot]; omega⟩
    · omega
    · exact ⟨(0, 1), by decide, by simp [dot]; omega⟩
  · exact ⟨(1, 0), by decide, by simp [dot]; omega⟩
/-- a list of directions that tells what is climbed -/
structure Tells (ms : List (List Pt)) (W : List Pt) : Prop where
  ax : ∀ a ∈ axes, a ∈ W
  el : ∀ p ∈ cellsOf ms, eL p ∈ W ∧ eR p ∈ W
theorem tells {ms : List (List Pt)} {W : List Pt} (T : Tells ms W) (h0 : ∀ p ∈ cellsOf ms, p ≠ (0, 0)) {u : Pt} (hu : u ≠ (0, 0)) : (∃ q ∈ W, 0 < dot q u ∧ Opn ms q = false) ↔ ¬ Clm ms u := by
  constructor
  · rintro ⟨q, _, h1, h2⟩ hc
    rw [hc q h1] at h2
    cases h2
  · intro hn
    obtain ⟨v, hv⟩ : ∃ v, ¬ (0 < dot v u → Opn ms v = true) := Classical.byContradiction fun z => hn fun v => Classical.byContradiction fun y => z ⟨v, y⟩
    have vx : 0 < dot v u := Classical.byContradiction fun z => hv fun y => (z y).elim
    have vo : Opn ms v = false := by
      cases q : Opn ms v with
      | false => rfl
      | true => exact (hv fun _ => q).elim
    by_cases hc : ∃ c, Opn ms c = true ∧ 0 < dot c u
    · obtain ⟨c, c1, c2⟩ := hc
      obtain ⟨p, hp, e, he, ho, hx⟩ := still_end vo vx c1 c2
      obtain ⟨f, hf, ho', hx'⟩ := norm_e (h0 p hp) he ho hx
      have := T.el p hp
      rcases hf with rfl | rfl
      · exact ⟨_, this.1, hx', ho'⟩
      · exact ⟨_, this.2, hx', ho'⟩
    · obtain ⟨a, ha, h1⟩ := axis_pos hu
      refine ⟨a, T.ax a ha, h1, ?_⟩
      cases q : Opn ms a with
      | false => rfl
      | true => exact (hc ⟨a, q, h1⟩).elim
def crs (a b : Pt) : Int := a.1 * b.2 - a.2 * b.1
theorem crs_tri (a b c u : Pt) : crs a c * dot b u = crs a b * dot c u + crs b c * dot a u := by unfold crs dot; grind
theorem first {u : Pt} : ∀ (S : List Pt), S ≠ [] → (∀ s ∈ S, dot s u < 0) → ∃ e ∈ S, ∀ s ∈ S, 0 ≤ crs e s
  | [], h, _ => (h rfl).elim
  | [a], _, _ => ⟨a, List.mem_cons_self, fun s hs => by
    rw [List.mem_singleton.mp hs]
    unfold crs
    have : a.1 * a.2 - a.2 * a.1 = 0 := by grind
    omega⟩
  | a :: b :: S, _, h => by
    obtain ⟨e, he, hs⟩ := first (b :: S) (by simp) fun s hs => h s (List.mem_cons_of_mem _ hs)
    have aa : crs a a = 0 := by unfold crs; grind
    by_cases q : 0 ≤ crs e a
    · refine ⟨e, List.mem_cons_of_mem _ he, fun s hs' => ?_⟩
      rcases List.mem_cons.mp hs' with rfl | hs'
      · exact q
      · exact hs s hs'
    · have ae : 0 ≤ crs a e := by have : crs a e = - crs e a := by unfold crs; grind
                                  omega
      refine ⟨a, List.mem_cons_self, fun s hs' => ?_⟩
      rcases List.mem_cons.mp hs' with rfl | hs'
      · omega
      · have t := crs_tri a e s u
        have h1 : crs a e * dot s u ≤ 0 := Int.mul_nonpos_of_nonneg_of_nonpos ae (by have := h s (List.mem_cons_of_mem _ hs'); omega)
        have h2 : crs e s * dot a u ≤ 0 := Int.mul_nonpos_of_nonneg_of_nonpos (hs s hs') (by have := h a List.mem_cons_self; omega)
        have h3 : dot e u < 0 := h e (List.mem_cons_of_mem _ he)
        rcases Int.lt_or_le (crs a s) 0 with z | z
        · have := Int.mul_pos_of_neg_of_neg z h3; omega
        · exact z
end Lw
noncomputable section
namespace Lw
open PySem PySem.Spec PyProof.Rows L2 Dl
end Lw
end
noncomputable section
namespace Lw
open PySem PySem.Spec PyProof.Rows L2 Dl
def f_is_upper : Fd := defF 1 (retB (orS (cmpS qGt (ixS (varS 0) (valS (.int 1))) (valS (.int 0))) (andS (cmpS qEq (ixS (varS 0) (valS (.int 1))) (valS (.int 0))) (cmpS qGt (ixS (varS 0) (valS (.int 0))) (valS (.int 0))))))
def f_is_before : Fd := defF 2 (seqB (ifB (cmpT qNe (callS 1 f_is_upper (acons (varS 0) anil)) (callS 1 f_is_upper (acons (varS 1) anil))) (retB (callS 1 f_is_upper (acons (varS 0) anil))) nilB)
    (retB (cmpS qGt (subS (mulS (ixS (varS 0) (valS (.int 0))) (ixS (varS 1) (valS (.int 1)))) (mulS (ixS (varS 0) (valS (.int 1))) (ixS (varS 1) (valS (.int 0))))) (valS (.int 0)))))
def f_in_round_order : Fd := defF 5 (seqB (newB 1 (litS (.lst [])))
    (seqB (forB (gn 2) (itS (varS 0)) (seqB (exprB (callS 1 f_need_direction (acons (varS 2) anil)))
    (seqB (ifB (cmpT qNotIn (varS 2) (varS 1)) (seqB (setB 3 (lenS (lcCS (.one 4) [4] (valT (callS 2 f_is_before (acons (varS 4) (acons (varS 2) anil)))) (varS 4) (varS 1))))
    (seqB (exprB (insertS (varS 1) (acons (varS 3) (acons (varS 2) anil))))
    nilB)) nilB)
    nilB)))
    (retB (varS 1))))
def f_plus : Fd := defF 2 (retB (tupS (acons (addS (ixS (varS 0) (valS (.int 0))) (ixS (varS 1) (valS (.int 0)))) (acons (addS (ixS (varS 0) (valS (.int 1))) (ixS (varS 1) (valS (.int 1)))) anil))))
def f_left : Fd := defF 1 (seqB (exprB (callS 1 f_need_direction (acons (varS 0) anil)))
    (retB (tupS (acons (negS (ixS (varS 0) (valS (.int 1)))) (acons (ixS (varS 0) (valS (.int 0))) anil)))))
def f_direction_of : Fd := defF 2 (seqB (ifB (orT (notT (valT (callS 1 f_is_cell (acons (varS 0) anil)))) (cmpT qEq (varS 0) (valS g_ORIGIN))) (raiseB "InvalidDirection" 1 mk_InvalidDirection (acons (varS 0) anil)) nilB)
    (seqB (setB 1 (callS 2 f_common (acons (ixS (varS 0) (valS (.int 0))) (acons (ixS (varS 0) (valS (.int 1))) anil))))
    (retB (tupS (acons (divS (ixS (varS 0) (valS (.int 0))) (varS 1)) (acons (divS (ixS (varS 0) (valS (.int 1))) (varS 1)) anil))))))
def f_between : Fd := defF 3 (seqB (setB 2 (callS 2 f_plus (acons (varS 0) (acons (varS 1) anil))))
    (retB (ifS (cmpT qEq (varS 2) (litS (.tup [(.int 0), (.int 0)]))) (callS 1 f_left (acons (varS 0) anil)) (callS 1 f_direction_of (acons (varS 2) anil)))))
def f_split : Fd := defF 5 (seqB (newB 1 (litS (.lst [])))
    (seqB (forB (gt 2 (gsc (gn 2) (gsc (gn 3) gsn))) (enumS (varS 0)) (seqB (setB 4 (ixS (varS 0) (modS (addS (varS 2) (valS (.int 1))) (lenS (varS 0)))))
    (seqB (exprB (appendS (varS 1) (varS 3)))
    (seqB (exprB (appendS (varS 1) (callS 2 f_between (acons (varS 3) (acons (varS 4) anil)))))
    nilB))))
    (frzB 1 (retB (callS 1 f_in_round_order (acons (varS 1) anil))))))
def f_right : Fd := defF 1 (seqB (exprB (callS 1 f_need_direction (acons (varS 0) anil)))
    (retB (tupS (acons (ixS (varS 0) (valS (.int 1))) (acons (negS (ixS (varS 0) (valS (.int 0)))) anil)))))
def f_ends : Fd := defF 5 (seqB (setB 1 (lc2S (.one 2) (.one 3) [2, 3] [3] noIf (callS 1 f_left (acons (callS 1 f_direction_of (acons (varS 3) anil)) anil)) (itS (methS runA [("Book", f_Book_shapes)] 1 [] "shapes" (varS 0) anil)) (itS (varS 2))))
    (retB (callS 1 f_in_round_order (acons (lstS (aconsX (varS 1) (aconsX (lcS (.one 4) [4] noIf (callS 1 f_right (acons (callS 1 f_right (acons (varS 4) anil)) anil)) (itS (varS 1))) anil))) anil))))
def f_barring : Fd := defF 3 (seqB (forB (gn 2) (itS (lstS (acons (varS 1) (aconsX (callS 1 f_split (acons (callS 1 f_in_round_order (acons (lstS (aconsX (callS 1 f_ends (acons (varS 0) anil)) (acons (litS (.tup [(.int 1), (.int 0)])) (acons (litS (.tup [(.int 0), (.int 1)])) (acons (litS (.tup [(.int (-1)), (.int 0)])) (acons (litS (.tup [(.int 0), (.int (-1))])) anil)))))) anil)) anil)) anil)))) (seqB (ifB (andT (cmpT qGt (callS 2 f_product (acons (varS 2) (acons (varS 1) anil))) (valS (.int 0))) (notT (valT (callS 2 f_is_open (acons (varS 0) (acons (varS 2) anil)))))) (retB (varS 2)) nilB)
    nilB))
    (retB (valS (.non))))
def f_is_climbed : Fd := defF 2 (retB (cmpS qIs (callS 2 f_barring (acons (varS 0) (acons (varS 1) anil))) (valS (.non))))
end Lw
end
/-! comprehensions over encoded lists; directions -/
namespace Lw
open PySem Dl
section
variable {α β : Type} {t t1 : Tg} {vs vs1 : List Nat} {env0 : Envt} {ifs : Ft} {elt : Fe} {m : Mem}
theorem lc_enc (enc : α → D) (P : α → Bool) (g : α → D) : ∀ (l : List α) (acc : List D), (∀ x ∈ l, ∃ e, t.put (wipeE env0 vs) (enc x) = some e ∧ ifs e m = .ok (P x) m ∧ (P x = true → ∃ r, elt e m = .ok r m ∧ unl r = .v (g x))) → acc.length + l.length ≤ sizeLine →
    lcGo t vs env0 ifs elt (l.map enc) acc m = .ok (acc ++ (l.filter P).map g) m
  | [], acc, h, hl => by simp [lcGo]
  | x :: l, acc, h, hl => by
    obtain ⟨e, e1, e2, e3⟩ := h x List.mem_cons_self
    rw [List.length_cons] at hl
    have hs : acc.length < sizeLine := by omega
    rw [List.map_cons, lcGo]
    simp only [optR, e1, e2, Rg.nx, Rg.bd]
    cases q : P x with
    | true =>
      obtain ⟨r, r1, r2⟩ := e3 q
      have ih := lc_enc enc P g l (acc ++ [g x]) (fun y hy => h y (List.mem_cons_of_mem _ hy)) (by rw [List.length_append]; simp; omega)
      simp only [if_true, r1, Rg.nx, Rg.bd, r2, frzR, frz, Option.map_some, hs, ih]
      simp [q]
    | false =>
      have ih := lc_enc enc P g l acc (fun y hy => h y (List.mem_cons_of_mem _ hy)) (by omega)
      simp only [Bool.false_eq_true, if_false, ih]
      simp [q]
theorem lcC_enc (enc : α → D) (P : α → Bool) (g : α → D) {n : Nat} {ds0 : List D} (hm : m[n]? = some (.lst ds0)) : ∀ (l : List α) (acc : List D), (∀ x ∈ l, ∃ e, t.put (wipeE env0 vs) (enc x) = some e ∧ ifs e m = .ok (P x) m ∧ (P x = true → ∃ r, elt e m = .ok r m ∧ unl r = .v (g x))) → acc.length + l.length ≤ sizeLine →
    lcGoC t vs env0 ifs elt n ds0 (l.map enc) acc m = .ok (acc ++ (l.filter P).map g) m
  | [], acc, h, hl => by rw [List.map_nil, lcGoC, if_pos hm]; simp
  | x :: l, acc, h, hl => by
    obtain ⟨e, e1, e2, e3⟩ := h x List.mem_cons_self
    rw [List.length_cons] at hl
    have hs : acc.length < sizeLine := by omega
    rw [List.map_cons, lcGoC, if_pos hm]
    simp only [optR, e1, e2, Rg.nx, Rg.bd]
    cases q : P x with
    | true =>
      obtain ⟨r, r1, r2⟩ := e3 q
      have ih := lcC_enc enc P g hm l (acc ++ [g x]) (fun y hy => h y (List.mem_cons_of_mem _ hy)) (by rw [List.length_append]; simp; omega)
      simp only [if_true, r1, Rg.nx, Rg.bd, r2, frzR, frz, Option.map_some, hs, ih]
      simp [q]
    | false =>
      have ih := lcC_enc enc P g hm l acc (fun y hy => h y (List.mem_cons_of_mem _ hy)) (by omega)
      simp only [Bool.false_eq_true, if_false, ih]
      simp [q]
theorem lc2_enc (enc : α → D) (enc1 : α → β → D) (sub : α → List β) (g : α → β → D) {it1 : Fi} : ∀ (l : List α) (acc : List D), (∀ x ∈ l, ∃ e, t.put (wipeE env0 vs) (enc x) = some e ∧ it1 e m = .ok ((sub x).map (enc1 x)) m ∧ ∀ y ∈ sub x, ∃ e1, t1.put (wipeE e vs1) (enc1 x y) = some e1 ∧ ∃ r, elt e1 m = .ok r m ∧ unl r = .v (g x y)) → acc.length + (l.flatMap sub).length ≤ sizeLine →
    lc2Go t t1 vs vs1 env0 noIf elt it1 (l.map enc) acc m = .ok (acc ++ l.flatMap fun x => (sub x).map (g x)) m
  | [], acc, h, hl => by simp [lc2Go]
  | x :: l, acc, h, hl => by
    obtain ⟨e, e1, e2, e3⟩ := h x List.mem_cons_self
    rw [List.flatMap_cons, List.length_append] at hl
    have h1 := lc_enc (t := t1) (vs := vs1) (env0 := e) (ifs := noIf) (elt := elt) (m := m) (enc1 x) (fun _ => true) (g x) (sub x) acc (fun y hy => by
      obtain ⟨e4, a, r, b, c⟩ := e3 y hy
      exact ⟨e4, a, rfl, fun _ => ⟨r, b, c⟩⟩) (by omega)
    have ih := lc2_enc enc enc1 sub g (it1 := it1) l (acc ++ (sub x).map (g x)) (fun y hy => h y (List.mem_cons_of_mem _ hy)) (by rw [List.length_append, List.length_map]; omega)
    rw [List.map_cons, lc2Go]
    simp only [optR, e1, e2, Rg.nx, Rg.bd]
    have hf : (sub x).filter (fun _ => true) = sub x := List.filter_eq_self.mpr fun _ _ => rfl
    rw [hf] at h1
    rw [h1]
    simp only [Rg.bd, ih]
    simp
end
/-! ### directions -/
structure Dr (u : Pt) : Prop where
  g : Int.gcd u.1 u.2 = 1
  b : Bd u
theorem Dr.is {u : Pt} (h : Dr u) : isDir (pD u) = true := isDir_g h.g
theorem Dr.ne {u : Pt} (h : Dr u) : u ≠ (0, 0) := fun z => by have := h.g; rw [z] at this; cases this
theorem Dr.lf {u : Pt} (h : Dr u) : Dr (lf u) := ⟨by show Int.gcd (-u.2) u.1 = 1; rw [Int.neg_gcd, Int.gcd_comm]; exact h.g, by unfold Lw.lf; exact ⟨by simp only [Int.natAbs_neg]; exact h.b.2, h.b.1⟩⟩
theorem Dr.rt {u : Pt} (h : Dr u) : Dr (rt u) := ⟨by show Int.gcd u.2 (-u.1) = 1; rw [Int.gcd_neg, Int.gcd_comm]; exact h.g, by unfold Lw.rt; exact ⟨h.b.2, by simp only [Int.natAbs_neg]; exact h.b.1⟩⟩
theorem Dr.nrm {p : Pt} (h0 : p ≠ (0, 0)) (hb : Bd p) : Dr (nrm p) := by
  have g := gcd_pos' h0
  refine ⟨gcd_unit g, ?_, ?_⟩
  · have := div_abs (x := p.1) g
    have h := hb.1
    show (p.1 / (Int.gcd p.1 p.2 : Int)).natAbs < _
    omega
  · have := div_abs (x := p.2) g
    have h := hb.2
    show (p.2 / (Int.gcd p.1 p.2 : Int)).natAbs < _
    omega
theorem ixp0 (u : Pt) : ixD (pD u) 0 = some (.int u.1) := at0 _ _
theorem ixp1 (u : Pt) : ixD (pD u) 1 = some (.int u.2) := at1 _ _ _
theorem bSh_pD (p q : Pt) : bSh (pD p) (pD q) = true := rfl
theorem n_left {u : Pt} (h : Dr u) (m : Mem) : f_left [.v (pD u)] m = .ok (.v (pD (lf u))) m := by
  have e := n_need (pD u) rfl h.is []
  simp [f_left, callS, lcS, lcGo, itS, seqR, Tg.put, Tg.vs, wipeE, noIf, Dl.locs, renO, pickO, idx, wb, nloc, bSh_ii, eqD_ii, defF, retB, retNB, seqB, setB, newB, parB, asgB, itemB, augB, exprB, ifB, nilB, Oc.bd, Rg.to, Rg.bd, rdR, dr, slR, unl, varS, valS, rd1S, rd2S, addS, addR, subS, subI, mulS, divS, modS, powS, opI, negS, cmpS, cmpT, chainS, chainT, chainR, andS, orS, notS, ifS, valT, andT, orT, notT, isBl, anil, acons, tupS, lstS, frzR, frz, ixS, onone, osome, sliceS, slcR, optR, Rg.nx, lenS, lenD, absS, intS, intOf, allS, anyS, blsR, bls, listS, tupleS, seqD, isiS, isi2S, noOb_non, noOb_bl, noOb_int, noOb_str, noOb_tup, noOb_lst, cellR, appendS, popAtS, popS, insertS, minTS, maxTS, minmaxR, unI, lenSetS, exitR, gn, gsn, gsc, gt, qLt, qLe, qGt, qGe, qEq, qNe, qIn, qNotIn, qIs, qIsNot, qIsB, qIsNotB, bI, fI, bB, eqB, isN, dInt, dBool, dStr, dLst, dTup, litS, litRs, obR, fldS, conS, runA, runM, Dl.runN, Dl.runL, methS, newOb, makeS, obO, intR, strR, blR, lenOS, reprOS, putD, fldB, forEB, forGoE, propS, mixO, lfC, lfM, repS, maxLS, minLS, maxLR, lcCS, lc2S, aconsX, e, ixp0, ixp1]
  rfl
theorem n_right {u : Pt} (h : Dr u) (m : Mem) : f_right [.v (pD u)] m = .ok (.v (pD (rt u))) m := by
  have e := n_need (pD u) rfl h.is []
  simp [f_right, callS, lcS, lcGo, itS, seqR, Tg.put, Tg.vs, wipeE, noIf, Dl.locs, renO, pickO, idx, wb, nloc, bSh_ii, eqD_ii, defF, retB, retNB, seqB, setB, newB, parB, asgB, itemB, augB, exprB, ifB, nilB, Oc.bd, Rg.to, Rg.bd, rdR, dr, slR, unl, varS, valS, rd1S, rd2S, addS, addR, subS, subI, mulS, divS, modS, powS, opI, negS, cmpS, cmpT, chainS, chainT, chainR, andS, orS, notS, ifS, valT, andT, orT, notT, isBl, anil, acons, tupS, lstS, frzR, frz, ixS, onone, osome, sliceS, slcR, optR, Rg.nx, lenS, lenD, absS, intS, intOf, allS, anyS, blsR, bls, listS, tupleS, seqD, isiS, isi2S, noOb_non, noOb_bl, noOb_int, noOb_str, noOb_tup, noOb_lst, cellR, appendS, popAtS, popS, insertS, minTS, maxTS, minmaxR, unI, lenSetS, exitR, gn, gsn, gsc, gt, qLt, qLe, qGt, qGe, qEq, qNe, qIn, qNotIn, qIs, qIsNot, qIsB, qIsNotB, bI, fI, bB, eqB, isN, dInt, dBool, dStr, dLst, dTup, litS, litRs, obR, fldS, conS, runA, runM, Dl.runN, Dl.runL, methS, newOb, makeS, obO, intR, strR, blR, lenOS, reprOS, putD, fldB, forEB, forGoE, propS, mixO, lfC, lfM, repS, maxLS, minLS, maxLR, lcCS, lc2S, aconsX, e, ixp0, ixp1]
  rfl
theorem n_dirof {p : Pt} (h0 : p ≠ (0, 0)) (hb : Bd p) (m : Mem) : f_direction_of [.v (pD p)] m = .ok (.v (pD (nrm p))) m := by
  have g := gcd_pos' h0
  have gl : (Int.gcd p.1 p.2 : Int) ≤ 2 ^ 100 := gcd_le (by have := hb.1; omega) (by have := hb.2; omega)
  have a : Amt (Int.gcd p.1 p.2 : Int) := ⟨g, by
    have := log2_lt' (k := 101) (i := (Int.gcd p.1 p.2 : Int)) (by decide) (by omega)
    omega⟩
  have d1 := divI_ok (i := p.1) a
  have d2 := divI_ok (i := p.2) a
  have c := n_is_cell (pD p) rfl []
  have c' : isCell (pD p) = true := rfl
  have cm := n_common p.1 p.2 []
  have go : g_ORIGIN = pD (0, 0) := rfl
  have hq := eqD_pD p (0, 0)
  rw [decide_eq_false h0] at hq
  simp [f_direction_of, callS, lcS, lcGo, itS, seqR, Tg.put, Tg.vs, wipeE, noIf, Dl.locs, renO, pickO, idx, wb, nloc, bSh_ii, eqD_ii, defF, retB, retNB, seqB, setB, newB, parB, asgB, itemB, augB, exprB, ifB, nilB, Oc.bd, Rg.to, Rg.bd, rdR, dr, slR, unl, varS, valS, rd1S, rd2S, addS, addR, subS, subI, mulS, divS, modS, powS, opI, negS, cmpS, cmpT, chainS, chainT, chainR, andS, orS, notS, ifS, valT, andT, orT, notT, isBl, anil, acons, tupS, lstS, frzR, frz, ixS, onone, osome, sliceS, slcR, optR, Rg.nx, lenS, lenD, absS, intS, intOf, allS, anyS, blsR, bls, listS, tupleS, seqD, isiS, isi2S, noOb_non, noOb_bl, noOb_int, noOb_str, noOb_tup, noOb_lst, cellR, appendS, popAtS, popS, insertS, minTS, maxTS, minmaxR, unI, lenSetS, exitR, gn, gsn, gsc, gt, qLt, qLe, qGt, qGe, qEq, qNe, qIn, qNotIn, qIs, qIsNot, qIsB, qIsNotB, bI, fI, bB, eqB, isN, dInt, dBool, dStr, dLst, dTup, litS, litRs, obR, fldS, conS, runA, runM, Dl.runN, Dl.runL, methS, newOb, makeS, obO, intR, strR, blR, lenOS, reprOS, putD, fldB, forEB, forGoE, propS, mixO, lfC, lfM, repS, maxLS, minLS, maxLR, lcCS, lc2S, aconsX, c, c', go, ixp0, ixp1, bSh_pD, hq, cm, d1, d2]
  rfl
/-- coordinates far within the bounds -/
def Sm (u : Pt) : Prop := u.1.natAbs < 2 ^ 90 ∧ u.2.natAbs < 2 ^ 90
theorem Sm.bd {u : Pt} (h : Sm u) : Bd u := ⟨by have := h.1; omega, by have := h.2; omega⟩
/-! ### round order -/
def upp (u : Pt) : Bool := decide (0 < u.2) || (decide (u.2 = 0) && decide (0 < u.1))
def befP (a b : Pt) : Bool := if upp a = upp b then decide (0 < crs a b) else upp a
theorem n_upper (u : Pt) (m : Mem) : f_is_upper [.v (pD u)] m = .ok (.v (.bl (upp u))) m := by
  by_cases h1 : 0 < u.2
  · simp [f_is_upper, callS, lcS, lcGo, itS, seqR, Tg.put, Tg.vs, wipeE, noIf, Dl.locs, renO, pickO, idx, wb, nloc, bSh_ii, eqD_ii, defF, retB, retNB, seqB, setB, newB, parB, asgB, itemB, augB, exprB, ifB, nilB, Oc.bd, Rg.to, Rg.bd, rdR, dr, slR, unl, varS, valS, rd1S, rd2S, addS, addR, subS, subI, mulS, divS, modS, powS, opI, negS, cmpS, cmpT, chainS, chainT, chainR, andS, orS, notS, ifS, valT, andT, orT, notT, isBl, anil, acons, tupS, lstS, frzR, frz, ixS, onone, osome, sliceS, slcR, optR, Rg.nx, lenS, lenD, absS, intS, intOf, allS, anyS, blsR, bls, listS, tupleS, seqD, isiS, isi2S, noOb_non, noOb_bl, noOb_int, noOb_str, noOb_tup, noOb_lst, cellR, appendS, popAtS, popS, insertS, minTS, maxTS, minmaxR, unI, lenSetS, exitR, gn, gsn, gsc, gt, qLt, qLe, qGt, qGe, qEq, qNe, qIn, qNotIn, qIs, qIsNot, qIsB, qIsNotB, bI, fI, bB, eqB, isN, dInt, dBool, dStr, dLst, dTup, litS, litRs, obR, fldS, conS, runA, runM, Dl.runN, Dl.runL, methS, newOb, makeS, obO, intR, strR, blR, lenOS, reprOS, putD, fldB, forEB, forGoE, propS, mixO, lfC, lfM, repS, maxLS, minLS, maxLR, lcCS, lc2S, aconsX, ixp0, ixp1, upp, h1]
  · by_cases h2 : u.2 = 0
    · simp [f_is_upper, callS, lcS, lcGo, itS, seqR, Tg.put, Tg.vs, wipeE, noIf, Dl.locs, renO, pickO, idx, wb, nloc, bSh_ii, eqD_ii, defF, retB, retNB, seqB, setB, newB, parB, asgB, itemB, augB, exprB, ifB, nilB, Oc.bd, Rg.to, Rg.bd, rdR, dr, slR, unl, varS, valS, rd1S, rd2S, addS, addR, subS, subI, mulS, divS, modS, powS, opI, negS, cmpS, cmpT, chainS, chainT, chainR, andS, orS, notS, ifS, valT, andT, orT, notT, isBl, anil, acons, tupS, lstS, frzR, frz, ixS, onone, osome, sliceS, slcR, optR, Rg.nx, lenS, lenD, absS, intS, intOf, allS, anyS, blsR, bls, listS, tupleS, seqD, isiS, isi2S, noOb_non, noOb_bl, noOb_int, noOb_str, noOb_tup, noOb_lst, cellR, appendS, popAtS, popS, insertS, minTS, maxTS, minmaxR, unI, lenSetS, exitR, gn, gsn, gsc, gt, qLt, qLe, qGt, qGe, qEq, qNe, qIn, qNotIn, qIs, qIsNot, qIsB, qIsNotB, bI, fI, bB, eqB, isN, dInt, dBool, dStr, dLst, dTup, litS, litRs, obR, fldS, conS, runA, runM, Dl.runN, Dl.runL, methS, newOb, makeS, obO, intR, strR, blR, lenOS, reprOS, putD, fldB, forEB, forGoE, propS, mixO, lfC, lfM, repS, maxLS, minLS, maxLR, lcCS, lc2S, aconsX, ixp0, ixp1, upp, h2]
    · simp [f_is_upper, callS, lcS, lcGo, itS, seqR, Tg.put, Tg.vs, wipeE, noIf, Dl.locs, renO, pickO, idx, wb, nloc, bSh_ii, eqD_ii, defF, retB, retNB, seqB, setB, newB, parB, asgB, itemB, augB, exprB, ifB, nilB, Oc.bd, Rg.to, Rg.bd, rdR, dr, slR, unl, varS, valS, rd1S, rd2S, addS, addR, subS, subI, mulS, divS, modS, powS, opI, negS, cmpS, cmpT, chainS, chainT, chainR, andS, orS, notS, ifS, valT, andT, orT, notT, isBl, anil, acons, tupS, lstS, frzR, frz, ixS, onone, osome, sliceS, slcR, optR, Rg.nx, lenS, lenD, absS, intS, intOf, allS, anyS, blsR, bls, listS, tupleS, seqD, isiS, isi2S, noOb_non, noOb_bl, noOb_int, noOb_str, noOb_tup, noOb_lst, cellR, appendS, popAtS, popS, insertS, minTS, maxTS, minmaxR, unI, lenSetS, exitR, gn, gsn, gsc, gt, qLt, qLe, qGt, qGe, qEq, qNe, qIn, qNotIn, qIs, qIsNot, qIsB, qIsNotB, bI, fI, bB, eqB, isN, dInt, dBool, dStr, dLst, dTup, litS, litRs, obR, fldS, conS, runA, runM, Dl.runN, Dl.runL, methS, newOb, makeS, obO, intR, strR, blR, lenOS, reprOS, putD, fldB, forEB, forGoE, propS, mixO, lfC, lfM, repS, maxLS, minLS, maxLR, lcCS, lc2S, aconsX, ixp0, ixp1, upp, h1, h2]
theorem n_before {a b : Pt} (ha : Bd a) (hb : Bd b) (m : Mem) : f_is_before [.v (pD a), .v (pD b)] m = .ok (.v (.bl (befP a b))) m := by
  have e1 := n_upper a []
  have e2 := n_upper b []
  have m1 := mul_bd ha.1 hb.2
  have m2 := mul_bd ha.2 hb.1
  have hc : crs a b = a.1 * b.2 - a.2 * b.1 := rfl
  unfold befP
  rw [hc]
  generalize upp a = p at *
  generalize upp b = q at *
  cases p <;> cases q <;> simp [f_is_before, callS, lcS, lcGo, itS, seqR, Tg.put, Tg.vs, wipeE, noIf, Dl.locs, renO, pickO, idx, wb, nloc, bSh_ii, eqD_ii, defF, retB, retNB, seqB, setB, newB, parB, asgB, itemB, augB, exprB, ifB, nilB, Oc.bd, Rg.to, Rg.bd, rdR, dr, slR, unl, varS, valS, rd1S, rd2S, addS, addR, subS, subI, mulS, divS, modS, powS, opI, negS, cmpS, cmpT, chainS, chainT, chainR, andS, orS, notS, ifS, valT, andT, orT, notT, isBl, anil, acons, tupS, lstS, frzR, frz, ixS, onone, osome, sliceS, slcR, optR, Rg.nx, lenS, lenD, absS, intS, intOf, allS, anyS, blsR, bls, listS, tupleS, seqD, isiS, isi2S, noOb_non, noOb_bl, noOb_int, noOb_str, noOb_tup, noOb_lst, cellR, appendS, popAtS, popS, insertS, minTS, maxTS, minmaxR, unI, lenSetS, exitR, gn, gsn, gsc, gt, qLt, qLe, qGt, qGe, qEq, qNe, qIn, qNotIn, qIs, qIsNot, qIsB, qIsNotB, bI, fI, bB, eqB, isN, dInt, dBool, dStr, dLst, dTup, litS, litRs, obR, fldS, conS, runA, runM, Dl.runN, Dl.runL, methS, newOb, makeS, obO, intR, strR, blR, lenOS, reprOS, putD, fldB, forEB, forGoE, propS, mixO, lfC, lfM, repS, maxLS, minLS, maxLR, lcCS, lc2S, aconsX, e1, e2, bSh_bb, eqD_bb, ixp0, ixp1, m1, m2]
end Lw
/-! round order, split, ends -/
namespace Lw
open PySem Dl
def insP (d : Pt) (qs : List Pt) : List Pt := if d ∈ qs then qs else qs.take (qs.filter (befP · d)).length ++ [d] ++ qs.drop (qs.filter (befP · d)).length
def roundP (ps : List Pt) : List Pt := ps.foldl (fun q d => insP d q) []
theorem mem_insP {d x : Pt} {qs : List Pt} : x ∈ insP d qs ↔ x = d ∨ x ∈ qs := by
  unfold insP
  split
  · exact ⟨.inr, fun h => h.elim (fun z => by rw [z]; assumption) id⟩
  · generalize (qs.filter (befP · d)).length = k
    have e := List.take_append_drop k qs
    constructor
    · intro h
      rcases List.mem_append.mp h with h | h
      · rcases List.mem_append.mp h with h | h
        · exact .inr (List.mem_of_mem_take h)
        · exact .inl (List.mem_singleton.mp h)
      · exact .inr (List.mem_of_mem_drop h)
    · rintro (rfl | h)
      · exact List.mem_append_left _ (List.mem_append_right _ (List.mem_singleton.mpr rfl))
      · rw [← e] at h
        rcases List.mem_append.mp h with h | h
        · exact List.mem_append_left _ (List.mem_append_left _ h)
        · exact List.mem_append_right _ h
theorem len_insP (d : Pt) (qs : List Pt) : (insP d qs).length ≤ qs.length + 1 := by
  unfold insP
  split
  · omega
  · simp only [List.length_append, List.length_take, List.length_drop, List.length_singleton]
    have := List.length_filter_le (befP · d) qs
    omega
theorem mem_fold {x : Pt} : ∀ (ps qs : List Pt), x ∈ ps.foldl (fun q d => insP d q) qs ↔ x ∈ ps ∨ x ∈ qs
  | [], qs => by simp
  | d :: ps, qs => by
    rw [List.foldl_cons, mem_fold ps (insP d qs), mem_insP, List.mem_cons]
    constructor
    · rintro (h | h | h)
      · exact .inl (.inr h)
      · exact .inl (.inl h)
      · exact .inr h
    · rintro ((h | h) | h)
      · exact .inr (.inl h)
      · exact .inl h
      · exact .inr (.inr h)
theorem len_fold : ∀ (ps qs : List Pt), (ps.foldl (fun q d => insP d q) qs).length ≤ qs.length + ps.length
  | [], qs => by simp
  | d :: ps, qs => by
    rw [List.foldl_cons]
    have := len_fold ps (insP d qs)
    have := len_insP d qs
    rw [List.length_cons]
    omega
theorem mem_round {x : Pt} (ps : List Pt) : x ∈ roundP ps ↔ x ∈ ps := by unfold roundP; rw [mem_fold]; simp
theorem len_round (ps : List Pt) : (roundP ps).length ≤ ps.length := by have := len_fold ps []; unfold roundP; simpa using this
noncomputable abbrev rB : Fs := seqB (exprB (callS 1 f_need_direction (acons (varS 2) anil)))
    (seqB (ifB (cmpT qNotIn (varS 2) (varS 1)) (seqB (setB 3 (lenS (lcCS (.one 4) [4] (valT (callS 2 f_is_before (acons (varS 4) (acons (varS 2) anil)))) (varS 4) (varS 1))))
    (seqB (exprB (insertS (varS 1) (acons (varS 3) (acons (varS 2) anil))))
    nilB)) nilB)
    nilB)
theorem seqB_end {a : Fs} {e e' : Envt} {m m' : Mem} (h : a e m = .nx e' m') : seqB a nilB e m = .nx e' m' := (seqB_nx h).trans rfl
theorem bIn_pD (d : Pt) (qs : List Pt) : bIn (pD d) (.lst (qs.map pD)) = true := by
  unfold bIn
  show (true && sh (pD d) && sh (sL qs)) = true
  rw [sh_sL, sh_pD]; rfl
theorem round_step {d : Pt} (hd : Dr d) (qs : List Pt) (hq : ∀ q ∈ qs, Bd q) (hl : qs.length ≤ 100) (A o3 o4 : Option Sl) : ∃ o3', rB [A, some (.loc 0), some (.v (pD d)), o3, o4] [.lst (qs.map pD)] = .nx [A, some (.loc 0), some (.v (pD d)), o3', o4] [.lst ((insP d qs).map pD)] := by
  have e1 := n_need (pD d) rfl hd.is []
  have hb := bIn_pD d qs
  have hi := inD_pD d qs
  by_cases hm : d ∈ qs
  · rw [decide_eq_true hm] at hi
    refine ⟨o3, ?_⟩
    refine (seqB_nx (by conv => lhs; simp [callS, lcS, lcGo, itS, seqR, Tg.put, Tg.vs, wipeE, noIf, Dl.locs, renO, pickO, idx, wb, nloc, bSh_ii, eqD_ii, defF, retB, retNB, seqB, setB, newB, parB, asgB, itemB, augB, exprB, ifB, nilB, Oc.bd, Rg.to, Rg.bd, rdR, dr, slR, unl, varS, valS, rd1S, rd2S, addS, addR, subS, subI, mulS, divS, modS, powS, opI, negS, cmpS, cmpT, chainS, chainT, chainR, andS, orS, notS, ifS, valT, andT, orT, notT, isBl, anil, acons, tupS, lstS, frzR, frz, ixS, onone, osome, sliceS, slcR, optR, Rg.nx, lenS, lenD, absS, intS, intOf, allS, anyS, blsR, bls, listS, tupleS, seqD, isiS, isi2S, noOb_non, noOb_bl, noOb_int, noOb_str, noOb_tup, noOb_lst, cellR, appendS, popAtS, popS, insertS, minTS, maxTS, minmaxR, unI, lenSetS, exitR, gn, gsn, gsc, gt, qLt, qLe, qGt, qGe, qEq, qNe, qIn, qNotIn, qIs, qIsNot, qIsB, qIsNotB, bI, fI, bB, eqB, isN, dInt, dBool, dStr, dLst, dTup, litS, litRs, obR, fldS, conS, runA, runM, Dl.runN, Dl.runL, methS, newOb, makeS, obO, intR, strR, blR, lenOS, reprOS, putD, fldB, forEB, forGoE, propS, mixO, lfC, lfM, repS, maxLS, minLS, maxLR, lcCS, lc2S, aconsX, e1])).trans ?_
    have ei : insP d qs = qs := if_pos hm
    rw [ei]
    refine seqB_end ?_
    simp [callS, lcS, lcGo, itS, seqR, Tg.put, Tg.vs, wipeE, noIf, Dl.locs, renO, pickO, idx, wb, nloc, bSh_ii, eqD_ii, defF, retB, retNB, seqB, setB, newB, parB, asgB, itemB, augB, exprB, ifB, nilB, Oc.bd, Rg.to, Rg.bd, rdR, dr, slR, unl, varS, valS, rd1S, rd2S, addS, addR, subS, subI, mulS, divS, modS, powS, opI, negS, cmpS, cmpT, chainS, chainT, chainR, andS, orS, notS, ifS, valT, andT, orT, notT, isBl, anil, acons, tupS, lstS, frzR, frz, ixS, onone, osome, sliceS, slcR, optR, Rg.nx, lenS, lenD, absS, intS, intOf, allS, anyS, blsR, bls, listS, tupleS, seqD, isiS, isi2S, noOb_non, noOb_bl, noOb_int, noOb_str, noOb_tup, noOb_lst, cellR, appendS, popAtS, popS, insertS, minTS, maxTS, minmaxR, unI, lenSetS, exitR, gn, gsn, gsc, gt, qLt, qLe, qGt, qGe, qEq, qNe, qIn, qNotIn, qIs, qIsNot, qIsB, qIsNotB, bI, fI, bB, eqB, isN, dInt, dBool, dStr, dLst, dTup, litS, litRs, obR, fldS, conS, runA, runM, Dl.runN, Dl.runL, methS, newOb, makeS, obO, intR, strR, blR, lenOS, reprOS, putD, fldB, forEB, forGoE, propS, mixO, lfC, lfM, repS, maxLS, minLS, maxLR, lcCS, lc2S, aconsX, items, hb, hi]
  · rw [decide_eq_false hm] at hi
    refine ⟨some (.v (.int (((qs.filter (befP · d)).length : Nat) : Int))), ?_⟩
    have hlc := lcC_enc (t := .one 4) (vs := [4]) (env0 := [A, some (.loc 0), some (.v (pD d)), o3, o4]) (ifs := valT (callS 2 f_is_before (acons (varS 4) (acons (varS 2) anil)))) (elt := varS 4) (m := [.lst (qs.map pD)]) pD (befP · d) pD (n := 0) rfl qs [] (fun x hx => by
      have e := n_before (hq x hx) hd.b []
      exact ⟨_, rfl, by simp [callS, lcS, lcGo, itS, seqR, Tg.put, Tg.vs, wipeE, noIf, Dl.locs, renO, pickO, idx, wb, nloc, bSh_ii, eqD_ii, defF, retB, retNB, seqB, setB, newB, parB, asgB, itemB, augB, exprB, ifB, nilB, Oc.bd, Rg.to, Rg.bd, rdR, dr, slR, unl, varS, valS, rd1S, rd2S, addS, addR, subS, subI, mulS, divS, modS, powS, opI, negS, cmpS, cmpT, chainS, chainT, chainR, andS, orS, notS, ifS, valT, andT, orT, notT, isBl, anil, acons, tupS, lstS, frzR, frz, ixS, onone, osome, sliceS, slcR, optR, Rg.nx, lenS, lenD, absS, intS, intOf, allS, anyS, blsR, bls, listS, tupleS, seqD, isiS, isi2S, noOb_non, noOb_bl, noOb_int, noOb_str, noOb_tup, noOb_lst, cellR, appendS, popAtS, popS, insertS, minTS, maxTS, minmaxR, unI, lenSetS, exitR, gn, gsn, gsc, gt, qLt, qLe, qGt, qGe, qEq, qNe, qIn, qNotIn, qIs, qIsNot, qIsB, qIsNotB, bI, fI, bB, eqB, isN, dInt, dBool, dStr, dLst, dTup, litS, litRs, obR, fldS, conS, runA, runM, Dl.runN, Dl.runL, methS, newOb, makeS, obO, intR, strR, blR, lenOS, reprOS, putD, fldB, forEB, forGoE, propS, mixO, lfC, lfM, repS, maxLS, minLS, maxLR, lcCS, lc2S, aconsX, e], fun _ => ⟨_, rfl, rfl⟩⟩) (by simpa using szle _ (by omega))
    refine (seqB_nx (by conv => lhs; simp [callS, lcS, lcGo, itS, seqR, Tg.put, Tg.vs, wipeE, noIf, Dl.locs, renO, pickO, idx, wb, nloc, bSh_ii, eqD_ii, defF, retB, retNB, seqB, setB, newB, parB, asgB, itemB, augB, exprB, ifB, nilB, Oc.bd, Rg.to, Rg.bd, rdR, dr, slR, unl, varS, valS, rd1S, rd2S, addS, addR, subS, subI, mulS, divS, modS, powS, opI, negS, cmpS, cmpT, chainS, chainT, chainR, andS, orS, notS, ifS, valT, andT, orT, notT, isBl, anil, acons, tupS, lstS, frzR, frz, ixS, onone, osome, sliceS, slcR, optR, Rg.nx, lenS, lenD, absS, intS, intOf, allS, anyS, blsR, bls, listS, tupleS, seqD, isiS, isi2S, noOb_non, noOb_bl, noOb_int, noOb_str, noOb_tup, noOb_lst, cellR, appendS, popAtS, popS, insertS, minTS, maxTS, minmaxR, unI, lenSetS, exitR, gn, gsn, gsc, gt, qLt, qLe, qGt, qGe, qEq, qNe, qIn, qNotIn, qIs, qIsNot, qIsB, qIsNotB, bI, fI, bB, eqB, isN, dInt, dBool, dStr, dLst, dTup, litS, litRs, obR, fldS, conS, runA, runM, Dl.runN, Dl.runL, methS, newOb, makeS, obO, intR, strR, blR, lenOS, reprOS, putD, fldB, forEB, forGoE, propS, mixO, lfC, lfM, repS, maxLS, minLS, maxLR, lcCS, lc2S, aconsX, e1])).trans ?_
    have ei : (insP d qs).map pD = (qs.map pD).take (qs.filter (befP · d)).length ++ [pD d] ++ (qs.map pD).drop (qs.filter (befP · d)).length := by
      unfold insP
      rw [if_neg hm]
      simp [List.map_take, List.map_drop]
    rw [ei]
    have hk : (qs.filter (befP · d)).length ≤ 100 := Nat.le_trans (List.length_filter_le _ _) hl
    have hs : qs.length < sizeLine := szl _ hl
    simp only [List.nil_append] at hlc
    generalize hF : qs.filter (befP · d) = F at *
    have b1 : ((F.length : Nat) : Int) < 9223372036854775808 := by omega
    generalize valT (callS 2 f_is_before (acons (varS 4) (acons (varS 2) anil))) = T at *
    refine seqB_end ?_
    simp [callS, lcS, lcGo, itS, seqR, Tg.put, Tg.vs, wipeE, noIf, Dl.locs, renO, pickO, idx, wb, nloc, bSh_ii, eqD_ii, defF, retB, retNB, seqB, setB, newB, parB, asgB, itemB, augB, exprB, ifB, nilB, Oc.bd, Rg.to, Rg.bd, rdR, dr, slR, unl, varS, valS, rd1S, rd2S, addS, addR, subS, subI, mulS, divS, modS, powS, opI, negS, cmpS, cmpT, chainS, chainT, chainR, andS, orS, notS, ifS, valT, andT, orT, notT, isBl, anil, acons, tupS, lstS, frzR, frz, ixS, onone, osome, sliceS, slcR, optR, Rg.nx, lenS, lenD, absS, intS, intOf, allS, anyS, blsR, bls, listS, tupleS, seqD, isiS, isi2S, noOb_non, noOb_bl, noOb_int, noOb_str, noOb_tup, noOb_lst, cellR, appendS, popAtS, popS, insertS, minTS, maxTS, minmaxR, unI, lenSetS, exitR, gn, gsn, gsc, gt, qLt, qLe, qGt, qGe, qEq, qNe, qIn, qNotIn, qIs, qIsNot, qIsB, qIsNotB, bI, fI, bB, eqB, isN, dInt, dBool, dStr, dLst, dTup, litS, litRs, obR, fldS, conS, runA, runM, Dl.runN, Dl.runL, methS, newOb, makeS, obO, intR, strR, blR, lenOS, reprOS, putD, fldB, forEB, forGoE, propS, mixO, lfC, lfM, repS, maxLS, minLS, maxLR, lcCS, lc2S, aconsX, items, hb, hi, hlc, hs, b1]
theorem round_loop : ∀ (ps qs : List Pt) (A o2 o3 o4 : Option Sl), (∀ p ∈ ps, Dr p) → (∀ q ∈ qs, Bd q) → qs.length + ps.length ≤ 100 → ∃ o2' o3', forGo (gn 2) rB (ps.map pD) [A, some (.loc 0), o2, o3, o4] [.lst (qs.map pD)] = .nx [A, some (.loc 0), o2', o3', o4] [.lst ((ps.foldl (fun q d => insP d q) qs).map pD)]
  | [], qs, A, o2, o3, o4, _, _, _ => ⟨o2, o3, rfl⟩
  | d :: ps, qs, A, o2, o3, o4, hp, hq, hl => by
    rw [List.length_cons] at hl
    obtain ⟨o3', e⟩ := round_step (hp d List.mem_cons_self) qs hq (by omega) A o3 o4
    obtain ⟨p2, p3, e2⟩ := round_loop ps (insP d qs) A (some (.v (pD d))) o3' o4 (fun p h => hp p (List.mem_cons_of_mem _ h)) (fun q h => by
      rcases mem_insP.mp h with rfl | h
      · exact (hp q List.mem_cons_self).b
      · exact hq q h) (by have := len_insP d qs; omega)
    refine ⟨p2, p3, ?_⟩
    rw [List.map_cons, forGo]
    simp only [gn, List.set]
    rw [e]
    exact e2
theorem n_round (ps : List Pt) (hp : ∀ p ∈ ps, Dr p) (hl : ps.length ≤ 100) : f_in_round_order [.v (.lst (ps.map pD))] [] = .ok (.nl ((roundP ps).map pD)) [] := by
  obtain ⟨p2, p3, e⟩ := round_loop ps [] (some (.v (.lst (ps.map pD)))) none none none hp (by simp) (by simpa using hl)
  refine (defF_ex (l := 5) (rs := [.v (.lst (ps.map pD))]) (m := []) (r := .loc 0) (m' := [.lst ((roundP ps).map pD)]) ?_).trans rfl
  simp only [List.map_cons, List.map_nil, List.length_cons, List.length_nil, List.replicate]
  refine (seqB_nx (by conv => lhs; simp [callS, lcS, lcGo, itS, seqR, Tg.put, Tg.vs, wipeE, noIf, Dl.locs, renO, pickO, idx, wb, nloc, bSh_ii, eqD_ii, defF, retB, retNB, seqB, setB, newB, parB, asgB, itemB, augB, exprB, ifB, nilB, Oc.bd, Rg.to, Rg.bd, rdR, dr, slR, unl, varS, valS, rd1S, rd2S, addS, addR, subS, subI, mulS, divS, modS, powS, opI, negS, cmpS, cmpT, chainS, chainT, chainR, andS, orS, notS, ifS, valT, andT, orT, notT, isBl, anil, acons, tupS, lstS, frzR, frz, ixS, onone, osome, sliceS, slcR, optR, Rg.nx, lenS, lenD, absS, intS, intOf, allS, anyS, blsR, bls, listS, tupleS, seqD, isiS, isi2S, noOb_non, noOb_bl, noOb_int, noOb_str, noOb_tup, noOb_lst, cellR, appendS, popAtS, popS, insertS, minTS, maxTS, minmaxR, unI, lenSetS, exitR, gn, gsn, gsc, gt, qLt, qLe, qGt, qGe, qEq, qNe, qIn, qNotIn, qIs, qIsNot, qIsB, qIsNotB, bI, fI, bB, eqB, isN, dInt, dBool, dStr, dLst, dTup, litS, litRs, obR, fldS, conS, runA, runM, Dl.runN, Dl.runL, methS, newOb, makeS, obO, intR, strR, blR, lenOS, reprOS, putD, fldB, forEB, forGoE, propS, mixO, lfC, lfM, repS, maxLS, minLS, maxLR, lcCS, lc2S, aconsX])).trans ?_
  refine (seqB_nx (e' := [some (.v (.lst (ps.map pD))), some (.loc 0), p2, p3, none]) (m' := [.lst ((roundP ps).map pD)]) ?_).trans rfl
  unfold forB
  have : itS (varS 0) [some (.v (.lst (ps.map pD))), some (.loc 0), none, none, none] [.lst []] = .ok (ps.map pD) [.lst []] := by simp [callS, lcS, lcGo, itS, seqR, Tg.put, Tg.vs, wipeE, noIf, Dl.locs, renO, pickO, idx, wb, nloc, bSh_ii, eqD_ii, defF, retB, retNB, seqB, setB, newB, parB, asgB, itemB, augB, exprB, ifB, nilB, Oc.bd, Rg.to, Rg.bd, rdR, dr, slR, unl, varS, valS, rd1S, rd2S, addS, addR, subS, subI, mulS, divS, modS, powS, opI, negS, cmpS, cmpT, chainS, chainT, chainR, andS, orS, notS, ifS, valT, andT, orT, notT, isBl, anil, acons, tupS, lstS, frzR, frz, ixS, onone, osome, sliceS, slcR, optR, Rg.nx, lenS, lenD, absS, intS, intOf, allS, anyS, blsR, bls, listS, tupleS, seqD, isiS, isi2S, noOb_non, noOb_bl, noOb_int, noOb_str, noOb_tup, noOb_lst, cellR, appendS, popAtS, popS, insertS, minTS, maxTS, minmaxR, unI, lenSetS, exitR, gn, gsn, gsc, gt, qLt, qLe, qGt, qGe, qEq, qNe, qIn, qNotIn, qIs, qIsNot, qIsB, qIsNotB, bI, fI, bB, eqB, isN, dInt, dBool, dStr, dLst, dTup, litS, litRs, obR, fldS, conS, runA, runM, Dl.runN, Dl.runL, methS, newOb, makeS, obO, intR, strR, blR, lenOS, reprOS, putD, fldB, forEB, forGoE, propS, mixO, lfC, lfM, repS, maxLS, minLS, maxLR, lcCS, lc2S, aconsX]
  rw [this]
  exact e
end Lw
/-! split, ends -/
namespace Lw
open PySem Dl
/-! ### ends -/
def acr (ms : List (List Pt)) : List Pt := ((ms.map sortP).flatMap id).map eL
def endsP (ms : List (List Pt)) : List Pt := roundP (acr ms ++ (acr ms).map fun p => rt (rt p))
theorem Dr.sm_nrm {p : Pt} (h : p ∈ near2P) : p ≠ (0, 0) ∧ Sm p ∧ Dr (eL p) ∧ Sm (eL p) ∧ Dr (eR p) ∧ Sm (eR p) := by
  have h1 : ∀ p ∈ near2P, p ≠ (0, 0) ∧ Int.gcd (eL p).1 (eL p).2 = 1 ∧ Int.gcd (eR p).1 (eR p).2 = 1 ∧ ((eL p).1.natAbs ≤ 2 ∧ (eL p).2.natAbs ≤ 2) ∧ ((eR p).1.natAbs ≤ 2 ∧ (eR p).2.natAbs ≤ 2) ∧ p.1.natAbs ≤ 2 ∧ p.2.natAbs ≤ 2 := by decide +kernel
  obtain ⟨a, b, c, ⟨d1, d2⟩, ⟨e1, e2⟩, f1, f2⟩ := h1 p h
  exact ⟨a, ⟨by omega, by omega⟩, ⟨b, ⟨by omega, by omega⟩⟩, ⟨by omega, by omega⟩, ⟨c, ⟨by omega, by omega⟩⟩, ⟨by omega, by omega⟩⟩
theorem m_shapes (ms : List (List Pt)) (h5 : ms.length ≤ 5) (env : Envt) (i : Nat) (m : Mem) (he : env[i]? = some (some (.v (bookD ms)))) : methS runA [("Book", f_Book_shapes)] 1 [] "shapes" (varS i) anil env m = .ok (.nl ((ms.map sortP).map sL)) m := by
  have e3 : f_Book_shapes [.v (.ob "Book" [("held", .tup ((ms.map sortP).map sT))])] [] = .ok (.nl ((ms.map sortP).map sL)) [] := n_shapes ms h5
  have ne : ¬ (("shapes" : Str) = "held") := by decide +kernel
  unfold bookD at he
  generalize (ms.map sortP).map sT = T at e3 he ⊢
  generalize (ms.map sortP).map sL = L at e3 ⊢
  simp [methS, varS, he, Rg.bd, slR, obR, optR, anil, unl, runA, Dl.locs, renO, pickO, e3, nloc, wb, ne]
theorem n_ends (ms : List (List Pt)) (ok : ModOk ms) (h5 : ms.length ≤ 5) : f_ends [.v (bookD ms)] [] = .ok (.nl ((endsP ms).map pD)) [] := by
  have es := n_shapes ms h5
  have near : ∀ s ∈ ms.map sortP, ∀ p ∈ s, p ∈ near2P := fun s hs p hp => by
    obtain ⟨t, ht, rfl⟩ := List.mem_map.mp hs
    exact (ok.sh t ht).near p (mem_sortP.mp hp)
  have len4 : ∀ l : List (List Pt), (∀ s ∈ l, s.length ≤ 4) → (l.flatMap id).length ≤ 4 * l.length := fun l => by
    induction l with
    | nil => intro _; simp
    | cons s l ih =>
      intro h
      have h1 := h s List.mem_cons_self
      have h2 := ih fun x hx => h x (List.mem_cons_of_mem _ hx)
      rw [List.flatMap_cons, List.length_append, List.length_cons]
      simp only [id]
      omega
  have hlen : ((ms.map sortP).flatMap id).length ≤ 20 := by
    have := len4 (ms.map sortP) (fun s hs => by
      obtain ⟨t, ht, rfl⟩ := List.mem_map.mp hs
      rw [sortP_len]; exact (ok.sh t ht).l4)
    rw [List.length_map] at this
    omega
  have hmem : ∀ p ∈ (ms.map sortP).flatMap id, p ∈ near2P := fun p hp => by
    obtain ⟨s, hs, h⟩ := List.mem_flatMap.mp hp
    exact near s hs p h
  have hac : ∀ q ∈ acr ms, Dr q ∧ Sm q := fun q hq => by
    obtain ⟨p, hp, rfl⟩ := List.mem_map.mp hq
    obtain ⟨_, _, a, b, _, _⟩ := Dr.sm_nrm (hmem p hp)
    exact ⟨a, b⟩
  have l1 := lc2_enc (t := .one 2) (t1 := .one 3) (vs := [2, 3]) (vs1 := [3]) (env0 := [some (.v (bookD ms)), none, none, none, none]) (elt := callS 1 f_left (acons (callS 1 f_direction_of (acons (varS 3) anil)) anil)) (m := []) sL (fun _ => pD) id (fun _ p => pD (eL p)) (it1 := itS (varS 2)) (ms.map sortP) [] (fun s hs => ⟨_, rfl, by simp [callS, lcS, lcGo, itS, seqR, Tg.put, Tg.vs, wipeE, noIf, Dl.locs, renO, pickO, idx, wb, nloc, bSh_ii, eqD_ii, defF, retB, retNB, seqB, setB, newB, parB, asgB, itemB, augB, exprB, ifB, nilB, Oc.bd, Rg.to, Rg.bd, rdR, dr, slR, unl, varS, valS, rd1S, rd2S, addS, addR, subS, subI, mulS, divS, modS, powS, opI, negS, cmpS, cmpT, chainS, chainT, chainR, andS, orS, notS, ifS, valT, andT, orT, notT, isBl, anil, acons, tupS, lstS, frzR, frz, ixS, onone, osome, sliceS, slcR, optR, Rg.nx, lenS, lenD, absS, intS, intOf, allS, anyS, blsR, bls, listS, tupleS, seqD, isiS, isi2S, noOb_non, noOb_bl, noOb_int, noOb_str, noOb_tup, noOb_lst, cellR, appendS, popAtS, popS, insertS, minTS, maxTS, minmaxR, unI, lenSetS, exitR, gn, gsn, gsc, gt, qLt, qLe, qGt, qGe, qEq, qNe, qIn, qNotIn, qIs, qIsNot, qIsB, qIsNotB, bI, fI, bB, eqB, isN, dInt, dBool, dStr, dLst, dTup, litS, litRs, obR, fldS, conS, runA, runM, Dl.runN, Dl.runL, methS, newOb, makeS, obO, intR, strR, blR, lenOS, reprOS, putD, fldB, forEB, forGoE, propS, mixO, lfC, lfM, repS, maxLS, minLS, maxLR, lcCS, lc2S, aconsX, sL], fun p hp => by
    obtain ⟨a, b, c, _, _, _⟩ := Dr.sm_nrm (near s hs p hp)
    have e1 := n_dirof a b.bd []
    have e2 := n_left (Dr.nrm a b.bd) []
    exact ⟨_, rfl, .v (pD (eL p)), by simp [callS, lcS, lcGo, itS, seqR, Tg.put, Tg.vs, wipeE, noIf, Dl.locs, renO, pickO, idx, wb, nloc, bSh_ii, eqD_ii, defF, retB, retNB, seqB, setB, newB, parB, asgB, itemB, augB, exprB, ifB, nilB, Oc.bd, Rg.to, Rg.bd, rdR, dr, slR, unl, varS, valS, rd1S, rd2S, addS, addR, subS, subI, mulS, divS, modS, powS, opI, negS, cmpS, cmpT, chainS, chainT, chainR, andS, orS, notS, ifS, valT, andT, orT, notT, isBl, anil, acons, tupS, lstS, frzR, frz, ixS, onone, osome, sliceS, slcR, optR, Rg.nx, lenS, lenD, absS, intS, intOf, allS, anyS, blsR, bls, listS, tupleS, seqD, isiS, isi2S, noOb_non, noOb_bl, noOb_int, noOb_str, noOb_tup, noOb_lst, cellR, appendS, popAtS, popS, insertS, minTS, maxTS, minmaxR, unI, lenSetS, exitR, gn, gsn, gsc, gt, qLt, qLe, qGt, qGe, qEq, qNe, qIn, qNotIn, qIs, qIsNot, qIsB, qIsNotB, bI, fI, bB, eqB, isN, dInt, dBool, dStr, dLst, dTup, litS, litRs, obR, fldS, conS, runA, runM, Dl.runN, Dl.runL, methS, newOb, makeS, obO, intR, strR, blR, lenOS, reprOS, putD, fldB, forEB, forGoE, propS, mixO, lfC, lfM, repS, maxLS, minLS, maxLR, lcCS, lc2S, aconsX, e1, e2, eL], rfl⟩⟩) (by rw [List.length_nil, Nat.zero_add]; exact szle _ (by omega))
  have el : ((ms.map sortP).flatMap fun s => (id s).map fun p => pD (eL p)) = (acr ms).map pD := by
    unfold acr
    rw [List.map_map, List.map_flatMap]
    rfl
  rw [el, List.nil_append] at l1
  have l2 := lc_enc (t := .one 4) (vs := [4]) (env0 := [some (.v (bookD ms)), some (.v (.lst ((acr ms).map pD))), none, none, none]) (ifs := noIf) (elt := callS 1 f_right (acons (callS 1 f_right (acons (varS 4) anil)) anil)) (m := []) pD (fun _ => true) (fun p => pD (rt (rt p))) (acr ms) [] (fun p hp => by
    have e1 := n_right (hac p hp).1 []
    have e2 := n_right (hac p hp).1.rt []
    exact ⟨_, rfl, rfl, fun _ => ⟨.v (pD (rt (rt p))), by simp [callS, lcS, lcGo, itS, seqR, Tg.put, Tg.vs, wipeE, noIf, Dl.locs, renO, pickO, idx, wb, nloc, bSh_ii, eqD_ii, defF, retB, retNB, seqB, setB, newB, parB, asgB, itemB, augB, exprB, ifB, nilB, Oc.bd, Rg.to, Rg.bd, rdR, dr, slR, unl, varS, valS, rd1S, rd2S, addS, addR, subS, subI, mulS, divS, modS, powS, opI, negS, cmpS, cmpT, chainS, chainT, chainR, andS, orS, notS, ifS, valT, andT, orT, notT, isBl, anil, acons, tupS, lstS, frzR, frz, ixS, onone, osome, sliceS, slcR, optR, Rg.nx, lenS, lenD, absS, intS, intOf, allS, anyS, blsR, bls, listS, tupleS, seqD, isiS, isi2S, noOb_non, noOb_bl, noOb_int, noOb_str, noOb_tup, noOb_lst, cellR, appendS, popAtS, popS, insertS, minTS, maxTS, minmaxR, unI, lenSetS, exitR, gn, gsn, gsc, gt, qLt, qLe, qGt, qGe, qEq, qNe, qIn, qNotIn, qIs, qIsNot, qIsB, qIsNotB, bI, fI, bB, eqB, isN, dInt, dBool, dStr, dLst, dTup, litS, litRs, obR, fldS, conS, runA, runM, Dl.runN, Dl.runL, methS, newOb, makeS, obO, intR, strR, blR, lenOS, reprOS, putD, fldB, forEB, forGoE, propS, mixO, lfC, lfM, repS, maxLS, minLS, maxLR, lcCS, lc2S, aconsX, e1, e2], rfl⟩⟩) (by
      have : (acr ms).length ≤ 20 := by unfold acr; rw [List.length_map]; exact hlen
      simpa using szle _ (by omega))
  have hf : (acr ms).filter (fun _ => true) = acr ms := List.filter_eq_self.mpr fun _ _ => rfl
  rw [hf, List.nil_append] at l2
  have la : (acr ms).length ≤ 20 := by unfold acr; rw [List.length_map]; exact hlen
  have er := n_round (acr ms ++ (acr ms).map fun p => rt (rt p)) (fun q hq => by
    rcases List.mem_append.mp hq with h | h
    · exact (hac q h).1
    · obtain ⟨p, hp, rfl⟩ := List.mem_map.mp h
      exact (hac p hp).1.rt.rt) (by rw [List.length_append, List.length_map]; omega)
  rw [List.map_append, List.map_map] at er
  have e3 : (pD ∘ fun p => rt (rt p)) = fun p => pD (rt (rt p)) := rfl
  rw [e3] at er
  refine (defF_ex (l := 5) (rs := [.v (bookD ms)]) (m := []) (r := .nl ((endsP ms).map pD)) (m' := []) ?_).trans rfl
  simp only [List.map_cons, List.map_nil, List.length_cons, List.length_nil, List.replicate]
  have eb : bookD ms = .ob "Book" [("held", .tup ((ms.map sortP).map sT))] := rfl
  have em : itS (methS runA [("Book", f_Book_shapes)] 1 [] "shapes" (varS 0) anil) [some (.v (bookD ms)), none, none, none, none] [] = .ok ((ms.map sortP).map sL) [] := by
    unfold itS
    rw [m_shapes ms h5 _ 0 [] rfl]
    rfl
  have em2 : setB 1 (lc2S (.one 2) (.one 3) [2, 3] [3] noIf (callS 1 f_left (acons (callS 1 f_direction_of (acons (varS 3) anil)) anil)) (itS (methS runA [("Book", f_Book_shapes)] 1 [] "shapes" (varS 0) anil)) (itS (varS 2))) [some (.v (bookD ms)), none, none, none, none] [] = .nx [some (.v (bookD ms)), some (.v (.lst ((acr ms).map pD))), none, none, none] [] := by
    simp only [setB, lc2S, em, Rg.bd, l1, Rg.to, List.set, unl]
  refine (seqB_nx em2).trans ?_
  have em3 : lcS (.one 4) [4] noIf (callS 1 f_right (acons (callS 1 f_right (acons (varS 4) anil)) anil)) (itS (varS 1)) [some (.v (bookD ms)), some (.v (.lst ((acr ms).map pD))), none, none, none] [] = .ok (.nl ((acr ms).map fun p => pD (rt (rt p)))) [] := by
    have : itS (varS 1) [some (.v (bookD ms)), some (.v (.lst ((acr ms).map pD))), none, none, none] [] = .ok ((acr ms).map pD) [] := by simp [callS, lcS, lcGo, itS, seqR, Tg.put, Tg.vs, wipeE, noIf, Dl.locs, renO, pickO, idx, wb, nloc, bSh_ii, eqD_ii, defF, retB, retNB, seqB, setB, newB, parB, asgB, itemB, augB, exprB, ifB, nilB, Oc.bd, Rg.to, Rg.bd, rdR, dr, slR, unl, varS, valS, rd1S, rd2S, addS, addR, subS, subI, mulS, divS, modS, powS, opI, negS, cmpS, cmpT, chainS, chainT, chainR, andS, orS, notS, ifS, valT, andT, orT, notT, isBl, anil, acons, tupS, lstS, frzR, frz, ixS, onone, osome, sliceS, slcR, optR, Rg.nx, lenS, lenD, absS, intS, intOf, allS, anyS, blsR, bls, listS, tupleS, seqD, isiS, isi2S, noOb_non, noOb_bl, noOb_int, noOb_str, noOb_tup, noOb_lst, cellR, appendS, popAtS, popS, insertS, minTS, maxTS, minmaxR, unI, lenSetS, exitR, gn, gsn, gsc, gt, qLt, qLe, qGt, qGe, qEq, qNe, qIn, qNotIn, qIs, qIsNot, qIsB, qIsNotB, bI, fI, bB, eqB, isN, dInt, dBool, dStr, dLst, dTup, litS, litRs, obR, fldS, conS, runA, runM, Dl.runN, Dl.runL, methS, newOb, makeS, obO, intR, strR, blR, lenOS, reprOS, putD, fldB, forEB, forGoE, propS, mixO, lfC, lfM, repS, maxLS, minLS, maxLR, lcCS, lc2S, aconsX]
    simp only [lcS, this, Rg.bd, l2]
  generalize lcS (.one 4) [4] noIf (callS 1 f_right (acons (callS 1 f_right (acons (varS 4) anil)) anil)) (itS (varS 1)) = L at em3 ⊢
  have hll : ((acr ms).map pD ++ (acr ms).map fun p => pD (rt (rt p))).length ≤ 100 := by
    rw [List.length_append, List.length_map, List.length_map]
    omega
  unfold endsP
  generalize roundP (acr ms ++ (acr ms).map fun p => rt (rt p)) = R at *
  have hfz : ∀ (l : List D) (m : Mem), frz (l.map .v) m = some (l, m) := fun l m => by
    induction l with
    | nil => rfl
    | cons d l ih => rw [List.map_cons, frz, ih]; rfl
  have em4 : lstS (aconsX (varS 1) (aconsX L anil)) [some (.v (bookD ms)), some (.v (.lst ((acr ms).map pD))), none, none, none] [] = .ok (.nl ((acr ms).map pD ++ (acr ms).map fun p => pD (rt (rt p)))) [] := by
    simp only [lstS, aconsX, anil, varS, List.getElem?_cons_succ, List.getElem?_cons_zero, Rg.bd, slR, rdR, dr, optR, seqD, em3, List.append_nil]
    rw [← List.map_append, frzR, hfz]
    simp only [hll, if_true]
  generalize lstS (aconsX (varS 1) (aconsX L anil)) = A at em4 ⊢
  generalize (acr ms).map pD ++ (acr ms).map (fun p => pD (rt (rt p))) = Z at *
  simp [callS, lcS, lcGo, itS, seqR, Tg.put, Tg.vs, wipeE, noIf, Dl.locs, renO, pickO, idx, wb, nloc, bSh_ii, eqD_ii, defF, retB, retNB, seqB, setB, newB, parB, asgB, itemB, augB, exprB, ifB, nilB, Oc.bd, Rg.to, Rg.bd, rdR, dr, slR, unl, varS, valS, rd1S, rd2S, addS, addR, subS, subI, mulS, divS, modS, powS, opI, negS, cmpS, cmpT, chainS, chainT, chainR, andS, orS, notS, ifS, valT, andT, orT, notT, isBl, anil, acons, tupS, lstS, frzR, frz, ixS, onone, osome, sliceS, slcR, optR, Rg.nx, lenS, lenD, absS, intS, intOf, allS, anyS, blsR, bls, listS, tupleS, seqD, isiS, isi2S, noOb_non, noOb_bl, noOb_int, noOb_str, noOb_tup, noOb_lst, cellR, appendS, popAtS, popS, insertS, minTS, maxTS, minmaxR, unI, lenSetS, exitR, gn, gsn, gsc, gt, qLt, qLe, qGt, qGe, qEq, qNe, qIn, qNotIn, qIs, qIsNot, qIsB, qIsNotB, bI, fI, bB, eqB, isN, dInt, dBool, dStr, dLst, dTup, litS, litRs, obR, fldS, conS, runA, runM, Dl.runN, Dl.runL, methS, newOb, makeS, obO, intR, strR, blR, lenOS, reprOS, putD, fldB, forEB, forGoE, propS, mixO, lfC, lfM, repS, maxLS, minLS, maxLR, lcCS, lc2S, aconsX, em4, er]
end Lw
/-! barring, climbed, pieces, stands -/
namespace Lw
open PySem Dl
theorem isSome_any (ms : List (List Pt)) (u : Pt) : (ms.findIdx? (opn u)).isSome = Opn ms u := by
  unfold Opn
  induction ms with
  | nil => rfl
  | cons s ms ih =>
    rw [List.findIdx?_cons, List.any_cons]
    cases q : opn u s with
    | true => rfl
    | false =>
      simp only [Bool.false_eq_true, if_false, Option.isSome_map, Bool.false_or]
      exact ih
theorem n_open (ms : List (List Pt)) (ok : ModOk ms) (hl : ms.length ≤ 5) {u : Pt} (hu : Dr u) : f_is_open [.v (bookD ms), .v (pD u)] [] = .ok (.v (.bl (Opn ms u))) [] := by
  rw [← isSome_any]
  exact n_is_open ms ok hl u hu.b hu.is
theorem near_cells {ms : List (List Pt)} (ok : ModOk ms) : ∀ p ∈ cellsOf ms, p ∈ near2P := fun p hp => by
  obtain ⟨s, hs, h⟩ := List.mem_flatten.mp hp
  exact (ok.sh s hs).near p h
theorem mem_acr {ms : List (List Pt)} {q : Pt} : q ∈ acr ms ↔ ∃ p ∈ cellsOf ms, eL p = q := by
  unfold acr
  rw [List.mem_map]
  constructor
  · rintro ⟨p, hp, rfl⟩
    obtain ⟨t, ht, h⟩ := List.mem_flatMap.mp hp
    obtain ⟨s, hs, rfl⟩ := List.mem_map.mp ht
    exact ⟨p, List.mem_flatten.mpr ⟨s, hs, mem_sortP.mp h⟩, rfl⟩
  · rintro ⟨p, hp, rfl⟩
    obtain ⟨s, hs, h⟩ := List.mem_flatten.mp hp
    exact ⟨p, List.mem_flatMap.mpr ⟨sortP s, List.mem_map.mpr ⟨s, hs, rfl⟩, mem_sortP.mpr h⟩, rfl⟩
theorem rt_rt (p : Pt) : rt (rt (eL p)) = eR p := by unfold eL eR lf rt; simp
theorem mem_ends {ms : List (List Pt)} {q : Pt} : q ∈ endsP ms ↔ ∃ p ∈ cellsOf ms, q = eL p ∨ q = eR p := by
  unfold endsP
  rw [mem_round, List.mem_append, List.mem_map]
  constructor
  · rintro (h | ⟨r, h, rfl⟩)
    · obtain ⟨p, hp, rfl⟩ := mem_acr.mp h
      exact ⟨p, hp, .inl rfl⟩
    · obtain ⟨p, hp, rfl⟩ := mem_acr.mp h
      exact ⟨p, hp, .inr (rt_rt p)⟩
  · rintro ⟨p, hp, rfl | rfl⟩
    · exact .inl (mem_acr.mpr ⟨p, hp, rfl⟩)
    · exact .inr ⟨eL p, mem_acr.mpr ⟨p, hp, rfl⟩, rt_rt p⟩
theorem ends_dr {ms : List (List Pt)} (ok : ModOk ms) : ∀ q ∈ endsP ms, Dr q ∧ Sm q := fun q hq => by
  obtain ⟨p, hp, h⟩ := mem_ends.mp hq
  obtain ⟨_, _, a, b, c, d⟩ := Dr.sm_nrm (near_cells ok p hp)
  rcases h with rfl | rfl
  · exact ⟨a, b⟩
  · exact ⟨c, d⟩
theorem acr_len {ms : List (List Pt)} (ok : ModOk ms) (h5 : ms.length ≤ 5) : (acr ms).length ≤ 20 := by
  unfold acr
  rw [List.length_map]
  have len4 : ∀ l : List (List Pt), (∀ s ∈ l, s.length ≤ 4) → (l.flatMap id).length ≤ 4 * l.length := fun l => by
    induction l with
    | nil => intro _; simp
    | cons s l ih =>
      intro h
      have h1 := h s List.mem_cons_self
      have h2 := ih fun x hx => h x (List.mem_cons_of_mem _ hx)
      rw [List.flatMap_cons, List.length_append, List.length_cons]
      simp only [id]
      omega
  have := len4 (ms.map sortP) (fun s hs => by
    obtain ⟨t, ht, rfl⟩ := List.mem_map.mp hs
    rw [sortP_len]; exact (ok.sh t ht).l4)
  rw [List.length_map] at this
  omega
theorem ends_len {ms : List (List Pt)} (ok : ModOk ms) (h5 : ms.length ≤ 5) : (endsP ms).length ≤ 40 := by
  have h1 := len_round (acr ms ++ (acr ms).map fun p => rt (rt p))
  have h2 := acr_len ok h5
  unfold endsP
  rw [List.length_append, List.length_map] at h1
  omega
noncomputable abbrev bB : Fs := seqB (ifB (andT (cmpT qGt (callS 2 f_product (acons (varS 2) (acons (varS 1) anil))) (valS (.int 0))) (notT (valT (callS 2 f_is_open (acons (varS 0) (acons (varS 2) anil)))))) (retB (varS 2)) nilB)
    nilB
end Lw
/-! pieces, stands; the law's own -/
namespace Lw
open PySem Dl
noncomputable abbrev fB : Fs := seqB (ifB (valT (callS 2 f_is_climbed (acons (varS 0) (acons (callS 1 f_left (acons (varS 1) anil)) anil)))) (retB (callS 1 f_left (acons (varS 1) anil))) nilB)
    nilB
/-- a comprehension without tests over an encoded list -/
theorem lcS_enc {α : Type} {t : Tg} {vs : List Nat} {elt : Fe} {it : Fi} {env : Envt} {m m1 : Mem} (enc : α → D) (g : α → D) (l : List α) (hi : it env m = .ok (l.map enc) m1) (hl : l.length ≤ sizeLine) (h : ∀ x ∈ l, ∃ e, t.put (wipeE env vs) (enc x) = some e ∧ ∃ r, elt e m1 = .ok r m1 ∧ unl r = .v (g x)) : lcS t vs noIf elt it env m = .ok (.nl (l.map g)) m1 := by
  have z := lc_enc (t := t) (vs := vs) (env0 := env) (ifs := noIf) (elt := elt) (m := m1) enc (fun _ => true) g l [] (fun x hx => by
    obtain ⟨e, a, r, b, c⟩ := h x hx
    exact ⟨e, a, rfl, fun _ => ⟨r, b, c⟩⟩) (by rw [List.length_nil, Nat.zero_add]; exact hl)
  have hf : l.filter (fun _ => true) = l := List.filter_eq_self.mpr fun _ _ => rfl
  rw [hf, List.nil_append] at z
  simp only [lcS, hi, Rg.bd, z]
theorem lcS_filt {α : Type} {t : Tg} {vs : List Nat} {ifs : Ft} {elt : Fe} {it : Fi} {env : Envt} {m m1 : Mem} (enc : α → D) (P : α → Bool) (g : α → D) (l : List α) (hi : it env m = .ok (l.map enc) m1) (hl : l.length ≤ sizeLine) (h : ∀ x ∈ l, ∃ e, t.put (wipeE env vs) (enc x) = some e ∧ ifs e m1 = .ok (P x) m1 ∧ (P x = true → ∃ r, elt e m1 = .ok r m1 ∧ unl r = .v (g x))) : lcS t vs ifs elt it env m = .ok (.nl ((l.filter P).map g)) m1 := by
  have z := lc_enc (t := t) (vs := vs) (env0 := env) (ifs := ifs) (elt := elt) (m := m1) enc P g l [] h (by rw [List.length_nil, Nat.zero_add]; exact hl)
  rw [List.nil_append] at z
  simp only [lcS, hi, Rg.bd, z]
end Lw
/-! climbed, stands: the law's own and the program's -/
namespace Lw
open PySem Dl
theorem ret_of {A : Fe} {env : Envt} {m : Mem} {r : Rs} (h : A env m = .ok r m) : retB A env m = .rt r m := by simp only [retB, h, Rg.to]
theorem it_v {env : Envt} {i : Nat} {m : Mem} {ds : List D} (h : env[i]? = some (some (.v (.lst ds)))) : itS (varS i) env m = .ok ds m := by
  simp only [itS, varS, h, Rg.bd, slR, seqR, unl]
end Lw
noncomputable section
namespace Lw
open PySem PySem.Spec PyProof.Rows L2 Dl
end Lw
end
noncomputable section
namespace Lw
open PySem PySem.Spec PyProof.Rows L2 Dl
end Lw
end
noncomputable section
namespace Lw
open PySem PySem.Spec PyProof.Rows L2 Dl
end Lw
end
noncomputable section
namespace Lw
open PySem PySem.Spec PyProof.Rows L2 Dl
end Lw
end
noncomputable section
namespace Lw
open PySem PySem.Spec PyProof.Rows L2 Dl
end Lw
end
/-! pictures drawn; ways told by the law -/
namespace Lw
open PySem Dl
theorem if_yes {c : Ft} {a b k : Fs} {env : Envt} {m m1 : Mem} {r : Rs} {m2 : Mem} (hc : c env m = .ok true m1) (h : a env m1 = .rt r m2) : seqB (ifB c a b) k env m = .rt r m2 := by
  simp only [seqB, ifB, hc, Rg.to, if_true, h]
  rfl
theorem if_pass {c : Ft} {a k : Fs} {env : Envt} {m m1 : Mem} {x : Oc} (hc : c env m = .ok false m1) (h : k env m1 = x) : seqB (ifB c a nilB) k env m = x := by
  subst h
  simp only [seqB, ifB, hc, Rg.to, Bool.false_eq_true, if_false]
  rfl
end Lw
/-! ways told by the law; surround -/
namespace Lw
open PySem Dl
end Lw
namespace Lw
open PySem Dl
end Lw
/-! k32: papers of bars -/
namespace Lw
open PySem Dl
theorem defF_nx {l : Nat} {body : Fs} {rs : List Sl} {m m' : Mem} {e : Envt} (h : body (rs.map some ++ List.replicate (l - rs.length) none) m = .nx e m') : defF l body rs m = exitR m.length (.v .non) m' := by unfold defF; rw [h]
theorem fld_set {cs : List Str} {x c : Str} {e : Fe} {env : Envt} {fs fs' : List (Str × D)} {r : Rs} {d : D} (h0 : env[0]? = some (some (.loc 0))) (he : e env [.ob c fs] = .ok r [.ob c fs]) (hr : unl r = .v d) (hc : c ∈ cs) (hl : fs.length < 1000) (hp : putD x d fs = fs') : fldB cs x (varS 0) e env [.ob c fs] = .nx env [.ob c fs'] := by
  subst hp
  unfold fldB
  simp only [he, Rg.bd, varS, h0, slR, frzR, hr, frz]
  simp [hc, hl, Rg.to]
end Lw
/-! the law's surround; papers of standing -/
namespace Lw
open PySem Dl
theorem eq_nilP (ps : List Pt) : bSh (.lst (ps.map pD)) (.lst []) = true ∧ eqD (.lst (ps.map pD)) (.lst []) = decide (ps = []) := by
  refine ⟨by have := sh_sL ps; unfold sL at this; unfold bSh; rw [this]; rfl, ?_⟩
  cases ps with
  | nil => rfl
  | cons a l => rfl
theorem nil_c {L : D} {b : Bool} {env : Envt} {m : Mem} {i : Nat} (hi : env[i]? = some (some (.v L))) (h1 : bSh L (.lst []) = true) (h2 : eqD L (.lst []) = b) : cmpT qEq (varS i) (litS (.lst [])) env m = .ok b m := by
  simp [callS, lcS, lcGo, itS, seqR, Tg.put, Tg.vs, wipeE, noIf, Dl.locs, renO, pickO, idx, wb, nloc, bSh_ii, eqD_ii, defF, retB, retNB, seqB, setB, newB, parB, asgB, itemB, augB, exprB, ifB, nilB, Oc.bd, Rg.to, Rg.bd, rdR, dr, slR, unl, varS, valS, rd1S, rd2S, addS, addR, subS, subI, mulS, divS, modS, powS, opI, negS, cmpS, cmpT, chainS, chainT, chainR, andS, orS, notS, ifS, valT, andT, orT, notT, isBl, anil, acons, tupS, lstS, frzR, frz, ixS, onone, osome, sliceS, slcR, optR, Rg.nx, lenS, lenD, absS, intS, intOf, allS, anyS, blsR, bls, listS, tupleS, seqD, isiS, isi2S, noOb_non, noOb_bl, noOb_int, noOb_str, noOb_tup, noOb_lst, cellR, appendS, popAtS, popS, insertS, minTS, maxTS, minmaxR, unI, lenSetS, exitR, gn, gsn, gsc, gt, qLt, qLe, qGt, qGe, qEq, qNe, qIn, qNotIn, qIs, qIsNot, qIsB, qIsNotB, bI, fI, bB, eqB, isN, dInt, dBool, dStr, dLst, dTup, litS, litRs, obR, fldS, conS, runA, runM, Dl.runN, Dl.runL, methS, newOb, makeS, obO, intR, strR, blR, lenOS, reprOS, putD, fldB, forEB, forGoE, propS, mixO, lfC, lfM, repS, maxLS, minLS, maxLR, lcCS, lc2S, aconsX, hi, h1, h2]
theorem call1_v {F : Fd} {env : Envt} {m : Mem} {i : Nat} {a r : D} (h1 : env[i]? = some (some (.v a))) (hF : F [.v a] [] = .ok (.v r) []) : callS 1 F (acons (varS i) anil) env m = .ok (.v r) m := by
  simp [callS, lcS, lcGo, itS, seqR, Tg.put, Tg.vs, wipeE, noIf, Dl.locs, renO, pickO, idx, wb, nloc, bSh_ii, eqD_ii, defF, retB, retNB, seqB, setB, newB, parB, asgB, itemB, augB, exprB, ifB, nilB, Oc.bd, Rg.to, Rg.bd, rdR, dr, slR, unl, varS, valS, rd1S, rd2S, addS, addR, subS, subI, mulS, divS, modS, powS, opI, negS, cmpS, cmpT, chainS, chainT, chainR, andS, orS, notS, ifS, valT, andT, orT, notT, isBl, anil, acons, tupS, lstS, frzR, frz, ixS, onone, osome, sliceS, slcR, optR, Rg.nx, lenS, lenD, absS, intS, intOf, allS, anyS, blsR, bls, listS, tupleS, seqD, isiS, isi2S, noOb_non, noOb_bl, noOb_int, noOb_str, noOb_tup, noOb_lst, cellR, appendS, popAtS, popS, insertS, minTS, maxTS, minmaxR, unI, lenSetS, exitR, gn, gsn, gsc, gt, qLt, qLe, qGt, qGe, qEq, qNe, qIn, qNotIn, qIs, qIsNot, qIsB, qIsNotB, bI, fI, bB, eqB, isN, dInt, dBool, dStr, dLst, dTup, litS, litRs, obR, fldS, conS, runA, runM, Dl.runN, Dl.runL, methS, newOb, makeS, obO, intR, strR, blR, lenOS, reprOS, putD, fldB, forEB, forGoE, propS, mixO, lfC, lfM, repS, maxLS, minLS, maxLR, lcCS, lc2S, aconsX, h1, hF]
end Lw
/-! papers of standing -/
namespace Lw
open PySem Dl
theorem notval' {A : Fe} {env : Envt} {m : Mem} {b : Bool} (h : A env m = .ok (.v (.bl b)) m) : notT (valT A) env m = .ok (!b) m := by
  simp [callS, lcS, lcGo, itS, seqR, Tg.put, Tg.vs, wipeE, noIf, Dl.locs, renO, pickO, idx, wb, nloc, bSh_ii, eqD_ii, defF, retB, retNB, seqB, setB, newB, parB, asgB, itemB, augB, exprB, ifB, nilB, Oc.bd, Rg.to, Rg.bd, rdR, dr, slR, unl, varS, valS, rd1S, rd2S, addS, addR, subS, subI, mulS, divS, modS, powS, opI, negS, cmpS, cmpT, chainS, chainT, chainR, andS, orS, notS, ifS, valT, andT, orT, notT, isBl, anil, acons, tupS, lstS, frzR, frz, ixS, onone, osome, sliceS, slcR, optR, Rg.nx, lenS, lenD, absS, intS, intOf, allS, anyS, blsR, bls, listS, tupleS, seqD, isiS, isi2S, noOb_non, noOb_bl, noOb_int, noOb_str, noOb_tup, noOb_lst, cellR, appendS, popAtS, popS, insertS, minTS, maxTS, minmaxR, unI, lenSetS, exitR, gn, gsn, gsc, gt, qLt, qLe, qGt, qGe, qEq, qNe, qIn, qNotIn, qIs, qIsNot, qIsB, qIsNotB, bI, fI, bB, eqB, isN, dInt, dBool, dStr, dLst, dTup, litS, litRs, obR, fldS, conS, runA, runM, Dl.runN, Dl.runL, methS, newOb, makeS, obO, intR, strR, blR, lenOS, reprOS, putD, fldB, forEB, forGoE, propS, mixO, lfC, lfM, repS, maxLS, minLS, maxLR, lcCS, lc2S, aconsX, h]
end Lw
/-! rooms of papers of standing -/
namespace Lw
open PySem Dl
theorem tup_2 {f g : Fe} {e : Envt} {m : Mem} {a b : D} (hf : f e m = .ok (.v a) m) (hg : g e m = .ok (.v b) m) : tupS (acons f (acons g anil)) e m = .ok (.v (.tup [a, b])) m := by
  simp [callS, lcS, lcGo, itS, seqR, Tg.put, Tg.vs, wipeE, noIf, Dl.locs, renO, pickO, idx, wb, nloc, bSh_ii, eqD_ii, defF, retB, retNB, seqB, setB, newB, parB, asgB, itemB, augB, exprB, ifB, nilB, Oc.bd, Rg.to, Rg.bd, rdR, dr, slR, unl, varS, valS, rd1S, rd2S, addS, addR, subS, subI, mulS, divS, modS, powS, opI, negS, cmpS, cmpT, chainS, chainT, chainR, andS, orS, notS, ifS, valT, andT, orT, notT, isBl, anil, acons, tupS, lstS, frzR, frz, ixS, onone, osome, sliceS, slcR, optR, Rg.nx, lenS, lenD, absS, intS, intOf, allS, anyS, blsR, bls, listS, tupleS, seqD, isiS, isi2S, noOb_non, noOb_bl, noOb_int, noOb_str, noOb_tup, noOb_lst, cellR, appendS, popAtS, popS, insertS, minTS, maxTS, minmaxR, unI, lenSetS, exitR, gn, gsn, gsc, gt, qLt, qLe, qGt, qGe, qEq, qNe, qIn, qNotIn, qIs, qIsNot, qIsB, qIsNotB, bI, fI, bB, eqB, isN, dInt, dBool, dStr, dLst, dTup, litS, litRs, obR, fldS, conS, runA, runM, Dl.runN, Dl.runL, methS, newOb, makeS, obO, intR, strR, blR, lenOS, reprOS, putD, fldB, forEB, forGoE, propS, mixO, lfC, lfM, repS, maxLS, minLS, maxLR, lcCS, lc2S, aconsX, hf, hg]
end Lw
/-! round order is one -/
namespace Lw
open PySem Dl
end Lw
/-! the law's round order -/
namespace Lw
open PySem Dl
end Lw
/-! parts: index lists; least and greatest ones -/
namespace Lw
open PySem Dl
abbrev Ix := List Nat
section
variable {n : Nat} {g : Ix → Bool} {S : List Ix}
end
end Lw
/-! parts of books as data -/
namespace Lw
open PySem Dl
theorem set_of {a : Fe} {env : Envt} {m m1 : Mem} {i : Nat} {r : Rs} (h : a env m = .ok r m1) : setB i a env m = .nx (env.set i (some (unl r))) m1 := by
  unfold setB
  rw [h]
  rfl
theorem for_nx {g : Fg} {body : Fs} {d : D} {ds : List D} {env e1 e2 : Envt} {m m2 : Mem} (h1 : g d env = some e1) (h2 : body e1 m = .nx e2 m2) : forGo g body (d :: ds) env m = forGo g body ds e2 m2 := by
  rw [forGo, h1]
  simp only [h2]
theorem call_2 {F : Fd} {env : Envt} {m : Mem} {i j : Nat} {a b : D} {r : D} (h1 : env[i]? = some (some (.v a))) (h2 : env[j]? = some (some (.v b))) (hF : F [.v a, .v b] [] = .ok (.v r) []) : callS 2 F (acons (varS i) (acons (varS j) anil)) env m = .ok (.v r) m := by
  simp [callS, lcS, lcGo, itS, seqR, Tg.put, Tg.vs, wipeE, noIf, Dl.locs, renO, pickO, idx, wb, nloc, bSh_ii, eqD_ii, defF, retB, retNB, seqB, setB, newB, parB, asgB, itemB, augB, exprB, ifB, nilB, Oc.bd, Rg.to, Rg.bd, rdR, dr, slR, unl, varS, valS, rd1S, rd2S, addS, addR, subS, subI, mulS, divS, modS, powS, opI, negS, cmpS, cmpT, chainS, chainT, chainR, andS, orS, notS, ifS, valT, andT, orT, notT, isBl, anil, acons, tupS, lstS, frzR, frz, ixS, onone, osome, sliceS, slcR, optR, Rg.nx, lenS, lenD, absS, intS, intOf, allS, anyS, blsR, bls, listS, tupleS, seqD, isiS, isi2S, noOb_non, noOb_bl, noOb_int, noOb_str, noOb_tup, noOb_lst, cellR, appendS, popAtS, popS, insertS, minTS, maxTS, minmaxR, unI, lenSetS, exitR, gn, gsn, gsc, gt, qLt, qLe, qGt, qGe, qEq, qNe, qIn, qNotIn, qIs, qIsNot, qIsB, qIsNotB, bI, fI, bB, eqB, isN, dInt, dBool, dStr, dLst, dTup, litS, litRs, obR, fldS, conS, runA, runM, Dl.runN, Dl.runL, methS, newOb, makeS, obO, intR, strR, blR, lenOS, reprOS, putD, fldB, forEB, forGoE, propS, mixO, lfC, lfM, repS, maxLS, minLS, maxLR, lcCS, lc2S, aconsX, h1, h2, hF]
def iD (x : Nat) : D := .int (x : Int)
end Lw
/-! parts of books: what the program does -/
namespace Lw
open PySem Dl
end Lw
/-! all parts, growing parts, cores, tops, cuts -/
namespace Lw
open PySem Dl
theorem frz_vs : ∀ (ds : List D) (m : Mem), frz (ds.map .v) m = some (ds, m)
  | [], m => rfl
  | d :: ds, m => by rw [List.map_cons, frz, frz_vs ds m]; rfl
section
variable {ms : List (List Pt)} (ok : ModOk ms) (h5 : ms.length ≤ 5)
include ok h5
omit ok h5 in
omit ok h5 in
omit ok h5 in
omit ok h5 in
omit ok h5 in
omit ok h5 in
end
end Lw
noncomputable section
namespace Lw
open PySem PySem.Spec PyProof.Rows L2 Dl
end Lw
end
/-! dicts of points; one wave -/
namespace Lw
open PySem Dl
def dP {β : Type} (f : β → D) (l : List (Pt × β)) : List (D × D) := l.map fun x => (pD x.1, f x.2)
def sb (a b : Pt) : Pt := (a.1 - b.1, a.2 - b.2)
def ad (a b : Pt) : Pt := (a.1 + b.1, a.2 + b.2)
theorem vr_v {env : Envt} {i : Nat} {m : Mem} {d : D} (h : env[i]? = some (some (.v d))) : varS i env m = .ok (.v d) m := by
  simp only [varS, h]
  rfl
theorem val_of {A : Fe} {env : Envt} {m : Mem} {b : Bool} (h : A env m = .ok (.v (.bl b)) m) : valT A env m = .ok b m := by
  simp [callS, lcS, lcGo, itS, seqR, Tg.put, Tg.vs, wipeE, noIf, Dl.locs, renO, pickO, idx, wb, nloc, bSh_ii, eqD_ii, defF, retB, retNB, seqB, setB, newB, parB, asgB, itemB, augB, exprB, ifB, nilB, Oc.bd, Rg.to, Rg.bd, rdR, dr, slR, unl, varS, valS, rd1S, rd2S, addS, addR, subS, subI, mulS, divS, modS, powS, opI, negS, cmpS, cmpT, chainS, chainT, chainR, andS, orS, notS, ifS, valT, andT, orT, notT, isBl, anil, acons, tupS, lstS, frzR, frz, ixS, onone, osome, sliceS, slcR, optR, Rg.nx, lenS, lenD, absS, intS, intOf, allS, anyS, blsR, bls, listS, tupleS, seqD, isiS, isi2S, noOb_non, noOb_bl, noOb_int, noOb_str, noOb_tup, noOb_lst, cellR, appendS, popAtS, popS, insertS, minTS, maxTS, minmaxR, unI, lenSetS, exitR, gn, gsn, gsc, gt, qLt, qLe, qGt, qGe, qEq, qNe, qIn, qNotIn, qIs, qIsNot, qIsB, qIsNotB, bI, fI, bB, eqB, isN, dInt, dBool, dStr, dLst, dTup, litS, litRs, obR, fldS, conS, runA, runM, Dl.runN, Dl.runL, methS, newOb, makeS, obO, intR, strR, blR, lenOS, reprOS, putD, fldB, forEB, forGoE, propS, mixO, lfC, lfM, repS, maxLS, minLS, maxLR, lcCS, lc2S, aconsX, h]
/-! ### one part -/
/-- far from the bounds, great ones too -/
def Wd (u : Pt) : Prop := u.1.natAbs < 2 ^ 99 ∧ u.2.natAbs < 2 ^ 99
theorem Wd.bd {u : Pt} (h : Wd u) : Bd u := ⟨by have := h.1; omega, by have := h.2; omega⟩
def accD (acc : List Pt) : Cell := .dic (dP D.bl (acc.map fun p => (p, true)))
end Lw
/-! one wave, whole; what has and may tell -/
namespace Lw
open PySem Dl
section
variable {a : AV2} {has may : Pt → Bool} {A0 A1 : Option Sl} {c1 c2 : Addr} {q1 q2 : Str}
end
def mayP {β : Type} (r : Option (List (Pt × β))) (p : Pt) : Bool := match r with
  | none => true
  | some l => decide (p ∈ l.map (·.1))
end Lw
/-! spread -/
namespace Lw
open PySem Dl
abbrev Mo := List (Pt × Int)
/-! ### one turn -/
section
variable (ss : List (List Pt)) (b : Option Pt) {β : Type} (f : β → D) (r : Option (List (Pt × β)))
end
section
variable {A0 A1 : Option Sl} {st : Option Int} {b : Option Pt} {β : Type} {f : β → D} {r : Option (List (Pt × β))} {ss : List (List Pt)} {a : A4}
end
def keyP (ms : Mo) : List Pt := ms.map (·.1)
end Lw
/-! what a wave holds; one step -/
namespace Lw
open PySem Dl
/-! ### one step -/
def Far (B : Nat) (p : Pt) : Prop := p.1.natAbs ≤ B ∧ p.2.natAbs ≤ B
theorem Far.sm {B : Nat} {p : Pt} (h : Far B p) (hB : B < 2 ^ 80) : Sm p := ⟨by have := h.1; omega, by have := h.2; omega⟩
end Lw
/-! growth in some steps -/
namespace Lw
open PySem Dl
def In (z : Pt) (R : Nat) (p : Pt) : Prop := (p.1 - z.1).natAbs ≤ R ∧ (p.2 - z.2).natAbs ≤ R
theorem In.up {z p : Pt} {R S : Nat} (h : In z R p) (hR : R ≤ S) : In z S p := ⟨Nat.le_trans h.1 hR, Nat.le_trans h.2 hR⟩
/-! ### growth -/
/-- one step: below is covered, outside of may nothing becomes covered -/
def St (ms : List (List Pt)) (below may : Pt → Bool) (S : Pt → Prop) (x : Pt) : Prop := S x ∨ (below x = false ∧ may x = true ∧ ∃ s ∈ ms, (∃ q ∈ s, S (ad x q)) ∧ ∀ q ∈ s, S (ad x q) ∨ below (ad x q) = true)
theorem St.ext {ms : List (List Pt)} {below may : Pt → Bool} {S T : Pt → Prop} (h : ∀ x, S x ↔ T x) (x : Pt) : St ms below may S x ↔ St ms below may T x := by
  have : S = T := funext fun y => propext (h y)
  rw [this]
def belP (b : Option Pt) (p : Pt) : Bool := match b with
  | none => false
  | some q => decide (dot p q < 0)
section
variable {ms : List (List Pt)} {b : Option Pt} {β : Type} {r : Option (List (Pt × β))}
/-- what is covered by old cells alone is covered -/
def Old (ms : List (List Pt)) (b : Option Pt) (r : Option (List (Pt × β))) (fs : List Pt) (mo : Mo) : Prop := (∀ c ∈ fs, c ∈ keyP mo) ∧ ∀ x, belP b x = false → mayP r x = true → ∀ s ∈ ms, (∃ q ∈ s, ad x q ∈ keyP mo) → (∀ q ∈ s, ad x q ∉ fs) → (∀ q ∈ s, ad x q ∈ keyP mo ∨ belP b (ad x q) = true) → x ∈ keyP mo
end
end Lw
/-! El70: a, b, c = x, y, z with plain names. -/
namespace Dl
open PySem PySem.Spec PyProof.Rows L2
section
variable {X : Dx} {E : XE} {a b c : Expr} {fa : Fa} {pos : Pos}
end
end Dl
noncomputable section
namespace Lw
open PySem PySem.Spec PyProof.Rows L2 Dl
end Lw
end
/-! spread in N steps; grown -/
namespace Lw
open PySem Dl
section
variable {ms : List (List Pt)} {below may : Pt → Bool} {S T : Pt → Prop}
end
section
variable {ms : List (List Pt)} {b : Option Pt} {β : Type} {r : Option (List (Pt × β))}
end
end Lw
/-! helpers for the laws on growth -/
namespace Lw
open PySem Dl
end Lw
/-! growth: shifted, of more cells, by less shapes; cells marked in a dict; equal lists of cells -/
namespace Lw
open PySem Dl
end Lw
noncomputable section
namespace Lw
open PySem PySem.Spec PyProof.Rows L2 Dl
end Lw
end
noncomputable section
namespace Lw
open PySem PySem.Spec PyProof.Rows L2 Dl
end Lw
end
/-! half floors with help -/
namespace Lw
open PySem Dl
theorem sq_rt {a b : Fs} {e : Envt} {m m' : Mem} {r : Rs} (h : a e m = .rt r m') : seqB a b e m = .rt r m' := by
  unfold seqB
  rw [h]
  rfl
end Lw
/-! El71: {} as an expression: a new cell. -/
namespace Dl
open PySem PySem.Spec PyProof.Rows L2
section
variable {X : Dx} {E : XE} {p2 : Pos}
end
end Dl
noncomputable section
namespace Lw
open PySem PySem.Spec PyProof.Rows L2 Dl
end Lw
end
/-! the law's own growth: the same waves -/
namespace Lw
open PySem Dl
end Lw
/-! the law's wave, whole; its moments -/
namespace Lw
open PySem Dl
section
variable {A0 A2 : Option Sl} {b : Option Pt} {mo : Mo}
theorem for_it {g : Fg} {body : Fs} {it : Fi} {env : Envt} {m m1 : Mem} {ds : List D} {x : Oc} (hi : it env m = .ok ds m1) (h : forGo g body ds env m1 = x) : forB g it body env m = x := by
  unfold forB
  rw [hi]
  exact h
theorem nil_of {a : Fs} {env e' : Envt} {m m' : Mem} (h : a env m = .nx e' m') : seqB a nilB env m = .nx e' m' := (seqB_nx h).trans rfl
end
end Lw
noncomputable section
namespace Lw
open PySem PySem.Spec PyProof.Rows L2 Dl
end Lw
end
noncomputable section
namespace Lw
open PySem PySem.Spec PyProof.Rows L2 Dl
end Lw
end
noncomputable section
namespace Lw
open PySem PySem.Spec PyProof.Rows L2 Dl
def f_runs : Fd := defF 5 (seqB (forB (gn 3) (itS (varS 0)) (seqB (setB 4 (callS 2 f_product (acons (varS 3) (acons (varS 1) anil))))
    (seqB (ifB (orT (cmpT qGt (varS 4) (valS (.int 0))) (andT (cmpT qEq (varS 4) (valS (.int 0))) (cmpT qLt (callS 2 f_product (acons (varS 3) (acons (varS 2) anil))) (valS (.int 0))))) (retB (valS (.bl false))) nilB)
    nilB)))
    (retB (valS (.bl true))))
def f_first_run : Fd := defF 6 (seqB (setB 3 (lcS (.two 4 5) [4, 5] (valT (callS 3 f_runs (acons (varS 5) (acons (varS 1) (acons (varS 2) anil))))) (varS 4) (enumS (methS runA [("Book", f_Book_shapes)] 1 [] "shapes" (varS 0) anil))))
    (retB (ifS (cmpT qNe (varS 3) (litS (.lst []))) (ixS (varS 3) (valS (.int 0))) (valS (.non)))))
def f_Face___init__ : Fd := defF 4 (seqB (exprB (callS 1 f_need_direction (acons (varS 2) anil)))
    (seqB (fldB ["Face"] "own_book" (varS 0) (varS 1))
    (seqB (fldB ["Face"] "own_direction" (varS 0) (varS 2))
    (seqB (fldB ["Face"] "own_opener" (varS 0) (callS 2 f_opener (acons (varS 1) (acons (varS 2) anil))))
    (seqB (fldB ["Face"] "own_left" (varS 0) (callS 3 f_first_run (acons (varS 1) (acons (varS 2) (acons (callS 1 f_right (acons (varS 2) anil)) anil)))))
    (seqB (fldB ["Face"] "own_right" (varS 0) (callS 3 f_first_run (acons (varS 1) (acons (varS 2) (acons (callS 1 f_left (acons (varS 2) anil)) anil)))))
    (seqB (fldB ["Face"] "key" (varS 0) (tupS (acons (varS 2) (acons (tupleS (lcS (.one 3) [3] noIf (tupleS (varS 3)) (itS (methS runA [("Book", f_Book_shapes)] 1 [] "shapes" (varS 1) anil)))) anil))))
    nilB)))))))
end Lw
end
/-! El72: xs[::-1] of a list. -/
namespace Dl
open PySem PySem.Spec PyProof.Rows L2
theorem Reps.reverse {C : Cn} {G : Hp} : ∀ {vs : List V} {ds : List D}, Reps C G vs ds → Reps C G vs.reverse ds.reverse
  | _, _, .nil => .nil
  | _, _, .cons a r => by
    rw [List.reverse_cons, List.reverse_cons]
    exact (Reps.reverse r).snoc a
section
variable {X : Dx} {E : XE} {p1 p2 p3 pos : Pos}
end
end Dl
noncomputable section
namespace Lw
open PySem PySem.Spec PyProof.Rows L2 Dl
end Lw
end
/-! El73: a name is set to a new list or to a list that another name has (y = x if c else [..]). -/
namespace Dl
open PySem PySem.Spec PyProof.Rows L2
section
variable {X : Dx} {E : XE} {x : Str} {p pos : Pos} {e : Expr} {f : Fe}
end
end Dl
noncomputable section
namespace Lw
open PySem PySem.Spec PyProof.Rows L2 Dl
end Lw
end
/-! El74: a name is set to a new list, to a list that another name has, or to a value (None where a list is at other times). -/
namespace Dl
open PySem PySem.Spec PyProof.Rows L2
section
variable {X : Dx} {E : XE} {x : Str} {p pos : Pos} {e : Expr} {f : Fe}
end
end Dl
noncomputable section
namespace Lw
open PySem PySem.Spec PyProof.Rows L2 Dl
end Lw
end
noncomputable section
namespace Lw
open PySem PySem.Spec PyProof.Rows L2 Dl
end Lw
end
/-! El75: a lambda handed to a def, where other tables of code objects tell several names. -/
namespace Dl
open PySem PySem.Spec PyProof.Rows L2 LamX NdefX
section
variable {X : Cx} {pins : List (Addr × Obj)} {σ : L2.St} {H : Hp} {s : Shared}
end
section
variable {X : Cx}
end
end Dl
noncomputable section
namespace Lw
open PySem PySem.Spec PyProof.Rows L2 Dl
end Lw
end
noncomputable section
namespace Lw
open PySem PySem.Spec PyProof.Rows L2 Dl
end Lw
end
noncomputable section
namespace Lw
open PySem PySem.Spec PyProof.Rows L2 Dl
end Lw
end
/-! El76: range(a, b, -1). -/
namespace Dl
open PySem PySem.Spec PyProof.Rows L2
section
variable {X : Dx} {E : XE} {tg a b c : Expr} {f1 f2 f3 : Fe} {p p2 : Pos}
end
end Dl
/-! El77: enumerate of a tuple. -/
namespace PySem
open Sem (wp)
section
variable {prog : Program} {w : World} {A : Around} {E : Value → Shared → Prop} {s : Shared}
end
end PySem
namespace L2
open PySem PySem.Spec PyProof.Rows
end L2
namespace Dl
open PySem PySem.Spec PyProof.Rows L2
section
variable {X : Dx} {E : XE} {tg a : Expr} {f : Fe} {p p2 : Pos} {env : Envt} {mem : Mem} {P : List D → Mem → Prop}
end
end Dl
noncomputable section
namespace Lw
open PySem PySem.Spec PyProof.Rows L2 Dl
end Lw
end
/-! El78: sorted(set(..)) of a list or a tuple of tuples of ints. -/
namespace Dl
open PySem PySem.Spec PyProof.Rows L2
section
variable {X : Dx} {E : XE} {e : Expr} {p0 p1 pos pos2 : Pos} {f : Fe}
end
end Dl
/-! El79: d.get(k, x) of a dict whose keys are tuples. -/
namespace Dl
open PySem PySem.Spec PyProof.Rows L2
section
variable {X : Dx} {E : XE} {o e f : Expr} {apos cpos : Pos} {f1 f2 f3 : Fe}
end
end Dl
/-! El80: x, y, z = a, b, c by way of a tuple (names that a lambda reads). -/
namespace Dl
open PySem PySem.Spec PyProof.Rows L2
section
variable {X : Dx} {E : XE} {a b c : Expr} {env : Envt} {mem : Mem} {K : Ks} {fa : Fa} {pos : Pos}
end
end Dl
noncomputable section
namespace Lw
open PySem PySem.Spec PyProof.Rows L2 Dl
end Lw
end
/-! El81: methods with a star parameter: def m(self, *more), called with plain arguments. -/
namespace Dl
open PySem PySem.Spec PyProof.Rows L2
/-- the promise of a def with one plain parameter and a star parameter -/
def spS (C : Cn) (F : Fd) : Sp := fun vs H Q E => ∃ x rest, vs = x :: rest ∧ rest.length ≤ sizeLine ∧ ∀ p, H p = none → spG C 2 (FR F) [x, .ref p] (upd H p (.tup rest)) Q E
section
variable {P : Program} {w : World} {K : PySem.W.Frag} {mg : Str → Option Value} {base : Heap} {Tb : List NdefX.NTab}
end
structure HasMS (P : Program) (w : World) (K : PySem.W.Frag) (mg : Str → Option Value) (Tb : List NdefX.NTab) (base : Heap) (c m : Str) (j : Nat) (F : Fd) : Prop where
  ex : ∃ (A f : Addr), FnR P w K mg base (L2.CX P w) j f (spS ⟨K, mg, Tb, P, w⟩ F) ∧ mg c = some (.ref A) ∧ Cls K A ∧ Meth K A m f
  pl : slN c = false := by decide +kernel
theorem HasMS.up {P : Program} {w : World} {K : PySem.W.Frag} {mg : Str → Option Value} {Tb : List NdefX.NTab} {base : Heap} {c m : Str} {j k : Nat} {F : Fd} (h : HasMS P w K mg Tb base c m j F) (le : j ≤ k) : HasMS P w K mg Tb base c m k F := by
  obtain ⟨A, f, ok, r⟩ := h.ex
  exact ⟨⟨A, f, ok.mono le, r⟩, h.pl⟩
section
variable {X : Cx} {o e : Expr} {es : List Expr} {ta : TE} {t : TA} {pos apos : Pos} {m : Str}
end
section
variable {X : Dx} {E : XE} {e o : Expr} {es : List Expr} {pos apos : Pos} {f1 : Fe} {fa : Fa} {m : Str} {j : Nat} {tb : List (Str × Fd)}
variable {as : List Addr} {G H : Hp} {env : Envt} {mem : Mem} {σ : L2.St} {vs : List V} {rs : List Sl} {F : Fd} {P : Rs → Mem → Prop} {v : V} {s : Sl}
end
end Dl
noncomputable section
namespace Lw
open PySem PySem.Spec PyProof.Rows L2 Dl
end Lw
end
/-! El82: instances called: x(..), x a name whose value is an instance of an own class with __call__. -/
namespace Dl
open PySem PySem.Spec PyProof.Rows L2
structure HasI (P : Program) (w : World) (K : PySem.W.Frag) (mg : Str → Option Value) (Tb : List NdefX.NTab) (base : Heap) (c : Str) (j n : Nat) (F : FS) : Prop where
  ex : ∃ (A f : Addr) (fd : FuncData) (ps : List Str), FnOk P w K mg base (L2.CX P w) j f fd ps (spG ⟨K, mg, Tb, P, w⟩ n F) ∧ Binds K fd ps [] ∧ mg c = some (.ref A) ∧ StX.CallO K A f
  pl : slN c = false := by decide +kernel
theorem HasI.up {P : Program} {w : World} {K : PySem.W.Frag} {mg : Str → Option Value} {Tb : List NdefX.NTab} {base : Heap} {c : Str} {j k n : Nat} {F : FS} (h : HasI P w K mg Tb base c j n F) (le : j ≤ k) : HasI P w K mg Tb base c k n F := by
  obtain ⟨A, f, fd, ps, ok, r⟩ := h.ex
  exact ⟨⟨A, f, fd, ps, ok.mono le, r⟩, h.pl⟩
section
variable {X : Cx} {e : Expr} {es : List Expr} {ta : TE} {t : TA} {pos p : Pos} {x : Str}
end
section
variable {X : Dx} {E : XE} {e : Expr} {es : List Expr} {pos p : Pos} {f1 : Fe} {fa : Fa} {x : Str} {j n : Nat} {tb : List (Str × Fd)}
end
end Dl
noncomputable section
namespace Lw
open PySem PySem.Spec PyProof.Rows L2 Dl
end Lw
end
/-! El83: the head's hook with defs at any address (getters of properties, classmethods); properties by the head. -/
namespace Dl
open PySem PySem.Spec PyProof.Rows L2 LamX
abbrev AlF : Type := AlE × He.AlD
def obsF (P : Program) (n : Nat) (fa : List He.Fa) (fn : List He.DefD) (tf : List He.Defn) (gs : List (Str × D)) (xs : List XD) (flds : List Str) (more : PySem.W.Frag → Bool) (da : List He5.DefA) (g : Addr → Option Obj) : AlF :=
  (obsE P n fa fn tf gs xs flds more g, He5.obsA [] da (frE g n))
structure SaysF (P : Program) (fa : List He.Fa) (fn : List He.DefD) (tf : List He.Defn) (gs : List (Str × D)) (xs : List XD) (flds : List Str) (more : PySem.W.Frag → Bool) (da : List He5.DefA) (h : Heap) (K : PySem.W.Frag) : Prop extends SaysE P fa fn tf gs xs flds more h K where
  a : He5.SaysA [] da K
def hookF (P : Program) (n : Nat) (fa : List He.Fa) (fn : List He.DefD) (tf : List He.Defn) (gs : List (Str × D)) (xs : List XD) (flds : List Str) (more : PySem.W.Frag → Bool) (da : List He5.DefA) : PySem.W.Hook where
  α := AlF
  obs := fun s => obsF P n fa fn tf gs xs flds more da s.heap.get?
  val := fun _ => ((He.valD fn, true, xs.map XD.val), He5.valA da)
  says := fun _ h => ∃ K : PySem.W.Frag, K.In h ∧ SaysF P fa fn tf gs xs flds more da h K
  of := fun _ _ e => ⟨_, He.frT_in, { toSaysE := saysE_of (congrArg (fun z : AlF => z.1) e), a := congrArg (fun z : AlF => z.2) e }⟩
  keeps := fun _ _ _ ⟨K, hK, c⟩ k => ⟨K, PySem.W.Frag.In.keeps hK k, { toSaysE := ⟨c.d, c.gl, c.ex, c.more, c.hd, c.out, fun p hp => k _ _ (c.empty p hp)⟩, a := c.a }⟩
theorem obsF_eq {P : Program} {n : Nat} {fa : List He.Fa} {fn : List He.DefD} {tf : List He.Defn} {gs : List (Str × D)} {xs : List XD} {flds : List Str} {more : PySem.W.Frag → Bool} {da : List He5.DefA} {g : Addr → Option Obj} {s : Shared} (h : ∀ a, g a = s.heap.get? a) : obsF P n fa fn tf gs xs flds more da g = (hookF P n fa fn tf gs xs flds more da).obs s := by
  have e : g = s.heap.get? := funext h
  rw [e] <;> rfl
/-- the getter of a property -/
def pgA (K : PySem.W.Frag) (c m : Str) : Addr := match PySem.W.recIn K (He.ma K (He.ga K c) m) "property" with
  | some (.ref g :: _) => g
  | _ => 0
def propB (K : PySem.W.Frag) (c m : Str) : Bool := (match PySem.W.findIn K (.ref (He.ga K c)) m with
    | some (some (.ref _)) => true
    | _ => false) && ((match PySem.W.specialIn K (.ref (He.ma K (He.ga K c) m)) "__get__" with
    | some (some (.builtin g)) => decide (g = "property.__get__")
    | _ => false) && (decide (PySem.W.takesIn K (.ref (He.ma K (He.ga K c) m)) = some true) && (match PySem.W.recIn K (He.ma K (He.ga K c) m) "property" with
    | some (.ref _ :: _) => true
    | _ => false)))
theorem propB_ok {K : PySem.W.Frag} {c m : Str} (h : propB K c m = true) : PropOf K (He.ga K c) m (He.ma K (He.ga K c) m) (pgA K c m) := by
  obtain ⟨h1, h⟩ := He.ba h
  obtain ⟨h2, h⟩ := He.ba h
  obtain ⟨h3, h4⟩ := He.ba h
  refine ⟨?_, ?_, of_decide_eq_true h3, ?_⟩
  · clear h2 h3 h4
    have e : He.ma K (He.ga K c) m = match PySem.W.findIn K (.ref (He.ga K c)) m with
      | some (some (.ref a)) => a
      | _ => 0 := rfl
    rw [e]
    split at h1
    · rename_i a q
      rw [q]
    · cases h1
  · split at h2
    · rename_i g q
      rw [q, of_decide_eq_true h2]
    · cases h2
  · unfold pgA
    split at h4
    · rename_i g r q
      exact ⟨r, by rw [q]⟩
    · cases h4
end Dl
/-! El84: isinstance of an own class; == by an own __eq__. -/
namespace Dl
open PySem PySem.Spec PyProof.Rows L2 LamX
def fB (a : Option (Option Value)) (s : String) : Bool := match a with
  | some (some (.builtin g)) => decide (g = s)
  | _ => false
theorem fB_ok {a : Option (Option Value)} {s : String} (h : fB a s = true) : a = some (some (.builtin s)) := by
  unfold fB at h
  split at h
  · rw [of_decide_eq_true h]
  · cases h
section
variable {X : Dx} {E : XE} {e a b : Expr} {pos p0 p1 : Pos} {f f1 f2 : Fe} {c : Str} {j : Nat} {tb : List (Str × Fd)}
end
end Dl
/-! El85: C.m(..), m a classmethod or a staticmethod; cls(..), cls a class held by a name. -/
namespace Dl
open PySem PySem.Spec PyProof.Rows L2 LamX
/-- C.m(..): the class C, m a classmethod: its def's promise -/
structure HasC (P : Program) (w : World) (K : PySem.W.Frag) (mg : Str → Option Value) (base : Heap) (c m : Str) (j : Nat) (sp : Sp) : Prop where
  ex : ∃ (A p g : Addr) (mc : Value), FnR P w K mg base (L2.CX P w) j g sp ∧ mg c = some (.ref A) ∧ ClX.CRead K A mc ∧ ClX.CMet K A mc m p g
theorem HasC.up {P : Program} {w : World} {K : PySem.W.Frag} {mg : Str → Option Value} {base : Heap} {c m : Str} {j k : Nat} {sp : Sp} (h : HasC P w K mg base c m j sp) (le : j ≤ k) : HasC P w K mg base c m k sp := by
  obtain ⟨A, p, g, mc, ok, r⟩ := h.ex
  exact ⟨A, p, g, mc, ok.mono le, r⟩
/-- C.m(..), m a staticmethod -/
structure SMet (K : PySem.W.Frag) (C : Addr) (mc : Value) (m : Str) (p g : Addr) : Prop where
  at_ : PySem.W.findCls K (.ref C) mc m = some (.get (.builtin "staticmethod.__get__") (.ref p) .none (.ref C))
  rc : ∃ rest, PySem.W.recIn K p "staticmethod" = some (.ref g :: rest)
  kp : PySem.W.keepIn K (.ref g) = true
structure HasSt (P : Program) (w : World) (K : PySem.W.Frag) (mg : Str → Option Value) (base : Heap) (c m : Str) (j : Nat) (sp : Sp) : Prop where
  ex : ∃ (A p g : Addr) (mc : Value), FnR P w K mg base (L2.CX P w) j g sp ∧ mg c = some (.ref A) ∧ ClX.CRead K A mc ∧ SMet K A mc m p g
theorem HasSt.up {P : Program} {w : World} {K : PySem.W.Frag} {mg : Str → Option Value} {base : Heap} {c m : Str} {j k : Nat} {sp : Sp} (h : HasSt P w K mg base c m j sp) (le : j ≤ k) : HasSt P w K mg base c m k sp := by
  obtain ⟨A, p, g, mc, ok, r⟩ := h.ex
  exact ⟨A, p, g, mc, ok.mono le, r⟩
section
variable {X : Cx} {CX : CXT} {k : Nat} {C p g : Addr} {mc : Value} {sp : Sp} {E : XK} {e : Expr} {es : List Expr} {c m : Str} {pos apos np : Pos} {t : TA} {pl : Sem Bool}
end
section
variable {X : Dx} {E : XE} {e : Expr} {es : List Expr} {pos apos np : Pos} {f1 : Fe} {fa : Fa} {c m x : Str} {j n : Nat} {F : Fd} {pl : Sem Bool}
end
end Dl
/-! El86: x != y, x an instance whose class has an own __eq__ and no own __ne__. -/
namespace Dl
open PySem PySem.Spec PyProof.Rows L2 LamX
section
variable {prog : Program} {w : World} {A : Around} {E : Value → Shared → Prop} {s : Shared} {K : PySem.W.Frag} {x C L f : Addr} {h₀ : Heap} {m : Str → Option Value} {ox : Obj} {od : Option Obj} {b tb : Value}
end
section
variable {X : Dx} {E : XE} {e a b : Expr} {pos p0 p1 : Pos} {f f1 f2 : Fe} {c : Str} {j : Nat} {tb : List (Str × Fd)}
end
end Dl
/-! El87: classmethods, staticmethods and own classes by the head's facts. -/
namespace Dl
open PySem PySem.Spec PyProof.Rows L2 LamX
section
variable {P : Program} {w : World} {K : PySem.W.Frag} {mg : Str → Option Value} {base : Heap} {Tb : List NdefX.NTab} {c m : Str} {j n : Nat} {F : Fd} {fd : FuncData} {ps : List Str} {sp : Sp}
end
section
variable {K : PySem.W.Frag} {mg : Str → Option Value} {c : Str}
end
end Dl
/-! El88: own ==, !=, in as tests; own operators with the operator known first. -/
namespace Dl
open PySem PySem.Spec PyProof.Rows L2 LamX
section
variable {X : Dx} {E : XE} {e a b : Expr} {pos p0 p1 : Pos} {f f1 f2 : Fe} {c : Str} {j : Nat} {tb : List (Str × Fd)} {env : Envt} {mem : Mem} {P : Rs → Mem → Prop} {as : List Addr} {G H : Hp} {σ : L2.St} {Q : VK}
end
end Dl
noncomputable section
namespace Lw
open PySem PySem.Spec PyProof.Rows L2 Dl
end Lw
end
/-! El89: C(k = e, ..), all parameters by keyword, in order. -/
namespace Dl
open PySem PySem.Spec PyProof.Rows L2 LamX
structure HasKk (P : Program) (w : World) (K : PySem.W.Frag) (mg : Str → Option Value) (Tb : List NdefX.NTab) (base : Heap) (c : Str) (j n : Nat) (ks : List Str) (F : FS) : Prop where
  ex : ∃ (A f : Addr) (fd : FuncData) (ps : List Str) (gv : List Value → List Value → List Value) (gV : List V → List V → List V), FnOk P w K mg base (L2.CX P w) j f fd ps (spG ⟨K, mg, Tb, P, w⟩ n F) ∧ mg c = some (.ref A) ∧ Mk K A f ∧ KBn K fd ps 1 ks gv gV ∧ ∀ v zs, zs.length = ks.length → gV [v] zs = v :: zs
  pl : slN c = false := by decide +kernel
theorem HasKk.up {P : Program} {w : World} {K : PySem.W.Frag} {mg : Str → Option Value} {Tb : List NdefX.NTab} {base : Heap} {c : Str} {j k n : Nat} {ks : List Str} {F : FS} (h : HasKk P w K mg Tb base c j n ks F) (le : j ≤ k) : HasKk P w K mg Tb base c k n ks F := by
  obtain ⟨A, f, fd, ps, gv, gV, ok, r⟩ := h.ex
  exact ⟨⟨A, f, fd, ps, gv, gV, ok.mono le, r⟩, h.pl⟩
section
variable {X : Dx} {E : XE} {x : Str} {p0 pos : Pos} {kws : List Keyword} {j n : Nat} {F : Fd} {fb : Fa} {ks : List Str}
end
section
variable {P : Program} {w : World} {K : PySem.W.Frag} {mg : Str → Option Value} {base : Heap} {Tb : List NdefX.NTab} {c : Str} {j n : Nat} {F : Fd} {A f : Addr} {fd : FuncData} {ps ks : List Str} {gv : List Value → List Value → List Value} {gV : List V → List V → List V}
end
end Dl
noncomputable section
namespace Lw
open PySem PySem.Spec PyProof.Rows L2 Dl
end Lw
end
/-! El90: d.pop(k) of a dict whose keys are tuples; d == {}. -/
namespace Dl
open PySem PySem.Spec PyProof.Rows L2
def ddel (kvs : List (D × D)) (k : List Key) : List (D × D) := kvs.filter fun p => decide (keyD p.1 ≠ some k)
theorem RepD.del {C : Cn} {G : Hp} (k : List Key) : ∀ {xs : List (List Key × Addr × Value)} {ds : List (D × D)}, RepD C G xs ds → RepD C G (withoutH xs k) (ddel ds k)
  | _, _, .nil => .nil
  | _, _, .cons (k := k1) t rv rd r => by
    unfold withoutH ddel
    rw [List.filter_cons, List.filter_cons, keyD_kD]
    by_cases e : k1 = k
    · subst e
      simp only [ne_eq, not_true_eq_false, decide_false, Bool.false_eq_true, if_false]
      exact r.del k1
    · have e2 : ¬ (some k1 = some k) := fun z => e (Option.some.inj z)
      simp only [ne_eq, e, e2, not_false_eq_true, decide_true, if_true]
      exact .cons t rv rd (r.del k)
section
variable {X : Dx} {E : XE} {o e : Expr} {apos cpos : Pos} {f1 f2 : Fe}
end
end Dl
noncomputable section
namespace Lw
open PySem PySem.Spec PyProof.Rows L2 Dl
end Lw
end
/-! El91: own classes with __slots__: made, fields read and stored, properties. -/
namespace Dl
open PySem PySem.Spec PyProof.Rows L2
/-! ### C(..) -/
theorem slH_made {H : Hp} {x C dx : Addr} {vs : List (Option V)} (ne : dx ≠ x) : SlX.slH (upd (upd H dx (.own x)) x (.ins C dx [])) x C dx vs = SlX.slH H x C dx vs := by
  funext b
  unfold SlX.slH
  by_cases h1 : b = x
  · rw [h1, upd_same, upd_same]
  · by_cases h2 : b = dx
    · rw [h2, upd_ne ne, upd_ne ne, upd_same, upd_same]
    · simp only [upd_ne h1, upd_ne h2]
theorem slH_known {H : Hp} {a C dx : Addr} {vs : List (Option V)} (h : H dx = some (.xd [])) : SlX.slH H a C dx vs = upd H a (SlX.SlO a C dx vs) := by
  unfold SlX.slH
  have : upd H dx (.xd []) = H := by
    funext b
    by_cases e : b = dx
    · rw [e, upd_same, h]
    · rw [upd_ne e]
  rw [this]
def tMakeS (C : Addr) (sp : Sp) (dvs : List V) (E : XK) (t : TA) : TE := fun σ H Q => t σ H fun vs H1 => ∀ x dx, H1 x = none → H1 dx = none → dx ≠ x →
  sp (.ref x :: (vs ++ dvs)) (SlX.slH H1 x C dx []) (fun v H2 => v = .non ∧ Q (.ref x) H2) E
section
variable {X : Cx} {CX : CXT} {k : Nat} {f C : Addr} {fd : FuncData} {ps : List Str} {sp : Sp} {dvs : List V} {ds : List Value} {E : XK} {x : Str} {p pos : Pos} {e : Expr} {es : List Expr} {t : TA}
theorem run_makeS {pins : List (Addr × Obj)} {σ : L2.St} {H : Hp} {s : Shared} {Q : VK} {us : List Value} {vs : List V} (M : Mk X.K C f) (F : FnOk X.prog X.w X.K X.mg X.base CX k f fd ps sp) (hr : Room (k + 1) X.A) (hb : Binds X.K fd ps ds) (hd : Vals dvs ds)
    (hx : Passes CX X E) (I : Inv X pins σ H s) (r : Vals vs us)
    (h : ∀ x dx, H x = none → H dx = none → dx ≠ x → sp (.ref x :: (vs ++ dvs)) (SlX.slH H x C dx []) (fun v H2 => v = .non ∧ Q (.ref x) H2) E) :
    wpAny (model X.prog X.w) X.A (call (.ref C) us) (EP X pins σ Q) X.xe s := by
  have ne : s.heap.objs.size ≠ s.heap.objs.size + 1 := Nat.ne_of_lt (Nat.lt_succ_self _)
  have hq := h (s.heap.objs.size + 1) s.heap.objs.size (I.hok.fresh (Nat.le_succ _)) (I.hok.fresh (Nat.le_refl _)) ne
  have I1 := Inv.made (C := C) I
  have hsl : SlX.Slt (upd (upd H s.heap.objs.size (.own (s.heap.objs.size + 1))) (s.heap.objs.size + 1) (.ins C s.heap.objs.size [])) (s.heap.objs.size + 1) C s.heap.objs.size [] := .inl ⟨upd_same, rfl⟩
  obtain ⟨_, sl, mA, e0, _, _, _⟩ := SlX.slt_at I1 hsl
  have I2 := SlX.inv_slot (h' := (s.heap.push PySem.W.emptyDict).push (PySem.W.instObj C s.heap.objs.size)) (t' := s.toks) I1 hsl (fun b o _ _ e => e) (fun m z => z) e0 (SlX.SlR.nil sl)
  rw [slH_made ne] at I2
  have r2 : Vals (V.ref (s.heap.objs.size + 1) :: (vs ++ dvs)) (Value.ref (s.heap.objs.size + 1) :: (us ++ ds)) := .cons rfl (r.append hd)
  have hl : (Value.ref (s.heap.objs.size + 1) :: us ++ ds).length = ps.length := by
    have e := r2.length
    rw [F.len _ _ _ _ hq] at e
    exact e.symm
  refine wpAny_call (make_map (f := f) I.kIn M.makes M.init (beq_iff_eq.mp M.fn) (codeAny_mono (F.run _ X.stack _ _ ⟨Value.ref (s.heap.objs.size + 1) :: us, []⟩ (Value.ref (s.heap.objs.size + 1) :: (us ++ ds)) _ _ E (hr.make C us [])
    (I2.env0.make C us []) (hb _ (Value.ref (s.heap.objs.size + 1) :: us) I2.kIn hl) r2 hq) fun r s' hq' => ?_))
  cases r with
  | error e => exact hx pins σ _ _ e s' I2 hq'
  | ok fl =>
    cases fl with
    | ret u =>
      obtain ⟨v, H', I3, rv, ev, q3⟩ := I2.after hq'
      subst ev
      exact ⟨rv, ⟨V.ref (s.heap.objs.size + 1), H', I3, rfl, q3⟩⟩
    | next => exact False.elim hq'
    | brk => exact False.elim hq'
    | cont => exact False.elim hq'
theorem pe_makeS (M : Mk X.K C f) (F : FnOk X.prog X.w X.K X.mg X.base CX k f fd ps sp) (hr : Room (k + 1) X.A) (hg : Gl X x) (hm : X.mg x = some (.ref C)) (hb : Binds X.K fd ps ds) (hd : Vals dvs ds) (hx : Passes CX X E)
    (ha : PA X (e :: es) t) (hdb : (x == ("__debug__" : Str)) = false := by decide) (he : starEach (e :: es) X.env = (false, eval e X.env) :: starEach es X.env := by rfl) (hpl : (backTo pos (starEach es X.env)).any (·.1) = false := by rfl) :
    PE X (.Call (.Name x p) (e :: es) [] pos) (tMakeS C sp dvs E t) := by
  refine ⟨fun pins s σ H Q I h => ?_⟩
  refine wpAny_Call_Name_kw (ld_glob I hg hm ?_ hdb)
  refine PySem.W.callWith_K (h₀ := X.base) I.ok.mod.kin M.kp (thn (ha.run pos pins s σ H _ I h) fun us s1 ⟨vs, H1, I1, r, q⟩ => ⟨I1.kIn, ?_⟩) he hpl
  exact run_makeS M F hr hb hd hx I1 r q
end
theorem OkS.addSl {C : Cn} {I : Iv} {as : List Addr} {G H : Hp} {env : Envt} {mem : Mem} {σ : L2.St} {x dx A : Addr} {c : Str} (sl : slN c = true) (k : OkS C I as G env mem σ H) (hx : H x = none) (hd : H dx = none) (ne : dx ≠ x) (hm : C.mg c = some (.ref A)) :
    Ext as G H (as ++ [x]) (upd G dx (.xd [])) (SlX.slH H x A dx []) ∧ OkS C I (as ++ [x]) (upd G dx (.xd [])) env (mem ++ [.ob c []]) σ (SlX.slH H x A dx []) := by
  obtain ⟨m1, x1⟩ := k.mm.lay hd (.xd [])
  have hx1 : (upd H dx (.xd [])) x = none := by rw [upd_ne ne.symm]; exact hx
  obtain ⟨m2, x2⟩ := m1.layH hx1 (SlX.SlO x A dx [])
  have xx := x1.trans x2
  have hn : x ∉ as := fun z => not_tr hx (k.mm.there x z)
  have gx : (upd G dx (.xd [])) x = none := by rw [upd_ne ne.symm]; exact none_sub k hx
  have xe : Ext as G H (as ++ [x]) (upd G dx (.xd [])) (upd (upd H dx (.xd [])) x (SlX.SlO x A dx [])) := ⟨⟨[x], rfl⟩, xx.sub, xx.keep, xx.old, fun a h h' => by
    rcases List.mem_append.mp h with z | z
    · exact (h' z).elim
    · rw [List.mem_singleton.mp z]; exact not_tr hx, xx.there⟩
  refine ⟨xe, ⟨⟨by rw [List.length_append, List.length_append, k.mm.len]; rfl, ?_, fun i a c' ha hc => ?_, fun a ha => ?_, m2.sub, m2.nt, m2.tabs⟩, k.len, fun i s e => ?_, I.ext xe k.iv⟩⟩
  · exact List.nodup_append.mpr ⟨k.mm.nd, by simp, fun a ha b hb e => by
      rw [List.mem_singleton] at hb
      exact hn (hb ▸ e ▸ ha)⟩
  · by_cases hi : i < as.length
    · rw [List.getElem?_append_left hi] at ha
      rw [List.getElem?_append_left (by rw [← k.mm.len]; exact hi)] at hc
      exact m2.cell i a c' ha hc
    · rw [List.getElem?_append_right (by omega)] at ha
      rw [List.getElem?_append_right (by rw [← k.mm.len]; omega), ← k.mm.len] at hc
      cases q : i - as.length with
      | zero =>
        rw [q] at ha hc
        cases ha
        cases hc
        exact ⟨gx, A, dx, [], .inr ⟨sl, [], upd_same, upd_same, fun f v h => by cases h⟩, hm, .nil⟩
      | succ j => rw [q] at ha; cases ha
  · rcases List.mem_append.mp ha with z | z
    · exact m2.there a z
    · rw [List.mem_singleton.mp z]
      exact ⟨_, upd_same, CO.sl.nt⟩
  · obtain ⟨v, h1, h2⟩ := k.env i s e
    exact ⟨v, h1, h2.ext xe⟩
structure HasKS (P : Program) (w : World) (K : PySem.W.Frag) (mg : Str → Option Value) (Tb : List NdefX.NTab) (base : Heap) (c : Str) (j n : Nat) (dds : List D) (F : FS) : Prop where
  ex : ∃ (A f : Addr) (fd : FuncData) (ps : List Str) (ds : List Value) (dvs : List V), FnOk P w K mg base (L2.CX P w) j f fd ps (spG ⟨K, mg, Tb, P, w⟩ n F) ∧ mg c = some (.ref A) ∧ Mk K A f ∧ Binds K fd ps ds ∧ Vals dvs ds ∧ ∀ G, Reps ⟨K, mg, Tb, P, w⟩ G dvs dds
  sl : slN c = true
theorem HasKS.up {P : Program} {w : World} {K : PySem.W.Frag} {mg : Str → Option Value} {Tb : List NdefX.NTab} {base : Heap} {c : Str} {j k n : Nat} {dds : List D} {F : FS} (h : HasKS P w K mg Tb base c j n dds F) (le : j ≤ k) : HasKS P w K mg Tb base c k n dds F := by
  obtain ⟨A, f, fd, ps, ds, dvs, ok, r⟩ := h.ex
  exact ⟨⟨A, f, fd, ps, ds, dvs, ok.mono le, r⟩, h.sl⟩
section
variable {X : Dx} {E : XE} {a b c e o : Expr} {es rest : List Expr} {pos p0 p2 apos : Pos} {f f1 f2 f3 : Fe} {fa : Fa} {x m : Str} {j n : Nat} {dds : List D} {F : Fd} {run : Nat → Fd → Nat → List Sl → Mem → Rg Rs}
variable {as : List Addr} {G : Hp} {σ : L2.St} {H : Hp} {vs : List V} {rs : List Sl} {env : Envt} {mem : Mem} {P : Rs → Mem → Prop}
theorem newOb_sl (sl : slN x = true) (ru : ∀ k, RunOk (run k)) {A y dx : Addr} (k : OkS (Cx.cn X) X.iv as G env mem σ H) (ro : RsOk (Cx.cn X) as G vs rs) (hm : X.mg x = some (.ref A)) (hx : H y = none) (hd : H dx = none) (ne : dx ≠ y) (h : (newOb run x F n rs mem).sat E P) :
    spG (Cx.cn X) n (FR F) (.ref y :: vs) (SlX.slH H y A dx []) (fun v H2 => v = .non ∧ Post (Cx.cn X) X.iv as G env σ H P (.ref y) H2) (EK X E) := by
  obtain ⟨x1, k1⟩ := OkS.addSl (c := x) sl k hx hd ne hm
  have hl := k.mm.len
  have rs1 : RsOk (Cx.cn X) (as ++ [y]) (upd G dx (.xd [])) (.ref y :: vs) (.loc mem.length :: rs) := .cons ⟨y, by rw [← hl, List.getElem?_append_right (Nat.le_refl _)]; simp, rfl⟩ (ro.ext x1)
  let P' : Rs → Mem → Prop := fun r m2 => r = .v .non ∧ ∃ c' fs, m2[mem.length]? = some (.ob c' fs) ∧ P (.v (.ob c' fs)) (m2.take mem.length)
  have h2 : (run mem.length F n (.loc mem.length :: rs) (mem ++ [.ob x []])).sat E P' := by
    unfold newOb at h
    cases q : run mem.length F n (.loc mem.length :: rs) (mem ++ [.ob x []]) with
    | no => rw [q] at h; exact h.elim
    | ex c fs m2 => rw [q] at h; exact h
    | ok r m2 =>
      rw [q] at h
      cases r with
      | loc _ => exact h.elim
      | nl _ => exact h.elim
      | v d =>
        cases d <;> try exact h.elim
        dsimp only at h
        cases q2 : m2[mem.length]? with
        | none => rw [q2] at h; exact h.elim
        | some cl =>
          cases cl <;> rw [q2] at h <;> try exact h.elim
          exact ⟨rfl, _, _, q2, h⟩
  obtain ⟨bs, G2, m2, rs2, a1, a2, a3, a4⟩ := ru mem.length k1 rs1 h2
  refine ⟨bs, G2, m2, rs2, a1, a2, a3, FR.mono F _ _ _ _ _ _ (fun r m z v G' H' y1 y2 y3 y4 => ?_) (fun c fs m z cls d G' H' y1 y2 y3 => ?_) a4⟩
  · obtain ⟨as', G'', m', r', xe, kk, ro', f', rn, c', fs, hc, hP⟩ := z v G' H' y1 y2 y3 y4
    subst rn
    have hv : v = .non := by
      cases (show Rep _ _ v .non from ro')
      rfl
    refine ⟨hv, ?_⟩
    have hpre : (as ++ [y]) <+: as' := let ⟨t, e⟩ := xe.pre; ⟨t, e.symm⟩
    have hy : as'[mem.length]? = some y := get_pre xe.pre (by rw [← hl, List.getElem?_append_right (Nat.le_refl _)]; simp)
    obtain ⟨g, A', dx', vs', e2, e3, rf⟩ := loc_cell kk hy hc
    have xt := x1.trans xe
    obtain ⟨xo, mo⟩ := exit_st xt kk.mm
    rw [hl] at mo
    have hyn : y ∉ as := fun z => not_tr hx (k.mm.there y z)
    rcases e2 with ⟨p2, e2⟩ | ⟨p2, ss, e2, gd, sk⟩
    · obtain ⟨ml, lx⟩ := mo.learn e2 g hyn
      have x3 := lx G H as xo (not_tr hx)
      refine ⟨as, _, m'.take mem.length, .v (.ob c' fs), x3, k.ext x3 ml, ?_, trivial, hP⟩
      exact .ob (.inl ⟨p2, upd_same⟩) e3 (rf.mono fun b u e => by rw [upd_ne (ne_of_none e g)]; exact e)
    · obtain ⟨ml, lx⟩ := mo.learn e2 g hyn CO.sl.nt
      have x3 := lx G H as xo (not_tr hx)
      refine ⟨as, _, m'.take mem.length, .v (.ob c' fs), x3, k.ext x3 ml, ?_, trivial, hP⟩
      exact .ob (.inr ⟨p2, ss, upd_same, by rw [upd_ne (ne_of_none gd g)]; exact gd, sk⟩) e3 (rf.mono fun b u e => by rw [upd_ne (ne_of_none e g)]; exact e)
  · exact z cls d G' H' y1 y2 y3
theorem se_makeSl (ru : ∀ k, RunOk (run k)) (tk : Tk X E) (hK : HasKS X.prog X.w X.K X.mg X.T X.base x j n dds (FR F)) (hr : Room (j + 1) X.A) (ha : Sa X E (e :: es) fa)
    (hg : Gl X x := by rfl) (hdb : (x == ("__debug__" : Str)) = false := by decide) (he : starEach (e :: es) X.env = (false, eval e X.env) :: starEach es X.env := by rfl) (hpl : (backTo pos (starEach es X.env)).any (·.1) = false := by rfl) : Se X E (.Call (.Name x p0) (e :: es) [] pos) (makeS run x F n dds fa) := .mk fun env mem P h => fun as G σ H k => by
  obtain ⟨A, f, fd, ps, ds, dvs, ok, g1, g2, g3, g4, g5⟩ := hK.ex
  refine EW.of (pe_makeS g2 ok hr hg g1 g3 g4 tk.passes (pa_aw X (e :: es)) hdb he hpl) ?_
  refine AW.mono (ha env mem _ (sat_bd h) as G σ H k) fun vs H1 ⟨as1, G1, m1, rs, x1, k1, ro, h1⟩ => ?_
  intro y dx hy hd ne
  exact spG_mono (newOb_sl hK.sl ru k1 (ro.append (rsV (g5 G1))) g1 hy hd ne h1) fun v H' q => ⟨q.1, q.2.ext x1⟩
end
/-! ### fields -/
structure HasSl (K : PySem.W.Frag) (mg : Str → Option Value) (c x : Str) : Prop where
  ex : ∃ A p, mg c = some (.ref A) ∧ SlX.SCls K A ∧ SlX.Slot1 K A x p (slIx x)
  sl : slN c = true
  mem : x ∈ slNames
theorem slIx_at : ∀ f ∈ slNames, slNames[slIx f]? = some f := by decide +kernel
theorem slIx_inj {f g : Str} (h1 : f ∈ slNames) (h2 : g ∈ slNames) (e : slIx f = slIx g) : f = g := by
  have a := slIx_at f h1
  rw [e, slIx_at g h2] at a
  exact (Option.some.inj a).symm
theorem lookup_putF {x f : Str} {v : V} : ∀ {vs : List (Str × V)}, (putF x v vs).lookup f = if f = x then some v else vs.lookup f
  | [] => by
    show List.lookup f [(x, v)] = _
    rw [List.lookup_cons]
    by_cases e : f = x
    · rw [beq_iff_eq.mpr e, if_pos e]
    · rw [beq_eq_false_iff_ne.mpr e, if_neg e]
  | (g, y) :: r => by
    unfold putF
    by_cases e : g = x
    · rw [if_pos e, List.lookup_cons, List.lookup_cons]
      subst e
      by_cases z : f = g
      · rw [beq_iff_eq.mpr z, if_pos z]
      · rw [beq_eq_false_iff_ne.mpr z, if_neg z]
    · rw [if_neg e, List.lookup_cons, List.lookup_cons, lookup_putF (vs := r)]
      by_cases z : f = g
      · subst z
        rw [beq_iff_eq.mpr rfl]
        simp only [if_neg e]
      · rw [beq_eq_false_iff_ne.mpr z]
theorem SlK.put {ss : List (Option V)} {vs : List (Str × V)} (h : SlK ss vs) {x : Str} (hx : x ∈ slNames) (v : V) : SlK (SlX.putS (slIx x) v ss) (putF x v vs) := by
  intro f u hu
  rw [lookup_putF] at hu
  by_cases e : f = x
  · rw [if_pos e] at hu
    cases hu
    subst e
    exact ⟨hx, SlX.putS_get _ _ _⟩
  · rw [if_neg e] at hu
    obtain ⟨h1, h2⟩ := h f u hu
    exact ⟨h1, (SlX.putS_ne fun z => e (slIx_inj h1 hx z)).mpr h2⟩
section
variable {X : Dx} {E : XE} {a b c e o : Expr} {es rest : List Expr} {pos p0 p' p2 apos : Pos} {f f1 f2 f3 : Fe} {x : Str}
theorem se_fldSl {cs : List Str} (hc : ∀ c ∈ cs, HasSl X.K X.mg c x) (ha : Se X E a f) (hb : attributeBase a x X.env (eval a X.env) = eval a X.env := by rfl) : Se X E (.Attribute a x pos) (fldS cs x f) := .mk fun env mem P h => fun as G σ H k => by
  refine EW.of (SlX.pe_sl (pe_ew X a) hb) (EW.mono (ha env mem _ (sat_bd h) as G σ H k) fun v1 H1 ⟨as1, G1, m1, r1, x1, k1, ro1, f1, h1⟩ => ?_)
  obtain ⟨c, fs, h2, a, A, dx, vs, e1, e2, e3, rf⟩ := obR_ok k1 ro1 h1
  obtain ⟨hm, h3⟩ := sat_if h2
  obtain ⟨d, e4, h4⟩ := sat_optR h3
  have hC := hc c (by simpa using hm)
  obtain ⟨A', p, g1, g2, g3⟩ := hC.ex
  have eA : A' = A := by
    have := g1.symm.trans e3
    injection this with this
    injection this
  subst eA
  obtain ⟨ss, hH, gd, sk⟩ := e2.sl hC.sl
  obtain ⟨v, e5, rv⟩ := RepF.look rf e4
  obtain ⟨_, e6⟩ := sk x v e5
  exact ⟨a, A', dx, p, ss, slIx x, v, e1, .inr ⟨hH, k1.mm.sub _ _ gd⟩, g2, g3, e6, (Post.now (r := .v d) k1 rv h4).ext x1⟩
theorem ss_fldSl {cs : List Str} (hc : ∀ c ∈ cs, HasSl X.K X.mg c x) (ho : Se X E o f1) (he : Se X E e f2) (hs : swapsWith e (some (.Attribute o x p')) pos.line X.env = pure false := by first | exact sw_nc rfl | rfl) : Ss X E (.Assign [.Attribute o x p'] e pos) (fldB cs x f1 f2) := .mk fun env mem K hK => fun as G σ H k => by
  refine SW.of (SlX.ps_sl (pe_ew X o) (pe_ew X e) hs) ?_
  refine EW.mono (he env mem _ (sat_bd (sat_to hK)) as G σ H k) fun v1 H1 ⟨as1, G1, m1, r1, x1, k1, ro1, f1, h1⟩ => ?_
  obtain ⟨G2, x2, k2, rs2⟩ := learn_post k.iv x1 k1 ro1 f1
  refine EW.mono (ho env m1 _ (sat_bd h1) as1 G2 σ H1 k2) fun v2 H2 ⟨as3, G3, m3, r3, x3, k3, ro3, f3, h3⟩ => ?_
  obtain ⟨q, m4, ef, h4⟩ := sat_frzR h3
  obtain ⟨G4, x4, k4, rp4⟩ := frz_ok k3 (rsOne (rs2.ext x3)) ef
  cases r3 <;> try exact h4.elim
  rename_i n
  dsimp only at h4
  cases hn : m4[n]? with
  | none => simp [hn, Rg.sat] at h4
  | some cl =>
    cases cl <;> simp only [hn] at h4 <;> try exact h4.elim
    rename_i c fs
    obtain ⟨d, rfl⟩ := frz_one ef
    obtain ⟨⟨hm, hl⟩, hP⟩ := sat_if h4
    obtain ⟨a, ha, rfl⟩ := ro3
    obtain ⟨_, A, dx, vs, eH, eM, rf⟩ := loc_cell k4 ha hn
    have hC := hc c (by simpa using hm)
    obtain ⟨A', p, g1, g2, g3⟩ := hC.ex
    have eA : A' = A := by
      have := g1.symm.trans eM
      injection this with this
      injection this
    subst eA
    obtain ⟨ss, hH, gd, sk⟩ := eH.sl hC.sl
    cases rp4 with
    | cons rv _ =>
      have hd := k4.mm.sub _ _ gd
      obtain ⟨y, k5⟩ := setObG (o' := SlX.SlO a A' dx (SlX.putS (slIx x) v1 ss)) k4 ha hn hH CO.sl CO.sl (.inr ⟨hC.sl, _, upd_same, gd, sk.put hC.mem v1⟩) eM (RepF.put (f := x) rv rf)
      refine ⟨a, A', dx, p, ss, slIx x, rfl, .inr ⟨hH, hd⟩, g2, g3, ?_⟩
      rw [slH_known hd]
      exact (PostS.now k5 hP).ext (((x2.trans x3).trans x4).trans y)
end
/-! ### properties -/
section
variable {X : Cx} {CX : CXT} {k : Nat} {C p g a dx : Addr} {vs : List (Option V)} {f : Str} {fd : FuncData} {ps : List Str} {sp : Sp} {dvs : List V} {ds : List Value} {E : XK} {e : Expr} {pos : Pos} {ta : TE}
theorem getpropS_ok {pins : List (Addr × Obj)} {σ : L2.St} {H : Hp} {s : Shared} {Q : VK} {b : Bool} {E' : Value → Shared → Prop} (I : Inv X pins σ H s) (ea : SlX.Slt H a C dx vs) (c : SlX.SCls X.K C) (hp : PropOf X.K C f p g)
    (F : FnOk X.prog X.w X.K X.mg X.base CX k g fd ps sp) (hr : Room (k + 1) X.A) (hb : Binds X.K fd ps ds) (hd : Vals dvs ds) (hx : Passes CX X.nox E) (h : sp (.ref a :: dvs) H Q E) :
    wpAny (model X.prog X.w) X.A (getAttr (.ref a) f b) (EP X pins σ Q) E' s := by
  obtain ⟨sl, od, _, J, _⟩ := SlX.slt_inst I ea
  obtain ⟨rest, hrec⟩ := hp.rec_
  have I1 := I.tok (s.toks + 1)
  have hl : ([Value.ref a] ++ ds).length = ps.length := by
    rw [← F.len _ _ _ _ h]
    show ds.length + 1 = dvs.length + 1
    rw [hd.length]
  have hc : (PySem.W.clsIn X.K C).isSome = true := c.ic
  refine PySem.W.get_bind I.kIn J (PySem.W.plainGet_of (c.get f)).1 (PySem.W.findObj_data hc hp.at_ hp.get hp.tak) (PySem.W.plainGet_of (c.get f)).2 (wpAny_call (PySem.W.prop_get (s := { s with toks := s.toks + 1 }) I.kIn hrec ?_))
  refine codeAny_mono (F.run X.A.in1 X.stack { s with toks := s.toks + 1 } H ⟨[.ref a], []⟩ (.ref a :: ds) (.ref a :: dvs) Q E hr.in1 I1.env0.in1 (hb _ [.ref a] I1.kIn hl) (.cons rfl hd) h) fun r s' hq => ?_
  cases r with
  | error er => exact False.elim (hx pins σ H { s with toks := s.toks + 1 } er s' (I1.wish _) hq)
  | ok fl =>
    cases fl with
    | ret u =>
      obtain ⟨v, H', I3, rv, q3⟩ := I1.after hq
      show wpAny _ _ (handedOut u) _ _ _
      rw [PySem.W.handedOut_of (handed_of rv)]
      exact wpAny_pure ⟨v, H', I3, rv, q3⟩
    | next => exact False.elim hq
    | brk => exact False.elim hq
    | cont => exact False.elim hq
end
structure HasPS (P : Program) (w : World) (K : PySem.W.Frag) (mg : Str → Option Value) (Tb : List NdefX.NTab) (base : Heap) (c m : Str) (j : Nat) (F : FS) : Prop where
  ex : ∃ (A p g : Addr) (fd : FuncData) (ps : List Str), FnOk P w K mg base (L2.CX P w) j g fd ps (spG ⟨K, mg, Tb, P, w⟩ 1 F) ∧ mg c = some (.ref A) ∧ SlX.SCls K A ∧ PropOf K A m p g ∧ Binds K fd ps []
  sl : slN c = true
theorem HasPS.up {P : Program} {w : World} {K : PySem.W.Frag} {mg : Str → Option Value} {Tb : List NdefX.NTab} {base : Heap} {c m : Str} {j k : Nat} {F : FS} (h : HasPS P w K mg Tb base c m j F) (le : j ≤ k) : HasPS P w K mg Tb base c m k F := by
  obtain ⟨A, p, g, fd, ps, ok, r⟩ := h.ex
  exact ⟨⟨A, p, g, fd, ps, ok.mono le, r⟩, h.sl⟩
def tPropS (X : Cx) (m : Str) (ta : TE) : TE := fun σ H Q => ta σ H fun x H1 => ∃ (a dx : Addr) (vs : List (Option V)) (C p g : Addr) (fd : FuncData) (ps : List Str) (sp : Sp) (k : Nat) (E : XK) (CX : CXT), x = .ref a ∧ SlX.Slt H1 a C dx vs ∧
  (SlX.SCls X.K C ∧ PropOf X.K C m p g ∧ FnOk X.prog X.w X.K X.mg X.base CX k g fd ps sp ∧ Room (k + 1) X.A ∧ Binds X.K fd ps [] ∧ Passes CX X.nox E) ∧ sp [.ref a] H1 Q E
theorem pe_propS {X : Cx} {e : Expr} {m : Str} {pos : Pos} {ta : TE} (he : PE X e ta) (hab : attributeBase e m X.env (eval e X.env) = eval e X.env) : PE X (.Attribute e m pos) (tPropS X m ta) := by
  refine ⟨fun pins s σ H Q I h => ?_⟩
  refine attr_of hab (thn (he.run pins s σ H _ I h) fun u s1 ⟨x, H1, I1, rx, a, dx, vs, C, p, g, fd, ps, sp, k, E, CX, ex, ea, ⟨c, hp, F, hr, hb, hx⟩, q⟩ => ?_)
  subst ex
  obtain rfl : u = Value.ref a := rx
  exact getpropS_ok I1 ea c hp F hr hb .nil hx q
theorem obO_sl {C : Cn} {I : Iv} {as : List Addr} {G H : Hp} {env : Envt} {mem : Mem} {σ : L2.St} {v : V} {r : Rs} {c : Str} (sl : slN c = true) (k : OkS C I as G env mem σ H) (ro : ResOk C as G H v r) (h : obO r mem = some c) :
    RepS C as G v (unl r) ∧ ∃ a A dx ss, v = .ref a ∧ SlX.Slt H a A dx ss ∧ C.mg c = some (.ref A) := by
  unfold obO at h
  cases r with
  | nl ds => cases h
  | v d =>
    cases d <;> try cases h
    rename_i fs
    cases (show Rep C G v (.ob c fs) from ro) with
    | ob g m rf =>
      obtain ⟨ss, h1, h2, _⟩ := g.sl sl
      exact ⟨.ob g m rf, _, _, _, ss, rfl, .inr ⟨k.mm.sub _ _ h1, k.mm.sub _ _ h2⟩, m⟩
  | loc n =>
    obtain ⟨a, ha, rfl⟩ := id ro
    cases q : mem[n]? with
    | none => simp [q] at h
    | some cl =>
      cases cl with
      | ob c' fs =>
        simp only [q] at h
        cases h
        obtain ⟨_, A, dx, vs, e, m, rf⟩ := loc_cell k ha q
        obtain ⟨ss, h1, h2, _⟩ := e.sl sl
        exact ⟨ro, a, A, dx, ss, rfl, .inr ⟨h1, k.mm.sub _ _ h2⟩, m⟩
      | _ => simp [q] at h
theorem se_propSl {X : Dx} {E : XE} {e : Expr} {m : Str} {pos : Pos} {f : Fe} {j : Nat} {tb : List (Str × Fd)} (hT : ∀ c F, (c, F) ∈ tb → HasPS X.prog X.w X.K X.mg X.T X.base c m j (FR F)) (hr : Room (j + 1) X.A) (ha : Se X E e f) (hab : attributeBase e m X.env (eval e X.env) = eval e X.env := by rfl) : Se X E (.Attribute e m pos) (propS tb f) := .mk fun env mem P h => fun as G σ H k => by
  refine EW.of (pe_propS (pe_ew X e) hab) (EW.mono (ha env mem _ (sat_bd h) as G σ H k) fun v1 H1 ⟨as1, G1, m1, r1, x1, k1, ro1, f1, h1⟩ => ?_)
  obtain ⟨c, e1, h3⟩ := sat_optR h1
  obtain ⟨F, e3, h4⟩ := sat_optR h3
  have h5 := sat_nx h4
  have hC := hT c F (look_mem e3)
  obtain ⟨rs0, a, A, dx, vs, rfl, e2, e4⟩ := obO_sl hC.sl k1 ro1 e1
  obtain ⟨A', p, g, fd, ps, ok, g1, g2, g3, g4⟩ := hC.ex
  have eA : A' = A := by
    have := g1.symm.trans e4
    injection this with this
    injection this
  subst eA
  refine ⟨a, dx, vs, A', p, g, fd, ps, _, j, EK X xNo, _, rfl, e2, ⟨g2, g3, ok, hr, g4, ?_⟩, ?_⟩
  · exact (tkNo (X := ⟨X.toCx.nox, X.iv, X.T⟩)).passes
  · exact spG_mono (runA_sp k1 (rsOne rs0) h5) fun v H' q => q.ext x1
/-! ### from the head -/
def slA (K : PySem.W.Frag) (c x : Str) : Addr := match PySem.W.findIn K (.ref (He.ga K c)) x with
  | some (some (.ref p)) => p
  | _ => 0
def sclsB (K : PySem.W.Frag) (c : Str) : Bool := PySem.W.plainGet K (He.ga K c) Str.empty && (PySem.W.isClsIn K (He.ga K c) && (PySem.W.plainOver K (He.ga K c) && fB (PySem.W.findIn K (.ref (He.ga K c)) "__setattr__") "object.__setattr__"))
theorem sclsB_ok {K : PySem.W.Frag} {c : Str} (h : sclsB K c = true) : SlX.SCls K (He.ga K c) := by
  obtain ⟨h1, h⟩ := He.ba h
  obtain ⟨h2, h⟩ := He.ba h
  obtain ⟨h3, h4⟩ := He.ba h
  exact ⟨h1, h2, h3, fB_ok h4⟩
def slotB (K : PySem.W.Frag) (c x : Str) : Bool := (match PySem.W.findIn K (.ref (He.ga K c)) x with
    | some (some (.ref _)) => true
    | _ => false) && (fB (PySem.W.specialIn K (.ref (slA K c x)) "__get__") "member_descriptor.__get__" && (decide (PySem.W.takesIn K (.ref (slA K c x)) = some true) && ((match PySem.W.typeIn K (.ref (slA K c x)) with
    | some (.type T) => decide (T = "member_descriptor")
    | _ => false) && (decide (PySem.W.slotIn K (slA K c x) (He.ga K c) = some (slIx x)) && decide (slIx x < 1000)))))
theorem slotB_ok {K : PySem.W.Frag} {c x : Str} (h : slotB K c x = true) : SlX.Slot1 K (He.ga K c) x (slA K c x) (slIx x) := by
  obtain ⟨h1, h⟩ := He.ba h
  obtain ⟨h2, h⟩ := He.ba h
  obtain ⟨h3, h⟩ := He.ba h
  obtain ⟨h4, h⟩ := He.ba h
  obtain ⟨h5, h6⟩ := He.ba h
  refine ⟨?_, fB_ok h2, of_decide_eq_true h3, ?_, of_decide_eq_true h5, of_decide_eq_true h6⟩
  · clear h2 h3 h4 h5 h6
    unfold slA
    split at h1
    · rename_i p e
      rw [e]
    · cases h1
  · split at h4
    · rename_i T e
      rw [e, of_decide_eq_true h4]
    · cases h4
theorem hasSl {K : PySem.W.Frag} {mg : Str → Option Value} {c x : Str} (hm : mg c = some (.ref (He.ga K c))) (hc : sclsB K c = true) (h : slotB K c x = true) (sl : slN c = true := by decide +kernel) (mem : x ∈ slNames := by decide +kernel) : HasSl K mg c x := ⟨⟨_, _, hm, sclsB_ok hc, slotB_ok h⟩, sl, mem⟩
section
variable {P : Program} {w : World} {K : PySem.W.Frag} {mg : Str → Option Value} {Tb : List NdefX.NTab} {base : Heap} {c m : Str} {j n : Nat} {F : Fd} {A f : Addr} {fd : FuncData} {ps : List Str}
theorem hasKS (ok : FnOk P w K mg base (L2.CX P w) j f fd ps (spG ⟨K, mg, Tb, P, w⟩ n (FR F))) (hm : mg c = some (.ref A)) (hM : Mk K A f) (hb : Binds K fd ps []) (sl : slN c = true := by decide +kernel) : HasKS P w K mg Tb base c j n [] (FR F) := ⟨⟨A, f, fd, ps, [], [], ok, hm, hM, hb, .nil, fun _ => .nil⟩, sl⟩
theorem hasPrS (ok : FnOk P w K mg base (L2.CX P w) j (pgA K c m) fd ps (spG ⟨K, mg, Tb, P, w⟩ 1 (FR F))) (hm : mg c = some (.ref (He.ga K c))) (hc : sclsB K c = true) (hp : propB K c m = true) (hb : Binds K fd ps []) (sl : slN c = true := by decide +kernel) : HasPS P w K mg Tb base c m j (FR F) := ⟨⟨_, _, _, fd, ps, ok, hm, sclsB_ok hc, propB_ok hp, hb⟩, sl⟩
end
end Dl
noncomputable section
namespace Lw
open PySem PySem.Spec PyProof.Rows L2 Dl
end Lw
end
/-! faces: shapes that run, the first of them, Face made -/
namespace Lw
open PySem Dl
def runB (w b : Pt) (s : List Pt) : Bool := s.all fun q => !(decide (0 < dot q w) || (decide (dot q w = 0) && decide (dot q b < 0)))
theorem perp0 {q w : Pt} (hw : w ≠ ((0 : Int), (0 : Int))) (h1 : dot q w = 0) (h2 : dot q (rt w) = 0) : q = ((0 : Int), (0 : Int)) := by
  obtain ⟨a, b⟩ := q
  obtain ⟨x, y⟩ := w
  have e1 : a * x + b * y = 0 := h1
  have e2 : a * y + b * (-x) = 0 := h2
  have s1 : a * (x * x + y * y) = 0 := by
    have : a * (x * x + y * y) = x * (a * x + b * y) + y * (a * y + b * (-x)) := by grind
    rw [this, e1, e2]; simp
  have s2 : b * (x * x + y * y) = 0 := by
    have : b * (x * x + y * y) = y * (a * x + b * y) - x * (a * y + b * (-x)) := by grind
    rw [this, e1, e2]; simp
  have xx : 0 ≤ x * x := by rcases Int.le_total 0 x with h | h; · exact Int.mul_nonneg h h
                            · exact Int.mul_nonneg_of_nonpos_of_nonpos h h
  have yy : 0 ≤ y * y := by rcases Int.le_total 0 y with h | h; · exact Int.mul_nonneg h h
                            · exact Int.mul_nonneg_of_nonpos_of_nonpos h h
  have nz : x * x + y * y ≠ 0 := fun z => by
    have hx : x * x = 0 := by omega
    have hy : y * y = 0 := by omega
    have hx : x = 0 := (Int.mul_eq_zero.mp hx).elim id id
    have hy : y = 0 := (Int.mul_eq_zero.mp hy).elim id id
    exact hw (by rw [hx, hy])
  have ha := (Int.mul_eq_zero.mp s1).resolve_right nz
  have hb := (Int.mul_eq_zero.mp s2).resolve_right nz
  rw [ha, hb]
/-! ### runs -/
noncomputable abbrev rnB : Fs := seqB (setB 4 (callS 2 f_product (acons (varS 3) (acons (varS 1) anil))))
    (seqB (ifB (orT (cmpT qGt (varS 4) (valS (.int 0))) (andT (cmpT qEq (varS 4) (valS (.int 0))) (cmpT qLt (callS 2 f_product (acons (varS 3) (acons (varS 2) anil))) (valS (.int 0))))) (retB (valS (.bl false))) nilB)
    nilB)
theorem rn_t {F : Fd} {env : Envt} {m : Mem} {a c : D} {i j : Int} (h4 : env[4]? = some (some (.v (.int i)))) (h3 : env[3]? = some (some (.v a))) (h2 : env[2]? = some (some (.v c))) (e : F [.v a, .v c] [] = .ok (.v (.int j)) []) : orT (cmpT qGt (varS 4) (valS (.int 0))) (andT (cmpT qEq (varS 4) (valS (.int 0))) (cmpT qLt (callS 2 F (acons (varS 3) (acons (varS 2) anil))) (valS (.int 0)))) env m = .ok (decide (0 < i) || (decide (i = 0) && decide (j < 0))) m := by
  by_cases h : 0 < i
  · simp [callS, lcS, lcGo, itS, seqR, Tg.put, Tg.vs, wipeE, noIf, Dl.locs, renO, pickO, idx, wb, nloc, bSh_ii, eqD_ii, defF, retB, retNB, seqB, setB, newB, parB, asgB, itemB, augB, exprB, ifB, nilB, Oc.bd, Rg.to, Rg.bd, rdR, dr, slR, unl, varS, valS, rd1S, rd2S, addS, addR, subS, subI, mulS, divS, modS, powS, opI, negS, cmpS, cmpT, chainS, chainT, chainR, andS, orS, notS, ifS, valT, andT, orT, notT, isBl, anil, acons, tupS, lstS, frzR, frz, ixS, onone, osome, sliceS, slcR, optR, Rg.nx, lenS, lenD, absS, intS, intOf, allS, anyS, blsR, bls, listS, tupleS, seqD, isiS, isi2S, noOb_non, noOb_bl, noOb_int, noOb_str, noOb_tup, noOb_lst, cellR, appendS, popAtS, popS, insertS, minTS, maxTS, minmaxR, unI, lenSetS, exitR, gn, gsn, gsc, gt, qLt, qLe, qGt, qGe, qEq, qNe, qIn, qNotIn, qIs, qIsNot, qIsB, qIsNotB, bI, fI, bB, eqB, isN, dInt, dBool, dStr, dLst, dTup, litS, litRs, obR, fldS, conS, runA, runM, Dl.runN, Dl.runL, methS, newOb, makeS, obO, intR, strR, blR, lenOS, reprOS, putD, fldB, forEB, forGoE, propS, mixO, lfC, lfM, repS, maxLS, minLS, maxLR, lcCS, lc2S, aconsX, h4, h]
  · by_cases k : i = 0
    · simp [callS, lcS, lcGo, itS, seqR, Tg.put, Tg.vs, wipeE, noIf, Dl.locs, renO, pickO, idx, wb, nloc, bSh_ii, eqD_ii, defF, retB, retNB, seqB, setB, newB, parB, asgB, itemB, augB, exprB, ifB, nilB, Oc.bd, Rg.to, Rg.bd, rdR, dr, slR, unl, varS, valS, rd1S, rd2S, addS, addR, subS, subI, mulS, divS, modS, powS, opI, negS, cmpS, cmpT, chainS, chainT, chainR, andS, orS, notS, ifS, valT, andT, orT, notT, isBl, anil, acons, tupS, lstS, frzR, frz, ixS, onone, osome, sliceS, slcR, optR, Rg.nx, lenS, lenD, absS, intS, intOf, allS, anyS, blsR, bls, listS, tupleS, seqD, isiS, isi2S, noOb_non, noOb_bl, noOb_int, noOb_str, noOb_tup, noOb_lst, cellR, appendS, popAtS, popS, insertS, minTS, maxTS, minmaxR, unI, lenSetS, exitR, gn, gsn, gsc, gt, qLt, qLe, qGt, qGe, qEq, qNe, qIn, qNotIn, qIs, qIsNot, qIsB, qIsNotB, bI, fI, bB, eqB, isN, dInt, dBool, dStr, dLst, dTup, litS, litRs, obR, fldS, conS, runA, runM, Dl.runN, Dl.runL, methS, newOb, makeS, obO, intR, strR, blR, lenOS, reprOS, putD, fldB, forEB, forGoE, propS, mixO, lfC, lfM, repS, maxLS, minLS, maxLR, lcCS, lc2S, aconsX, h4, h3, h2, e, k]
    · simp [callS, lcS, lcGo, itS, seqR, Tg.put, Tg.vs, wipeE, noIf, Dl.locs, renO, pickO, idx, wb, nloc, bSh_ii, eqD_ii, defF, retB, retNB, seqB, setB, newB, parB, asgB, itemB, augB, exprB, ifB, nilB, Oc.bd, Rg.to, Rg.bd, rdR, dr, slR, unl, varS, valS, rd1S, rd2S, addS, addR, subS, subI, mulS, divS, modS, powS, opI, negS, cmpS, cmpT, chainS, chainT, chainR, andS, orS, notS, ifS, valT, andT, orT, notT, isBl, anil, acons, tupS, lstS, frzR, frz, ixS, onone, osome, sliceS, slcR, optR, Rg.nx, lenS, lenD, absS, intS, intOf, allS, anyS, blsR, bls, listS, tupleS, seqD, isiS, isi2S, noOb_non, noOb_bl, noOb_int, noOb_str, noOb_tup, noOb_lst, cellR, appendS, popAtS, popS, insertS, minTS, maxTS, minmaxR, unI, lenSetS, exitR, gn, gsn, gsc, gt, qLt, qLe, qGt, qGe, qEq, qNe, qIn, qNotIn, qIs, qIsNot, qIsB, qIsNotB, bI, fI, bB, eqB, isN, dInt, dBool, dStr, dLst, dTup, litS, litRs, obR, fldS, conS, runA, runM, Dl.runN, Dl.runL, methS, newOb, makeS, obO, intR, strR, blR, lenOS, reprOS, putD, fldB, forEB, forGoE, propS, mixO, lfC, lfM, repS, maxLS, minLS, maxLR, lcCS, lc2S, aconsX, h4, h, k]
theorem rn_loop {w b : Pt} (hw : Bd w) (hb : Bd b) (S : Option Sl) : ∀ (ps : List Pt) (o3 o4 : Option Sl), (∀ q ∈ ps, Bd q) →
    (∃ o3' o4', forGo (gn 3) rnB (ps.map pD) [S, some (.v (pD w)), some (.v (pD b)), o3, o4] [] = .nx [S, some (.v (pD w)), some (.v (pD b)), o3', o4'] [] ∧ runB w b ps = true) ∨ (forGo (gn 3) rnB (ps.map pD) [S, some (.v (pD w)), some (.v (pD b)), o3, o4] [] = .rt (.v (.bl false)) [] ∧ runB w b ps = false)
  | [], o3, o4, _ => .inl ⟨o3, o4, rfl, rfl⟩
  | p :: ps, o3, o4, h => by
    have hp := h p List.mem_cons_self
    have s1 : setB 4 (callS 2 f_product (acons (varS 3) (acons (varS 1) anil))) [S, some (.v (pD w)), some (.v (pD b)), some (.v (pD p)), o4] [] = .nx [S, some (.v (pD w)), some (.v (pD b)), some (.v (pD p)), some (.v (.int (dot p w)))] [] := (set_of (call_2 (i := 3) (j := 1) rfl rfl (n_product p w hp hw []))).trans rfl
    have t := rn_t (F := f_product) (env := [S, some (.v (pD w)), some (.v (pD b)), some (.v (pD p)), some (.v (.int (dot p w)))]) (m := []) rfl rfl rfl (n_product p b hp hb [])
    have er : runB w b (p :: ps) = (!(decide (0 < dot p w) || (decide (dot p w = 0) && decide (dot p b < 0))) && runB w b ps) := by unfold runB; rw [List.all_cons]
    cases hc : (decide (0 < dot p w) || (decide (dot p w = 0) && decide (dot p b < 0))) with
    | true =>
      rw [hc] at t
      have eB : rnB [S, some (.v (pD w)), some (.v (pD b)), some (.v (pD p)), o4] [] = .rt (.v (.bl false)) [] := (seqB_nx s1).trans (if_yes t rfl)
      refine .inr ⟨?_, by rw [er, hc]; rfl⟩
      rw [List.map_cons, forGo]
      have eg : gn 3 (pD p) [S, some (.v (pD w)), some (.v (pD b)), o3, o4] = some [S, some (.v (pD w)), some (.v (pD b)), some (.v (pD p)), o4] := rfl
      rw [eg]
      simp only [eB]
    | false =>
      rw [hc] at t
      have eB : rnB [S, some (.v (pD w)), some (.v (pD b)), some (.v (pD p)), o4] [] = .nx [S, some (.v (pD w)), some (.v (pD b)), some (.v (pD p)), some (.v (.int (dot p w)))] [] := (seqB_nx s1).trans (if_pass t rfl)
      have fn := for_nx (g := gn 3) (d := pD p) (ds := ps.map pD) (env := [S, some (.v (pD w)), some (.v (pD b)), o3, o4]) (m := []) (e1 := [S, some (.v (pD w)), some (.v (pD b)), some (.v (pD p)), o4]) rfl eB
      rw [List.map_cons, fn]
      rcases rn_loop hw hb S ps (some (.v (pD p))) (some (.v (.int (dot p w)))) (fun q hq => h q (List.mem_cons_of_mem _ hq)) with ⟨p3, p4, e, hr⟩ | ⟨e, hr⟩
      · exact .inl ⟨p3, p4, e, by rw [er, hc, hr]; rfl⟩
      · exact .inr ⟨e, by rw [er, hc, hr]; rfl⟩
theorem n_prun {w b : Pt} (hw : Bd w) (hb : Bd b) {s : List Pt} (h : ∀ q ∈ s, Bd q) : f_runs [.v (sL s), .v (pD w), .v (pD b)] [] = .ok (.v (.bl (runB w b s))) [] := by
  rcases rn_loop hw hb (some (.v (sL s))) s none none h with ⟨p3, p4, e, hr⟩ | ⟨e, hr⟩
  · rw [hr]
    refine (defF_rt (l := 5) (rs := [.v (sL s), .v (pD w), .v (pD b)]) (m := []) (m' := []) (d := .bl true) ((seqB_nx (e' := [some (.v (sL s)), some (.v (pD w)), some (.v (pD b)), p3, p4]) (m' := []) ?_).trans rfl)).trans rfl
    exact for_it (it_v (i := 0) (ds := s.map pD) rfl) e
  · rw [hr]
    refine (defF_rt (l := 5) (rs := [.v (sL s), .v (pD w), .v (pD b)]) (m := []) (m' := []) (d := .bl false) (sq_rt ?_)).trans rfl
    exact for_it (it_v (i := 0) (ds := s.map pD) rfl) e
/-! ### the first that runs -/
theorem fi_head {α : Type} (P : α → Bool) : ∀ (ss : List α) (k : Nat), (((ss.zipIdx k).filter fun p => P p.1).map (·.2)).head? = (ss.findIdx? P).map (k + ·)
  | [], k => rfl
  | s :: ss, k => by
    rw [List.zipIdx_cons, List.filter_cons, List.findIdx?_cons]
    cases h : P s with
    | true => simp
    | false =>
      simp only [Bool.false_eq_true, if_false]
      rw [fi_head P ss (k + 1)]
      cases ss.findIdx? P with
      | none => rfl
      | some i => simp; omega
theorem run_sort (w b : Pt) (s : List Pt) : runB w b (sortP s) = runB w b s := by
  unfold runB
  rw [Bool.eq_iff_iff, List.all_eq_true, List.all_eq_true]
  exact ⟨fun h q hq => h q (mem_sortP.mpr hq), fun h q hq => h q (mem_sortP.mp hq)⟩
theorem nat_can54 : ∀ l : List Nat, PyData.canLayAll0 (toPys (l.map iD)) = true ∧ PyData.depthAll (toPys (l.map iD)) ≤ 0
  | [] => ⟨rfl, Nat.le_refl _⟩
  | q :: l => by
    obtain ⟨a, b⟩ := nat_can54 l
    show PyData.canLayAll0 (toPys (.int (q : Int) :: l.map iD)) = true ∧ PyData.depthAll (toPys (.int (q : Int) :: l.map iD)) ≤ 0
    rw [toPys, PyData.canLayAll0, PyData.depthAll, a]
    exact ⟨rfl, Nat.max_le.mpr ⟨Nat.le_refl 0, b⟩⟩
theorem ne_i54 (l : List Nat) {m : Mem} {e : Envt} {i : Nat} (h : e[i]? = some (some (.v (.lst (l.map iD))))) : cmpT qNe (varS i) (litS (.lst [])) e m = .ok (!l.isEmpty) m := by
  obtain ⟨a, b⟩ := nat_can54 l
  have hb : bSh (.lst (l.map iD)) (.lst []) = true := by
    have : sh (.lst (l.map iD)) = true := by
      unfold sh SeqAt.shaped
      rw [toPy, PyData.canLay0, PyData.depth, a, decide_eq_true (by omega)]
      rfl
    unfold bSh
    rw [this]; rfl
  have he : eqD (.lst (l.map iD)) (.lst []) = l.isEmpty := by cases l <;> rfl
  simp [callS, lcS, lcGo, itS, seqR, Tg.put, Tg.vs, wipeE, noIf, Dl.locs, renO, pickO, idx, wb, nloc, bSh_ii, eqD_ii, defF, retB, retNB, seqB, setB, newB, parB, asgB, itemB, augB, exprB, ifB, nilB, Oc.bd, Rg.to, Rg.bd, rdR, dr, slR, unl, varS, valS, rd1S, rd2S, addS, addR, subS, subI, mulS, divS, modS, powS, opI, negS, cmpS, cmpT, chainS, chainT, chainR, andS, orS, notS, ifS, valT, andT, orT, notT, isBl, anil, acons, tupS, lstS, frzR, frz, ixS, onone, osome, sliceS, slcR, optR, Rg.nx, lenS, lenD, absS, intS, intOf, allS, anyS, blsR, bls, listS, tupleS, seqD, isiS, isi2S, noOb_non, noOb_bl, noOb_int, noOb_str, noOb_tup, noOb_lst, cellR, appendS, popAtS, popS, insertS, minTS, maxTS, minmaxR, unI, lenSetS, exitR, gn, gsn, gsc, gt, qLt, qLe, qGt, qGe, qEq, qNe, qIn, qNotIn, qIs, qIsNot, qIsB, qIsNotB, bI, fI, bB, eqB, isN, dInt, dBool, dStr, dLst, dTup, litS, litRs, obR, fldS, conS, runA, runM, Dl.runN, Dl.runL, methS, newOb, makeS, obO, intR, strR, blR, lenOS, reprOS, putD, fldB, forEB, forGoE, propS, mixO, lfC, lfM, repS, maxLS, minLS, maxLR, lcCS, lc2S, aconsX, h, hb, he]
theorem n_frun {ms : List (List Pt)} (ok : ModOk ms) (h5 : ms.length ≤ 5) {w b : Pt} (hw : Bd w) (hb : Bd b) : f_first_run [.v (bookD ms), .v (pD w), .v (pD b)] [] = .ok (.v (optD (ms.findIdx? (runB w b)))) [] := by
  have msh := m_shapes ms h5 [some (.v (bookD ms)), some (.v (pD w)), some (.v (pD b)), none, none, none] 0 [] rfl
  have it : enumS (methS runA [("Book", f_Book_shapes)] 1 [] "shapes" (varS 0) anil) [some (.v (bookD ms)), some (.v (pD w)), some (.v (pD b)), none, none, none] [] = .ok ((ms.map sortP).zipIdx.map fun p => .tup [.int (p.2 : Int), sL p.1]) [] := by
    unfold enumS
    rw [msh]
    show Rg.ok (enumD ((ms.map sortP).map sL)) [] = _
    unfold enumD
    rw [List.zipIdx_map, List.map_map]
    rfl
  have lc := lcS_filt (t := .two 4 5) (vs := [4, 5]) (ifs := valT (callS 3 f_runs (acons (varS 5) (acons (varS 1) (acons (varS 2) anil))))) (elt := varS 4) (it := enumS (methS runA [("Book", f_Book_shapes)] 1 [] "shapes" (varS 0) anil)) (env := [some (.v (bookD ms)), some (.v (pD w)), some (.v (pD b)), none, none, none]) (m := []) (m1 := []) (fun p : List Pt × Nat => .tup [.int (p.2 : Int), sL p.1]) (fun p => runB w b p.1) (fun p => iD p.2) (ms.map sortP).zipIdx it (by rw [List.length_zipIdx, List.length_map]; exact szle _ (by omega)) (fun p hp => by
    have hm : p.1 ∈ ms.map sortP := List.fst_mem_of_mem_zipIdx hp
    obtain ⟨s, hs, e⟩ := List.mem_map.mp hm
    have hq : ∀ q ∈ p.1, Bd q := fun q hq => near_bd ((ok.sh s hs).near q (mem_sortP.mp (by rw [e]; exact hq)))
    have er := n_prun hw hb hq
    refine ⟨[some (.v (bookD ms)), some (.v (pD w)), some (.v (pD b)), none, some (.v (.int (p.2 : Int))), some (.v (sL p.1))], rfl, val_of ?_, fun _ => ⟨.v (iD p.2), vr_v rfl, rfl⟩⟩
    generalize f_runs = F at er ⊢
    simp [callS, acons, anil, varS, Rg.bd, slR, unl, Dl.locs, renO, pickO, optR, er, nloc, wb])
  have el : (((ms.map sortP).zipIdx.filter fun p => runB w b p.1).map fun p => iD p.2) = ((((ms.map sortP).zipIdx 0).filter fun p => runB w b p.1).map (·.2)).map iD := by rw [List.map_map]; rfl
  rw [el] at lc
  have hh := fi_head (runB w b) (ms.map sortP) 0
  have es : (ms.map sortP).findIdx? (runB w b) = ms.findIdx? (runB w b) := by
    rw [List.findIdx?_map]
    congr 1
    funext s
    exact run_sort w b s
  rw [es] at hh
  generalize (((ms.map sortP).zipIdx 0).filter fun p => runB w b p.1).map (·.2) = L at lc hh
  have ne := ne_i54 L (m := []) (e := [some (.v (bookD ms)), some (.v (pD w)), some (.v (pD b)), some (.v (.lst (L.map iD))), none, none]) (i := 3) rfl
  refine (defF_rt (l := 6) (rs := [.v (bookD ms), .v (pD w), .v (pD b)]) (m := []) (m' := []) (d := optD (ms.findIdx? (runB w b))) ((seqB_nx (e' := [some (.v (bookD ms)), some (.v (pD w)), some (.v (pD b)), some (.v (.lst (L.map iD))), none, none]) (m' := []) ((set_of lc).trans rfl)).trans (ret_of ?_))).trans rfl
  cases L with
  | nil =>
    have : ms.findIdx? (runB w b) = none := by
      cases h : ms.findIdx? (runB w b) with
      | none => rfl
      | some i => rw [h] at hh; cases hh
    rw [this]
    unfold ifS
    rw [ne]
    rfl
  | cons a l =>
    have : ms.findIdx? (runB w b) = some a := by
      cases h : ms.findIdx? (runB w b) with
      | none => rw [h] at hh; cases hh
      | some i =>
        rw [h] at hh
        simp at hh
        rw [hh]
    rw [this]
    unfold ifS
    rw [ne]
    have ix : ixD (.lst (iD a :: l.map iD)) 0 = some (iD a) := by
      show L2.atI (iD a :: l.map iD) 0 = _
      unfold L2.atI
      have : L2.ixN (iD a :: l.map iD).length 0 = some 0 := by
        unfold L2.ixN
        simp
      rw [this]
      rfl
    simp [callS, lcS, lcGo, itS, seqR, Tg.put, Tg.vs, wipeE, noIf, Dl.locs, renO, pickO, idx, wb, nloc, bSh_ii, eqD_ii, defF, retB, retNB, seqB, setB, newB, parB, asgB, itemB, augB, exprB, ifB, nilB, Oc.bd, Rg.to, Rg.bd, rdR, dr, slR, unl, varS, valS, rd1S, rd2S, addS, addR, subS, subI, mulS, divS, modS, powS, opI, negS, cmpS, cmpT, chainS, chainT, chainR, andS, orS, notS, ifS, valT, andT, orT, notT, isBl, anil, acons, tupS, lstS, frzR, frz, ixS, onone, osome, sliceS, slcR, optR, Rg.nx, lenS, lenD, absS, intS, intOf, allS, anyS, blsR, bls, listS, tupleS, seqD, isiS, isi2S, noOb_non, noOb_bl, noOb_int, noOb_str, noOb_tup, noOb_lst, cellR, appendS, popAtS, popS, insertS, minTS, maxTS, minmaxR, unI, lenSetS, exitR, gn, gsn, gsc, gt, qLt, qLe, qGt, qGe, qEq, qNe, qIn, qNotIn, qIs, qIsNot, qIsB, qIsNotB, bI, fI, bB, eqB, isN, dInt, dBool, dStr, dLst, dTup, litS, litRs, obR, fldS, conS, runA, runM, Dl.runN, Dl.runL, methS, newOb, makeS, obO, intR, strR, blR, lenOS, reprOS, putD, fldB, forEB, forGoE, propS, mixO, lfC, lfM, repS, maxLS, minLS, maxLR, lcCS, lc2S, aconsX, ix]
    rfl
end Lw
/-! Face made; helping -/
namespace Lw
open PySem Dl
theorem put_app55 {f : Str} {v : D} : ∀ {fs : List (Str × D)}, (fs.map (·.1)).contains f = false → putD f v fs = fs ++ [(f, v)]
  | [], _ => rfl
  | (g, x) :: r, h => by
    rw [List.map_cons, List.contains_cons, Bool.or_eq_false_iff] at h
    have hn : ¬ g = f := fun z => by rw [z] at h; simp at h
    unfold putD
    rw [if_neg hn, put_app55 h.2]
    rfl
def faF (ms : List (List Pt)) (w : Pt) : List (Str × D) := [(("own_book" : Str), bookD ms), (("own_direction" : Str), pD w), (("own_opener" : Str), optD (ms.findIdx? (opn w))), (("own_left" : Str), optD (ms.findIdx? (runB w (rt w)))), (("own_right" : Str), optD (ms.findIdx? (runB w (lf w)))), (("key" : Str), .tup [pD w, .tup ((ms.map sortP).map sT)])]
def faceD (ms : List (List Pt)) (w : Pt) : D := .ob "Face" (faF ms w)
theorem lfB55 {w : Pt} (h : Dr w) : Bd (lf w) := ⟨by have := h.b.2; unfold lf; simp only; omega, by have := h.b.1; unfold lf; simp only; omega⟩
theorem rtB55 {w : Pt} (h : Dr w) : Bd (rt w) := ⟨by have := h.b.2; unfold rt; simp only; omega, by have := h.b.1; unfold rt; simp only; omega⟩
theorem call3_m55 {F G : Fd} {env : Envt} {m : Mem} {i j k : Nat} {a b c g r : D} (h1 : env[i]? = some (some (.v a))) (h2 : env[j]? = some (some (.v b))) (h3 : env[k]? = some (some (.v c))) (hG : G [.v c] [] = .ok (.v g) []) (hF : F [.v a, .v b, .v g] [] = .ok (.v r) []) : callS 3 F (acons (varS i) (acons (varS j) (acons (callS 1 G (acons (varS k) anil)) anil))) env m = .ok (.v r) m := by
  simp [callS, acons, varS, anil, h1, h2, h3, Rg.bd, slR, unl, Dl.locs, renO, pickO, optR, hG, hF, nloc, wb]
theorem face_init {ms : List (List Pt)} (ok : ModOk ms) (h5 : ms.length ≤ 5) {w : Pt} (hw : Dr w) : f_Face___init__ [.loc 0, .v (bookD ms), .v (pD w)] [.ob "Face" []] = .ok (.v .non) [.ob "Face" (faF ms w)] := by
  have e1 := n_need (pD w) (sh_pD w) hw.is []
  have e2 := n_opener ms ok h5 w hw.b hw.is
  have e3 := n_frun ok h5 hw.b (rtB55 hw)
  have e4 := n_frun ok h5 hw.b (lfB55 hw)
  have q1 := n_right hw []
  have q2 := n_left hw []
  generalize hE : ([some (.loc 0), some (.v (bookD ms)), some (.v (pD w)), none] : Envt) = E
  have g0 : E[0]? = some (some (.loc 0)) := by rw [← hE]; rfl
  have g1 : E[1]? = some (some (.v (bookD ms))) := by rw [← hE]; rfl
  have g2 : E[2]? = some (some (.v (pD w))) := by rw [← hE]; rfl
  have tl : ∀ m : Mem, tupS (acons (varS 2) (acons (tupleS (lcS (.one 3) [3] noIf (tupleS (varS 3)) (itS (methS runA [("Book", f_Book_shapes)] 1 [] "shapes" (varS 1) anil)))) anil)) E m = .ok (.v (.tup [pD w, .tup ((ms.map sortP).map sT)])) m := fun m => by
    have ms1 := m_shapes ms h5 E 1 m g1
    have it : itS (methS runA [("Book", f_Book_shapes)] 1 [] "shapes" (varS 1) anil) E m = .ok ((ms.map sortP).map sL) m := by
      unfold itS
      rw [ms1]
      rfl
    have lc := lcS_enc (t := .one 3) (vs := [3]) (elt := tupleS (varS 3)) (it := itS (methS runA [("Book", f_Book_shapes)] 1 [] "shapes" (varS 1) anil)) (env := E) (m := m) (m1 := m) sL sT (ms.map sortP) it (by rw [List.length_map]; exact szle _ (by omega)) (fun s _ => by
      refine ⟨(wipeE E [3]).set 3 (some (.v (sL s))), by rw [← hE]; rfl, .v (sT s), ?_, rfl⟩
      unfold tupleS rd1S
      rw [vr_v (i := 3) (d := sL s) (by rw [← hE]; rfl)]
      rfl)
    have tp : tupleS (lcS (.one 3) [3] noIf (tupleS (varS 3)) (itS (methS runA [("Book", f_Book_shapes)] 1 [] "shapes" (varS 1) anil))) E m = .ok (.v (.tup ((ms.map sortP).map sT))) m := by
      unfold tupleS rd1S at lc ⊢
      rw [lc]
      rfl
    exact tup_2 (vr_v g2) tp
  refine (defF_nx (l := 4) (rs := [.loc 0, .v (bookD ms), .v (pD w)]) (m := [.ob "Face" []]) (m' := [.ob "Face" (faF ms w)]) (e := E) ?_).trans rfl
  rw [show ([.loc 0, .v (bookD ms), .v (pD w)] : List Sl).map some ++ List.replicate (4 - ([.loc 0, .v (bookD ms), .v (pD w)] : List Sl).length) none = E from hE]
  refine (seqB_nx (e' := E) (m' := [.ob "Face" []]) ?_).trans ?_
  · unfold exprB
    rw [call1_v (i := 2) g2 e1]
    rfl
  refine (seqB_nx (fld_set (cs := ["Face"]) (x := "own_book") (c := "Face") (fs := []) (fs' := [(("own_book" : Str), bookD ms)]) (e := varS 1) (env := E) (r := .v (bookD ms)) (d := bookD ms) g0 (vr_v g1) rfl (by simp) (by simp) rfl)).trans ?_
  refine (seqB_nx (fld_set (cs := ["Face"]) (x := "own_direction") (c := "Face") (fs := [(("own_book" : Str), bookD ms)]) (fs' := [(("own_book" : Str), bookD ms), (("own_direction" : Str), pD w)]) (e := varS 2) (env := E) (r := .v (pD w)) (d := pD w) g0 (vr_v g2) rfl (by simp) (by simp) (put_app55 rfl))).trans ?_
  refine (seqB_nx (fld_set (cs := ["Face"]) (x := "own_opener") (c := "Face") (fs := [(("own_book" : Str), bookD ms), (("own_direction" : Str), pD w)]) (fs' := [(("own_book" : Str), bookD ms), (("own_direction" : Str), pD w), (("own_opener" : Str), optD (ms.findIdx? (opn w)))]) (e := callS 2 f_opener (acons (varS 1) (acons (varS 2) anil))) (env := E) (d := optD (ms.findIdx? (opn w))) g0 (call_2 (i := 1) (j := 2) g1 g2 e2) rfl (by simp) (by simp) (put_app55 rfl))).trans ?_
  refine (seqB_nx (fld_set (cs := ["Face"]) (x := "own_left") (c := "Face") (fs := [(("own_book" : Str), bookD ms), (("own_direction" : Str), pD w), (("own_opener" : Str), optD (ms.findIdx? (opn w)))]) (fs' := [(("own_book" : Str), bookD ms), (("own_direction" : Str), pD w), (("own_opener" : Str), optD (ms.findIdx? (opn w))), (("own_left" : Str), optD (ms.findIdx? (runB w (rt w))))]) (env := E) (d := optD (ms.findIdx? (runB w (rt w)))) g0 (call3_m55 (i := 1) (j := 2) (k := 2) g1 g2 g2 q1 e3) rfl (by simp) (by simp) (put_app55 rfl))).trans ?_
  refine (seqB_nx (fld_set (cs := ["Face"]) (x := "own_right") (c := "Face") (fs := [(("own_book" : Str), bookD ms), (("own_direction" : Str), pD w), (("own_opener" : Str), optD (ms.findIdx? (opn w))), (("own_left" : Str), optD (ms.findIdx? (runB w (rt w))))]) (fs' := [(("own_book" : Str), bookD ms), (("own_direction" : Str), pD w), (("own_opener" : Str), optD (ms.findIdx? (opn w))), (("own_left" : Str), optD (ms.findIdx? (runB w (rt w)))), (("own_right" : Str), optD (ms.findIdx? (runB w (lf w))))]) (env := E) (d := optD (ms.findIdx? (runB w (lf w)))) g0 (call3_m55 (i := 1) (j := 2) (k := 2) g1 g2 g2 q2 e4) rfl (by simp) (by simp) (put_app55 rfl))).trans ?_
  exact nil_of (fld_set (cs := ["Face"]) (x := "key") (c := "Face") (fs := [(("own_book" : Str), bookD ms), (("own_direction" : Str), pD w), (("own_opener" : Str), optD (ms.findIdx? (opn w))), (("own_left" : Str), optD (ms.findIdx? (runB w (rt w)))), (("own_right" : Str), optD (ms.findIdx? (runB w (lf w))))]) (fs' := faF ms w) (env := E) (d := .tup [pD w, .tup ((ms.map sortP).map sT)]) g0 (tl _) rfl (by simp) (by simp) (put_app55 rfl))
theorem face_made {ms : List (List Pt)} (ok : ModOk ms) (h5 : ms.length ≤ 5) {w : Pt} (hw : Dr w) {env : Envt} {m : Mem} {i j : Nat} (h1 : env[i]? = some (some (.v (bookD ms)))) (h2 : env[j]? = some (some (.v (pD w)))) : makeS Dl.runN "Face" f_Face___init__ 3 [] (acons (varS i) (acons (varS j) anil)) env m = .ok (.v (faceD ms w)) m := by
  have h := face_init ok h5 hw
  unfold faceD
  generalize faF ms w = FF at h ⊢
  generalize bookD ms = bk at *
  generalize f_Face___init__ = I at h ⊢
  simp [makeS, acons, anil, varS, h1, h2, slR, Rg.bd, unl, newOb, Dl.runN, runA, Dl.locs, renO, idx, pickO, optR, h, nloc, wb]
end Lw
/-! k24: the law's own runs; edges; helping -/
namespace Lw
open PySem Dl
end Lw
/-! k24: helping -/
namespace Lw
open PySem Dl
end Lw
/-! the law's moments -/
namespace Lw
open PySem Dl
section
variable {ms : List (List Pt)} {A1 : Option Sl} {st : Option Int} {b : Option Pt}
end
end Lw
/-! the law's moments in N steps; what stands outside of a half floor by them -/
namespace Lw
open PySem Dl
end Lw
/-! growth to its end -/
namespace Lw
open PySem Dl
section
variable {ms : List (List Pt)} {b : Option Pt} {β : Type} {r : Option (List (Pt × β))}
end
end Lw
/-! k31: the law's own way to tell whether a picture covers its shift -/
namespace Lw
open PySem Dl
abbrev mm (h r : List Pt) (R : Mem) (acc : List Pt) : Mem := accD h :: accD r :: (R ++ [accD acc])
section
variable {h r : List Pt} {may : Pt → Bool} {A0 A1 A2 fr : Option Sl} {R : Mem}
end
end Lw
/-! k31: the law's own way, whole -/
namespace Lw
open PySem Dl
theorem Old.ext {ms : List (List Pt)} {b : Option Pt} {β : Type} {r : Option (List (Pt × β))} {fs fs' : List Pt} {mo mo' : Mo} (e1 : ∀ x, x ∈ fs ↔ x ∈ fs') (e2 : ∀ x, x ∈ keyP mo ↔ x ∈ keyP mo') (h : Old ms b r fs mo) : Old ms b r fs' mo' :=
  ⟨fun c hc => (e2 c).mp (h.1 c ((e1 c).mpr hc)), fun x h1 h2 s hs ⟨q, hq, hk⟩ h3 h4 => (e2 x).mp (h.2 x h1 h2 s hs ⟨q, hq, (e2 _).mpr hk⟩ (fun q hq z => h3 q hq ((e1 _).mp z)) fun q hq => (h4 q hq).imp (e2 _).mpr id)⟩
section
variable {ms : List (List Pt)} {β : Type} {r0 : Option (List (Pt × β))}
end
end Lw
/-! k31: both ways tell the same -/
namespace Lw
open PySem Dl
section
variable {ms : List (List Pt)} {cs : List Pt} {d : Pt}
end
end Lw
/-! the circle: neighbours among directions in round order, and what lies between -/
namespace Lw
open PySem Dl
abbrev Pr (a : Pt) : Prop := Int.gcd a.1 a.2 = 1
/-! ### neighbours -/
def Nx (L : List Pt) (a b : Pt) : Prop := (0 < crs a b ∧ ∀ e ∈ L, ¬ (0 < crs a e ∧ 0 < crs e b)) ∨ (b = ng a ∧ ∀ e ∈ L, ¬ 0 < crs a e)
def Sy (L : List Pt) : Prop := ∀ e ∈ L, ng e ∈ L
section
variable {L : List Pt} {a b : Pt} (sy : Sy L) (pr : ∀ e ∈ L, Pr e) (ha : a ∈ L) (hb : b ∈ L)
include sy pr ha hb
end
section
variable {L : List Pt} (sy : Sy L) (pr : ∀ e ∈ L, Pr e)
include sy pr
end
end Lw
/-! books that stand: growth stays in a box -/
namespace Lw
open PySem Dl
end Lw
/-! pictures drawn into a list that is changed; a list sorted, each once -/
namespace Lw
open PySem Dl
end Lw
/-! ends of pictures -/
namespace Lw
open PySem Dl
end Lw
/-! pictures drawn, their size told; a book that stands drawn; covers -/
namespace Lw
open PySem Dl
end Lw
namespace Lw
open PySem Dl
end Lw
namespace Lw
open PySem Dl
end Lw
/-! one step, of a list or a tuple -/
namespace Lw
open PySem Dl
end Lw
namespace Lw
open PySem Dl
def Rt42 (x : Oc) (d : D) : Prop := ∃ m', x = .rt (.v d) m'
theorem Rt42.of {x y : Oc} {d : D} (h : x = y) (r : Rt42 y d) : Rt42 x d := by rw [h]; exact r
end Lw
namespace Lw
open PySem Dl
end Lw
namespace Lw
open PySem Dl
def Rt41 (x : Oc) (d : D) : Prop := ∃ m', x = .rt (.v d) m'
theorem Rt41.of {x y : Oc} {d : D} (h : x = y) (r : Rt41 y d) : Rt41 x d := by rw [h]; exact r
end Lw
namespace Lw
open PySem Dl
end Lw
namespace Lw
open PySem Dl
end Lw
/-! k31: papers of climbing -/
namespace Lw
open PySem Dl
/-! ### holds -/
section
variable {bk dv cs : D}
end
end Lw
/-! k31: squares, pictures made of them -/
namespace Lw
open PySem Dl
end Lw
/-! k31: a shape put behind the model's -/
namespace Lw
open PySem Dl
theorem of_e31 {F : Fd} {L : Fe} {env : Envt} {c c1 : Cell} {R : Mem} {ds : List D} {d : D} (h1 : env[1]? = some (some (.loc 0))) (hL : L env (c :: R) = .ok (.nl ds) (c :: R)) (e : F [.loc 0, .v (.lst ds)] [c] = .ok (.v d) [c1]) : callS 2 F (acons (varS 1) (acons L anil)) env (c :: R) = .ok (.v d) (c1 :: R) := by
  simp [callS, lcS, lcGo, itS, seqR, Tg.put, Tg.vs, wipeE, noIf, Dl.locs, renO, pickO, idx, wb, nloc, bSh_ii, eqD_ii, defF, retB, retNB, seqB, setB, newB, parB, asgB, itemB, augB, exprB, ifB, nilB, Oc.bd, Rg.to, Rg.bd, rdR, dr, slR, unl, varS, valS, rd1S, rd2S, addS, addR, subS, subI, mulS, divS, modS, powS, opI, negS, cmpS, cmpT, chainS, chainT, chainR, andS, orS, notS, ifS, valT, andT, orT, notT, isBl, anil, acons, tupS, lstS, frzR, frz, ixS, onone, osome, sliceS, slcR, optR, Rg.nx, lenS, lenD, absS, intS, intOf, allS, anyS, blsR, bls, listS, tupleS, seqD, isiS, isi2S, noOb_non, noOb_bl, noOb_int, noOb_str, noOb_tup, noOb_lst, cellR, appendS, popAtS, popS, insertS, minTS, maxTS, minmaxR, unI, lenSetS, exitR, gn, gsn, gsc, gt, qLt, qLe, qGt, qGe, qEq, qNe, qIn, qNotIn, qIs, qIsNot, qIsB, qIsNotB, bI, fI, bB, eqB, isN, dInt, dBool, dStr, dLst, dTup, litS, litRs, obR, fldS, conS, runA, runM, Dl.runN, Dl.runL, methS, newOb, makeS, obO, intR, strR, blR, lenOS, reprOS, putD, fldB, forEB, forGoE, propS, mixO, lfC, lfM, repS, maxLS, minLS, maxLR, lcCS, lc2S, aconsX, h1, hL, e]
end Lw
/-! k31: what a turn draws -/
namespace Lw
open PySem Dl
theorem ifB_t {c : Ft} {a b : Fs} {env : Envt} {m m1 : Mem} {x : Oc} (hc : c env m = .ok true m1) (h : a env m1 = x) : ifB c a b env m = x := by
  simp only [ifB, hc, Rg.to, if_true, h]
end Lw
/-! k31: a turn, second half -/
namespace Lw
open PySem Dl
theorem pl_31 {F : Fd} {env : Envt} {c c1 : Cell} {R : Mem} {n : Int} {d : D} (h1 : env[1]? = some (some (.loc 0))) (h : F [.loc 0, .v (.int n)] [c] = .ok (.v d) [c1]) : callS 2 F (acons (varS 1) (acons (valS (.int n)) anil)) env (c :: R) = .ok (.v d) (c1 :: R) := by
  simp [callS, lcS, lcGo, itS, seqR, Tg.put, Tg.vs, wipeE, noIf, Dl.locs, renO, pickO, idx, wb, nloc, bSh_ii, eqD_ii, defF, retB, retNB, seqB, setB, newB, parB, asgB, itemB, augB, exprB, ifB, nilB, Oc.bd, Rg.to, Rg.bd, rdR, dr, slR, unl, varS, valS, rd1S, rd2S, addS, addR, subS, subI, mulS, divS, modS, powS, opI, negS, cmpS, cmpT, chainS, chainT, chainR, andS, orS, notS, ifS, valT, andT, orT, notT, isBl, anil, acons, tupS, lstS, frzR, frz, ixS, onone, osome, sliceS, slcR, optR, Rg.nx, lenS, lenD, absS, intS, intOf, allS, anyS, blsR, bls, listS, tupleS, seqD, isiS, isi2S, noOb_non, noOb_bl, noOb_int, noOb_str, noOb_tup, noOb_lst, cellR, appendS, popAtS, popS, insertS, minTS, maxTS, minmaxR, unI, lenSetS, exitR, gn, gsn, gsc, gt, qLt, qLe, qGt, qGe, qEq, qNe, qIn, qNotIn, qIs, qIsNot, qIsB, qIsNotB, bI, fI, bB, eqB, isN, dInt, dBool, dStr, dLst, dTup, litS, litRs, obR, fldS, conS, runA, runM, Dl.runN, Dl.runL, methS, newOb, makeS, obO, intR, strR, blR, lenOS, reprOS, putD, fldB, forEB, forGoE, propS, mixO, lfC, lfM, repS, maxLS, minLS, maxLR, lcCS, lc2S, aconsX, h1, h]
end Lw
/-! k24: a shape that runs is put among the model's -/
namespace Lw
open PySem Dl
theorem near_2 : ∀ a ∈ near2P, -2 ≤ a.1 ∧ a.1 ≤ 2 ∧ -2 ≤ a.2 ∧ a.2 ≤ 2 := by decide +kernel
end Lw
/-! k24: the law -/
namespace Lw
open PySem Dl
def Rt24 (x : Oc) : Prop := ∃ M, x = .rt (.v (.bl true)) M
theorem Rt24.of {x y : Oc} (h : x = y) (r : Rt24 y) : Rt24 x := by rw [h]; exact r
theorem same_24 {X Y : Fe} {env : Envt} {m : Mem} {d : D} (hX : X env m = .ok (.v d) m) (hY : Y env m = .ok (.v d) m) (ho : okD 5 d = true) : callS 2 (f__law_same 6) (acons X (acons Y anil)) env m = .ok (.v (.bl true)) m := same6 hX rfl hY rfl ho
end Lw
/-! El92: d[(a, b)] where d is a dict of the text whose keys are pairs of bools and whose values are texts. -/
namespace Dl
open PySem PySem.Spec PyProof.Rows L2
abbrev KbL := List ((Bool × Bool) × Str)
def kbGet (l : KbL) (p q : Bool) : Option Str := match l with
  | [] => none
  | x :: r => if x.1 = (p, q) then some x.2 else kbGet r p q
def nB (b : Bool) : Int := if b = true then 1 else 0
def lfB (p q : Bool) : List Leaf := [.num (nB p), .num (nB q)]
def hB (p q : Bool) : Int := reduceHash (Builtin.Tuple.tupleHashOf [hashInt (nB p), hashInt (nB q)])
theorem lfB_inj {p q p' q' : Bool} (h : lfB p q = lfB p' q') : (p, q) = (p', q') := by
  revert h; cases p <;> cases q <;> cases p' <;> cases q' <;> decide
def tupB (K : PySem.W.Frag) (b : Addr) (p q : Bool) : Bool := match K.lookup b with
  | some o => decide (o.cls = .type "tuple") && (match o.data with
    | .seq its _ => (match its.toList with
      | [.bool p', .bool q'] => decide (p' = p) && decide (q' = q)
      | _ => false)
    | _ => false)
  | none => false
def goB (K : PySem.W.Frag) : List DictEntry → KbL → Bool
  | [], [] => true
  | e :: es, x :: l => (match e.key with
    | .ref b => tupB K b x.1.1 x.1.2
    | _ => false) && (decide (e.hash = hB x.1.1 x.1.2) && ((match e.val with
    | .str s _ => decide (s = x.2)
    | _ => false) && goB K es l))
  | _, _ => false
def kbB (K : PySem.W.Frag) (n : Str) (l : KbL) : Bool := match K.lookup (He.ga K n) with
  | some o => decide (o.cls = .type "dict") && (o.dict.isNone && (o.slots.isEmpty && ((match o.data with
    | .dict es _ => goB K es.toList l
    | _ => false) && decide ((l.map (·.1)).Nodup))))
  | none => false
/-- what the text holds -/
def KbAt (P : Program) (w : World) (K : PySem.W.Frag) (a : Addr) (l : KbL) : Prop := ∃ o es ep, ∃ xs : List (List Leaf × Addr × Value), K.lookup a = some o ∧ o.ExactDict ∧ o.data = .dict es ep ∧
  es.toList = xs.map (entryOfKey (tupleKind (leafKind P w))) ∧ (∀ x ∈ xs, ∃ ot its n, K.lookup x.2.1 = some ot ∧ ot.cls = .type "tuple" ∧ ot.data = .seq its n ∧ ItemsAre (leafKind P w) x.1 its.toList) ∧
  (xs.map (·.1)).Nodup ∧ ∀ p q s, kbGet l p q = some s → ∃ b t, atKey xs (lfB p q) = some (b, .str s t)
theorem tupB_ok {P : Program} {w : World} {K : PySem.W.Frag} {b : Addr} {p q : Bool} (h : tupB K b p q = true) : ∃ ot its n, K.lookup b = some ot ∧ ot.cls = .type "tuple" ∧ ot.data = .seq its n ∧ ItemsAre (leafKind P w) (lfB p q) its.toList := by
  unfold tupB at h
  split at h
  · rename_i o e
    rw [Bool.and_eq_true, decide_eq_true_eq] at h
    obtain ⟨h1, h2⟩ := h
    split at h2
    · rename_i its n ed
      split at h2
      · rename_i p' q' ei
        rw [Bool.and_eq_true, decide_eq_true_eq, decide_eq_true_eq] at h2
        obtain ⟨rfl, rfl⟩ := h2
        refine ⟨o, its, n, e, h1, ed, ?_⟩
        rw [ei]
        exact .cons (by cases p' <;> rfl) (.cons (by cases q' <;> rfl) .nil)
      · cases h2
    · cases h2
  · cases h
theorem goB_ok {P : Program} {w : World} {K : PySem.W.Frag} : ∀ {es : List DictEntry} {l : KbL}, goB K es l = true → ∃ xs : List (List Leaf × Addr × Value), es = xs.map (entryOfKey (tupleKind (leafKind P w))) ∧
    (∀ x ∈ xs, ∃ ot its n, K.lookup x.2.1 = some ot ∧ ot.cls = .type "tuple" ∧ ot.data = .seq its n ∧ ItemsAre (leafKind P w) x.1 its.toList) ∧ xs.map (·.1) = l.map (fun x => lfB x.1.1 x.1.2) ∧ ∀ p q s, kbGet l p q = some s → ∃ b t, atKey xs (lfB p q) = some (b, .str s t)
  | [], [], _ => ⟨[], rfl, fun _ h => (nomatch h), rfl, fun _ _ _ h => by cases h⟩
  | [], _ :: _, h => by cases h
  | _ :: _, [], h => by cases h
  | e :: es, x :: l, h => by
    rw [goB, Bool.and_eq_true, Bool.and_eq_true, Bool.and_eq_true, decide_eq_true_eq] at h
    obtain ⟨h1, h2, h3, h4⟩ := h
    obtain ⟨xs, e1, e2, e3, e4⟩ := goB_ok (P := P) (w := w) h4
    obtain ⟨hs, ky, vl⟩ := e
    simp only at h1 h2 h3
    split at h1
    · rename_i b
      split at h3
      · rename_i s t
        rw [decide_eq_true_eq] at h3
        subst h3
        obtain ⟨⟨p0, q0⟩, s0⟩ := x
        refine ⟨(lfB p0 q0, b, .str s0 t) :: xs, ?_, ?_, ?_, ?_⟩
        · rw [List.map_cons, e1]
          simp only at h2
          rw [h2]
          rfl
        · intro y hy
          rcases List.mem_cons.mp hy with rfl | hy
          · exact tupB_ok h1
          · exact e2 y hy
        · rw [List.map_cons, List.map_cons, e3]
        · intro p q s hg
          rw [kbGet] at hg
          unfold atKey
          rw [List.find?_cons]
          by_cases hk : (p0, q0) = (p, q)
          · rw [if_pos hk] at hg
            cases hg
            injection hk with k1 k2
            subst k1 k2
            exact ⟨b, t, by simp⟩
          · rw [if_neg hk] at hg
            have : ¬ lfB p0 q0 = lfB p q := fun z => hk (lfB_inj z)
            rw [decide_eq_false this]
            exact e4 p q s hg
      · cases h3
    · cases h1
theorem kb_ok {P : Program} {w : World} {K : PySem.W.Frag} {n : Str} {l : KbL} (h : kbB K n l = true) : KbAt P w K (He.ga K n) l := by
  unfold kbB at h
  split at h
  · rename_i o e
    simp only [Bool.and_eq_true, decide_eq_true_eq] at h
    obtain ⟨h1, h2, h3, h4, h5⟩ := h
    split at h4
    · rename_i es ep ed
      obtain ⟨xs, e1, e2, e3, e4⟩ := goB_ok (P := P) (w := w) h4
      refine ⟨o, es, ep, xs, e, ⟨h1, by simpa using h2, by simpa using h3⟩, ed, e1, e2, ?_, e4⟩
      rw [e3]
      have : l.map (fun x => lfB x.1.1 x.1.2) = (l.map (·.1)).map fun x => lfB x.1 x.2 := by rw [List.map_map]; rfl
      rw [this]
      exact h5.map (R := fun a b => a ≠ b) _ fun a b hab z => hab (lfB_inj z)
    · cases h4
  · cases h
structure HasKB (P : Program) (w : World) (K : PySem.W.Frag) (mg : Str → Option Value) (n : Str) (l : KbL) : Prop where
  ex : ∃ a, mg n = some (.ref a) ∧ KbAt P w K a l
theorem hasKB {P : Program} {w : World} {K : PySem.W.Frag} {mg : Str → Option Value} {n : Str} {l : KbL} (hm : mg n = some (.ref (He.ga K n))) (h : kbB K n l = true) : HasKB P w K mg n l := ⟨_, hm, kb_ok h⟩
def kbR (l : KbL) (d : D) (m : Mem) : Rg Rs := match d with
  | .tup [.bl p, .bl q] => optR (kbGet l p q) fun s => .ok (.v (.str s)) m
  | _ => .no
def kindsS (l : KbL) (a : Fe) : Fe := rd1S a (kbR l)
/-- d[(a, b)] -/
def rKb (X : Cx) (a : Addr) (l : KbL) : R2 := fun x y H Q => ∃ b p q s, x = .ref a ∧ y = .ref b ∧ SqT X.K H b [.bl p, .bl q] ∧ kbGet l p q = some s ∧ Q (.str s) H
theorem ix_kb {X : Cx} (hu : X.A.units + 1 < cLine) {a : Addr} {l : KbL} (kb : KbAt X.prog X.w X.K a l) : IxR X (rKb X a l) := by
  intro value slice pins s σ H x y v u Q I rx ry h hs
  obtain ⟨b, p, q, z, rfl, rfl, hk, hg, hq⟩ := h
  cases (show v = Value.ref a from rx)
  cases (show u = Value.ref b from ry)
  obtain ⟨o, es, ep, xs, e1, e2, e3, e4, e5, e6, e7⟩ := kb
  obtain ⟨b', t, hp⟩ := e7 p q z hg
  have key : (tupleKind (leafKind X.prog X.w)).is s.heap (lfB p q) b := by
    obtain ⟨its, rv, ⟨o, h1, h2, n, h3⟩, _⟩ := I.tuple hk
    refine ⟨o, its.toArray, n, h1, h2, h3, ?_⟩
    cases rv with
    | cons r1 rv => cases rv with
      | cons r2 rv =>
        cases rv
        cases (show _ = Value.bool p from r1)
        cases (show _ = Value.bool q from r2)
        exact .cons (by cases p <;> rfl) (.cons (by cases q <;> rfl) .nil)
  have dd : s.heap.DictOfH (tupleKind (leafKind X.prog X.w)) a xs := ⟨o, es, ep, I.kIn a o e1, e2, e3, e4, fun x hx => by
    obtain ⟨ot, its, n, f1, f2, f3, f4⟩ := e5 x hx
    exact ⟨ot, its, n, I.kIn _ ot f1, f2, f3, f4⟩, e6⟩
  exact tail_any dd.typeIs slot_dict_getitem.lookup (wpAny_getItem_heap (tupleKind_room_in1 hu) key dd hp ⟨.str z, H, I.tok _, ⟨t, rfl⟩, hq⟩) hs
section
variable {X : Dx} {E : XE} {b : Expr} {pos p0 : Pos} {f : Fe} {n : Str} {l : KbL}
theorem se_kinds (hu : X.A.units + 65 < cLine) (hk : HasKB X.prog X.w X.K X.mg n l) (hb : Se X E b f) (hg : Gl X n := by rfl) (hd : (n == ("__debug__" : Str)) = false := by decide) (hs : PlainIx b := by intro _ _; rfl) : Se X E (.Subscript (.Name n p0) b pos) (kindsS l f) := .mk fun env mem P h => fun as G σ H k => by
  obtain ⟨a, hm, kb⟩ := hk.ex
  refine EW.of (pe_ix (ix_kb (X := X.toCx) (by omega) kb) (pe_glob (v := .ref a) hg hm rfl hd) (pe_ew X b) hs) ?_
  refine ev_one (t := fun Q v H => rKb X.toCx a l (.ref a) v H Q) k (se_rd1 (α := Rs) hb h) (fun as G H v1 r1 m k ro q => ?_) fun _ _ _ _ h ⟨b, p, q, s, a1, a2, a3, a4, a5⟩ => ⟨b, p, q, s, a1, a2, a3, a4, h _ _ a5⟩
  obtain ⟨d, e1, hP⟩ := q
  unfold kbR at hP
  split at hP
  · rename_i p q
    obtain ⟨s, h1, h2⟩ := sat_optR hP
    cases (ro.rep k e1 : Rep (Cx.cn X) H v1 (.tup [.bl p, .bl q])) with
    | tup hq rp =>
      cases rp with
      | cons r1 rp => cases rp with
        | cons r2 rp =>
          cases rp
          cases r1
          cases r2
          exact ⟨_, p, q, s, rfl, rfl, hq, h1, Post.now (r := .v (.str s)) k (Rep.str s) h2⟩
  · exact hP.elim
end
end Dl
noncomputable section
namespace Lw
open PySem PySem.Spec PyProof.Rows L2 Dl
def f_Face_kind : Fd := defF 1 (seqB (ifB (cmpT qIsNot (fldS ["Face"] "own_opener" (varS 0)) (valS (.non))) (retB (valS (.str "open"))) nilB)
    (retB (kindsS [((true, true), "both"), ((true, false), "left"), ((false, true), "right"), ((false, false), "never")] (tupS (acons (cmpS qIsNot (fldS ["Face"] "own_left" (varS 0)) (valS (.non))) (acons (cmpS qIsNot (fldS ["Face"] "own_right" (varS 0)) (valS (.non))) anil))))))
def f_law_v35 : Fd := defF 11 (seqB (newB 1 (callS 1 f__law_bag (acons (varS 0) anil)))
    (seqB (setB 2 (callS 2 f__law_model (acons (varS 1) (acons (valS (.int 5)) anil))))
    (seqB (setB 3 (callS 1 f__law_made (acons (varS 2) anil)))
    (seqB (setB 4 (callS 1 f_ends (acons (varS 3) anil)))
    (seqB (forB (gn 5) (range1S (valS (.int 6))) (seqB (setB 6 (ifS (orT (cmpT qEq (varS 4) (litS (.lst []))) (cmpT qLt (varS 5) (valS (.int 2)))) (callS 2 f__law_way (acons (varS 1) (acons (valS (.int 2)) anil))) (callS 2 f__law_of (acons (varS 1) (acons (varS 4) anil)))))
    (seqB (setB 7 (callS 2 f__law_of (acons (varS 1) (acons (lstS (acons (valS (.int 100)) (acons (powS (valS (.int 10)) (valS (.int 9))) anil))) anil))))
    (seqB (setB 8 (callS 1 f__law_way_of (acons (tupS (acons (subS (mulS (ixS (varS 6) (valS (.int 0))) (varS 7)) (ixS (varS 6) (valS (.int 1)))) (acons (addS (mulS (ixS (varS 6) (valS (.int 1))) (varS 7)) (ixS (varS 6) (valS (.int 0)))) anil))) anil)))
    (seqB (setB 9 (callS 1 f__law_way_of (acons (tupS (acons (addS (mulS (ixS (varS 6) (valS (.int 0))) (varS 7)) (ixS (varS 6) (valS (.int 1)))) (acons (subS (mulS (ixS (varS 6) (valS (.int 1))) (varS 7)) (ixS (varS 6) (valS (.int 0)))) anil))) anil)))
    (seqB (setB 10 (valS (.str "open")))
    (seqB (ifB (notT (valT (callS 2 f_is_open (acons (varS 3) (acons (varS 6) anil))))) (seqB (setB 10 (valS (.str "never")))
    (seqB (ifB (valT (callS 2 f_is_open (acons (varS 3) (acons (varS 8) anil)))) (seqB (setB 10 (valS (.str "left")))
    nilB) nilB)
    (seqB (ifB (valT (callS 2 f_is_open (acons (varS 3) (acons (varS 9) anil)))) (seqB (setB 10 (ifS (cmpT qEq (varS 10) (valS (.str "left"))) (valS (.str "both")) (valS (.str "right"))))
    nilB) nilB)
    nilB))) nilB)
    (seqB (ifB (notT (valT (callS 2 (f__law_same 6) (acons (propS [("Face", f_Face_kind)] (makeS runN "Face" f_Face___init__ 3 [] (acons (varS 3) (acons (varS 6) anil)))) (acons (varS 10) anil))))) (retB (valS (.bl false))) nilB)
    nilB))))))))
    (retB (valS (.bl true))))))))
end Lw
end
/-! k21: the kind of a face; directions just beside -/
namespace Lw
open PySem Dl
def kindT (o l r : Bool) : Str := if o then "open" else if l then (if r then "both" else "left") else if r then "right" else "never"
def kindP (ms : List (List Pt)) (w : Pt) : Str := kindT (Opn ms w) (ms.any (runB w (rt w))) (ms.any (runB w (lf w)))
theorem n_kind0 (B K u : D) (a b c : Option Nat) : f_Face_kind [.v (.ob "Face" [(("own_book" : Str), B), (("own_direction" : Str), u), (("own_opener" : Str), optD a), (("own_left" : Str), optD b), (("own_right" : Str), optD c), (("key" : Str), K)])] [] = .ok (.v (.str (kindT a.isSome b.isSome c.isSome))) [] := by
  cases a <;> cases b <;> cases c <;> rfl
theorem n_kind (ms : List (List Pt)) (w : Pt) : f_Face_kind [.v (faceD ms w)] [] = .ok (.v (.str (kindP ms w))) [] := by
  have h := n_kind0 (bookD ms) (.tup [pD w, .tup ((ms.map sortP).map sT)]) (pD w) (ms.findIdx? (opn w)) (ms.findIdx? (runB w (rt w))) (ms.findIdx? (runB w (lf w)))
  rw [List.findIdx?_isSome, List.findIdx?_isSome, List.findIdx?_isSome] at h
  exact h
theorem prop_21 {F : Fd} {f : Fe} {ms : List (List Pt)} {w : Pt} {d : D} {env : Envt} {m : Mem} (h : f env m = .ok (.v (faceD ms w)) m) (hF : F [.v (faceD ms w)] [] = .ok (.v d) []) : propS [("Face", F)] f env m = .ok (.v d) m := by
  unfold faceD at h hF
  generalize faF ms w = FF at *
  simp [propS, h, Rg.bd, slR, obO, optR, unl, runA, Dl.locs, renO, pickO, hF, nloc, wb, Rg.nx]
/-! ### just beside -/
theorem near_lw : ∀ {p : Pt}, p ∈ near2P → ∀ {w : Pt}, w.1.natAbs ≤ 4 → w.2.natAbs ≤ 4 → (dot p (lf w)).natAbs ≤ 16 := fun {p} hp {w} h1 h2 => by
  have n := near_2 p hp
  have a : (p.1 * w.2).natAbs ≤ 8 := by
    rw [Int.natAbs_mul]
    exact Nat.le_trans (Nat.mul_le_mul (by omega : p.1.natAbs ≤ 2) h2) (by decide)
  have b : (p.2 * w.1).natAbs ≤ 8 := by
    rw [Int.natAbs_mul]
    exact Nat.le_trans (Nat.mul_le_mul (by omega : p.2.natAbs ≤ 2) h1) (by decide)
  have e : dot p (lf w) = p.2 * w.1 - p.1 * w.2 := by unfold dot lf; grind
  rw [e]
  omega
theorem dot_rl (p w : Pt) : dot p (rt w) = -dot p (lf w) := by unfold dot lf rt; grind
theorem far_lt {d e f : Int} (hf : 100 ≤ f) (he : e.natAbs ≤ 16) : f * d + e < 0 ↔ d < 0 ∨ (d = 0 ∧ e < 0) := by
  constructor
  · intro h
    by_cases h0 : d < 0
    · exact .inl h0
    · by_cases h1 : d = 0
      · subst h1; exact .inr ⟨rfl, by omega⟩
      · exfalso
        have : f * 1 ≤ f * d := Int.mul_le_mul_of_nonneg_left (by omega) (by omega)
        omega
  · rintro (h | ⟨rfl, h⟩)
    · have : f * d ≤ f * (-1) := Int.mul_le_mul_of_nonneg_left (by omega) (by omega)
      omega
    · omega
theorem opn_far {w b : Pt} (hw : w ≠ ((0 : Int), (0 : Int))) (w1 : w.1.natAbs ≤ 4) (w2 : w.2.natAbs ≤ 4) {f : Int} (hf : 100 ≤ f) (sg : Bool) {s : List Pt} (hs : ∀ p ∈ s, p ∈ near2P) {v : Pt} (hv : v = if sg then (w.1 * f - w.2, w.2 * f + w.1) else (w.1 * f + w.2, w.2 * f - w.1)) : opn v s = runB w (if sg then rt w else lf w) s := by
  have hnz : ∀ p ∈ s, p ≠ ((0 : Int), (0 : Int)) := fun p hp => (by decide +kernel : ∀ q ∈ near2P, q ≠ ((0 : Int), (0 : Int))) p (hs p hp)
  rw [Bool.eq_iff_iff, opn_iff]
  unfold runB
  rw [List.all_eq_true]
  refine forall_congr' fun p => forall_congr' fun hp => ?_
  have n := near_lw (hs p hp) w1 w2
  have z : dot p w = 0 → dot p (lf w) ≠ 0 := fun h1 h2 => hnz p hp (perp0 hw h1 (by rw [dot_rl, h2]; rfl))
  cases sg with
  | true =>
    have e : dot p v = f * dot p w + dot p (lf w) := by rw [hv]; simp only [if_true]; unfold dot lf; grind
    rw [e, far_lt hf n]
    simp only [if_true, dot_rl, Bool.not_eq_true', Bool.or_eq_false_iff, decide_eq_false_iff_not, Bool.and_eq_false_iff]
    omega
  | false =>
    have e : dot p v = f * dot p w + (-dot p (lf w)) := by rw [hv]; simp only [Bool.false_eq_true, if_false]; unfold dot lf; grind
    rw [e, far_lt hf (by omega)]
    simp only [Bool.false_eq_true, if_false, Bool.not_eq_true', Bool.or_eq_false_iff, decide_eq_false_iff_not, Bool.and_eq_false_iff]
    omega
theorem opn_nrm {v : Pt} (hv : v ≠ ((0 : Int), (0 : Int))) (s : List Pt) : opn (nrm v) s = opn v s := by
  rw [Bool.eq_iff_iff, opn_iff, opn_iff]
  refine forall_congr' fun p => forall_congr' fun _ => ?_
  have g := gcd_pos' hv
  have e1 : v.1 = (Int.gcd v.1 v.2 : Int) * (nrm v).1 := by unfold nrm; exact (Int.mul_ediv_cancel' (Int.gcd_dvd_left ..)).symm
  have e2 : v.2 = (Int.gcd v.1 v.2 : Int) * (nrm v).2 := by unfold nrm; exact (Int.mul_ediv_cancel' (Int.gcd_dvd_right ..)).symm
  have e : dot p v = (Int.gcd v.1 v.2 : Int) * dot p (nrm v) := by
    generalize (Int.gcd v.1 v.2 : Int) = k at *
    generalize nrm v = q at *
    unfold dot
    rw [e1, e2]
    grind
  rw [e]
  generalize (Int.gcd v.1 v.2 : Int) = k at g
  generalize dot p (nrm v) = x
  constructor
  · intro h
    have : k * x ≤ k * (-1) := Int.mul_le_mul_of_nonneg_left (by omega) (by omega)
    have : 0 < k := g
    omega
  · intro h
    apply Classical.byContradiction
    intro z
    have : 0 ≤ k * x := Int.mul_nonneg (by omega) (by omega)
    omega
theorem any_far {ms : List (List Pt)} (ok : ModOk ms) {w : Pt} (hw : w ≠ ((0 : Int), (0 : Int))) (w1 : w.1.natAbs ≤ 4) (w2 : w.2.natAbs ≤ 4) {f : Int} (hf : 100 ≤ f) (sg : Bool) {v : Pt} (hv : v = if sg then (w.1 * f - w.2, w.2 * f + w.1) else (w.1 * f + w.2, w.2 * f - w.1)) (v0 : v ≠ ((0 : Int), (0 : Int))) : Opn ms (nrm v) = ms.any (runB w (if sg then rt w else lf w)) := by
  unfold Opn
  rw [Bool.eq_iff_iff, List.any_eq_true, List.any_eq_true]
  refine exists_congr fun s => and_congr_right fun hs => ?_
  rw [opn_nrm v0, opn_far (b := w) hw w1 w2 hf sg (ok.sh s hs).near hv]
theorem beside_nz {w : Pt} (hw : w ≠ ((0 : Int), (0 : Int))) (w1 : w.1.natAbs ≤ 4) (w2 : w.2.natAbs ≤ 4) {f : Int} (hf : 100 ≤ f) : ((w.1 * f - w.2, w.2 * f + w.1) : Pt) ≠ (0, 0) ∧ ((w.1 * f + w.2, w.2 * f - w.1) : Pt) ≠ (0, 0) := by
  have key : ∀ a b : Int, a ≠ 0 → b.natAbs ≤ 4 → a * f + b ≠ 0 := fun a b ha hb h => by
    have h2 : (a * f).natAbs = b.natAbs := by omega
    rw [Int.natAbs_mul] at h2
    have : 1 * 100 ≤ a.natAbs * f.natAbs := Nat.mul_le_mul (by omega) (by omega)
    omega
  have hor : w.1 ≠ 0 ∨ w.2 ≠ 0 := by
    by_cases h : w.1 = 0
    · exact .inr fun h2 => hw (Prod.ext h h2)
    · exact .inl h
  constructor
  · intro z
    rcases hor with h | h
    · exact key w.1 (-w.2) h (by omega) (by have := congrArg Prod.fst z; simp only at this; omega)
    · exact key w.2 w.1 h w1 (congrArg Prod.snd z)
  · intro z
    rcases hor with h | h
    · exact key w.1 w.2 h w2 (congrArg Prod.fst z)
    · exact key w.2 (-w.1) h (by omega) (by have := congrArg Prod.snd z; simp only at this; omega)
end Lw
/-! k21: the law -/
namespace Lw
open PySem Dl
noncomputable abbrev wayE : Fe := ifS (orT (cmpT qEq (varS 4) (litS (.lst []))) (cmpT qLt (varS 5) (valS (.int 2)))) (callS 2 f__law_way (acons (varS 1) (acons (valS (.int 2)) anil))) (callS 2 f__law_of (acons (varS 1) (acons (varS 4) anil)))
noncomputable abbrev farE : Fe := callS 2 f__law_of (acons (varS 1) (acons (lstS (acons (valS (.int 100)) (acons (powS (valS (.int 10)) (valS (.int 9))) anil))) anil))
noncomputable abbrev ltE : Fe := callS 1 f__law_way_of (acons (tupS (acons (subS (mulS (ixS (varS 6) (valS (.int 0))) (varS 7)) (ixS (varS 6) (valS (.int 1)))) (acons (addS (mulS (ixS (varS 6) (valS (.int 1))) (varS 7)) (ixS (varS 6) (valS (.int 0)))) anil))) anil)
noncomputable abbrev snE : Fe := callS 1 f__law_way_of (acons (tupS (acons (addS (mulS (ixS (varS 6) (valS (.int 0))) (varS 7)) (ixS (varS 6) (valS (.int 1)))) (acons (subS (mulS (ixS (varS 6) (valS (.int 1))) (varS 7)) (ixS (varS 6) (valS (.int 0)))) anil))) anil)
noncomputable abbrev dueB : Fs := ifB (notT (valT (callS 2 f_is_open (acons (varS 3) (acons (varS 6) anil))))) (seqB (setB 10 (valS (.str "never")))
    (seqB (ifB (valT (callS 2 f_is_open (acons (varS 3) (acons (varS 8) anil)))) (seqB (setB 10 (valS (.str "left")))
    nilB) nilB)
    (seqB (ifB (valT (callS 2 f_is_open (acons (varS 3) (acons (varS 9) anil)))) (seqB (setB 10 (ifS (cmpT qEq (varS 10) (valS (.str "left"))) (valS (.str "both")) (valS (.str "right"))))
    nilB) nilB)
    nilB))) nilB
noncomputable abbrev tB21 : Fs := seqB (setB 6 wayE) (seqB (setB 7 farE) (seqB (setB 8 ltE) (seqB (setB 9 snE) (seqB (setB 10 (valS (.str "open"))) (seqB dueB
    (seqB (ifB (notT (valT (callS 2 (f__law_same 6) (acons (propS [("Face", f_Face_kind)] (makeS Dl.runN "Face" f_Face___init__ 3 [] (acons (varS 3) (acons (varS 6) anil)))) (acons (varS 10) anil))))) (retB (valS (.bl false))) nilB)
    nilB))))))
abbrev E21 (A : Option Sl) (ms : List (List Pt)) (o5 o6 o7 o8 o9 o10 : Option Sl) : Envt := [A, some (.loc 0), some (.v (.lst (ms.map sL))), some (.v (bookD ms)), some (.v (.lst ((endsP ms).map pD))), o5, o6, o7, o8, o9, o10]
theorem or_21 {t u : Ft} {env : Envt} {m : Mem} {a b : Bool} (h : t env m = .ok a m) (h2 : u env m = .ok b m) : orT t u env m = .ok (a || b) m := by cases a <;> simp [orT, h, h2, Rg.bd]
theorem end_4 : ∀ p ∈ near2P, ((eL p).1.natAbs ≤ 4 ∧ (eL p).2.natAbs ≤ 4) ∧ ((eR p).1.natAbs ≤ 4 ∧ (eR p).2.natAbs ≤ 4) := by decide +kernel
theorem ends_4 {ms : List (List Pt)} (ok : ModOk ms) {q : Pt} (h : q ∈ endsP ms) : q.1.natAbs ≤ 4 ∧ q.2.natAbs ≤ 4 := by
  obtain ⟨p, hp, e⟩ := mem_ends.mp h
  have pn : p ∈ near2P := by
    unfold cellsOf at hp
    obtain ⟨s, hs, h2⟩ := List.mem_flatten.mp hp
    exact (ok.sh s hs).near p h2
  rcases e with rfl | rfl
  · exact (end_4 p pn).1
  · exact (end_4 p pn).2
theorem if_t21 {t : Ft} {f g : Fe} {env : Envt} {m : Mem} {R : Rg Rs} (ht : t env m = .ok true m) (h : f env m = R) : ifS t f g env m = R := by unfold ifS; rw [ht]; exact h
theorem if_f21 {t : Ft} {f g : Fe} {env : Envt} {m : Mem} {R : Rg Rs} (ht : t env m = .ok false m) (h : g env m = R) : ifS t f g env m = R := by unfold ifS; rw [ht]; exact h
theorem pw_21 {env : Envt} {m : Mem} : powS (valS (.int 10)) (valS (.int 9)) env m = .ok (.v (.int 1000000000)) m := by rfl
theorem of_21 {F : Fd} {env : Envt} {c c1 : Cell} {L d : D} (h1 : env[1]? = some (some (.loc 0))) (h4 : env[4]? = some (some (.v L))) (e : F [.loc 0, .v L] [c] = .ok (.v d) [c1]) : callS 2 F (acons (varS 1) (acons (varS 4) anil)) env [c] = .ok (.v d) [c1] := by
  simp [callS, lcS, lcGo, itS, seqR, Tg.put, Tg.vs, wipeE, noIf, Dl.locs, renO, pickO, idx, wb, nloc, bSh_ii, eqD_ii, defF, retB, retNB, seqB, setB, newB, parB, asgB, itemB, augB, exprB, ifB, nilB, Oc.bd, Rg.to, Rg.bd, rdR, dr, slR, unl, varS, valS, rd1S, rd2S, addS, addR, subS, subI, mulS, divS, modS, powS, opI, negS, cmpS, cmpT, chainS, chainT, chainR, andS, orS, notS, ifS, valT, andT, orT, notT, isBl, anil, acons, tupS, lstS, frzR, frz, ixS, onone, osome, sliceS, slcR, optR, Rg.nx, lenS, lenD, absS, intS, intOf, allS, anyS, blsR, bls, listS, tupleS, seqD, isiS, isi2S, noOb_non, noOb_bl, noOb_int, noOb_str, noOb_tup, noOb_lst, cellR, appendS, popAtS, popS, insertS, minTS, maxTS, minmaxR, unI, lenSetS, exitR, gn, gsn, gsc, gt, qLt, qLe, qGt, qGe, qEq, qNe, qIn, qNotIn, qIs, qIsNot, qIsB, qIsNotB, bI, fI, bB, eqB, isN, dInt, dBool, dStr, dLst, dTup, litS, litRs, obR, fldS, conS, runA, runM, Dl.runN, Dl.runL, methS, newOb, makeS, obO, intR, strR, blR, lenOS, reprOS, putD, fldB, forEB, forGoE, propS, mixO, lfC, lfM, repS, maxLS, minLS, maxLR, lcCS, lc2S, aconsX, h1, h4, e]
theorem kind_ok21 (a b c : Bool) : okD 5 (.str (kindT a b c)) = true := by cases a <;> cases b <;> cases c <;> decide +kernel
theorem way_21 {ms : List (List Pt)} (ok : ModOk ms) (h5 : ms.length ≤ 5) (A o6 o7 o8 o9 o10 : Option Sl) (k : Int) (c : Cell) (hc : BagC c) : ∃ w c', wayE (E21 A ms (some (.v (.int k))) o6 o7 o8 o9 o10) [c] = .ok (.v (pD w)) [c'] ∧ Dr w ∧ w.1.natAbs ≤ 4 ∧ w.2.natAbs ≤ 4 ∧ BagC c' := by
  obtain ⟨z1, z2⟩ := eq_nilP (endsP ms)
  have t1 := nil_c (env := E21 A ms (some (.v (.int k))) o6 o7 o8 o9 o10) (m := [c]) (i := 4) rfl z1 z2
  have t2 : cmpT qLt (varS 5) (valS (.int 2)) (E21 A ms (some (.v (.int k))) o6 o7 o8 o9 o10) [c] = .ok (decide (k < 2)) [c] := by simp [callS, lcS, lcGo, itS, seqR, Tg.put, Tg.vs, wipeE, noIf, Dl.locs, renO, pickO, idx, wb, nloc, bSh_ii, eqD_ii, defF, retB, retNB, seqB, setB, newB, parB, asgB, itemB, augB, exprB, ifB, nilB, Oc.bd, Rg.to, Rg.bd, rdR, dr, slR, unl, varS, valS, rd1S, rd2S, addS, addR, subS, subI, mulS, divS, modS, powS, opI, negS, cmpS, cmpT, chainS, chainT, chainR, andS, orS, notS, ifS, valT, andT, orT, notT, isBl, anil, acons, tupS, lstS, frzR, frz, ixS, onone, osome, sliceS, slcR, optR, Rg.nx, lenS, lenD, absS, intS, intOf, allS, anyS, blsR, bls, listS, tupleS, seqD, isiS, isi2S, noOb_non, noOb_bl, noOb_int, noOb_str, noOb_tup, noOb_lst, cellR, appendS, popAtS, popS, insertS, minTS, maxTS, minmaxR, unI, lenSetS, exitR, gn, gsn, gsc, gt, qLt, qLe, qGt, qGe, qEq, qNe, qIn, qNotIn, qIs, qIsNot, qIsB, qIsNotB, bI, fI, bB, eqB, isN, dInt, dBool, dStr, dLst, dTup, litS, litRs, obR, fldS, conS, runA, runM, Dl.runN, Dl.runL, methS, newOb, makeS, obO, intR, strR, blR, lenOS, reprOS, putD, fldB, forEB, forGoE, propS, mixO, lfC, lfM, repS, maxLS, minLS, maxLR, lcCS, lc2S, aconsX]
  have t := or_21 t1 t2
  cases hb : (decide (endsP ms = []) || decide (k < 2)) with
  | true =>
    rw [hb] at t
    obtain ⟨x, y, c', e, g, x4, y4, hc'⟩ := way_ok 2 (by decide) (by decide) c hc
    exact ⟨(x, y), c', if_t21 t (pl_31 (R := []) rfl e), ⟨g, ⟨by simp only; omega, by simp only; omega⟩⟩, by simp only; omega, by simp only; omega, hc'⟩
  | false =>
    rw [hb] at t
    rw [Bool.or_eq_false_iff, decide_eq_false_iff_not] at hb
    obtain ⟨d, c', e, hd, hc'⟩ := of_ok ((endsP ms).map pD) (by simpa using hb.1) (by rw [List.length_map]; exact Nat.le_trans (ends_len ok h5) (by decide)) c hc
    obtain ⟨q, hq, rfl⟩ := List.mem_map.mp hd
    obtain ⟨q1, q2⟩ := ends_4 ok hq
    exact ⟨q, c', if_f21 t (of_21 rfl rfl e), (ends_dr ok q hq).1, q1, q2, hc'⟩
theorem two_21 {X Y : Fe} {F : Fd} {env : Envt} {m : Mem} {x y : Int} {d : D} (hX : X env m = .ok (.v (.int x)) m) (hY : Y env m = .ok (.v (.int y)) m) (h : F [.v (pD (x, y))] [] = .ok (.v d) []) : callS 1 F (acons (tupS (acons X (acons Y anil))) anil) env m = .ok (.v d) m := by
  unfold pD at h
  simp [callS, lcS, lcGo, itS, seqR, Tg.put, Tg.vs, wipeE, noIf, Dl.locs, renO, pickO, idx, wb, nloc, bSh_ii, eqD_ii, defF, retB, retNB, seqB, setB, newB, parB, asgB, itemB, augB, exprB, ifB, nilB, Oc.bd, Rg.to, Rg.bd, rdR, dr, slR, unl, varS, valS, rd1S, rd2S, addS, addR, subS, subI, mulS, divS, modS, powS, opI, negS, cmpS, cmpT, chainS, chainT, chainR, andS, orS, notS, ifS, valT, andT, orT, notT, isBl, anil, acons, tupS, lstS, frzR, frz, ixS, onone, osome, sliceS, slcR, optR, Rg.nx, lenS, lenD, absS, intS, intOf, allS, anyS, blsR, bls, listS, tupleS, seqD, isiS, isi2S, noOb_non, noOb_bl, noOb_int, noOb_str, noOb_tup, noOb_lst, cellR, appendS, popAtS, popS, insertS, minTS, maxTS, minmaxR, unI, lenSetS, exitR, gn, gsn, gsc, gt, qLt, qLe, qGt, qGe, qEq, qNe, qIn, qNotIn, qIs, qIsNot, qIsB, qIsNotB, bI, fI, bB, eqB, isN, dInt, dBool, dStr, dLst, dTup, litS, litRs, obR, fldS, conS, runA, runM, Dl.runN, Dl.runL, methS, newOb, makeS, obO, intR, strR, blR, lenOS, reprOS, putD, fldB, forEB, forGoE, propS, mixO, lfC, lfM, repS, maxLS, minLS, maxLR, lcCS, lc2S, aconsX, hX, hY, h]
theorem mp_21 {env : Envt} {m : Mem} {w : Pt} {f : Int} (hw : w.1.natAbs ≤ 4 ∧ w.2.natAbs ≤ 4) (hf : f.natAbs < 2 ^ 90) (h6 : env[6]? = some (some (.v (pD w)))) (h7 : env[7]? = some (some (.v (.int f)))) :
    (subS (mulS (ixS (varS 6) (valS (.int 0))) (varS 7)) (ixS (varS 6) (valS (.int 1))) env m = .ok (.v (.int (w.1 * f - w.2))) m ∧ addS (mulS (ixS (varS 6) (valS (.int 1))) (varS 7)) (ixS (varS 6) (valS (.int 0))) env m = .ok (.v (.int (w.2 * f + w.1))) m) ∧
    (addS (mulS (ixS (varS 6) (valS (.int 0))) (varS 7)) (ixS (varS 6) (valS (.int 1))) env m = .ok (.v (.int (w.1 * f + w.2))) m ∧ subS (mulS (ixS (varS 6) (valS (.int 1))) (varS 7)) (ixS (varS 6) (valS (.int 0))) env m = .ok (.v (.int (w.2 * f - w.1))) m) := by
  have m1 := mul_bd (x := w.1) (y := f) (by omega) (by omega)
  have m2 := mul_bd (x := w.2) (y := f) (by omega) (by omega)
  refine ⟨⟨?_, ?_⟩, ⟨?_, ?_⟩⟩ <;> simp [callS, lcS, lcGo, itS, seqR, Tg.put, Tg.vs, wipeE, noIf, Dl.locs, renO, pickO, idx, wb, nloc, bSh_ii, eqD_ii, defF, retB, retNB, seqB, setB, newB, parB, asgB, itemB, augB, exprB, ifB, nilB, Oc.bd, Rg.to, Rg.bd, rdR, dr, slR, unl, varS, valS, rd1S, rd2S, addS, addR, subS, subI, mulS, divS, modS, powS, opI, negS, cmpS, cmpT, chainS, chainT, chainR, andS, orS, notS, ifS, valT, andT, orT, notT, isBl, anil, acons, tupS, lstS, frzR, frz, ixS, onone, osome, sliceS, slcR, optR, Rg.nx, lenS, lenD, absS, intS, intOf, allS, anyS, blsR, bls, listS, tupleS, seqD, isiS, isi2S, noOb_non, noOb_bl, noOb_int, noOb_str, noOb_tup, noOb_lst, cellR, appendS, popAtS, popS, insertS, minTS, maxTS, minmaxR, unI, lenSetS, exitR, gn, gsn, gsc, gt, qLt, qLe, qGt, qGe, qEq, qNe, qIn, qNotIn, qIs, qIsNot, qIsB, qIsNotB, bI, fI, bB, eqB, isN, dInt, dBool, dStr, dLst, dTup, litS, litRs, obR, fldS, conS, runA, runM, Dl.runN, Dl.runL, methS, newOb, makeS, obO, intR, strR, blR, lenOS, reprOS, putD, fldB, forEB, forGoE, propS, mixO, lfC, lfM, repS, maxLS, minLS, maxLR, lcCS, lc2S, aconsX, h6, h7, pD, ixD, L2.atI, L2.ixN, m1, m2, at0, at1]
theorem wo_21 {v : Pt} (h0 : v ≠ ((0 : Int), (0 : Int))) (hb : v.1.natAbs ≤ 2 ^ 94 ∧ v.2.natAbs ≤ 2 ^ 94) : f__law_way_of [.v (pD v)] [] = .ok (.v (pD (nrm v))) [] := way_of_ok v.1 v.2 (2 ^ 94) (fun z => h0 (Prod.ext z.1 z.2)) (by omega) (by omega) (by decide)
theorem ifn_21 {c : Ft} {a : Fs} {env : Envt} {m m1 : Mem} (hc : c env m = .ok false m1) : ifB c a nilB env m = .nx env m1 := by
  simp only [ifB, hc, Rg.to, Bool.false_eq_true, if_false]
  rfl
theorem due_21 {ms : List (List Pt)} (ok : ModOk ms) (h5 : ms.length ≤ 5) (A o5 o7 : Option Sl) {w u v : Pt} (hw : Dr w) (hu : Dr u) (hv : Dr v) (m : Mem) : dueB (E21 A ms o5 (some (.v (pD w))) o7 (some (.v (pD u))) (some (.v (pD v))) (some (.v (.str "open")))) m = .nx (E21 A ms o5 (some (.v (pD w))) o7 (some (.v (pD u))) (some (.v (pD v))) (some (.v (.str (kindT (Opn ms w) (Opn ms u) (Opn ms v)))))) m := by
  have t1 : ∀ o10, callS 2 f_is_open (acons (varS 3) (acons (varS 6) anil)) (E21 A ms o5 (some (.v (pD w))) o7 (some (.v (pD u))) (some (.v (pD v))) o10) m = .ok (.v (.bl (Opn ms w))) m := fun o10 => call_2 rfl rfl (n_open ms ok h5 hw)
  have t2 : ∀ o10, callS 2 f_is_open (acons (varS 3) (acons (varS 8) anil)) (E21 A ms o5 (some (.v (pD w))) o7 (some (.v (pD u))) (some (.v (pD v))) o10) m = .ok (.v (.bl (Opn ms u))) m := fun o10 => call_2 rfl rfl (n_open ms ok h5 hu)
  have t3 : ∀ o10, callS 2 f_is_open (acons (varS 3) (acons (varS 9) anil)) (E21 A ms o5 (some (.v (pD w))) o7 (some (.v (pD u))) (some (.v (pD v))) o10) m = .ok (.v (.bl (Opn ms v))) m := fun o10 => call_2 rfl rfl (n_open ms ok h5 hv)
  have s1 : ∀ (x : Str) (o10 : Option Sl), setB 10 (valS (.str x)) (E21 A ms o5 (some (.v (pD w))) o7 (some (.v (pD u))) (some (.v (pD v))) o10) m = .nx (E21 A ms o5 (some (.v (pD w))) o7 (some (.v (pD u))) (some (.v (pD v))) (some (.v (.str x)))) m := fun _ _ => rfl
  have s2 : ∀ (x : Str), bSh (.str x) (.str "left") = true → setB 10 (ifS (cmpT qEq (varS 10) (valS (.str "left"))) (valS (.str "both")) (valS (.str "right"))) (E21 A ms o5 (some (.v (pD w))) o7 (some (.v (pD u))) (some (.v (pD v))) (some (.v (.str x)))) m = .nx (E21 A ms o5 (some (.v (pD w))) o7 (some (.v (pD u))) (some (.v (pD v))) (some (.v (.str (if eqD (.str x) (.str "left") then "both" else "right"))))) m := fun x b => by
    have t : cmpT qEq (varS 10) (valS (.str "left")) (E21 A ms o5 (some (.v (pD w))) o7 (some (.v (pD u))) (some (.v (pD v))) (some (.v (.str x)))) m = .ok (eqD (.str x) (.str "left")) m := by
      generalize ms.map sL = L
      generalize bookD ms = B
      generalize (endsP ms).map pD = N
      simp [callS, lcS, lcGo, itS, seqR, Tg.put, Tg.vs, wipeE, noIf, Dl.locs, renO, pickO, idx, wb, nloc, bSh_ii, eqD_ii, defF, retB, retNB, seqB, setB, newB, parB, asgB, itemB, augB, exprB, ifB, nilB, Oc.bd, Rg.to, Rg.bd, rdR, dr, slR, unl, varS, valS, rd1S, rd2S, addS, addR, subS, subI, mulS, divS, modS, powS, opI, negS, cmpS, cmpT, chainS, chainT, chainR, andS, orS, notS, ifS, valT, andT, orT, notT, isBl, anil, acons, tupS, lstS, frzR, frz, ixS, onone, osome, sliceS, slcR, optR, Rg.nx, lenS, lenD, absS, intS, intOf, allS, anyS, blsR, bls, listS, tupleS, seqD, isiS, isi2S, noOb_non, noOb_bl, noOb_int, noOb_str, noOb_tup, noOb_lst, cellR, appendS, popAtS, popS, insertS, minTS, maxTS, minmaxR, unI, lenSetS, exitR, gn, gsn, gsc, gt, qLt, qLe, qGt, qGe, qEq, qNe, qIn, qNotIn, qIs, qIsNot, qIsB, qIsNotB, bI, fI, bB, eqB, isN, dInt, dBool, dStr, dLst, dTup, litS, litRs, obR, fldS, conS, runA, runM, Dl.runN, Dl.runL, methS, newOb, makeS, obO, intR, strR, blR, lenOS, reprOS, putD, fldB, forEB, forGoE, propS, mixO, lfC, lfM, repS, maxLS, minLS, maxLR, lcCS, lc2S, aconsX, b]
    cases hq : eqD (.str x) (.str "left") with
    | true => rw [hq] at t; exact (set_of (i := 10) (if_t21 t rfl)).trans rfl
    | false => rw [hq] at t; exact (set_of (i := 10) (if_f21 t rfl)).trans rfl
  have n1 := fun o10 => notval' (t1 o10)
  have n2 := fun o10 => val_of (t2 o10)
  have n3 := fun o10 => val_of (t3 o10)
  have fin : ∀ x : Str, bSh (.str x) (.str "left") = true → ifB (valT (callS 2 f_is_open (acons (varS 3) (acons (varS 9) anil)))) (seqB (setB 10 (ifS (cmpT qEq (varS 10) (valS (.str "left"))) (valS (.str "both")) (valS (.str "right")))) nilB) nilB (E21 A ms o5 (some (.v (pD w))) o7 (some (.v (pD u))) (some (.v (pD v))) (some (.v (.str x)))) m = .nx (E21 A ms o5 (some (.v (pD w))) o7 (some (.v (pD u))) (some (.v (pD v))) (some (.v (.str (if Opn ms v then (if eqD (.str x) (.str "left") then "both" else "right") else x))))) m := fun x b => by
    have h := n3 (some (.v (.str x)))
    cases ho : Opn ms v with
    | true => rw [ho] at h; exact ifB_t h ((seqB_nx (s2 x b)).trans rfl)
    | false => rw [ho] at h; exact ifn_21 h
  cases ha : Opn ms w with
  | true =>
    have h := n1 (some (.v (.str "open")))
    rw [ha] at h
    exact ifn_21 h
  | false =>
    have h := n1 (some (.v (.str "open")))
    rw [ha] at h
    refine ifB_t h ?_
    refine (seqB_nx (s1 "never" _)).trans ?_
    cases hb : Opn ms u with
    | true =>
      have h := n2 (some (.v (.str "never")))
      rw [hb] at h
      refine (seqB_nx (ifB_t h ((seqB_nx (s1 "left" _)).trans rfl))).trans ?_
      refine (seqB_nx (fin "left" (by decide +kernel))).trans ?_
      cases Opn ms v <;> rfl
    | false =>
      have h := n2 (some (.v (.str "never")))
      rw [hb] at h
      refine (seqB_nx (ifn_21 h)).trans ?_
      refine (seqB_nx (fin "never" (by decide +kernel))).trans ?_
      cases Opn ms v <;> rfl
theorem turn_21 {ms : List (List Pt)} (ok : ModOk ms) (h5 : ms.length ≤ 5) (A o6 o7 o8 o9 o10 : Option Sl) (k : Int) (c : Cell) (hc : BagC c) : ∃ p6 p7 p8 p9 p10 c', tB21 (E21 A ms (some (.v (.int k))) o6 o7 o8 o9 o10) [c] = .nx (E21 A ms (some (.v (.int k))) p6 p7 p8 p9 p10) [c'] ∧ BagC c' := by
  obtain ⟨w, c1, e1, hw, w1, w2, b1⟩ := way_21 ok h5 A o6 o7 o8 o9 o10 k c hc
  have q6 := (set_of (i := 6) e1).trans (c := Oc.nx (E21 A ms (some (.v (.int k))) (some (.v (pD w))) o7 o8 o9 o10) [c1]) rfl
  obtain ⟨d, c2, e2, hd, b2⟩ := of_ok [.int 100, .int 1000000000] (by simp) (by simp) c1 b1
  obtain ⟨f, rfl, f1, f2⟩ : ∃ f : Int, d = .int f ∧ 100 ≤ f ∧ f ≤ 1000000000 := by
    simp only [List.mem_cons, List.not_mem_nil, or_false] at hd
    rcases hd with rfl | rfl
    · exact ⟨100, rfl, by decide, by decide⟩
    · exact ⟨1000000000, rfl, by decide, by decide⟩
  have ls : lstS (acons (valS (.int 100)) (acons (powS (valS (.int 10)) (valS (.int 9))) anil)) (E21 A ms (some (.v (.int k))) (some (.v (pD w))) o7 o8 o9 o10) [c1] = .ok (.nl [.int 100, .int 1000000000]) [c1] := by
    have p := pw_21 (env := E21 A ms (some (.v (.int k))) (some (.v (pD w))) o7 o8 o9 o10) (m := [c1])
    generalize powS (valS (.int 10)) (valS (.int 9)) = Z at p ⊢
    simp [callS, lcS, lcGo, itS, seqR, Tg.put, Tg.vs, wipeE, noIf, Dl.locs, renO, pickO, idx, wb, nloc, bSh_ii, eqD_ii, defF, retB, retNB, seqB, setB, newB, parB, asgB, itemB, augB, exprB, ifB, nilB, Oc.bd, Rg.to, Rg.bd, rdR, dr, slR, unl, varS, valS, rd1S, rd2S, addS, addR, subS, subI, mulS, divS, modS, powS, opI, negS, cmpS, cmpT, chainS, chainT, chainR, andS, orS, notS, ifS, valT, andT, orT, notT, isBl, anil, acons, tupS, lstS, frzR, frz, ixS, onone, osome, sliceS, slcR, optR, Rg.nx, lenS, lenD, absS, intS, intOf, allS, anyS, blsR, bls, listS, tupleS, seqD, isiS, isi2S, noOb_non, noOb_bl, noOb_int, noOb_str, noOb_tup, noOb_lst, cellR, appendS, popAtS, popS, insertS, minTS, maxTS, minmaxR, unI, lenSetS, exitR, gn, gsn, gsc, gt, qLt, qLe, qGt, qGe, qEq, qNe, qIn, qNotIn, qIs, qIsNot, qIsB, qIsNotB, bI, fI, bB, eqB, isN, dInt, dBool, dStr, dLst, dTup, litS, litRs, obR, fldS, conS, runA, runM, Dl.runN, Dl.runL, methS, newOb, makeS, obO, intR, strR, blR, lenOS, reprOS, putD, fldB, forEB, forGoE, propS, mixO, lfC, lfM, repS, maxLS, minLS, maxLR, lcCS, lc2S, aconsX, p]
  have q7 := (set_of (i := 7) (a := farE) (of_e31 (R := []) rfl ls e2)).trans (c := Oc.nx (E21 A ms (some (.v (.int k))) (some (.v (pD w))) (some (.v (.int f))) o8 o9 o10) [c2]) rfl
  obtain ⟨n1, n2⟩ := beside_nz hw.ne w1 w2 f1
  have bb : ∀ a b : Int, a.natAbs ≤ 4 → b.natAbs ≤ 4 → (a * f + b).natAbs ≤ 2 ^ 94 ∧ (a * f - b).natAbs ≤ 2 ^ 94 := fun a b ha hb => by
    have : (a * f).natAbs ≤ 4 * 1000000000 := by rw [Int.natAbs_mul]; exact Nat.mul_le_mul ha (by omega)
    omega
  have wu := wo_21 n1 ⟨(bb w.1 w.2 w1 w2).2, (bb w.2 w.1 w2 w1).1⟩
  have wv := wo_21 n2 ⟨(bb w.1 w.2 w1 w2).1, (bb w.2 w.1 w2 w1).2⟩
  have du : Dr (nrm (w.1 * f - w.2, w.2 * f + w.1)) := Dr.nrm n1 ⟨by have := (bb w.1 w.2 w1 w2).2; simp only; omega, by have := (bb w.2 w.1 w2 w1).1; simp only; omega⟩
  have dv : Dr (nrm (w.1 * f + w.2, w.2 * f - w.1)) := Dr.nrm n2 ⟨by have := (bb w.1 w.2 w1 w2).1; simp only; omega, by have := (bb w.2 w.1 w2 w1).2; simp only; omega⟩
  have au := any_far ok hw.ne w1 w2 f1 true rfl n1
  have av := any_far ok hw.ne w1 w2 f1 false rfl n2
  simp only [if_true, Bool.false_eq_true, if_false] at au av
  obtain ⟨⟨x1, x2⟩, _⟩ := mp_21 (env := E21 A ms (some (.v (.int k))) (some (.v (pD w))) (some (.v (.int f))) o8 o9 o10) (m := [c2]) ⟨w1, w2⟩ (f := f) (by omega) rfl rfl
  have e8 := two_21 (F := f__law_way_of) x1 x2 wu
  generalize nrm (w.1 * f - w.2, w.2 * f + w.1) = u at e8 du au wu
  have q8 := (set_of (i := 8) (a := ltE) e8).trans (c := Oc.nx (E21 A ms (some (.v (.int k))) (some (.v (pD w))) (some (.v (.int f))) (some (.v (pD u))) o9 o10) [c2]) rfl
  obtain ⟨_, ⟨x1, x2⟩⟩ := mp_21 (env := E21 A ms (some (.v (.int k))) (some (.v (pD w))) (some (.v (.int f))) (some (.v (pD u))) o9 o10) (m := [c2]) ⟨w1, w2⟩ (f := f) (by omega) rfl rfl
  have e9 := two_21 (F := f__law_way_of) x1 x2 wv
  generalize nrm (w.1 * f + w.2, w.2 * f - w.1) = v at e9 dv av wv
  have q9 := (set_of (i := 9) (a := snE) e9).trans (c := Oc.nx (E21 A ms (some (.v (.int k))) (some (.v (pD w))) (some (.v (.int f))) (some (.v (pD u))) (some (.v (pD v))) o10) [c2]) rfl
  have q10 : setB 10 (valS (.str "open")) (E21 A ms (some (.v (.int k))) (some (.v (pD w))) (some (.v (.int f))) (some (.v (pD u))) (some (.v (pD v))) o10) [c2] = Oc.nx (E21 A ms (some (.v (.int k))) (some (.v (pD w))) (some (.v (.int f))) (some (.v (pD u))) (some (.v (pD v))) (some (.v (.str "open")))) [c2] := rfl
  have q11 := due_21 ok h5 A (some (.v (.int k))) (some (.v (.int f))) hw du dv [c2]
  rw [au, av] at q11
  have hx : propS [("Face", f_Face_kind)] (makeS Dl.runN "Face" f_Face___init__ 3 [] (acons (varS 3) (acons (varS 6) anil))) (E21 A ms (some (.v (.int k))) (some (.v (pD w))) (some (.v (.int f))) (some (.v (pD u))) (some (.v (pD v))) (some (.v (.str (kindP ms w))))) [c2] = .ok (.v (.str (kindP ms w))) [c2] := prop_21 (face_made ok h5 hw rfl rfl) (n_kind ms w)
  have sm := same_24 hx (vr_v (i := 10) (d := .str (kindP ms w)) rfl) (kind_ok21 _ _ _)
  exact ⟨_, _, _, _, _, c2, (seqB_nx q6).trans ((seqB_nx q7).trans ((seqB_nx q8).trans ((seqB_nx q9).trans ((seqB_nx q10).trans ((seqB_nx q11).trans (if_pass (notval' sm) rfl)))))), b2⟩
theorem turns_21 {ms : List (List Pt)} (ok : ModOk ms) (h5 : ms.length ≤ 5) (A : Option Sl) : ∀ (n : Nat) (k : Int) (o5 o6 o7 o8 o9 o10 : Option Sl) (c : Cell), BagC c → ∃ E c', forGo (gn 5) tB21 (rgD k n) (E21 A ms o5 o6 o7 o8 o9 o10) [c] = .nx E [c']
  | 0, k, o5, o6, o7, o8, o9, o10, c, hc => ⟨_, c, rfl⟩
  | n + 1, k, o5, o6, o7, o8, o9, o10, c, hc => by
    obtain ⟨p6, p7, p8, p9, p10, c1, e1, b1⟩ := turn_21 ok h5 A o6 o7 o8 o9 o10 k c hc
    obtain ⟨E, c2, e2⟩ := turns_21 ok h5 A n (k + 1) (some (.v (.int k))) p6 p7 p8 p9 p10 c1 b1
    refine ⟨E, c2, ?_⟩
    rw [rgD_cons']
    exact (for_nx (e1 := E21 A ms (some (.v (.int k))) o6 o7 o8 o9 o10) rfl e1).trans e2
theorem law_true (ns : List Int) : f_law_v35 [.v (.lst (ns.map .int))] [] = .ok (.v (.bl true)) [] := by
  obtain ⟨bs, e0, b0⟩ := bag_ok ns
  obtain ⟨ms, c1, e1, b1, ok, l5⟩ := model_ok 5 (by decide) (.lst bs) b0
  have key : ∀ A : Option Sl, ∃ M, (seqB (setB 2 (callS 2 f__law_model (acons (varS 1) (acons (valS (.int 5)) anil))))
    (seqB (setB 3 (callS 1 f__law_made (acons (varS 2) anil)))
    (seqB (setB 4 (callS 1 f_ends (acons (varS 3) anil)))
    (seqB (forB (gn 5) (range1S (valS (.int 6))) tB21)
    (retB (valS (.bl true))))))) [A, some (.loc 0), none, none, none, none, none, none, none, none, none] [.lst bs] = .rt (.v (.bl true)) M := by
    intro A
    have x2 : callS 2 f__law_model (acons (varS 1) (acons (valS (.int 5)) anil)) [A, some (.loc 0), none, none, none, none, none, none, none, none, none] [.lst bs] = .ok (.nl (ms.map sL)) [c1] := by
      have e1' : f__law_model [.loc 0, .v (.int 5)] [.lst bs] = .ok (.nl (ms.map sL)) [c1] := e1
      generalize f__law_model = F at e1' ⊢
      generalize ms.map sL = L at e1' ⊢
      simp [callS, lcS, lcGo, itS, seqR, Tg.put, Tg.vs, wipeE, noIf, Dl.locs, renO, pickO, idx, wb, nloc, bSh_ii, eqD_ii, defF, retB, retNB, seqB, setB, newB, parB, asgB, itemB, augB, exprB, ifB, nilB, Oc.bd, Rg.to, Rg.bd, rdR, dr, slR, unl, varS, valS, rd1S, rd2S, addS, addR, subS, subI, mulS, divS, modS, powS, opI, negS, cmpS, cmpT, chainS, chainT, chainR, andS, orS, notS, ifS, valT, andT, orT, notT, isBl, anil, acons, tupS, lstS, frzR, frz, ixS, onone, osome, sliceS, slcR, optR, Rg.nx, lenS, lenD, absS, intS, intOf, allS, anyS, blsR, bls, listS, tupleS, seqD, isiS, isi2S, noOb_non, noOb_bl, noOb_int, noOb_str, noOb_tup, noOb_lst, cellR, appendS, popAtS, popS, insertS, minTS, maxTS, minmaxR, unI, lenSetS, exitR, gn, gsn, gsc, gt, qLt, qLe, qGt, qGe, qEq, qNe, qIn, qNotIn, qIs, qIsNot, qIsB, qIsNotB, bI, fI, bB, eqB, isN, dInt, dBool, dStr, dLst, dTup, litS, litRs, obR, fldS, conS, runA, runM, Dl.runN, Dl.runL, methS, newOb, makeS, obO, intR, strR, blR, lenOS, reprOS, putD, fldB, forEB, forGoE, propS, mixO, lfC, lfM, repS, maxLS, minLS, maxLR, lcCS, lc2S, aconsX, e1']
    have q2 := (set_of (i := 2) x2).trans (c := Oc.nx [A, some (.loc 0), some (.v (.lst (ms.map sL))), none, none, none, none, none, none, none, none] [c1]) rfl
    have q3 := (set_of (i := 3) (call1_v (i := 2) (env := [A, some (.loc 0), some (.v (.lst (ms.map sL))), none, none, none, none, none, none, none, none]) (m := [c1]) rfl (n_made ms ok l5))).trans (c := Oc.nx [A, some (.loc 0), some (.v (.lst (ms.map sL))), some (.v (bookD ms)), none, none, none, none, none, none, none] [c1]) rfl
    have x4 : callS 1 f_ends (acons (varS 3) anil) [A, some (.loc 0), some (.v (.lst (ms.map sL))), some (.v (bookD ms)), none, none, none, none, none, none, none] [c1] = .ok (.nl ((endsP ms).map pD)) [c1] := by
      have e := n_ends ms ok l5
      generalize f_ends = F at e ⊢
      generalize bookD ms = B at e ⊢
      generalize (endsP ms).map pD = L at e ⊢
      simp [callS, lcS, lcGo, itS, seqR, Tg.put, Tg.vs, wipeE, noIf, Dl.locs, renO, pickO, idx, wb, nloc, bSh_ii, eqD_ii, defF, retB, retNB, seqB, setB, newB, parB, asgB, itemB, augB, exprB, ifB, nilB, Oc.bd, Rg.to, Rg.bd, rdR, dr, slR, unl, varS, valS, rd1S, rd2S, addS, addR, subS, subI, mulS, divS, modS, powS, opI, negS, cmpS, cmpT, chainS, chainT, chainR, andS, orS, notS, ifS, valT, andT, orT, notT, isBl, anil, acons, tupS, lstS, frzR, frz, ixS, onone, osome, sliceS, slcR, optR, Rg.nx, lenS, lenD, absS, intS, intOf, allS, anyS, blsR, bls, listS, tupleS, seqD, isiS, isi2S, noOb_non, noOb_bl, noOb_int, noOb_str, noOb_tup, noOb_lst, cellR, appendS, popAtS, popS, insertS, minTS, maxTS, minmaxR, unI, lenSetS, exitR, gn, gsn, gsc, gt, qLt, qLe, qGt, qGe, qEq, qNe, qIn, qNotIn, qIs, qIsNot, qIsB, qIsNotB, bI, fI, bB, eqB, isN, dInt, dBool, dStr, dLst, dTup, litS, litRs, obR, fldS, conS, runA, runM, Dl.runN, Dl.runL, methS, newOb, makeS, obO, intR, strR, blR, lenOS, reprOS, putD, fldB, forEB, forGoE, propS, mixO, lfC, lfM, repS, maxLS, minLS, maxLR, lcCS, lc2S, aconsX, e]
    have q4 := (set_of (i := 4) x4).trans (c := Oc.nx (E21 A ms none none none none none none) [c1]) rfl
    obtain ⟨E, c2, e5⟩ := turns_21 ok l5 A 6 0 none none none none none none c1 b1
    have it : range1S (valS (.int 6)) (E21 A ms none none none none none none) [c1] = .ok (rgD (0 : Int) 6) [c1] := rgl' (n := 6) rfl (by decide)
    exact ⟨[c2], (seqB_nx q2).trans ((seqB_nx q3).trans ((seqB_nx q4).trans ((seqB_nx (for_it it e5)).trans rfl)))⟩
  obtain ⟨M, e⟩ := key (some (.v (.lst (ns.map .int))))
  refine (defF_ex (l := 11) (rs := [.v (.lst (ns.map .int))]) (m := []) (m' := M) (r := .v (.bl true)) ?_).trans rfl
  refine (seqB_nx (e' := [some (.v (.lst (ns.map .int))), some (.loc 0), none, none, none, none, none, none, none, none, none]) (m' := [.lst bs]) ?_).trans e
  generalize hA : (some (.v (.lst (ns.map .int))) : Option Sl) = A at *
  subst hA
  generalize f__law_bag = F at e0 ⊢
  simp [callS, lcS, lcGo, itS, seqR, Tg.put, Tg.vs, wipeE, noIf, Dl.locs, renO, pickO, idx, wb, nloc, bSh_ii, eqD_ii, defF, retB, retNB, seqB, setB, newB, parB, asgB, itemB, augB, exprB, ifB, nilB, Oc.bd, Rg.to, Rg.bd, rdR, dr, slR, unl, varS, valS, rd1S, rd2S, addS, addR, subS, subI, mulS, divS, modS, powS, opI, negS, cmpS, cmpT, chainS, chainT, chainR, andS, orS, notS, ifS, valT, andT, orT, notT, isBl, anil, acons, tupS, lstS, frzR, frz, ixS, onone, osome, sliceS, slcR, optR, Rg.nx, lenS, lenD, absS, intS, intOf, allS, anyS, blsR, bls, listS, tupleS, seqD, isiS, isi2S, noOb_non, noOb_bl, noOb_int, noOb_str, noOb_tup, noOb_lst, cellR, appendS, popAtS, popS, insertS, minTS, maxTS, minmaxR, unI, lenSetS, exitR, gn, gsn, gsc, gt, qLt, qLe, qGt, qGe, qEq, qNe, qIn, qNotIn, qIs, qIsNot, qIsB, qIsNotB, bI, fI, bB, eqB, isN, dInt, dBool, dStr, dLst, dTup, litS, litRs, obR, fldS, conS, runA, runM, Dl.runN, Dl.runL, methS, newOb, makeS, obO, intR, strR, blR, lenOS, reprOS, putD, fldB, forEB, forGoE, propS, mixO, lfC, lfM, repS, maxLS, minLS, maxLR, lcCS, lc2S, aconsX, e0]
end Lw
namespace Lw
open PySem PySem.Spec PyProof.Rows L2 Dl
def top (i : Nat) : Stmt := PySem.Challenge.pw_stillsides_k21_whole_faces_by_the_direct.main.body.getD i (.Pass ⟨0, 0, 0, 0⟩)
structure Txt (P : Program) (w : World) (K : PySem.W.Frag) (mg : Str → Option Value) (Tb : List NdefX.NTab) (c0 c1 c2 : Value) : Prop where
  b_abs : mg "abs" = none
  b_all : mg "all" = none
  b_bool : mg "bool" = none
  b_enumerate : mg "enumerate" = none
  b_int : mg "int" = none
  b_isinstance : mg "isinstance" = none
  b_len : mg "len" = none
  b_list : mg "list" = none
  b_range : mg "range" = none
  b_set : mg "set" = none
  b_sorted : mg "sorted" = none
  b_str : mg "str" = none
  b_tuple : mg "tuple" = none
  b_zip : mg "zip" = none
  g_MOST_CELLS : GlobD ⟨K, mg, Tb, P, w⟩ "MOST_CELLS" g_MOST_CELLS
  g_ORIGIN : GlobD ⟨K, mg, Tb, P, w⟩ "ORIGIN" g_ORIGIN
  g_REACH : GlobD ⟨K, mg, Tb, P, w⟩ "REACH" g_REACH
  cf_Book_held : CFld K mg "Book" "held"
  cs_Face_key : HasSl K mg "Face" "key"
  cs_Face_own_book : HasSl K mg "Face" "own_book"
  cs_Face_own_direction : HasSl K mg "Face" "own_direction"
  cs_Face_own_left : HasSl K mg "Face" "own_left"
  cs_Face_own_opener : HasSl K mg "Face" "own_opener"
  cs_Face_own_right : HasSl K mg "Face" "own_right"
  kb_KINDS : HasKB P w K mg "KINDS" [((true, true), "both"), ((true, false), "left"), ((false, true), "right"), ((false, false), "never")]
  cc_Book_MOST : CCon ⟨K, mg, Tb, P, w⟩ "Book" "MOST" (.int 5)
/-- the table of the def at hand -/
theorem tb_ {X : Dx} {fd : FuncData} {q : Str} (hc : fd.code = X.env.code) (TB : TabD X.mg X.base X.T fd q) (hq : X.env.qual ++ "<lambda>" = q := by rfl) : TabOf X := by
  obtain ⟨c, Pt, T0, e, t, eT, m, u⟩ := TB
  subst hq
  exact ⟨c, Pt, T0, t, hc.symm.trans e, eT, m, u⟩
noncomputable section
variable {P : Program} {w : World} {K : PySem.W.Frag} {mg : Str → Option Value} {base : Heap} {Tb : List NdefX.NTab} {c0 c1 c2 : Value}
abbrev i_TooMany : Stmt := cItem (top 5) 0
def xd_TooMany : XD := ⟨"TooMany", defArgs i_TooMany, defBody i_TooMany, defScope i_TooMany, false⟩
theorem xs_TooMany : XScope ["self", "most"] (defScope i_TooMany) := ⟨by decide, rfl, rfl, rfl, by decide +kernel, by decide +kernel, fun x h => PyScopeFree h (by decide +kernel), rfl, rfl, look2 (by decide)⟩
theorem hx_TooMany {flds : List Str} (hf : flds.contains "tag" = true ∧ flds.contains "most" = true) {h : Heap} (X : K.In h) (G : h.Ns mainGlobals mg) (e : exB P flds K "TooMany" = true) (ef : fnE K "TooMany" = xd_TooMany.val) (hsg : mg "super" = none) (htop : (P.main.scope.names.lookup ("super" : Str)).isSome = false) : HasX P w K mg base "TooMany" 1 1 mk_TooMany := by
  obtain ⟨C, fI, cc, cda, kV, doc, pm, ct, oc, an, od, osl, hm, XC, XF, iC, tI, hfl', hcd, lk⟩ := exB_ok (d := xd_TooMany) X G e ef
  have hfl : ∀ n, n = "tag" ∨ n = "most" → PySem.W.findIn K (.ref C) n = some none := fun n hn => hn.elim (fun z => hfl' n (by rw [z]; exact hf.1)) (fun z => hfl' n (by rw [z]; exact hf.2))
  refine ⟨C, fI, _, ["self", "most"], fun us => us.map (fun u => (("most" : Str), u)) ++ [(("tag" : Str), V.str "TooMany")], xinit (k := 0) (n := 1) (fun _ => rfl) (fun _ => rfl) xs_TooMany XC lk hcd rfl rfl rfl hsg htop (fun A outer s0 H a us Q hl ha hq => xrest2 XC.oex (hfl _ (.inl rfl)) (hfl _ (.inr rfl)) xs_TooMany (by decide) (by decide) (by decide) (by decide) hl ha hq), hm, XC.oex, iC, tI, Binds.all (fun us hl => match us, hl with | [_, _], _ => rfl), by decide, fun Tb G us ds r => by unfold mk_TooMany; exact repf_map r⟩
abbrev i_InvalidShape : Stmt := cItem (top 3) 0
def xd_InvalidShape : XD := ⟨"InvalidShape", defArgs i_InvalidShape, defBody i_InvalidShape, defScope i_InvalidShape, false⟩
theorem xs_InvalidShape : XScope ["self", "index"] (defScope i_InvalidShape) := ⟨by decide, rfl, rfl, rfl, by decide +kernel, by decide +kernel, fun x h => PyScopeFree h (by decide +kernel), rfl, rfl, look2 (by decide)⟩
theorem hx_InvalidShape {flds : List Str} (hf : flds.contains "tag" = true ∧ flds.contains "index" = true) {h : Heap} (X : K.In h) (G : h.Ns mainGlobals mg) (e : exB P flds K "InvalidShape" = true) (ef : fnE K "InvalidShape" = xd_InvalidShape.val) (hsg : mg "super" = none) (htop : (P.main.scope.names.lookup ("super" : Str)).isSome = false) : HasX P w K mg base "InvalidShape" 1 1 mk_InvalidShape := by
  obtain ⟨C, fI, cc, cda, kV, doc, pm, ct, oc, an, od, osl, hm, XC, XF, iC, tI, hfl', hcd, lk⟩ := exB_ok (d := xd_InvalidShape) X G e ef
  have hfl : ∀ n, n = "tag" ∨ n = "index" → PySem.W.findIn K (.ref C) n = some none := fun n hn => hn.elim (fun z => hfl' n (by rw [z]; exact hf.1)) (fun z => hfl' n (by rw [z]; exact hf.2))
  refine ⟨C, fI, _, ["self", "index"], fun us => us.map (fun u => (("index" : Str), u)) ++ [(("tag" : Str), V.str "InvalidShape")], xinit (k := 0) (n := 1) (fun _ => rfl) (fun _ => rfl) xs_InvalidShape XC lk hcd rfl rfl rfl hsg htop (fun A outer s0 H a us Q hl ha hq => xrest2 XC.oex (hfl _ (.inl rfl)) (hfl _ (.inr rfl)) xs_InvalidShape (by decide) (by decide) (by decide) (by decide) hl ha hq), hm, XC.oex, iC, tI, Binds.all (fun us hl => match us, hl with | [_, _], _ => rfl), by decide, fun Tb G us ds r => by unfold mk_InvalidShape; exact repf_map r⟩
abbrev i_DuplicateShape : Stmt := cItem (top 4) 0
def xd_DuplicateShape : XD := ⟨"DuplicateShape", defArgs i_DuplicateShape, defBody i_DuplicateShape, defScope i_DuplicateShape, false⟩
theorem xs_DuplicateShape : XScope ["self", "index"] (defScope i_DuplicateShape) := ⟨by decide, rfl, rfl, rfl, by decide +kernel, by decide +kernel, fun x h => PyScopeFree h (by decide +kernel), rfl, rfl, look2 (by decide)⟩
theorem hx_DuplicateShape {flds : List Str} (hf : flds.contains "tag" = true ∧ flds.contains "index" = true) {h : Heap} (X : K.In h) (G : h.Ns mainGlobals mg) (e : exB P flds K "DuplicateShape" = true) (ef : fnE K "DuplicateShape" = xd_DuplicateShape.val) (hsg : mg "super" = none) (htop : (P.main.scope.names.lookup ("super" : Str)).isSome = false) : HasX P w K mg base "DuplicateShape" 1 1 mk_DuplicateShape := by
  obtain ⟨C, fI, cc, cda, kV, doc, pm, ct, oc, an, od, osl, hm, XC, XF, iC, tI, hfl', hcd, lk⟩ := exB_ok (d := xd_DuplicateShape) X G e ef
  have hfl : ∀ n, n = "tag" ∨ n = "index" → PySem.W.findIn K (.ref C) n = some none := fun n hn => hn.elim (fun z => hfl' n (by rw [z]; exact hf.1)) (fun z => hfl' n (by rw [z]; exact hf.2))
  refine ⟨C, fI, _, ["self", "index"], fun us => us.map (fun u => (("index" : Str), u)) ++ [(("tag" : Str), V.str "DuplicateShape")], xinit (k := 0) (n := 1) (fun _ => rfl) (fun _ => rfl) xs_DuplicateShape XC lk hcd rfl rfl rfl hsg htop (fun A outer s0 H a us Q hl ha hq => xrest2 XC.oex (hfl _ (.inl rfl)) (hfl _ (.inr rfl)) xs_DuplicateShape (by decide) (by decide) (by decide) (by decide) hl ha hq), hm, XC.oex, iC, tI, Binds.all (fun us hl => match us, hl with | [_, _], _ => rfl), by decide, fun Tb G us ds r => by unfold mk_DuplicateShape; exact repf_map r⟩
abbrev i_InvalidDirection : Stmt := cItem (top 6) 0
def xd_InvalidDirection : XD := ⟨"InvalidDirection", defArgs i_InvalidDirection, defBody i_InvalidDirection, defScope i_InvalidDirection, false⟩
theorem xs_InvalidDirection : XScope ["self", "given"] (defScope i_InvalidDirection) := ⟨by decide, rfl, rfl, rfl, by decide +kernel, by decide +kernel, fun x h => PyScopeFree h (by decide +kernel), rfl, rfl, look2 (by decide)⟩
theorem hx_InvalidDirection {flds : List Str} (hf : flds.contains "tag" = true ∧ flds.contains "given" = true) {h : Heap} (X : K.In h) (G : h.Ns mainGlobals mg) (e : exB P flds K "InvalidDirection" = true) (ef : fnE K "InvalidDirection" = xd_InvalidDirection.val) (hsg : mg "super" = none) (htop : (P.main.scope.names.lookup ("super" : Str)).isSome = false) : HasX P w K mg base "InvalidDirection" 1 1 mk_InvalidDirection := by
  obtain ⟨C, fI, cc, cda, kV, doc, pm, ct, oc, an, od, osl, hm, XC, XF, iC, tI, hfl', hcd, lk⟩ := exB_ok (d := xd_InvalidDirection) X G e ef
  have hfl : ∀ n, n = "tag" ∨ n = "given" → PySem.W.findIn K (.ref C) n = some none := fun n hn => hn.elim (fun z => hfl' n (by rw [z]; exact hf.1)) (fun z => hfl' n (by rw [z]; exact hf.2))
  refine ⟨C, fI, _, ["self", "given"], fun us => us.map (fun u => (("given" : Str), u)) ++ [(("tag" : Str), V.str "InvalidDirection")], xinit (k := 0) (n := 1) (fun _ => rfl) (fun _ => rfl) xs_InvalidDirection XC lk hcd rfl rfl rfl hsg htop (fun A outer s0 H a us Q hl ha hq => xrest2 XC.oex (hfl _ (.inl rfl)) (hfl _ (.inr rfl)) xs_InvalidDirection (by decide) (by decide) (by decide) (by decide) hl ha hq), hm, XC.oex, iC, tI, Binds.all (fun us hl => match us, hl with | [_, _], _ => rfl), by decide, fun Tb G us ds r => by unfold mk_InvalidDirection; exact repf_map r⟩
abbrev i_InvalidIndex : Stmt := cItem (top 7) 0
def xd_InvalidIndex : XD := ⟨"InvalidIndex", defArgs i_InvalidIndex, defBody i_InvalidIndex, defScope i_InvalidIndex, false⟩
theorem xs_InvalidIndex : XScope ["self", "given"] (defScope i_InvalidIndex) := ⟨by decide, rfl, rfl, rfl, by decide +kernel, by decide +kernel, fun x h => PyScopeFree h (by decide +kernel), rfl, rfl, look2 (by decide)⟩
theorem hx_InvalidIndex {flds : List Str} (hf : flds.contains "tag" = true ∧ flds.contains "given" = true) {h : Heap} (X : K.In h) (G : h.Ns mainGlobals mg) (e : exB P flds K "InvalidIndex" = true) (ef : fnE K "InvalidIndex" = xd_InvalidIndex.val) (hsg : mg "super" = none) (htop : (P.main.scope.names.lookup ("super" : Str)).isSome = false) : HasX P w K mg base "InvalidIndex" 1 1 mk_InvalidIndex := by
  obtain ⟨C, fI, cc, cda, kV, doc, pm, ct, oc, an, od, osl, hm, XC, XF, iC, tI, hfl', hcd, lk⟩ := exB_ok (d := xd_InvalidIndex) X G e ef
  have hfl : ∀ n, n = "tag" ∨ n = "given" → PySem.W.findIn K (.ref C) n = some none := fun n hn => hn.elim (fun z => hfl' n (by rw [z]; exact hf.1)) (fun z => hfl' n (by rw [z]; exact hf.2))
  refine ⟨C, fI, _, ["self", "given"], fun us => us.map (fun u => (("given" : Str), u)) ++ [(("tag" : Str), V.str "InvalidIndex")], xinit (k := 0) (n := 1) (fun _ => rfl) (fun _ => rfl) xs_InvalidIndex XC lk hcd rfl rfl rfl hsg htop (fun A outer s0 H a us Q hl ha hq => xrest2 XC.oex (hfl _ (.inl rfl)) (hfl _ (.inr rfl)) xs_InvalidIndex (by decide) (by decide) (by decide) (by decide) hl ha hq), hm, XC.oex, iC, tI, Binds.all (fun us hl => match us, hl with | [_, _], _ => rfl), by decide, fun Tb G us ds r => by unfold mk_InvalidIndex; exact repf_map r⟩
abbrev s__law_bag : Stmt := top 42
theorem sc__law_bag : FnScope ["_law_script", "_law_salt", "_law_part_z"] ["_law_script"] (defScope s__law_bag) := ⟨rfl, rfl, rfl, by decide +kernel, rfl, by decide +kernel, by decide +kernel⟩
theorem ok__law_bag {f : Addr} {fd : FuncData} (Fn : FunX K "_law_bag" "_law_bag" s__law_bag f fd) (T : Txt P w K mg Tb c0 c1 c2)  : FnOk P w K mg base (L2.CX P w) 1 f fd ["_law_script"] (spG ⟨K, mg, Tb, P, w⟩ 1 (FR f__law_bag)) := by
  refine def_ok Fn sc__law_bag rfl rfl (fun cdv A outer s H E I W hr tk => ?_)
  have hu := room_hu hr
  have hv := room_hv hr
  exact (by refine sb_cons (ss_set 1 se_int sc__law_bag.nd) ?_; refine sb_cons (ss_for (passes_of rfl) rfl (sg_name 2 sc__law_bag.nd) (si_seq (se_slice (se_var 0) so_none (so_some se_int))) (by refine sb_cons (ss_set 1 (se_mod (se_intOf T.b_int (se_add (se_add (se_mul (se_var 1) se_int) (se_mod (se_intOf T.b_int (se_var 2)) se_int)) se_int)) se_int) sc__law_bag.nd) ?_; exact sb_nil)) ?_; exact sb_one (ss_ret (by refine se_lst ?_; exact (by refine @sa_cons _ _ _ _ _ _ (se_list T.b_list (se_slice (se_var 0) so_none (so_some se_int))) ?_ rfl; refine @sa_cons _ _ _ _ _ _ se_int ?_ rfl; refine @sa_cons _ _ _ _ _ _ se_int ?_ rfl; refine @sa_cons _ _ _ _ _ _ (se_var 1) ?_ rfl; exact sa_nil))))
abbrev s__law_pull : Stmt := top 43
theorem sc__law_pull : FnScope ["_law_bag_here", "_law_amount", "_law_part_z", "_law_got", "_law_seed"] ["_law_bag_here", "_law_amount"] (defScope s__law_pull) := ⟨rfl, rfl, rfl, by decide +kernel, rfl, by decide +kernel, by decide +kernel⟩
theorem ok__law_pull {f : Addr} {fd : FuncData} (Fn : FunX K "_law_pull" "_law_pull" s__law_pull f fd) (T : Txt P w K mg Tb c0 c1 c2)  : FnOk P w K mg base (L2.CX P w) 1 f fd ["_law_bag_here", "_law_amount"] (spG ⟨K, mg, Tb, P, w⟩ 2 (FR f__law_pull)) := by
  refine def_ok Fn sc__law_pull rfl rfl (fun cdv A outer s H E I W hr tk => ?_)
  have hu := room_hu hr
  have hv := room_hv hr
  exact (by refine sb_cons (ss_if (st_bool (sw_and (st_cmp (oEq hu) (se_ix (se_var 0) se_int) se_int) (sw_and1 (st_cmp oLt (se_ix (se_var 0) se_int) (se_len T.b_len (se_ix (se_var 0) se_int)))))) (by refine sb_cons (ss_set 2 (se_ix (se_ix (se_var 0) se_int) (se_ix (se_var 0) se_int)) sc__law_pull.nd) ?_; refine sb_cons (ss_item (se_add (se_ix (se_var 0) se_int) se_int) (se_var 0) se_int) ?_; refine sb_cons (ss_if (st_cmp oGe (se_var 2) (se_pow se_int se_int)) (by refine sb_cons (ss_item (se_var 2) (se_var 0) se_int) ?_; exact sb_nil) (by refine sb_cons (ss_item (se_mod (se_intOf T.b_int (se_add (se_add (se_mul (se_ix (se_var 0) se_int) se_int) (se_mul (se_mod (se_intOf T.b_int (se_var 2)) se_int) se_int)) se_int)) se_int) (se_var 0) se_int) ?_; exact sb_nil)) ?_; exact sb_nil) sb_nil) ?_; refine sb_cons (ss_if (st_cmp oGt (se_ix (se_var 0) se_int) se_int) (by refine sb_cons (ss_set 3 (se_mod (se_intOf T.b_int (se_ix (se_var 0) se_int)) (se_var 1)) sc__law_pull.nd) ?_; refine sb_cons (ss_item (se_div (se_ix (se_var 0) se_int) (se_var 1)) (se_var 0) se_int) ?_; exact sb_one (ss_ret (se_var 3))) sb_nil) ?_; refine sb_cons (ss_set 4 (se_ix (se_var 0) se_int) sc__law_pull.nd) ?_; refine sb_cons (ss_item (se_mod (se_intOf T.b_int (se_add (se_add (se_mul (se_var 4) (se_var 4)) (se_mul (se_var 4) se_int)) se_int)) se_int) (se_var 0) se_int) ?_; exact sb_one (ss_ret (se_mod (se_intOf T.b_int (se_add (se_div (se_ix (se_var 0) se_int) se_int) (se_mul (se_mod (se_intOf T.b_int (se_ix (se_var 0) se_int)) se_int) se_int))) (se_var 1))))
abbrev s__law_near : Stmt := top 50
theorem sc__law_near : FnScope ["_law_size", "_law_found", "_law_x", "_law_y"] ["_law_size"] (defScope s__law_near) := ⟨rfl, rfl, rfl, by decide +kernel, rfl, by decide +kernel, by decide +kernel⟩
theorem ok__law_near {f : Addr} {fd : FuncData} (Fn : FunX K "_law_near" "_law_near" s__law_near f fd) (T : Txt P w K mg Tb c0 c1 c2)  : FnOk P w K mg base (L2.CX P w) 1 f fd ["_law_size"] (spG ⟨K, mg, Tb, P, w⟩ 1 (FR f__law_near)) := by
  refine def_ok Fn sc__law_near rfl rfl (fun cdv A outer s H E I W hr tk => ?_)
  have hu := room_hu hr
  have hv := room_hv hr
  exact (by refine sb_cons (ss_new 1 (se_lit rfl) sc__law_near.nd) ?_; refine sb_cons (ss_for (passes_of rfl) rfl (sg_name 2 sc__law_near.nd) (si_range2 T.b_range (se_neg (se_var 0)) (se_add (se_var 0) se_int)) (by refine sb_cons (ss_new 1 (se_add (se_var 1) (se_lc (.one 3) [("_law_y", 3)] rfl sc__law_near.nd (by decide) (si_range2 T.b_range (se_neg (se_var 0)) (se_add (se_var 0) se_int)) (fun _ _ _ _ _ => sts_one (st_cmp (oNe hu) (se_tup (sa_cons (se_var 2) (sa_cons (se_var 3) sa_nil rfl) rfl)) (se_lit rfl))) (fun _ _ _ _ _ => (se_tup (sa_cons (se_var 2) (sa_cons (se_var 3) sa_nil rfl) rfl))) (blkOk_by (N := ["_law_size", "_law_found", "_law_x", "_law_y"]) (sc := defScope s__law_near) (by decide +kernel)) (fun _ _ _ _ _ => pg_name sc__law_near.nd rfl (by first | exact .inl rfl | exact .inr rfl) (by first | exact .inl rfl | exact .inr rfl)))) sc__law_near.nd) ?_; exact sb_nil)) ?_; exact sb_one (ss_ret (se_var 1)))
abbrev s__law_shape : Stmt := top 51
theorem sc__law_shape : FnScope ["_law_bag_here", "_law_pool", "_law_found", "_law_k"] ["_law_bag_here"] (defScope s__law_shape) := ⟨rfl, rfl, rfl, by decide +kernel, rfl, by decide +kernel, by decide +kernel⟩
theorem ok__law_shape {f : Addr} {fd : FuncData} (Fn : FunX K "_law_shape" "_law_shape" s__law_shape f fd) (T : Txt P w K mg Tb c0 c1 c2) (h__law_pull : HasF P w K mg Tb base "_law_pull" 1 2 (FR f__law_pull)) (h__law_near : HasF P w K mg Tb base "_law_near" 1 1 (FR f__law_near)) : FnOk P w K mg base (L2.CX P w) 2 f fd ["_law_bag_here"] (spG ⟨K, mg, Tb, P, w⟩ 1 (FR f__law_shape)) := by
  refine def_ok Fn sc__law_shape rfl rfl (fun cdv A outer s H E I W hr tk => ?_)
  have hu := room_hu hr
  have hv := room_hv hr
  exact (by refine sb_cons (ss_par 1 2 (by refine @sa_consC _ _ _ _ _ _ (se_call tk h__law_near (hr.mono (by decide)) (sa_cons (se_add se_int (se_intOf T.b_int (se_cmp (oEq hu) (se_call tk h__law_pull (hr.mono (by decide)) (sa_cons (se_var 0) (sa_cons se_int sa_nil rfl) rfl) rfl (by decide) rfl rfl) se_int))) sa_nil rfl) rfl (by decide) rfl rfl) ?_ rfl; refine @sa_consC _ _ _ _ _ _ (se_lit rfl) ?_ rfl; exact sa_nil) rfl sc__law_shape.nd (by decide) rfl) ?_; refine sb_cons (ss_for (passes_of rfl) rfl (sg_name 3 sc__law_shape.nd) (si_range1 T.b_range (se_add se_int (se_call tk h__law_pull (hr.mono (by decide)) (sa_cons (se_var 0) (sa_cons se_int sa_nil rfl) rfl) rfl (by decide) rfl rfl))) (by refine sb_cons (ss_expr (se_append (se_var 2) (se_popAt (se_var 1) (se_call tk h__law_pull (hr.mono (by decide)) (sa_cons (se_var 0) (sa_cons (se_len T.b_len (se_var 1)) sa_nil rfl) rfl) rfl (by decide) rfl rfl)))) ?_; exact sb_nil)) ?_; exact sb_one (ss_ret (se_var 2)))
abbrev s__law_model : Stmt := top 52
theorem sc__law_model : FnScope ["_law_bag_here", "_law_most", "_law_way_here", "_law_found", "_law_k", "_law_shape_here", "_law_one"] ["_law_bag_here", "_law_most"] (defScope s__law_model) := ⟨rfl, rfl, rfl, by decide +kernel, rfl, by decide +kernel, by decide +kernel⟩
theorem ok__law_model {f : Addr} {fd : FuncData} (Fn : FunX K "_law_model" "_law_model" s__law_model f fd) (T : Txt P w K mg Tb c0 c1 c2) (h__law_pull : HasF P w K mg Tb base "_law_pull" 1 2 (FR f__law_pull)) (h__law_shape : HasF P w K mg Tb base "_law_shape" 2 1 (FR f__law_shape)) : FnOk P w K mg base (L2.CX P w) 3 f fd ["_law_bag_here", "_law_most"] (spG ⟨K, mg, Tb, P, w⟩ 2 (FR f__law_model)) := by
  refine def_ok Fn sc__law_model rfl rfl (fun cdv A outer s H E I W hr tk => ?_)
  have hu := room_hu hr
  have hv := room_hv hr
  exact (by refine sb_cons (ss_set 2 (se_call tk h__law_pull (hr.mono (by decide)) (sa_cons (se_var 0) (sa_cons se_int sa_nil rfl) rfl) rfl (by decide) rfl rfl) sc__law_model.nd) ?_; refine sb_cons (ss_new 3 (se_lit rfl) sc__law_model.nd) ?_; refine sb_cons (ss_if (st_cmp (oEq hu) (se_var 2) se_int) (by refine sb_cons (ss_new 3 (se_lit rfl) sc__law_model.nd) ?_; exact sb_nil) sb_nil) ?_; refine sb_cons (ss_if (st_cmp (oEq hu) (se_var 2) se_int) (by refine sb_cons (ss_new 3 (se_lit rfl) sc__law_model.nd) ?_; exact sb_nil) sb_nil) ?_; refine sb_cons (ss_if (st_cmp (oEq hu) (se_var 2) se_int) (by refine sb_cons (ss_new 3 (se_lit rfl) sc__law_model.nd) ?_; exact sb_nil) sb_nil) ?_; refine sb_cons (ss_if (st_cmp (oEq hu) (se_var 2) se_int) (by refine sb_cons (ss_new 3 (se_lit rfl) sc__law_model.nd) ?_; exact sb_nil) sb_nil) ?_; refine sb_cons (ss_new 3 (se_slice (se_var 3) so_none (so_some (se_var 1))) sc__law_model.nd) ?_; refine sb_cons (ss_if (st_bool (sw_and (st_cmp oLt (se_var 2) se_int) (sw_and1 (st_cmp (oEq hu) (se_call tk h__law_pull (hr.mono (by decide)) (sa_cons (se_var 0) (sa_cons se_int sa_nil rfl) rfl) rfl (by decide) rfl rfl) se_int)))) (by exact sb_one (ss_ret (se_var 3))) sb_nil) ?_; refine sb_cons (ss_for (passes_of rfl) rfl (sg_name 4 sc__law_model.nd) (si_range1 T.b_range (se_call tk h__law_pull (hr.mono (by decide)) (sa_cons (se_var 0) (sa_cons (se_add (se_var 1) se_int) sa_nil rfl) rfl) rfl (by decide) rfl rfl)) (by refine sb_cons (ss_set 5 (se_call tk h__law_shape (hr.mono (by decide)) (sa_cons (se_var 0) sa_nil rfl) rfl (by decide) rfl rfl) sc__law_model.nd) ?_; refine sb_cons (ss_if (st_bool (sw_and (st_cmp oLt (se_len T.b_len (se_var 3)) (se_var 1)) (sw_and1 (st_cmp (oNotIn hu) (se_sorted hv T.b_sorted (se_var 5)) (se_lcC (.one 6) [("_law_one", 6)] rfl sc__law_model.nd (by decide) (se_var 3) (fun _ _ _ _ _ => sts_nil) (fun _ _ _ _ _ => (se_sorted hv T.b_sorted (se_var 6))) (blkOk_by (N := ["_law_bag_here", "_law_most", "_law_way_here", "_law_found", "_law_k", "_law_shape_here", "_law_one"]) (sc := defScope s__law_model) (by decide +kernel)) (fun _ _ _ _ _ => pg_name sc__law_model.nd rfl (by first | exact .inl rfl | exact .inr rfl) (by first | exact .inl rfl | exact .inr rfl))))))) (by refine sb_cons (ss_expr (se_append (se_var 3) (se_var 5))) ?_; exact sb_nil) sb_nil) ?_; exact sb_nil)) ?_; exact sb_one (ss_ret (se_var 3)))
abbrev s_is_listed : Stmt := top 14
theorem sc_is_listed : FnScope ["value"] ["value"] (defScope s_is_listed) := ⟨rfl, rfl, rfl, by decide +kernel, rfl, by decide +kernel, by decide +kernel⟩
theorem ok_is_listed {f : Addr} {fd : FuncData} (Fn : FunX K "is_listed" "is_listed" s_is_listed f fd) (T : Txt P w K mg Tb c0 c1 c2)  : FnOk P w K mg base (L2.CX P w) 1 f fd ["value"] (spG ⟨K, mg, Tb, P, w⟩ 1 (FR f_is_listed)) := by
  refine def_ok Fn sc_is_listed rfl rfl (fun cdv A outer s H E I W hr tk => ?_)
  have hu := room_hu hr
  have hv := room_hv hr
  exact (by exact sb_one (ss_ret (se_isi2 it_list it_tuple (by decide +kernel) (by decide +kernel) T.b_isinstance T.b_list T.b_tuple (se_var 0))))
abbrev s_is_number : Stmt := top 12
theorem sc_is_number : FnScope ["value"] ["value"] (defScope s_is_number) := ⟨rfl, rfl, rfl, by decide +kernel, rfl, by decide +kernel, by decide +kernel⟩
theorem ok_is_number {f : Addr} {fd : FuncData} (Fn : FunX K "is_number" "is_number" s_is_number f fd) (T : Txt P w K mg Tb c0 c1 c2)  : FnOk P w K mg base (L2.CX P w) 1 f fd ["value"] (spG ⟨K, mg, Tb, P, w⟩ 1 (FR f_is_number)) := by
  refine def_ok Fn sc_is_number rfl rfl (fun cdv A outer s H E I W hr tk => ?_)
  have hu := room_hu hr
  have hv := room_hv hr
  exact (by exact sb_one (ss_ret (se_and (se_isi it_int (by decide +kernel) T.b_isinstance T.b_int (se_var 0)) (se_last (se_not (se_isi it_bool (by decide +kernel) T.b_isinstance T.b_bool (se_var 0)))))))
abbrev s_is_cell : Stmt := top 15
theorem sc_is_cell : FnScope ["value"] ["value"] (defScope s_is_cell) := ⟨rfl, rfl, rfl, by decide +kernel, rfl, by decide +kernel, by decide +kernel⟩
theorem ok_is_cell {f : Addr} {fd : FuncData} (Fn : FunX K "is_cell" "is_cell" s_is_cell f fd) (T : Txt P w K mg Tb c0 c1 c2) (h_is_number : HasF P w K mg Tb base "is_number" 1 1 (FR f_is_number)) : FnOk P w K mg base (L2.CX P w) 2 f fd ["value"] (spG ⟨K, mg, Tb, P, w⟩ 1 (FR f_is_cell)) := by
  refine def_ok Fn sc_is_cell rfl rfl (fun cdv A outer s H E I W hr tk => ?_)
  have hu := room_hu hr
  have hv := room_hv hr
  exact (by exact sb_one (ss_ret (se_and (se_isi it_tuple (by decide +kernel) T.b_isinstance T.b_tuple (se_var 0)) (se_and (se_cmp (oEq hu) (se_len T.b_len (se_var 0)) se_int) (se_and (se_call tk h_is_number (hr.mono (by decide)) (sa_cons (se_ix (se_var 0) se_int) sa_nil rfl) rfl (by decide) rfl rfl) (se_last (se_call tk h_is_number (hr.mono (by decide)) (sa_cons (se_ix (se_var 0) se_int) sa_nil rfl) rfl (by decide) rfl rfl)))))))
abbrev s_is_within : Stmt := top 13
theorem sc_is_within : FnScope ["value", "least", "most"] ["value", "least", "most"] (defScope s_is_within) := ⟨rfl, rfl, rfl, by decide +kernel, rfl, by decide +kernel, by decide +kernel⟩
theorem ok_is_within {f : Addr} {fd : FuncData} (Fn : FunX K "is_within" "is_within" s_is_within f fd) (T : Txt P w K mg Tb c0 c1 c2) (h_is_number : HasF P w K mg Tb base "is_number" 1 1 (FR f_is_number)) : FnOk P w K mg base (L2.CX P w) 2 f fd ["value", "least", "most"] (spG ⟨K, mg, Tb, P, w⟩ 3 (FR f_is_within)) := by
  refine def_ok Fn sc_is_within rfl rfl (fun cdv A outer s H E I W hr tk => ?_)
  have hu := room_hu hr
  have hv := room_hv hr
  exact (by exact sb_one (ss_ret (se_and (se_call tk h_is_number (hr.mono (by decide)) (sa_cons (se_var 0) sa_nil rfl) rfl (by decide) rfl rfl) (se_last (se_chain oLe oLe (se_var 1) (se_var 0) (se_var 2))))))
abbrev s_is_near : Stmt := top 16
theorem sc_is_near : FnScope ["value", "part"] ["value"] (defScope s_is_near) := ⟨rfl, rfl, rfl, by decide +kernel, rfl, by decide +kernel, by decide +kernel⟩
theorem ok_is_near {f : Addr} {fd : FuncData} (Fn : FunX K "is_near" "is_near" s_is_near f fd) (T : Txt P w K mg Tb c0 c1 c2) (h_is_cell : HasF P w K mg Tb base "is_cell" 2 1 (FR f_is_cell)) (h_is_within : HasF P w K mg Tb base "is_within" 2 3 (FR f_is_within)) : FnOk P w K mg base (L2.CX P w) 3 f fd ["value"] (spG ⟨K, mg, Tb, P, w⟩ 1 (FR f_is_near)) := by
  refine def_ok Fn sc_is_near rfl rfl (fun cdv A outer s H E I W hr tk => ?_)
  have hu := room_hu hr
  have hv := room_hv hr
  exact (by exact sb_one (ss_ret (se_and (se_call tk h_is_cell (hr.mono (by decide)) (sa_cons (se_var 0) sa_nil rfl) rfl (by decide) rfl rfl) (se_and (se_cmp (oNe hu) (se_var 0) (se_glob T.g_ORIGIN)) (se_last (se_all rfl T.b_all (se_lc (.one 1) [("part", 1)] rfl sc_is_near.nd (by decide) (si_seq (se_var 0)) (fun _ _ _ _ _ => sts_nil) (fun _ _ _ _ _ => (se_call tkNo h_is_within (hr.mono (by decide)) (sa_cons (se_var 1) (sa_cons (se_neg (se_glob T.g_REACH)) (sa_cons (se_glob T.g_REACH) sa_nil rfl) rfl) rfl) rfl (by decide) rfl rfl)) (blkOk_by (N := ["value", "part"]) (sc := defScope s_is_near) (by decide +kernel)) (fun _ _ _ _ _ => pg_name sc_is_near.nd rfl (by first | exact .inl rfl | exact .inr rfl) (by first | exact .inl rfl | exact .inr rfl)))))))))
abbrev s_is_shape : Stmt := top 17
theorem sc_is_shape : FnScope ["value", "cell"] ["value"] (defScope s_is_shape) := ⟨rfl, rfl, rfl, by decide +kernel, rfl, by decide +kernel, by decide +kernel⟩
theorem ok_is_shape {f : Addr} {fd : FuncData} (Fn : FunX K "is_shape" "is_shape" s_is_shape f fd) (T : Txt P w K mg Tb c0 c1 c2) (h_is_listed : HasF P w K mg Tb base "is_listed" 1 1 (FR f_is_listed)) (h_is_near : HasF P w K mg Tb base "is_near" 3 1 (FR f_is_near)) : FnOk P w K mg base (L2.CX P w) 4 f fd ["value"] (spG ⟨K, mg, Tb, P, w⟩ 1 (FR f_is_shape)) := by
  refine def_ok Fn sc_is_shape rfl rfl (fun cdv A outer s H E I W hr tk => ?_)
  have hu := room_hu hr
  have hv := room_hv hr
  exact (by refine sb_cons (ss_if (st_bool (sw_or (st_not (st_val (se_call tk h_is_listed (hr.mono (by decide)) (sa_cons (se_var 0) sa_nil rfl) rfl (by decide) rfl rfl))) (sw_or1 (st_not (st_chain oLe oLe se_int (se_len T.b_len (se_var 0)) (se_glob T.g_MOST_CELLS)))))) (by exact sb_one (ss_ret se_bl)) sb_nil) ?_; exact sb_one (ss_ret (se_and (se_all rfl T.b_all (se_lc (.one 1) [("cell", 1)] rfl sc_is_shape.nd (by decide) (si_seq (se_var 0)) (fun _ _ _ _ _ => sts_nil) (fun _ _ _ _ _ => (se_call tkNo h_is_near (hr.mono (by decide)) (sa_cons (se_var 1) sa_nil rfl) rfl (by decide) rfl rfl)) (blkOk_by (N := ["value", "cell"]) (sc := defScope s_is_shape) (by decide +kernel)) (fun _ _ _ _ _ => pg_name sc_is_shape.nd rfl (by first | exact .inl rfl | exact .inr rfl) (by first | exact .inl rfl | exact .inr rfl)))) (se_last (se_cmp (oEq hu) (se_lenSet rfl hu T.b_len T.b_set (se_var 0)) (se_len T.b_len (se_var 0)))))))
abbrev s_Book___init__ : Stmt := inClass (top 29) 3
theorem sc_Book___init__ : FnScope ["self", "shapes", "given", "index", "shape", "found"] ["self", "shapes"] (defScope s_Book___init__) := ⟨rfl, rfl, rfl, by decide +kernel, rfl, by decide +kernel, by decide +kernel⟩
theorem ok_Book___init__ {f : Addr} {fd : FuncData} (Fn : FunX K "__init__" "Book.__init__" s_Book___init__ f fd) (T : Txt P w K mg Tb c0 c1 c2) (h_is_shape : HasF P w K mg Tb base "is_shape" 4 1 (FR f_is_shape)) (hx_TooMany : HasX P w K mg base "TooMany" 1 1 mk_TooMany) (hx_InvalidShape : HasX P w K mg base "InvalidShape" 1 1 mk_InvalidShape) (hx_DuplicateShape : HasX P w K mg base "DuplicateShape" 1 1 mk_DuplicateShape) : FnOk P w K mg base (L2.CX P w) 5 f fd ["self", "shapes"] (spG ⟨K, mg, Tb, P, w⟩ 2 (FR f_Book___init__)) := by
  refine def_ok Fn sc_Book___init__ rfl rfl (fun cdv A outer s H E I W hr tk => ?_)
  have hu := room_hu hr
  have hv := room_hv hr
  exact (by refine sb_cons (ss_set 2 (se_list T.b_list (se_var 1)) sc_Book___init__.nd) ?_; refine sb_cons (ss_if (st_cmp oGt (se_len T.b_len (se_var 2)) (se_con (tb_cons (T.cc_Book_MOST) (fun _ _ h_ => nomatch h_)) (se_var 0))) (by exact sb_one (ss_raise tk hx_TooMany (hr.mono (by decide)) rfl (sa_cons (se_con (tb_cons (T.cc_Book_MOST) (fun _ _ h_ => nomatch h_)) (se_var 0)) sa_nil rfl) rfl (by decide) rfl rfl)) sb_nil) ?_; refine sb_cons (ss_for (passes_of rfl) rfl (sg_tup rfl (sgs_cons (sg_name 3 sc_Book___init__.nd) (sgs_cons (sg_name 4 sc_Book___init__.nd) sgs_nil))) (si_enum T.b_enumerate (se_var 2)) (by refine sb_cons (ss_if (st_not (st_val (se_call tk h_is_shape (hr.mono (by decide)) (sa_cons (se_var 4) sa_nil rfl) rfl (by decide) rfl rfl))) (by exact sb_one (ss_raise tk hx_InvalidShape (hr.mono (by decide)) rfl (sa_cons (se_var 3) sa_nil rfl) rfl (by decide) rfl rfl)) sb_nil) ?_; exact sb_nil)) ?_; refine sb_cons (ss_setLc 5 (.one 4) [("shape", 4)] rfl sc_Book___init__.nd (by decide) (si_seq (se_var 2)) (fun _ _ _ _ _ => sts_nil) (fun _ _ _ _ _ => (se_tupleOf T.b_tuple (se_sorted hv T.b_sorted (se_var 4)))) (blkOk_by (N := ["self", "shapes", "given", "index", "shape", "found"]) (sc := defScope s_Book___init__) (by decide +kernel)) (fun _ _ _ _ _ => pg_name sc_Book___init__.nd rfl (by first | exact .inl rfl | exact .inr rfl) (by first | exact .inl rfl | exact .inr rfl)) (sw_true rfl rfl rfl (by decide +kernel))) ?_; refine sb_cons (ss_for (passes_of rfl) rfl (sg_tup rfl (sgs_cons (sg_name 3 sc_Book___init__.nd) (sgs_cons (sg_name 4 sc_Book___init__.nd) sgs_nil))) (si_enum T.b_enumerate (se_var 5)) (by refine sb_cons (ss_if (st_cmp (oIn hu) (se_var 4) (se_slice (se_var 5) so_none (so_some (se_var 3)))) (by exact sb_one (ss_raise tk hx_DuplicateShape (hr.mono (by decide)) rfl (sa_cons (se_var 3) sa_nil rfl) rfl (by decide) rfl rfl)) sb_nil) ?_; exact sb_nil)) ?_; refine sb_cons (ss_fld (cs_cons T.cf_Book_held (fun _ h_ => nomatch h_)) (se_var 0) (se_tupleOf T.b_tuple (se_var 5))) ?_; exact sb_nil)
abbrev s__law_made : Stmt := top 53
theorem sc__law_made : FnScope ["_law_model_here", "_law_shape_here"] ["_law_model_here"] (defScope s__law_made) := ⟨rfl, rfl, rfl, by decide +kernel, rfl, by decide +kernel, by decide +kernel⟩
theorem ok__law_made {f : Addr} {fd : FuncData} (Fn : FunX K "_law_made" "_law_made" s__law_made f fd) (T : Txt P w K mg Tb c0 c1 c2)  (k_Book_0 : HasK P w K mg Tb base "Book" 5 2 [] (FR f_Book___init__)) : FnOk P w K mg base (L2.CX P w) 7 f fd ["_law_model_here"] (spG ⟨K, mg, Tb, P, w⟩ 1 (FR f__law_made)) := by
  refine def_ok Fn sc__law_made rfl rfl (fun cdv A outer s H E I W hr tk => ?_)
  have hu := room_hu hr
  have hv := room_hv hr
  exact (by exact sb_one (ss_ret (by refine se_make (fun _ => ro_A) tk k_Book_0 (hr.mono (by decide)) ?_; exact (sa_cons (se_lc (.one 1) [("_law_shape_here", 1)] rfl sc__law_made.nd (by decide) (si_seq (se_var 0)) (fun _ _ _ _ _ => sts_nil) (fun _ _ _ _ _ => (se_list T.b_list (se_var 1))) (blkOk_by (N := ["_law_model_here", "_law_shape_here"]) (sc := defScope s__law_made) (by decide +kernel)) (fun _ _ _ _ _ => pg_name sc__law_made.nd rfl (by first | exact .inl rfl | exact .inr rfl) (by first | exact .inl rfl | exact .inr rfl))) sa_nil rfl))))
abbrev s_common : Stmt := top 18
theorem sc_common : FnScope ["one", "other"] ["one", "other"] (defScope s_common) := ⟨rfl, rfl, rfl, by decide +kernel, rfl, by decide +kernel, by decide +kernel⟩
theorem ok_common {f : Addr} {fd : FuncData} (Fn : FunX K "common" "common" s_common f fd) (T : Txt P w K mg Tb c0 c1 c2)  : FnOk P w K mg base (L2.CX P w) 1 f fd ["one", "other"] (spG ⟨K, mg, Tb, P, w⟩ 2 (FR f_common)) := by
  refine def_ok Fn sc_common rfl rfl (fun cdv A outer s H E I W hr tk => ?_)
  have hu := room_hu hr
  have hv := room_hv hr
  exact (by refine sb_cons (ss_par 0 1 (sa_cons (se_abs T.b_abs (se_var 0)) (sa_cons (se_abs T.b_abs (se_var 1)) sa_nil rfl) rfl) rfl sc_common.nd (by decide) rfl) ?_; refine sb_cons (ss_while (passes_of rfl) (st_cmp (oNe hu) (se_var 1) se_int) (by refine sb_cons (ss_par 0 1 (sa_cons (se_var 1) (sa_cons (se_mod (se_var 0) (se_var 1)) sa_nil rfl) rfl) rfl sc_common.nd (by decide) rfl) ?_; exact sb_nil)) ?_; exact sb_one (ss_ret (se_var 0)))
abbrev s_is_direction : Stmt := top 19
theorem sc_is_direction : FnScope ["value"] ["value"] (defScope s_is_direction) := ⟨rfl, rfl, rfl, by decide +kernel, rfl, by decide +kernel, by decide +kernel⟩
theorem ok_is_direction {f : Addr} {fd : FuncData} (Fn : FunX K "is_direction" "is_direction" s_is_direction f fd) (T : Txt P w K mg Tb c0 c1 c2) (h_is_cell : HasF P w K mg Tb base "is_cell" 2 1 (FR f_is_cell)) (h_common : HasF P w K mg Tb base "common" 1 2 (FR f_common)) : FnOk P w K mg base (L2.CX P w) 3 f fd ["value"] (spG ⟨K, mg, Tb, P, w⟩ 1 (FR f_is_direction)) := by
  refine def_ok Fn sc_is_direction rfl rfl (fun cdv A outer s H E I W hr tk => ?_)
  have hu := room_hu hr
  have hv := room_hv hr
  exact (by exact sb_one (ss_ret (se_and (se_call tk h_is_cell (hr.mono (by decide)) (sa_cons (se_var 0) sa_nil rfl) rfl (by decide) rfl rfl) (se_last (se_cmp (oEq hu) (se_call tk h_common (hr.mono (by decide)) (sa_cons (se_ix (se_var 0) se_int) (sa_cons (se_ix (se_var 0) se_int) sa_nil rfl) rfl) rfl (by decide) rfl rfl) se_int)))))
abbrev s_need_direction : Stmt := top 20
theorem sc_need_direction : FnScope ["value"] ["value"] (defScope s_need_direction) := ⟨rfl, rfl, rfl, by decide +kernel, rfl, by decide +kernel, by decide +kernel⟩
theorem ok_need_direction {f : Addr} {fd : FuncData} (Fn : FunX K "need_direction" "need_direction" s_need_direction f fd) (T : Txt P w K mg Tb c0 c1 c2) (h_is_direction : HasF P w K mg Tb base "is_direction" 3 1 (FR f_is_direction)) (hx_InvalidDirection : HasX P w K mg base "InvalidDirection" 1 1 mk_InvalidDirection) : FnOk P w K mg base (L2.CX P w) 4 f fd ["value"] (spG ⟨K, mg, Tb, P, w⟩ 1 (FR f_need_direction)) := by
  refine def_ok Fn sc_need_direction rfl rfl (fun cdv A outer s H E I W hr tk => ?_)
  have hu := room_hu hr
  have hv := room_hv hr
  exact (by refine sb_cons (ss_if (st_not (st_val (se_call tk h_is_direction (hr.mono (by decide)) (sa_cons (se_var 0) sa_nil rfl) rfl (by decide) rfl rfl))) (by exact sb_one (ss_raise tk hx_InvalidDirection (hr.mono (by decide)) rfl (sa_cons (se_var 0) sa_nil rfl) rfl (by decide) rfl rfl)) sb_nil) ?_; exact sb_nil)
abbrev s_is_upper : Stmt := top 25
theorem sc_is_upper : FnScope ["direction"] ["direction"] (defScope s_is_upper) := ⟨rfl, rfl, rfl, by decide +kernel, rfl, by decide +kernel, by decide +kernel⟩
theorem ok_is_upper {f : Addr} {fd : FuncData} (Fn : FunX K "is_upper" "is_upper" s_is_upper f fd) (T : Txt P w K mg Tb c0 c1 c2)  : FnOk P w K mg base (L2.CX P w) 1 f fd ["direction"] (spG ⟨K, mg, Tb, P, w⟩ 1 (FR f_is_upper)) := by
  refine def_ok Fn sc_is_upper rfl rfl (fun cdv A outer s H E I W hr tk => ?_)
  have hu := room_hu hr
  have hv := room_hv hr
  exact (by exact sb_one (ss_ret (se_or (se_cmp oGt (se_ix (se_var 0) se_int) se_int) (se_last (se_and (se_cmp (oEq hu) (se_ix (se_var 0) se_int) se_int) (se_last (se_cmp oGt (se_ix (se_var 0) se_int) se_int)))))))
abbrev s_is_before : Stmt := top 26
theorem sc_is_before : FnScope ["one", "other"] ["one", "other"] (defScope s_is_before) := ⟨rfl, rfl, rfl, by decide +kernel, rfl, by decide +kernel, by decide +kernel⟩
theorem ok_is_before {f : Addr} {fd : FuncData} (Fn : FunX K "is_before" "is_before" s_is_before f fd) (T : Txt P w K mg Tb c0 c1 c2) (h_is_upper : HasF P w K mg Tb base "is_upper" 1 1 (FR f_is_upper)) : FnOk P w K mg base (L2.CX P w) 2 f fd ["one", "other"] (spG ⟨K, mg, Tb, P, w⟩ 2 (FR f_is_before)) := by
  refine def_ok Fn sc_is_before rfl rfl (fun cdv A outer s H E I W hr tk => ?_)
  have hu := room_hu hr
  have hv := room_hv hr
  exact (by refine sb_cons (ss_if (st_cmp (oNe hu) (se_call tk h_is_upper (hr.mono (by decide)) (sa_cons (se_var 0) sa_nil rfl) rfl (by decide) rfl rfl) (se_call tk h_is_upper (hr.mono (by decide)) (sa_cons (se_var 1) sa_nil rfl) rfl (by decide) rfl rfl)) (by exact sb_one (ss_ret (se_call tk h_is_upper (hr.mono (by decide)) (sa_cons (se_var 0) sa_nil rfl) rfl (by decide) rfl rfl))) sb_nil) ?_; exact sb_one (ss_ret (se_cmp oGt (se_sub (se_mul (se_ix (se_var 0) se_int) (se_ix (se_var 1) se_int)) (se_mul (se_ix (se_var 0) se_int) (se_ix (se_var 1) se_int))) se_int)))
abbrev s_in_round_order : Stmt := top 27
theorem sc_in_round_order : FnScope ["directions", "found", "direction", "at", "one"] ["directions"] (defScope s_in_round_order) := ⟨rfl, rfl, rfl, by decide +kernel, rfl, by decide +kernel, by decide +kernel⟩
theorem ok_in_round_order {f : Addr} {fd : FuncData} (Fn : FunX K "in_round_order" "in_round_order" s_in_round_order f fd) (T : Txt P w K mg Tb c0 c1 c2) (h_need_direction : HasF P w K mg Tb base "need_direction" 4 1 (FR f_need_direction)) (h_is_before : HasF P w K mg Tb base "is_before" 2 2 (FR f_is_before)) : FnOk P w K mg base (L2.CX P w) 5 f fd ["directions"] (spG ⟨K, mg, Tb, P, w⟩ 1 (FR f_in_round_order)) := by
  refine def_ok Fn sc_in_round_order rfl rfl (fun cdv A outer s H E I W hr tk => ?_)
  have hu := room_hu hr
  have hv := room_hv hr
  exact (by refine sb_cons (ss_new 1 (se_lit rfl) sc_in_round_order.nd) ?_; refine sb_cons (ss_for (passes_of rfl) rfl (sg_name 2 sc_in_round_order.nd) (si_seq (se_var 0)) (by refine sb_cons (ss_expr (se_call tk h_need_direction (hr.mono (by decide)) (sa_cons (se_var 2) sa_nil rfl) rfl (by decide) rfl rfl)) ?_; refine sb_cons (ss_if (st_cmp (oNotIn hu) (se_var 2) (se_var 1)) (by refine sb_cons (ss_set 3 (se_len T.b_len (se_lcC (.one 4) [("one", 4)] rfl sc_in_round_order.nd (by decide) (se_var 1) (fun _ _ _ _ _ => sts_one (st_val (se_call tkNo h_is_before (hr.mono (by decide)) (sa_cons (se_var 4) (sa_cons (se_var 2) sa_nil rfl) rfl) rfl (by decide) rfl rfl))) (fun _ _ _ _ _ => (se_var 4)) (blkOk_by (N := ["directions", "found", "direction", "at", "one"]) (sc := defScope s_in_round_order) (by decide +kernel)) (fun _ _ _ _ _ => pg_name sc_in_round_order.nd rfl (by first | exact .inl rfl | exact .inr rfl) (by first | exact .inl rfl | exact .inr rfl)))) sc_in_round_order.nd) ?_; refine sb_cons (ss_expr (se_insert (se_var 1) (sa_cons (se_var 3) (sa_cons (se_var 2) sa_nil rfl) rfl))) ?_; exact sb_nil) sb_nil) ?_; exact sb_nil)) ?_; exact sb_one (ss_ret (se_var 1)))
abbrev s_left : Stmt := top 23
theorem sc_left : FnScope ["direction"] ["direction"] (defScope s_left) := ⟨rfl, rfl, rfl, by decide +kernel, rfl, by decide +kernel, by decide +kernel⟩
theorem ok_left {f : Addr} {fd : FuncData} (Fn : FunX K "left" "left" s_left f fd) (T : Txt P w K mg Tb c0 c1 c2) (h_need_direction : HasF P w K mg Tb base "need_direction" 4 1 (FR f_need_direction)) : FnOk P w K mg base (L2.CX P w) 5 f fd ["direction"] (spG ⟨K, mg, Tb, P, w⟩ 1 (FR f_left)) := by
  refine def_ok Fn sc_left rfl rfl (fun cdv A outer s H E I W hr tk => ?_)
  have hu := room_hu hr
  have hv := room_hv hr
  exact (by refine sb_cons (ss_expr (se_call tk h_need_direction (hr.mono (by decide)) (sa_cons (se_var 0) sa_nil rfl) rfl (by decide) rfl rfl)) ?_; exact sb_one (ss_ret (se_tup (sa_cons (se_neg (se_ix (se_var 0) se_int)) (sa_cons (se_ix (se_var 0) se_int) sa_nil rfl) rfl))))
abbrev s_direction_of : Stmt := top 22
theorem sc_direction_of : FnScope ["cell", "factor"] ["cell"] (defScope s_direction_of) := ⟨rfl, rfl, rfl, by decide +kernel, rfl, by decide +kernel, by decide +kernel⟩
theorem ok_direction_of {f : Addr} {fd : FuncData} (Fn : FunX K "direction_of" "direction_of" s_direction_of f fd) (T : Txt P w K mg Tb c0 c1 c2) (h_is_cell : HasF P w K mg Tb base "is_cell" 2 1 (FR f_is_cell)) (h_common : HasF P w K mg Tb base "common" 1 2 (FR f_common)) (hx_InvalidDirection : HasX P w K mg base "InvalidDirection" 1 1 mk_InvalidDirection) : FnOk P w K mg base (L2.CX P w) 3 f fd ["cell"] (spG ⟨K, mg, Tb, P, w⟩ 1 (FR f_direction_of)) := by
  refine def_ok Fn sc_direction_of rfl rfl (fun cdv A outer s H E I W hr tk => ?_)
  have hu := room_hu hr
  have hv := room_hv hr
  exact (by refine sb_cons (ss_if (st_bool (sw_or (st_not (st_val (se_call tk h_is_cell (hr.mono (by decide)) (sa_cons (se_var 0) sa_nil rfl) rfl (by decide) rfl rfl))) (sw_or1 (st_cmp (oEq hu) (se_var 0) (se_glob T.g_ORIGIN))))) (by exact sb_one (ss_raise tk hx_InvalidDirection (hr.mono (by decide)) rfl (sa_cons (se_var 0) sa_nil rfl) rfl (by decide) rfl rfl)) sb_nil) ?_; refine sb_cons (ss_set 1 (se_call tk h_common (hr.mono (by decide)) (sa_cons (se_ix (se_var 0) se_int) (sa_cons (se_ix (se_var 0) se_int) sa_nil rfl) rfl) rfl (by decide) rfl rfl) sc_direction_of.nd) ?_; exact sb_one (ss_ret (se_tup (sa_cons (se_div (se_ix (se_var 0) se_int) (se_var 1)) (sa_cons (se_div (se_ix (se_var 0) se_int) (se_var 1)) sa_nil rfl) rfl))))
abbrev s_Book_shapes : Stmt := inClass (top 29) 6
theorem sc_Book_shapes : FnScope ["self", "shape"] ["self"] (defScope s_Book_shapes) := ⟨rfl, rfl, rfl, by decide +kernel, rfl, by decide +kernel, by decide +kernel⟩
theorem ok_Book_shapes {f : Addr} {fd : FuncData} (Fn : FunX K "shapes" "Book.shapes" s_Book_shapes f fd) (T : Txt P w K mg Tb c0 c1 c2)  : FnOk P w K mg base (L2.CX P w) 1 f fd ["self"] (spG ⟨K, mg, Tb, P, w⟩ 1 (FR f_Book_shapes)) := by
  refine def_ok Fn sc_Book_shapes rfl rfl (fun cdv A outer s H E I W hr tk => ?_)
  have hu := room_hu hr
  have hv := room_hv hr
  exact (by exact sb_one (ss_ret (se_lc (.one 1) [("shape", 1)] rfl sc_Book_shapes.nd (by decide) (si_seq (se_fld (cs_cons T.cf_Book_held (fun _ h_ => nomatch h_)) (se_var 0))) (fun _ _ _ _ _ => sts_nil) (fun _ _ _ _ _ => (se_list T.b_list (se_var 1))) (blkOk_by (N := ["self", "shape"]) (sc := defScope s_Book_shapes) (by decide +kernel)) (fun _ _ _ _ _ => pg_name sc_Book_shapes.nd rfl (by first | exact .inl rfl | exact .inr rfl) (by first | exact .inl rfl | exact .inr rfl)))))
abbrev s_right : Stmt := top 24
theorem sc_right : FnScope ["direction"] ["direction"] (defScope s_right) := ⟨rfl, rfl, rfl, by decide +kernel, rfl, by decide +kernel, by decide +kernel⟩
theorem ok_right {f : Addr} {fd : FuncData} (Fn : FunX K "right" "right" s_right f fd) (T : Txt P w K mg Tb c0 c1 c2) (h_need_direction : HasF P w K mg Tb base "need_direction" 4 1 (FR f_need_direction)) : FnOk P w K mg base (L2.CX P w) 5 f fd ["direction"] (spG ⟨K, mg, Tb, P, w⟩ 1 (FR f_right)) := by
  refine def_ok Fn sc_right rfl rfl (fun cdv A outer s H E I W hr tk => ?_)
  have hu := room_hu hr
  have hv := room_hv hr
  exact (by refine sb_cons (ss_expr (se_call tk h_need_direction (hr.mono (by decide)) (sa_cons (se_var 0) sa_nil rfl) rfl (by decide) rfl rfl)) ?_; exact sb_one (ss_ret (se_tup (sa_cons (se_ix (se_var 0) se_int) (sa_cons (se_neg (se_ix (se_var 0) se_int)) sa_nil rfl) rfl))))
abbrev s_ends : Stmt := top 35
theorem sc_ends : FnScope ["book", "across", "shape", "cell", "one"] ["book"] (defScope s_ends) := ⟨rfl, rfl, rfl, by decide +kernel, rfl, by decide +kernel, by decide +kernel⟩
theorem ok_ends {f : Addr} {fd : FuncData} (Fn : FunX K "ends" "ends" s_ends f fd) (T : Txt P w K mg Tb c0 c1 c2) (h_direction_of : HasF P w K mg Tb base "direction_of" 3 1 (FR f_direction_of)) (h_left : HasF P w K mg Tb base "left" 5 1 (FR f_left)) (h_right : HasF P w K mg Tb base "right" 5 1 (FR f_right)) (h_in_round_order : HasF P w K mg Tb base "in_round_order" 5 1 (FR f_in_round_order)) (m_Book_shapes_0 : HasM P w K mg Tb base "Book" "shapes" 1 1 [] (FR f_Book_shapes)) : FnOk P w K mg base (L2.CX P w) 6 f fd ["book"] (spG ⟨K, mg, Tb, P, w⟩ 1 (FR f_ends)) := by
  refine def_ok Fn sc_ends rfl rfl (fun cdv A outer s H E I W hr tk => ?_)
  have hu := room_hu hr
  have hv := room_hv hr
  exact (by refine sb_cons (ss_setLc2 1 (.one 2) (.one 3) [("shape", 2), ("cell", 3)] [3] rfl sc_ends.nd (by decide) (by decide) (by decide) (si_seq (by refine se_meth0 (j := 1) ro_A tk ((tb_cons (m_Book_shapes_0.up (by decide)) (fun _ _ h_ => nomatch h_))) (hr.mono (by decide)) ?_; exact (se_var 0))) (fun _ _ _ _ _ => (si_seq (se_var 2))) (fun _ _ _ _ _ => sts_nil) (fun _ _ _ _ _ => (se_call tkNo h_left (hr.mono (by decide)) (sa_cons (se_call tkNo h_direction_of (hr.mono (by decide)) (sa_cons (se_var 3) sa_nil rfl) rfl (by decide) rfl rfl) sa_nil rfl) rfl (by decide) rfl rfl)) (blkOk_by (N := ["book", "across", "shape", "cell", "one"]) (sc := defScope s_ends) (by decide +kernel)) (fun _ _ _ _ _ => pg_name sc_ends.nd rfl (by first | exact .inl rfl | exact .inr rfl) (by first | exact .inl rfl | exact .inr rfl)) (fun _ _ _ _ _ => pg_name sc_ends.nd rfl (by first | exact .inl rfl | exact .inr rfl) (by first | exact .inl rfl | exact .inr rfl)) (sw_true rfl rfl rfl (by decide +kernel))) ?_; exact sb_one (ss_ret (se_call tk h_in_round_order (hr.mono (by decide)) (sa_cons (se_lst (sa_star (se_var 1) (sa_star (se_lc (.one 4) [("one", 4)] rfl sc_ends.nd (by decide) (si_seq (se_var 1)) (fun _ _ _ _ _ => sts_nil) (fun _ _ _ _ _ => (se_call tkNo h_right (hr.mono (by decide)) (sa_cons (se_call tkNo h_right (hr.mono (by decide)) (sa_cons (se_var 4) sa_nil rfl) rfl (by decide) rfl rfl) sa_nil rfl) rfl (by decide) rfl rfl)) (blkOk_by (N := ["book", "across", "shape", "cell", "one"]) (sc := defScope s_ends) (by decide +kernel)) (fun _ _ _ _ _ => pg_name sc_ends.nd rfl (by first | exact .inl rfl | exact .inr rfl) (by first | exact .inl rfl | exact .inr rfl))) sa_nil rfl) rfl)) sa_nil rfl) rfl (by decide) rfl rfl)))
abbrev s__law_of : Stmt := top 44
theorem sc__law_of : FnScope ["_law_bag_here", "_law_things"] ["_law_bag_here", "_law_things"] (defScope s__law_of) := ⟨rfl, rfl, rfl, by decide +kernel, rfl, by decide +kernel, by decide +kernel⟩
theorem ok__law_of {f : Addr} {fd : FuncData} (Fn : FunX K "_law_of" "_law_of" s__law_of f fd) (T : Txt P w K mg Tb c0 c1 c2) (h__law_pull : HasF P w K mg Tb base "_law_pull" 1 2 (FR f__law_pull)) : FnOk P w K mg base (L2.CX P w) 2 f fd ["_law_bag_here", "_law_things"] (spG ⟨K, mg, Tb, P, w⟩ 2 (FR f__law_of)) := by
  refine def_ok Fn sc__law_of rfl rfl (fun cdv A outer s H E I W hr tk => ?_)
  have hu := room_hu hr
  have hv := room_hv hr
  exact (by exact sb_one (ss_ret (se_ix (se_var 1) (se_call tk h__law_pull (hr.mono (by decide)) (sa_cons (se_var 0) (sa_cons (se_len T.b_len (se_var 1)) sa_nil rfl) rfl) rfl (by decide) rfl rfl))))
abbrev s__law_common : Stmt := top 46
theorem sc__law_common : FnScope ["_law_one", "_law_other"] ["_law_one", "_law_other"] (defScope s__law_common) := ⟨rfl, rfl, rfl, by decide +kernel, rfl, by decide +kernel, by decide +kernel⟩
theorem ok__law_common {f : Addr} {fd : FuncData} (Fn : FunX K "_law_common" "_law_common" s__law_common f fd) (T : Txt P w K mg Tb c0 c1 c2)  : FnOk P w K mg base (L2.CX P w) 1 f fd ["_law_one", "_law_other"] (spG ⟨K, mg, Tb, P, w⟩ 2 (FR f__law_common)) := by
  refine def_ok Fn sc__law_common rfl rfl (fun cdv A outer s H E I W hr tk => ?_)
  have hu := room_hu hr
  have hv := room_hv hr
  exact (by refine sb_cons (ss_par 0 1 (sa_cons (se_abs T.b_abs (se_var 0)) (sa_cons (se_abs T.b_abs (se_var 1)) sa_nil rfl) rfl) rfl sc__law_common.nd (by decide) rfl) ?_; refine sb_cons (ss_while (passes_of rfl) (st_cmp (oNe hu) (se_var 1) se_int) (by refine sb_cons (ss_par 0 1 (sa_cons (se_var 1) (sa_cons (se_mod (se_intOf T.b_int (se_var 0)) (se_intOf T.b_int (se_var 1))) sa_nil rfl) rfl) rfl sc__law_common.nd (by decide) rfl) ?_; exact sb_nil)) ?_; exact sb_one (ss_ret (se_var 0)))
abbrev s__law_way_of : Stmt := top 47
theorem sc__law_way_of : FnScope ["_law_cell", "_law_size"] ["_law_cell"] (defScope s__law_way_of) := ⟨rfl, rfl, rfl, by decide +kernel, rfl, by decide +kernel, by decide +kernel⟩
theorem ok__law_way_of {f : Addr} {fd : FuncData} (Fn : FunX K "_law_way_of" "_law_way_of" s__law_way_of f fd) (T : Txt P w K mg Tb c0 c1 c2) (h__law_common : HasF P w K mg Tb base "_law_common" 1 2 (FR f__law_common)) : FnOk P w K mg base (L2.CX P w) 2 f fd ["_law_cell"] (spG ⟨K, mg, Tb, P, w⟩ 1 (FR f__law_way_of)) := by
  refine def_ok Fn sc__law_way_of rfl rfl (fun cdv A outer s H E I W hr tk => ?_)
  have hu := room_hu hr
  have hv := room_hv hr
  exact (by refine sb_cons (ss_set 1 (se_call tk h__law_common (hr.mono (by decide)) (sa_cons (se_ix (se_var 0) se_int) (sa_cons (se_ix (se_var 0) se_int) sa_nil rfl) rfl) rfl (by decide) rfl rfl) sc__law_way_of.nd) ?_; exact sb_one (ss_ret (se_tup (sa_cons (se_div (se_ix (se_var 0) se_int) (se_var 1)) (sa_cons (se_div (se_ix (se_var 0) se_int) (se_var 1)) sa_nil rfl) rfl))))
abbrev s__law_number : Stmt := top 48
theorem sc__law_number : FnScope ["_law_bag_here", "_law_size"] ["_law_bag_here", "_law_size"] (defScope s__law_number) := ⟨rfl, rfl, rfl, by decide +kernel, rfl, by decide +kernel, by decide +kernel⟩
theorem ok__law_number {f : Addr} {fd : FuncData} (Fn : FunX K "_law_number" "_law_number" s__law_number f fd) (T : Txt P w K mg Tb c0 c1 c2) (h__law_pull : HasF P w K mg Tb base "_law_pull" 1 2 (FR f__law_pull)) : FnOk P w K mg base (L2.CX P w) 2 f fd ["_law_bag_here", "_law_size"] (spG ⟨K, mg, Tb, P, w⟩ 2 (FR f__law_number)) := by
  refine def_ok Fn sc__law_number rfl rfl (fun cdv A outer s H E I W hr tk => ?_)
  have hu := room_hu hr
  have hv := room_hv hr
  exact (by exact sb_one (ss_ret (se_sub (se_call tk h__law_pull (hr.mono (by decide)) (sa_cons (se_var 0) (sa_cons (se_add (se_mul se_int (se_var 1)) se_int) sa_nil rfl) rfl) rfl (by decide) rfl rfl) (se_var 1))))
abbrev s__law_way : Stmt := top 49
theorem sc__law_way : FnScope ["_law_bag_here", "_law_size", "_law_x", "_law_y"] ["_law_bag_here", "_law_size"] (defScope s__law_way) := ⟨rfl, rfl, rfl, by decide +kernel, rfl, by decide +kernel, by decide +kernel⟩
theorem ok__law_way {f : Addr} {fd : FuncData} (Fn : FunX K "_law_way" "_law_way" s__law_way f fd) (T : Txt P w K mg Tb c0 c1 c2) (h__law_number : HasF P w K mg Tb base "_law_number" 2 2 (FR f__law_number)) (h__law_way_of : HasF P w K mg Tb base "_law_way_of" 2 1 (FR f__law_way_of)) : FnOk P w K mg base (L2.CX P w) 3 f fd ["_law_bag_here", "_law_size"] (spG ⟨K, mg, Tb, P, w⟩ 2 (FR f__law_way)) := by
  refine def_ok Fn sc__law_way rfl rfl (fun cdv A outer s H E I W hr tk => ?_)
  have hu := room_hu hr
  have hv := room_hv hr
  exact (by refine sb_cons (ss_par 2 3 (sa_cons (se_call tk h__law_number (hr.mono (by decide)) (sa_cons (se_var 0) (sa_cons (se_var 1) sa_nil rfl) rfl) rfl (by decide) rfl rfl) (sa_cons (se_call tk h__law_number (hr.mono (by decide)) (sa_cons (se_var 0) (sa_cons (se_var 1) sa_nil rfl) rfl) rfl (by decide) rfl rfl) sa_nil rfl) rfl) rfl sc__law_way.nd (by decide) rfl) ?_; exact sb_one (ss_ret (se_if (st_bool (sw_and (st_cmp (oEq hu) (se_var 2) se_int) (sw_and1 (st_cmp (oEq hu) (se_var 3) se_int)))) (se_lit rfl) (se_call tk h__law_way_of (hr.mono (by decide)) (sa_cons (se_tup (sa_cons (se_var 2) (sa_cons (se_var 3) sa_nil rfl) rfl)) sa_nil rfl) rfl (by decide) rfl rfl))))
abbrev s_product : Stmt := top 21
theorem sc_product : FnScope ["one", "other"] ["one", "other"] (defScope s_product) := ⟨rfl, rfl, rfl, by decide +kernel, rfl, by decide +kernel, by decide +kernel⟩
theorem ok_product {f : Addr} {fd : FuncData} (Fn : FunX K "product" "product" s_product f fd) (T : Txt P w K mg Tb c0 c1 c2)  : FnOk P w K mg base (L2.CX P w) 1 f fd ["one", "other"] (spG ⟨K, mg, Tb, P, w⟩ 2 (FR f_product)) := by
  refine def_ok Fn sc_product rfl rfl (fun cdv A outer s H E I W hr tk => ?_)
  have hu := room_hu hr
  have hv := room_hv hr
  exact (by exact sb_one (ss_ret (se_add (se_mul (se_ix (se_var 0) se_int) (se_ix (se_var 1) se_int)) (se_mul (se_ix (se_var 0) se_int) (se_ix (se_var 1) se_int)))))
abbrev s_opens : Stmt := top 31
theorem sc_opens : FnScope ["shape", "direction", "cell"] ["shape", "direction"] (defScope s_opens) := ⟨rfl, rfl, rfl, by decide +kernel, rfl, by decide +kernel, by decide +kernel⟩
theorem ok_opens {f : Addr} {fd : FuncData} (Fn : FunX K "opens" "opens" s_opens f fd) (T : Txt P w K mg Tb c0 c1 c2) (h_product : HasF P w K mg Tb base "product" 1 2 (FR f_product)) : FnOk P w K mg base (L2.CX P w) 2 f fd ["shape", "direction"] (spG ⟨K, mg, Tb, P, w⟩ 2 (FR f_opens)) := by
  refine def_ok Fn sc_opens rfl rfl (fun cdv A outer s H E I W hr tk => ?_)
  have hu := room_hu hr
  have hv := room_hv hr
  exact (by exact sb_one (ss_ret (se_all rfl T.b_all (se_lc (.one 2) [("cell", 2)] rfl sc_opens.nd (by decide) (si_seq (se_var 0)) (fun _ _ _ _ _ => sts_nil) (fun _ _ _ _ _ => (se_cmp oLt (se_call tkNo h_product (hr.mono (by decide)) (sa_cons (se_var 2) (sa_cons (se_var 1) sa_nil rfl) rfl) rfl (by decide) rfl rfl) se_int)) (blkOk_by (N := ["shape", "direction", "cell"]) (sc := defScope s_opens) (by decide +kernel)) (fun _ _ _ _ _ => pg_name sc_opens.nd rfl (by first | exact .inl rfl | exact .inr rfl) (by first | exact .inl rfl | exact .inr rfl))))))
abbrev s_opener : Stmt := top 32
theorem sc_opener : FnScope ["book", "direction", "index", "shape"] ["book", "direction"] (defScope s_opener) := ⟨rfl, rfl, rfl, by decide +kernel, rfl, by decide +kernel, by decide +kernel⟩
theorem ok_opener {f : Addr} {fd : FuncData} (Fn : FunX K "opener" "opener" s_opener f fd) (T : Txt P w K mg Tb c0 c1 c2) (h_need_direction : HasF P w K mg Tb base "need_direction" 4 1 (FR f_need_direction)) (h_opens : HasF P w K mg Tb base "opens" 2 2 (FR f_opens)) (m_Book_shapes_0 : HasM P w K mg Tb base "Book" "shapes" 1 1 [] (FR f_Book_shapes)) : FnOk P w K mg base (L2.CX P w) 5 f fd ["book", "direction"] (spG ⟨K, mg, Tb, P, w⟩ 2 (FR f_opener)) := by
  refine def_ok Fn sc_opener rfl rfl (fun cdv A outer s H E I W hr tk => ?_)
  have hu := room_hu hr
  have hv := room_hv hr
  exact (by refine sb_cons (ss_expr (se_call tk h_need_direction (hr.mono (by decide)) (sa_cons (se_var 1) sa_nil rfl) rfl (by decide) rfl rfl)) ?_; refine sb_cons (ss_forE (passes_of rfl) rfl (sg_tup rfl (sgs_cons (sg_name 2 sc_opener.nd) (sgs_cons (sg_name 3 sc_opener.nd) sgs_nil))) (si_enum T.b_enumerate (by refine se_meth0 (j := 1) ro_A tk ((tb_cons (m_Book_shapes_0.up (by decide)) (fun _ _ h_ => nomatch h_))) (hr.mono (by decide)) ?_; exact (se_var 0))) (by refine sb_cons (ss_if (st_val (se_call tk h_opens (hr.mono (by decide)) (sa_cons (se_var 3) (sa_cons (se_var 1) sa_nil rfl) rfl) rfl (by decide) rfl rfl)) (by exact sb_one (ss_ret (se_var 2))) sb_nil) ?_; exact sb_nil) (by exact sb_one (ss_ret se_non))) ?_; exact sb_nil)
abbrev s_is_open : Stmt := top 34
theorem sc_is_open : FnScope ["book", "direction"] ["book", "direction"] (defScope s_is_open) := ⟨rfl, rfl, rfl, by decide +kernel, rfl, by decide +kernel, by decide +kernel⟩
theorem ok_is_open {f : Addr} {fd : FuncData} (Fn : FunX K "is_open" "is_open" s_is_open f fd) (T : Txt P w K mg Tb c0 c1 c2) (h_opener_circle : HasF P w K mg Tb base "opener_circle" 5 2 (FR f_opener)) : FnOk P w K mg base (L2.CX P w) 6 f fd ["book", "direction"] (spG ⟨K, mg, Tb, P, w⟩ 2 (FR f_is_open)) := by
  refine def_ok Fn sc_is_open rfl rfl (fun cdv A outer s H E I W hr tk => ?_)
  have hu := room_hu hr
  have hv := room_hv hr
  exact (by exact sb_one (ss_ret (se_cmp oIsNot (by refine se_call tk h_opener_circle (hr.mono (by decide)) ?_ rfl (by decide) rfl rfl; exact (sa_cons (se_var 0) (sa_cons (se_var 1) sa_nil rfl) rfl)) se_non)))
abbrev s__law_same : Stmt := top 45
theorem sc__law_same : FnScope ["_law_found", "_law_due", "_law_left_z", "_law_right_z"] ["_law_found", "_law_due"] (defScope s__law_same) := ⟨rfl, rfl, rfl, by decide +kernel, rfl, by decide +kernel, by decide +kernel⟩
theorem ok__law_same {f : Addr} {fd : FuncData} (Fn : FunX K "_law_same" "_law_same" s__law_same f fd) (hm : mg "_law_same" = some (.ref f)) (hk : PySem.W.keepIn K (.ref f) = true) (hb : Binds K fd ["_law_found", "_law_due"] []) (T : Txt P w K mg Tb c0 c1 c2)  : ∀ n, FnOk P w K mg base (L2.CX P w) (0 + n) f fd ["_law_found", "_law_due"] (spG ⟨K, mg, Tb, P, w⟩ 2 (FR (f__law_same n)))
  | 0 => fnok_no
  | n + 1 => by
    have h__law_same := hasF (ok__law_same Fn hm hk hb T  n) hm hk hb
    refine def_ok Fn sc__law_same rfl rfl (fun cdv A outer s H E I W hr tk => ?_)
    have hu := room_hu hr
    have hv := room_hv hr
    exact (by refine sb_cons (ss_if (st_bool (sw_or (st_val (se_isi it_list (by decide +kernel) T.b_isinstance T.b_list (se_var 1))) (sw_or1 (st_val (se_isi it_tuple (by decide +kernel) T.b_isinstance T.b_tuple (se_var 1)))))) (by refine sb_cons (ss_if (st_bool (sw_or (st_cmp (oNe hu) (se_isi it_list (by decide +kernel) T.b_isinstance T.b_list (se_var 0)) (se_isi it_list (by decide +kernel) T.b_isinstance T.b_list (se_var 1))) (sw_or1 (st_cmp (oNe hu) (se_isi it_tuple (by decide +kernel) T.b_isinstance T.b_tuple (se_var 0)) (se_isi it_tuple (by decide +kernel) T.b_isinstance T.b_tuple (se_var 1)))))) (by exact sb_one (ss_ret se_bl)) sb_nil) ?_; exact sb_one (ss_ret (se_and (se_cmp (oEq hu) (se_len T.b_len (se_var 0)) (se_len T.b_len (se_var 1))) (se_last (se_all rfl T.b_all (se_lc (.two 2 3) [("_law_left_z", 2), ("_law_right_z", 3)] rfl sc__law_same.nd (by decide) (si_zip T.b_zip (sa_cons (se_var 0) (sa_cons (se_var 1) sa_nil rfl) rfl)) (fun _ _ _ _ _ => sts_nil) (fun _ _ _ _ _ => (se_call tkNo h__law_same (hr.mono (Nat.le_refl _)) (sa_cons (se_var 2) (sa_cons (se_var 3) sa_nil rfl) rfl) rfl (by decide) rfl rfl)) (blkOk_by (N := ["_law_found", "_law_due", "_law_left_z", "_law_right_z"]) (sc := defScope s__law_same) (by decide +kernel)) (fun _ _ _ _ _ => pg_tup rfl (pgs_cons (pg_name sc__law_same.nd rfl (by first | exact .inl rfl | exact .inr rfl) (by first | exact .inl rfl | exact .inr rfl)) (pgs_cons (pg_name sc__law_same.nd rfl (by first | exact .inl rfl | exact .inr rfl) (by first | exact .inl rfl | exact .inr rfl)) pgs_nil rfl) rfl) rfl rfl))))))) sb_nil) ?_; refine sb_cons (ss_if (st_bool (sw_or (st_cmp oIs (se_var 1) se_non) (sw_or1 (st_cmp oIs (se_var 0) se_non)))) (by exact sb_one (ss_ret (se_and (se_cmp oIs (se_var 1) se_non) (se_last (se_cmp oIs (se_var 0) se_non))))) sb_nil) ?_; refine sb_cons (ss_if (st_bool (sw_or (st_cmp (oNe hu) (se_isi it_bool (by decide +kernel) T.b_isinstance T.b_bool (se_var 0)) (se_isi it_bool (by decide +kernel) T.b_isinstance T.b_bool (se_var 1))) (sw_or1 (st_cmp (oNe hu) (se_isi it_int (by decide +kernel) T.b_isinstance T.b_int (se_var 0)) (se_isi it_int (by decide +kernel) T.b_isinstance T.b_int (se_var 1)))))) (by exact sb_one (ss_ret se_bl)) sb_nil) ?_; exact sb_one (ss_ret (se_and (se_cmp (oEq hu) (se_isi it_str (by decide +kernel) T.b_isinstance T.b_str (se_var 0)) (se_isi it_str (by decide +kernel) T.b_isinstance T.b_str (se_var 1))) (se_last (se_cmp (oEq hu) (se_var 0) (se_var 1))))))
abbrev s_Face_kind : Stmt := inClass (top 40) 7
theorem sc_Face_kind : FnScope ["self"] ["self"] (defScope s_Face_kind) := ⟨rfl, rfl, rfl, by decide +kernel, rfl, by decide +kernel, by decide +kernel⟩
theorem ok_Face_kind {f : Addr} {fd : FuncData} (Fn : FunX K "kind" "Face.kind" s_Face_kind f fd) (T : Txt P w K mg Tb c0 c1 c2)  : FnOk P w K mg base (L2.CX P w) 1 f fd ["self"] (spG ⟨K, mg, Tb, P, w⟩ 1 (FR f_Face_kind)) := by
  refine def_ok Fn sc_Face_kind rfl rfl (fun cdv A outer s H E I W hr tk => ?_)
  have hu := room_hu hr
  have hv := room_hv hr
  exact (by refine sb_cons (ss_if (st_cmp oIsNot (se_fldSl (cs_cons T.cs_Face_own_opener (fun _ h_ => nomatch h_)) (se_var 0)) se_non) (by exact sb_one (ss_ret se_str)) sb_nil) ?_; exact sb_one (ss_ret (se_kinds hu T.kb_KINDS (se_tup (sa_cons (se_cmp oIsNot (se_fldSl (cs_cons T.cs_Face_own_left (fun _ h_ => nomatch h_)) (se_var 0)) se_non) (sa_cons (se_cmp oIsNot (se_fldSl (cs_cons T.cs_Face_own_right (fun _ h_ => nomatch h_)) (se_var 0)) se_non) sa_nil rfl) rfl)))))
abbrev s_runs : Stmt := top 38
theorem sc_runs : FnScope ["shape", "direction", "behind", "cell", "across"] ["shape", "direction", "behind"] (defScope s_runs) := ⟨rfl, rfl, rfl, by decide +kernel, rfl, by decide +kernel, by decide +kernel⟩
theorem ok_runs {f : Addr} {fd : FuncData} (Fn : FunX K "runs" "runs" s_runs f fd) (T : Txt P w K mg Tb c0 c1 c2) (h_product : HasF P w K mg Tb base "product" 1 2 (FR f_product)) : FnOk P w K mg base (L2.CX P w) 2 f fd ["shape", "direction", "behind"] (spG ⟨K, mg, Tb, P, w⟩ 3 (FR f_runs)) := by
  refine def_ok Fn sc_runs rfl rfl (fun cdv A outer s H E I W hr tk => ?_)
  have hu := room_hu hr
  have hv := room_hv hr
  exact (by refine sb_cons (ss_for (passes_of rfl) rfl (sg_name 3 sc_runs.nd) (si_seq (se_var 0)) (by refine sb_cons (ss_set 4 (se_call tk h_product (hr.mono (by decide)) (sa_cons (se_var 3) (sa_cons (se_var 1) sa_nil rfl) rfl) rfl (by decide) rfl rfl) sc_runs.nd) ?_; refine sb_cons (ss_if (st_bool (sw_or (st_cmp oGt (se_var 4) se_int) (sw_or1 (st_bool (sw_and (st_cmp (oEq hu) (se_var 4) se_int) (sw_and1 (st_cmp oLt (se_call tk h_product (hr.mono (by decide)) (sa_cons (se_var 3) (sa_cons (se_var 2) sa_nil rfl) rfl) rfl (by decide) rfl rfl) se_int))))))) (by exact sb_one (ss_ret se_bl)) sb_nil) ?_; exact sb_nil)) ?_; exact sb_one (ss_ret se_bl))
abbrev s_first_run : Stmt := top 39
theorem sc_first_run : FnScope ["book", "direction", "behind", "found", "index", "shape"] ["book", "direction", "behind"] (defScope s_first_run) := ⟨rfl, rfl, rfl, by decide +kernel, rfl, by decide +kernel, by decide +kernel⟩
theorem ok_first_run {f : Addr} {fd : FuncData} (Fn : FunX K "first_run" "first_run" s_first_run f fd) (T : Txt P w K mg Tb c0 c1 c2) (h_runs : HasF P w K mg Tb base "runs" 2 3 (FR f_runs)) (m_Book_shapes_0 : HasM P w K mg Tb base "Book" "shapes" 1 1 [] (FR f_Book_shapes)) : FnOk P w K mg base (L2.CX P w) 3 f fd ["book", "direction", "behind"] (spG ⟨K, mg, Tb, P, w⟩ 3 (FR f_first_run)) := by
  refine def_ok Fn sc_first_run rfl rfl (fun cdv A outer s H E I W hr tk => ?_)
  have hu := room_hu hr
  have hv := room_hv hr
  exact (by refine sb_cons (ss_setLc 3 (.two 4 5) [("index", 4), ("shape", 5)] rfl sc_first_run.nd (by decide) (si_enum T.b_enumerate (by refine se_meth0 (j := 1) ro_A tk ((tb_cons (m_Book_shapes_0.up (by decide)) (fun _ _ h_ => nomatch h_))) (hr.mono (by decide)) ?_; exact (se_var 0))) (fun _ _ _ _ _ => sts_one (st_val (se_call tkNo h_runs (hr.mono (by decide)) (sa_cons (se_var 5) (sa_cons (se_var 1) (sa_cons (se_var 2) sa_nil rfl) rfl) rfl) rfl (by decide) rfl rfl))) (fun _ _ _ _ _ => (se_var 4)) (blkOk_by (N := ["book", "direction", "behind", "found", "index", "shape"]) (sc := defScope s_first_run) (by decide +kernel)) (fun _ _ _ _ _ => pg_tup rfl (pgs_cons (pg_name sc_first_run.nd rfl (by first | exact .inl rfl | exact .inr rfl) (by first | exact .inl rfl | exact .inr rfl)) (pgs_cons (pg_name sc_first_run.nd rfl (by first | exact .inl rfl | exact .inr rfl) (by first | exact .inl rfl | exact .inr rfl)) pgs_nil rfl) rfl) rfl rfl) (sw_true rfl rfl rfl (by decide +kernel))) ?_; exact sb_one (ss_ret (se_if (st_cmp (oNe hu) (se_var 3) (se_lit rfl)) (se_ix (se_var 3) se_int) se_non)))
abbrev s_Face___init__ : Stmt := inClass (top 40) 1
theorem sc_Face___init__ : FnScope ["self", "book", "direction", "shape"] ["self", "book", "direction"] (defScope s_Face___init__) := ⟨rfl, rfl, rfl, by decide +kernel, rfl, by decide +kernel, by decide +kernel⟩
theorem ok_Face___init__ {f : Addr} {fd : FuncData} (Fn : FunX K "__init__" "Face.__init__" s_Face___init__ f fd) (T : Txt P w K mg Tb c0 c1 c2) (h_need_direction : HasF P w K mg Tb base "need_direction" 4 1 (FR f_need_direction)) (h_opener_circle : HasF P w K mg Tb base "opener_circle" 5 2 (FR f_opener)) (h_right : HasF P w K mg Tb base "right" 5 1 (FR f_right)) (h_first_run : HasF P w K mg Tb base "first_run" 3 3 (FR f_first_run)) (h_left : HasF P w K mg Tb base "left" 5 1 (FR f_left)) (m_Book_shapes_0 : HasM P w K mg Tb base "Book" "shapes" 1 1 [] (FR f_Book_shapes)) : FnOk P w K mg base (L2.CX P w) 6 f fd ["self", "book", "direction"] (spG ⟨K, mg, Tb, P, w⟩ 3 (FR f_Face___init__)) := by
  refine def_ok Fn sc_Face___init__ rfl rfl (fun cdv A outer s H E I W hr tk => ?_)
  have hu := room_hu hr
  have hv := room_hv hr
  exact (by refine sb_cons (ss_expr (se_call tk h_need_direction (hr.mono (by decide)) (sa_cons (se_var 2) sa_nil rfl) rfl (by decide) rfl rfl)) ?_; refine sb_cons (ss_fldSl (cs_cons T.cs_Face_own_book (fun _ h_ => nomatch h_)) (se_var 0) (se_var 1)) ?_; refine sb_cons (ss_fldSl (cs_cons T.cs_Face_own_direction (fun _ h_ => nomatch h_)) (se_var 0) (se_var 2)) ?_; refine sb_cons (ss_fldSl (cs_cons T.cs_Face_own_opener (fun _ h_ => nomatch h_)) (se_var 0) (by refine se_call tk h_opener_circle (hr.mono (by decide)) ?_ rfl (by decide) rfl rfl; exact (sa_cons (se_var 1) (sa_cons (se_var 2) sa_nil rfl) rfl))) ?_; refine sb_cons (ss_fldSl (cs_cons T.cs_Face_own_left (fun _ h_ => nomatch h_)) (se_var 0) (se_call tk h_first_run (hr.mono (by decide)) (sa_cons (se_var 1) (sa_cons (se_var 2) (sa_cons (se_call tk h_right (hr.mono (by decide)) (sa_cons (se_var 2) sa_nil rfl) rfl (by decide) rfl rfl) sa_nil rfl) rfl) rfl) rfl (by decide) rfl rfl)) ?_; refine sb_cons (ss_fldSl (cs_cons T.cs_Face_own_right (fun _ h_ => nomatch h_)) (se_var 0) (se_call tk h_first_run (hr.mono (by decide)) (sa_cons (se_var 1) (sa_cons (se_var 2) (sa_cons (se_call tk h_left (hr.mono (by decide)) (sa_cons (se_var 2) sa_nil rfl) rfl (by decide) rfl rfl) sa_nil rfl) rfl) rfl) rfl (by decide) rfl rfl)) ?_; refine sb_cons (ss_fldSl (cs_cons T.cs_Face_key (fun _ h_ => nomatch h_)) (se_var 0) (by refine se_tup ?_; exact (by refine @sa_cons _ _ _ _ _ _ (se_var 2) ?_ rfl; refine @sa_cons _ _ _ _ _ _ ?_ ?_ rfl; exact (se_tupleOf T.b_tuple (se_lc (.one 3) [("shape", 3)] rfl sc_Face___init__.nd (by decide) (si_seq (by refine se_meth0 (j := 1) ro_A tk ((tb_cons (m_Book_shapes_0.up (by decide)) (fun _ _ h_ => nomatch h_))) (hr.mono (by decide)) ?_; exact (se_var 1))) (fun _ _ _ _ _ => sts_nil) (fun _ _ _ _ _ => (se_tupleOf T.b_tuple (se_var 3))) (blkOk_by (N := ["self", "book", "direction", "shape"]) (sc := defScope s_Face___init__) (by decide +kernel)) (fun _ _ _ _ _ => pg_name sc_Face___init__.nd rfl (by first | exact .inl rfl | exact .inr rfl) (by first | exact .inl rfl | exact .inr rfl)))); exact sa_nil))) ?_; exact sb_nil)
abbrev s_law : Stmt := top 54
theorem sc_law : FnScope ["_law_script", "_law_bag_here", "_law_model_here", "_law_made_here", "_law_line", "_law_turn", "_law_way_here", "_law_far", "_law_later", "_law_sooner", "_law_due"] ["_law_script"] (defScope s_law) := ⟨rfl, rfl, rfl, by decide +kernel, rfl, by decide +kernel, by decide +kernel⟩
theorem ok_law {f : Addr} {fd : FuncData} (Fn : FunX K "law" "law" s_law f fd) (T : Txt P w K mg Tb c0 c1 c2) (h__law_bag : HasF P w K mg Tb base "_law_bag" 1 1 (FR f__law_bag)) (h__law_model : HasF P w K mg Tb base "_law_model" 3 2 (FR f__law_model)) (h__law_made : HasF P w K mg Tb base "_law_made" 7 1 (FR f__law_made)) (h_ends : HasF P w K mg Tb base "ends" 6 1 (FR f_ends)) (h__law_way : HasF P w K mg Tb base "_law_way" 3 2 (FR f__law_way)) (h__law_of : HasF P w K mg Tb base "_law_of" 2 2 (FR f__law_of)) (h__law_way_of : HasF P w K mg Tb base "_law_way_of" 2 1 (FR f__law_way_of)) (h_is_open : HasF P w K mg Tb base "is_open" 6 2 (FR f_is_open)) (h__law_same : HasF P w K mg Tb base "_law_same" 7 2 (FR (f__law_same 6))) (k_Face_0 : HasKS P w K mg Tb base "Face" 6 3 [] (FR f_Face___init__)) (p_Face_kind : HasPS P w K mg Tb base "Face" "kind" 1 (FR f_Face_kind)) : FnOk P w K mg base (L2.CX P w) 8 f fd ["_law_script"] (spG ⟨K, mg, Tb, P, w⟩ 1 (FR f_law_v35)) := by
  refine def_ok Fn sc_law rfl rfl (fun cdv A outer s H E I W hr tk => ?_)
  have hu := room_hu hr
  have hv := room_hv hr
  exact (by refine sb_cons (ss_new 1 (se_call tk h__law_bag (hr.mono (by decide)) (sa_cons (se_var 0) sa_nil rfl) rfl (by decide) rfl rfl) sc_law.nd) ?_; refine sb_cons (ss_set 2 (se_call tk h__law_model (hr.mono (by decide)) (sa_cons (se_var 1) (sa_cons se_int sa_nil rfl) rfl) rfl (by decide) rfl rfl) sc_law.nd) ?_; refine sb_cons (ss_set 3 (se_call tk h__law_made (hr.mono (by decide)) (sa_cons (se_var 2) sa_nil rfl) rfl (by decide) rfl rfl) sc_law.nd) ?_; refine sb_cons (ss_set 4 (se_call tk h_ends (hr.mono (by decide)) (sa_cons (se_var 3) sa_nil rfl) rfl (by decide) rfl rfl) sc_law.nd) ?_; refine sb_cons (ss_for (passes_of rfl) rfl (sg_name 5 sc_law.nd) (si_range1 T.b_range se_int) (by refine sb_cons (ss_set 6 (se_if (st_bool (sw_or (st_cmp (oEq hu) (se_var 4) (se_lit rfl)) (sw_or1 (st_cmp oLt (se_var 5) se_int)))) (se_call tk h__law_way (hr.mono (by decide)) (sa_cons (se_var 1) (sa_cons se_int sa_nil rfl) rfl) rfl (by decide) rfl rfl) (se_call tk h__law_of (hr.mono (by decide)) (sa_cons (se_var 1) (sa_cons (se_var 4) sa_nil rfl) rfl) rfl (by decide) rfl rfl)) sc_law.nd) ?_; refine sb_cons (ss_set 7 (by refine se_call tk h__law_of (hr.mono (by decide)) ?_; exact (by refine @sa_cons _ _ _ _ _ _ (se_var 1) ?_ rfl; refine @sa_cons _ _ _ _ _ _ (se_lst (sa_cons se_int (sa_cons (se_pow se_int se_int) sa_nil rfl) rfl)) ?_ rfl; exact sa_nil)) sc_law.nd) ?_; refine sb_cons (ss_set 8 (se_call tk h__law_way_of (hr.mono (by decide)) (sa_cons (se_tup (sa_cons (se_sub (se_mul (se_ix (se_var 6) se_int) (se_var 7)) (se_ix (se_var 6) se_int)) (sa_cons (se_add (se_mul (se_ix (se_var 6) se_int) (se_var 7)) (se_ix (se_var 6) se_int)) sa_nil rfl) rfl)) sa_nil rfl) rfl (by decide) rfl rfl) sc_law.nd) ?_; refine sb_cons (ss_set 9 (se_call tk h__law_way_of (hr.mono (by decide)) (sa_cons (se_tup (sa_cons (se_add (se_mul (se_ix (se_var 6) se_int) (se_var 7)) (se_ix (se_var 6) se_int)) (sa_cons (se_sub (se_mul (se_ix (se_var 6) se_int) (se_var 7)) (se_ix (se_var 6) se_int)) sa_nil rfl) rfl)) sa_nil rfl) rfl (by decide) rfl rfl) sc_law.nd) ?_; refine sb_cons (ss_set 10 se_str sc_law.nd) ?_; refine sb_cons (ss_if (st_not (st_val (se_call tk h_is_open (hr.mono (by decide)) (sa_cons (se_var 3) (sa_cons (se_var 6) sa_nil rfl) rfl) rfl (by decide) rfl rfl))) (by refine sb_cons (ss_set 10 se_str sc_law.nd) ?_; refine sb_cons (ss_if (st_val (se_call tk h_is_open (hr.mono (by decide)) (sa_cons (se_var 3) (sa_cons (se_var 8) sa_nil rfl) rfl) rfl (by decide) rfl rfl)) (by refine sb_cons (ss_set 10 se_str sc_law.nd) ?_; exact sb_nil) sb_nil) ?_; refine sb_cons (ss_if (st_val (se_call tk h_is_open (hr.mono (by decide)) (sa_cons (se_var 3) (sa_cons (se_var 9) sa_nil rfl) rfl) rfl (by decide) rfl rfl)) (by refine sb_cons (ss_set 10 (se_if (st_cmp (oEq hu) (se_var 10) se_str) se_str se_str) sc_law.nd) ?_; exact sb_nil) sb_nil) ?_; exact sb_nil) sb_nil) ?_; refine sb_cons (ss_if (st_not (st_val (by refine se_call tk h__law_same (hr.mono (by decide)) ?_; exact (by refine @sa_cons _ _ _ _ _ _ ?_ ?_ rfl; exact (se_propSl (j := 1) (tb_cons (p_Face_kind.up (by decide)) (fun _ _ h_ => nomatch h_)) (hr.mono (by decide)) (by refine se_makeSl (fun _ => ro_A) tk k_Face_0 (hr.mono (by decide)) ?_; exact (sa_cons (se_var 3) (sa_cons (se_var 6) sa_nil rfl) rfl))); refine @sa_cons _ _ _ _ _ _ (se_var 10) ?_ rfl; exact sa_nil)))) (by exact sb_one (ss_ret se_bl)) sb_nil) ?_; exact sb_nil)) ?_; exact sb_one (ss_ret se_bl))
end
end Lw
set_option maxHeartbeats 0
namespace Lw
open PySem PySem.Spec PyProof.Rows L2 Dl
def d__law_bag : He.DefD := ⟨("_law_bag", none), "_law_bag", "_law_bag", defArgs s__law_bag, defBody s__law_bag, defScope s__law_bag, [], []⟩
def d__law_pull : He.DefD := ⟨("_law_pull", none), "_law_pull", "_law_pull", defArgs s__law_pull, defBody s__law_pull, defScope s__law_pull, [], []⟩
def d__law_near : He.DefD := ⟨("_law_near", none), "_law_near", "_law_near", defArgs s__law_near, defBody s__law_near, defScope s__law_near, [], []⟩
def d__law_shape : He.DefD := ⟨("_law_shape", none), "_law_shape", "_law_shape", defArgs s__law_shape, defBody s__law_shape, defScope s__law_shape, [], []⟩
def d__law_model : He.DefD := ⟨("_law_model", none), "_law_model", "_law_model", defArgs s__law_model, defBody s__law_model, defScope s__law_model, [], []⟩
def d_is_listed : He.DefD := ⟨("is_listed", none), "is_listed", "is_listed", defArgs s_is_listed, defBody s_is_listed, defScope s_is_listed, [], []⟩
def d_is_number : He.DefD := ⟨("is_number", none), "is_number", "is_number", defArgs s_is_number, defBody s_is_number, defScope s_is_number, [], []⟩
def d_is_cell : He.DefD := ⟨("is_cell", none), "is_cell", "is_cell", defArgs s_is_cell, defBody s_is_cell, defScope s_is_cell, [], []⟩
def d_is_within : He.DefD := ⟨("is_within", none), "is_within", "is_within", defArgs s_is_within, defBody s_is_within, defScope s_is_within, [], []⟩
def d_is_near : He.DefD := ⟨("is_near", none), "is_near", "is_near", defArgs s_is_near, defBody s_is_near, defScope s_is_near, [], []⟩
def d_is_shape : He.DefD := ⟨("is_shape", none), "is_shape", "is_shape", defArgs s_is_shape, defBody s_is_shape, defScope s_is_shape, [], []⟩
def d_Book___init__ : He.DefD := ⟨("Book", some "__init__"), "__init__", "Book.__init__", defArgs s_Book___init__, defBody s_Book___init__, defScope s_Book___init__, [.adr (fun K => dflA K ("Book", some "__init__") 0)], []⟩
def d__law_made : He.DefD := ⟨("_law_made", none), "_law_made", "_law_made", defArgs s__law_made, defBody s__law_made, defScope s__law_made, [], []⟩
def d_common : He.DefD := ⟨("common", none), "common", "common", defArgs s_common, defBody s_common, defScope s_common, [], []⟩
def d_is_direction : He.DefD := ⟨("is_direction", none), "is_direction", "is_direction", defArgs s_is_direction, defBody s_is_direction, defScope s_is_direction, [], []⟩
def d_need_direction : He.DefD := ⟨("need_direction", none), "need_direction", "need_direction", defArgs s_need_direction, defBody s_need_direction, defScope s_need_direction, [], []⟩
def d_is_upper : He.DefD := ⟨("is_upper", none), "is_upper", "is_upper", defArgs s_is_upper, defBody s_is_upper, defScope s_is_upper, [], []⟩
def d_is_before : He.DefD := ⟨("is_before", none), "is_before", "is_before", defArgs s_is_before, defBody s_is_before, defScope s_is_before, [], []⟩
def d_in_round_order : He.DefD := ⟨("in_round_order", none), "in_round_order", "in_round_order", defArgs s_in_round_order, defBody s_in_round_order, defScope s_in_round_order, [], []⟩
def d_left : He.DefD := ⟨("left", none), "left", "left", defArgs s_left, defBody s_left, defScope s_left, [], []⟩
def d_direction_of : He.DefD := ⟨("direction_of", none), "direction_of", "direction_of", defArgs s_direction_of, defBody s_direction_of, defScope s_direction_of, [], []⟩
def d_Book_shapes : He.DefD := ⟨("Book", some "shapes"), "shapes", "Book.shapes", defArgs s_Book_shapes, defBody s_Book_shapes, defScope s_Book_shapes, [], []⟩
def d_right : He.DefD := ⟨("right", none), "right", "right", defArgs s_right, defBody s_right, defScope s_right, [], []⟩
def d_ends : He.DefD := ⟨("ends", none), "ends", "ends", defArgs s_ends, defBody s_ends, defScope s_ends, [], []⟩
def d__law_of : He.DefD := ⟨("_law_of", none), "_law_of", "_law_of", defArgs s__law_of, defBody s__law_of, defScope s__law_of, [], []⟩
def d__law_common : He.DefD := ⟨("_law_common", none), "_law_common", "_law_common", defArgs s__law_common, defBody s__law_common, defScope s__law_common, [], []⟩
def d__law_way_of : He.DefD := ⟨("_law_way_of", none), "_law_way_of", "_law_way_of", defArgs s__law_way_of, defBody s__law_way_of, defScope s__law_way_of, [], []⟩
def d__law_number : He.DefD := ⟨("_law_number", none), "_law_number", "_law_number", defArgs s__law_number, defBody s__law_number, defScope s__law_number, [], []⟩
def d__law_way : He.DefD := ⟨("_law_way", none), "_law_way", "_law_way", defArgs s__law_way, defBody s__law_way, defScope s__law_way, [], []⟩
def d_product : He.DefD := ⟨("product", none), "product", "product", defArgs s_product, defBody s_product, defScope s_product, [], []⟩
def d_opens : He.DefD := ⟨("opens", none), "opens", "opens", defArgs s_opens, defBody s_opens, defScope s_opens, [], []⟩
def d_opener : He.DefD := ⟨("opener", none), "opener", "opener", defArgs s_opener, defBody s_opener, defScope s_opener, [], []⟩
def d_is_open : He.DefD := ⟨("is_open", none), "is_open", "is_open", defArgs s_is_open, defBody s_is_open, defScope s_is_open, [], []⟩
def d__law_same : He.DefD := ⟨("_law_same", none), "_law_same", "_law_same", defArgs s__law_same, defBody s__law_same, defScope s__law_same, [], []⟩
def d_Face_kind : He5.DefA := ⟨fun K => pgA K "Face" "kind", "kind", "Face.kind", defArgs s_Face_kind, defBody s_Face_kind, defScope s_Face_kind, [], []⟩
def d_runs : He.DefD := ⟨("runs", none), "runs", "runs", defArgs s_runs, defBody s_runs, defScope s_runs, [], []⟩
def d_first_run : He.DefD := ⟨("first_run", none), "first_run", "first_run", defArgs s_first_run, defBody s_first_run, defScope s_first_run, [], []⟩
def d_Face___init__ : He.DefD := ⟨("Face", some "__init__"), "__init__", "Face.__init__", defArgs s_Face___init__, defBody s_Face___init__, defScope s_Face___init__, [], []⟩
def d_law : He.DefD := ⟨("law", none), "law", "law", defArgs s_law, defBody s_law, defScope s_law, [], []⟩
def fnD : List He.DefD := [d__law_bag, d__law_pull, d__law_near, d__law_shape, d__law_model, d_is_listed, d_is_number, d_is_cell, d_is_within, d_is_near, d_is_shape, d_Book___init__, d__law_made, d_common, d_is_direction, d_need_direction, d_is_upper, d_is_before, d_in_round_order, d_left, d_direction_of, d_Book_shapes, d_right, d_ends, d__law_of, d__law_common, d__law_way_of, d__law_number, d__law_way, d_product, d_opens, d_opener, d_is_open, d__law_same, d_runs, d_first_run, d_Face___init__, d_law]
def daD : List He5.DefA := [d_Face_kind]
def gsD : List (Str × D) := [("MOST_CELLS", g_MOST_CELLS), ("ORIGIN", g_ORIGIN), ("REACH", g_REACH)]
def xsE : List XD := [xd_TooMany, xd_InvalidShape, xd_DuplicateShape, xd_InvalidDirection, xd_InvalidIndex]
def xsO : List XD := []
def xsD : List XD := xsE ++ xsO
theorem own_E : ∀ d ∈ xsE, d.own = false := fun d hd => by have := List.all_eq_true.mp (show (xsE.all fun d => !d.own) = true from rfl) d hd; simpa using this
def fldsD : List Str := ["cell", "given", "index", "limit", "line", "most", "name", "tag", "word"]
def tfD : List He.Defn := []
def nm0 : List Str := ["_wall", "FloorError", "InvalidShape", "DuplicateShape", "TooMany", "InvalidDirection", "InvalidIndex", "REACH", "MOST_CELLS", "ORIGIN", "is_number", "is_within", "is_listed", "is_cell", "is_near", "is_shape", "common", "is_direction", "need_direction", "product", "direction_of", "left", "right", "is_upper", "is_before", "in_round_order", "Book", "opens", "opener", "opener_circle"]
def nm1 : List Str := ["is_open", "ends", "KINDS", "runs", "first_run", "Face", "_law_bag", "_law_pull", "_law_of", "_law_same", "_law_common", "_law_way_of", "_law_number", "_law_way", "_law_near", "_law_shape", "_law_model", "_law_made"]
def names : List Str := nm0 ++ nm1
def moreD (K : PySem.W.Frag) : Bool := sclsB K "Face" && (slotB K "Face" "key" && (slotB K "Face" "own_book" && (slotB K "Face" "own_direction" && (slotB K "Face" "own_left" && (slotB K "Face" "own_opener" && (slotB K "Face" "own_right" && (kbB K "KINDS" [((true, true), "both"), ((true, false), "left"), ((false, true), "right"), ((false, false), "never")] && (conB K "Book" "MOST" (.int 5) && (propB K "Face" "kind" && ((He.ga K "opener_circle" == He.ga K "opener") && (true)))))))))))
def faD : List He.Fa := [.glo "_law_bag", .glo "_law_pull", .glo "_law_near", .glo "_law_shape", .glo "_law_model", .glo "is_listed", .glo "is_number", .glo "is_cell", .glo "is_within", .glo "is_near", .glo "is_shape", .glo "_law_made", .glo "common", .glo "is_direction", .glo "need_direction", .glo "is_upper", .glo "is_before", .glo "in_round_order", .glo "left", .glo "direction_of", .glo "right", .glo "ends", .glo "_law_of", .glo "_law_common", .glo "_law_way_of", .glo "_law_number", .glo "_law_way", .glo "product", .glo "opens", .glo "opener", .glo "is_open", .glo "_law_same", .glo "runs", .glo "first_run", .glo "law", .glo "opener_circle", .glo "Book", .cls "Book", .glo "Face", .mkr "Book", .meth "Book" "shapes", .mkr "Face", .noat "Book" "held", .free "abs", .free "all", .free "bool", .free "enumerate", .free "int", .free "isinstance", .free "len", .free "list", .free "range", .free "set", .free "sorted", .free "str", .free "tuple", .free "zip", .free "super", .glo "TooMany", .glo "InvalidShape", .glo "DuplicateShape", .glo "InvalidDirection", .glo "InvalidIndex", .glo "KINDS"]
abbrev Pg : Program := PySem.Challenge.pw_stillsides_k21_whole_faces_by_the_direct
abbrev R : PySem.W.OpenRow := PySem.W.OpenLaw.row PySem.Challenge.rw_stillsides_k21_whole_faces_by_the_direct
abbrev hk : PySem.W.Hook := hookF Pg 2000 faD fnD tfD gsD xsD fldsD moreD daD
def ob (s : PySem.W.SharedT) : AlF := obsF Pg 2000 faD fnD tfD gsD xsD fldsD moreD daD (HandSHeadRun.getT s)
theorem ob_eq (s : PySem.W.SharedT) : ob s = hk.obs s.abs := obsF_eq (HandSHeadRun.getT_eq s)
theorem run_t (w : World) : HandSHeadRun.RunEq R (PySem.W.view R.prog [54]) hk ob 20000 names (w.withFollow "special-get-raises" true) := by
  intro os
  kernel_rfl
theorem run_f (w : World) : HandSHeadRun.RunEq R (PySem.W.view R.prog [54]) hk ob 20000 names (w.withFollow "special-get-raises" false) := by
  intro os
  kernel_rfl
theorem run_b (b : Bool) (w : World) : HandSHeadRun.RunEq R (PySem.W.view R.prog [54]) hk ob 20000 names (w.withFollow "special-get-raises" b) := by
  cases b
  · exact run_f w
  · exact run_t w
theorem run (w : World) : HandSHeadRun.RunEq R (PySem.W.view R.prog [54]) hk ob 20000 names w := by
  have h := run_b (w.params.followText "special-get-raises") w
  rwa [World.withFollow_self] at h
def tb0 (K : PySem.W.Frag) : List (Addr × Str) := []
def tbD (K : PySem.W.Frag) : List NdefX.NTab := (tb0 K).map oneT
abbrev HT (K : PySem.W.Frag) (mg : Str → Option Value) (base : Heap) : Prop := ∀ p ∈ tfD.map (He.cT K), LamX.TabB base mg p.1 p.2
theorem facts {w : World} {K : PySem.W.Frag} {h : Heap} {mg : Str → Option Value} {f : Addr} (X : K.In h) (G : h.Ns mainGlobals mg) (hfa : mg ("law" : Str) = some (.ref f)) (c : SaysF Pg faD fnD tfD gsD xsD fldsD moreD daD h K) :
    ∃ fd : FuncData, (∀ (s : Shared) (v : Value), BindsTo s fd ⟨[v], []⟩ [("_law_script", v)]) ∧ ∀ base : Heap, HT K mg base → FnOk Pg w K mg base (L2.CX Pg w) 8 f fd ["_law_script"] (spG ⟨K, mg, tbD K, Pg, w⟩ 1 (FR f_law_v35)) := by
  have T : Txt Pg w K mg (tbD K) .none .none .none := { b_abs := He.free_ok X G (c.d.fact 43 (f := .free "abs") rfl), b_all := He.free_ok X G (c.d.fact 44 (f := .free "all") rfl), b_bool := He.free_ok X G (c.d.fact 45 (f := .free "bool") rfl), b_enumerate := He.free_ok X G (c.d.fact 46 (f := .free "enumerate") rfl), b_int := He.free_ok X G (c.d.fact 47 (f := .free "int") rfl), b_isinstance := He.free_ok X G (c.d.fact 48 (f := .free "isinstance") rfl), b_len := He.free_ok X G (c.d.fact 49 (f := .free "len") rfl), b_list := He.free_ok X G (c.d.fact 50 (f := .free "list") rfl), b_range := He.free_ok X G (c.d.fact 51 (f := .free "range") rfl), b_set := He.free_ok X G (c.d.fact 52 (f := .free "set") rfl), b_sorted := He.free_ok X G (c.d.fact 53 (f := .free "sorted") rfl), b_str := He.free_ok X G (c.d.fact 54 (f := .free "str") rfl), b_tuple := He.free_ok X G (c.d.fact 55 (f := .free "tuple") rfl), b_zip := He.free_ok X G (c.d.fact 56 (f := .free "zip") rfl), g_MOST_CELLS := gB_ok X G (gAll_get c.gl 0 rfl), g_ORIGIN := gB_ok X G (gAll_get c.gl 1 rfl), g_REACH := gB_ok X G (gAll_get c.gl 2 rfl), cf_Book_held := ⟨⟨_, He.glo_ok X G (c.d.fact 36 (f := .glo "Book") rfl), He.cls_ok (c.d.fact 37 (f := .cls "Book") rfl), He.noat_ok (c.d.fact 42 (f := .noat "Book" "held") rfl)⟩, by decide +kernel⟩, cs_Face_key := hasSl (He.glo_ok X G (c.d.fact 38 (f := .glo "Face") rfl)) (He.ba c.more).1 (He.ba (He.ba c.more).2).1, cs_Face_own_book := hasSl (He.glo_ok X G (c.d.fact 38 (f := .glo "Face") rfl)) (He.ba c.more).1 (He.ba (He.ba (He.ba c.more).2).2).1, cs_Face_own_direction := hasSl (He.glo_ok X G (c.d.fact 38 (f := .glo "Face") rfl)) (He.ba c.more).1 (He.ba (He.ba (He.ba (He.ba c.more).2).2).2).1, cs_Face_own_left := hasSl (He.glo_ok X G (c.d.fact 38 (f := .glo "Face") rfl)) (He.ba c.more).1 (He.ba (He.ba (He.ba (He.ba (He.ba c.more).2).2).2).2).1, cs_Face_own_opener := hasSl (He.glo_ok X G (c.d.fact 38 (f := .glo "Face") rfl)) (He.ba c.more).1 (He.ba (He.ba (He.ba (He.ba (He.ba (He.ba c.more).2).2).2).2).2).1, cs_Face_own_right := hasSl (He.glo_ok X G (c.d.fact 38 (f := .glo "Face") rfl)) (He.ba c.more).1 (He.ba (He.ba (He.ba (He.ba (He.ba (He.ba (He.ba c.more).2).2).2).2).2).2).1, kb_KINDS := hasKB (He.glo_ok X G (c.d.fact 63 (f := .glo "KINDS") rfl)) (He.ba (He.ba (He.ba (He.ba (He.ba (He.ba (He.ba (He.ba c.more).2).2).2).2).2).2).2).1, cc_Book_MOST := con_ok X G (He.glo_ok X G (c.d.fact 36 (f := .glo "Book") rfl)) (He.cls_ok (c.d.fact 37 (f := .cls "Book") rfl)) (He.ba (He.ba (He.ba (He.ba (He.ba (He.ba (He.ba (He.ba (He.ba c.more).2).2).2).2).2).2).2).2).1 }
  obtain ⟨fd_Face_kind, F_Face_kind⟩ := c.a.def_ 0 (d := d_Face_kind) rfl
  obtain ⟨fd__law_bag, F__law_bag⟩ := c.d.def_ 0 (d := d__law_bag) rfl
  have m__law_bag := He.glo_ok X G (c.d.fact 0 (f := .glo "_law_bag") rfl)
  obtain ⟨fd__law_pull, F__law_pull⟩ := c.d.def_ 1 (d := d__law_pull) rfl
  have m__law_pull := He.glo_ok X G (c.d.fact 1 (f := .glo "_law_pull") rfl)
  obtain ⟨fd__law_near, F__law_near⟩ := c.d.def_ 2 (d := d__law_near) rfl
  have m__law_near := He.glo_ok X G (c.d.fact 2 (f := .glo "_law_near") rfl)
  obtain ⟨fd__law_shape, F__law_shape⟩ := c.d.def_ 3 (d := d__law_shape) rfl
  have m__law_shape := He.glo_ok X G (c.d.fact 3 (f := .glo "_law_shape") rfl)
  obtain ⟨fd__law_model, F__law_model⟩ := c.d.def_ 4 (d := d__law_model) rfl
  have m__law_model := He.glo_ok X G (c.d.fact 4 (f := .glo "_law_model") rfl)
  obtain ⟨fd_is_listed, F_is_listed⟩ := c.d.def_ 5 (d := d_is_listed) rfl
  have m_is_listed := He.glo_ok X G (c.d.fact 5 (f := .glo "is_listed") rfl)
  obtain ⟨fd_is_number, F_is_number⟩ := c.d.def_ 6 (d := d_is_number) rfl
  have m_is_number := He.glo_ok X G (c.d.fact 6 (f := .glo "is_number") rfl)
  obtain ⟨fd_is_cell, F_is_cell⟩ := c.d.def_ 7 (d := d_is_cell) rfl
  have m_is_cell := He.glo_ok X G (c.d.fact 7 (f := .glo "is_cell") rfl)
  obtain ⟨fd_is_within, F_is_within⟩ := c.d.def_ 8 (d := d_is_within) rfl
  have m_is_within := He.glo_ok X G (c.d.fact 8 (f := .glo "is_within") rfl)
  obtain ⟨fd_is_near, F_is_near⟩ := c.d.def_ 9 (d := d_is_near) rfl
  have m_is_near := He.glo_ok X G (c.d.fact 9 (f := .glo "is_near") rfl)
  obtain ⟨fd_is_shape, F_is_shape⟩ := c.d.def_ 10 (d := d_is_shape) rfl
  have m_is_shape := He.glo_ok X G (c.d.fact 10 (f := .glo "is_shape") rfl)
  obtain ⟨fd_Book___init__, F_Book___init__⟩ := c.d.def_ 11 (d := d_Book___init__) rfl
  obtain ⟨fd__law_made, F__law_made⟩ := c.d.def_ 12 (d := d__law_made) rfl
  have m__law_made := He.glo_ok X G (c.d.fact 11 (f := .glo "_law_made") rfl)
  obtain ⟨fd_common, F_common⟩ := c.d.def_ 13 (d := d_common) rfl
  have m_common := He.glo_ok X G (c.d.fact 12 (f := .glo "common") rfl)
  obtain ⟨fd_is_direction, F_is_direction⟩ := c.d.def_ 14 (d := d_is_direction) rfl
  have m_is_direction := He.glo_ok X G (c.d.fact 13 (f := .glo "is_direction") rfl)
  obtain ⟨fd_need_direction, F_need_direction⟩ := c.d.def_ 15 (d := d_need_direction) rfl
  have m_need_direction := He.glo_ok X G (c.d.fact 14 (f := .glo "need_direction") rfl)
  obtain ⟨fd_is_upper, F_is_upper⟩ := c.d.def_ 16 (d := d_is_upper) rfl
  have m_is_upper := He.glo_ok X G (c.d.fact 15 (f := .glo "is_upper") rfl)
  obtain ⟨fd_is_before, F_is_before⟩ := c.d.def_ 17 (d := d_is_before) rfl
  have m_is_before := He.glo_ok X G (c.d.fact 16 (f := .glo "is_before") rfl)
  obtain ⟨fd_in_round_order, F_in_round_order⟩ := c.d.def_ 18 (d := d_in_round_order) rfl
  have m_in_round_order := He.glo_ok X G (c.d.fact 17 (f := .glo "in_round_order") rfl)
  obtain ⟨fd_left, F_left⟩ := c.d.def_ 19 (d := d_left) rfl
  have m_left := He.glo_ok X G (c.d.fact 18 (f := .glo "left") rfl)
  obtain ⟨fd_direction_of, F_direction_of⟩ := c.d.def_ 20 (d := d_direction_of) rfl
  have m_direction_of := He.glo_ok X G (c.d.fact 19 (f := .glo "direction_of") rfl)
  obtain ⟨fd_Book_shapes, F_Book_shapes⟩ := c.d.def_ 21 (d := d_Book_shapes) rfl
  obtain ⟨fd_right, F_right⟩ := c.d.def_ 22 (d := d_right) rfl
  have m_right := He.glo_ok X G (c.d.fact 20 (f := .glo "right") rfl)
  obtain ⟨fd_ends, F_ends⟩ := c.d.def_ 23 (d := d_ends) rfl
  have m_ends := He.glo_ok X G (c.d.fact 21 (f := .glo "ends") rfl)
  obtain ⟨fd__law_of, F__law_of⟩ := c.d.def_ 24 (d := d__law_of) rfl
  have m__law_of := He.glo_ok X G (c.d.fact 22 (f := .glo "_law_of") rfl)
  obtain ⟨fd__law_common, F__law_common⟩ := c.d.def_ 25 (d := d__law_common) rfl
  have m__law_common := He.glo_ok X G (c.d.fact 23 (f := .glo "_law_common") rfl)
  obtain ⟨fd__law_way_of, F__law_way_of⟩ := c.d.def_ 26 (d := d__law_way_of) rfl
  have m__law_way_of := He.glo_ok X G (c.d.fact 24 (f := .glo "_law_way_of") rfl)
  obtain ⟨fd__law_number, F__law_number⟩ := c.d.def_ 27 (d := d__law_number) rfl
  have m__law_number := He.glo_ok X G (c.d.fact 25 (f := .glo "_law_number") rfl)
  obtain ⟨fd__law_way, F__law_way⟩ := c.d.def_ 28 (d := d__law_way) rfl
  have m__law_way := He.glo_ok X G (c.d.fact 26 (f := .glo "_law_way") rfl)
  obtain ⟨fd_product, F_product⟩ := c.d.def_ 29 (d := d_product) rfl
  have m_product := He.glo_ok X G (c.d.fact 27 (f := .glo "product") rfl)
  obtain ⟨fd_opens, F_opens⟩ := c.d.def_ 30 (d := d_opens) rfl
  have m_opens := He.glo_ok X G (c.d.fact 28 (f := .glo "opens") rfl)
  obtain ⟨fd_opener, F_opener⟩ := c.d.def_ 31 (d := d_opener) rfl
  have m_opener := He.glo_ok X G (c.d.fact 29 (f := .glo "opener") rfl)
  obtain ⟨fd_is_open, F_is_open⟩ := c.d.def_ 32 (d := d_is_open) rfl
  have m_is_open := He.glo_ok X G (c.d.fact 30 (f := .glo "is_open") rfl)
  obtain ⟨fd__law_same, F__law_same⟩ := c.d.def_ 33 (d := d__law_same) rfl
  have m__law_same := He.glo_ok X G (c.d.fact 31 (f := .glo "_law_same") rfl)
  obtain ⟨fd_runs, F_runs⟩ := c.d.def_ 34 (d := d_runs) rfl
  have m_runs := He.glo_ok X G (c.d.fact 32 (f := .glo "runs") rfl)
  obtain ⟨fd_first_run, F_first_run⟩ := c.d.def_ 35 (d := d_first_run) rfl
  have m_first_run := He.glo_ok X G (c.d.fact 33 (f := .glo "first_run") rfl)
  obtain ⟨fd_Face___init__, F_Face___init__⟩ := c.d.def_ 36 (d := d_Face___init__) rfl
  obtain ⟨fd_law, F_law⟩ := c.d.def_ 37 (d := d_law) rfl
  have m_law := He.glo_ok X G (c.d.fact 34 (f := .glo "law") rfl)
  have hx_TooMany : ∀ base : Heap, HT K mg base → HasX Pg w K mg base "TooMany" 1 1 mk_TooMany := fun base hT => hx_TooMany (flds := fldsD) (by decide +kernel) X G ((c.ex xd_TooMany (by simp [xsD, xsE])).1 rfl) (c.ex xd_TooMany (by simp [xsD, xsE])).2 (He.free_ok X G (c.d.fact 57 (f := .free "super") rfl)) (by decide +kernel)
  have hx_InvalidShape : ∀ base : Heap, HT K mg base → HasX Pg w K mg base "InvalidShape" 1 1 mk_InvalidShape := fun base hT => hx_InvalidShape (flds := fldsD) (by decide +kernel) X G ((c.ex xd_InvalidShape (by simp [xsD, xsE])).1 rfl) (c.ex xd_InvalidShape (by simp [xsD, xsE])).2 (He.free_ok X G (c.d.fact 57 (f := .free "super") rfl)) (by decide +kernel)
  have hx_DuplicateShape : ∀ base : Heap, HT K mg base → HasX Pg w K mg base "DuplicateShape" 1 1 mk_DuplicateShape := fun base hT => hx_DuplicateShape (flds := fldsD) (by decide +kernel) X G ((c.ex xd_DuplicateShape (by simp [xsD, xsE])).1 rfl) (c.ex xd_DuplicateShape (by simp [xsD, xsE])).2 (He.free_ok X G (c.d.fact 57 (f := .free "super") rfl)) (by decide +kernel)
  have hx_InvalidDirection : ∀ base : Heap, HT K mg base → HasX Pg w K mg base "InvalidDirection" 1 1 mk_InvalidDirection := fun base hT => hx_InvalidDirection (flds := fldsD) (by decide +kernel) X G ((c.ex xd_InvalidDirection (by simp [xsD, xsE])).1 rfl) (c.ex xd_InvalidDirection (by simp [xsD, xsE])).2 (He.free_ok X G (c.d.fact 57 (f := .free "super") rfl)) (by decide +kernel)
  have hx_InvalidIndex : ∀ base : Heap, HT K mg base → HasX Pg w K mg base "InvalidIndex" 1 1 mk_InvalidIndex := fun base hT => hx_InvalidIndex (flds := fldsD) (by decide +kernel) X G ((c.ex xd_InvalidIndex (by simp [xsD, xsE])).1 rfl) (c.ex xd_InvalidIndex (by simp [xsD, xsE])).2 (He.free_ok X G (c.d.fact 57 (f := .free "super") rfl)) (by decide +kernel)
  have B__law_bag : Binds K fd__law_bag ["_law_script"] [] := F__law_bag.bindsN fun _ _ _ _ _ _ us hl => match us, hl with | [_], _ => rfl
  have h__law_bag : ∀ base : Heap, HT K mg base → HasF Pg w K mg (tbD K) base "_law_bag" 1 1 (FR f__law_bag) := fun base hT => hasF (ok__law_bag ⟨_, _, F__law_bag⟩ T ) m__law_bag F__law_bag.kp B__law_bag
  have B__law_pull : Binds K fd__law_pull ["_law_bag_here", "_law_amount"] [] := F__law_pull.bindsN fun _ _ _ _ _ _ us hl => match us, hl with | [_, _], _ => rfl
  have h__law_pull : ∀ base : Heap, HT K mg base → HasF Pg w K mg (tbD K) base "_law_pull" 1 2 (FR f__law_pull) := fun base hT => hasF (ok__law_pull ⟨_, _, F__law_pull⟩ T ) m__law_pull F__law_pull.kp B__law_pull
  have B__law_near : Binds K fd__law_near ["_law_size"] [] := F__law_near.bindsN fun _ _ _ _ _ _ us hl => match us, hl with | [_], _ => rfl
  have h__law_near : ∀ base : Heap, HT K mg base → HasF Pg w K mg (tbD K) base "_law_near" 1 1 (FR f__law_near) := fun base hT => hasF (ok__law_near ⟨_, _, F__law_near⟩ T ) m__law_near F__law_near.kp B__law_near
  have B__law_shape : Binds K fd__law_shape ["_law_bag_here"] [] := F__law_shape.bindsN fun _ _ _ _ _ _ us hl => match us, hl with | [_], _ => rfl
  have h__law_shape : ∀ base : Heap, HT K mg base → HasF Pg w K mg (tbD K) base "_law_shape" 2 1 (FR f__law_shape) := fun base hT => hasF (ok__law_shape ⟨_, _, F__law_shape⟩ T (h__law_pull base hT) (h__law_near base hT)) m__law_shape F__law_shape.kp B__law_shape
  have B__law_model : Binds K fd__law_model ["_law_bag_here", "_law_most"] [] := F__law_model.bindsN fun _ _ _ _ _ _ us hl => match us, hl with | [_, _], _ => rfl
  have h__law_model : ∀ base : Heap, HT K mg base → HasF Pg w K mg (tbD K) base "_law_model" 3 2 (FR f__law_model) := fun base hT => hasF (ok__law_model ⟨_, _, F__law_model⟩ T (h__law_pull base hT) (h__law_shape base hT)) m__law_model F__law_model.kp B__law_model
  have B_is_listed : Binds K fd_is_listed ["value"] [] := F_is_listed.bindsN fun _ _ _ _ _ _ us hl => match us, hl with | [_], _ => rfl
  have h_is_listed : ∀ base : Heap, HT K mg base → HasF Pg w K mg (tbD K) base "is_listed" 1 1 (FR f_is_listed) := fun base hT => hasF (ok_is_listed ⟨_, _, F_is_listed⟩ T ) m_is_listed F_is_listed.kp B_is_listed
  have B_is_number : Binds K fd_is_number ["value"] [] := F_is_number.bindsN fun _ _ _ _ _ _ us hl => match us, hl with | [_], _ => rfl
  have h_is_number : ∀ base : Heap, HT K mg base → HasF Pg w K mg (tbD K) base "is_number" 1 1 (FR f_is_number) := fun base hT => hasF (ok_is_number ⟨_, _, F_is_number⟩ T ) m_is_number F_is_number.kp B_is_number
  have B_is_cell : Binds K fd_is_cell ["value"] [] := F_is_cell.bindsN fun _ _ _ _ _ _ us hl => match us, hl with | [_], _ => rfl
  have h_is_cell : ∀ base : Heap, HT K mg base → HasF Pg w K mg (tbD K) base "is_cell" 2 1 (FR f_is_cell) := fun base hT => hasF (ok_is_cell ⟨_, _, F_is_cell⟩ T (h_is_number base hT)) m_is_cell F_is_cell.kp B_is_cell
  have B_is_within : Binds K fd_is_within ["value", "least", "most"] [] := F_is_within.bindsN fun _ _ _ _ _ _ us hl => match us, hl with | [_, _, _], _ => rfl
  have h_is_within : ∀ base : Heap, HT K mg base → HasF Pg w K mg (tbD K) base "is_within" 2 3 (FR f_is_within) := fun base hT => hasF (ok_is_within ⟨_, _, F_is_within⟩ T (h_is_number base hT)) m_is_within F_is_within.kp B_is_within
  have B_is_near : Binds K fd_is_near ["value"] [] := F_is_near.bindsN fun _ _ _ _ _ _ us hl => match us, hl with | [_], _ => rfl
  have h_is_near : ∀ base : Heap, HT K mg base → HasF Pg w K mg (tbD K) base "is_near" 3 1 (FR f_is_near) := fun base hT => hasF (ok_is_near ⟨_, _, F_is_near⟩ T (h_is_cell base hT) (h_is_within base hT)) m_is_near F_is_near.kp B_is_near
  have B_is_shape : Binds K fd_is_shape ["value"] [] := F_is_shape.bindsN fun _ _ _ _ _ _ us hl => match us, hl with | [_], _ => rfl
  have h_is_shape : ∀ base : Heap, HT K mg base → HasF Pg w K mg (tbD K) base "is_shape" 4 1 (FR f_is_shape) := fun base hT => hasF (ok_is_shape ⟨_, _, F_is_shape⟩ T (h_is_listed base hT) (h_is_near base hT)) m_is_shape F_is_shape.kp B_is_shape
  obtain ⟨ds_B_Book___init__, V_B_Book___init__, B_Book___init__⟩ := FunD.binds1 (ps := ["self", "shapes"]) F_Book___init__ 2 1 (by simp [d_Book___init__, He.DefD.dvs]) rfl fun _ _ _ _ _ _ _ us its hl hi => match us, its, hl, hi with | [_, _], [_], _, _ => ⟨_, rfl, rfl⟩
  cases V_B_Book___init__
  have k_Book_0 : ∀ base : Heap, HT K mg base → HasK Pg w K mg (tbD K) base "Book" 5 2 [] (FR f_Book___init__) := fun base hT => hasK (ok_Book___init__ ⟨_, _, F_Book___init__⟩ T (h_is_shape base hT) (hx_TooMany base hT) (hx_InvalidShape base hT) (hx_DuplicateShape base hT)) (He.glo_ok X G (c.d.fact 36 (f := .glo "Book") rfl)) (He.mkr_ok (c.d.fact 39 (f := .mkr "Book") rfl)) B_Book___init__
  have B__law_made : Binds K fd__law_made ["_law_model_here"] [] := F__law_made.bindsN fun _ _ _ _ _ _ us hl => match us, hl with | [_], _ => rfl
  have h__law_made : ∀ base : Heap, HT K mg base → HasF Pg w K mg (tbD K) base "_law_made" 7 1 (FR f__law_made) := fun base hT => hasF (ok__law_made ⟨_, _, F__law_made⟩ T  (k_Book_0 base hT)) m__law_made F__law_made.kp B__law_made
  have B_common : Binds K fd_common ["one", "other"] [] := F_common.bindsN fun _ _ _ _ _ _ us hl => match us, hl with | [_, _], _ => rfl
  have h_common : ∀ base : Heap, HT K mg base → HasF Pg w K mg (tbD K) base "common" 1 2 (FR f_common) := fun base hT => hasF (ok_common ⟨_, _, F_common⟩ T ) m_common F_common.kp B_common
  have B_is_direction : Binds K fd_is_direction ["value"] [] := F_is_direction.bindsN fun _ _ _ _ _ _ us hl => match us, hl with | [_], _ => rfl
  have h_is_direction : ∀ base : Heap, HT K mg base → HasF Pg w K mg (tbD K) base "is_direction" 3 1 (FR f_is_direction) := fun base hT => hasF (ok_is_direction ⟨_, _, F_is_direction⟩ T (h_is_cell base hT) (h_common base hT)) m_is_direction F_is_direction.kp B_is_direction
  have B_need_direction : Binds K fd_need_direction ["value"] [] := F_need_direction.bindsN fun _ _ _ _ _ _ us hl => match us, hl with | [_], _ => rfl
  have h_need_direction : ∀ base : Heap, HT K mg base → HasF Pg w K mg (tbD K) base "need_direction" 4 1 (FR f_need_direction) := fun base hT => hasF (ok_need_direction ⟨_, _, F_need_direction⟩ T (h_is_direction base hT) (hx_InvalidDirection base hT)) m_need_direction F_need_direction.kp B_need_direction
  have B_is_upper : Binds K fd_is_upper ["direction"] [] := F_is_upper.bindsN fun _ _ _ _ _ _ us hl => match us, hl with | [_], _ => rfl
  have h_is_upper : ∀ base : Heap, HT K mg base → HasF Pg w K mg (tbD K) base "is_upper" 1 1 (FR f_is_upper) := fun base hT => hasF (ok_is_upper ⟨_, _, F_is_upper⟩ T ) m_is_upper F_is_upper.kp B_is_upper
  have B_is_before : Binds K fd_is_before ["one", "other"] [] := F_is_before.bindsN fun _ _ _ _ _ _ us hl => match us, hl with | [_, _], _ => rfl
  have h_is_before : ∀ base : Heap, HT K mg base → HasF Pg w K mg (tbD K) base "is_before" 2 2 (FR f_is_before) := fun base hT => hasF (ok_is_before ⟨_, _, F_is_before⟩ T (h_is_upper base hT)) m_is_before F_is_before.kp B_is_before
  have B_in_round_order : Binds K fd_in_round_order ["directions"] [] := F_in_round_order.bindsN fun _ _ _ _ _ _ us hl => match us, hl with | [_], _ => rfl
  have h_in_round_order : ∀ base : Heap, HT K mg base → HasF Pg w K mg (tbD K) base "in_round_order" 5 1 (FR f_in_round_order) := fun base hT => hasF (ok_in_round_order ⟨_, _, F_in_round_order⟩ T (h_need_direction base hT) (h_is_before base hT)) m_in_round_order F_in_round_order.kp B_in_round_order
  have B_left : Binds K fd_left ["direction"] [] := F_left.bindsN fun _ _ _ _ _ _ us hl => match us, hl with | [_], _ => rfl
  have h_left : ∀ base : Heap, HT K mg base → HasF Pg w K mg (tbD K) base "left" 5 1 (FR f_left) := fun base hT => hasF (ok_left ⟨_, _, F_left⟩ T (h_need_direction base hT)) m_left F_left.kp B_left
  have B_direction_of : Binds K fd_direction_of ["cell"] [] := F_direction_of.bindsN fun _ _ _ _ _ _ us hl => match us, hl with | [_], _ => rfl
  have h_direction_of : ∀ base : Heap, HT K mg base → HasF Pg w K mg (tbD K) base "direction_of" 3 1 (FR f_direction_of) := fun base hT => hasF (ok_direction_of ⟨_, _, F_direction_of⟩ T (h_is_cell base hT) (h_common base hT) (hx_InvalidDirection base hT)) m_direction_of F_direction_of.kp B_direction_of
  have B_Book_shapes : Binds K fd_Book_shapes ["self"] [] := F_Book_shapes.bindsN fun _ _ _ _ _ _ us hl => match us, hl with | [_], _ => rfl
  have m_Book_shapes_0 : ∀ base : Heap, HT K mg base → HasM Pg w K mg (tbD K) base "Book" "shapes" 1 1 [] (FR f_Book_shapes) := fun base hT => hasM (ok_Book_shapes ⟨_, _, F_Book_shapes⟩ T ) (He.glo_ok X G (c.d.fact 36 (f := .glo "Book") rfl)) (He.cls_ok (c.d.fact 37 (f := .cls "Book") rfl)) (He.meth_ok (c.d.fact 40 (f := .meth "Book" "shapes") rfl)) B_Book_shapes
  have B_right : Binds K fd_right ["direction"] [] := F_right.bindsN fun _ _ _ _ _ _ us hl => match us, hl with | [_], _ => rfl
  have h_right : ∀ base : Heap, HT K mg base → HasF Pg w K mg (tbD K) base "right" 5 1 (FR f_right) := fun base hT => hasF (ok_right ⟨_, _, F_right⟩ T (h_need_direction base hT)) m_right F_right.kp B_right
  have B_ends : Binds K fd_ends ["book"] [] := F_ends.bindsN fun _ _ _ _ _ _ us hl => match us, hl with | [_], _ => rfl
  have h_ends : ∀ base : Heap, HT K mg base → HasF Pg w K mg (tbD K) base "ends" 6 1 (FR f_ends) := fun base hT => hasF (ok_ends ⟨_, _, F_ends⟩ T (h_direction_of base hT) (h_left base hT) (h_right base hT) (h_in_round_order base hT) (m_Book_shapes_0 base hT)) m_ends F_ends.kp B_ends
  have B__law_of : Binds K fd__law_of ["_law_bag_here", "_law_things"] [] := F__law_of.bindsN fun _ _ _ _ _ _ us hl => match us, hl with | [_, _], _ => rfl
  have h__law_of : ∀ base : Heap, HT K mg base → HasF Pg w K mg (tbD K) base "_law_of" 2 2 (FR f__law_of) := fun base hT => hasF (ok__law_of ⟨_, _, F__law_of⟩ T (h__law_pull base hT)) m__law_of F__law_of.kp B__law_of
  have B__law_common : Binds K fd__law_common ["_law_one", "_law_other"] [] := F__law_common.bindsN fun _ _ _ _ _ _ us hl => match us, hl with | [_, _], _ => rfl
  have h__law_common : ∀ base : Heap, HT K mg base → HasF Pg w K mg (tbD K) base "_law_common" 1 2 (FR f__law_common) := fun base hT => hasF (ok__law_common ⟨_, _, F__law_common⟩ T ) m__law_common F__law_common.kp B__law_common
  have B__law_way_of : Binds K fd__law_way_of ["_law_cell"] [] := F__law_way_of.bindsN fun _ _ _ _ _ _ us hl => match us, hl with | [_], _ => rfl
  have h__law_way_of : ∀ base : Heap, HT K mg base → HasF Pg w K mg (tbD K) base "_law_way_of" 2 1 (FR f__law_way_of) := fun base hT => hasF (ok__law_way_of ⟨_, _, F__law_way_of⟩ T (h__law_common base hT)) m__law_way_of F__law_way_of.kp B__law_way_of
  have B__law_number : Binds K fd__law_number ["_law_bag_here", "_law_size"] [] := F__law_number.bindsN fun _ _ _ _ _ _ us hl => match us, hl with | [_, _], _ => rfl
  have h__law_number : ∀ base : Heap, HT K mg base → HasF Pg w K mg (tbD K) base "_law_number" 2 2 (FR f__law_number) := fun base hT => hasF (ok__law_number ⟨_, _, F__law_number⟩ T (h__law_pull base hT)) m__law_number F__law_number.kp B__law_number
  have B__law_way : Binds K fd__law_way ["_law_bag_here", "_law_size"] [] := F__law_way.bindsN fun _ _ _ _ _ _ us hl => match us, hl with | [_, _], _ => rfl
  have h__law_way : ∀ base : Heap, HT K mg base → HasF Pg w K mg (tbD K) base "_law_way" 3 2 (FR f__law_way) := fun base hT => hasF (ok__law_way ⟨_, _, F__law_way⟩ T (h__law_number base hT) (h__law_way_of base hT)) m__law_way F__law_way.kp B__law_way
  have B_product : Binds K fd_product ["one", "other"] [] := F_product.bindsN fun _ _ _ _ _ _ us hl => match us, hl with | [_, _], _ => rfl
  have h_product : ∀ base : Heap, HT K mg base → HasF Pg w K mg (tbD K) base "product" 1 2 (FR f_product) := fun base hT => hasF (ok_product ⟨_, _, F_product⟩ T ) m_product F_product.kp B_product
  have B_opens : Binds K fd_opens ["shape", "direction"] [] := F_opens.bindsN fun _ _ _ _ _ _ us hl => match us, hl with | [_, _], _ => rfl
  have h_opens : ∀ base : Heap, HT K mg base → HasF Pg w K mg (tbD K) base "opens" 2 2 (FR f_opens) := fun base hT => hasF (ok_opens ⟨_, _, F_opens⟩ T (h_product base hT)) m_opens F_opens.kp B_opens
  have B_opener : Binds K fd_opener ["book", "direction"] [] := F_opener.bindsN fun _ _ _ _ _ _ us hl => match us, hl with | [_, _], _ => rfl
  have h_opener : ∀ base : Heap, HT K mg base → HasF Pg w K mg (tbD K) base "opener" 5 2 (FR f_opener) := fun base hT => hasF (ok_opener ⟨_, _, F_opener⟩ T (h_need_direction base hT) (h_opens base hT) (m_Book_shapes_0 base hT)) m_opener F_opener.kp B_opener
  have m_opener_circle : mg "opener_circle" = some (.ref (He.ga K "opener")) := (He.glo_ok X G (c.d.fact 35 (f := .glo "opener_circle") rfl)).trans (congrArg (fun z => some (Value.ref z)) (eq_of_beq (He.ba (He.ba (He.ba (He.ba (He.ba (He.ba (He.ba (He.ba (He.ba (He.ba (He.ba c.more).2).2).2).2).2).2).2).2).2).2).1))
  have h_opener_circle : ∀ base : Heap, HT K mg base → HasF Pg w K mg (tbD K) base "opener_circle" 5 2 (FR f_opener) := fun base hT => hasF (ok_opener ⟨_, _, F_opener⟩ T (h_need_direction base hT) (h_opens base hT) (m_Book_shapes_0 base hT)) m_opener_circle F_opener.kp B_opener
  have B_is_open : Binds K fd_is_open ["book", "direction"] [] := F_is_open.bindsN fun _ _ _ _ _ _ us hl => match us, hl with | [_, _], _ => rfl
  have h_is_open : ∀ base : Heap, HT K mg base → HasF Pg w K mg (tbD K) base "is_open" 6 2 (FR f_is_open) := fun base hT => hasF (ok_is_open ⟨_, _, F_is_open⟩ T (h_opener_circle base hT)) m_is_open F_is_open.kp B_is_open
  have B__law_same : Binds K fd__law_same ["_law_found", "_law_due"] [] := F__law_same.bindsN fun _ _ _ _ _ _ us hl => match us, hl with | [_, _], _ => rfl
  have h__law_same : ∀ base : Heap, HT K mg base → HasF Pg w K mg (tbD K) base "_law_same" 7 2 (FR (f__law_same 6)) := fun base hT => (hasF (ok__law_same ⟨_, _, F__law_same⟩ m__law_same F__law_same.kp B__law_same T  6) m__law_same F__law_same.kp B__law_same).up (by decide)
  have B_Face_kind : Binds K fd_Face_kind ["self"] [] := F_Face_kind.bindsN fun _ _ _ _ _ _ us hl => match us, hl with | [_], _ => rfl
  have p_Face_kind : ∀ base : Heap, HT K mg base → HasPS Pg w K mg (tbD K) base "Face" "kind" 1 (FR f_Face_kind) := fun base hT => hasPrS (ok_Face_kind ⟨_, _, F_Face_kind⟩ T ) (He.glo_ok X G (c.d.fact 38 (f := .glo "Face") rfl)) (He.ba c.more).1 (He.ba (He.ba (He.ba (He.ba (He.ba (He.ba (He.ba (He.ba (He.ba (He.ba c.more).2).2).2).2).2).2).2).2).2).1 B_Face_kind
  have B_runs : Binds K fd_runs ["shape", "direction", "behind"] [] := F_runs.bindsN fun _ _ _ _ _ _ us hl => match us, hl with | [_, _, _], _ => rfl
  have h_runs : ∀ base : Heap, HT K mg base → HasF Pg w K mg (tbD K) base "runs" 2 3 (FR f_runs) := fun base hT => hasF (ok_runs ⟨_, _, F_runs⟩ T (h_product base hT)) m_runs F_runs.kp B_runs
  have B_first_run : Binds K fd_first_run ["book", "direction", "behind"] [] := F_first_run.bindsN fun _ _ _ _ _ _ us hl => match us, hl with | [_, _, _], _ => rfl
  have h_first_run : ∀ base : Heap, HT K mg base → HasF Pg w K mg (tbD K) base "first_run" 3 3 (FR f_first_run) := fun base hT => hasF (ok_first_run ⟨_, _, F_first_run⟩ T (h_runs base hT) (m_Book_shapes_0 base hT)) m_first_run F_first_run.kp B_first_run
  have B_Face___init__ : Binds K fd_Face___init__ ["self", "book", "direction"] [] := F_Face___init__.bindsN fun _ _ _ _ _ _ us hl => match us, hl with | [_, _, _], _ => rfl
  have k_Face_0 : ∀ base : Heap, HT K mg base → HasKS Pg w K mg (tbD K) base "Face" 6 3 [] (FR f_Face___init__) := fun base hT => hasKS (ok_Face___init__ ⟨_, _, F_Face___init__⟩ T (h_need_direction base hT) (h_opener_circle base hT) (h_right base hT) (h_first_run base hT) (h_left base hT) (m_Book_shapes_0 base hT)) (He.glo_ok X G (c.d.fact 38 (f := .glo "Face") rfl)) (He.mkr_ok (c.d.fact 41 (f := .mkr "Face") rfl)) B_Face___init__
  have Fn_law : Fun K "law" "law" s_law (He.fAd K d_law.at_) fd_law := toFun F_law
  have e := hfa.symm.trans m_law
  cases e
  have b := FunD.bindsA (ps := ["_law_script"]) F_law fun _ _ _ _ _ _ us hl => match us, hl with | [_], _ => rfl
  exact ⟨fd_law, fun s v => b s [v] rfl, fun base hT => ok_law ⟨_, _, F_law⟩ T (h__law_bag base hT) (h__law_model base hT) (h__law_made base hT) (h_ends base hT) (h__law_way base hT) (h__law_of base hT) (h__law_way_of base hT) (h_is_open base hT) (h__law_same base hT) (k_Face_0 base hT) (p_Face_kind base hT)⟩
end Lw
open PySem PySem.W PySem.Calls PyProof.Rows
theorem PySem.Challenge.cw_stillsides_k21_whole_faces_by_the_direct_holds : PySem.Challenge.rw_stillsides_k21_whole_faces_by_the_direct.Holds := by
  w_on; o_law
  refine HandSHeadRun.head_any (r := OpenLaw.row PySem.Challenge.rw_stillsides_k21_whole_faces_by_the_direct) (q := view (OpenLaw.row PySem.Challenge.rw_stillsides_k21_whole_faces_by_the_direct).prog [54]) (H := Lw.hk) (ob := Lw.ob) (M := 20000) (loose := Lw.names) (d := HandSHeadRun.topDef (OpenLaw.row PySem.Challenge.rw_stillsides_k21_whole_faces_by_the_direct).prog 54) (kwd := []) Lw.ob_eq
    (by kernel_rfl) (fun s => by kernel_rfl) Lw.run (by kernel_rfl) (by kernel_rfl) (by kernel_rfl) (by rfl) (by first | assumption | decide +kernel) (by decide +kernel) ⟨rfl, rfl, rfl, rfl, rfl, by decide +kernel⟩ ?hw ?hc
  case hw => w_witness2
  case hc =>
    refine LamX.walk_ofTsE (l := PySem.Challenge.rw_stillsides_k21_whole_faces_by_the_direct) (n := 63) (k := 8) (x := "_law_script") (CX := fun w => L2.CX PySem.Challenge.pw_stillsides_k21_whole_faces_by_the_direct w) rfl (by decide) (by kernel_rfl) ⟨rfl, by decide, by decide⟩ ?F (fun w H s e s' => fun ⟨_, _, _, _, _, _, _, _, _, _, _, _, z⟩ => z)
    intro w mg fa h Y G hmg0
    obtain ⟨K, KX, c⟩ := Y
    have hmg : mg ("law" : PySem.Str) = some (.ref fa) := by
      have e : (HandSHeadRun.topDef (OpenLaw.row PySem.Challenge.rw_stillsides_k21_whole_faces_by_the_direct).prog 54).name = ("law" : PySem.Str) := by kernel_rfl
      rw [← e]
      exact hmg0
    obtain ⟨fd, hb, hF⟩ := Lw.facts (w := w) KX G hmg c
    refine ⟨K, KX, fd, Lw.tfD.map (He.cT K), Dl.spG ⟨K, mg, Lw.tbD K, Lw.Pg, w⟩ 1 (Dl.FR Lw.f_law_v35), ?_, ?_, ?_, hb, fun H a ns hl _ hT hS => Dl.law_start (Dl.tb_start hT (by simp [Lw.tbD, Lw.tb0, Lw.tfD, Dl.oneT])) hS (Lw.law_true ns), fun base _ _ hT => hF base hT⟩
    · intro p hp
      obtain ⟨q, hq, rfl⟩ := List.mem_map.mp hp
      exact c.empty q hq
    · intro p hp
      obtain ⟨q, hq, rfl⟩ := List.mem_map.mp hp
      exact c.out q hq
    · intro p hp
      obtain ⟨q, hq, rfl⟩ := List.mem_map.mp hp
      exact PySem.W.codeHd_of_K KX (c.hd q hq)
