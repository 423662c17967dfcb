import PyProof.Rows.All
import Wide.All
import OpenK.AllK
import Wide.FinOn
import HandS.ForMost
import HandS.ForExc
import HandS.CallSlots
import HandS.TupAny
import HandS.TupMul
import HandS.Deep
import HandS.IsInst
import HandS.Conv
import HandS.Zip
import HandS.EndTab
import HandS.ExcInit
import HandS.ExcValue
import HandS.Style
import HandS.Codes
import HandS.TryMany
import HandS.TupSets
import HandS.SortRule
import HandS.HeadHook4
import HandS.HeadWalk
import HandS.Head2
import KE.GoesMore
import HandS.Iter
import HandS.MapJoin
import HandS.ExcField
import HandS.Dict
import HandS.ExcIs
import KE.KExcIs
import KE.KExcStr
import HandS.NoneIn
import HandS.Property
import HandS.ClsMeth
import KE.KOpsOwn
import KE.KCallOwn
import HandS.HotCalls
import KE.KWithOwn
import HandS.Finally
import HandS.FStr
import HandS.GenList
import PySem.Challenge.RW_hedgeworths_k16_refused_at_hedges
set_option Elab.async false
set_option linter.all false
set_option maxRecDepth 100000
set_option maxHeartbeats 4000000
/-! A data layer over the hand layer: values as whole data, a store of what may change, readings that run on these. -/
namespace DL
open PySem PySem.Spec PyProof.Rows L2

abbrev St := L2.St
/-! ### data -/
/-- a value told whole; ref: an object that is told by the store, or not at all; exc: an error held as a value, its class, its text, its own fields; lam: a lambda, its body, its names, the cells of the frame that made it -/
inductive D where
  | non | bl (b : Bool) | int (i : Int) | str (x : Str) | tup (l : List D) | lst (l : List D) | ref (a : Addr) | ty (n : String) | exc (C : Addr) (m : Option Str) (ns : List Str) (ds : List D)
  | lam (b : Expr) (sc : Scope) (cs : List (Str × Addr))

/-- a list that stands still -/
def FzL (K : PySem.W.Frag) (H : Hp) (a : Addr) (xs : List V) : Prop :=
  (∃ o, H a = some (.frz o (.lst xs))) ∨
    ∃ (o : Obj) (its : Array Value) (n : Nat), K.lookup a = some o ∧ o.cls = .type "list" ∧ o.dict = none ∧ o.data = .seq its n ∧ its.size ≤ sizeLine ∧ Vals xs its.toList
theorem FzL.sq {K : PySem.W.Frag} {H : Hp} {a : Addr} {xs : List V} (h : FzL K H a xs) : SqL K H a xs := by
  rcases h with ⟨o, h⟩ | h
  · exact .inl (.inr ⟨o, h⟩)
  · exact .inr h

/-- an error's own dict, standing still -/
def XDict (H : Hp) (d : Option Addr) (ws : List (Str × V)) : Prop := match d with
  | none => ws = []
  | some dx => ∃ od, H dx = some (.frz od (exd dx ws))
/-- an error held as a value -/
def ExcAt (H : Hp) (a C : Addr) (m : Option Str) (ws : List (Str × V)) : Prop := ∃ (o : Obj) (u : HO) (t : Addr) (vs : Array Value), H a = some (.frz o u) ∧ o.cls = .ref C ∧ o.data = .fields vs ∧ vs[0]? = some (.ref t) ∧ (∀ x, m = some x → H t = some (.tup [.str x])) ∧ XDict H o.dict ws

/-- the object of a lambda without parameters -/
def FunO (a : Addr) (q : Str) (params : Arguments) (b : Expr) (sc : Scope) (cs : List (Str × Addr)) (pm : Value) (c' : Addr) (ctv : Value) : HO := .ext fun h => h.get? a = some (PySem.W.kla_obj "<lambda>" q params b sc (cloFrom cs sc.names []) pm c' ctv)
/-- a lambda held as a value -/
def LamAt (H : Hp) (a : Addr) (b : Expr) (sc : Scope) (cs : List (Str × Addr)) : Prop := ∃ (q : Str) (params : Arguments) (pm : Value) (c' : Addr) (ctv : Value), H a = some (FunO a q params b sc cs pm c' ctv) ∧ H c' = some (LamX.CodeO c' q) ∧
  ∀ (q : Str) (cl : List (Str × Addr)) (pm cv ctv : Value), bindArgs (PySem.W.kla_fn "<lambda>" q params b sc cl pm cv ctv) ⟨[], []⟩ = pure []
/-- a cell that is told -/
def CellO (c : Addr) (w : Value) : HO := .ext fun h => h.IsCell c (some w)
theorem heap_of (n : Nat) : ∃ h : Heap, h.objs.size = n := by
  induction n with
  | zero => exact ⟨⟨#[], {}⟩, rfl⟩
  | succ n ih =>
    obtain ⟨h, e⟩ := ih
    exact ⟨⟨h.objs.push { cls := .none, data := .cell none }, {}⟩, by simp [e]⟩
theorem heap_cell (c : Addr) (w : Value) : ∃ h : Heap, h.get? c = some { cls := .none, data := .cell (some w) } := by
  obtain ⟨h, e⟩ := heap_of c
  subst e
  exact ⟨_, Heap.get?_push_size h rfl⟩
theorem ext_ne {φ : Heap → Prop} {c : Addr} {w : Value} (n : ∀ h : Heap, φ h → ∀ o, h.get? c = some o → ∀ v, o.data ≠ .cell v) : HO.ext φ ≠ CellO c w := fun e => by
  have q : φ = fun h => h.IsCell c (some w) := HO.ext.inj e
  obtain ⟨h, eh⟩ := heap_cell c w
  have x : φ h := by rw [q]; exact ⟨_, eh, rfl⟩
  exact n h x _ eh _ rfl
theorem funO_ne {a : Addr} {q : Str} {params : Arguments} {b : Expr} {sc : Scope} {cs : List (Str × Addr)} {pm : Value} {c' : Addr} {ctv w : Value} : FunO a q params b sc cs pm c' ctv ≠ CellO a w := ext_ne fun h x o e v z => by
  rw [x] at e
  cases e
  cases z
theorem codeO_ne {c : Addr} {q : Str} {w : Value} : LamX.CodeO c q ≠ CellO c w := ext_ne fun h ⟨oc, vs, t, x1, x2, x3⟩ o e v z => by
  rw [x1] at e
  cases e
  rw [x2] at z
  cases z

mutual
inductive Rep (K : PySem.W.Frag) (H : Hp) : V → D → Prop
  | non : Rep K H .non .non
  | bl (b : Bool) : Rep K H (.bl b) (.bl b)
  | int (i : Int) : Rep K H (.int i) (.int i)
  | str (x : Str) : Rep K H (.str x) (.str x)
  | ref (a : Addr) : Rep K H (.ref a) (.ref a)
  | ty (n : String) : Rep K H (.ty n) (.ty n)
  | tup {a : Addr} {vs : List V} {ds : List D} : SqT K H a vs → Reps K H vs ds → Rep K H (.ref a) (.tup ds)
  | lst {a : Addr} {vs : List V} {ds : List D} : FzL K H a vs → Reps K H vs ds → Rep K H (.ref a) (.lst ds)
  | exc {a C : Addr} {m : Option Str} {ws : List (Str × V)} {ds : List D} : ExcAt H a C m ws → Reps K H (ws.map (·.2)) ds → Rep K H (.ref a) (.exc C m (ws.map (·.1)) ds)
  | lam {a : Addr} {b : Expr} {sc : Scope} {cs : List (Str × Addr)} : LamAt H a b sc cs → Rep K H (.ref a) (.lam b sc cs)
inductive Reps (K : PySem.W.Frag) (H : Hp) : List V → List D → Prop
  | nil : Reps K H [] []
  | cons {v : V} {vs : List V} {d : D} {ds : List D} : Rep K H v d → Reps K H vs ds → Reps K H (v :: vs) (d :: ds)
end

/-- the tables of lambdas' code objects that there are, each with the name that its objects bear -/
class TabList where
  T : List (Addr × Str)
variable [TL : TabList]
/-- what stands still is as it was -/
def Stay (H H' : Hp) : Prop := (∀ b xs, H b = some (.tup xs) → H' b = some (.tup xs)) ∧ (∀ b o u, H b = some (.frz o u) → H' b = some (.frz o u)) ∧ (LamX.Tabs TL.T H → LamX.Tabs TL.T H') ∧ ∀ b f, H b = some (.ext f) → (∀ w, HO.ext f ≠ CellO b w) → H' b = some (.ext f)
theorem Stay.refl (H : Hp) : Stay H H := ⟨fun _ _ h => h, fun _ _ _ h => h, fun h => h, fun _ _ h _ => h⟩
theorem Stay.trans {H H1 H2 : Hp} (a : Stay H H1) (b : Stay H1 H2) : Stay H H2 := ⟨fun c xs h => b.1 c xs (a.1 c xs h), fun c o u h => b.2.1 c o u (a.2.1 c o u h), fun h => b.2.2.1 (a.2.2.1 h), fun c f h n => b.2.2.2 c f (a.2.2.2 c f h n) n⟩
/-- a thing that is neither a tuple nor still is laid or changed -/
theorem Stay.chg {H : Hp} {a : Addr} {o : HO} (h : ∀ u, H a = some u → (∀ xs, u ≠ .tup xs) ∧ (∀ ob w, u ≠ .frz ob w) ∧ (∀ ps, u ≠ .tbl ps) ∧ ∀ f, u ≠ .ext f) : Stay H (upd H a o) := by
  refine ⟨fun b xs e => ?_, fun b ob u e => ?_, fun tt p hp => ?_, fun b f e _ => ?_⟩
  · rw [upd_ne (fun z => by rw [z] at e; exact (h _ e).1 xs rfl)]; exact e
  · rw [upd_ne (fun z => by rw [z] at e; exact (h _ e).2.1 ob u rfl)]; exact e
  · obtain ⟨ps, e1, e2, e3⟩ := tt p hp
    refine ⟨ps, by rw [upd_ne (fun z => by rw [z] at e1; exact (h _ e1).2.2.1 ps rfl)]; exact e1, e2, fun pos cv hc => ?_⟩
    obtain ⟨c, e4, e5⟩ := e3 pos cv hc
    exact ⟨c, e4, by rw [upd_ne (fun z => by rw [z] at e5; exact (h _ e5).2.2.2 _ rfl)]; exact e5⟩
  · rw [upd_ne (fun z => by rw [z] at e; exact (h _ e).2.2.2 f rfl)]; exact e
theorem Stay.new {H : Hp} {a : Addr} {o : HO} (h : H a = none) : Stay H (upd H a o) := .chg fun u e => by rw [h] at e; cases e
theorem Stay.lst {H : Hp} {a : Addr} {o : HO} {xs : List V} (h : H a = some (.lst xs)) : Stay H (upd H a o) := .chg fun u e => by
  rw [h] at e; cases e; exact ⟨fun _ z => HO.noConfusion z, fun _ _ z => HO.noConfusion z, fun _ z => HO.noConfusion z, fun _ z => HO.noConfusion z⟩
theorem Stay.sqt {K : PySem.W.Frag} {H H' : Hp} {a : Addr} {xs : List V} (s : Stay H H') (h : SqT K H a xs) : SqT K H' a xs := by
  rcases h with (h | ⟨o, h⟩) | h
  · exact .inl (.inl (s.1 _ _ h))
  · exact .inl (.inr ⟨o, s.2.1 _ _ _ h⟩)
  · exact .inr h
theorem Stay.fzl {K : PySem.W.Frag} {H H' : Hp} {a : Addr} {xs : List V} (s : Stay H H') (h : FzL K H a xs) : FzL K H' a xs := by
  rcases h with ⟨o, h⟩ | h
  · exact .inl ⟨o, s.2.1 _ _ _ h⟩
  · exact .inr h

theorem LamAt.st {H H' : Hp} {a : Addr} {b : Expr} {sc : Scope} {cs : List (Str × Addr)} (h : LamAt H a b sc cs) (s : Stay H H') : LamAt H' a b sc cs := by
  obtain ⟨q, params, pm, c', ctv, h1, h2, h3⟩ := h
  exact ⟨q, params, pm, c', ctv, s.2.2.2 _ _ h1 (fun w => funO_ne), s.2.2.2 _ _ h2 (fun w => codeO_ne), h3⟩
theorem ExcAt.st {H H' : Hp} {a C : Addr} {m : Option Str} {ws : List (Str × V)} (h : ExcAt H a C m ws) (s : Stay H H') : ExcAt H' a C m ws := by
  obtain ⟨o, u, t, vs, h1, h2, h3, h4, h5, h6⟩ := h
  refine ⟨o, u, t, vs, s.2.1 _ _ _ h1, h2, h3, h4, fun x e => s.1 _ _ (h5 x e), ?_⟩
  revert h6
  cases o.dict with
  | none => exact fun h => h
  | some dx => exact fun ⟨od, h⟩ => ⟨od, s.2.1 _ _ _ h⟩
section
variable {K : PySem.W.Frag} {H H' : Hp}
mutual
theorem Rep.stay (s : Stay H H') : ∀ (d : D) (v : V), Rep K H v d → Rep K H' v d
  | .non, _, .non => .non
  | .bl b, _, .bl _ => .bl b
  | .int i, _, .int _ => .int i
  | .str x, _, .str _ => .str x
  | .ref a, _, .ref _ => .ref a
  | .ty n, _, .ty _ => .ty n
  | .tup ds, _, .tup h r => .tup (s.sqt h) (Reps.stay s ds _ r)
  | .lst ds, _, .lst h r => .lst (s.fzl h) (Reps.stay s ds _ r)
  | .exc _ _ _ ds, _, .exc h r => .exc (h.st s) (Reps.stay s ds _ r)
  | .lam _ _ _, _, .lam h => .lam (h.st s)
theorem Reps.stay (s : Stay H H') : ∀ (ds : List D) (vs : List V), Reps K H vs ds → Reps K H' vs ds
  | [], _, .nil => .nil
  | d :: ds, _, .cons h r => .cons (Rep.stay s d _ h) (Reps.stay s ds _ r)
end
theorem Rep.st {v : V} {d : D} (h : Rep K H v d) (s : Stay H H') : Rep K H' v d := Rep.stay s d v h
theorem Reps.st {vs : List V} {ds : List D} (h : Reps K H vs ds) (s : Stay H H') : Reps K H' vs ds := Reps.stay s ds vs h
theorem Reps.len : ∀ {vs : List V} {ds : List D}, Reps K H vs ds → vs.length = ds.length
  | _, _, .nil => rfl
  | _, _, .cons _ r => by rw [List.length_cons, List.length_cons, r.len]
theorem Reps.app : ∀ {vs ws : List V} {ds es : List D}, Reps K H vs ds → Reps K H ws es → Reps K H (vs ++ ws) (ds ++ es)
  | _, _, _, _, .nil, r => r
  | _, _, _, _, .cons h t, r => .cons h (t.app r)
theorem Reps.get : ∀ {vs : List V} {ds : List D} {i : Nat} {d : D}, Reps K H vs ds → ds[i]? = some d → ∃ v, vs[i]? = some v ∧ Rep K H v d
  | _, _, _, _, .nil, e => by simp at e
  | _, _, 0, _, .cons h _, e => by simp at e; subst e; exact ⟨_, rfl, h⟩
  | _, _, i + 1, _, .cons _ t, e => by
    obtain ⟨v, h1, h2⟩ := t.get (i := i) (by simpa using e)
    exact ⟨v, by simpa using h1, h2⟩
theorem Reps.getV : ∀ {vs : List V} {ds : List D} {i : Nat} {v : V}, Reps K H vs ds → vs[i]? = some v → ∃ d, ds[i]? = some d ∧ Rep K H v d
  | _, _, _, _, .nil, e => by simp at e
  | _, _, 0, _, .cons h _, e => by simp at e; subst e; exact ⟨_, rfl, h⟩
  | _, _, i + 1, _, .cons _ t, e => by
    obtain ⟨v, h1, h2⟩ := t.getV (i := i) (by simpa using e)
    exact ⟨v, by simpa using h1, h2⟩
theorem Reps.take : ∀ {vs : List V} {ds : List D} (n : Nat), Reps K H vs ds → Reps K H (vs.take n) (ds.take n)
  | _, _, 0, _ => .nil
  | _, _, _ + 1, .nil => .nil
  | _, _, n + 1, .cons r t => .cons r (t.take n)
theorem Reps.drop : ∀ {vs : List V} {ds : List D} (n : Nat), Reps K H vs ds → Reps K H (vs.drop n) (ds.drop n)
  | _, _, 0, r => r
  | _, _, _ + 1, .nil => .nil
  | _, _, n + 1, .cons _ t => t.drop n
theorem Reps.set {x : V} {d : D} (r : Rep K H x d) : ∀ {vs : List V} {ds : List D} (i : Nat), Reps K H vs ds → Reps K H (vs.set i x) (ds.set i d)
  | _, _, _, .nil => .nil
  | _, _, 0, .cons _ t => .cons r t
  | _, _, i + 1, .cons q t => .cons q (Reps.set r i t)
theorem Reps.rev {vs : List V} {ds : List D} (h : Reps K H vs ds) : Reps K H vs.reverse ds.reverse := by
  induction vs generalizing ds with
  | nil => cases h; exact .nil
  | cons v vs ih =>
    cases h with
    | cons h t => rw [List.reverse_cons, List.reverse_cons]; exact (ih t).app (.cons h .nil)
theorem Reps.ints : ∀ {vs : List V} {ns : List Int}, Reps K H vs (ns.map D.int) → vs = ns.map V.int
  | _, [], .nil => rfl
  | _, n :: ns, .cons h t => by cases h; rw [List.map_cons, t.ints]
theorem Reps.bls : ∀ {vs : List V} {ns : List Bool}, Reps K H vs (ns.map D.bl) → vs = ns.map V.bl
  | _, [], .nil => rfl
  | _, n :: ns, .cons h t => by cases h; rw [List.map_cons, t.bls]
theorem Reps.strs : ∀ {vs : List V} {ns : List Str}, Reps K H vs (ns.map D.str) → vs = ns.map V.str
  | _, [], .nil => rfl
  | _, n :: ns, .cons h t => by cases h; rw [List.map_cons, t.strs]
theorem Reps.ofInts : ∀ (ns : List Int), Reps K H (ns.map V.int) (ns.map D.int)
  | [] => .nil
  | n :: ns => .cons (.int n) (Reps.ofInts ns)
theorem Reps.ofStrs : ∀ (ns : List Str), Reps K H (ns.map V.str) (ns.map D.str)
  | [] => .nil
  | n :: ns => .cons (.str n) (Reps.ofStrs ns)
theorem Reps.ofBls : ∀ (ns : List Bool), Reps K H (ns.map V.bl) (ns.map D.bl)
  | [] => .nil
  | n :: ns => .cons (.bl n) (Reps.ofBls ns)
end

/-! ### the store: what may change -/
inductive O where
  | lst (ds : List D)
  | dK (kvs : List (Key × D))
  | dT (kvs : List (List Key × D))
  | ins (C : Addr) (fs : List (Str × D))
  | cell (d : D)

abbrev Mm := Addr → Option O
def put (M : Mm) (a : Addr) (o : O) : Mm := fun b => if b = a then some o else M b
theorem put_same {M : Mm} {a : Addr} {o : O} : put M a o a = some o := by unfold put; rw [if_pos rfl]
theorem put_ne {M : Mm} {a b : Addr} {o : O} (h : b ≠ a) : put M a o b = M b := by unfold put; rw [if_neg h]
theorem put_put {M : Mm} {a : Addr} {o u : O} : put (put M a o) a u = put M a u := by
  funext b; unfold put; split <;> rfl
def mnil : Mm := fun _ => none
/-- less is told -/
def Le (M M' : Mm) : Prop := ∀ a o, M a = some o → M' a = some o
theorem Le.refl (M : Mm) : Le M M := fun _ _ h => h
theorem Le.trans {M M1 M2 : Mm} (a : Le M M1) (b : Le M1 M2) : Le M M2 := fun c o h => b c o (a c o h)
theorem Le.put {M : Mm} {a : Addr} {o : O} (h : M a = none) : Le M (put M a o) := fun b u e => by
  rw [put_ne (fun z => by rw [z, h] at e; cases e)]; exact e
theorem Le.puts {M M' : Mm} {a : Addr} {o : O} (h : Le M M') : Le (DL.put M a o) (DL.put M' a o) := fun b u e => by
  by_cases hb : b = a
  · subst hb; rw [put_same] at e ⊢; exact e
  · rw [put_ne hb] at e ⊢; exact h b u e
theorem Le.putr {M M' : Mm} {a : Addr} {o : O} (h : Le M M') (n : M a = none) : Le M (DL.put M' a o) := fun b u e => by
  rw [put_ne (fun z => by rw [z, n] at e; cases e)]; exact h b u e
theorem Le.none {M M' : Mm} (h : Le M M') {a : Addr} (e : M' a = none) : M a = none := by
  cases q : M a with
  | none => rfl
  | some o => rw [h a o q] at e; cases e
theorem Le.nil (M : Mm) : Le mnil M := fun _ _ e => by cases e

def RepKV (K : PySem.W.Frag) (H : Hp) {κ : Type} (ws : List (κ × V)) (kvs : List (κ × D)) : Prop := ws.map (·.1) = kvs.map (·.1) ∧ Reps K H (ws.map (·.2)) (kvs.map (·.2))
theorem RepKV.st {K : PySem.W.Frag} {H H' : Hp} {κ : Type} {ws : List (κ × V)} {kvs : List (κ × D)} (h : RepKV K H ws kvs) (s : Stay H H') : RepKV K H' ws kvs := ⟨h.1, h.2.st s⟩

def ObjR (K : PySem.W.Frag) (H : Hp) (a : Addr) : O → Prop
  | .lst ds => ∃ vs, H a = some (.lst vs) ∧ Reps K H vs ds
  | .dK kvs => ∃ ws, H a = some (.dK ws) ∧ RepKV K H ws kvs
  | .dT kvs => ∃ ws, H a = some (.dT ws) ∧ RepKV K H ws kvs
  | .ins C fs => ∃ dx ws, H a = some (.ins C dx ws) ∧ H dx = some (.own a) ∧ RepKV K H ws fs
  | .cell d => ∃ w v, H a = some (CellO a w) ∧ RelV v w ∧ Rep K H v d
structure RelM (K : PySem.W.Frag) (H : Hp) (M : Mm) : Prop where
  obj : ∀ a o, M a = some o → ObjR K H a o
  tabs : LamX.Tabs TL.T H
instance (K : PySem.W.Frag) (H : Hp) (M : Mm) : CoeFun (RelM K H M) (fun _ => ∀ a o, M a = some o → ObjR K H a o) := ⟨RelM.obj⟩
def RelS (K : PySem.W.Frag) (H : Hp) (σ : St) (sd : List (Option D)) : Prop := σ.length = sd.length ∧ ∀ (i : Nat) (d : D), sd[i]? = some (some d) → ∃ v, σ[i]? = some (some v) ∧ Rep K H v d
abbrev SD := List (Option D)

section
variable {K : PySem.W.Frag} {H H' : Hp} {M M' : Mm} {a : Addr} {o : O} {σ : St} {sd : SD}
theorem ObjR.there (h : ObjR K H a o) : ∃ u, H a = some u ∧ Mut (some u) ∧ ∀ y, u ≠ .own y := by
  cases o with
  | lst ds => obtain ⟨vs, e, _⟩ := h; exact ⟨_, e, True.intro, fun _ z => HO.noConfusion z⟩
  | dK kvs => obtain ⟨vs, e, _⟩ := h; exact ⟨_, e, True.intro, fun _ z => HO.noConfusion z⟩
  | dT kvs => obtain ⟨vs, e, _⟩ := h; exact ⟨_, e, True.intro, fun _ z => HO.noConfusion z⟩
  | ins C fs => obtain ⟨dx, vs, e, _⟩ := h; exact ⟨_, e, True.intro, fun _ z => HO.noConfusion z⟩
  | cell d => obtain ⟨w, v, e, _⟩ := h; exact ⟨_, e, True.intro, fun _ z => HO.noConfusion z⟩
theorem RelM.free (h : RelM K H M) (e : H a = none) : M a = none := by
  cases q : M a with
  | none => rfl
  | some o => obtain ⟨u, z, _⟩ := (h a o q).there; rw [e] at z; cases z
theorem RelM.le (h : RelM K H M) (l : Le M' M) : RelM K H M' := ⟨fun a o e => h a o (l a o e), h.tabs⟩
/-- an object is laid or changed; all others stand where they stood -/
theorem RelM.put {u : HO} (h : RelM K H M) (s : Stay H (upd H a u)) (no : ∀ y, H a ≠ some (.own y)) (new : ObjR K (upd H a u) a o) : RelM K (upd H a u) (put M a o) := ⟨fun b q e => by
  by_cases hb : b = a
  · subst hb; rw [put_same] at e; cases e; exact new
  · rw [put_ne hb] at e
    have x := h b q e
    cases q with
    | lst ds => obtain ⟨vs, z, r⟩ := x; exact ⟨vs, by rw [upd_ne hb]; exact z, r.st s⟩
    | cell d => obtain ⟨w, v, z, rv, r⟩ := x; exact ⟨w, v, by rw [upd_ne hb]; exact z, rv, r.st s⟩
    | dK kvs => obtain ⟨vs, z, r⟩ := x; exact ⟨vs, by rw [upd_ne hb]; exact z, r.st s⟩
    | dT kvs => obtain ⟨vs, z, r⟩ := x; exact ⟨vs, by rw [upd_ne hb]; exact z, r.st s⟩
    | ins C fs =>
      obtain ⟨dx, vs, z, ow, r⟩ := x
      exact ⟨dx, vs, by rw [upd_ne hb]; exact z, by rw [upd_ne (fun e' => by rw [e'] at ow; exact no _ ow)]; exact ow, r.st s⟩, s.2.2.1 h.tabs⟩
/-- a thing is laid that the store does not tell -/
theorem RelM.lay {u : HO} (h : RelM K H M) (n : H a = none) : RelM K (upd H a u) M := ⟨fun b q e => by
  have s : Stay H (upd H a u) := .new n
  have hb : b ≠ a := fun z => by
    obtain ⟨w, e1, _⟩ := (h b q e).there
    rw [z, n] at e1; cases e1
  have x := h b q e
  cases q with
  | lst ds => obtain ⟨vs, z, r⟩ := x; exact ⟨vs, by rw [upd_ne hb]; exact z, r.st s⟩
  | cell d => obtain ⟨w, v, z, rv, r⟩ := x; exact ⟨w, v, by rw [upd_ne hb]; exact z, rv, r.st s⟩
  | dK kvs => obtain ⟨vs, z, r⟩ := x; exact ⟨vs, by rw [upd_ne hb]; exact z, r.st s⟩
  | dT kvs => obtain ⟨vs, z, r⟩ := x; exact ⟨vs, by rw [upd_ne hb]; exact z, r.st s⟩
  | ins C fs =>
    obtain ⟨dx, vs, z, ow, r⟩ := x
    exact ⟨dx, vs, by rw [upd_ne hb]; exact z, by rw [upd_ne (ne_of_none ow n)]; exact ow, r.st s⟩, (Stay.new n : Stay H (upd H a u)).2.2.1 h.tabs⟩
/-- a list that the store does not tell is changed -/
theorem RelM.hid {vs : List V} {u : HO} (h : RelM K H M) (n : M a = none) (ha : H a = some (.lst vs)) : RelM K (upd H a u) M := ⟨fun b q e => by
  have hb : b ≠ a := fun z => by rw [z, n] at e; cases e
  have s : Stay H (upd H a u) := .lst ha
  have x := h b q e
  cases q with
  | lst ds => obtain ⟨vs, z, r⟩ := x; exact ⟨vs, by rw [upd_ne hb]; exact z, r.st s⟩
  | cell d => obtain ⟨w, v, z, rv, r⟩ := x; exact ⟨w, v, by rw [upd_ne hb]; exact z, rv, r.st s⟩
  | dK kvs => obtain ⟨vs, z, r⟩ := x; exact ⟨vs, by rw [upd_ne hb]; exact z, r.st s⟩
  | dT kvs => obtain ⟨vs, z, r⟩ := x; exact ⟨vs, by rw [upd_ne hb]; exact z, r.st s⟩
  | ins C fs =>
    obtain ⟨dx, vs, z, ow, r⟩ := x
    exact ⟨dx, vs, by rw [upd_ne hb]; exact z, by rw [upd_ne (fun e' => by rw [e', ha] at ow; cases ow)]; exact ow, r.st s⟩, (Stay.lst ha : Stay H (upd H a u)).2.2.1 h.tabs⟩
theorem RelM.newLst {vs : List V} {ds : List D} (h : RelM K H M) (n : H a = none) (r : Reps K H vs ds) : RelM K (upd H a (.lst vs)) (DL.put M a (.lst ds)) :=
  h.put (.new n) (fun y z => by rw [n] at z; cases z) ⟨vs, upd_same, r.st (.new n)⟩
theorem RelM.setLst {vs vs' : List V} {ds : List D} (h : RelM K H M) (n : H a = some (.lst vs')) (r : Reps K H vs ds) : RelM K (upd H a (.lst vs)) (DL.put M a (.lst ds)) :=
  h.put (.lst n) (fun y z => by rw [n] at z; cases z) ⟨vs, upd_same, r.st (.lst n)⟩
theorem RelS.st (h : RelS K H σ sd) (s : Stay H H') : RelS K H' σ sd := ⟨h.1, fun i d e => by
  obtain ⟨v, e1, r⟩ := h.2 i d e
  exact ⟨v, e1, r.st s⟩⟩
theorem RelS.set {i : Nat} {v : V} {d : D} (h : RelS K H σ sd) (r : Rep K H v d) : RelS K H (σ.set i (some v)) (sd.set i (some d)) := by
  refine ⟨by rw [List.length_set, List.length_set]; exact h.1, fun j e q => ?_⟩
  by_cases hj : j = i
  · subst hj
    by_cases hl : j < sd.length
    · rw [List.getElem?_set_self hl] at q; cases q
      exact ⟨v, by rw [List.getElem?_set_self (by rw [h.1]; exact hl)], r⟩
    · rw [List.getElem?_eq_none (by rw [List.length_set]; omega)] at q; cases q
  · rw [List.getElem?_set_ne (Ne.symm hj)] at q ⊢
    exact h.2 j e q
theorem RelS.setN {i : Nat} {x : Option V} (h : RelS K H σ sd) : RelS K H (σ.set i x) (sd.set i none) := by
  refine ⟨by rw [List.length_set, List.length_set]; exact h.1, fun j e q => ?_⟩
  by_cases hj : j = i
  · subst hj
    by_cases hl : j < sd.length
    · rw [List.getElem?_set_self hl] at q; cases q
    · rw [List.getElem?_eq_none (by rw [List.length_set]; omega)] at q; cases q
  · rw [List.getElem?_set_ne (Ne.symm hj)] at q ⊢
    exact h.2 j e q
end

/-- what was tracked and not told by the store is as it was, and not told -/
structure Kp (M : Mm) (H : Hp) (M' : Mm) (H' : Hp) : Prop where
  stay : Stay H H'
  keep : ∀ a o, H a = some o → M a = none → (∀ ps, o ≠ .tbl ps) → H' a = some o ∧ M' a = none
  live : ∀ a o, H a = some o → (∀ ps, o ≠ .tbl ps) → ∃ o', H' a = some o' ∧ ∀ ps, o' ≠ .tbl ps
theorem upd_there {H : Hp} {a b : Addr} {o : HO} (h : upd H a o b = none) : H b = none := by
  by_cases e : b = a
  · subst e; rw [upd_same] at h; cases h
  · rw [upd_ne e] at h; exact h
theorem Kp.refl (M : Mm) (H : Hp) : Kp M H M H := ⟨.refl H, fun _ _ e n _ => ⟨e, n⟩, fun _ o e w => ⟨o, e, w⟩⟩
theorem Kp.trans {M M1 M2 : Mm} {H H1 H2 : Hp} (a : Kp M H M1 H1) (b : Kp M1 H1 M2 H2) : Kp M H M2 H2 := ⟨a.stay.trans b.stay, fun c o e n w => let ⟨e1, n1⟩ := a.keep c o e n w; b.keep c o e1 n1 w, fun c o e w => let ⟨o1, e1, w1⟩ := a.live c o e w; b.live c o1 e1 w1⟩
theorem live_upd {H : Hp} {a : Addr} {u : HO} (hu : H a = none ∨ ∀ ps, u ≠ .tbl ps) (b : Addr) (o : HO) (e : H b = some o) (w : ∀ ps, o ≠ .tbl ps) : ∃ o', upd H a u b = some o' ∧ ∀ ps, o' ≠ .tbl ps := by
  by_cases hb : b = a
  · subst hb
    rcases hu with h | h
    · rw [h] at e; cases e
    · exact ⟨u, upd_same, h⟩
  · exact ⟨o, by rw [upd_ne hb]; exact e, w⟩
/-- a new thing that the store does not tell -/
theorem Kp.new {M : Mm} {H : Hp} {a : Addr} {o : HO} (h : H a = none) : Kp M H M (upd H a o) := ⟨.new h, fun b u e n _ => ⟨by rw [upd_ne (ne_of_none e h)]; exact e, n⟩, live_upd (.inl h)⟩
theorem Kp.newT {M : Mm} {H : Hp} {a : Addr} {o : HO} {u : O} (h : H a = none) : Kp M H (put M a u) (upd H a o) := ⟨.new h, fun b w e n _ => ⟨by rw [upd_ne (ne_of_none e h)]; exact e, by rw [put_ne (ne_of_none e h)]; exact n⟩, live_upd (.inl h)⟩
/-- a told thing is changed -/
theorem Kp.set {M : Mm} {H : Hp} {a : Addr} {o : HO} {u w : O} (s : Stay H (upd H a o)) (h : M a = some w) (ht : ∀ ps, o ≠ .tbl ps := by intro _ z; exact HO.noConfusion z) : Kp M H (put M a u) (upd H a o) := ⟨s, fun b x e n _ => by
  have hb : b ≠ a := fun z => by rw [z, h] at n; cases n
  exact ⟨by rw [upd_ne hb]; exact e, by rw [put_ne hb]; exact n⟩, live_upd (.inr ht)⟩
/-- less is told -/
theorem Kp.le {M M1 M2 : Mm} {H H' : Hp} (a : Kp M H M1 H') (l : Le M2 M1) : Kp M H M2 H' := ⟨a.stay, fun c o e n w => let ⟨e1, n1⟩ := a.keep c o e n w; ⟨e1, l.none n1⟩, a.live⟩

/-! ### readings over data -/
/-- the fields of an exception -/
abbrev Fs := List (Str × D)
abbrev KE := D → Mm → Prop
abbrev KX := Value → Fs → Mm → Prop
abbrev WE := SD → Mm → KE → KX → Prop
abbrev WT := SD → Mm → (Bool → Mm → Prop) → KX → Prop
abbrev WA := SD → Mm → (List D → Mm → Prop) → KX → Prop
structure EndsD where
  nx : SD → Mm → Prop
  rt : KE
  bk : SD → Mm → Prop := fun _ _ => False
  ct : SD → Mm → Prop := fun _ _ => False
  ex : Value → Fs → SD → Mm → Prop := fun _ _ _ _ => False
abbrev WS := EndsD → SD → Mm → Prop
abbrev WG := D → SD → Mm → (SD → Mm → Prop) → KX → Prop

/-- how an exception's own dict tells its fields -/
def RepX (K : PySem.W.Frag) (H : Hp) (d : Option Addr) (fs : Fs) : Prop :=
  match d with
  | none => fs = []
  | some dd => ∃ ws, H dd = some (.xd ws) ∧ RepKV K H ws fs

section
variable (K : PySem.W.Frag)
/-- what is wished of an exception, by data -/
def PostX (H : Hp) (M : Mm) (σ : St) (sd : SD) (kx : KX) (Wx : WX) : Prop := ∀ cls d H' fs M', RepX K H' d fs → RelS K H' σ sd → RelM K H' M' → Kp M H M' H' → kx cls fs M' → Wx cls d σ H'
def PostE (H : Hp) (M : Mm) (σ : St) (sd : SD) (k : KE) (Q : VK) : Prop := ∀ v H' d M', Rep K H' v d → RelS K H' σ sd → RelM K H' M' → Kp M H M' H' → k d M' → Q v H'
def PostT (H : Hp) (M : Mm) (σ : St) (sd : SD) (k : Bool → Mm → Prop) (Q : Bool → Hp → Prop) : Prop := ∀ b H' M', RelS K H' σ sd → RelM K H' M' → Kp M H M' H' → k b M' → Q b H'
def PostA (H : Hp) (M : Mm) (σ : St) (sd : SD) (k : List D → Mm → Prop) (Q : List V → Hp → Prop) : Prop := ∀ vs H' ds M', Reps K H' vs ds → RelS K H' σ sd → RelM K H' M' → Kp M H M' H' → k ds M' → Q vs H'
def PostS (H : Hp) (M : Mm) (k : SD → Mm → Prop) (Q : St → Hp → Prop) : Prop := ∀ σ' H' sd' M', RelS K H' σ' sd' → RelM K H' M' → Kp M H M' H' → k sd' M' → Q σ' H'
def PostR (H : Hp) (M : Mm) (k : KE) (Q : VK) : Prop := ∀ v H' d M', Rep K H' v d → RelM K H' M' → Kp M H M' H' → k d M' → Q v H'
def PostW (H : Hp) (M : Mm) (k : Value → Fs → SD → Mm → Prop) (Wx : WX) : Prop := ∀ cls d σ' H' fs sd' M', RepX K H' d fs → RelS K H' σ' sd' → RelM K H' M' → Kp M H M' H' → k cls fs sd' M' → Wx cls d σ' H'
def toTE (Wx : WX) (w : WE) : TE := fun σ H Q => ∃ sd M k kx, RelS K H σ sd ∧ RelM K H M ∧ w sd M k kx ∧ PostE K H M σ sd k Q ∧ PostX K H M σ sd kx Wx
def toTT (Wx : WX) (w : WT) : TT := fun σ H Q => ∃ sd M k kx, RelS K H σ sd ∧ RelM K H M ∧ w sd M k kx ∧ PostT K H M σ sd k Q ∧ PostX K H M σ sd kx Wx
def toTA (Wx : WX) (w : WA) : TA := fun σ H Q => ∃ sd M k kx, RelS K H σ sd ∧ RelM K H M ∧ w sd M k kx ∧ PostA K H M σ sd k Q ∧ PostX K H M σ sd kx Wx
structure EndsR (H : Hp) (M : Mm) (ED : EndsD) (E : Ends) (Wx : WX) : Prop where
  nx : PostS K H M ED.nx E.nx
  rt : PostR K H M ED.rt E.rt
  bk : PostS K H M ED.bk E.bk
  ct : PostS K H M ED.ct E.ct
  ex : PostW K H M ED.ex Wx
def toTS (Wx : WX) (w : WS) : TS := fun E σ H => ∃ ED sd M, RelS K H σ sd ∧ RelM K H M ∧ w ED sd M ∧ EndsR K H M ED E Wx
end

section
variable {K : PySem.W.Frag} {H H' : Hp} {M M1 : Mm} {σ : St} {sd : SD} {Wx : WX}
theorem PostX.st {kx : KX} (p : PostX K H M σ sd kx Wx) (s : Kp M H M1 H') : PostX K H' M1 σ sd kx Wx := fun cls d H2 fs M' a b c e f => p cls d H2 fs M' a b c (s.trans e) f
theorem PostE.st {k : KE} {Q : VK} (p : PostE K H M σ sd k Q) (s : Kp M H M1 H') : PostE K H' M1 σ sd k Q := fun v H2 d M' a b c e f => p v H2 d M' a b c (s.trans e) f
theorem PostT.st {k : Bool → Mm → Prop} {Q : Bool → Hp → Prop} (p : PostT K H M σ sd k Q) (s : Kp M H M1 H') : PostT K H' M1 σ sd k Q := fun v H2 M' b c e f => p v H2 M' b c (s.trans e) f
theorem PostA.st {k : List D → Mm → Prop} {Q : List V → Hp → Prop} (p : PostA K H M σ sd k Q) (s : Kp M H M1 H') : PostA K H' M1 σ sd k Q := fun v H2 d M' a b c e f => p v H2 d M' a b c (s.trans e) f
theorem PostS.st {k : SD → Mm → Prop} {Q : St → Hp → Prop} (p : PostS K H M k Q) (s : Kp M H M1 H') : PostS K H' M1 k Q := fun v H2 d M' b c e f => p v H2 d M' b c (s.trans e) f
theorem PostR.st {k : KE} {Q : VK} (p : PostR K H M k Q) (s : Kp M H M1 H') : PostR K H' M1 k Q := fun v H2 d M' a c e f => p v H2 d M' a c (s.trans e) f
theorem PostW.st {k : Value → Fs → SD → Mm → Prop} (p : PostW K H M k Wx) (s : Kp M H M1 H') : PostW K H' M1 k Wx := fun cls d s2 H2 fs d2 M' a b c e f => p cls d s2 H2 fs d2 M' a b c (s.trans e) f
theorem EndsR.st {ED : EndsD} {E : Ends} (p : EndsR K H M ED E Wx) (s : Kp M H M1 H') : EndsR K H' M1 ED E Wx := ⟨p.nx.st s, p.rt.st s, p.bk.st s, p.ct.st s, p.ex.st s⟩
theorem PostW.at {k : Value → Fs → SD → Mm → Prop} (p : PostW K H M k Wx) : PostX K H M σ sd (fun cls fs M' => k cls fs sd M') Wx := fun cls d H' fs M' a b c e f => p cls d σ H' fs sd M' a b c e f
theorem RelS.kp (h : RelS K H σ sd) (s : Kp M H M1 H') : RelS K H' σ sd := h.st s.stay
theorem Rep.kp {v : V} {d : D} (h : Rep K H v d) (s : Kp M H M1 H') : Rep K H' v d := h.st s.stay
theorem Reps.kp {v : List V} {d : List D} (h : Reps K H v d) (s : Kp M H M1 H') : Reps K H' v d := h.st s.stay
end

/-- the judgements: under whatever wish the context takes -/
def SE (X : Cx) (e : Expr) (w : WE) : Prop := ∀ Wx, Takes X Wx → PE X e (toTE X.K Wx w)
def ST (X : Cx) (e : Expr) (w : WT) : Prop := ∀ Wx, Takes X Wx → PT X e (toTT X.K Wx w)
def SB (X : Cx) (e : Expr) (w : WT) : Prop := ∀ Wx, Takes X Wx → PW X e (toTT X.K Wx w)
def SA (X : Cx) (es : List Expr) (w : WA) : Prop := ∀ Wx, Takes X Wx → PA X es (toTA X.K Wx w)
def SS (X : Cx) (st : Stmt) (w : WS) : Prop := ∀ Wx, Takes X Wx → PS X st (toTS X.K Wx w)
def SSs (X : Cx) (st : List Stmt) (w : WS) : Prop := ∀ Wx, Takes X Wx → PSs X st (toTS X.K Wx w)

theorem PE.imp {X : Cx} {e : Expr} {t t' : TE} (h : PE X e t) (i : ∀ σ H Q, t' σ H Q → t σ H Q) : PE X e t' := ⟨fun p s σ H Q I q => h.run p s σ H Q I (i σ H Q q)⟩
theorem PT.imp {X : Cx} {e : Expr} {t t' : TT} (h : PT X e t) (i : ∀ σ H Q, t' σ H Q → t σ H Q) : PT X e t' := ⟨fun p s σ H Q I q => h.run p s σ H Q I (i σ H Q q)⟩
theorem PW.imp {X : Cx} {e : Expr} {t t' : TT} (h : PW X e t) (i : ∀ σ H Q, t' σ H Q → t σ H Q) : PW X e t' := ⟨fun w p s σ H Q I q => h.run w p s σ H Q I (i σ H Q q)⟩
theorem PA.imp {X : Cx} {e : List Expr} {t t' : TA} (h : PA X e t) (i : ∀ σ H Q, t' σ H Q → t σ H Q) : PA X e t' := ⟨fun w p s σ H Q I q => h.run w p s σ H Q I (i σ H Q q)⟩
theorem PS.imp {X : Cx} {e : Stmt} {t t' : TS} (h : PS X e t) (i : ∀ E σ H, t' E σ H → t E σ H) : PS X e t' := ⟨fun p s σ H E I q => h.run p s σ H E I (i E σ H q)⟩
theorem PSs.imp {X : Cx} {e : List Stmt} {t t' : TS} (h : PSs X e t) (i : ∀ E σ H, t' E σ H → t E σ H) : PSs X e t' := ⟨fun p s σ H E I q => h.run p s σ H E I (i E σ H q)⟩
theorem PG.imp {X : Cx} {e : Expr} {t t' : TG} (h : PG X e t) (i : ∀ v σ H Q, t' v σ H Q → t v σ H Q) : PG X e t' := ⟨fun p s σ H v u Q I r q => h.run p s σ H v u Q I r (i v σ H Q q)⟩
end DL
namespace DL
open PySem PySem.Spec PyProof.Rows L2
variable [TL : TabList]

/-- two ways by a truth -/
structure sel (b : Bool) (A B : Prop) : Prop where
  of : if b = true then A else B
theorem sel_t {A B : Prop} (h : A) : sel true A B := ⟨h⟩
theorem sel_f {A B : Prop} (h : B) : sel false A B := ⟨h⟩
theorem sel_by {b : Bool} {A B : Prop} (h1 : b = true → A) (h2 : b = false → B) : sel b A B := by
  cases b with
  | true => exact ⟨h1 rfl⟩
  | false => exact ⟨h2 rfl⟩
theorem sel_of {b : Bool} {A B : Prop} (h : sel b A B) : if b = true then A else B := h.of
theorem sel_eq {b c : Bool} {A B : Prop} (e : b = c) (h : sel c A B) : sel b A B := by rw [e]; exact h
theorem sel_dec {p : Prop} [Decidable p] {A B : Prop} (h1 : p → A) (h2 : ¬ p → B) : sel (decide p) A B :=
  sel_by (fun h => h1 (of_decide_eq_true h)) fun h => h2 (of_decide_eq_false h)
@[reducible] def bnot : Bool → Bool
  | true => false
  | false => true
theorem bnot_eq (b : Bool) : bnot b = !b := by cases b <;> rfl
theorem bnot_fun : bnot = not := funext bnot_eq
theorem sel_not {b : Bool} {A B : Prop} (h : sel b B A) : sel (bnot b) A B := by cases b <;> exact ⟨h.of⟩
theorem sel_both {b : Bool} {A B : Prop} (h1 : A) (h2 : B) : sel b A B := sel_by (fun _ => h1) fun _ => h2

section
variable {X : Cx} {e a b c : Expr} {es : List Expr} {w wa wb wc : WE} {wt : WT} {ws : WA} {pos : Pos}

/-! ### names and constants -/
@[reducible] def slotD : SD → Nat → Option D
  | [], _ => none
  | x :: _, 0 => x
  | _ :: r, i + 1 => slotD r i
theorem slotD_get : ∀ {sd : SD} {i : Nat} {d : D}, slotD sd i = some d → sd[i]? = some (some d)
  | [], _, _, h => by cases h
  | x :: _, 0, d, h => by have h : x = some d := h; subst h; rfl
  | _ :: r, i + 1, d, h => by
    have q := slotD_get (sd := r) (i := i) h
    simpa using q
@[reducible] def onSome (o : Option D) (k : D → Prop) : Prop := match o with
  | some d => k d
  | none => False
theorem onSome_ex {o : Option D} {k : D → Prop} (h : onSome o k) : ∃ d, o = some d ∧ k d := by
  cases o with
  | none => exact h.elim
  | some d => exact ⟨d, rfl, h⟩
@[reducible] def wVar (i : Nat) : WE := fun sd M k _ => onSome (slotD sd i) fun d => k d M
@[reducible] def wC (d : D) : WE := fun _ M k _ => k d M
theorem e_var {i : Nat} (h : PE X e (tVar i)) : SE X e (wVar i) := fun Wx _ => PE.imp h fun σ H Q q => by
  obtain ⟨sd, M, k, kx, rs, rm, h, p, _⟩ := q
  obtain ⟨d, e1, hk⟩ := onSome_ex h
  obtain ⟨v, e2, r⟩ := rs.2 i d (slotD_get e1)
  exact ⟨v, e2, p v H d M r rs rm (.refl _ _) hk⟩
/-- the name in slot i -/
theorem ev (i : Nat) {x : Str} (hN : X.N[i]? = some x := by rfl) (hv : Vis X.env.scope x := by first | exact Or.inl rfl | exact Or.inr (Or.inl rfl) | exact Or.inr (Or.inr rfl)) (hd : (x == ("__debug__" : Str)) = false := by decide)
    (hcd : (x == ("__classdict__" : Str)) = false := by decide) : SE X (.Name x pos) (wVar i) := e_var (pe_var hN hv hd hcd)
theorem e_c {v : V} {d : D} (h : PE X e (tC v)) (r : ∀ H, Rep X.K H v d) : SE X e (wC d) := fun Wx _ => PE.imp h fun σ H Q q => by
  obtain ⟨sd, M, k, kx, rs, rm, h, p, _⟩ := q
  exact p v H d M (r H) rs rm (.refl _ _) h
theorem e_int {i : Int} {j} : SE X (.Constant (.int i) j pos) (wC (.int i)) := e_c pe_int fun _ => .int i
theorem e_bl {i : Bool} {j} : SE X (.Constant (.bool i) j pos) (wC (.bl i)) := e_c pe_bl fun _ => .bl i
theorem e_non {j} : SE X (.Constant .none j pos) (wC .non) := e_c pe_non fun _ => .non
theorem e_str {x : Str} {j} : SE X (.Constant (.str x) j pos) (wC (.str x)) := e_c pe_str fun _ => .str x
theorem e_glob {x : Str} {v : V} {d : D} {u : Value} (hg : Gl X x) (hm : X.mg x = some u) (r : RelV v u) (rd : ∀ H, Rep X.K H v d) (hd : (x == ("__debug__" : Str)) = false := by decide) : SE X (.Name x pos) (wC d) := e_c (pe_glob hg hm r hd) rd
theorem e_bltn {x : Str} {n : String} (hg : Gl X x) (hm : X.mg x = none) (hv : bootBuiltins x = some (.type n)) (hn : x ≠ "__name__" := by decide) (hd : (x == ("__debug__" : Str)) = false := by decide) : SE X (.Name x pos) (wC (.ty n)) := e_c (v := .ty n) (pe_bltn hg hm hv rfl hn hd) fun _ => .ty n

/-- less is told behind: what was made on the way is dropped -/
@[reducible] def wGc (w : WE) : WE := fun sd M k kx => w sd M (fun d M' => Le M M' ∧ k d M) fun c fs M' => Le M M' ∧ kx c fs M
theorem e_gc (h : SE X e w) : SE X e (wGc w) := fun Wx tk => PE.imp (h Wx tk) fun σ H Q ⟨sd, M, k, kx, rs, rm, h, p, px⟩ =>
  ⟨sd, M, _, _, rs, rm, h, fun v H' d M' r rs' rm' st ⟨l, q⟩ => p v H' d M r rs' (rm'.le l) (st.le l) q, fun cls d H' fs M' r rs' rm' st ⟨l, q⟩ => px cls d H' fs M r rs' (rm'.le l) (st.le l) q⟩
/-- a weaker reading -/
theorem e_imp {w' : WE} (h : SE X e w) (i : ∀ sd M k kx, w' sd M k kx → w sd M k kx) : SE X e w' := fun Wx tk => PE.imp (h Wx tk) fun σ H Q ⟨sd, M, k, kx, rs, rm, h, p, px⟩ => ⟨sd, M, k, kx, rs, rm, i _ _ _ _ h, p, px⟩

/-! ### operators -/
abbrev OPD := D → D → Mm → KE → Prop
/-- an operation on data -/
def OpD (X : Cx) (f : Value → Value → Sem Value) (r : OPD) : Prop :=
  OpR X f (fun x y H Q => ∃ dx dy M k, Rep X.K H x dx ∧ Rep X.K H y dy ∧ RelM X.K H M ∧ r dx dy M k ∧ PostR X.K H M k Q)
theorem OpR.imp {f : Value → Value → Sem Value} {r r' : R2} (h : OpR X f r) (i : ∀ x y H Q, r' x y H Q → r x y H Q) : OpR X f r' := fun p s σ H x y v u Q I rx ry q => h p s σ H x y v u Q I rx ry (i _ _ _ _ q)
@[reducible] def kB2 (r : OPD) (d : D) (k : KE) : KE := fun d' M => r d d' M k
@[reducible] def kB1 (r : OPD) (wb : WE) (sd : SD) (k : KE) (kx : KX) : KE := fun d M => wb sd M (kB2 r d k) kx
@[reducible] def wOp (r : OPD) (wa wb : WE) : WE := fun sd M k kx => wa sd M (kB1 r wb sd k kx) kx
theorem bin_imp {K : PySem.W.Frag} {Wx : WX} {r : OPD} {σ : St} {H : Hp} {Q : VK} (h : toTE K Wx (wOp r wa wb) σ H Q) :
    tOp (fun x y H Q => ∃ dx dy M k, Rep K H x dx ∧ Rep K H y dy ∧ RelM K H M ∧ r dx dy M k ∧ PostR K H M k Q) (toTE K Wx wa) (toTE K Wx wb) σ H Q := by
  obtain ⟨sd, M, k, kx, rs, rm, h, p, px⟩ := h
  refine ⟨sd, M, _, kx, rs, rm, h, fun v H1 d M1 r1 rs1 rm1 s1 h1 => ?_, px⟩
  refine ⟨sd, M1, _, kx, rs1, rm1, h1, fun v2 H2 d2 M2 r2 rs2 rm2 s2 h2 => ?_, px.st s1⟩
  exact ⟨d, d2, M2, k, r1.kp s2, r2, rm2, h2, fun v3 H3 d3 M3 r3 rm3 s3 h3 => p v3 H3 d3 M3 r3 (rs2.kp s3) rm3 ((s1.trans s2).trans s3) h3⟩
theorem e_op {op : Operator} {r : OPD} (ho : OpD X (binaryOp op) r) (ha : SE X a wa) (hb : SE X b wb) : SE X (.BinOp a op b pos) (wOp r wa wb) := fun Wx tk =>
  PE.imp (pe_op ho (ha Wx tk) (hb Wx tk)) fun _ _ _ h => bin_imp h
theorem e_cmp {op : CmpOp} {r : OPD} (ho : OpD X (compareOp op) r) (ha : SE X a wa) (hb : SE X b wb) (hm : behindInMarks op b = false) : SE X (.Compare a [op] [b] pos) (wOp r wa wb) := fun Wx tk =>
  PE.imp (pe_cmpR ho (ha Wx tk) (hb Wx tk) hm) fun _ _ _ h => bin_imp h
/-- a value as a test: it is a truth -/
@[reducible] def asB (d : D) (k : Bool → Prop) : Prop := match d with
  | .bl b => k b
  | _ => False
theorem asB_ex {d : D} {k : Bool → Prop} (h : asB d k) : ∃ b, d = .bl b ∧ k b := by
  cases d with
  | bl b => exact ⟨b, rfl, h⟩
  | _ => exact h.elim
@[reducible] def kTst (k : Bool → Mm → Prop) : KE := fun d M => asB d fun b => k b M
@[reducible] def wTst (w : WE) : WT := fun sd M k kx => w sd M (kTst k) kx
theorem tst_imp {K : PySem.W.Frag} {Wx : WX} {σ : St} {H : Hp} {Q : Bool → Hp → Prop} (h : toTT K Wx (wTst w) σ H Q) : tTest (toTE K Wx w) σ H Q := by
  obtain ⟨sd, M, k, kx, rs, rm, h, p, px⟩ := h
  refine ⟨sd, M, _, kx, rs, rm, h, fun v H1 d M1 r1 rs1 rm1 s1 h1 => ?_, px⟩
  obtain ⟨b, rfl, h1⟩ := asB_ex h1
  cases r1
  exact ⟨b, rfl, p b H1 M1 rs1 rm1 s1 h1⟩
theorem t_cmp {op : CmpOp} {r : OPD} (ho : OpD X (compareOp op) r) (ha : SE X a wa) (hb : SE X b wb) (hm : behindInMarks op b = false) : ST X (.Compare a [op] [b] pos) (wTst (wOp r wa wb)) := fun Wx tk =>
  PT.imp (pt_cmpR ho (ha Wx tk) (hb Wx tk) hm) fun σ H Q h => by
    obtain ⟨sd, M, k, kx, rs, rm, h, p, px⟩ := h
    refine bin_imp (Wx := Wx) (wa := wa) (wb := wb) ⟨sd, M, _, kx, rs, rm, h, fun v H1 d M1 r1 rs1 rm1 s1 h1 => ?_, px⟩
    obtain ⟨b, rfl, h1⟩ := asB_ex h1
    cases r1
    exact ⟨b, rfl, p b H1 M1 rs1 rm1 s1 h1⟩
/-- an expression whose value is a truth, as a test -/
theorem t_val (h : SE X e w) (he : ∀ whole, isTrue e X.env whole = (do let v ← whole; standAt e.pos; holding [v] (truthy v)) := by intro _; rfl) : ST X e (wTst w) := fun Wx tk =>
  PT.imp (pt_val (h Wx tk) he) fun σ H Q h => tst_imp h

/-- a op b op' c -/
@[reducible] def kCh3 (r' : OPD) (dy : D) (k : KE) : KE := fun d M => r' dy d M k
@[reducible] def kCh2 (r' : OPD) (wc : WE) (sd : SD) (dy : D) (k : KE) (kx : KX) : KE := fun d M => asB d fun b => sel b (wc sd M (kCh3 r' dy k) kx) (k (.bl false) M)
@[reducible] def kCh1 (r r' : OPD) (dx : D) (wc : WE) (sd : SD) (k : KE) (kx : KX) : KE := fun dy M => r dx dy M (kCh2 r' wc sd dy k kx)
@[reducible] def kCh0 (r r' : OPD) (wb wc : WE) (sd : SD) (k : KE) (kx : KX) : KE := fun dx M => wb sd M (kCh1 r r' dx wc sd k kx) kx
@[reducible] def wChain (r r' : OPD) (wa wb wc : WE) : WE := fun sd M k kx => wa sd M (kCh0 r r' wb wc sd k kx) kx
theorem chain_imp {K : PySem.W.Frag} {Wx : WX} {r r' : OPD} {σ : St} {H : Hp} {Q : VK} (h : toTE K Wx (wChain r r' wa wb wc) σ H Q) :
    tChain (fun x y H Q => ∃ dx dy M k, Rep K H x dx ∧ Rep K H y dy ∧ RelM K H M ∧ r dx dy M k ∧ PostR K H M k Q) (fun x y H Q => ∃ dx dy M k, Rep K H x dx ∧ Rep K H y dy ∧ RelM K H M ∧ r' dx dy M k ∧ PostR K H M k Q)
      (toTE K Wx wa) (toTE K Wx wb) (toTE K Wx wc) σ H Q := by
  obtain ⟨sd, M, k, kx, rs, rm, h, p, px⟩ := h
  refine ⟨sd, M, _, kx, rs, rm, h, fun v H1 d M1 r1 rs1 rm1 s1 h1 => ?_, px⟩
  refine ⟨sd, M1, _, kx, rs1, rm1, h1, fun v2 H2 d2 M2 r2 rs2 rm2 s2 h2 => ?_, px.st s1⟩
  refine ⟨d, d2, M2, _, r1.kp s2, r2, rm2, h2, fun v3 H3 d3 M3 r3 rm3 s3 h3 => ?_⟩
  obtain ⟨bb, rfl, h3⟩ := asB_ex h3
  cases r3
  refine ⟨bb, rfl, ?_⟩
  have s123 := (s1.trans s2).trans s3
  cases bb with
  | false => exact p _ H3 _ M3 (.bl false) (rs2.kp s3) rm3 s123 h3.of
  | true =>
    refine ⟨sd, M3, _, kx, rs2.kp s3, rm3, h3.of, fun v4 H4 d4 M4 r4 rs4 rm4 s4 h4 => ?_, px.st s123⟩
    exact ⟨d2, d4, M4, k, (r2.kp s3).kp s4, r4, rm4, h4, fun v5 H5 d5 M5 r5 rm5 s5 h5 => p v5 H5 d5 M5 r5 (rs4.kp s5) rm5 ((s123.trans s4).trans s5) h5⟩
theorem e_chain {op op' : CmpOp} {r r' : OPD} (ho : OpD X (compareOp op) r) (ho' : OpD X (compareOp op') r') (ha : SE X a wa) (hb : SE X b wb) (hc : SE X c wc)
    (hm : lastMarks [op, op'] [b, c] = false := by with_unfolding_all rfl) : SE X (.Compare a [op, op'] [b, c] pos) (wChain r r' wa wb wc) := fun Wx tk =>
  PE.imp (pe_chain ho ho' (ha Wx tk) (hb Wx tk) (hc Wx tk) hm) fun _ _ _ h => chain_imp h
theorem t_chain {op op' : CmpOp} {r r' : OPD} (ho : OpD X (compareOp op) r) (ho' : OpD X (compareOp op') r') (ha : SE X a wa) (hb : SE X b wb) (hc : SE X c wc)
    (hm : lastMarks [op, op'] [b, c] = false := by with_unfolding_all rfl) : ST X (.Compare a [op, op'] [b, c] pos) (wTst (wChain r r' wa wb wc)) := fun Wx tk =>
  PT.imp (pt_chain ho ho' (ha Wx tk) (hb Wx tk) (hc Wx tk) hm) fun σ H Q h => by
    obtain ⟨sd, M, k, kx, rs, rm, h, p, px⟩ := h
    refine chain_imp (Wx := Wx) (wa := wa) (wb := wb) (wc := wc) ⟨sd, M, _, kx, rs, rm, h, fun v H1 d M1 r1 rs1 rm1 s1 h1 => ?_, px⟩
    obtain ⟨b, rfl, h1⟩ := asB_ex h1
    cases r1
    exact ⟨b, rfl, p b H1 M1 rs1 rm1 s1 h1⟩

/-! ### and, or, not -/
@[reducible] def kAndV (wb : WE) (sd : SD) (k : KE) (kx : KX) : KE := fun d M => asB d fun b => sel b (wb sd M k kx) (k (.bl false) M)
@[reducible] def kOrV (wb : WE) (sd : SD) (k : KE) (kx : KX) : KE := fun d M => asB d fun b => sel b (k (.bl true) M) (wb sd M k kx)
@[reducible] def kNotV (k : KE) : KE := fun d M => asB d fun b => k (.bl (bnot b)) M
@[reducible] def wAndV (wa wb : WE) : WE := fun sd M k kx => wa sd M (kAndV wb sd k kx) kx
@[reducible] def wOrV (wa wb : WE) : WE := fun sd M k kx => wa sd M (kOrV wb sd k kx) kx
@[reducible] def wNotV (wa : WE) : WE := fun sd M k kx => wa sd M (kNotV k) kx
variable {rest : List Expr}
theorem e_and1 {op} (h : SE X a w) : SE X (.BoolOp op [a] pos) w := fun Wx tk => pe_one (h Wx tk)
theorem e_and (ha : SE X a wa) (hb : SE X (.BoolOp .And (b :: rest) pos) wb) : SE X (.BoolOp .And (a :: b :: rest) pos) (wAndV wa wb) := fun Wx tk =>
  PE.imp (pe_and (ha Wx tk) (hb Wx tk)) fun σ H Q h => by
    obtain ⟨sd, M, k, kx, rs, rm, h, p, px⟩ := h
    refine ⟨sd, M, _, kx, rs, rm, h, fun v H1 d M1 r1 rs1 rm1 s1 h1 => ?_, px⟩
    obtain ⟨bb, rfl, h1⟩ := asB_ex h1
    cases r1
    refine ⟨bb, rfl, ?_⟩
    cases bb with
    | false => exact p _ H1 _ M1 (.bl false) rs1 rm1 s1 h1.of
    | true => exact ⟨sd, M1, k, kx, rs1, rm1, h1.of, p.st s1, px.st s1⟩
theorem e_or (ha : SE X a wa) (hb : SE X (.BoolOp .Or (b :: rest) pos) wb) : SE X (.BoolOp .Or (a :: b :: rest) pos) (wOrV wa wb) := fun Wx tk =>
  PE.imp (pe_or (ha Wx tk) (hb Wx tk)) fun σ H Q h => by
    obtain ⟨sd, M, k, kx, rs, rm, h, p, px⟩ := h
    refine ⟨sd, M, _, kx, rs, rm, h, fun v H1 d M1 r1 rs1 rm1 s1 h1 => ?_, px⟩
    obtain ⟨bb, rfl, h1⟩ := asB_ex h1
    cases r1
    refine ⟨bb, rfl, ?_⟩
    cases bb with
    | true => exact p _ H1 _ M1 (.bl true) rs1 rm1 s1 h1.of
    | false => exact ⟨sd, M1, k, kx, rs1, rm1, h1.of, p.st s1, px.st s1⟩
theorem e_not (ha : SE X a wa) : SE X (.UnaryOp .Not a pos) (wNotV wa) := fun Wx tk =>
  PE.imp (pe_not (ha Wx tk)) fun σ H Q h => by
    obtain ⟨sd, M, k, kx, rs, rm, h, p, px⟩ := h
    refine ⟨sd, M, _, kx, rs, rm, h, fun v H1 d M1 r1 rs1 rm1 s1 h1 => ?_, px⟩
    obtain ⟨bb, rfl, h1⟩ := asB_ex h1
    cases r1
    exact ⟨bb, rfl, p _ H1 _ M1 (.bl _) rs1 rm1 s1 (by rw [← bnot_eq]; exact h1)⟩
/-- as tests -/
@[reducible] def kAnd (wb : WT) (sd : SD) (k : Bool → Mm → Prop) (kx : KX) : Bool → Mm → Prop := fun b M => sel b (wb sd M k kx) (k false M)
@[reducible] def kOr (wb : WT) (sd : SD) (k : Bool → Mm → Prop) (kx : KX) : Bool → Mm → Prop := fun b M => sel b (k true M) (wb sd M k kx)
@[reducible] def kNot (k : Bool → Mm → Prop) : Bool → Mm → Prop := fun b M => k (bnot b) M
@[reducible] def wAnd (wa wb : WT) : WT := fun sd M k kx => wa sd M (kAnd wb sd k kx) kx
@[reducible] def wOr (wa wb : WT) : WT := fun sd M k kx => wa sd M (kOr wb sd k kx) kx
@[reducible] def wNot (wa : WT) : WT := fun sd M k kx => wa sd M (kNot k) kx
variable {ta tb : WT}
theorem b_and1 (h : ST X a ta) : SB X (.BoolOp .And [a] pos) ta := fun Wx tk => pw_and1 (h Wx tk)
theorem b_or1 (h : ST X a ta) : SB X (.BoolOp .Or [a] pos) ta := fun Wx tk => pw_or1 (h Wx tk)
theorem b_and (ha : ST X a ta) (hb : SB X (.BoolOp .And (b :: rest) pos) tb) : SB X (.BoolOp .And (a :: b :: rest) pos) (wAnd ta tb) := fun Wx tk =>
  PW.imp (pw_and (ha Wx tk) (hb Wx tk)) fun σ H Q h => by
    obtain ⟨sd, M, k, kx, rs, rm, h, p, px⟩ := h
    refine ⟨sd, M, _, kx, rs, rm, h, fun bb H1 M1 rs1 rm1 s1 h1 => ?_, px⟩
    cases bb with
    | false => exact p _ H1 M1 rs1 rm1 s1 h1.of
    | true => exact ⟨sd, M1, k, kx, rs1, rm1, h1.of, p.st s1, px.st s1⟩
theorem b_or (ha : ST X a ta) (hb : SB X (.BoolOp .Or (b :: rest) pos) tb) : SB X (.BoolOp .Or (a :: b :: rest) pos) (wOr ta tb) := fun Wx tk =>
  PW.imp (pw_or (ha Wx tk) (hb Wx tk)) fun σ H Q h => by
    obtain ⟨sd, M, k, kx, rs, rm, h, p, px⟩ := h
    refine ⟨sd, M, _, kx, rs, rm, h, fun bb H1 M1 rs1 rm1 s1 h1 => ?_, px⟩
    cases bb with
    | true => exact p _ H1 M1 rs1 rm1 s1 h1.of
    | false => exact ⟨sd, M1, k, kx, rs1, rm1, h1.of, p.st s1, px.st s1⟩
theorem t_bool (h : SB X e ta) : ST X e ta := fun Wx tk => (h Wx tk).pt
theorem t_not (ha : ST X a ta) : ST X (.UnaryOp .Not a pos) (wNot ta) := fun Wx tk =>
  PT.imp (pt_not (ha Wx tk)) fun σ H Q h => by
    obtain ⟨sd, M, k, kx, rs, rm, h, p, px⟩ := h
    exact ⟨sd, M, _, kx, rs, rm, h, fun bb H1 M1 rs1 rm1 s1 h1 => p _ H1 M1 rs1 rm1 s1 (by rw [← bnot_eq]; exact h1), px⟩
@[reducible] def kIfE (wa wb : WE) (sd : SD) (k : KE) (kx : KX) : Bool → Mm → Prop := fun b M => sel b (wa sd M k kx) (wb sd M k kx)
@[reducible] def wIfE (wt : WT) (wa wb : WE) : WE := fun sd M k kx => wt sd M (kIfE wa wb sd k kx) kx
theorem e_if (hc : ST X c wt) (ha : SE X a wa) (hb : SE X b wb) : SE X (.IfExp c a b pos) (wIfE wt wa wb) := fun Wx tk =>
  PE.imp (pe_ifExp (hc Wx tk) (ha Wx tk) (hb Wx tk)) fun σ H Q h => by
    obtain ⟨sd, M, k, kx, rs, rm, h, p, px⟩ := h
    refine ⟨sd, M, _, kx, rs, rm, h, fun bb H1 M1 rs1 rm1 s1 h1 => ?_, px⟩
    cases bb with
    | true => exact ⟨sd, M1, k, kx, rs1, rm1, h1.of, p.st s1, px.st s1⟩
    | false => exact ⟨sd, M1, k, kx, rs1, rm1, h1.of, p.st s1, px.st s1⟩

/-! ### argument lists and displays -/
@[reducible] def kAC2 (d : D) (k : List D → Mm → Prop) : List D → Mm → Prop := fun ds M => k (d :: ds) M
@[reducible] def kAC1 (wr : WA) (sd : SD) (k : List D → Mm → Prop) (kx : KX) : KE := fun d M => wr sd M (kAC2 d k) kx
@[reducible] def wNil : WA := fun _ M k _ => k [] M
@[reducible] def wCons (wa : WE) (wr : WA) : WA := fun sd M k kx => wa sd M (kAC1 wr sd k kx) kx
theorem a_nil : SA X [] wNil := fun Wx tk => PA.imp pa_nil fun σ H Q h => by
  obtain ⟨sd, M, k, kx, rs, rm, h, p, px⟩ := h
  exact p [] H [] M .nil rs rm (.refl _ _) h
theorem a_cons (ha : SE X e wa) (hr : SA X es ws) (hs : starEach (e :: es) X.env = (false, eval e X.env) :: starEach es X.env := by rfl) : SA X (e :: es) (wCons wa ws) := fun Wx tk =>
  PA.imp (pa_cons (ha Wx tk) (hr Wx tk) hs) fun σ H Q h => by
    obtain ⟨sd, M, k, kx, rs, rm, h, p, px⟩ := h
    refine ⟨sd, M, _, kx, rs, rm, h, fun v H1 d M1 r1 rs1 rm1 s1 h1 => ?_, px⟩
    refine ⟨sd, M1, _, kx, rs1, rm1, h1, fun vs H2 ds M2 r2 rs2 rm2 s2 h2 => ?_, px.st s1⟩
    exact p _ H2 _ M2 (.cons (r1.kp s2) r2) rs2 rm2 (s1.trans s2) h2
@[reducible] def kTup (k : KE) : List D → Mm → Prop := fun ds M => ds.length ≤ sizeLine ∧ k (.tup ds) M
@[reducible] def wTup (ws : WA) : WE := fun sd M k kx => ws sd M (kTup k) kx
theorem Reps.newTup {K : PySem.W.Frag} {H : Hp} {p : Addr} {vs : List V} {ds : List D} (n : H p = none) (r : Reps K H vs ds) : Rep K (upd H p (.tup vs)) (.ref p) (.tup ds) :=
  .tup (SqT.of upd_same) (r.st (.new n))
theorem e_tup {x1} (h : SA X es ws) : SE X (.Tuple es x1 pos) (wTup ws) := fun Wx tk =>
  PE.imp (pe_tup (h Wx tk)) fun σ H Q h => by
    obtain ⟨sd, M, k, kx, rs, rm, h, p, px⟩ := h
    refine ⟨sd, M, _, kx, rs, rm, h, fun vs H1 ds M1 r1 rs1 rm1 s1 h1 => ⟨by rw [r1.len]; exact h1.1, fun q hq => ?_⟩, px⟩
    exact p _ _ _ M1 (r1.newTup hq) (rs1.st (.new hq)) (rm1.lay hq) (s1.trans (.new hq)) h1.2
/-- a list that may be changed -/
@[reducible] def kLst (k : KE) : List D → Mm → Prop := fun ds M => ds.length ≤ sizeLine ∧ ∀ p, M p = none → k (.ref p) (put M p (.lst ds))
@[reducible] def wLst (ws : WA) : WE := fun sd M k kx => ws sd M (kLst k) kx
theorem e_lst (h : SA X es ws) : SE X (.List es pos) (wLst ws) := fun Wx tk =>
  PE.imp (pe_lst (h Wx tk)) fun σ H Q h => by
    obtain ⟨sd, M, k, kx, rs, rm, h, p, px⟩ := h
    refine ⟨sd, M, _, kx, rs, rm, h, fun vs H1 ds M1 r1 rs1 rm1 s1 h1 => ⟨by rw [r1.len]; exact h1.1, fun q hq => ?_⟩, px⟩
    exact p _ _ _ _ (.ref q) (rs1.st (.new hq)) (rm1.newLst hq r1) (s1.trans (.newT hq)) (h1.2 q (rm1.free hq))

/-- a new list from here on stands still -/
@[reducible] def kFrz (M : Mm) (k : KE) : KE := fun d M' => ∃ p ds, d = .ref p ∧ M' p = some (.lst ds) ∧ Le M M' ∧ M p = none ∧ k (.lst ds) M
@[reducible] def wFrz (w : WE) : WE := fun sd M k kx => w sd M (kFrz M k) fun c fs M' => Le M M' ∧ kx c fs M
theorem e_frz (h : SE X e w) : SE X e (wFrz w) := fun Wx tk => ⟨fun pins s σ H Q I q => by
  obtain ⟨sd, M, k, kx, rs, rm, hw, p, px⟩ := q
  refine thn ((h Wx tk).run pins s σ H (fun v H' => ∃ H2, (∀ s', Inv X pins σ H' s' → ∃ H3, Inv X pins σ H3 s' ∧ Q v H3) ∧ H2 = H') I ⟨sd, M, _, _, rs, rm, hw, fun v H1 d M1 r1 rs1 rm1 s1 h1 => ?_, fun cls d H' fs M' r rs' rm' st ⟨l, q⟩ => px cls d H' fs M r rs' (rm'.le l) (st.le l) q⟩) fun u s' ⟨v, H', I', r, H2, f, _⟩ => ?_
  · obtain ⟨a, ds, rfl, hM, hl, hn, hk⟩ := h1
    obtain ⟨vs, ha, rv⟩ := rm1 a _ hM
    refine ⟨H1, fun s' I' => ?_, rfl⟩
    obtain ⟨o, I2⟩ := I'.lock ha True.intro
    refine ⟨_, I2, p _ _ _ M ?_ (rs1.st (.lst ha)) ?_ ?_ hk⟩
    · cases r1
      exact .lst (.inl ⟨o, upd_same⟩) (rv.st (.lst ha))
    · exact (rm1.le hl).hid hn ha
    · refine ⟨s1.stay.trans (.lst ha), fun b u e n w => ?_, fun c x e w => let ⟨o1, e1, w1⟩ := s1.live c x e w; live_upd (.inr fun _ z => HO.noConfusion z) c o1 e1 w1⟩
      obtain ⟨e1, n1⟩ := s1.keep b u e n w
      exact ⟨by rw [upd_ne (fun z => by rw [z, hM] at n1; cases n1)]; exact e1, n⟩
  · obtain ⟨H3, I3, q⟩ := f s' I'
    exact ⟨v, H3, I3, r, q⟩⟩
/-- a written list that stands still -/
@[reducible] def kLstF (k : KE) : List D → Mm → Prop := fun ds M => ds.length ≤ sizeLine ∧ k (.lst ds) M
@[reducible] def wLstF (ws : WA) : WE := fun sd M k kx => ws sd M (kLstF k) kx
theorem freeze {pins : List (Addr × Obj)} {σ : St} {H : Hp} {s : Shared} {a : Addr} {vs : List V} (I : Inv X pins σ H s) (ha : H a = some (.lst vs)) : ∃ o, Inv X pins σ (upd H a (.frz o (.lst vs))) s := I.lock ha True.intro
/-- laid as a list, then still: as if laid still -/
theorem RelM.layFrz {K : PySem.W.Frag} {H : Hp} {M : Mm} {a : Addr} {o : Obj} {vs : List V} (h : RelM K H M) (n : H a = none) : RelM K (upd (upd H a (.lst vs)) a (.frz o (.lst vs))) M := by
  rw [upd_upd]; exact h.lay n
theorem e_lstF (h : SA X es ws) : SE X (.List es pos) (wLstF ws) := fun Wx tk => ⟨fun pins s σ H Q I q => by
  obtain ⟨sd, M, k, kx, rs, rm, hw, p, px⟩ := q
  refine thn ((pe_lst (h Wx tk)).run pins s σ H (fun v H' => ∀ s', Inv X pins σ H' s' → ∃ H3, Inv X pins σ H3 s' ∧ Q v H3) I ⟨sd, M, _, kx, rs, rm, hw, fun vs H1 ds M1 r1 rs1 rm1 s1 h1 => ⟨by rw [r1.len]; exact h1.1, fun a ha s' I' => ?_⟩, px⟩) fun u s' ⟨v, H', I', r, f⟩ => ?_
  · obtain ⟨o, I2⟩ := freeze I' (a := a) (vs := vs) upd_same
    refine ⟨_, I2, p _ _ _ M1 ?_ ?_ (rm1.layFrz ha) ?_ h1.2⟩
    · rw [upd_upd]; exact .lst (.inl ⟨o, upd_same⟩) (r1.st (.new ha))
    · rw [upd_upd]; exact rs1.st (.new ha)
    · rw [upd_upd]; exact s1.trans (.new ha)
  · obtain ⟨H3, I3, q⟩ := f s' I'
    exact ⟨v, H3, I3, r, q⟩⟩
end
end DL
namespace DL
open PySem PySem.Spec PyProof.Rows L2
variable [TL : TabList]

/-! ### equal data -/
mutual
def eqv : D → D → Bool
  | .non, .non => true
  | .bl a, .bl b => a == b
  | .bl a, .int j => (if a then 1 else 0) == j
  | .int i, .bl b => i == (if b then 1 else 0)
  | .int i, .int j => i == j
  | .str x, .str y => x == y
  | .lst xs, .lst ys => eqvL xs ys
  | .tup xs, .tup ys => eqvL xs ys
  | _, _ => false
def eqvL : List D → List D → Bool
  | [], [] => true
  | x :: xs, y :: ys => eqv x y && eqvL xs ys
  | [], _ :: _ => false
  | _ :: _, [] => false
end
mutual
def toPy : D → PyData
  | .non => .none
  | .bl b => .bool b
  | .int i => .int i
  | .str x => .str x
  | .tup l => .tuple (toPyL l)
  | .lst l => .list (toPyL l)
  | .ref _ => .none
  | .ty _ => .none
  | .exc _ _ _ _ => .none
  | .lam _ _ _ => .none
def toPyL : List D → List PyData
  | [] => []
  | x :: xs => toPy x :: toPyL xs
end
mutual
/-- plain data: no objects, no classes, no odd signs -/
def laid : D → Bool
  | .non => true
  | .bl _ => true
  | .int _ => true
  | .str x => PyData.strOk x
  | .tup l => laidL l
  | .lst l => laidL l
  | .ref _ => false
  | .ty _ => false
  | .exc _ _ _ _ => false
  | .lam _ _ _ => false
def laidL : List D → Bool
  | [] => true
  | x :: xs => laid x && laidL xs
end
mutual
def dep : D → Nat
  | .tup l => depL l + 1
  | .lst l => depL l + 1
  | .non => 0
  | .bl _ => 0
  | .int _ => 0
  | .str _ => 0
  | .ref _ => 0
  | .ty _ => 0
  | .exc _ _ _ _ => 0
  | .lam _ _ _ => 0
def depL : List D → Nat
  | [] => 0
  | x :: xs => max (dep x) (depL xs)
end
mutual
theorem toPy_lay : ∀ d : D, laid d = true → (toPy d).canLay0 = true
  | .non, _ => by simp [toPy, PyData.canLay0]
  | .bl _, _ => by simp [toPy, PyData.canLay0]
  | .int _, _ => by simp [toPy, PyData.canLay0]
  | .str x, h => by simpa [toPy, PyData.canLay0, laid] using h
  | .tup l, h => by simp only [toPy, PyData.canLay0]; exact toPyL_lay l (by simpa [laid] using h)
  | .lst l, h => by simp only [toPy, PyData.canLay0]; exact toPyL_lay l (by simpa [laid] using h)
  | .ref _, h => by simp [laid] at h
  | .ty _, h => by simp [laid] at h
  | .exc _ _ _ _, h => by simp [laid] at h
  | .lam _ _ _, h => by simp [laid] at h
theorem toPyL_lay : ∀ l : List D, laidL l = true → PyData.canLayAll0 (toPyL l) = true
  | [], _ => by simp [toPyL, PyData.canLayAll0]
  | x :: xs, h => by
    have h' : laid x = true ∧ laidL xs = true := by simpa [laidL] using h
    simp only [toPyL, PyData.canLayAll0, Bool.and_eq_true]
    exact ⟨toPy_lay x h'.1, toPyL_lay xs h'.2⟩
end
mutual
theorem toPy_dep : ∀ d : D, (toPy d).depth = dep d
  | .non => by simp [toPy, PyData.depth, dep]
  | .bl _ => by simp [toPy, PyData.depth, dep]
  | .int _ => by simp [toPy, PyData.depth, dep]
  | .str x => by simp [toPy, PyData.depth, dep]
  | .tup l => by simp only [toPy, PyData.depth, dep, toPyL_dep l]
  | .lst l => by simp only [toPy, PyData.depth, dep, toPyL_dep l]
  | .ref _ => by simp [toPy, PyData.depth, dep]
  | .ty _ => by simp [toPy, PyData.depth, dep]
  | .exc _ _ _ _ => by simp [toPy, PyData.depth, dep]
  | .lam _ _ _ => by simp [toPy, PyData.depth, dep]
theorem toPyL_dep : ∀ l : List D, PyData.depthAll (toPyL l) = depL l
  | [] => by simp [toPyL, PyData.depthAll, depL]
  | x :: xs => by simp only [toPyL, PyData.depthAll, depL, toPy_dep x, toPyL_dep xs]
end
mutual
theorem toPy_eqv : ∀ d e : D, laid d = true → laid e = true → PyData.eqv (toPy d) (toPy e) = eqv d e := fun d e hd he => by
  cases d <;> cases e <;> first
    | (simp [laid] at hd; done)
    | (simp [laid] at he; done)
    | (simp [toPy, PyData.eqv, eqv]; done)
    | (simp only [toPy, PyData.eqv, eqv]; exact toPyL_eqv _ _ (by simpa [laid] using hd) (by simpa [laid] using he))
theorem toPyL_eqv : ∀ d e : List D, laidL d = true → laidL e = true → PyData.eqvAll (toPyL d) (toPyL e) = eqvL d e
  | [], [], _, _ => by simp [toPyL, PyData.eqvAll, eqvL]
  | x :: xs, y :: ys, h, h' => by
    have h1 : laid x = true ∧ laidL xs = true := by simpa [laidL] using h
    have h2 : laid y = true ∧ laidL ys = true := by simpa [laidL] using h'
    simp only [toPyL, PyData.eqvAll, eqvL, toPy_eqv x y h1.1 h2.1, toPyL_eqv xs ys h1.2 h2.2]
  | [], _ :: _, _, _ => by simp [toPyL, PyData.eqvAll, eqvL]
  | _ :: _, [], _, _ => by simp [toPyL, PyData.eqvAll, eqvL]
end
theorem toPyL_any (x : D) (hx : laid x = true) : ∀ l : List D, laidL l = true → ((toPyL l).any fun z => PyData.eqv z (toPy x)) = l.any fun z => eqv z x
  | [], _ => rfl
  | y :: ys, h => by
    have h1 : laid y = true ∧ laidL ys = true := by simpa [laidL] using h
    simp only [toPyL, List.any_cons, toPy_eqv y x h1.1 hx, toPyL_any x hx ys h1.2]
section
variable {K : PySem.W.Frag} {H : Hp}
mutual
theorem Rep.dp : ∀ (d : D) (v : V), laid d = true → Rep K H v d → Dp K H v (toPy d)
  | .non, _, _, .non => by simp only [toPy]; exact .non
  | .bl b, _, _, .bl _ => by simp only [toPy]; exact .bl b
  | .int b, _, _, .int _ => by simp only [toPy]; exact .int b
  | .str b, _, _, .str _ => by simp only [toPy]; exact .str b
  | .tup l, _, h, .tup s r => by simp only [toPy]; exact .tup s (Reps.dp l _ (by simpa [laid] using h) r)
  | .lst l, _, h, .lst s r => by simp only [toPy]; exact .lst s.sq (Reps.dp l _ (by simpa [laid] using h) r)
  | .ref _, _, h, _ => by simp [laid] at h
  | .ty _, _, h, _ => by simp [laid] at h
  | .exc _ _ _ _, _, h, _ => by simp [laid] at h
  | .lam _ _ _, _, h, _ => by simp [laid] at h
theorem Reps.dp : ∀ (l : List D) (vs : List V), laidL l = true → Reps K H vs l → DpAll K H vs (toPyL l)
  | [], _, _, .nil => by simp only [toPyL]; exact .nil
  | x :: xs, _, h, .cons r t => by
    have h1 : laid x = true ∧ laidL xs = true := by simpa [laidL] using h
    simp only [toPyL]
    exact .cons (Rep.dp x _ h1.1 r) (Reps.dp xs _ h1.2 t)
end
end
theorem laidL_append : ∀ a b : List D, laidL (a ++ b) = (laidL a && laidL b)
  | [], b => by simp [laidL]
  | x :: a, b => by simp only [List.cons_append, laidL, laidL_append a b, Bool.and_assoc]
theorem laidL_map {α : Type} (f : α → D) (h : ∀ x, laid (f x) = true) : ∀ l : List α, laidL (l.map f) = true
  | [] => by simp [laidL]
  | x :: l => by simp only [List.map_cons, laidL, h x, laidL_map f h l, Bool.and_true]
theorem laidL_mem : ∀ {l : List D}, laidL l = true → ∀ x ∈ l, laid x = true
  | y :: l, h, x, hx => by
    have h1 : laid y = true ∧ laidL l = true := by simpa [laidL] using h
    rcases List.mem_cons.mp hx with rfl | hx
    · exact h1.1
    · exact laidL_mem h1.2 x hx
theorem laidL_of : ∀ {l : List D}, (∀ x ∈ l, laid x = true) → laidL l = true
  | [], _ => by simp [laidL]
  | y :: l, h => by simp only [laidL, h y List.mem_cons_self, laidL_of fun x hx => h x (List.mem_cons_of_mem _ hx), Bool.and_true]
theorem depL_le {n : Nat} : ∀ {l : List D}, (∀ x ∈ l, dep x ≤ n) → depL l ≤ n
  | [], _ => by simp [depL]
  | y :: l, h => by
    simp only [depL]
    have := h y List.mem_cons_self
    have := depL_le (l := l) fun x hx => h x (List.mem_cons_of_mem _ hx)
    omega

/-! ### a silent step behind a value -/
def Gh (X : Cx) (Q : VK) : VK := fun v H' => ∀ (pins : List (Addr × Obj)) (σ : St) (s' : Shared), Inv X pins σ H' s' → ∃ H3, Inv X pins σ H3 s' ∧ Q v H3
theorem ep_gh {X : Cx} {pins : List (Addr × Obj)} {σ : St} {Q : VK} {u : Value} {s' : Shared} (h : EP X pins σ (Gh X Q) u s') : EP X pins σ Q u s' := by
  obtain ⟨v, H', I, r, f⟩ := h
  obtain ⟨H3, I3, q⟩ := f pins σ s' I
  exact ⟨v, H3, I3, r, q⟩
theorem OpR.gh {X : Cx} {f : Value → Value → Sem Value} {r : R2} (h : OpR X f r) : OpR X f fun x y H Q => r x y H (Gh X Q) := fun p s σ H x y v u Q I rx ry q => thn (h p s σ H x y v u _ I rx ry q) fun _ _ z => ep_gh z
theorem PE.gh {X : Cx} {e : Expr} {t : TE} (h : PE X e t) : PE X e fun σ H Q => t σ H (Gh X Q) := ⟨fun p s σ H Q I q => thn (h.run p s σ H _ I q) fun _ _ z => ep_gh z⟩
theorem CallR.gh {X : Cx} {f : Value} {r : List V → Hp → VK → Prop} (h : CallR X f r) : CallR X f fun xs H Q => r xs H (Gh X Q) := fun p s σ H xs us Q I rx q => thn (h p s σ H xs us _ I rx q) fun _ _ z => ep_gh z
theorem gh_frz {X : Cx} {Q : VK} {H : Hp} {p : Addr} {vs : List V} (q : ∀ o, Q (.ref p) (upd H p (.frz o (.lst vs)))) : Gh X Q (.ref p) (upd H p (.lst vs)) := fun pins σ s' I => by
  obtain ⟨o, I2⟩ := freeze I (a := p) (vs := vs) upd_same
  rw [upd_upd] at I2
  exact ⟨_, I2, q o⟩
theorem gh_id {X : Cx} {Q : VK} {H : Hp} {v : V} (q : Q v H) : Gh X Q v H := fun pins σ s' I => ⟨H, I, q⟩
/-- a new list that stands still -/
theorem post_frz {X : Cx} {H : Hp} {M : Mm} {k : KE} {Q : VK} {p : Addr} {vs : List V} {ds : List D} (po : PostR X.K H M k Q) (rm : RelM X.K H M) (n : H p = none) (r : Reps X.K H vs ds) (hk : k (.lst ds) M) : Gh X Q (.ref p) (upd H p (.lst vs)) :=
  gh_frz fun o => po _ _ _ M (.lst (.inl ⟨o, upd_same⟩) (r.st (.new n))) (rm.lay n) (.new n) hk

/-! ### operators on data -/
section
variable {X : Cx}
theorem opd_of {f : Value → Value → Sem Value} {r : OPD} {r2 : R2} (h : OpR X f r2) (i : ∀ x y H Q dx dy M k, Rep X.K H x dx → Rep X.K H y dy → RelM X.K H M → r dx dy M k → PostR X.K H M k Q → r2 x y H Q) : OpD X f r := fun p s σ H x y v u Q I rx ry q => by
  obtain ⟨dx, dy, M, k, r1, r2', rm, hr, po⟩ := q
  exact h p s σ H x y v u Q I rx ry (i x y H Q dx dy M k r1 r2' rm hr po)
/-- frozen or changing lists, read -/
theorem op_catS : OpR X (binaryOp .Add) (fun x y H Q => ∃ l b xs zs, x = .ref l ∧ y = .ref b ∧ SqL X.K H l xs ∧ SqL X.K H b zs ∧ xs.length + zs.length ≤ sizeLine ∧ ∀ p, H p = none → Q (.ref p) (upd H p (.lst (xs ++ zs)))) := by
  intro pins s σ H x y v u Q I rx ry h
  obtain ⟨l, b, xs, zs, rfl, rfl, hH, hB, hz, q⟩ := h
  cases rx
  cases ry
  obtain ⟨its, r, ⟨⟨c1, d1, t1, sl1⟩, n1, e1, ec1, ed1, et1⟩, hl⟩ := I.list hH
  obtain ⟨its2, r2, ⟨⟨c2, d2, t2, sl2⟩, n2, e2, ec2, ed2, et2⟩, hl2⟩ := I.list hB
  simp only at ec1 ed1 et1 ec2 ed2 et2
  subst ec1 ed1 et1 ec2 ed2 et2
  have z1 := r.length
  have z2 := r2.length
  have zz : its.length + its2.length ≤ sizeLine := by omega
  have ea : its.toArray ++ its2.toArray = (its ++ its2).toArray := by simp
  refine concat_meets ⟨_, e1, rfl⟩ ⟨_, e2, rfl⟩ noFill_list_add seq_list_add PySem.F.slot_list_add PySem.F.entry_list_add (PySem.F.args_list_add_2 _ _)
    (list_addW l b its.toArray its2.toArray n1 n2 none none sl1 sl2 (by simpa using zz)) ⟨e1, e2, ?_⟩
  rw [ea]
  exact ⟨.ref _, _, I.lnew (t' := s.toks) (r.append r2) (by rw [List.length_append]; omega), rfl, q _ I.fresh⟩
@[reducible] def opAdd : OPD := fun x y M k => match x, y with
  | .int i, .int j => k (.int (i + j)) M
  | .str a, .str b => a.length + b.length ≤ sizeLine ∧ k (.str (a ++ b)) M
  | .tup a, .tup b => a.length + b.length ≤ sizeLine ∧ k (.tup (a ++ b)) M
  | .lst a, .lst b => a.length + b.length ≤ sizeLine ∧ k (.lst (a ++ b)) M
  | .lst a, .ref b => ∃ l, M b = some (.lst l) ∧ a.length + l.length ≤ sizeLine ∧ k (.lst (a ++ l)) M
  | .ref a, .lst b => ∃ l, M a = some (.lst l) ∧ l.length + b.length ≤ sizeLine ∧ ∀ p, M p = none → k (.ref p) (put M p (.lst (l ++ b)))
  | _, _ => False
theorem o_add : OpD X (binaryOp .Add) opAdd := by
  intro p s σ H x y v u Q I rx ry q
  obtain ⟨dx, dy, M, k, r1, r2, rm, hr, po⟩ := q
  cases dx with
  | int i =>
    cases dy with
    | int j => cases r1; cases r2; exact op_add p s σ H _ _ v u Q I rx ry ⟨i, j, rfl, rfl, po _ H _ M (.int _) rm (.refl _ _) hr⟩
    | _ => exact hr.elim
  | str i =>
    cases dy with
    | str j => cases r1; cases r2; exact op_add_str p s σ H _ _ v u Q I rx ry ⟨i, j, rfl, rfl, hr.1, po _ H _ M (.str _) rm (.refl _ _) hr.2⟩
    | _ => exact hr.elim
  | tup a =>
    cases dy with
    | tup b =>
      cases r1 with
      | tup s1 t1 =>
        cases r2 with
        | tup s2 t2 =>
          rename_i a1 vs1 a2 vs2
          refine op_catA p s σ H _ _ v u Q I rx ry ⟨_, _, vs1, vs2, rfl, rfl, s1, s2, by rw [t1.len, t2.len]; exact hr.1, fun e => ?_, fun e e2 => ?_, fun e e2 a ha => ?_⟩
          · subst e; cases t1
            exact po _ H _ M (.tup s2 t2) rm (.refl _ _) hr.2
          · subst e2; cases t2
            refine po _ H (.tup (a ++ [])) M ?_ rm (.refl _ _) hr.2
            rw [List.append_nil]; exact .tup s1 t1
          · exact po _ _ _ M ((t1.app t2).newTup ha) (rm.lay ha) (.new ha) hr.2
    | _ => exact hr.elim
  | lst a =>
    cases dy with
    | lst b =>
      cases r1 with
      | lst s1 t1 =>
        cases r2 with
        | lst s2 t2 =>
          rename_i a1 vs1 a2 vs2
          refine OpR.gh op_catS p s σ H _ _ v u Q I rx ry ⟨_, _, vs1, vs2, rfl, rfl, s1.sq, s2.sq, by rw [t1.len, t2.len]; exact hr.1, fun a ha => ?_⟩
          exact post_frz po rm ha (t1.app t2) hr.2
    | ref b =>
      obtain ⟨l, hM, hlen, hk⟩ := hr
      obtain ⟨vs, hb, rv⟩ := rm b _ hM
      cases r2
      cases r1 with
      | lst s1 t1 =>
        rename_i a1 vs1
        refine OpR.gh op_catS p s σ H _ _ v u Q I rx ry ⟨_, _, vs1, vs, rfl, rfl, s1.sq, SqL.of hb, by rw [rv.len, t1.len]; exact hlen, fun q hq => ?_⟩
        exact post_frz po rm hq (t1.app rv) hk
    | _ => exact hr.elim
  | ref a =>
    cases dy with
    | lst b =>
      obtain ⟨l, hM, hlen, hk⟩ := hr
      obtain ⟨vs, ha, rv⟩ := rm a _ hM
      cases r1
      cases r2 with
      | lst s2 t2 =>
        rename_i a2 vs2
        refine op_catS p s σ H _ _ v u Q I rx ry ⟨_, _, vs, vs2, rfl, rfl, SqL.of ha, s2.sq, by rw [rv.len, t2.len]; exact hlen, fun q hq => ?_⟩
        exact po _ _ _ _ (.ref q) (rm.newLst hq (rv.app t2)) (.newT hq) (hk q (rm.free hq))
    | _ => exact hr.elim
  | _ => exact hr.elim
@[reducible] def opSub : OPD := fun x y M k => match x, y with
  | .int i, .int j => k (.int (i - j)) M
  | _, _ => False
theorem o_sub : OpD X (binaryOp .Sub) opSub := opd_of op_sub fun x y H Q dx dy M k r1 r2 rm hr po => by
  cases dx with
  | int i =>
    cases dy with
    | int j => cases r1; cases r2; exact ⟨i, j, rfl, rfl, po _ H _ M (.int _) rm (.refl _ _) hr⟩
    | _ => exact hr.elim
  | _ => exact hr.elim
theorem Reps.rep {K : PySem.W.Frag} {H : Hp} {vs : List V} {ds : List D} (h : Reps K H vs ds) : ∀ k : Nat, Reps K H (List.replicate k vs).flatten (List.replicate k ds).flatten
  | 0 => .nil
  | k + 1 => by simp only [List.replicate_succ, List.flatten_cons]; exact h.app (Reps.rep h k)
@[reducible] def opMul : OPD := fun x y M k => match x, y with
  | .int i, .int j => CMul i j ∧ k (.int (i * j)) M
  | .tup l, .int j => l ≠ [] ∧ 2 ≤ j ∧ j ≤ 1000 ∧ l.length ≤ 1000 ∧ k (.tup (List.replicate j.toNat l).flatten) M
  | .ref a, .int j => ∃ l, M a = some (.lst l) ∧ (0 ≤ j ∧ j ≤ 1000 ∧ l.length ≤ 1000) ∧ k (.lst (List.replicate j.toNat l).flatten) M
  | _, _ => False
theorem o_mul : OpD X (binaryOp .Mult) opMul := by
  intro p s σ H x y v u Q I rx ry q
  obtain ⟨dx, dy, M, k, r1, r2, rm, hr, po⟩ := q
  cases dx with
  | int i =>
    cases dy with
    | int j => cases r1; cases r2; exact op_mul p s σ H _ _ v u Q I rx ry ⟨i, j, rfl, rfl, hr.1, po _ H _ M (.int _) rm (.refl _ _) hr.2⟩
    | _ => exact hr.elim
  | tup a =>
    cases dy with
    | int j =>
      cases r2
      cases r1 with
      | tup s1 t1 =>
        obtain ⟨h1, h2, h3, h4, hk⟩ := hr
        refine op_repT p s σ H _ _ v u Q I rx ry ⟨_, j, _, rfl, rfl, s1, fun e => h1 ?_, h2, h3, by rw [t1.len]; exact h4, fun a ha => ?_⟩
        · subst e; cases t1; rfl
        · exact po _ _ _ M ((t1.rep _).newTup ha) (rm.lay ha) (.new ha) hk
    | _ => exact hr.elim
  | ref a =>
    cases dy with
    | int j =>
      cases r2
      cases r1
      obtain ⟨l, hM, ⟨h2, h3, h4⟩, hk⟩ := hr
      obtain ⟨vs, ha, rv⟩ := rm a _ hM
      have hm : l.length * j.toNat ≤ 1000 * 1000 := Nat.mul_le_mul h4 (by omega)
      refine OpR.gh op_rep p s σ H _ _ v u Q I rx ry ⟨_, j, _, rfl, rfl, ha, by omega, by omega, by rw [rv.len]; exact Nat.le_trans hm (by decide), fun a ha => ?_⟩
      exact post_frz po rm ha (rv.rep _) hk
    | _ => exact hr.elim
  | _ => exact hr.elim
/-- a two-place rule on ints -/
theorem opd_int {f : Value → Value → Sem Value} {C : Int → Int → Prop} {g : Int → Int → D} {gv : Int → Int → V} (hg : ∀ i j H, Rep X.K H (gv i j) (g i j)) (h : OpR X f (rI C gv)) :
    OpD X f (fun x y M k => match x, y with | .int i, .int j => C i j ∧ k (g i j) M | _, _ => False) := opd_of h fun x y H Q dx dy M k r1 r2 rm hr po => by
  cases dx with
  | int i =>
    cases dy with
    | int j => cases r1; cases r2; exact ⟨i, j, rfl, rfl, hr.1, po _ H _ M (hg i j H) rm (.refl _ _) hr.2⟩
    | _ => exact hr.elim
  | _ => exact hr.elim
theorem opd_int0 {f : Value → Value → Sem Value} {g : Int → Int → D} {gv : Int → Int → V} (hg : ∀ i j H, Rep X.K H (gv i j) (g i j)) (h : OpR X f (rI0 gv)) :
    OpD X f (fun x y M k => match x, y with | .int i, .int j => k (g i j) M | _, _ => False) := opd_of h fun x y H Q dx dy M k r1 r2 rm hr po => by
  cases dx with
  | int i =>
    cases dy with
    | int j => cases r1; cases r2; exact ⟨i, j, rfl, rfl, po _ H _ M (hg i j H) rm (.refl _ _) hr⟩
    | _ => exact hr.elim
  | _ => exact hr.elim
@[reducible] def opMod : OPD := fun x y M k => match x, y with | .int i, .int j => 0 < j ∧ k (.int (i % j)) M | _, _ => False
@[reducible] def opDiv : OPD := fun x y M k => match x, y with | .int i, .int j => CDiv i j ∧ k (.int (i / j)) M | _, _ => False
@[reducible] def opPow : OPD := fun x y M k => match x, y with | .int i, .int j => CPow i j ∧ k (.int (i ^ j.toNat)) M | _, _ => False
@[reducible] def opXor : OPD := fun x y M k => match x, y with | .int i, .int j => k (.int (Builtin.bitXor i j)) M | _, _ => False
theorem o_mod : OpD X (binaryOp .Mod) opMod := opd_int (g := fun i j => .int (i % j)) (fun _ _ _ => .int _) op_mod
theorem o_div : OpD X (binaryOp .FloorDiv) opDiv := opd_int (g := fun i j => .int (i / j)) (fun _ _ _ => .int _) op_fdiv
theorem o_pow : OpD X (binaryOp .Pow) opPow := opd_int (g := fun i j => .int (i ^ j.toNat)) (fun _ _ _ => .int _) op_pow
theorem o_xor : OpD X (binaryOp .BitXor) opXor := opd_int0 (g := fun i j => .int (Builtin.bitXor i j)) (fun _ _ _ => .int _) op_xor
@[reducible] def opLe : OPD := fun x y M k => match x, y with | .int i, .int j => k (.bl (decide (i ≤ j))) M | _, _ => False
@[reducible] def opGt : OPD := fun x y M k => match x, y with | .int i, .int j => k (.bl (decide (j < i))) M | _, _ => False
@[reducible] def opGe : OPD := fun x y M k => match x, y with | .int i, .int j => k (.bl (decide (j ≤ i))) M | _, _ => False
theorem o_le : OpD X (compareOp .LtE) opLe := opd_int0 (g := fun i j => .bl (decide (i ≤ j))) (fun _ _ _ => .bl _) op_le
theorem o_gt : OpD X (compareOp .Gt) opGt := opd_int0 (g := fun i j => .bl (decide (j < i))) (fun _ _ _ => .bl _) op_gt
theorem o_ge : OpD X (compareOp .GtE) opGe := opd_int0 (g := fun i j => .bl (decide (j ≤ i))) (fun _ _ _ => .bl _) op_ge
@[reducible] def opLt : OPD := fun x y M k => match x, y with
  | .int i, .int j => k (.bl (decide (i < j))) M
  | .tup l, .tup m => ∃ ns ms : List Int, l = ns.map D.int ∧ m = ms.map D.int ∧ k (.bl (HT.lexLt ns ms)) M
  | _, _ => False
theorem o_lt {n : Nat} (hr : Room n X.A) : OpD X (compareOp .Lt) opLt := by
  intro p s σ H x y v u Q I rx ry q
  obtain ⟨dx, dy, M, k, r1, r2, rm, h, po⟩ := q
  cases dx with
  | int i =>
    cases dy with
    | int j => cases r1; cases r2; exact op_lt p s σ H _ _ v u Q I rx ry ⟨i, j, rfl, rfl, po _ H _ M (.bl _) rm (.refl _ _) h⟩
    | _ => exact h.elim
  | tup a =>
    cases dy with
    | tup b =>
      obtain ⟨ns, ms, rfl, rfl, h⟩ := h
      cases r1 with
      | tup s1 t1 =>
        cases r2 with
        | tup s2 t2 =>
          have e1 := t1.ints
          have e2 := t2.ints
          subst e1 e2
          exact op_ltT hr.units0 p s σ H _ _ v u Q I rx ry ⟨_, _, ns, ms, rfl, rfl, s1, s2, po _ H _ M (.bl _) rm (.refl _ _) h⟩
    | _ => exact h.elim
  | _ => exact h.elim

/-! ### ==, !=, in, not in, is -/
def okEq (x y : D) : Prop := laid x = true ∧ laid y = true ∧ min (dep x) (dep y) ≤ 60
@[reducible] def same : Bool → Bool := fun b => b
@[reducible] def opEqG (g : Bool → Bool) : OPD := fun x y M k => match x, y with
  | .int i, .int j => k (.bl (g (decide (i = j)))) M
  | .bl i, .bl j => k (.bl (g (decide (i = j)))) M
  | .str i, .str j => k (.bl (g (decide (i = j)))) M
  | .ref a, y => ∃ ds, M a = some (.lst ds) ∧ okEq (.lst ds) y ∧ k (.bl (g (eqv (.lst ds) y))) M
  | x, y => okEq x y ∧ k (.bl (g (eqv x y))) M
abbrev opEq : OPD := opEqG id
abbrev opNe : OPD := opEqG bnot
theorem Inv.room {n : Nat} {pins : List (Addr × Obj)} {σ : St} {H : Hp} {s : Shared} (hr : Room n X.A) : X.A.units + 64 < cLine := hr.units
theorem eq_deep {x y : V} {v u : Value} {d e : D} {pins : List (Addr × Obj)} {σ : St} {H : Hp} {s : Shared} {n : Nat} (hr : Room n X.A) (I : Inv X pins σ H s) (rx : RelV x v) (ry : RelV y u) (hd : Dp X.K H x (toPy d)) (he : Dp X.K H y (toPy e)) (ok : okEq d e) :
    (∀ {Q : Value → Shared → Prop}, Q (.bool (eqv d e)) s → wpAny (model X.prog X.w) X.A (compareOp .Eq v u) Q X.xe s) ∧ (∀ {Q : Value → Shared → Prop}, Q (.bool (!eqv d e)) s → wpAny (model X.prog X.w) X.A (compareOp .NotEq v u) Q X.xe s) := by
  obtain ⟨o1, o2, o3⟩ := ok
  obtain ⟨as, r1⟩ := Dp.reads I (toPy d) x v hd rx
  obtain ⟨bs, r2⟩ := Dp.reads I (toPy e) y u he ry
  have hu := hr.units
  have hm : X.A.units + min (toPy d).depth (toPy e).depth < cLine := by rw [toPy_dep, toPy_dep]; omega
  refine ⟨fun {Q} q => SeqAt.compareEq_reads r1 r2 (toPy_lay d o1) (toPy_lay e o2) hm ?_, fun {Q} q => SeqAt.compareNe_reads r1 r2 (toPy_lay d o1) (toPy_lay e o2) hm ?_⟩
  · rw [toPy_eqv d e o1 o2]; exact q
  · rw [toPy_eqv d e o1 o2]; exact q
theorem eq_split {g : Bool → Bool} {x y : V} {dx dy : D} {H : Hp} {M : Mm} {k : KE} {Q : VK} (r1 : Rep X.K H x dx) (r2 : Rep X.K H y dy) (rm : RelM X.K H M) (h : opEqG g dx dy M k) (po : PostR X.K H M k Q) :
    (scal x y = true ∧ Q (.bl (g (decide (x = y)))) H) ∨ ∃ d e, Dp X.K H x (toPy d) ∧ Dp X.K H y (toPy e) ∧ okEq d e ∧ Q (.bl (g (eqv d e))) H := by
  have gen : ∀ d e, Rep X.K H x d → Rep X.K H y e → okEq d e ∧ k (.bl (g (eqv d e))) M → ∃ d e, Dp X.K H x (toPy d) ∧ Dp X.K H y (toPy e) ∧ okEq d e ∧ Q (.bl (g (eqv d e))) H := fun d e a b ⟨o, q⟩ =>
    ⟨d, e, Rep.dp d _ o.1 a, Rep.dp e _ o.2.1 b, o, po _ H _ M (.bl _) rm (.refl _ _) q⟩
  cases dx with
  | int i =>
    cases dy with
    | int j => cases r1; cases r2; exact .inl ⟨rfl, po _ H _ M (by rw [dec_int]; exact .bl _) rm (.refl _ _) (by rw [Bool.beq_eq_decide_eq]; exact h)⟩
    | _ => exact .inr (gen _ _ r1 r2 h)
  | bl i =>
    cases dy with
    | bl j => cases r1; cases r2; exact .inl ⟨rfl, po _ H _ M (by rw [dec_bl]; exact .bl _) rm (.refl _ _) (by rw [Bool.beq_eq_decide_eq]; exact h)⟩
    | _ => exact .inr (gen _ _ r1 r2 h)
  | str i =>
    cases dy with
    | str j => cases r1; cases r2; exact .inl ⟨rfl, po _ H _ M (by rw [dec_str]; exact .bl _) rm (.refl _ _) (by rw [Bool.beq_eq_decide_eq]; exact h)⟩
    | _ => exact .inr (gen _ _ r1 r2 h)
  | ref a =>
    obtain ⟨ds, hM, ok, hk⟩ := h
    obtain ⟨vs, ha, rv⟩ := rm a _ hM
    cases r1
    exact .inr ⟨.lst ds, dy, by simp only [toPy]; exact .lst (SqL.of ha) (Reps.dp ds _ (by simpa [laid] using ok.1) rv), Rep.dp dy _ ok.2.1 r2, ok, po _ H _ M (.bl _) rm (.refl _ _) hk⟩
  | non => exact .inr (gen _ _ r1 r2 h)
  | tup l => exact .inr (gen _ _ r1 r2 h)
  | lst l => exact .inr (gen _ _ r1 r2 h)
  | ty n => exact .inr (gen _ _ r1 r2 h)
  | exc _ _ _ _ => exact .inr (gen _ _ r1 r2 h)
  | lam _ _ _ => exact .inr (gen _ _ r1 r2 h)
theorem o_eq {n : Nat} (hr : Room n X.A) : OpD X (compareOp .Eq) opEq := by
  intro p s σ H x y v u Q I rx ry q
  obtain ⟨dx, dy, M, k, r1, r2, rm, h, po⟩ := q
  rcases eq_split r1 r2 rm h po with ⟨a, q⟩ | ⟨d, e, hd, he, ok, q⟩
  · exact op_eq p s σ H x y v u Q I rx ry ⟨a, q⟩
  · exact (eq_deep hr I rx ry hd he ok).1 ⟨.bl _, H, I, rfl, q⟩
theorem o_ne {n : Nat} (hr : Room n X.A) : OpD X (compareOp .NotEq) opNe := by
  unfold opNe
  rw [bnot_fun]
  intro p s σ H x y v u Q I rx ry q
  obtain ⟨dx, dy, M, k, r1, r2, rm, h, po⟩ := q
  rcases eq_split r1 r2 rm h po with ⟨a, q⟩ | ⟨d, e, hd, he, ok, q⟩
  · exact op_ne p s σ H x y v u Q I rx ry ⟨a, q⟩
  · exact (eq_deep hr I rx ry hd he ok).2 ⟨.bl _, H, I, rfl, q⟩
def okIn (x : D) (l : List D) : Prop := laid x = true ∧ laidL l = true ∧ min (depL l) (dep x) ≤ 60
@[reducible] def opInG (g : Bool → Bool) : OPD := fun x y M k => match y with
  | .tup l => okIn x l ∧ k (.bl (g (l.any fun z => eqv z x))) M
  | .lst l => okIn x l ∧ k (.bl (g (l.any fun z => eqv z x))) M
  | .ref a => ∃ l, M a = some (.lst l) ∧ okIn x l ∧ k (.bl (g (l.any fun z => eqv z x))) M
  | _ => False
abbrev opIn : OPD := opInG id
abbrev opNotIn : OPD := opInG bnot
theorem in_split {g : Bool → Bool} {y : V} {dx dy : D} {H : Hp} {M : Mm} {k : KE} {Q : VK} (r2 : Rep X.K H y dy) (rm : RelM X.K H M) (h : opInG g dx dy M k) (po : PostR X.K H M k Q) :
    ∃ l, okIn dx l ∧ (Dp X.K H y (.list (toPyL l)) ∨ Dp X.K H y (.tuple (toPyL l))) ∧ Q (.bl (g (l.any fun z => eqv z dx))) H := by
  cases dy with
  | tup l =>
    cases r2 with
    | tup s2 t2 => exact ⟨l, h.1, .inr (.tup s2 (Reps.dp l _ h.1.2.1 t2)), po _ H _ M (.bl _) rm (.refl _ _) h.2⟩
  | lst l =>
    cases r2 with
    | lst s2 t2 => exact ⟨l, h.1, .inl (.lst s2.sq (Reps.dp l _ h.1.2.1 t2)), po _ H _ M (.bl _) rm (.refl _ _) h.2⟩
  | ref a =>
    obtain ⟨l, hM, ok, hk⟩ := h
    obtain ⟨vs, ha, rv⟩ := rm a _ hM
    cases r2
    exact ⟨l, ok, .inl (.lst (SqL.of ha) (Reps.dp l _ ok.2.1 rv)), po _ H _ M (.bl _) rm (.refl _ _) hk⟩
  | _ => exact h.elim
theorem o_in {n : Nat} (hr : Room n X.A) : OpD X (compareOp .In) opIn := by
  intro p s σ H x y v u Q I rx ry q
  obtain ⟨dx, dy, M, k, r1, r2, rm, h, po⟩ := q
  obtain ⟨l, ok, hy, q⟩ := in_split r2 rm h po
  obtain ⟨as, h1⟩ := Dp.reads I (toPy dx) x v (Rep.dp dx x ok.1 r1) rx
  have hu := hr.units
  have hm : X.A.units + 1 + min (PyData.depthAll (toPyL l)) (toPy dx).depth < cLine := by rw [toPyL_dep, toPy_dep]; have := ok.2.2; omega
  rcases hy with hy | hy
  · obtain ⟨bs, h2⟩ := Dp.reads I _ y u hy ry
    exact SeqAt.in_list_reads h2 h1 (toPyL_lay l ok.2.1) (toPy_lay dx ok.1) hm ⟨.bl _, H, I, by rw [toPyL_any dx ok.1 l ok.2.1]; rfl, q⟩
  · obtain ⟨bs, h2⟩ := Dp.reads I _ y u hy ry
    exact SeqAt.in_tuple_reads h2 h1 (toPyL_lay l ok.2.1) (toPy_lay dx ok.1) hm ⟨.bl _, H, I, by rw [toPyL_any dx ok.1 l ok.2.1]; rfl, q⟩
theorem o_notIn {n : Nat} (hr : Room n X.A) : OpD X (compareOp .NotIn) opNotIn := by
  unfold opNotIn
  rw [bnot_fun]
  intro p s σ H x y v u Q I rx ry q
  obtain ⟨dx, dy, M, k, r1, r2, rm, h, po⟩ := q
  obtain ⟨l, ok, hy, q⟩ := in_split r2 rm h po
  obtain ⟨as, h1⟩ := Dp.reads I (toPy dx) x v (Rep.dp dx x ok.1 r1) rx
  have hu := hr.units
  have hm : X.A.units + 1 + min (PyData.depthAll (toPyL l)) (toPy dx).depth < cLine := by rw [toPyL_dep, toPy_dep]; have := ok.2.2; omega
  rcases hy with hy | hy
  · obtain ⟨bs, h2⟩ := Dp.reads I _ y u hy ry
    exact SeqAt.notIn_list_reads h2 h1 (toPyL_lay l ok.2.1) (toPy_lay dx ok.1) hm ⟨.bl _, H, I, by rw [toPyL_any dx ok.1 l ok.2.1]; rfl, q⟩
  · obtain ⟨bs, h2⟩ := Dp.reads I _ y u hy ry
    exact SeqAt.notIn_tuple_reads h2 h1 (toPyL_lay l ok.2.1) (toPy_lay dx ok.1) hm ⟨.bl _, H, I, by rw [toPyL_any dx ok.1 l ok.2.1]; rfl, q⟩
@[reducible] def isNon : D → Bool
  | .non => true
  | _ => false
theorem isNon_rep {H : Hp} {x : V} {d : D} (r : Rep X.K H x d) : decide (x = .non) = isNon d := by
  cases r <;> simp [isNon]
@[reducible] def opIsG (g : Bool → Bool) : OPD := fun x y M k => match y with
  | .non => k (.bl (g (isNon x))) M
  | .bl b => (match x with
    | .bl a => k (.bl (g (decide (a = b)))) M
    | _ => False)
  | _ => False
theorem o_is : OpD X (compareOp .Is) (opIsG id) := by
  intro p s σ H x y v u Q I rx ry q
  obtain ⟨dx, dy, M, k, r1, r2, rm, h, po⟩ := q
  cases dy with
  | non => cases r2; exact op_isN p s σ H _ _ v u Q I rx ry ⟨rfl, po _ H _ M (by rw [isNon_rep r1]; exact .bl _) rm (.refl _ _) h⟩
  | bl b =>
    cases dx with
    | bl a => cases r1; cases r2; exact op_isBl p s σ H _ _ v u Q I rx ry ⟨a, b, rfl, rfl, po _ H _ M (.bl _) rm (.refl _ _) h⟩
    | _ => exact h.elim
  | _ => exact h.elim
theorem o_isNot : OpD X (compareOp .IsNot) (opIsG bnot) := by
  rw [bnot_fun]
  intro p s σ H x y v u Q I rx ry q
  obtain ⟨dx, dy, M, k, r1, r2, rm, h, po⟩ := q
  cases dy with
  | non => cases r2; exact op_notN p s σ H _ _ v u Q I rx ry ⟨rfl, po _ H _ M (by rw [isNon_rep r1]; exact .bl _) rm (.refl _ _) h⟩
  | bl b =>
    cases dx with
    | bl a => cases r1; cases r2; exact op_notBl p s σ H _ _ v u Q I rx ry ⟨a, b, rfl, rfl, po _ H _ M (.bl _) rm (.refl _ _) h⟩
    | _ => exact h.elim
  | _ => exact h.elim
end
end DL
namespace DL
open PySem PySem.Spec PyProof.Rows L2
variable [TL : TabList]

/-! ### subscripts -/
/-- where there is such an item -/
def onAt (o : Option D) (k : D → Prop) : Prop := ∃ d, o = some d ∧ k d
theorem onAt_some {o : Option D} {d : D} {k : D → Prop} (e : o = some d) (h : k d) : onAt o k := ⟨d, e, h⟩
theorem onAt_ex {o : Option D} {k : D → Prop} (h : onAt o k) : ∃ d, o = some d ∧ k d := h
theorem Reps.atI {K : PySem.W.Frag} {H : Hp} {vs : List V} {ds : List D} {i : Int} {d : D} (r : Reps K H vs ds) (h : L2.atI ds i = some d) : ∃ v, L2.atI vs i = some v ∧ Rep K H v d := by
  unfold L2.atI at h ⊢
  rw [r.len]
  cases e : ixN ds.length i with
  | none => rw [e] at h; cases h
  | some j =>
    rw [e] at h
    obtain ⟨v, e1, r1⟩ := r.get (i := j) h
    exact ⟨v, e1, r1⟩
section
variable {X : Cx} {e a b c lo hi : Expr} {es : List Expr} {w wa wb wc : WE} {wt : WT} {ws : WA} {pos p2 p : Pos}
@[reducible] def opIx : OPD := fun x y M k => match x, y with
  | .tup l, .int i => onAt (atI l i) fun d => k d M
  | .lst l, .int i => onAt (atI l i) fun d => k d M
  | .ref a, .int i => ∃ l, M a = some (.lst l) ∧ onAt (atI l i) fun d => k d M
  | .str z, .int i => z.length ≤ sizeLine ∧ ∃ c, atI z.cps.toList i = some c ∧ k (.str ⟨#[c]⟩) M
  | _, _ => False
theorem e_ix (hs : PlainIx b) (ha : SE X a wa) (hb : SE X b wb) : SE X (.Subscript a b pos) (wOp opIx wa wb) := fun Wx tk =>
  PE.imp (pe_ix ix_seq (ha Wx tk) (hb Wx tk) hs) fun σ H Q h => by
    obtain ⟨sd, M, k, kx, rs, rm, h, p, px⟩ := h
    refine ⟨sd, M, _, kx, rs, rm, h, fun v H1 d M1 r1 rs1 rm1 s1 h1 => ?_, px⟩
    refine ⟨sd, M1, _, kx, rs1, rm1, h1, fun v2 H2 d2 M2 r2 rs2 rm2 s2 h2 => ?_, px.st s1⟩
    have r1' := r1.kp s2
    have s12 := s1.trans s2
    cases d2 with
    | int i =>
      cases r2
      cases d with
      | tup l =>
        obtain ⟨d, e1, hk⟩ := onAt_ex h2
        cases r1' with
        | tup sq t =>
          obtain ⟨v, e2, rv⟩ := t.atI e1
          exact .inr (.inl ⟨_, _, i, v, rfl, rfl, sq, e2, p v H2 d M2 rv rs2 rm2 s12 hk⟩)
      | lst l =>
        obtain ⟨d, e1, hk⟩ := onAt_ex h2
        cases r1' with
        | lst sq t =>
          obtain ⟨v, e2, rv⟩ := t.atI e1
          exact .inl ⟨_, _, i, v, rfl, rfl, sq.sq, e2, p v H2 d M2 rv rs2 rm2 s12 hk⟩
      | ref a =>
        obtain ⟨l, hM, h2⟩ := h2
        obtain ⟨d, e1, hk⟩ := onAt_ex h2
        obtain ⟨vs, ha, t⟩ := rm2 a _ hM
        cases r1'
        obtain ⟨v, e2, rv⟩ := t.atI e1
        exact .inl ⟨_, _, i, v, rfl, rfl, SqL.of ha, e2, p v H2 d M2 rv rs2 rm2 s12 hk⟩
      | str z =>
        obtain ⟨hz, c, e1, hk⟩ := h2
        cases r1'
        exact .inr (.inr ⟨z, i, c, rfl, rfl, hz, e1, p _ H2 _ M2 (.str _) rs2 rm2 s12 hk⟩)
      | _ => exact h2.elim
    | _ => cases d <;> exact h2.elim
/-! slices -/
abbrev WO := SD → Mm → (Option Int → Mm → Prop) → KX → Prop
def SO (X : Cx) (e : Option Expr) (w : WO) : Prop := ∀ Wx, Takes X Wx → PO X e fun σ H Q => ∃ sd M k kx, RelS X.K H σ sd ∧ RelM X.K H M ∧ w sd M k kx ∧
  (∀ o H' M', RelS X.K H' σ sd → RelM X.K H' M' → Kp M H M' H' → k o M' → Q o H') ∧ PostX X.K H M σ sd kx Wx
@[reducible] def wNoP : WO := fun _ M k _ => k none M
@[reducible] def asI (d : D) (k : Int → Prop) : Prop := match d with
  | .int i => k i
  | _ => False
theorem asI_ex {d : D} {k : Int → Prop} (h : asI d k) : ∃ i, d = .int i ∧ k i := by
  cases d with
  | int b => exact ⟨b, rfl, h⟩
  | _ => exact h.elim
@[reducible] def kPart (k : Option Int → Mm → Prop) : KE := fun d M => asI d fun i => k (some i) M
@[reducible] def wPart (w : WE) : WO := fun sd M k kx => w sd M (kPart k) kx
theorem PO.imp {e : Option Expr} {t t' : TO} (h : PO X e t) (i : ∀ σ H Q, t' σ H Q → t σ H Q) : PO X e t' := ⟨fun p s σ H Q I q => h.run p s σ H Q I (i σ H Q q)⟩
theorem so_none : SO X none wNoP := fun Wx tk => PO.imp po_none fun σ H Q h => by
  obtain ⟨sd, M, k, kx, rs, rm, h, p, px⟩ := h
  exact p none H M rs rm (.refl _ _) h
theorem so_some (h : SE X e w) : SO X (some e) (wPart w) := fun Wx tk => PO.imp (po_some (h Wx tk)) fun σ H Q h => by
  obtain ⟨sd, M, k, kx, rs, rm, h, p, px⟩ := h
  refine ⟨sd, M, _, kx, rs, rm, h, fun v H1 d M1 r1 rs1 rm1 s1 h1 => ?_, px⟩
  obtain ⟨i, rfl, h1⟩ := asI_ex h1
  cases r1
  exact ⟨i, rfl, p _ H1 M1 rs1 rm1 s1 h1⟩
def cutD {α : Type} (xs : List α) (lo hi : Option Int) : List α := (xs.drop (HT.sIx xs.length 0 lo)).take (HT.sIx xs.length xs.length hi - HT.sIx xs.length 0 lo)
theorem Reps.cut {K : PySem.W.Frag} {H : Hp} {vs : List V} {ds : List D} (r : Reps K H vs ds) (lo hi : Option Int) : Reps K H (cutV vs lo hi) (cutD ds lo hi) := by
  unfold cutV cutD
  rw [r.len]
  exact (r.drop _).take _
@[reducible] def opSl (x : D) (lo hi : Option Int) (M : Mm) (k : KE) : Prop := match x with
  | .tup l => k (.tup (cutD l lo hi)) M
  | .lst l => k (.lst (cutD l lo hi)) M
  | .ref a => ∃ l, M a = some (.lst l) ∧ k (.lst (cutD l lo hi)) M
  | .str z => z.length ≤ sizeLine ∧ k (.str (cutS z lo hi)) M
  | _ => False
theorem SlR.gh {r : V → Option Int → Option Int → Hp → VK → Prop} (h : SlR X r) : SlR X fun x lo hi H Q => r x lo hi H (Gh X Q) := fun p s σ H x v vl vu lo hi sl Q I rx hs pl pu q =>
  let ⟨T, id, a, b, c⟩ := h p s σ H x v vl vu lo hi sl _ I rx hs pl pu q
  ⟨T, id, a, b, thn c fun _ _ z => ep_gh z⟩
@[reducible] def kSl2 (x : D) (lo : Option Int) (k : KE) : Option Int → Mm → Prop := fun hi M => opSl x lo hi M k
@[reducible] def kSl1 (x : D) (wh : WO) (sd : SD) (k : KE) (kx : KX) : Option Int → Mm → Prop := fun lo M => wh sd M (kSl2 x lo k) kx
@[reducible] def kSl0 (wl wh : WO) (sd : SD) (k : KE) (kx : KX) : KE := fun x M => wl sd M (kSl1 x wh sd k kx) kx
@[reducible] def wSl (we : WE) (wl wh : WO) : WE := fun sd M k kx => we sd M (kSl0 wl wh sd k kx) kx
theorem cutV_all {xs : List V} {lo hi : Option Int} (h : HT.sIx xs.length 0 lo = 0 ∧ HT.sIx xs.length xs.length hi = xs.length) : cutV xs lo hi = xs := by
  unfold cutV
  rw [h.1, h.2]
  simp
theorem e_sl {lo hi : Option Expr} {wl wh : WO} (he : SE X e w) (hl : SO X lo wl) (hh : SO X hi wh) : SE X (.Subscript e (.Slice lo hi none p2) pos) (wSl w wl wh) := fun Wx tk =>
  PE.imp (pe_slice (SlR.or (SlR.gh (SlR.or sl_tupA sl_list)) sl_str) (he Wx tk) (hl Wx tk) (hh Wx tk)) fun σ H Q h => by
    obtain ⟨sd, M, k, kx, rs, rm, h, p, px⟩ := h
    refine ⟨sd, M, _, kx, rs, rm, h, fun v H1 d M1 r1 rs1 rm1 s1 h1 => ?_, px⟩
    refine ⟨sd, M1, _, kx, rs1, rm1, h1, fun l H2 M2 rs2 rm2 s2 h2 => ?_, px.st s1⟩
    refine ⟨sd, M2, _, kx, rs2, rm2, h2, fun u H3 M3 rs3 rm3 s3 h3 => ?_, px.st (s1.trans s2)⟩
    have r1' := (r1.kp s2).kp s3
    have s13 := (s1.trans s2).trans s3
    cases d with
    | tup ds =>
      cases r1' with
      | tup sq t =>
        refine .inl (.inl ⟨_, _, rfl, sq, fun hw => gh_id (p _ H3 _ M3 ?_ rs3 rm3 s13 h3), fun _ q hq => gh_id (p _ _ _ M3 ((t.cut l u).newTup hq) (rs3.st (.new hq)) (rm3.lay hq) (s13.trans (.new hq)) h3)⟩)
        have tc := t.cut l u
        rw [cutV_all hw] at tc
        exact .tup sq tc
    | lst ds =>
      cases r1' with
      | lst sq t =>
        exact .inl (.inr ⟨_, _, rfl, sq.sq, fun q hq => post_frz (fun v4 H4 d4 M4 r4 rm4 s4 h4 => p v4 H4 d4 M4 r4 (rs3.kp s4) rm4 (s13.trans s4) h4) rm3 hq (t.cut l u) h3⟩)
    | ref a =>
      obtain ⟨ds, hM, hk⟩ := h3
      obtain ⟨vs, ha, t⟩ := rm3 a _ hM
      cases r1'
      exact .inl (.inr ⟨_, _, rfl, SqL.of ha, fun q hq => post_frz (fun v4 H4 d4 M4 r4 rm4 s4 h4 => p v4 H4 d4 M4 r4 (rs3.kp s4) rm4 (s13.trans s4) h4) rm3 hq (t.cut l u) hk⟩)
    | str z =>
      cases r1'
      exact .inr ⟨z, rfl, h3.1, p _ H3 _ M3 (.str _) rs3 rm3 s13 h3.2⟩
    | _ => exact h3.elim

/-! ### built-ins -/
abbrev CD := List D → Mm → KE → Prop
def CallD (X : Cx) (f : Value) (r : CD) : Prop := CallR X f fun xs H Q => ∃ ds M k, Reps X.K H xs ds ∧ RelM X.K H M ∧ r ds M k ∧ PostR X.K H M k Q
@[reducible] def kCB (r : CD) (k : KE) : List D → Mm → Prop := fun ds M => r ds M k
@[reducible] def wCB (r : CD) (ws : WA) : WE := fun sd M k kx => ws sd M (kCB r k) kx
theorem cb_imp {K : PySem.W.Frag} {Wx : WX} {r : CD} {σ : St} {H : Hp} {Q : VK} (h : toTE K Wx (wCB r ws) σ H Q) :
    tCB (fun xs H Q => ∃ ds M k, Reps K H xs ds ∧ RelM K H M ∧ r ds M k ∧ PostR K H M k Q) (toTA K Wx ws) σ H Q := by
  obtain ⟨sd, M, k, kx, rs, rm, h, p, px⟩ := h
  refine ⟨sd, M, _, kx, rs, rm, h, fun vs H1 ds M1 r1 rs1 rm1 s1 h1 => ?_, px⟩
  exact ⟨ds, M1, k, r1, rm1, h1, fun v2 H2 d2 M2 r2 rm2 s2 h2 => p v2 H2 d2 M2 r2 (rs1.kp s2) rm2 (s1.trans s2) h2⟩
theorem e_callB {x : Str} {id : String} {r : CD} (hc : CallD X (.builtin id) r) (hg : Gl X x) (hm : X.mg x = none) (hv : bootBuiltins x = some (.builtin id)) (ha : SA X (e :: es) ws) (hn : x ≠ "__name__" := by decide) (hdb : (x == ("__debug__" : Str)) = false := by decide)
    (he : starEach (e :: es) X.env = (false, eval e X.env) :: starEach es X.env := by rfl) (hpl : (backTo pos (starEach es X.env)).any (·.1) = false := by rfl) : SE X (.Call (.Name x p) (e :: es) [] pos) (wCB r ws) := fun Wx tk =>
  PE.imp (pe_callB hc hg hm hv (ha Wx tk) hn hdb he hpl) fun _ _ _ h => cb_imp h
theorem e_callTy {x : Str} {T : String} {r : CD} (hc : CallD X (.type T) r) (hg : Gl X x) (hm : X.mg x = none) (hv : bootBuiltins x = some (.type T)) (ha : SA X (e :: es) ws) (hn : x ≠ "__name__" := by decide) (hdb : (x == ("__debug__" : Str)) = false := by decide)
    (he : starEach (e :: es) X.env = (false, eval e X.env) :: starEach es X.env := by rfl) (hpl : (backTo pos (starEach es X.env)).any (·.1) = false := by rfl) : SE X (.Call (.Name x p) (e :: es) [] pos) (wCB r ws) := fun Wx tk =>
  PE.imp (pe_callTy hc hg hm hv (ha Wx tk) hn hdb he hpl) fun _ _ _ h => cb_imp h
theorem cd_of {f : Value} {r : CD} {r2 : List V → Hp → VK → Prop} (h : CallR X f r2) (i : ∀ xs H Q ds M k, Reps X.K H xs ds → RelM X.K H M → r ds M k → PostR X.K H M k Q → r2 xs H (Gh X Q)) : CallD X f r := fun p s σ H xs us Q I rx q => by
  obtain ⟨ds, M, k, r1, rm, hr, po⟩ := q
  exact CallR.gh h p s σ H xs us Q I rx (i xs H Q ds M k r1 rm hr po)
/-- what is in a list or tuple, for reading -/
@[reducible] def onSeq (x : D) (M : Mm) (k : List D → Prop) : Prop := match x with
  | .tup l => k l
  | .lst l => k l
  | .ref a => ∃ l, M a = some (.lst l) ∧ k l
  | _ => False
theorem onSeq_ex {x : D} {M : Mm} {k : List D → Prop} {H : Hp} {v : V} (h : onSeq x M k) (r : Rep X.K H v x) (rm : RelM X.K H M) : ∃ l a vs, v = .ref a ∧ (SqL X.K H a vs ∨ SqT X.K H a vs) ∧ Reps X.K H vs l ∧ k l := by
  cases x with
  | tup l => cases r with | tup s t => exact ⟨l, _, _, rfl, .inr s, t, h⟩
  | lst l => cases r with | lst s t => exact ⟨l, _, _, rfl, .inl s.sq, t, h⟩
  | ref a =>
    obtain ⟨l, hM, h⟩ := h
    obtain ⟨vs, ha, t⟩ := rm a _ hM
    cases r
    exact ⟨l, a, vs, rfl, .inl (SqL.of ha), t, h⟩
  | _ => exact h.elim
/-- .. a list alone -/
@[reducible] def onLst (x : D) (M : Mm) (k : List D → Prop) : Prop := match x with
  | .lst l => k l
  | .ref a => ∃ l, M a = some (.lst l) ∧ k l
  | _ => False
theorem onLst_ex {x : D} {M : Mm} {k : List D → Prop} {H : Hp} {v : V} (h : onLst x M k) (r : Rep X.K H v x) (rm : RelM X.K H M) : ∃ l a vs, v = .ref a ∧ SqL X.K H a vs ∧ Reps X.K H vs l ∧ k l := by
  cases x with
  | lst l => cases r with | lst s t => exact ⟨l, _, _, rfl, s.sq, t, h⟩
  | ref a =>
    obtain ⟨l, hM, h⟩ := h
    obtain ⟨vs, ha, t⟩ := rm a _ hM
    cases r
    exact ⟨l, a, vs, rfl, SqL.of ha, t, h⟩
  | _ => exact h.elim
/-- one argument -/
@[reducible] def on1 (ds : List D) (k : D → Prop) : Prop := match ds with
  | [x] => k x
  | _ => False
theorem on1_ex {ds : List D} {k : D → Prop} (h : on1 ds k) : ∃ x, ds = [x] ∧ k x := by
  match ds, h with
  | [x], h => exact ⟨x, rfl, h⟩
@[reducible] def lenD (x : D) (M : Mm) (k : KE) : Prop := match x with
  | .str z => z.length ≤ sizeLine ∧ k (.int z.length) M
  | .tup l => k (.int l.length) M
  | .lst l => k (.int l.length) M
  | .ref a => ∃ l, M a = some (.lst l) ∧ k (.int l.length) M
  | _ => False
@[reducible] def cLen : CD := fun ds M k => on1 ds fun x => lenD x M k
theorem reps1 {K : PySem.W.Frag} {H : Hp} {xs : List V} {d : D} (r : Reps K H xs [d]) : ∃ v, xs = [v] ∧ Rep K H v d := by
  cases r with | cons a b => cases b; exact ⟨_, rfl, a⟩
theorem reps2 {K : PySem.W.Frag} {H : Hp} {xs : List V} {d e : D} (r : Reps K H xs [d, e]) : ∃ v w, xs = [v, w] ∧ Rep K H v d ∧ Rep K H w e := by
  cases r with | cons a b => cases b with | cons c f => cases f; exact ⟨_, _, rfl, a, c⟩
theorem c_len : CallD X (.builtin "len") cLen := cd_of call_len fun xs H Q ds M k r rm hr po => by
  obtain ⟨x, rfl, h⟩ := on1_ex hr
  obtain ⟨v, rfl, rv⟩ := reps1 r
  have gen : onSeq x M (fun l => k (.int l.length) M) → ∃ y n, [v] = [y] ∧ LenV X.K y H n ∧ Gh X Q (.int n) H := fun h => by
    obtain ⟨l, a, vs, rfl, sq, t, hk⟩ := onSeq_ex h rv rm
    refine ⟨_, vs.length, rfl, ?_, gh_id (po _ H _ M (by rw [t.len]; exact .int _) rm (.refl _ _) hk)⟩
    rcases sq with sq | sq
    · exact .inl ⟨vs, sq, rfl⟩
    · exact .inr ⟨vs, sq, rfl⟩
  cases x with
  | str z =>
    cases rv
    exact ⟨_, z.length, rfl, ⟨h.1, rfl⟩, gh_id (po _ H _ M (.int _) rm (.refl _ _) h.2)⟩
  | tup l => exact gen h
  | lst l => exact gen h
  | ref l => exact gen h
  | _ => exact h.elim
@[reducible] def cAll : CD := fun ds M k => on1 ds fun x => onLst x M fun l => ∃ bs : List Bool, l = bs.map D.bl ∧ k (.bl (bs.all id)) M
@[reducible] def cAny : CD := fun ds M k => on1 ds fun x => onLst x M fun l => ∃ bs : List Bool, l = bs.map D.bl ∧ k (.bl (bs.any id)) M
@[reducible] def cSum : CD := fun ds M k => on1 ds fun x => onLst x M fun l => ∃ bs : List Int, l = bs.map D.int ∧ k (.int bs.sum) M
@[reducible] def cMax : CD := fun ds M k => on1 ds fun x => onLst x M fun l => ∃ bs : List Int, l = bs.map D.int ∧ 0 < bs.length ∧ ∀ m, m ∈ bs → (∀ y, y ∈ bs → y ≤ m) → k (.int m) M
theorem c_all (hc : X.calm = true) : CallD X (.builtin "all") cAll := cd_of (cr_all hc) fun xs H Q ds M k r rm hr po => by
  obtain ⟨x, rfl, h⟩ := on1_ex hr
  obtain ⟨v, rfl, rv⟩ := reps1 r
  obtain ⟨l, a, vs, rfl, sq, t, bs, rfl, hk⟩ := onLst_ex h rv rm
  have e := t.bls
  subst e
  exact ⟨a, bs, rfl, sq, gh_id (po _ H _ M (.bl _) rm (.refl _ _) hk)⟩
theorem c_any (hc : X.calm = true) : CallD X (.builtin "any") cAny := cd_of (cr_any hc) fun xs H Q ds M k r rm hr po => by
  obtain ⟨x, rfl, h⟩ := on1_ex hr
  obtain ⟨v, rfl, rv⟩ := reps1 r
  obtain ⟨l, a, vs, rfl, sq, t, bs, rfl, hk⟩ := onLst_ex h rv rm
  have e := t.bls
  subst e
  exact ⟨a, bs, rfl, sq, gh_id (po _ H _ M (.bl _) rm (.refl _ _) hk)⟩
theorem c_sum (hc : X.calm = true) : CallD X (.builtin "sum") cSum := cd_of (cr_sum hc) fun xs H Q ds M k r rm hr po => by
  obtain ⟨x, rfl, h⟩ := on1_ex hr
  obtain ⟨v, rfl, rv⟩ := reps1 r
  obtain ⟨l, a, vs, rfl, sq, t, bs, rfl, hk⟩ := onLst_ex h rv rm
  have e := t.ints
  subst e
  exact ⟨a, bs, rfl, sq, gh_id (po _ H _ M (.int _) rm (.refl _ _) hk)⟩
theorem c_max (hc : X.calm = true) : CallD X (.builtin "max") cMax := cd_of (cr_max hc) fun xs H Q ds M k r rm hr po => by
  obtain ⟨x, rfl, h⟩ := on1_ex hr
  obtain ⟨v, rfl, rv⟩ := reps1 r
  obtain ⟨l, a, vs, rfl, sq, t, bs, rfl, h0, hk⟩ := onLst_ex h rv rm
  have e := t.ints
  subst e
  exact ⟨a, bs, rfl, sq, h0, fun m h1 h2 => gh_id (po _ H _ M (.int _) rm (.refl _ _) (hk m h1 h2))⟩
@[reducible] def cTuple : CD := fun ds M k => on1 ds fun x => onSeq x M fun l => k (.tup l) M
theorem c_tuple : CallD X (.type "tuple") cTuple := cd_of call_tuple_of fun xs H Q ds M k r rm hr po => by
  obtain ⟨x, rfl, h⟩ := on1_ex hr
  obtain ⟨v, rfl, rv⟩ := reps1 r
  obtain ⟨l, a, vs, rfl, sq, t, hk⟩ := onSeq_ex h rv rm
  rcases sq with sq | sq
  · exact ⟨a, vs, rfl, .inl ⟨sq, fun q hq => gh_id (po _ _ _ M (t.newTup hq) (rm.lay hq) (.new hq) hk)⟩⟩
  · exact ⟨a, vs, rfl, .inr ⟨sq, gh_id (po _ H _ M (.tup sq t) rm (.refl _ _) hk)⟩⟩
/-- list(x), that stands still -/
@[reducible] def cListF : CD := fun ds M k => on1 ds fun x => onSeq x M fun l => k (.lst l) M
theorem c_listF : CallD X (.type "list") cListF := cd_of call_list_of fun xs H Q ds M k r rm hr po => by
  obtain ⟨x, rfl, h⟩ := on1_ex hr
  obtain ⟨v, rfl, rv⟩ := reps1 r
  obtain ⟨l, a, vs, rfl, sq, t, hk⟩ := onSeq_ex h rv rm
  exact ⟨a, vs, rfl, sq, fun q hq => post_frz po rm hq t hk⟩
@[reducible] def cInt : CD := fun ds M k => match ds with
  | [.int i] => k (.int i) M
  | [.bl b] => k (.int (if b then 1 else 0)) M
  | _ => False
theorem c_int : CallD X (.type "int") cInt := cd_of call_int1 fun xs H Q ds M k r rm hr po => by
  match ds, r, hr with
  | [.int i], r, hr =>
    obtain ⟨v, rfl, rv⟩ := reps1 r
    cases rv
    exact .inl ⟨i, rfl, gh_id (po _ H _ M (.int _) rm (.refl _ _) hr)⟩
  | [.bl i], r, hr =>
    obtain ⟨v, rfl, rv⟩ := reps1 r
    cases rv
    exact .inr ⟨i, rfl, gh_id (po _ H _ M (.int _) rm (.refl _ _) hr)⟩
@[reducible] def cBool : CD := fun ds M k => match ds with
  | [.bl b] => k (.bl b) M
  | _ => False
theorem c_bool : CallD X (.type "bool") cBool := cd_of call_bool1 fun xs H Q ds M k r rm hr po => by
  match ds, r, hr with
  | [.bl i], r, hr =>
    obtain ⟨v, rfl, rv⟩ := reps1 r
    cases rv
    exact .inr ⟨i, rfl, gh_id (po _ H _ M (.bl _) rm (.refl _ _) hr)⟩
@[reducible] def cStr : CD := fun ds M k => match ds with
  | [.int i] => i.natAbs.log2 < 1920 ∧ k (.str (toString i)) M
  | _ => False
theorem c_str : CallD X (.type "str") cStr := cd_of call_str_int fun xs H Q ds M k r rm hr po => by
  match ds, r, hr with
  | [.int i], r, hr =>
    obtain ⟨v, rfl, rv⟩ := reps1 r
    cases rv
    exact ⟨i, rfl, hr.1, gh_id (po _ H _ M (.str _) rm (.refl _ _) hr.2)⟩

/-! isinstance of data with a built-in class -/
@[reducible] def tyName : D → Option String
  | .non => some "NoneType"
  | .bl _ => some "bool"
  | .int _ => some "int"
  | .str _ => some "str"
  | .tup _ => some "tuple"
  | .lst _ => some "list"
  | .ref _ => none
  | .ty _ => none
  | .exc _ _ _ _ => none
  | .lam _ _ _ => none
theorem tyX_of {H : Hp} {v : V} {d : D} {n : String} (r : Rep X.K H v d) (h : tyName d = some n) : TyX X.K H v (.type n) := by
  cases r with
  | non => cases h; exact .base .non
  | bl b => cases h; exact .base (.bl b)
  | int b => cases h; exact .base (.int b)
  | str b => cases h; exact .base (.str b)
  | ref a => cases h
  | ty a => cases h
  | exc a b => cases h
  | lam a => cases h
  | tup s t =>
    cases h
    rcases s with (s | ⟨o, s⟩) | ⟨o, its, m, s, c, _⟩
    · exact .base (.tup s)
    · exact .fTuple s
    · exact .kTuple s c
  | lst s t =>
    cases h
    rcases s with ⟨o, s⟩ | ⟨o, its, m, s, c, _⟩
    · exact .base (.frz s)
    · exact .kList s c
@[reducible] def okTy (x : D) (M : Mm) : Prop := match x with
  | .ref a => ∃ l, M a = some (.lst l)
  | .ty _ => False
  | .exc _ _ _ _ => False
  | .lam _ _ _ => False
  | _ => True
theorem tyX_ok {H : Hp} {M : Mm} {v : V} {d : D} (r : Rep X.K H v d) (rm : RelM X.K H M) (h : okTy d M) : ∃ n, TyX X.K H v (.type n) ∧ (tyName d = some n ∨ (∃ a, d = .ref a) ∧ n = "list") := by
  cases d with
  | ref a =>
    obtain ⟨l, hM⟩ := h
    obtain ⟨vs, ha, _⟩ := rm a _ hM
    cases r
    exact ⟨"list", .base (.lst ha), .inr ⟨⟨a, rfl⟩, rfl⟩⟩
  | ty n => exact h.elim
  | exc _ _ _ _ => exact h.elim
  | lam _ _ _ => exact h.elim
  | non => exact ⟨_, tyX_of r rfl, .inl rfl⟩
  | bl _ => exact ⟨_, tyX_of r rfl, .inl rfl⟩
  | int _ => exact ⟨_, tyX_of r rfl, .inl rfl⟩
  | str _ => exact ⟨_, tyX_of r rfl, .inl rfl⟩
  | tup _ => exact ⟨_, tyX_of r rfl, .inl rfl⟩
  | lst _ => exact ⟨_, tyX_of r rfl, .inl rfl⟩
@[reducible] def isInt : D → Bool
  | .int _ => true
  | .bl _ => true
  | _ => false
@[reducible] def isBool : D → Bool
  | .bl _ => true
  | _ => false
@[reducible] def isTup : D → Bool
  | .tup _ => true
  | _ => false
@[reducible] def isStr : D → Bool
  | .str _ => true
  | _ => false
@[reducible] def isLst : D → Bool
  | .lst _ => true
  | .ref _ => true
  | _ => false
/-- isinstance(x, T) of data, T a built-in class with the answers g -/
@[reducible] def cIsi (g : D → Bool) : CD := fun ds M k => match ds with
  | [x, _] => okTy x M ∧ k (.bl (g x)) M
  | _ => False
def IsiT (T : String) (g : D → Bool) : Prop := (∀ d n, tyName d = some n → kitB n T = some (g d)) ∧ ∀ a, kitB "list" T = some (g (.ref a))
theorem isi_mk {T : String} {g : D → Bool} {a b c d e f : Bool} (h1 : kitB "NoneType" T = some a) (h2 : kitB "bool" T = some b) (h3 : kitB "int" T = some c) (h4 : kitB "str" T = some d) (h5 : kitB "tuple" T = some e) (h6 : kitB "list" T = some f)
    (g1 : g .non = a) (g2 : ∀ x, g (.bl x) = b) (g3 : ∀ x, g (.int x) = c) (g4 : ∀ x, g (.str x) = d) (g5 : ∀ x, g (.tup x) = e) (g6 : ∀ x, g (.lst x) = f) (g7 : ∀ x, g (.ref x) = f) : IsiT T g := by
  refine ⟨fun x n h => ?_, fun x => by rw [g7]; exact h6⟩
  cases x with
  | non => cases h; rw [g1]; exact h1
  | bl _ => cases h; rw [g2]; exact h2
  | int _ => cases h; rw [g3]; exact h3
  | str _ => cases h; rw [g4]; exact h4
  | tup _ => cases h; rw [g5]; exact h5
  | lst _ => cases h; rw [g6]; exact h6
  | ref _ => cases h
  | ty _ => cases h
  | exc _ _ _ _ => cases h
  | lam _ _ _ => cases h
theorem isi_int : IsiT "int" isInt := isi_mk (by decide +kernel) (by decide +kernel) (by decide +kernel) (by decide +kernel) (by decide +kernel) (by decide +kernel) rfl (fun _ => rfl) (fun _ => rfl) (fun _ => rfl) (fun _ => rfl) (fun _ => rfl) (fun _ => rfl)
theorem isi_bool : IsiT "bool" isBool := isi_mk (by decide +kernel) (by decide +kernel) (by decide +kernel) (by decide +kernel) (by decide +kernel) (by decide +kernel) rfl (fun _ => rfl) (fun _ => rfl) (fun _ => rfl) (fun _ => rfl) (fun _ => rfl) (fun _ => rfl)
theorem isi_tup : IsiT "tuple" isTup := isi_mk (by decide +kernel) (by decide +kernel) (by decide +kernel) (by decide +kernel) (by decide +kernel) (by decide +kernel) rfl (fun _ => rfl) (fun _ => rfl) (fun _ => rfl) (fun _ => rfl) (fun _ => rfl) (fun _ => rfl)
theorem isi_str : IsiT "str" isStr := isi_mk (by decide +kernel) (by decide +kernel) (by decide +kernel) (by decide +kernel) (by decide +kernel) (by decide +kernel) rfl (fun _ => rfl) (fun _ => rfl) (fun _ => rfl) (fun _ => rfl) (fun _ => rfl) (fun _ => rfl)
theorem isi_lst : IsiT "list" isLst := isi_mk (by decide +kernel) (by decide +kernel) (by decide +kernel) (by decide +kernel) (by decide +kernel) (by decide +kernel) rfl (fun _ => rfl) (fun _ => rfl) (fun _ => rfl) (fun _ => rfl) (fun _ => rfl) (fun _ => rfl)
variable {p3 : Pos}
theorem e_isi {T : String} {xT : Str} {g : D → Bool} (t : IsiT T g) (hg : Gl X "isinstance") (hm : X.mg "isinstance" = none) (hgT : Gl X xT) (hmT : X.mg xT = none) (hvT : bootBuiltins xT = some (.type T)) (ha : SE X a wa)
    (hnT : xT ≠ "__name__" := by decide) (hdbT : (xT == ("__debug__" : Str)) = false := by decide)
    (he : starEach (a :: [.Name xT p2]) X.env = (false, eval a X.env) :: starEach [.Name xT p2] X.env := by rfl) (he2 : starEach (.Name xT p2 :: []) X.env = (false, eval (.Name xT p2) X.env) :: starEach [] X.env := by rfl) (hpl : (backTo pos (starEach [.Name xT p2] X.env)).any (·.1) = false := by rfl) :
    SE X (.Call (.Name "isinstance" p) [a, .Name xT p2] [] pos) (wCB (cIsi g) (wCons wa (wCons (wC (.ty T)) wNil))) := by
  intro Wx tk
  have hA : SA X [a, .Name xT p2] (wCons wa (wCons (wC (.ty T)) wNil)) := a_cons ha (a_cons (e_bltn hgT hmT hvT hnT hdbT) a_nil he2) he
  refine PE.imp (pe_callB call_isi hg hm (by decide +kernel) (hA Wx tk) (by decide) (by decide) he hpl) fun σ H Q h => ?_
  obtain ⟨sd, M, k, kx, rs, rm, h, p, px⟩ := h
  refine ⟨sd, M, _, kx, rs, rm, (show wa sd M (kAC1 (wCons (wC (.ty T)) wNil) sd (fun ds M' => ds[1]? = some (.ty T) ∧ kCB (cIsi g) k ds M') kx) kx from ?_), fun vs H1 ds M1 r1 rs1 rm1 s1 h1 => ?_, px⟩
  · have e : kAC1 (wCons (wC (.ty T)) wNil) sd (fun ds M' => ds[1]? = some (.ty T) ∧ kCB (cIsi g) k ds M') kx = kAC1 (wCons (wC (.ty T)) wNil) sd (kCB (cIsi g) k) kx := by
      funext d M'
      exact propext ⟨fun h => h.2, fun h => ⟨rfl, h⟩⟩
    rw [e]
    exact h
  · obtain ⟨e1, h1⟩ := h1
    match ds, r1, e1, h1 with
    | [x, y], r1, e1, h1 =>
      have e1 : y = .ty T := by simpa using e1
      subst e1
      obtain ⟨v, w, rfl, rv, rw'⟩ := reps2 r1
      cases rw'
      obtain ⟨ok, hk⟩ := h1
      obtain ⟨n, tx, hn⟩ := tyX_ok rv rm1 ok
      refine ⟨v, .ty T, .type n, .type T, g x, rfl, .ty T, tx, kit_ty ?_, p _ H1 _ M1 (.bl _) rs1 rm1 s1 hk⟩
      rcases hn with hn | ⟨⟨a, rfl⟩, rfl⟩
      · exact t.1 _ _ hn
      · exact t.2 a
end
end DL
namespace DL
open PySem PySem.Spec PyProof.Rows L2
variable [TL : TabList]

/-! ### slots -/
@[reducible] def setD : SD → Nat → D → SD
  | [], _, _ => []
  | _ :: r, 0, d => some d :: r
  | x :: r, i + 1, d => x :: setD r i d
theorem setD_set : ∀ (sd : SD) (i : Nat) (d : D), setD sd i d = sd.set i (some d)
  | [], _, _ => rfl
  | _ :: r, 0, d => rfl
  | x :: r, i + 1, d => by show x :: setD r i d = x :: r.set i (some d); rw [setD_set]
@[reducible] def unsetD : SD → Nat → SD
  | [], _ => []
  | _ :: r, 0 => none :: r
  | x :: r, i + 1 => x :: unsetD r i
theorem unsetD_set : ∀ (sd : SD) (i : Nat), unsetD sd i = sd.set i none
  | [], _ => rfl
  | _ :: r, 0 => rfl
  | x :: r, i + 1 => by show x :: unsetD r i = x :: r.set i none; rw [unsetD_set]
@[reducible] def wipeD : SD → List Nat → SD
  | sd, [] => sd
  | sd, v :: vs => unsetD (wipeD sd vs) v
theorem RelS.wipe {K : PySem.W.Frag} {H : Hp} {σ : St} {sd : SD} (h : RelS K H σ sd) : ∀ vs : List Nat, RelS K H (wipe σ vs) (wipeD sd vs)
  | [] => h
  | v :: vs => by
    show RelS K H ((L2.wipe σ vs).set v none) (unsetD (wipeD sd vs) v)
    rw [unsetD_set]
    exact (RelS.wipe h vs).setN

/-! ### targets -/
inductive Tg where
  | one (i : Nat)
  | many (is : List Nat)
def gNames : List Nat → TGs
  | [] => gNil
  | i :: is => gCons (gName i) (gNames is)
def gOf (K : PySem.W.Frag) : Tg → TG
  | .one i => gName i
  | .many is => gTup K is.length (gNames is)
@[reducible] def setMany : List Nat → List D → SD → SD
  | i :: is, d :: ds, sd => setMany is ds (setD sd i d)
  | _, _, sd => sd
/-- the right number of items -/
@[reducible] def fitN : List Nat → List D → Prop → Prop
  | [], [], P => P
  | _ :: is, _ :: ds, P => fitN is ds P
  | _, _, _ => False
theorem fitN_len : ∀ {is : List Nat} {ds : List D} {P : Prop}, fitN is ds P → ds.length = is.length ∧ P
  | [], [], _, h => ⟨rfl, h⟩
  | _ :: is, _ :: ds, _, h => by obtain ⟨a, b⟩ := fitN_len (is := is) (ds := ds) h; exact ⟨by simp [a], b⟩
  | [], _ :: _, _, h => h.elim
  | _ :: _, [], _, h => h.elim
@[reducible] def bindTg (t : Tg) (d : D) (sd : SD) (k : SD → Prop) : Prop := match t with
  | .one i => k (setD sd i d)
  | .many is => match d with
    | .tup ds => fitN is ds (k (setMany is ds sd))
    | _ => False
theorem wipe_set (σ : St) (i : Nat) {x : Option V} (us : List Nat) (h : i ∈ us) : wipe (σ.set i x) us = wipe σ us := by
  have com : ∀ (vs : List Nat), i ∉ vs → wipe (σ.set i x) vs = (wipe σ vs).set i x := by
    intro vs
    induction vs with
    | nil => intro _; rfl
    | cons w ws ih2 =>
      intro hn
      show (wipe (σ.set i x) ws).set w none = ((wipe σ ws).set w none).set i x
      rw [ih2 fun z => hn (List.mem_cons_of_mem _ z), List.set_comm _ _ (fun z => hn (by rw [z]; exact List.mem_cons_self))]
  induction us with
  | nil => cases h
  | cons u us ih =>
    show (wipe (σ.set i x) us).set u none = (wipe σ us).set u none
    by_cases hi : i ∈ us
    · rw [ih hi]
    · have e : i = u := by
        rcases List.mem_cons.mp h with e | e
        · exact e
        · exact absurd e hi
      subst e
      rw [com us hi, List.set_set]
theorem gNames_ok {K : PySem.W.Frag} {H : Hp} {Q : St → Hp → Prop} : ∀ {is : List Nat} {ds : List D} {vs : List V} {σ : St} {sd : SD}, RelS K H σ sd → Reps K H vs ds → ds.length = is.length → (∀ σ', RelS K H σ' (setMany is ds sd) → (∀ us : List Nat, (∀ i ∈ is, i ∈ us) → wipe σ' us = wipe σ us) → Q σ' H) → gNames is vs σ H Q
  | [], [], _, σ, sd, rs, .nil, _, q => ⟨rfl, q σ rs fun _ _ => rfl⟩
  | i :: is, d :: ds, _, σ, sd, rs, .cons r t, hl, q => by
    rename_i v vs
    refine ⟨v, vs, rfl, gNames_ok (is := is) (ds := ds) (sd := setD sd i d) (by rw [setD_set]; exact rs.set r) t (by simpa using hl) fun σ' rs' hw => q σ' rs' fun us hu => ?_⟩
    rw [hw us fun j hj => hu j (List.mem_cons_of_mem _ hj)]
    exact wipe_set _ _ _ (hu i List.mem_cons_self)
theorem gOf_ok {K : PySem.W.Frag} {H : Hp} {Q : St → Hp → Prop} {t : Tg} {d : D} {v : V} {σ : St} {sd : SD} {k : SD → Prop} (h : bindTg t d sd k) (rs : RelS K H σ sd) (r : Rep K H v d)
    (q : ∀ σ' sd', RelS K H σ' sd' → k sd' → (∀ us : List Nat, (∀ i ∈ (match t with | .one i => [i] | .many is => is), i ∈ us) → wipe σ' us = wipe σ us) → Q σ' H) : gOf K t v σ H Q := by
  cases t with
  | one i =>
    show Q (σ.set i (some v)) H
    exact q _ _ (by rw [setD_set]; exact rs.set r) h fun us hu => wipe_set _ _ _ (hu i (by simp))
  | many is =>
    cases d with
    | tup ds =>
      obtain ⟨hl, hk⟩ := fitN_len h
      cases r with
      | tup s tt => exact ⟨_, _, rfl, s, by rw [tt.len, hl], gNames_ok rs tt hl fun σ' rs' hw => q σ' _ rs' hk hw⟩
    | _ => exact h.elim

/-! ### what is walked -/
def SrcOk (K : PySem.W.Frag) (H : Hp) (J : It) (xs : List D) : Prop := ∀ H', Stay H H' → (∀ i, xs.length ≤ i → J.stop i H') ∧
  ∀ i d, xs[i]? = some d → J.go i H' ∧ ∀ x H'', J.yld i H' x H'' → Rep K H'' x d ∧ ∀ M, RelM K H' M → RelM K H'' M ∧ Kp M H' M H''
theorem SrcOk.stay {K : PySem.W.Frag} {H H1 : Hp} {J : It} {xs : List D} (s : SrcOk K H J xs) (st : Stay H H1) : SrcOk K H1 J xs := fun H' h => s H' (st.trans h)
abbrev WI := SD → Mm → (List D → Mm → Prop) → KX → Prop
def toTI (K : PySem.W.Frag) (Wx : WX) (w : WI) : TI := fun σ H R => ∃ sd M k kx, RelS K H σ sd ∧ RelM K H M ∧ w sd M k kx ∧ (∀ J H' xs M', SrcOk K H' J xs → RelS K H' σ sd → RelM K H' M' → Kp M H M' H' → k xs M' → R J H') ∧ PostX K H M σ sd kx Wx
def SI (X : Cx) (tg iter : Expr) (w : WI) : Prop := ∀ Wx, Takes X Wx → PI X tg iter (toTI X.K Wx w)
theorem PI.imp {X : Cx} {tg iter : Expr} {t t' : TI} (h : PI X tg iter t) (i : ∀ σ H R, t' σ H R → t σ H R) : PI X tg iter t' := ⟨fun p s σ H R I q => h.run p s σ H R I (i σ H R q)⟩
section
variable {X : Cx} {tg e a b c : Expr} {es : List Expr} {w wa wb : WE} {ws : WA} {pos p tpos : Pos}
theorem src_list {K : PySem.W.Frag} {H : Hp} {a : Addr} {vs : List V} {ds : List D} (s : FzL K H a vs) (t : Reps K H vs ds) : SrcOk K H (Itl K a) ds := fun H' st => by
  have s' := (st.fzl s).sq
  have t' := t.st st
  refine ⟨fun i hi => ⟨vs, s', by rw [t.len]; exact hi⟩, fun i d e => ?_⟩
  obtain ⟨v, e1, r⟩ := t'.get e
  refine ⟨⟨vs, v, s', e1⟩, fun x H'' ⟨h1, h2⟩ => ?_⟩
  subst h1
  have z := h2 vs s'
  rw [e1] at z; cases z
  exact ⟨r, fun M rm => ⟨rm, .refl _ _⟩⟩
theorem src_tup {K : PySem.W.Frag} {H : Hp} {a : Addr} {vs : List V} {ds : List D} (s : SqT K H a vs) (t : Reps K H vs ds) : SrcOk K H (Itt K a) ds := fun H' st => by
  have s' := st.sqt s
  have t' := t.st st
  refine ⟨fun i hi => ⟨vs, s', by rw [t.len]; exact hi⟩, fun i d e => ?_⟩
  obtain ⟨v, e1, r⟩ := t'.get e
  refine ⟨⟨vs, v, s', e1⟩, fun x H'' ⟨h1, h2⟩ => ?_⟩
  subst h1
  have z := h2 vs s'
  rw [e1] at z; cases z
  exact ⟨r, fun M rm => ⟨rm, .refl _ _⟩⟩
/-- the numbers from lo on -/
def rngD (lo : Int) (n : Nat) : List D := (List.range n).map fun (i : Nat) => D.int (lo + i)
theorem src_rng {K : PySem.W.Frag} {H : Hp} {lo : Int} {n : Nat} : SrcOk K H (Itr lo n) (rngD lo n) := fun H' st => by
  refine ⟨fun i hi => ?_, fun i d e => ?_⟩
  · show n ≤ i
    simpa [rngD] using hi
  · unfold rngD at e
    rw [List.getElem?_map] at e
    by_cases hi : i < n
    · rw [List.getElem?_range hi] at e
      cases e
      refine ⟨hi, fun x H'' ⟨h1, h2⟩ => ?_⟩
      subst h1 h2
      exact ⟨.int _, fun M rm => ⟨rm, .refl _ _⟩⟩
    · rw [List.getElem?_eq_none (by simpa using hi)] at e; cases e
@[reducible] def kSrcL (k : List D → Mm → Prop) : KE := fun d M => match d with
  | .lst l => k l M
  | _ => False
@[reducible] def kSrcT (k : List D → Mm → Prop) : KE := fun d M => match d with
  | .tup l => k l M
  | _ => False
@[reducible] def wSrcL (w : WE) : WI := fun sd M k kx => w sd M (kSrcL k) kx
@[reducible] def wSrcT (w : WE) : WI := fun sd M k kx => w sd M (kSrcT k) kx
theorem i_list (h : SE X e w) : SI X tg e (wSrcL w) := fun Wx tk => PI.imp (pi_list (h Wx tk)) fun σ H R q => by
  obtain ⟨sd, M, k, kx, rs, rm, h, p, px⟩ := q
  refine ⟨sd, M, _, kx, rs, rm, h, fun v H1 d M1 r1 rs1 rm1 s1 h1 => ?_, px⟩
  cases d with
  | lst l => cases r1 with | lst s t => exact ⟨_, rfl, ⟨_, s.sq⟩, p _ H1 l M1 (src_list s t) rs1 rm1 s1 h1⟩
  | _ => exact h1.elim
theorem i_tup (h : SE X e w) : SI X tg e (wSrcT w) := fun Wx tk => PI.imp (pi_tup (h Wx tk)) fun σ H R q => by
  obtain ⟨sd, M, k, kx, rs, rm, h, p, px⟩ := q
  refine ⟨sd, M, _, kx, rs, rm, h, fun v H1 d M1 r1 rs1 rm1 s1 h1 => ?_, px⟩
  cases d with
  | tup l => cases r1 with | tup s t => exact ⟨_, rfl, ⟨_, s⟩, p _ H1 l M1 (src_tup s t) rs1 rm1 s1 h1⟩
  | _ => exact h1.elim
@[reducible] def on2 (ds : List D) (k : D → D → Prop) : Prop := match ds with
  | [x, y] => k x y
  | _ => False
theorem on2_ex {ds : List D} {k : D → D → Prop} (h : on2 ds k) : ∃ x y, ds = [x, y] ∧ k x y := by
  match ds, h with
  | [x, y], h => exact ⟨x, y, rfl, h⟩
@[reducible] def kRg1 (k : List D → Mm → Prop) : List D → Mm → Prop := fun ds M => on1 ds fun x => asI x fun j => (-(2 ^ 62) ≤ j ∧ j < 2 ^ 62) ∧ k (rngD 0 j.toNat) M
@[reducible] def kRg2 (k : List D → Mm → Prop) : List D → Mm → Prop := fun ds M => on2 ds fun x y => asI x fun i => asI y fun j => (-(2 ^ 62) ≤ i ∧ i < 2 ^ 62 ∧ -(2 ^ 62) ≤ j ∧ j < 2 ^ 62) ∧ k (rngD i (j - i).toNat) M
@[reducible] def wRg1 (ws : WA) : WI := fun sd M k kx => ws sd M (kRg1 k) kx
@[reducible] def wRg2 (ws : WA) : WI := fun sd M k kx => ws sd M (kRg2 k) kx
theorem i_rg1 (hg : Gl X "range") (hm : X.mg "range" = none) (ha : SA X [a] ws) (hs : starEach [a] X.env = [(false, eval a X.env)] := by rfl) : SI X tg (.Call (.Name "range" p) [a] [] pos) (wRg1 ws) := fun Wx tk =>
  PI.imp (pi_range1 hg hm (ha Wx tk) hs) fun σ H R q => by
    obtain ⟨sd, M, k, kx, rs, rm, h, p, px⟩ := q
    refine ⟨sd, M, _, kx, rs, rm, h, fun vs H1 ds M1 r1 rs1 rm1 s1 h1 => ?_, px⟩
    obtain ⟨x, rfl, h1⟩ := on1_ex h1
    obtain ⟨j, rfl, ⟨h2, h3⟩, hk⟩ := asI_ex h1
    obtain ⟨v, rfl, rv⟩ := reps1 r1
    cases rv
    exact ⟨j, rfl, h2, h3, p _ H1 _ M1 src_rng rs1 rm1 s1 hk⟩
theorem i_rg2 (hg : Gl X "range") (hm : X.mg "range" = none) (ha : SA X [a, b] ws) (hs : starEach [a, b] X.env = [(false, eval a X.env), (false, eval b X.env)] := by rfl) (hs2 : starEach [b] X.env = [(false, eval b X.env)] := by rfl) :
    SI X tg (.Call (.Name "range" p) [a, b] [] pos) (wRg2 ws) := fun Wx tk =>
  PI.imp (pi_range2 hg hm (ha Wx tk) hs hs2) fun σ H R q => by
    obtain ⟨sd, M, k, kx, rs, rm, h, p, px⟩ := q
    refine ⟨sd, M, _, kx, rs, rm, h, fun vs H1 ds M1 r1 rs1 rm1 s1 h1 => ?_, px⟩
    obtain ⟨x, y, rfl, h1⟩ := on2_ex h1
    obtain ⟨i, rfl, h1⟩ := asI_ex h1
    obtain ⟨j, rfl, hb, hk⟩ := asI_ex h1
    obtain ⟨v, w, rfl, rv, rw'⟩ := reps2 r1
    cases rv
    cases rw'
    exact ⟨i, j, rfl, hb, p _ H1 _ M1 src_rng rs1 rm1 s1 hk⟩
/-- zip of two tuples; of two lists -/
def zipD : List D → List D → List D
  | x :: xs, y :: ys => .tup [x, y] :: zipD xs ys
  | _, _ => []
theorem zipD_len : ∀ (xs ys : List D), (zipD xs ys).length = min xs.length ys.length
  | [], ys => by simp [zipD]
  | x :: xs, [] => by simp [zipD]
  | x :: xs, y :: ys => by simp only [zipD, List.length_cons, zipD_len xs ys]; omega
theorem zipD_get : ∀ {xs ys : List D} {i : Nat} {d : D}, (zipD xs ys)[i]? = some d → ∃ x y, xs[i]? = some x ∧ ys[i]? = some y ∧ d = .tup [x, y]
  | [], _, _, _, h => by simp [zipD] at h
  | _ :: _, [], _, _, h => by simp [zipD] at h
  | x :: xs, y :: ys, 0, d, h => by simp [zipD] at h; exact ⟨x, y, rfl, rfl, h.symm⟩
  | x :: xs, y :: ys, i + 1, d, h => by
    obtain ⟨a, b, h1, h2, h3⟩ := zipD_get (xs := xs) (ys := ys) (i := i) (by simpa [zipD] using h)
    exact ⟨a, b, by simpa using h1, by simpa using h2, h3⟩
theorem pair_new {K : PySem.W.Frag} {H : Hp} {T : Addr} {x y : V} {dx dy : D} (n : H T = none) (r1 : Rep K H x dx) (r2 : Rep K H y dy) : Rep K (upd H T (.tup [x, y])) (.ref T) (.tup [dx, dy]) := Reps.newTup n (.cons r1 (.cons r2 .nil))
theorem src_zipT {K : PySem.W.Frag} {H : Hp} {a b : Addr} {vs ws : List V} {xs ys : List D} (s1 : SqT K H a vs) (s2 : SqT K H b ws) (t1 : Reps K H vs xs) (t2 : Reps K H ws ys) : SrcOk K H (RZ.ItzT K a b) (zipD xs ys) := fun H' st => by
  have s1' := st.sqt s1
  have s2' := st.sqt s2
  have t1' := t1.st st
  have t2' := t2.st st
  refine ⟨fun i hi => ⟨vs, ws, s1', s2', ?_⟩, fun i d e => ?_⟩
  · rw [zipD_len] at hi
    rw [t1.len, t2.len]; omega
  · obtain ⟨x, y, e1, e2, rfl⟩ := zipD_get e
    obtain ⟨v, f1, r1⟩ := t1'.get e1
    obtain ⟨w, f2, r2⟩ := t2'.get e2
    refine ⟨⟨vs, ws, v, w, s1', s2', f1, f2⟩, fun u H'' ⟨T, x', y', h1, h2, h3, h4, h5⟩ => ?_⟩
    subst h1 h3
    have z1 := h4 vs s1'
    have z2 := h5 ws s2'
    rw [f1] at z1; cases z1
    rw [f2] at z2; cases z2
    exact ⟨pair_new h2 r1 r2, fun M rm => ⟨rm.lay h2, .new h2⟩⟩
theorem src_zipL {K : PySem.W.Frag} {H : Hp} {a b : Addr} {vs ws : List V} {xs ys : List D} (s1 : FzL K H a vs) (s2 : FzL K H b ws) (t1 : Reps K H vs xs) (t2 : Reps K H ws ys) : SrcOk K H (Itz K a b) (zipD xs ys) := fun H' st => by
  have s1' := (st.fzl s1).sq
  have s2' := (st.fzl s2).sq
  have t1' := t1.st st
  have t2' := t2.st st
  refine ⟨fun i hi => ⟨vs, ws, s1', s2', ?_⟩, fun i d e => ?_⟩
  · rw [zipD_len] at hi
    rw [t1.len, t2.len]; omega
  · obtain ⟨x, y, e1, e2, rfl⟩ := zipD_get e
    obtain ⟨v, f1, r1⟩ := t1'.get e1
    obtain ⟨w, f2, r2⟩ := t2'.get e2
    refine ⟨⟨vs, ws, v, w, s1', s2', f1, f2⟩, fun u H'' ⟨T, x', y', h1, h2, h3, h4, h5⟩ => ?_⟩
    subst h1 h3
    have z1 := h4 vs s1'
    have z2 := h5 ws s2'
    rw [f1] at z1; cases z1
    rw [f2] at z2; cases z2
    exact ⟨pair_new h2 r1 r2, fun M rm => ⟨rm.lay h2, .new h2⟩⟩
@[reducible] def kZip (k : List D → Mm → Prop) : List D → Mm → Prop := fun ds M => match ds with
  | [.tup l, .tup m] => k (zipD l m) M
  | [.lst l, .lst m] => k (zipD l m) M
  | _ => False
@[reducible] def wZip (ws : WA) : WI := fun sd M k kx => ws sd M (kZip k) kx
theorem i_zip {elts : List Expr} {kk : Nat} (hg : Gl X "zip") (hm : X.mg "zip" = none) (ha : SA X [a, b] ws)
    (hs : starEach [a, b] X.env = (false, eval a X.env) :: starEach [b] X.env := by rfl) (hpl : (backTo pos (starEach [b] X.env)).any (·.1) = false := by rfl) : SI X (.Tuple elts kk tpos) (.Call (.Name "zip" p) [a, b] [] pos) (wZip ws) := fun Wx tk =>
  PI.imp (RZ.pi_zipA hg hm (ha Wx tk) hs hpl) fun σ H R q => by
    obtain ⟨sd, M, k, kx, rs, rm, h, p, px⟩ := q
    refine ⟨sd, M, _, kx, rs, rm, h, fun vs H1 ds M1 r1 rs1 rm1 s1 h1 => ?_, px⟩
    match ds, r1, h1 with
    | [.tup l, .tup m], r1, h1 =>
      obtain ⟨v, w, rfl, rv, rw'⟩ := reps2 r1
      cases rv with
      | tup q1 t1 => cases rw' with | tup q2 t2 => exact ⟨_, _, _, _, rfl, .inr ⟨q1, q2, p _ H1 _ M1 (src_zipT q1 q2 t1 t2) rs1 rm1 s1 h1⟩⟩
    | [.lst l, .lst m], r1, h1 =>
      obtain ⟨v, w, rfl, rv, rw'⟩ := reps2 r1
      cases rv with
      | lst q1 t1 => cases rw' with | lst q2 t2 => exact ⟨_, _, _, _, rfl, .inl ⟨q1.sq, q2.sq, p _ H1 _ M1 (src_zipL q1 q2 t1 t2) rs1 rm1 s1 h1⟩⟩
/-- enumerate of a list that stands still -/
def enumD (i : Nat) : List D → List D
  | [] => []
  | x :: xs => .tup [.int i, x] :: enumD (i + 1) xs
theorem enumD_len : ∀ (xs : List D) (i : Nat), (enumD i xs).length = xs.length
  | [], _ => rfl
  | x :: xs, i => by simp only [enumD, List.length_cons, enumD_len xs]
theorem enumD_get : ∀ {xs : List D} {k i : Nat} {d : D}, (enumD k xs)[i]? = some d → ∃ x, xs[i]? = some x ∧ d = .tup [.int (k + i : Nat), x]
  | [], _, _, _, h => by simp [enumD] at h
  | x :: xs, k, 0, d, h => by simp [enumD] at h; exact ⟨x, rfl, h.symm⟩
  | x :: xs, k, i + 1, d, h => by
    obtain ⟨a, h1, h2⟩ := enumD_get (xs := xs) (k := k + 1) (i := i) (by simpa [enumD] using h)
    exact ⟨a, by simpa using h1, by rw [h2]; congr 4; omega⟩
theorem src_enum {K : PySem.W.Frag} {H : Hp} {a : Addr} {vs : List V} {xs : List D} (s1 : FzL K H a vs) (t1 : Reps K H vs xs) : SrcOk K H (Ite K a) (enumD 0 xs) := fun H' st => by
  have s1' := (st.fzl s1).sq
  have t1' := t1.st st
  refine ⟨fun i hi => ⟨vs, s1', by rw [enumD_len] at hi; rw [t1.len]; exact hi⟩, fun i d e => ?_⟩
  obtain ⟨x, e1, rfl⟩ := enumD_get e
  obtain ⟨v, f1, r1⟩ := t1'.get e1
  refine ⟨⟨vs, v, s1', f1⟩, fun u H'' ⟨T, x', h1, h2, h3, h4⟩ => ?_⟩
  subst h1 h3
  have z1 := h4 vs s1'
  rw [f1] at z1; cases z1
  refine ⟨?_, fun M rm => ⟨rm.lay h2, .new h2⟩⟩
  have := pair_new h2 (.int ((i : Nat) : Int)) r1
  simpa using this
end

/-! ### statements -/
section
variable {X : Cx} {tg e a b c : Expr} {es : List Expr} {w wa wb : WE} {wt : WT} {ws : WA} {wi : WI} {s1 s2 : WS} {st : Stmt} {sts body : List Stmt} {pos p : Pos}
@[reducible] def exAt (ED : EndsD) (sd : SD) : KX := fun cls fs M => ED.ex cls fs sd M
@[reducible] def wNext : WS := fun ED sd M => ED.nx sd M
@[reducible] def wSeq (s1 s2 : WS) : WS := fun ED sd M => s1 { ED with nx := s2 ED } sd M
theorem ss_nil : SSs X [] wNext := fun Wx tk => PSs.imp pss_nil fun E σ H h => by
  obtain ⟨ED, sd, M, rs, rm, h, r⟩ := h
  exact r.nx σ H sd M rs rm (.refl _ _) h
theorem ss_cons (h1 : SS X st s1) (h2 : SSs X sts s2) : SSs X (st :: sts) (wSeq s1 s2) := fun Wx tk => PSs.imp (pss_cons (h1 Wx tk) (h2 Wx tk)) fun E σ H h => by
  obtain ⟨ED, sd, M, rs, rm, h, r⟩ := h
  exact ⟨_, sd, M, rs, rm, h, ⟨fun σ' H' sd' M' rs' rm' k h' => ⟨ED, sd', M', rs', rm', h', r.st k⟩, r.rt, r.bk, r.ct, r.ex⟩⟩
theorem ss_one (h1 : SS X st s1) : SSs X [st] s1 := fun Wx tk => pss_one (h1 Wx tk)
theorem s_pass : SS X (.Pass pos) wNext := fun Wx tk => PS.imp ps_pass fun E σ H h => by
  obtain ⟨ED, sd, M, rs, rm, h, r⟩ := h
  exact r.nx σ H sd M rs rm (.refl _ _) h
@[reducible] def wBreak : WS := fun ED sd M => ED.bk sd M
@[reducible] def wCont : WS := fun ED sd M => ED.ct sd M
theorem s_break : SS X (.Break pos) wBreak := fun Wx tk => PS.imp ps_break fun E σ H h => by
  obtain ⟨ED, sd, M, rs, rm, h, r⟩ := h
  exact r.bk σ H sd M rs rm (.refl _ _) h
theorem s_cont : SS X (.Continue pos) wCont := fun Wx tk => PS.imp ps_continue fun E σ H h => by
  obtain ⟨ED, sd, M, rs, rm, h, r⟩ := h
  exact r.ct σ H sd M rs rm (.refl _ _) h
@[reducible] def wRet (w : WE) : WS := fun ED sd M => w sd M ED.rt (exAt ED sd)
theorem s_ret (h : SE X e w) : SS X (.Return (some e) pos) (wRet w) := fun Wx tk => PS.imp (ps_ret (h Wx tk)) fun E σ H h => by
  obtain ⟨ED, sd, M, rs, rm, h, r⟩ := h
  exact ⟨sd, M, _, _, rs, rm, h, fun v H' d M' a _ c k q => r.rt v H' d M' a c k q, r.ex.at⟩
@[reducible] def wRetN : WS := fun ED _ M => ED.rt .non M
theorem s_retN : SS X (.Return none pos) wRetN := fun Wx tk => PS.imp ps_retN fun E σ H h => by
  obtain ⟨ED, sd, M, rs, rm, h, r⟩ := h
  exact r.rt _ H _ M .non rm (.refl _ _) h
@[reducible] def kDrop (k : SD → Mm → Prop) (sd : SD) : KE := fun _ M => k sd M
@[reducible] def wDrop (w : WE) : WS := fun ED sd M => w sd M (kDrop ED.nx sd) (exAt ED sd)
theorem s_expr (h : SE X e w) (hs : swapsWith e none pos.line X.env = pure false := by rfl) : SS X (.Expr e pos) (wDrop w) := fun Wx tk => PS.imp (ps_expr (h Wx tk) hs) fun E σ H h => by
  obtain ⟨ED, sd, M, rs, rm, h, r⟩ := h
  exact ⟨sd, M, _, _, rs, rm, h, fun v H' d M' _ b c k q => r.nx σ H' sd M' b c k q, r.ex.at⟩
@[reducible] def kIfS (t u : WS) (ED : EndsD) (sd : SD) : Bool → Mm → Prop := fun b M => sel b (t ED sd M) (u ED sd M)
@[reducible] def wIf (c : WT) (t u : WS) : WS := fun ED sd M => c sd M (kIfS t u ED sd) (exAt ED sd)
theorem s_if {as bs : List Stmt} (hc : ST X c wt) (ha : SSs X as s1) (hb : SSs X bs s2) : SS X (.If c as bs pos) (wIf wt s1 s2) := fun Wx tk => PS.imp (ps_if (hc Wx tk) (ha Wx tk) (hb Wx tk)) fun E σ H h => by
  obtain ⟨ED, sd, M, rs, rm, h, r⟩ := h
  refine ⟨sd, M, _, _, rs, rm, h, fun b H' M' rs' rm' k q => ?_, r.ex.at⟩
  cases b with
  | true => exact ⟨ED, sd, M', rs', rm', q.of, r.st k⟩
  | false => exact ⟨ED, sd, M', rs', rm', q.of, r.st k⟩
@[reducible] def kSet (i : Nat) (k : SD → Mm → Prop) (sd : SD) : KE := fun d M => k (setD sd i d) M
@[reducible] def wSet (i : Nat) (w : WE) : WS := fun ED sd M => w sd M (kSet i ED.nx sd) (exAt ED sd)
theorem s_set {i : Nat} {x : Str} {pos' : Pos} (hN : X.N.Nodup) (hi : X.N[i]? = some x) (hx : Loc X.env.scope x) (h : SE X e w) (hs : swapsWith e (some (.Name x pos')) pos.line X.env = pure false := by rfl) (hf : X.fn x = true ∨ X.env.scope.names.lookup x = some .local := by first | exact .inl rfl | exact .inr rfl | assumption) :
    SS X (.Assign [.Name x pos'] e pos) (wSet i w) := fun Wx tk => PS.imp (ps_set hN hi hx (h Wx tk) hs hf) fun E σ H h => by
  obtain ⟨ED, sd, M, rs, rm, h, r⟩ := h
  exact ⟨sd, M, _, _, rs, rm, h, fun v H' d M' a b c k q => r.nx _ H' _ M' (by rw [setD_set]; exact b.set a) c k q, r.ex.at⟩
@[reducible] def kAsg (t : Tg) (k : SD → Mm → Prop) (sd : SD) : KE := fun d M => bindTg t d sd fun sd' => k sd' M
@[reducible] def wAsg (t : Tg) (w : WE) : WS := fun ED sd M => w sd M (kAsg t ED.nx sd) (exAt ED sd)
theorem s_asg {t : Tg} (h : SE X e w) (hg : PG X tg (gOf X.K t)) (hs : swapsWithSole [tg] e pos.line X.env = pure false := by rfl) (hw : swappedStores [tg] e X.env = pure none := by rfl)
    (h1 : (assignEach [tg] X.env).map (·.2) = [assign tg X.env] := by rfl) : SS X (.Assign [tg] e pos) (wAsg t w) := fun Wx tk => PS.imp (ps_asg (h Wx tk) hg hs hw h1) fun E σ H h => by
  obtain ⟨ED, sd, M, rs, rm, h, r⟩ := h
  exact ⟨sd, M, _, _, rs, rm, h, fun v H' d M' a b c k q => gOf_ok q b a fun σ' sd' rs' hk _ => r.nx σ' H' sd' M' rs' c k hk, r.ex.at⟩
/-- a, b = x, y of plain local names -/
@[reducible] def kPar (i j : Nat) (k : SD → Mm → Prop) (sd : SD) : List D → Mm → Prop := fun ds M => on2 ds fun x y => k (setD (setD sd i x) j y) M
@[reducible] def wPar (i j : Nat) (ws : WA) : WS := fun ED sd M => ws sd M (kPar i j ED.nx sd) (exAt ED sd)
theorem s_par {i j : Nat} {x y : Str} {px py pt : Pos} {kt k2 pt2} (hc : X.calm = true) (hN : X.N.Nodup) (hi : X.N[i]? = some x) (hj : X.N[j]? = some y) (hij : i ≠ j)
    (hx : X.env.scope.names.lookup x = some .local) (hy : X.env.scope.names.lookup y = some .local) (ha : SA X [a, b] ws)
    (hw : swappedStores [.Tuple [.Name x px, .Name y py] kt pt] (.Tuple [a, b] k2 pt2) X.env = pure (some [x, y]))
    (hs : swapsWithSole [.Tuple [.Name x px, .Name y py] kt pt] (.Tuple [a, b] k2 pt2) pos.line X.env = pure false := by rfl) :
    SS X (.Assign [.Tuple [.Name x px, .Name y py] kt pt] (.Tuple [a, b] k2 pt2) pos) (wPar i j ws) := fun Wx tk => PS.imp (ps_par hc hN hi hj hij hx hy (ha Wx tk) hw hs) fun E σ H h => by
  obtain ⟨ED, sd, M, rs, rm, h, r⟩ := h
  refine ⟨sd, M, _, _, rs, rm, h, fun vs H' ds M' a b c k q => ?_, r.ex.at⟩
  obtain ⟨x, y, rfl, hk⟩ := on2_ex q
  obtain ⟨v, w, rfl, rv, rw'⟩ := reps2 a
  exact ⟨v, w, rfl, r.nx _ H' _ M' (by rw [setD_set, setD_set]; exact (b.set rv).set rw') c k hk⟩

/-! for -/
def wForL (t : Tg) (s : WS) (ED : EndsD) : List D → SD → Mm → Prop
  | [], sd, M => ED.nx sd M
  | x :: xs, sd, M => bindTg t x sd fun sd' => s { ED with nx := wForL t s ED xs, ct := wForL t s ED xs, bk := ED.nx } sd' M
theorem wForL_cons (t : Tg) (s : WS) (ED : EndsD) (x : D) (xs : List D) (sd : SD) (M : Mm) : wForL t s ED (x :: xs) sd M = bindTg t x sd fun sd' => s { ED with nx := wForL t s ED xs, ct := wForL t s ED xs, bk := ED.nx } sd' M := rfl
theorem wForL_nil (t : Tg) (s : WS) (ED : EndsD) (sd : SD) (M : Mm) : wForL t s ED [] sd M = ED.nx sd M := rfl
@[reducible] def kFor (t : Tg) (s : WS) (ED : EndsD) (sd : SD) : List D → Mm → Prop := fun xs M => wForL t s ED xs sd M
@[reducible] def wFor (wi : WI) (t : Tg) (s : WS) : WS := fun ED sd M => wi sd M (kFor t s ED sd) (exAt ED sd)
theorem s_for {iter : Expr} {t : Tg} (hp : PassesOwn (model X.prog X.w) X.A X.env X.xe) (hc : X.calm = true) (hi : SI X tg iter wi) (hg : PG X tg (gOf X.K t)) (hb : SSs X body s1)
    (hs : ∀ x, foldedSetIterable iter X.env x = pure x := by intro _; rfl) : SS X (.For tg iter body [] pos) (wFor wi t s1) := fun Wx tk => PS.imp (ps_for hp hc (hi Wx tk) hg (hb Wx tk) hs) fun E σ H h => by
  obtain ⟨ED, sd, M, rs, rm, h, r⟩ := h
  refine ⟨sd, M, _, _, rs, rm, h, fun J H1 xs M1 src rs1 rm1 k1 q => ?_, r.ex.at⟩
  refine ⟨fun i m σ2 H2 => ∃ sd2 M2, RelS X.K H2 σ2 sd2 ∧ RelM X.K H2 M2 ∧ Kp M1 H1 M2 H2 ∧ m = xs.length - i ∧ i ≤ xs.length ∧ wForL t s1 ED (xs.drop i) sd2 M2, ⟨xs.length, sd, M1, rs1, rm1, .refl _ _, by omega, Nat.zero_le _, q⟩, ?_⟩
  rintro i m σ2 H2 ⟨sd2, M2, rs2, rm2, k2, rfl, hi, q2⟩
  obtain ⟨stop, go⟩ := src H2 k2.stay
  by_cases hlt : i < xs.length
  · obtain ⟨hgo, hy⟩ := go i xs[i] (by simp [hlt])
    rw [List.drop_eq_getElem_cons hlt] at q2
    refine .inr ⟨hgo, fun σ3 H3 => ∃ sd3 M3, RelS X.K H3 σ3 sd3 ∧ RelM X.K H3 M3 ∧ Kp M1 H1 M3 H3 ∧ wForL t s1 ED (xs.drop (i + 1)) sd3 M3, fun σ3 H3 ⟨sd3, M3, a, b, c, d⟩ => ⟨xs.length - (i + 1), by omega, sd3, M3, a, b, c, rfl, hlt, d⟩, fun x H3 y => ?_⟩
    obtain ⟨rx, hM⟩ := hy x H3 y
    obtain ⟨rm3, k3⟩ := hM M2 rm2
    refine gOf_ok (Eq.mp (wForL_cons ..) q2) (rs2.kp k3) rx fun σ4 sd4 rs4 hk _ => ?_
    have k13 := k2.trans k3
    refine ⟨_, sd4, M2, rs4, rm3, hk, ⟨fun σ5 H5 sd5 M5 a b c d => ⟨sd5, M5, a, b, k13.trans c, d⟩, r.rt.st (k1.trans k13), r.nx.st (k1.trans k13), fun σ5 H5 sd5 M5 a b c d => ⟨sd5, M5, a, b, k13.trans c, d⟩, r.ex.st (k1.trans k13)⟩⟩
  · have e : i = xs.length := by omega
    subst e
    rw [List.drop_length] at q2
    exact .inl ⟨stop _ (Nat.le_refl _), r.nx σ2 H2 sd2 M2 rs2 rm2 (k1.trans k2) q2⟩

/-! while, by a word of one's own -/
@[reducible] def kWh (s : WS) (ED : EndsD) (I : SD → Mm → Prop) (sd : SD) : Bool → Mm → Prop := fun b M => sel b (s { ED with nx := I, ct := I, bk := ED.nx } sd M) (ED.nx sd M)
/-- I n: what holds ahead of a turn, n more at most -/
def wWhile (c : WT) (s : WS) : WS := fun ED sd M => ∃ I : Nat → SD → Mm → Prop, (∃ n, I n sd M) ∧ ∀ n sd M, I n sd M → c sd M (kWh s ED (fun sd' M' => ∃ m, m < n ∧ I m sd' M') sd) (exAt ED sd)
theorem s_while (hp : PassesOwn (model X.prog X.w) X.A X.env X.xe) (hc : ST X c wt) (hb : SSs X body s1) : SS X (.While c body [] pos) (wWhile wt s1) := fun Wx tk => PS.imp (ps_while hp (hc Wx tk) (hb Wx tk)) fun E σ H h => by
  obtain ⟨ED, sd, M, rs, rm, ⟨I, ⟨n, h0⟩, hI⟩, r⟩ := h
  refine ⟨fun n σ2 H2 => ∃ sd2 M2, RelS X.K H2 σ2 sd2 ∧ RelM X.K H2 M2 ∧ Kp M H M2 H2 ∧ I n sd2 M2, ⟨n, sd, M, rs, rm, .refl _ _, h0⟩, ?_⟩
  rintro n σ2 H2 ⟨sd2, M2, rs2, rm2, k2, i2⟩
  refine ⟨sd2, M2, _, _, rs2, rm2, hI n sd2 M2 i2, fun b H3 M3 rs3 rm3 k3 q => ?_, r.ex.at.st k2⟩
  have k := k2.trans k3
  cases b with
  | true =>
    exact ⟨fun σ4 H4 => ∃ sd4 M4, RelS X.K H4 σ4 sd4 ∧ RelM X.K H4 M4 ∧ Kp M H M4 H4 ∧ ∃ m, m < n ∧ I m sd4 M4, fun σ4 H4 ⟨sd4, M4, a, b, c, m, hm, d⟩ => ⟨m, hm, sd4, M4, a, b, c, d⟩,
      _, sd2, M3, rs3, rm3, q.of, ⟨fun σ4 H4 sd4 M4 a b c d => ⟨sd4, M4, a, b, k.trans c, d⟩, r.rt.st k, r.nx.st k, fun σ4 H4 sd4 M4 a b c d => ⟨sd4, M4, a, b, k.trans c, d⟩, r.ex.st k⟩⟩
  | false => exact r.nx σ2 H3 sd2 M3 rs3 rm3 k q.of
end
end DL
namespace DL
open PySem PySem.Spec PyProof.Rows L2
variable [TL : TabList]

/-! ### comprehensions -/
def kxF : KX := fun _ _ _ => False
def wLcL (t : Tg) (tt : WT) (te : WE) (sd : SD) (k : List D → Mm → Prop) : List D → List D → Mm → Prop
  | [], acc, M => k acc M
  | x :: xs, acc, M => bindTg t x sd fun sd' => tt sd' M (fun b M2 => sel b (te sd' M2 (fun d M3 => wLcL t tt te sd k xs (acc ++ [d]) M3) kxF) (wLcL t tt te sd k xs acc M2)) kxF
theorem wLcL_cons (t : Tg) (tt : WT) (te : WE) (sd : SD) (k : List D → Mm → Prop) (x : D) (xs acc : List D) (M : Mm) : wLcL t tt te sd k (x :: xs) acc M = bindTg t x sd fun sd' => tt sd' M (fun b M2 => sel b (te sd' M2 (fun d M3 => wLcL t tt te sd k xs (acc ++ [d]) M3) kxF) (wLcL t tt te sd k xs acc M2)) kxF := rfl
theorem wLcL_nil (t : Tg) (tt : WT) (te : WE) (sd : SD) (k : List D → Mm → Prop) (acc : List D) (M : Mm) : wLcL t tt te sd k [] acc M = k acc M := rfl
@[reducible] def wYes : WT := fun _ M k _ => k true M
theorem RelM.tell {K : PySem.W.Frag} {H : Hp} {M : Mm} {a : Addr} {o : O} (h : RelM K H M) (n : ObjR K H a o) : RelM K H (DL.put M a o) := ⟨fun b u e => by
  by_cases hb : b = a
  · subst hb; rw [put_same] at e; cases e; exact n
  · rw [put_ne hb] at e; exact h b u e, h.tabs⟩
def ST' (X : Cx) (ifs : List Expr) (w : WT) : Prop := ∀ Wx, Takes X Wx → PTs X ifs (toTT X.K Wx w)
theorem PTs.imp {X : Cx} {e : List Expr} {t t' : TT} (h : PTs X e t) (i : ∀ σ H Q, t' σ H Q → t σ H Q) : PTs X e t' := ⟨fun p s σ H Q I q => h.run p s σ H Q I (i σ H Q q)⟩
theorem wipe_wipe (σ : St) (vs : List Nat) : wipe (wipe σ vs) vs = wipe σ vs := by
  have h : ∀ us : List Nat, (∀ i ∈ us, i ∈ vs) → wipe (wipe σ us) vs = wipe σ vs := by
    intro us
    induction us with
    | nil => intro _; rfl
    | cons u us ih =>
      intro hu
      show wipe ((wipe σ us).set u none) vs = _
      rw [wipe_set _ _ _ (hu u List.mem_cons_self)]
      exact ih fun i hi => hu i (List.mem_cons_of_mem _ hi)
  exact h vs fun _ h => h
section
variable {X : Cx} {tg e a b c elt iter : Expr} {ifs : List Expr} {es : List Expr} {w wa wb we : WE} {wt : WT} {ws : WA} {wi : WI} {s1 s2 : WS} {st : Stmt} {sts body : List Stmt} {pos p pos' spos py : Pos} {scope : Scope} {own : List (Str × Nat)}
theorem n_nil : ST' X [] wYes := fun Wx tk => PTs.imp pts_nil fun σ H Q h => by
  obtain ⟨sd, M, k, kx, rs, rm, h, p, px⟩ := h
  exact p true H M rs rm (.refl _ _) h
theorem n_one (h : ST X c wt) : ST' X [c] wt := fun Wx tk => pts_one (h Wx tk)
def WF : WX := fun _ _ _ _ => False
/-- the comprehension's list, as it stands behind; k at the end -/
@[reducible] def wLcG (wi : WI) (t : Tg) (tt : WT) (te : WE) (vs : List Nat) (k : SD → List D → Mm → Prop) : SD → Mm → KX → Prop := fun sd M kx => wi sd M (fun xs M' => xs.length ≤ sizeLine ∧ wLcL t tt te (wipeD sd vs) (k sd) xs [] M') kx
/-- where nothing stands, or a table -/
def Fre (H : Hp) (p : Addr) : Prop := ∀ o, H p = some o → ∃ ps, o = .tbl ps
theorem fre_ne {H : Hp} {p b : Addr} {u : HO} (f : Fre H p) (e : H b = some u) (w : ∀ ps, u ≠ .tbl ps) : b ≠ p := fun z => by
  rw [z] at e
  obtain ⟨ps, h⟩ := f u e
  exact w ps h
theorem lc_read {wi : WI} {t : Tg} {Wx : WX} {σ : St} {H : Hp} {Q : VK} {sd : SD} {M : Mm} {k : SD → List D → Mm → Prop} {kx : KX} (hv : ∀ i ∈ (match t with | .one i => [i] | .many is => is), i ∈ own.map (·.2))
    (rs : RelS X.K H σ sd) (rm : RelM X.K H M) (h : wLcG wi t wt we (own.map (·.2)) k sd M kx) (px : PostX X.K H M σ sd kx Wx)
    (hq : ∀ p H' acc vs M', Fre H p → H' p = some (.lst vs) → Reps X.K H' vs acc → RelS X.K H' σ sd → RelM X.K H' M' → M' p = none → Kp M H M' H' → k sd acc M' → Q (.ref p) H') :
    tLc (toTI X.K Wx wi) (gOf X.K t) (toTT X.K WF wt) (toTE X.K WF we) (own.map (·.2)) σ H Q := by
  refine ⟨sd, M, _, kx, rs, rm, h, fun J H1 xs M1 src rs1 rm1 k1 ⟨hlen, q⟩ => fun A hA => ?_, px⟩
  have sA : Stay H1 (upd H1 A (.lst [])) := .new hA
  have hHA : Fre H A := fun o e => by
    by_cases w : ∀ ps, o ≠ .tbl ps
    · obtain ⟨o1, e1, _⟩ := k1.live A o e w
      rw [hA] at e1; cases e1
    · exact Classical.not_forall_not.mp w
  have sz : (sizeLine : Nat) = 16777216 := sizeLine_eq
  refine ⟨fun i m H2 => ∃ acc vs M2, H2 A = some (.lst vs) ∧ Reps X.K H2 vs acc ∧ RelM X.K H2 M2 ∧ M2 A = none ∧ Kp M1 H1 M2 H2 ∧ acc.length ≤ i ∧ m = xs.length - i ∧ i ≤ xs.length ∧ wLcL t wt we (wipeD sd (own.map (·.2))) (k sd) (xs.drop i) acc M2,
    ⟨xs.length, [], [], M1, upd_same, .nil, rm1.lay hA, rm1.free hA, .new hA, Nat.zero_le _, by omega, Nat.zero_le _, q⟩, ?_⟩
  rintro i m H2 ⟨acc, vs, M2, hD, rv, rm2, nD, k2, ha, rfl, hi, q2⟩
  obtain ⟨stop, go⟩ := src H2 k2.stay
  have rs2 := rs1.kp k2
  by_cases hlt : i < xs.length
  · obtain ⟨hgo, hy⟩ := go i xs[i] (by simp [hlt])
    rw [List.drop_eq_getElem_cons hlt] at q2
    refine .inr ⟨hgo, fun H3 => ∃ acc vs M3, H3 A = some (.lst vs) ∧ Reps X.K H3 vs acc ∧ RelM X.K H3 M3 ∧ M3 A = none ∧ Kp M1 H1 M3 H3 ∧ acc.length ≤ i + 1 ∧ wLcL t wt we (wipeD sd (own.map (·.2))) (k sd) (xs.drop (i + 1)) acc M3,
      fun H3 ⟨acc, vs, M3, a, b, c, d, e, f, g⟩ => ⟨xs.length - (i + 1), by omega, acc, vs, M3, a, b, c, d, e, f, rfl, hlt, g⟩, fun x H3 y => ?_⟩
    obtain ⟨rx, hM⟩ := hy x H3 y
    obtain ⟨rm3, k3⟩ := hM M2 rm2
    obtain ⟨hD3, nD3⟩ := k3.keep A _ hD nD (fun _ z => HO.noConfusion z)
    refine gOf_ok (Eq.mp (wLcL_cons ..) q2) ((rs2.kp k3).wipe (own.map (·.2))) rx fun σ4 sd4 rs4 hk hw => ⟨?_, ?_⟩
    · have e1 := hw (own.map (·.2)) hv
      rw [e1]
      exact wipe_wipe _ _
    · refine ⟨sd4, M2, _, kxF, rs4, rm3, hk, fun bb H5 M5 rs5 rm5 k5 h5 => ?_, fun _ _ _ _ _ _ _ _ _ z => z⟩
      obtain ⟨hD5, nD5⟩ := k5.keep A _ hD3 nD3 (fun _ z => HO.noConfusion z)
      have k25 := (k2.trans k3).trans k5
      cases bb with
      | false => exact ⟨acc, vs, M5, hD5, (rv.kp k3).kp k5, rm5, nD5, k25, Nat.le_succ_of_le ha, h5.of⟩
      | true =>
        refine ⟨sd4, M5, _, kxF, rs5, rm5, h5.of, fun v H6 d M6 r6 rs6 rm6 k6 h6 => ?_, fun _ _ _ _ _ _ _ _ _ z => z⟩
        obtain ⟨hD6, nD6⟩ := k6.keep A _ hD5 nD5 (fun _ z => HO.noConfusion z)
        have rv6 := ((rv.kp k3).kp k5).kp k6
        refine ⟨vs, hD6, by rw [rv6.len]; omega, acc ++ [d], vs ++ [v], M6, upd_same, (rv6.app (.cons r6 .nil)).st (.lst hD6), ?_, nD6, ?_, by rw [List.length_append]; exact Nat.succ_le_succ ha, h6⟩
        · exact rm6.hid nD6 hD6
        · have k26 := k25.trans k6
          refine ⟨k26.stay.trans (.lst hD6), fun b o e n w => ?_, fun c x e w => let ⟨o1, e1, w1⟩ := k26.live c x e w; live_upd (.inr fun _ z => HO.noConfusion z) c o1 e1 w1⟩
          obtain ⟨e1, n1⟩ := k26.keep b o e n w
          exact ⟨by rw [upd_ne (ne_of_none e hA)]; exact e1, n1⟩
  · have e : i = xs.length := by omega
    subst e
    rw [List.drop_length] at q2
    exact .inl ⟨stop _ (Nat.le_refl _), hq A H2 acc vs M2 hHA hD rv rs2 rm2 nD (k1.trans k2) q2⟩
end
end DL
namespace DL
open PySem PySem.Spec PyProof.Rows L2
variable [TL : TabList]
section
variable {X : Cx} {tg e a b c elt iter : Expr} {ifs : List Expr} {es : List Expr} {w wa wb we : WE} {wt : WT} {ws : WA} {wi : WI} {s1 s2 : WS} {st : Stmt} {sts body : List Stmt} {pos p pos' spos py : Pos} {scope : Scope} {own : List (Str × Nat)} {t : Tg}
/-- the context of a comprehension's block -/
abbrev Blk (X : Cx) (scope : Scope) (P : Cx → Prop) : Prop := ∀ (s : Shared) (H : Hp) (C : Addr) (cl : List (Str × Addr)) (fp : List Addr), P (X.blk s H scope (compEnvC scope cl C X.env) fp)
@[reducible] def kLcF (k : KE) : SD → List D → Mm → Prop := fun _ acc M => k (.lst acc) M
@[reducible] def kLcM (k : KE) : SD → List D → Mm → Prop := fun _ acc M => ∀ p, M p = none → k (.ref p) (put M p (.lst acc))
/-- [..], standing still -/
@[reducible] def wLc (wi : WI) (t : Tg) (tt : WT) (te : WE) (vs : List Nat) : WE := fun sd M k kx => wLcG wi t tt te vs (kLcF k) sd M kx
/-- [..], to be changed -/
@[reducible] def wLcM (wi : WI) (t : Tg) (tt : WT) (te : WE) (vs : List Nat) : WE := fun sd M k kx => wLcG wi t tt te vs (kLcM k) sd M kx
theorem Kp.newF {M M' : Mm} {H H' : Hp} {a : Addr} {o : HO} (k : Kp M H M' H') (n : H a = none) : Kp M H M' (upd H' a o) ∨ True := .inr True.intro
theorem lcF_imp {Wx : WX} {σ : St} {H : Hp} {Q : VK} (hv : ∀ i ∈ (match t with | .one i => [i] | .many is => is), i ∈ own.map (·.2)) (h : toTE X.K Wx (wLc wi t wt we (own.map (·.2))) σ H Q) :
    tLc (toTI X.K Wx wi) (gOf X.K t) (toTT X.K WF wt) (toTE X.K WF we) (own.map (·.2)) σ H (Gh X Q) := by
  obtain ⟨sd, M, k, kx, rs, rm, h, po, px⟩ := h
  refine lc_read (X := X) (k := kLcF k) hv rs rm h px fun p H' acc vs M' n hp rv rs' rm' nM kp hk => ?_
  intro pins σ2 s' I
  obtain ⟨o, I2⟩ := freeze I hp
  have st : Stay H' (upd H' p (.frz o (.lst vs))) := .lst hp
  refine ⟨_, I2, po _ _ _ M' (.lst (.inl ⟨o, upd_same⟩) (rv.st st)) (rs'.st st) ?_ ⟨kp.stay.trans st, fun b u e m w => ?_, fun c x e w => let ⟨o1, e1, w1⟩ := kp.live c x e w; live_upd (.inr fun _ z => HO.noConfusion z) c o1 e1 w1⟩ hk⟩
  · exact rm'.hid nM hp
  · obtain ⟨e1, n1⟩ := kp.keep b u e m w
    exact ⟨by rw [upd_ne (fre_ne n e w)]; exact e1, n1⟩
theorem lcM_imp {Wx : WX} {σ : St} {H : Hp} {Q : VK} (hv : ∀ i ∈ (match t with | .one i => [i] | .many is => is), i ∈ own.map (·.2)) (h : toTE X.K Wx (wLcM wi t wt we (own.map (·.2))) σ H Q) :
    tLc (toTI X.K Wx wi) (gOf X.K t) (toTT X.K WF wt) (toTE X.K WF we) (own.map (·.2)) σ H Q := by
  obtain ⟨sd, M, k, kx, rs, rm, h, po, px⟩ := h
  refine lc_read (X := X) (k := kLcM k) hv rs rm h px fun p H' acc vs M' n hp rv rs' rm' nM kp hk => ?_
  refine po _ _ _ _ (.ref p) rs' (rm'.tell (a := p) (o := .lst acc) ⟨vs, hp, rv⟩) ⟨kp.stay, fun b u e m w => ?_, kp.live⟩ (hk p nM)
  obtain ⟨e1, n1⟩ := kp.keep b u e m w
  exact ⟨e1, by rw [put_ne (fre_ne n e w)]; exact n1⟩
theorem e_lc0 (hc : X.calm = true) (hN : X.N.Nodup) (hi : SI X tg iter wi) (ok : BlkOk X.N X.env.scope scope own) (hg : Blk X scope fun Y => PG Y tg (gOf X.K t)) (ht : Blk X scope fun Y => ST' Y ifs wt) (he : Blk X scope fun Y => SE Y elt we)
    (hv : ∀ i ∈ (match t with | .one i => [i] | .many is => is), i ∈ own.map (·.2)) (hs : ∀ x, foldedSetIterable iter X.env x = pure x := by intro _; rfl) :
    SE X (.ListComp elt [⟨tg, iter, ifs, 0⟩] scope pos) (wLc wi t wt we (own.map (·.2))) := fun Wx tk =>
  PE.imp (PE.gh (pe_lc hc hN (hi Wx tk) ok hg (fun s H C cl fp => ht s H C cl fp WF takes0) (fun s H C cl fp => he s H C cl fp WF takes0) hs)) fun σ H Q h => lcF_imp hv h
theorem e_lcM0 (hc : X.calm = true) (hN : X.N.Nodup) (hi : SI X tg iter wi) (ok : BlkOk X.N X.env.scope scope own) (hg : Blk X scope fun Y => PG Y tg (gOf X.K t)) (ht : Blk X scope fun Y => ST' Y ifs wt) (he : Blk X scope fun Y => SE Y elt we)
    (hv : ∀ i ∈ (match t with | .one i => [i] | .many is => is), i ∈ own.map (·.2)) (hs : ∀ x, foldedSetIterable iter X.env x = pure x := by intro _; rfl) :
    SE X (.ListComp elt [⟨tg, iter, ifs, 0⟩] scope pos) (wLcM wi t wt we (own.map (·.2))) := fun Wx tk =>
  PE.imp (pe_lc hc hN (hi Wx tk) ok hg (fun s H C cl fp => ht s H C cl fp WF takes0) (fun s H C cl fp => he s H C cl fp WF takes0) hs) fun σ H Q h => lcM_imp hv h
/-- name = [..] on one line -/
theorem s_setLcM0 {i : Nat} {y : Str} (hc : X.calm = true) (hN : X.N.Nodup) (hy : X.N[i]? = some y) (hyl : X.env.scope.names.lookup y = some .local) (sw : swapsWith (.ListComp elt [⟨tg, iter, ifs, 0⟩] scope pos) (some (.Name y py)) spos.line X.env = pure true)
    (hi : SI X tg iter wi) (ok : BlkOk X.N X.env.scope scope own) (hg : Blk X scope fun Y => PG Y tg (gOf X.K t)) (ht : Blk X scope fun Y => ST' Y ifs wt) (he : Blk X scope fun Y => SE Y elt we)
    (hv : ∀ i ∈ (match t with | .one i => [i] | .many is => is), i ∈ own.map (·.2)) (hs : ∀ x, foldedSetIterable iter X.env x = pure x := by intro _; rfl) :
    SS X (.Assign [.Name y py] (.ListComp elt [⟨tg, iter, ifs, 0⟩] scope pos) spos) (wSet i (wLcM wi t wt we (own.map (·.2)))) := fun Wx tk =>
  PS.imp (ps_setLc (i := i) hc hN hy hyl sw (hi Wx tk) ok hg (fun s H C cl fp => ht s H C cl fp WF takes0) (fun s H C cl fp => he s H C cl fp WF takes0) hs) fun E σ H h => by
    obtain ⟨ED, sd, M, rs, rm, h, r⟩ := h
    exact lcM_imp hv ⟨sd, M, _, _, rs, rm, h, fun v H' d M' a b c k q => r.nx _ H' _ M' (by rw [setD_set]; exact b.set a) c k q, r.ex.at⟩
/-- a silent step behind a store -/
theorem PS.gh {st : Stmt} {t : TS} (h : PS X st t) : PS X st fun E σ H => t { E with nx := fun σ' H' => ∀ pins s', Inv X pins σ' H' s' → ∃ H3, Inv X pins σ' H3 s' ∧ E.nx σ' H3 } σ H := ⟨fun p s σ H E I q => thn (h.run p s σ H _ I q) fun f s' z => by
  cases f with
  | next =>
    obtain ⟨σ', H', I', q⟩ := z
    obtain ⟨H3, I3, q3⟩ := q p s' I'
    exact ⟨σ', H3, I3, q3⟩
  | brk => exact z
  | cont => exact z
  | ret u => exact z⟩
theorem toTI_mono {K : PySem.W.Frag} {Wx : WX} {σ : St} {H : Hp} {R R' : It → Hp → Prop} (h : toTI K Wx wi σ H R) (i : ∀ J H', R J H' → R' J H') : toTI K Wx wi σ H R' := by
  obtain ⟨sd, M, k, kx, rs, rm, h, po, px⟩ := h
  exact ⟨sd, M, k, kx, rs, rm, h, fun J H' xs M' a b c d e => i _ _ (po J H' xs M' a b c d e), px⟩
theorem tLc_mono {K : PySem.W.Frag} {Wx : WX} {g : TG} {tt : TT} {te : TE} {vs : List Nat} {σ : St} {H : Hp} {Q Q' : VK} (h : tLc (toTI K Wx wi) g tt te vs σ H Q) (i : ∀ v H', Q v H' → Q' v H') : tLc (toTI K Wx wi) g tt te vs σ H Q' :=
  toTI_mono h fun J H1 h D hD => by
    obtain ⟨W, h0, hW⟩ := h D hD
    refine ⟨W, h0, fun j m H2 w => ?_⟩
    rcases hW j m H2 w with ⟨a, b⟩ | z
    · exact .inl ⟨a, i _ _ b⟩
    · exact .inr z
theorem s_setLc0 {i : Nat} {y : Str} (hc : X.calm = true) (hN : X.N.Nodup) (hy : X.N[i]? = some y) (hyl : X.env.scope.names.lookup y = some .local) (sw : swapsWith (.ListComp elt [⟨tg, iter, ifs, 0⟩] scope pos) (some (.Name y py)) spos.line X.env = pure true)
    (hi : SI X tg iter wi) (ok : BlkOk X.N X.env.scope scope own) (hg : Blk X scope fun Y => PG Y tg (gOf X.K t)) (ht : Blk X scope fun Y => ST' Y ifs wt) (he : Blk X scope fun Y => SE Y elt we)
    (hv : ∀ i ∈ (match t with | .one i => [i] | .many is => is), i ∈ own.map (·.2)) (hs : ∀ x, foldedSetIterable iter X.env x = pure x := by intro _; rfl) :
    SS X (.Assign [.Name y py] (.ListComp elt [⟨tg, iter, ifs, 0⟩] scope pos) spos) (wSet i (wLc wi t wt we (own.map (·.2)))) := fun Wx tk =>
  PS.imp (PS.gh (ps_setLc (i := i) hc hN hy hyl sw (hi Wx tk) ok hg (fun s H C cl fp => ht s H C cl fp WF takes0) (fun s H C cl fp => he s H C cl fp WF takes0) hs)) fun E σ H h => by
    obtain ⟨ED, sd, M, rs, rm, h, r⟩ := h
    have z := lcF_imp (X := X) (Q := fun x H' => gName i x σ H' E.nx) hv ⟨sd, M, _, _, rs, rm, h, fun v H' d M' a b c k q => r.nx _ H' _ M' (by rw [setD_set]; exact b.set a) c k q, r.ex.at⟩
    refine tLc_mono z fun v H' q pins s' I => ?_
    obtain ⟨H3, I3, q3⟩ := q pins _ s' I
    exact ⟨H3, I3, q3⟩

theorem e_lc {vs : List Nat} (hc : X.calm = true) (hN : X.N.Nodup) (hi : SI X tg iter wi) (ok : BlkOk X.N X.env.scope scope own) (hg : Blk X scope fun Y => PG Y tg (gOf X.K t)) (ht : Blk X scope fun Y => ST' Y ifs wt) (he : Blk X scope fun Y => SE Y elt we)
    (hv : ∀ i ∈ (match t with | .one i => [i] | .many is => is), i ∈ own.map (·.2)) (hs : ∀ x, foldedSetIterable iter X.env x = pure x := by intro _; rfl) (hvs : own.map (·.2) = vs := by rfl) :
    SE X (.ListComp elt [⟨tg, iter, ifs, 0⟩] scope pos) (wLc wi t wt we vs) := by
  subst hvs
  exact e_lc0 hc hN hi ok hg ht he hv hs
theorem e_lcM {vs : List Nat} (hc : X.calm = true) (hN : X.N.Nodup) (hi : SI X tg iter wi) (ok : BlkOk X.N X.env.scope scope own) (hg : Blk X scope fun Y => PG Y tg (gOf X.K t)) (ht : Blk X scope fun Y => ST' Y ifs wt) (he : Blk X scope fun Y => SE Y elt we)
    (hv : ∀ i ∈ (match t with | .one i => [i] | .many is => is), i ∈ own.map (·.2)) (hs : ∀ x, foldedSetIterable iter X.env x = pure x := by intro _; rfl) (hvs : own.map (·.2) = vs := by rfl) :
    SE X (.ListComp elt [⟨tg, iter, ifs, 0⟩] scope pos) (wLcM wi t wt we vs) := by
  subst hvs
  exact e_lcM0 hc hN hi ok hg ht he hv hs
theorem s_setLcM {vs : List Nat} {i : Nat} {y : Str} (hc : X.calm = true) (hN : X.N.Nodup) (hy : X.N[i]? = some y) (hyl : X.env.scope.names.lookup y = some .local) (sw : swapsWith (.ListComp elt [⟨tg, iter, ifs, 0⟩] scope pos) (some (.Name y py)) spos.line X.env = pure true)
    (hi : SI X tg iter wi) (ok : BlkOk X.N X.env.scope scope own) (hg : Blk X scope fun Y => PG Y tg (gOf X.K t)) (ht : Blk X scope fun Y => ST' Y ifs wt) (he : Blk X scope fun Y => SE Y elt we)
    (hv : ∀ i ∈ (match t with | .one i => [i] | .many is => is), i ∈ own.map (·.2)) (hs : ∀ x, foldedSetIterable iter X.env x = pure x := by intro _; rfl) (hvs : own.map (·.2) = vs := by rfl) :
    SS X (.Assign [.Name y py] (.ListComp elt [⟨tg, iter, ifs, 0⟩] scope pos) spos) (wSet i (wLcM wi t wt we vs)) := by
  subst hvs
  exact s_setLcM0 hc hN hy hyl sw hi ok hg ht he hv hs
theorem s_setLc {vs : List Nat} {i : Nat} {y : Str} (hc : X.calm = true) (hN : X.N.Nodup) (hy : X.N[i]? = some y) (hyl : X.env.scope.names.lookup y = some .local) (sw : swapsWith (.ListComp elt [⟨tg, iter, ifs, 0⟩] scope pos) (some (.Name y py)) spos.line X.env = pure true)
    (hi : SI X tg iter wi) (ok : BlkOk X.N X.env.scope scope own) (hg : Blk X scope fun Y => PG Y tg (gOf X.K t)) (ht : Blk X scope fun Y => ST' Y ifs wt) (he : Blk X scope fun Y => SE Y elt we)
    (hv : ∀ i ∈ (match t with | .one i => [i] | .many is => is), i ∈ own.map (·.2)) (hs : ∀ x, foldedSetIterable iter X.env x = pure x := by intro _; rfl) (hvs : own.map (·.2) = vs := by rfl) :
    SS X (.Assign [.Name y py] (.ListComp elt [⟨tg, iter, ifs, 0⟩] scope pos) spos) (wSet i (wLc wi t wt we vs)) := by
  subst hvs
  exact s_setLc0 hc hN hy hyl sw hi ok hg ht he hv hs

/-! ### defs -/
abbrev SpD := List D → Mm → KE → KX → Prop
def PostC (K : PySem.W.Frag) (H : Hp) (M : Mm) (kx : KX) (E : XK) : Prop := ∀ cls d H' fs M', RepX K H' d fs → RelM K H' M' → Kp M H M' H' → kx cls fs M' → E cls d H'
def toSp (K : PySem.W.Frag) (sp : SpD) : Sp := fun vs H Q E => ∃ ds M k kx, Reps K H vs ds ∧ RelM K H M ∧ sp ds M k kx ∧ PostR K H M k Q ∧ PostC K H M kx E
/-- a def that keeps its promise, as its callers meet it -/
structure Callee (P : Program) (w : World) (K : PySem.W.Frag) (mg : Str → Option Value) (base : Heap) (x : Str) (lvl : Nat) (sp : SpD) : Prop where
  ex : ∃ f fd ps, FnOk P w K mg base (L2.CX P w) lvl f fd ps (toSp K sp) ∧ mg x = some (.ref f) ∧ PySem.W.keepIn K (.ref f) = true ∧ Binds K fd ps []
theorem Callee.imp {P : Program} {w : World} {K : PySem.W.Frag} {mg : Str → Option Value} {base : Heap} {x : Str} {lvl : Nat} {sp sp' : SpD} (C : Callee P w K mg base x lvl sp) (i : ∀ ds M k kx, sp' ds M k kx → sp ds M k kx) : Callee P w K mg base x lvl sp' := by
  obtain ⟨f, fd, ps, F, a, b, c⟩ := C.ex
  exact ⟨f, fd, ps, F.imp fun vs H Q E ⟨ds, M, k, kx, r, rm, h, p, px⟩ => ⟨ds, M, k, kx, r, rm, i _ _ _ _ h, p, px⟩, a, b, c⟩
@[reducible] def kCall (sp : SpD) (k : KE) (kx : KX) : List D → Mm → Prop := fun ds M => sp ds M k kx
@[reducible] def wCall (sp : SpD) (ws : WA) : WE := fun sd M k kx => ws sd M (kCall sp k kx) kx
theorem e_call {x : Str} {lvl : Nat} {sp : SpD} (C : Callee X.prog X.w X.K X.mg X.base x lvl sp) (hr : Room lvl X.A) (hg : Gl X x) (ha : SA X (e :: es) ws) (hdb : (x == ("__debug__" : Str)) = false := by decide)
    (he : starEach (e :: es) X.env = (false, eval e X.env) :: starEach es X.env := by rfl) (hpl : (backTo pos (starEach es X.env)).any (·.1) = false := by rfl) : SE X (.Call (.Name x p) (e :: es) [] pos) (wCall sp ws) := fun Wx tk => by
  obtain ⟨f, fd, ps, F, hm, hk, hb⟩ := C.ex
  refine PE.imp (pe_callS (E := L2.WE Wx) F hr hg hm hk hb (fun σ => passAt tk σ) (ha Wx tk) hdb he hpl) fun σ H Q h => ?_
  obtain ⟨sd, M, k, kx, rs, rm, h, po, px⟩ := h
  refine ⟨sd, M, _, kx, rs, rm, h, fun vs H1 ds M1 r1 rs1 rm1 k1 h1 => ?_, px⟩
  exact ⟨ds, M1, k, kx, r1, rm1, h1, fun v H2 d M2 a b c q => po v H2 d M2 a (rs1.kp c) b (k1.trans c) q, fun cls d H2 fs M2 a b c q => px cls d H2 fs M2 a (rs1.kp c) b (k1.trans c) q⟩
theorem e_call0 {x : Str} {lvl : Nat} {sp : SpD} (C : Callee X.prog X.w X.K X.mg X.base x lvl sp) (hr : Room lvl X.A) (hg : Gl X x) (hdb : (x == ("__debug__" : Str)) = false := by decide) : SE X (.Call (.Name x p) [] [] pos) (wCall sp wNil) := fun Wx tk => by
  obtain ⟨f, fd, ps, F, hm, hk, hb⟩ := C.ex
  refine ⟨fun pins s σ H Q I h => ?_⟩
  obtain ⟨sd, M, k, kx, rs, rm, h, po, px⟩ := h
  refine wpAny_Call_Name_kw (ld_glob I hg hm ?_ hdb)
  refine PySem.W.callWith_K0 I.kIn hk (run_fnS (E := L2.WE Wx) (us := []) F hr hb (passAt tk σ) I .nil ?_)
  exact ⟨[], M, k, kx, .nil, rm, h, fun v H2 d M2 a b c q => po v H2 d M2 a (rs.kp c) b c q, fun cls d H2 fs M2 a b c q => px cls d H2 fs M2 a (rs.kp c) b c q⟩
end
/-- a def's slots at the start -/
@[reducible] def startD : Nat → List D → SD
  | 0, _ => []
  | n + 1, d :: ds => some d :: startD n ds
  | n + 1, [] => none :: startD n []
theorem startD_rel {K : PySem.W.Frag} {H : Hp} {N : List Str} {vs : List V} {ds : List D} (r : Reps K H vs ds) (hl : ds.length ≤ N.length) : RelS K H (L2.start N vs) (startD N.length ds) := by
  have e : ∀ (n : Nat) (ds : List D), ds.length ≤ n → startD n ds = ds.map some ++ List.replicate (n - ds.length) none := by
    intro n
    induction n with
    | zero => intro ds h; cases ds with | nil => rfl | cons _ _ => cases h
    | succ n ih =>
      intro ds h
      cases ds with
      | nil => show none :: startD n [] = _; rw [ih [] (Nat.zero_le _)]; simp [List.replicate_succ]
      | cons d ds => show some d :: startD n ds = _; rw [ih ds (by simpa using h)]; simp
  rw [e _ _ hl]
  unfold L2.start
  refine ⟨by simp [r.len], fun i d q => ?_⟩
  by_cases hi : i < ds.length
  · rw [List.getElem?_append_left (by simpa using hi), List.getElem?_map] at q
    cases z : ds[i]? with
    | none => rw [z] at q; cases q
    | some d' =>
      rw [z] at q; cases q
      obtain ⟨v, e1, rv⟩ := r.get z
      exact ⟨v, by rw [List.getElem?_append_left (by rw [List.length_map, r.len]; exact hi), List.getElem?_map, e1]; rfl, rv⟩
  · rw [List.getElem?_append_right (by simpa using hi), List.getElem?_replicate] at q
    split at q <;> cases q
/-- what a body is to reach: less may be told -/
@[reducible] def endsOf (k : KE) (kx : KX) : EndsD := { nx := fun _ M' => ∃ M0, Le M0 M' ∧ k .non M0, rt := fun d M' => ∃ M0, Le M0 M' ∧ k d M0, ex := fun cls fs _ M' => ∃ M0, Le M0 M' ∧ kx cls fs M0 }
section
variable {P : Program} {w : World} {K : PySem.W.Frag} {mg : Str → Option Value} {base : Heap}
/-- the context of a def's body -/
abbrev bodyCx (P : Program) (w : World) (K : PySem.W.Frag) (mg : Str → Option Value) (base : Heap) (N : List Str) (qual : Str) (st : Stmt) (f : Addr) (cdv : Value) (A : Around) (outer : List Env) (s : Shared) (H : Hp) (E : XK) : Cx :=
  cxOf (L2.CX P w) P w K mg base N qual (defScope st) f cdv A outer s H E
theorem fn_okD {x qual : Str} {st : Stmt} {f : Addr} {fd : FuncData} {N ps : List Str} {k n : Nat} {sp : SpD} (F : Fun K x qual st f fd) (S : FnScope N ps (defScope st)) (hn : N.length = n) (len : ∀ ds M k kx, sp ds M k kx → ds.length = ps.length)
    (hbody : ∀ (cdv : Value) (A : Around) (outer : List Env) (s : Shared) (H : Hp) (E : XK), Room k (A.deeper (envOfC qual (defScope st) s.heap.objs.size f cdv)) →
      ∃ w', SSs (bodyCx P w K mg base N qual st f cdv A outer s H E) (defBody st) w' ∧ ∀ ds M k kx, sp ds M k kx → w' (endsOf k kx) (startD n ds) M) : FnOk P w K mg base (L2.CX P w) (k + 1) f fd ps (toSp K sp) := by
  refine F.okX S (fun vs H Q E ⟨ds, M, k, kx, r, rm, h, p, px⟩ => by rw [r.len]; exact len ds M k kx h) fun cdv A outer s H vs Q E hr ⟨ds, M, k, kx, r, rm, h, p, px⟩ => ?_
  obtain ⟨w', hw, hs⟩ := hbody cdv A outer s H E hr
  refine ⟨_, hw (fun cls d _ H => E cls d H) (takes_of rfl rfl rfl rfl), endsOf k kx, startD n ds, M, ?_, rm, hs ds M k kx h, ?_⟩
  · rw [← hn]
    refine startD_rel r ?_
    rw [len ds M k kx h, ← S.pre, List.length_take]
    exact Nat.min_le_right _ _
  · refine ⟨fun σ' H' sd' M' a b c ⟨M0, l, q⟩ => p _ H' _ M0 .non (b.le l) (c.le l) q, fun v H' d M' a b c ⟨M0, l, q⟩ => p v H' d M0 a (b.le l) (c.le l) q, fun _ _ _ _ _ _ _ z => z, fun _ _ _ _ _ _ _ z => z,
      fun cls d σ' H' fs sd' M' a b c e ⟨M0, l, q⟩ => px cls d H' fs M0 a (c.le l) (e.le l) q⟩
theorem callee_of {x : Str} {qual : Str} {st : Stmt} {f : Addr} {fd : FuncData} {ps : List Str} {lvl : Nat} {sp : SpD} (F : Fun K x qual st f fd) (hm : mg x = some (.ref f)) (hb : Binds K fd ps []) (h : FnOk P w K mg base (L2.CX P w) lvl f fd ps (toSp K sp)) :
    Callee P w K mg base x lvl sp := ⟨f, fd, ps, h, hm, F.kp, hb⟩
end

/-! ### raising -/
/-- an own exception class without an own __init__ -/
structure ExC (K : PySem.W.Frag) (mg : Str → Option Value) (x : Str) (C : Addr) : Prop where
  g : mg x = some (.ref C)
  q : PySem.W.excIn K C [.type "ValueError", .type "Exception", .type "BaseException", .type "object"] "ValueError.__new__" = true
  kp : PySem.W.keepIn K (.ref C) = true
  b : PySem.W.subIn K (.ref C) (.type "BaseException") = some true
  t : PySem.W.typeIn K (.ref C) = some (.type "type")
@[reducible] def wRaise (C : Addr) : WS := fun ED sd M => ED.ex (.ref C) [] sd M
theorem s_raise {X : Cx} {x m : Str} {C : Addr} {j : Nat} {p p2 pos pos2 : Pos} (c : ExC X.K X.mg x C) (hc : X.calm = true) (hg : Gl X x) (hdb : (x == ("__debug__" : Str)) = false := by decide) :
    SS X (.Raise (some (.Call (.Name x p) [.Constant (.str m) j p2] [] pos)) none pos2) (wRaise C) := fun Wx tk =>
  PS.imp (ps_raise hc tk (pmk_own PySem.F.excBase_ValueError c.q c.g c.kp (raises_own c.b c.t) hg hdb)) fun E σ H h => by
    obtain ⟨ED, sd, M, rs, rm, h, r⟩ := h
    exact r.ex _ none σ H [] sd M rfl rs rm (.refl _ _) h
end DL
namespace DL
open PySem PySem.Spec PyProof.Rows L2
variable [TL : TabList]

/-! ### what built-ins are at the start -/
theorem bt_len : bootBuiltins "len" = some (.builtin "len") := by decide +kernel
theorem bt_all : bootBuiltins "all" = some (.builtin "all") := by decide +kernel
theorem bt_any : bootBuiltins "any" = some (.builtin "any") := by decide +kernel
theorem bt_sum : bootBuiltins "sum" = some (.builtin "sum") := by decide +kernel
theorem bt_max : bootBuiltins "max" = some (.builtin "max") := by decide +kernel
theorem bt_min : bootBuiltins "min" = some (.builtin "min") := by decide +kernel
theorem bt_sorted : bootBuiltins "sorted" = some (.builtin "sorted") := by decide +kernel
theorem bt_int : bootBuiltins "int" = some (.type "int") := by decide +kernel
theorem bt_bool : bootBuiltins "bool" = some (.type "bool") := by decide +kernel
theorem bt_str : bootBuiltins "str" = some (.type "str") := by decide +kernel
theorem bt_tuple : bootBuiltins "tuple" = some (.type "tuple") := by decide +kernel
theorem bt_list : bootBuiltins "list" = some (.type "list") := by decide +kernel

section
variable {X : Cx} {tg e o a b c elt iter : Expr} {ifs : List Expr} {es : List Expr} {w wa wb we wo wv : WE} {wt : WT} {ws : WA} {wi : WI} {s1 s2 : WS} {st : Stmt} {sts body : List Stmt} {pos p apos cpos pos' spos py : Pos} {scope : Scope} {own : List (Str × Nat)} {t : Tg}
@[reducible] def kNeg (k : KE) : KE := fun d M => asI d fun i => k (.int (-i)) M
@[reducible] def wNeg (w : WE) : WE := fun sd M k kx => w sd M (kNeg k) kx
theorem e_neg (h : SE X e w) : SE X (.UnaryOp .USub e pos) (wNeg w) := fun Wx tk => PE.imp (pe_un un_neg (h Wx tk)) fun σ H Q h => by
  obtain ⟨sd, M, k, kx, rs, rm, h, po, px⟩ := h
  refine ⟨sd, M, _, kx, rs, rm, h, fun v H1 d M1 r1 rs1 rm1 k1 h1 => ?_, px⟩
  obtain ⟨i, rfl, h1⟩ := asI_ex h1
  cases r1
  exact ⟨i, rfl, po _ H1 _ M1 (.int _) rs1 rm1 k1 h1⟩
theorem e_gint {x : Str} {i : Int} (hg : Gl X x) (hm : ∃ tk, X.mg x = some (.int i tk)) (hd : (x == ("__debug__" : Str)) = false := by decide) : SE X (.Name x pos) (wC (.int i)) := by
  obtain ⟨tk, hm⟩ := hm
  exact e_glob (v := .int i) hg hm ⟨tk, rfl⟩ (fun _ => .int i) hd

/-! a tuple or a list, walked -/
def lenIn (l : List D) (P : Prop) : Prop := l.length ≤ sizeLine → P
@[reducible] def kSeq (k : List D → Mm → Prop) : KE := fun d M => match d with
  | .lst l => lenIn l (k l M)
  | .tup l => lenIn l (k l M)
  | _ => False
@[reducible] def wSeqI (w : WE) : WI := fun sd M k kx => w sd M (kSeq k) kx
theorem i_seq (h : SE X e w) : SI X tg e (wSeqI w) := fun Wx tk => ⟨fun pins s σ H R I q => by
  obtain ⟨sd, M, k, kx, rs, rm, h0, po, px⟩ := q
  refine thn ((h Wx tk).run pins s σ H (fun v H' => (∃ a vs l M', v = .ref a ∧ FzL X.K H' a vs ∧ Reps X.K H' vs l ∧ RelS X.K H' σ sd ∧ RelM X.K H' M' ∧ Kp M H M' H' ∧ lenIn l (k l M')) ∨ ∃ a vs l M', v = .ref a ∧ SqT X.K H' a vs ∧ Reps X.K H' vs l ∧ RelS X.K H' σ sd ∧ RelM X.K H' M' ∧ Kp M H M' H' ∧ lenIn l (k l M')) I
    ⟨sd, M, _, kx, rs, rm, h0, fun v H1 d M1 r1 rs1 rm1 k1 h1 => ?_, px⟩) fun u s1 ⟨v, H1, I1, r, z⟩ => ?_
  · cases d with
    | lst l => cases r1 with | lst sq tt => exact .inl ⟨_, _, l, M1, rfl, sq, tt, rs1, rm1, k1, h1⟩
    | tup l => cases r1 with | tup sq tt => exact .inr ⟨_, _, l, M1, rfl, sq, tt, rs1, rm1, k1, h1⟩
    | _ => exact h1.elim
  · rcases z with ⟨a, vs, l, M1, rfl, sq, tt, rs1, rm1, k1, hk⟩ | ⟨a, vs, l, M1, rfl, sq, tt, rs1, rm1, k1, hk⟩
    · cases r
      obtain ⟨its, rv, pl, hz⟩ := I1.list sq.sq
      refine wpAny_pyIter_list pl.isList ⟨s1.heap.objs.size, [s1.heap.objs.size], _, Itl X.K a, H1, rfl, I1.kept (t' := s1.toks) fun b o e => Heap.get?_push_of_some _ e, turn_list a _, ⟨_, Heap.get?_push_size _ rfl, rfl, rfl⟩, fun b hb => ?_, po _ H1 l M1 (src_list sq tt) rs1 rm1 k1 (hk (by rw [← tt.len]; exact hz))⟩
      obtain rfl : b = s1.heap.objs.size := by simpa using hb
      exact I1.fpOk (Nat.le_refl _) (I1.hok.fresh (Nat.le_refl _))
    · cases r
      obtain ⟨its, rv, pl, hz⟩ := I1.tuple sq
      refine wpAny_pyIter_tuple (show s1.heap.IsTuple a its.toArray from pl) ⟨s1.heap.objs.size, [s1.heap.objs.size], _, Itt X.K a, H1, rfl, I1.kept (t' := s1.toks) fun b o e => Heap.get?_push_of_some _ e, turn_tuple a _, ⟨_, Heap.get?_push_size _ rfl, rfl, rfl⟩, fun b hb => ?_, po _ H1 l M1 (src_tup sq tt) rs1 rm1 k1 (hk (by rw [← tt.len]; exact hz))⟩
      obtain rfl : b = s1.heap.objs.size := by simpa using hb
      exact I1.fpOk (Nat.le_refl _) (I1.hok.fresh (Nat.le_refl _))⟩

/-! list(range(..)) -/
abbrev WR := SD → Mm → (Int → Int → Mm → Prop) → KX → Prop
def SR (X : Cx) (e : Expr) (w : WR) : Prop := ∀ Wx, Takes X Wx → PRg X e fun σ H Q => ∃ sd M k kx, RelS X.K H σ sd ∧ RelM X.K H M ∧ w sd M k kx ∧ (∀ i j H' M', RelS X.K H' σ sd → RelM X.K H' M' → Kp M H M' H' → k i j M' → Q i j H') ∧ PostX X.K H M σ sd kx Wx
theorem PRg.imp {X : Cx} {e : Expr} {t t' : St → Hp → (Int → Int → Hp → Prop) → Prop} (h : PRg X e t) (i : ∀ σ H Q, t' σ H Q → t σ H Q) : PRg X e t' := fun p s σ H Q I q => h p s σ H Q I (i σ H Q q)
@[reducible] def kR1 (k : Int → Int → Mm → Prop) : KE := fun d M => asI d fun i => k 0 i M
@[reducible] def wR1 (w : WE) : WR := fun sd M k kx => w sd M (kR1 k) kx
theorem r_1 (hg : Gl X "range") (hm : X.mg "range" = none) (ha : SE X a wa) (na : starEach [a] X.env = (false, eval a X.env) :: starEach [] X.env := by rfl) : SR X (.Call (.Name "range" p) [a] [] pos) (wR1 wa) := fun Wx tk =>
  PRg.imp (prg_1 hg hm (ha Wx tk) na) fun σ H Q h => by
    obtain ⟨sd, M, k, kx, rs, rm, h, po, px⟩ := h
    refine ⟨sd, M, _, kx, rs, rm, h, fun v H1 d M1 r1 rs1 rm1 k1 h1 => ?_, px⟩
    obtain ⟨i, rfl, h1⟩ := asI_ex h1
    cases r1
    exact ⟨i, rfl, po _ _ H1 M1 rs1 rm1 k1 h1⟩
@[reducible] def kR2b (i : Int) (k : Int → Int → Mm → Prop) : KE := fun d M => asI d fun j => k i j M
@[reducible] def kR2a (wb : WE) (sd : SD) (k : Int → Int → Mm → Prop) (kx : KX) : KE := fun d M => asI d fun i => wb sd M (kR2b i k) kx
@[reducible] def wR2 (wa wb : WE) : WR := fun sd M k kx => wa sd M (kR2a wb sd k kx) kx
theorem r_2 (hg : Gl X "range") (hm : X.mg "range" = none) (ha : SE X a wa) (hb : SE X b wb) (na : starEach [a, b] X.env = (false, eval a X.env) :: starEach [b] X.env := by rfl) (nb : starEach [b] X.env = (false, eval b X.env) :: starEach [] X.env := by rfl) (hp : (backTo pos (starEach [b] X.env)).any (·.1) = false := by rfl) :
    SR X (.Call (.Name "range" p) [a, b] [] pos) (wR2 wa wb) := fun Wx tk =>
  PRg.imp (prg_2 hg hm (ha Wx tk) (hb Wx tk) na nb hp) fun σ H Q h => by
    obtain ⟨sd, M, k, kx, rs, rm, h, po, px⟩ := h
    refine ⟨sd, M, _, kx, rs, rm, h, fun v H1 d M1 r1 rs1 rm1 k1 h1 => ?_, px⟩
    obtain ⟨i, rfl, h1⟩ := asI_ex h1
    cases r1
    refine ⟨sd, M1, _, kx, rs1, rm1, h1, fun v2 H2 d2 M2 r2 rs2 rm2 k2 h2 => ?_, px.st k1⟩
    obtain ⟨j, rfl, h2⟩ := asI_ex h2
    cases r2
    exact ⟨i, j, rfl, rfl, po _ _ H2 M2 rs2 rm2 (k1.trans k2) h2⟩
theorem rgV_rep {K : PySem.W.Frag} {H : Hp} (lo hi : Int) : Reps K H (rgV lo hi) (rngD lo (hi - lo).toNat) := by
  unfold rgV rngD
  have e : ∀ l : List Nat, Reps K H (l.map fun i => V.int (lo + (i : Nat))) (l.map fun (i : Nat) => D.int (lo + i)) := by
    intro l
    induction l with
    | nil => exact .nil
    | cons x l ih => exact .cons (.int _) ih
  exact e _
@[reducible] def kLR (k : KE) : Int → Int → Mm → Prop := fun i j M => (-1000000 ≤ i ∧ i ≤ 1000000 ∧ -1000000 ≤ j ∧ j ≤ 1000000) ∧ k (.lst (rngD i (j - i).toNat)) M
@[reducible] def wLR (w : WR) : WE := fun sd M k kx => w sd M (kLR k) kx
theorem e_listRg {w : WR} (hc : X.calm = true) (hg : Gl X "list") (hm : X.mg "list" = none) (he : SR X e w) (na : starEach [e] X.env = (false, eval e X.env) :: starEach [] X.env := by rfl) : SE X (.Call (.Name "list" p) [e] [] pos) (wLR w) := fun Wx tk =>
  PE.imp (PE.gh (pe_listRg hc hg hm (he Wx tk) na)) fun σ H Q h => by
    obtain ⟨sd, M, k, kx, rs, rm, h, po, px⟩ := h
    refine ⟨sd, M, _, kx, rs, rm, h, fun i j H1 M1 rs1 rm1 k1 ⟨hb, h1⟩ => ⟨?_, fun q hq => ?_⟩, px⟩
    · refine ⟨by omega, by omega, by omega, by omega, ?_⟩
      have : (2 : Nat) ^ 24 = 16777216 := by decide
      omega
    · exact post_frz (fun v4 H4 d4 M4 r4 rm4 s4 h4 => po v4 H4 d4 M4 r4 (rs1.kp s4) rm4 (k1.trans s4) h4) rm1 hq (rgV_rep i j) h1

/-! what changes a list -/
@[reducible] def kApp2 (x : D) (k : KE) : KE := fun d M => match x with
  | .ref a => ∃ l, M a = some (.lst l) ∧ l.length ≤ 16777000 ∧ k .non (put M a (.lst (l ++ [d])))
  | _ => False
@[reducible] def kApp1 (we : WE) (sd : SD) (k : KE) (kx : KX) : KE := fun x M => match x with
  | .ref a => (∃ l, M a = some (.lst l)) ∧ we sd M (kApp2 x k) kx
  | _ => False
@[reducible] def wApp (wo we : WE) : WE := fun sd M k kx => wo sd M (kApp1 we sd k kx) kx
theorem app_imp {Wx : WX} {σ : St} {H : Hp} {Q : VK} (h : toTE X.K Wx (wApp wo we) σ H Q) : tBM X.K "list" rAppend (toTE X.K Wx wo) (tCons (toTE X.K Wx we) tNil) σ H Q := by
  obtain ⟨sd, M, k, kx, rs, rm, h, po, px⟩ := h
  refine ⟨sd, M, _, kx, rs, rm, h, fun v H1 d M1 r1 rs1 rm1 k1 h1 => ?_, px⟩
  cases d with
  | ref a =>
    cases r1
    obtain ⟨⟨l, hM⟩, h1⟩ := h1
    obtain ⟨vs, ha, _⟩ := rm1 a _ hM
    refine ⟨.inl ⟨rfl, _, SqL.of ha⟩, sd, M1, _, kx, rs1, rm1, h1, fun v2 H2 d2 M2 r2 rs2 rm2 k2 h2 => ?_, px.st k1⟩
    obtain ⟨l, hM2, hl, hk⟩ := h2
    obtain ⟨ws, hb, rw'⟩ := rm2 a _ hM2
    have sz : (sizeLine : Nat) = 16777216 := sizeLine_eq
    refine ⟨a, ws, v2, rfl, rfl, hb, by rw [rw'.len, sz]; omega, po _ _ _ _ .non (rs2.st (.lst hb)) (rm2.setLst hb (rw'.app (.cons r2 .nil))) ((k1.trans k2).trans (.set (.lst hb) hM2)) hk⟩
  | _ => exact h1.elim
theorem e_app (ho : SE X o wo) (he : SE X e we) (hbase : attributeBase o "append" X.env (eval o X.env) = eval o X.env := by rfl)
    (hfew : ((backTo cpos (starEach (e :: []) X.env)).all (fun x => !x.1) && (backToKw cpos (keywordEach [] X.env)).all (fun x => x.1.isSome)
      && decide ((e :: []).length + ([] : List Keyword).length + (if ([] : List Keyword).isEmpty then 0 else 1) < 30)) = true := by rfl)
    (hline : (apos.endLine == cpos.line) = true := by rfl) (hs : starEach (e :: []) X.env = (false, eval e X.env) :: starEach [] X.env := by rfl) (hplain : (backTo cpos (starEach [] X.env)).any (·.1) = false := by rfl) :
    SE X (.Call (.Attribute o "append" apos) [e] [] cpos) (wApp wo we) := fun Wx tk =>
  PE.imp (pe_bm PySem.F.plainAttrs_list PySem.F.slot_list_append PySem.F.type_list_append mt_append (ho Wx tk) (pa_cons (he Wx tk) pa_nil hs) hbase hfew hline hs hplain) fun _ _ _ h => app_imp h
/-- x[i] = v of a list -/
@[reducible] def kSt3 (v x : D) (k : SD → Mm → Prop) (sd : SD) : KE := fun y M => match x, y with
  | .ref a, .int i => ∃ l, M a = some (.lst l) ∧ ∃ j, ixN l.length i = some j ∧ k sd (put M a (.lst (l.set j v)))
  | _, _ => False
@[reducible] def kSt2 (v : D) (wi : WE) (k : SD → Mm → Prop) (sd : SD) (kx : KX) : KE := fun x M => wi sd M (kSt3 v x k sd) kx
@[reducible] def kSt1 (wo wi : WE) (k : SD → Mm → Prop) (sd : SD) (kx : KX) : KE := fun v M => wo sd M (kSt2 v wi k sd kx) kx
@[reducible] def wStIx (wo wi wv : WE) : WS := fun ED sd M => wv sd M (kSt1 wo wi ED.nx sd (exAt ED sd)) (exAt ED sd)
theorem s_stIx {i : Expr} {wi : WE} (ho : SE X o wo) (hi : SE X i wi) (hv : SE X e wv)
    (ha : ∀ v, assign (.Subscript o i py) X.env v = (do
      let ov ← holding [v] (eval o X.env)
      let iv ← holding [v, ov] (eval i X.env)
      standAt py
      holding [v, ov, iv] (setItem ov iv v)
      release [v, ov, iv] []) := by intro _; rfl)
    (hs : swapsWithSole [.Subscript o i py] e pos.line X.env = pure false := by rfl) (hw : swappedStores [.Subscript o i py] e X.env = pure none := by rfl)
    (h1 : (assignEach [.Subscript o i py] X.env).map (·.2) = [assign (.Subscript o i py) X.env] := by rfl) : SS X (.Assign [.Subscript o i py] e pos) (wStIx wo wi wv) := fun Wx tk =>
  PS.imp (ps_asg (hv Wx tk) (pg_sub (ho Wx tk) (hi Wx tk) set_list ha) hs hw h1) fun E σ H h => by
    obtain ⟨ED, sd, M, rs, rm, h, r⟩ := h
    refine ⟨sd, M, _, _, rs, rm, h, fun v H1 d M1 r1 rs1 rm1 k1 h1 => ?_, r.ex.at⟩
    refine ⟨sd, M1, _, _, rs1, rm1, h1, fun x H2 d2 M2 r2 rs2 rm2 k2 h2 => ?_, (PostW.at r.ex).st k1⟩
    refine ⟨sd, M2, _, _, rs2, rm2, h2, fun y H3 d3 M3 r3 rs3 rm3 k3 h3 => ?_, (PostW.at r.ex).st (k1.trans k2)⟩
    cases d2 with
    | ref a =>
      cases d3 with
      | int i =>
        cases r2
        cases r3
        obtain ⟨l, hM, j, hj, hk⟩ := h3
        obtain ⟨vs, ha, rv⟩ := rm3 a _ hM
        refine ⟨a, vs, i, j, rfl, rfl, ha, by rw [rv.len]; exact hj, r.nx _ _ _ _ (rs3.st (.lst ha)) (rm3.setLst ha (rv.set ((r1.kp k2).kp k3) j)) (((k1.trans k2).trans k3).trans (.set (.lst ha) hM)) hk⟩
      | _ => exact h3.elim
    | _ => cases d3 <;> exact h3.elim
end
end DL
namespace DL
open PySem PySem.Spec PyProof.Rows L2
variable [TL : TabList]

/-! ### lambdas, given to a def that tries them -/
abbrev rdRet (s : Str) : TS := tRet (tC (.str s))
def hdW (K : PySem.W.Frag) (W : Str → Prop) (cls : Value) : List (Value × Str) → Prop
  | [] => False
  | (c, s) :: r => ∃ b, PySem.W.exmOne K cls c = some b ∧ (b = true → W s) ∧ (b = false → hdW K W cls r)
def hdTs (l : List (Value × Str)) : List (Value × (Addr → Value → Option Addr → TS)) := l.map fun p => (p.1, fun _ _ _ => rdRet p.2)
theorem hdW_many {K : PySem.W.Frag} {Q : VK} {D : Ends} (hD : D.rt = Q) {cls : Value} {d : Option Addr} {σ' : St} {H' : Hp} : ∀ l : List (Value × Str), hdW K (fun s => Q (.str s) H') cls l → wMany K (fun _ _ _ _ => False) D (hdTs l) cls d σ' H'
  | [], h => h
  | (c, s) :: r, ⟨b, e, h1, h2⟩ => ⟨b, e, fun hb a _ => by
      show D.rt _ _
      rw [hD]; exact h1 hb, fun hb => hdW_many hD r (h2 hb)⟩
/-- try: a() / except .. : return .. / return last -/
def TTw (K : PySem.W.Frag) (l : List (Value × Str)) (last : Str) : (XK → Hp → VK → Prop) → Hp → VK → Prop := fun tl H Q => tl (fun cls _ H' => hdW K (fun s => Q (.str s) H') cls l) H (fun _ H' => Q (.str last) H')
/-- try: return a() / except .. : return .. -/
def TTr (K : PySem.W.Frag) (l : List (Value × Str)) : (XK → Hp → VK → Prop) → Hp → VK → Prop := fun tl H Q => tl (fun cls _ H' => hdW K (fun s => Q (.str s) H') cls l) H Q
section
variable {X : Cx} {Ng : List Str} {x a q last : Str} {sg : Scope} {g : Addr} {cdg : Value} {j : Nat} {p1 p2 p3 p4 p5 p8 : Pos} {h₀ : ExceptHandler} {hds : List ExceptHandler} {l : List (Value × Str)}
theorem word_gives (h0 : ∀ f : Addr, (L2.start Ng [V.ref f])[0]? = some (some (V.ref f))) (hh : ∀ s H, HdsOk (cxOf C8.CX0 X.prog X.w X.K X.mg X.base Ng x sg g cdg X.A X.stack s H C8.E0).nox (h₀ :: hds) (hdTs l)) :
    LamX.GivesTo X Ng x sg g cdg [.Try [.Expr (.Call (.Name a p1) [] [] p2) p3] (h₀ :: hds) [] [] p8, .Return (some (.Constant (.str last) j p4)) p5] a q (TTw X.K l last) := by
  intro f c' s H Q tl act hc h
  refine ⟨_, pss_cons (ps_try_many (X := (cxOf C8.CX0 X.prog X.w X.K X.mg X.base Ng x sg g cdg X.A X.stack s H C8.E0).nox)
      (tb := fun W D σ H => ∃ Ech : XK, (∀ cls d σ' H', Ech cls d H' → W cls d σ' H') ∧ σ[0]? = some (some (.ref f)) ∧ H c' = some (LamX.CodeO c' q) ∧ tl Ech H fun _ H' => D.nx σ H')
      rfl rfl takes_none5 (fun W pn xe tk _ => ?_) (hh s H)) (pss_one (ps_ret pe_str)), ?_⟩
  · refine ⟨fun pins s' σ H' D I h' => ?_⟩
    obtain ⟨Ech, hW, h1, h2, h3⟩ := h'
    have hp := act W pn xe Ech p1 p2 tk hW
    have hq := pss_one (ps_expr (pos := p3) hp)
    exact hq.run pins s' σ H' D I ⟨h1, h2, h3⟩
  · exact ⟨fun cls _ H' => hdW X.K (fun s => Q (.str s) H') cls l, fun cls d σ' H' w => hdW_many rfl l w, h0 f, hc, h⟩
theorem told_gives (h0 : ∀ f : Addr, (L2.start Ng [V.ref f])[0]? = some (some (V.ref f))) (hh : ∀ s H, HdsOk (cxOf C8.CX0 X.prog X.w X.K X.mg X.base Ng x sg g cdg X.A X.stack s H C8.E0).nox (h₀ :: hds) (hdTs l)) :
    LamX.GivesTo X Ng x sg g cdg [.Try [.Return (some (.Call (.Name a p1) [] [] p2)) p3] (h₀ :: hds) [] [] p8] a q (TTr X.K l) := by
  intro f c' s H Q tl act hc h
  refine ⟨_, pss_one (ps_try_many (X := (cxOf C8.CX0 X.prog X.w X.K X.mg X.base Ng x sg g cdg X.A X.stack s H C8.E0).nox)
      (tb := fun W D σ H => ∃ Ech : XK, (∀ cls d σ' H', Ech cls d H' → W cls d σ' H') ∧ σ[0]? = some (some (.ref f)) ∧ H c' = some (LamX.CodeO c' q) ∧ tl Ech H D.rt)
      rfl rfl takes_none5 (fun W pn xe tk _ => ?_) (hh s H)), ?_⟩
  · refine ⟨fun pins s' σ H' D I h' => ?_⟩
    obtain ⟨Ech, hW, h1, h2, h3⟩ := h'
    have hp := act W pn xe Ech p1 p2 tk hW
    have hq := pss_one (ps_ret (pos := p3) hp)
    exact hq.run pins s' σ H' D I ⟨h1, h2, h3⟩
  · exact ⟨fun cls _ H' => hdW X.K (fun s => Q (.str s) H') cls l, fun cls d σ' H' w => hdW_many rfl l w, h0 f, hc, h⟩
end
/-- a lambda is made: nothing but tables changes -/
theorem ext_stay {H H1 : Hp} (e : LamX.ExtN H H1) (t : LamX.Tabs TL.T H1) : Stay H H1 := ⟨fun b xs h => e b _ h fun _ z => HO.noConfusion z, fun b o u h => e b _ h fun _ z => HO.noConfusion z, fun _ => t, fun b f h _ => e b _ h fun _ z => HO.noConfusion z⟩
theorem ext_rel {K : PySem.W.Frag} {H H1 : Hp} {M : Mm} (rm : RelM K H M) (e : LamX.ExtN H H1) (t : LamX.Tabs TL.T H1) : RelM K H1 M := ⟨fun b q h => by
  have s := ext_stay e t
  have x := rm b q h
  cases q with
  | lst ds => obtain ⟨vs, z, r⟩ := x; exact ⟨vs, e b _ z fun _ z => HO.noConfusion z, r.st s⟩
  | cell d => obtain ⟨w, v, z, rv, r⟩ := x; exact ⟨w, v, e b _ z fun _ z => HO.noConfusion z, rv, r.st s⟩
  | dK kvs => obtain ⟨vs, z, r⟩ := x; exact ⟨vs, e b _ z fun _ z => HO.noConfusion z, r.st s⟩
  | dT kvs => obtain ⟨vs, z, r⟩ := x; exact ⟨vs, e b _ z fun _ z => HO.noConfusion z, r.st s⟩
  | ins C fs => obtain ⟨dx, vs, z, ow, r⟩ := x; exact ⟨dx, vs, e b _ z fun _ z => HO.noConfusion z, e dx _ ow fun _ z => HO.noConfusion z, r.st s⟩, t⟩
theorem ext_kp {H H1 : Hp} {M : Mm} (e : LamX.ExtN H H1) (t : LamX.Tabs TL.T H1) : Kp M H M H1 := ⟨ext_stay e t, fun a o h n w => ⟨e a o h w, n⟩, fun a o h w => ⟨o, e a o h w, w⟩⟩
@[reducible] def hdD (K : PySem.W.Frag) (k : KE) (M : Mm) (cls : Value) : List (Value × Str) → Prop
  | [] => False
  | (c, s) :: r => ∃ b, PySem.W.exmOne K cls c = some b ∧ sel b (k (.str s) M) (hdD K k M cls r)
theorem hdD_W {K : PySem.W.Frag} {k : KE} {M : Mm} {cls : Value} {W : Str → Prop} (i : ∀ s, k (.str s) M → W s) : ∀ l : List (Value × Str), hdD K k M cls l → hdW K W cls l
  | [], h => h
  | (c, s) :: r, ⟨b, e, h⟩ => ⟨b, e, fun hb => by subst hb; exact i s h.of, fun hb => by subst hb; exact hdD_W i r h.of⟩
@[reducible] def kLast (last : Str) (k : KE) : KE := fun _ M => k (.str last) M
@[reducible] def xHd (K : PySem.W.Frag) (l : List (Value × Str)) (k : KE) : KX := fun cls _ M => hdD K k M cls l
@[reducible] def wLamW (K : PySem.W.Frag) (l : List (Value × Str)) (last : Str) (wb : WE) : WE := fun sd M k _ => wb sd M (kLast last k) (xHd K l k)
@[reducible] def wLamR (K : PySem.W.Frag) (l : List (Value × Str)) (wb : WE) : WE := fun sd M k _ => wb sd M k (xHd K l k)
section
variable {X : Cx} {x a last : Str} {g c P : Addr} {k : Nat} {pg : Arguments} {bg : List Stmt} {sg : Scope} {dV kV doc pm cdv ct oc : Value} {an od : Option Addr} {osl : Array (Option Value)} {Ng : List Str}
    {params : Arguments} {body : Expr} {scope : Scope} {wb : WE} {p lpos pos : Pos} {l : List (Value × Str)}
theorem e_lamW (hg : Gl X x) (hm : X.mg x = some (.ref g)) (hk : PySem.W.keepIn X.K (.ref g) = true)
    (lk : X.K.lookup g = some ⟨oc, od, .func (PySem.W.fnOf x x pg bg sg dV kV doc pm an cdv ct), osl⟩) (hcg : PySem.W.codeIn X.K cdv x = true) (hb : L2.Binds X.K (PySem.W.fnOf x x pg bg sg dV kV doc pm an cdv ct) [a] []) (Sg : FnScope Ng [a] sg) (hNg : Ng[0]? = some a) (hva : Vis sg a)
    (hG : LamX.GivesTo X Ng x sg g cdv bg a (X.env.qual ++ "<lambda>") (TTw X.K l last))
    (TB : LamX.TabB X.base X.mg c P) (hcode : X.env.code = .ref c) (hmT : (P, X.env.qual ++ "<lambda>") ∈ TL.T) (hu : ∀ p ∈ TL.T, p.1 = P → p.2 = X.env.qual ++ "<lambda>") (hr : Room (k + 2) X.A) (L : LamX.LamS X.env.scope scope) (hdef : defaultsOf params X.env = ([], []))
    (hbind : ∀ (q : Str) (cl : List (Str × Addr)) (pm cv ctv : Value), bindArgs (PySem.W.kla_fn "<lambda>" q params body scope cl pm cv ctv) ⟨[], []⟩ = pure [])
    (hbody : ∀ (A : Around) (outer : List Env) (s : Shared) (H : Hp) (E : XK) (f c' : Addr), Room k (A.deeper (LamX.lamEnv X scope s.heap.objs.size f c')) → SE (LamX.lamCx X A outer s H E scope f c') body wb)
    (hdb : (x == ("__debug__" : Str)) = false := by decide) (hd : (a == ("__debug__" : Str)) = false := by decide) (hcd : (a == ("__classdict__" : Str)) = false := by decide) :
    SE X (.Call (.Name x p) [.Lambda params body scope lpos] [] pos) (wLamW X.K l last wb) := fun Wx tk => by
  refine PE.imp (LamX.pe_lamcall (T := TL.T) (t := fun E => toTE X.K (fun cls d _ H => E cls d H) wb) hg hm hk lk hcg hb Sg hNg hva hG TB hcode hmT hu hr L hdef hbind (fun A outer s H E f c' hr2 => ?_) hdb hd hcd) fun σ H Q h => ?_
  · exact hbody A outer s H E f c' hr2 (fun cls d _ H => E cls d H) (takes_of rfl rfl rfl rfl)
  · obtain ⟨sd, M, k, kx, rs, rm, h, po, px⟩ := h
    refine ⟨rm.tabs, fun H1 e t => ?_⟩
    have s1 : Kp M H M H1 := ext_kp e t
    refine ⟨sd, M, _, _, rs.kp s1, ext_rel rm e t, h, fun v H2 d M2 r2 rs2 rm2 s2 h2 => ?_, fun cls d H2 fs M2 r2 rs2 rm2 s2 h2 => ?_⟩
    · exact po _ H2 _ M2 (.str _) rs2 rm2 (s1.trans s2) h2
    · exact hdD_W (fun s hs => po _ H2 _ M2 (.str _) rs2 rm2 (s1.trans s2) hs) l h2
theorem e_lamR (hg : Gl X x) (hm : X.mg x = some (.ref g)) (hk : PySem.W.keepIn X.K (.ref g) = true)
    (lk : X.K.lookup g = some ⟨oc, od, .func (PySem.W.fnOf x x pg bg sg dV kV doc pm an cdv ct), osl⟩) (hcg : PySem.W.codeIn X.K cdv x = true) (hb : L2.Binds X.K (PySem.W.fnOf x x pg bg sg dV kV doc pm an cdv ct) [a] []) (Sg : FnScope Ng [a] sg) (hNg : Ng[0]? = some a) (hva : Vis sg a)
    (hG : LamX.GivesTo X Ng x sg g cdv bg a (X.env.qual ++ "<lambda>") (TTr X.K l))
    (TB : LamX.TabB X.base X.mg c P) (hcode : X.env.code = .ref c) (hmT : (P, X.env.qual ++ "<lambda>") ∈ TL.T) (hu : ∀ p ∈ TL.T, p.1 = P → p.2 = X.env.qual ++ "<lambda>") (hr : Room (k + 2) X.A) (L : LamX.LamS X.env.scope scope) (hdef : defaultsOf params X.env = ([], []))
    (hbind : ∀ (q : Str) (cl : List (Str × Addr)) (pm cv ctv : Value), bindArgs (PySem.W.kla_fn "<lambda>" q params body scope cl pm cv ctv) ⟨[], []⟩ = pure [])
    (hbody : ∀ (A : Around) (outer : List Env) (s : Shared) (H : Hp) (E : XK) (f c' : Addr), Room k (A.deeper (LamX.lamEnv X scope s.heap.objs.size f c')) → SE (LamX.lamCx X A outer s H E scope f c') body wb)
    (hdb : (x == ("__debug__" : Str)) = false := by decide) (hd : (a == ("__debug__" : Str)) = false := by decide) (hcd : (a == ("__classdict__" : Str)) = false := by decide) :
    SE X (.Call (.Name x p) [.Lambda params body scope lpos] [] pos) (wLamR X.K l wb) := fun Wx tk => by
  refine PE.imp (LamX.pe_lamcall (T := TL.T) (t := fun E => toTE X.K (fun cls d _ H => E cls d H) wb) hg hm hk lk hcg hb Sg hNg hva hG TB hcode hmT hu hr L hdef hbind (fun A outer s H E f c' hr2 => ?_) hdb hd hcd) fun σ H Q h => ?_
  · exact hbody A outer s H E f c' hr2 (fun cls d _ H => E cls d H) (takes_of rfl rfl rfl rfl)
  · obtain ⟨sd, M, k, kx, rs, rm, h, po, px⟩ := h
    refine ⟨rm.tabs, fun H1 e t => ?_⟩
    have s1 : Kp M H M H1 := ext_kp e t
    refine ⟨sd, M, _, _, rs.kp s1, ext_rel rm e t, h, fun v H2 d M2 r2 rs2 rm2 s2 h2 => ?_, fun cls d H2 fs M2 r2 rs2 rm2 s2 h2 => ?_⟩
    · exact po _ H2 _ M2 r2 rs2 rm2 (s1.trans s2) h2
    · exact hdD_W (fun s hs => po _ H2 _ M2 (.str _) rs2 rm2 (s1.trans s2) hs) l h2
end
/-- the name of a def's lambdas -/
abbrev lamQual (x : Str) : Str := (x ++ ".<locals>.") ++ "<lambda>"
/-! ### a def with lambdas: its code object is known -/
structure FunC (K : PySem.W.Frag) (x qual : Str) (st : Stmt) (f : Addr) (fd : FuncData) (c : Addr) : Prop where
  ex : ∃ (oc : Value) (od : Option Addr) (kV doc pm : Value) (an : Option Addr) (ct : Value) (osl : Array (Option Value)),
    fd = PySem.W.fnOf x qual (defArgs st) (defBody st) (defScope st) .none kV doc pm an (.ref c) ct ∧ K.lookup f = some ⟨oc, od, .func fd, osl⟩ ∧ PySem.W.codeIn K (.ref c) qual = true
  kp : PySem.W.keepIn K (.ref f) = true
theorem FunC.plain {K : PySem.W.Frag} {x qual : Str} {st : Stmt} {f : Addr} {fd : FuncData} {c : Addr} (F : FunC K x qual st f fd c) : Fun K x qual st f fd := by
  obtain ⟨oc, od, kV, doc, pm, an, ct, osl, a, b, d⟩ := F.ex
  exact ⟨⟨oc, od, kV, doc, pm, an, .ref c, ct, osl, a, b, d⟩, F.kp⟩
section
variable {P : Program} {w : World} {K : PySem.W.Frag} {mg : Str → Option Value} {base : Heap}
theorem fn_okDC {x qual : Str} {st : Stmt} {f : Addr} {fd : FuncData} {c : Addr} {N ps : List Str} {k n : Nat} {sp : SpD} (F : FunC K x qual st f fd c) (S : FnScope N ps (defScope st)) (hn : N.length = n) (len : ∀ ds M k kx, sp ds M k kx → ds.length = ps.length)
    (hbody : ∀ (A : Around) (outer : List Env) (s : Shared) (H : Hp) (E : XK), Room k (A.deeper (envOfC qual (defScope st) s.heap.objs.size f (.ref c))) →
      ∃ w', SSs (bodyCx P w K mg base N qual st f (.ref c) A outer s H E) (defBody st) w' ∧ ∀ ds M k kx, sp ds M k kx → w' (endsOf k kx) (startD n ds) M) : FnOk P w K mg base (L2.CX P w) (k + 1) f fd ps (toSp K sp) := by
  obtain ⟨oc, od, kV, doc, pm, an, ct, osl, rfl, lk, hcd⟩ := F.ex
  refine fn_of lk hcd S (fun vs H Q E ⟨ds, M, k, kx, r, rm, h, p, px⟩ => by rw [r.len]; exact len ds M k kx h) fun A outer s H vs Q E hr ⟨ds, M, k, kx, r, rm, h, p, px⟩ => ?_
  obtain ⟨w', hw, hs⟩ := hbody A outer s H E hr
  refine ⟨_, hw (fun cls d _ H => E cls d H) (takes_of rfl rfl rfl rfl), endsOf k kx, startD n ds, M, ?_, rm, hs ds M k kx h, ?_⟩
  · rw [← hn]
    refine startD_rel r ?_
    rw [len ds M k kx h, ← S.pre, List.length_take]
    exact Nat.min_le_right _ _
  · refine ⟨fun σ' H' sd' M' a b c ⟨M0, l, q⟩ => p _ H' _ M0 .non (b.le l) (c.le l) q, fun v H' d M' a b c ⟨M0, l, q⟩ => p v H' d M0 a (b.le l) (c.le l) q, fun _ _ _ _ _ _ _ z => z, fun _ _ _ _ _ _ _ z => z,
      fun cls d σ' H' fs sd' M' a b c e ⟨M0, l, q⟩ => px cls d H' fs M0 a (c.le l) (e.le l) q⟩
end
end DL
namespace DL
open PySem PySem.Spec PyProof.Rows L2
/-! ### set(x), x a tuple of tuples of ints -/
section
variable {P : Program} {w : World} {A : Around} {E : Value → Shared → Prop} {s : Shared}
abbrev noSet (w : World) : Obj := { cls := .type "set", dict := none, data := .set #[] 0 (.fresh 0 0 (!w.params.followText "set-order")) }
theorem tup_push {h : Heap} {a : Addr} {items : Array Value} (x : h.IsTuple a items) (o : Obj) : (h.push o).IsTuple a items := x.at fun u e => Heap.get?_push_of_some _ e
theorem set_of_tuple {l : Addr} {items : Array Value} (ks : List (Addr × List Int)) {Q : Value → Shared → Prop} (hh : A.handled = none) (hl : s.heap.IsTuple l items) (hit : items.toList = ks.map fun p => Value.ref p.1)
    (hk : ∀ p ∈ ks, IsT P w s.heap p.2 p.1) (hfew : ks.length < 64) (hu : A.units + 3 < cLine)
    (h : ∀ (h' : Heap) (tk : Nat) L es ep t, SetTR P w h' s.heap.objs.size L es ep t → Got ks ks.length L → (∀ b o, s.heap.get? b = some o → h'.get? b = some o) → Q (.ref s.heap.objs.size) { s with heap := h', toks := tk }) :
    wpAny (model P w) A (call (.type "set") [.ref l]) Q E s := by
  have many : items.size = ks.length := by rw [← Array.length_toList, hit, List.length_map]
  obtain ⟨c, tl, hmro⟩ := F.called_set.mro
  have hmade := F.called_set.made
  have hsub := F.called_set.sub
  refine wpAny_call (codeAny_of_tree ?_)
  show wpAny _ _ (callAny (.type "set") _) _ _ _
  refine wpAny_pure ⟨Code.quiet_builtin _ (by decide +kernel), codeAny_builtin F.entry_type_call ?_⟩
  rw [Around.under_plain (weight_type_call_type "set" [.ref l] []) rfl]
  have h1 := F.called_set.notType
  have h2 := F.called_set.canCreate
  have hct := F.typeCall_set_1 (.ref l)
  repeat (any_goals (first | assumption | wp_step))
  refine codeAny_mono (code_set_led1 (.ref l) (E := E) (Q₁ := fun obj s₁ => obj = .ref s.heap.objs.size ∧ s₁ = { s with heap := s.heap.push (noSet w) }) ⟨rfl, rfl⟩) fun r s₁ hr => ?_
  cases r with
  | error e => exact hr
  | ok fl =>
    cases fl with
    | ret obj =>
      obtain ⟨rfl, rfl⟩ := hr
      have hS : (s.heap.push (noSet w)).get? s.heap.objs.size = some (noSet w) := Heap.get?_push_size _ rfl
      have hT : Shared.TypeIs { s with heap := s.heap.push (noSet w) } (.ref s.heap.objs.size) "set" := ⟨_, hS, rfl⟩
      have hli := F.called_set.init.lookup
      have hbi := F.called_set.init.bind (.ref s.heap.objs.size)
      repeat (any_goals (first | assumption | wp_step))
      refine codeAny_mono (codeAny_call_builtin (R := wants (fun r s₂ => r = .none ∧ ∃ h' tk L es ep t, s₂ = { s with heap := h', toks := tk } ∧ SetTR P w h' s.heap.objs.size L es ep t ∧ Got ks ks.length L ∧
          (∀ b o, s.heap.get? b = some o → h'.get? b = some o)) E) F.called_set.init.plain F.entry_set_init (check_set_init_1 hT ?_)) fun r₂ s₂ hr₂ => ?_
      · have hl1 := tup_push hl (noSet w)
        obtain ⟨ol, hol, hcl, nl, hdl⟩ := hl
        obtain ⟨ocls, odict, odata, oslots⟩ := ol
        simp only at hcl hdl
        subst hcl; subst hdl
        have hol' : (s.heap.push (noSet w)).get? l = some { cls := .type "tuple", dict := odict, data := .seq items nl, slots := oslots } := Heap.get?_push_of_some _ hol
        have q1 := F.sub_tuple_set
        have q2 := F.sub_tuple_frozenset
        have q3 : (Value.type "tuple" == Value.type "dict") = false := by decide
        unfold Builtin.«set.__init__» noKeywords Builtin.Frozenset.updateFrom
        generalize hPI : pyIter = PI
        wp_walk
        subst hPI
        refine wpAny_pyIter_tuple hl1 ?_
        refine wpAny_bind (wpAny_runValue ?_)
        have lt : l < s.heap.objs.size := Heap.lt_size hol
        have big : (s.heap.push (noSet w)).objs.size = s.heap.objs.size + 1 := Heap.size_push ..
        have nI : l ≠ (s.heap.push (noSet w)).objs.size := by rw [big]; exact Nat.ne_of_lt (Nat.lt_succ_of_lt lt)
        have free : ∀ b, s.heap.objs.size ≤ b → s.heap.get? b = none := fun b hb => by
          cases q : s.heap.get? b with
          | none => rfl
          | some o => exact absurd (Nat.lt_of_lt_of_le (Heap.lt_size q) hb) (Nat.lt_irrefl _)
        have hval : ∀ (i : Nat) (v : Value), items[i]? = some v → ∃ p, ks[i]? = some p ∧ v = .ref p.1 := fun i v hv => by
          have q : items.toList[i]? = some v := by rw [Array.getElem?_toList]; exact hv
          rw [hit, List.getElem?_map, Option.map_eq_some_iff] at q
          obtain ⟨p, e1, e2⟩ := q
          exact ⟨p, e1, e2.symm⟩
        have h3 : A.in1.in1.in1.handled = none := by simp [hh]
        refine set_update_tups ((Walks.tuple h3 _ l nI items).toS) s.heap.objs.size (by rw [big]; simp only [List.mem_cons, List.not_mem_nil, or_false, not_or]; exact ⟨Nat.ne_of_lt (Nat.lt_succ_self _), Nat.ne_of_gt lt⟩) ks many hfew hval s.heap hk (free _ (Nat.le_refl _))
          (fun b hb => free b (by rw [List.mem_singleton.mp hb, big]; exact Nat.le_succ _)) hu (items.size - 0) 0 _ (by omega) (Nat.zero_le _)
          ⟨⟨_, Heap.get?_push_size _ rfl, rfl, rfl⟩, tup_push hl1 _⟩ (fun b o e => Heap.get?_push_of_some _ (Heap.get?_push_of_some _ e)) ⟨[], #[], 0, _, setTR_fresh (Heap.get?_push_of_some _ hS), Got.zero ks⟩ fun s' L es ep t hm hS' g' hkp => ?_
        obtain ⟨h', g2, d', tk', os'⟩ := s'
        obtain rfl : g2 = s.gens := hm.gens
        obtain rfl : d' = s.drawn := hm.drawn
        obtain rfl : os' = s.os := hm.os
        refine wpAny_pure ?_
        show wpAny _ _ (ret Value.none) _ _ _
        rw [many] at g'
        exact wpAny_pure ⟨rfl, h', tk', L, es, ep, t, rfl, hS', g', hkp⟩
      · cases r₂ with
        | error e => exact hr₂
        | ok fl₂ =>
          cases fl₂ with
          | ret r =>
            obtain ⟨rfl, h', tk, L, es, ep, t, rfl, hS', g', hk'⟩ := hr₂
            repeat (any_goals (first | assumption | wp_step))
            exact h _ _ _ _ _ _ hS' g' hk'
          | _ => exact hr₂.elim
    | _ => exact hr.elim
/-! ### sorted(a set of pairs of ints) -/
abbrev pairOf (h : Heap) (v : Value) : Int × Int := ((TS.intsOf h v).getD 0 0, (TS.intsOf h v).getD 1 0)
theorem isPair_of {h : Heap} {v : Value} {x y : Int} (t : TS.TupInts h v [x, y]) : Srt.IsPair h v x y := by
  obtain ⟨a, items, rfl, ⟨o, ho, hc, n, hd⟩, hi⟩ := t
  have e : ∃ t u, items.toList = [Value.int x t, Value.int y u] := by
    generalize items.toList = l at hi
    match l, hi with
    | _, .cons p t (.cons q u .nil) => exact ⟨_, _, rfl⟩
  obtain ⟨t, u, e⟩ := e
  refine ⟨a, o, t, u, n, rfl, ho, hc, ?_⟩
  rw [hd]
  congr 1
  exact Array.toList_inj.mp e
theorem sorted_setP {a : Addr} {L : List (Addr × List Int)} {es : Array (Int × Value)} {ep : Nat} {t : SetTable} {Q : Value → Shared → Prop} (R : SetTR P w s.heap a L es ep t) (hh : A.handled = none)
    (hB : ∀ p ∈ L, ∃ x y, p.2 = [x, y])
    (hQ : ∀ s' p (out : List Value) (c : Nat), (∀ b o, s.heap.get? b = some o → s'.heap.get? b = some o) → s'.gens = s.gens → s'.os = s.os → s.heap.objs.size ≤ p →
      s'.heap.get? p = some (seqObj "list" out.toArray c) → out.Perm (L.map fun q => Value.ref q.1) → SrtO.Srtd (fun v u => SrtO.lexB (pairOf s.heap v) (pairOf s.heap u)) out → Q (.ref p) s') :
    wpAny (model P w) A (call (.builtin "sorted") [.ref a]) Q E s := by
  obtain ⟨o, ho, hex, hd⟩ := R.ob
  have hsz := R.size
  have hfew := R.few
  refine Calls.call_function_entry kind_sorted plain_sorted entry_sorted (args_sorted1 _) ?_
  unfold Builtin.«sorted»
  refine wpAny_bind (m := checkCount "sorted" 1 1 _) (wpAny_pure ?_)
  refine wpAny_bind (collect_set (A := A.in1) hh ⟨o, ho, hex.1, hd⟩ R.fits (by unfold scanBound; omega) R.tab.ris R.led fun s1 vs k1 hz g1 o1 pm => ?_)
  have hes : es.toList.map (·.2) = L.map fun q => Value.ref q.1 := by
    rw [R.rows]
    unfold rowsOf
    rw [List.map_map] <;> rfl
  rw [hes] at pm
  have hvl : vs.length < 64 := by rw [pm.length_eq, List.length_map]; exact hfew
  have hv6 : vs.length ≤ sizeLine := by rw [sizeLine_eq]; omega
  refine wpAny_bind (wpAny_newList ?_ hv6)
  have hoL : (s1.heap.push (seqObj "list" vs.toArray 0)).get? s1.heap.objs.size = some (seqObj "list" vs.toArray 0) := Heap.get?_push_size _ rfl
  have pr : ∀ v ∈ vs, Srt.IsPair (s1.heap.push (seqObj "list" vs.toArray 0)) v (pairOf s.heap v).1 (pairOf s.heap v).2 := fun v hv => by
    obtain ⟨q, hq, rfl⟩ := List.mem_map.mp (pm.mem_iff.mp hv)
    obtain ⟨x, y, e⟩ := hB q hq
    have t0 := tupInts_of (P := P) (w := w) (R.tup q hq)
    have t1 : TS.TupInts (s1.heap.push (seqObj "list" vs.toArray 0)) (.ref q.1) q.2 := tupInts_of (P := P) (w := w) (isT_keep (R.tup q hq) fun b u e => Heap.get?_push_of_some _ (k1 b u e))
    have e2 : pairOf s.heap (.ref q.1) = (x, y) := by unfold pairOf; rw [t0.ints, e]; rfl
    rw [e2]
    rw [e] at t1
    exact isPair_of t1
  refine wpAny_bind (wpAny_holding (wpAny_call_entry (s := { s1 with heap := s1.heap.push (seqObj "list" vs.toArray 0) }) slot_list_sort ⟨_, hoL, rfl⟩ entry_list_sort (SrtO.list_sort_ord (SrtO.swo_lex (pairOf s.heap)) hoL hv6 (fun h2 => SrtO.pairs_sortableO (by omega) pr fun o e => ?_) fun out hs hb => ⟨_, rfl, ?_⟩) (args_list_sort _)))
  · rw [hoL] at e
    cases e
    intro c
    exact absurd (Value.type.inj c) (by decide)
  · obtain ⟨c, hc⟩ := sortedHeap_at (vs := vs) (out := out.toArray) hoL
    refine wpAny_pure ⟨_, rfl, hQ _ s1.heap.objs.size out c (fun b u e => ?_) g1 o1 hz hc (hb.perm.trans pm) hs⟩
    have q := k1 b u e
    have hlt := Heap.lt_size q
    show (sortedHeap (s1.heap.push (seqObj "list" vs.toArray 0)) s1.heap.objs.size vs out.toArray).get? b = some u
    rw [sortedHeap_old (Nat.ne_of_lt hlt) (by rw [size_push']; exact Nat.lt_succ_of_lt hlt)]
    exact Heap.get?_push_of_some _ q
end
theorem perm_back {α β : Type} (f : α → β) : ∀ (out : List β) (L : List α), out.Perm (L.map f) → ∃ L' : List α, L'.Perm L ∧ out = L'.map f
  | [], L, h => by
    have := h.length_eq
    rw [List.length_map] at this
    cases L with
    | nil => exact ⟨[], .refl _, rfl⟩
    | cons _ _ => simp at this
  | v :: out, L, h => by
    obtain ⟨q, hq, rfl⟩ := List.mem_map.mp (h.mem_iff.mp List.mem_cons_self)
    obtain ⟨A, B, rfl⟩ := List.append_of_mem hq
    have h2 : out.Perm ((A ++ B).map f) := by
      rw [List.map_append, List.map_cons] at h
      rw [List.map_append]
      exact (h.trans List.perm_middle).cons_inv
    obtain ⟨L', p1, e⟩ := perm_back f out _ h2
    exact ⟨q :: L', (p1.cons q).trans List.perm_middle.symm, by rw [e]; rfl⟩
/-! ### as rules -/
abbrev prL (l : List Int) : Int × Int := (l.getD 0 0, l.getD 1 0)
section
variable {X : Cx}
def rSetTup (K : PySem.W.Frag) (P : Program) (w : World) : List V → Hp → VK → Prop := fun xs H Q => ∃ (l : Addr) (ks : List (Addr × List Int)), xs = [V.ref l] ∧ SqT K H l (ks.map fun p => V.ref p.1) ∧ (∀ p ∈ ks, SqT K H p.1 (p.2.map V.int)) ∧ ks.length < 64 ∧
  ∀ a L, H a = none → (∀ p ∈ L, p ∈ ks) → (∀ p ∈ ks, p.2 ∈ L.map (·.2)) → Q (.ref a) (upd H a (SetTO P w a L))
theorem cr_setTup (hc : X.calm = true) (hu : X.A.units + 64 < cLine) : CallR X (.type "set") (rSetTup X.K X.prog X.w) := by
  intro pins s σ H xs us Q I r h
  obtain ⟨l, ks, rfl, hl, hk, hf, q⟩ := h
  rw [Vals.ref1 r]
  obtain ⟨its, rv, pl, hz⟩ := I.tuple hl
  have hn : H s.heap.objs.size = none := I.hok.fresh (Nat.le_refl _)
  refine set_of_tuple (P := X.prog) (w := X.w) ks (I.ok.hd hc) pl (by simpa using refs_of_vals rv) (fun p hp => I.isT (hk p hp)) hf (by omega) fun h' tk L es ep t R g k => ?_
  refine ⟨.ref s.heap.objs.size, upd H s.heap.objs.size (SetTO X.prog X.w s.heap.objs.size L), I.laid (t' := tk) k (Nat.le_refl _) (setTO_new R.t0), rfl, q _ L hn (fun p hp => List.mem_of_mem_take (g.sub p hp)) fun p hp => g.all p (by rw [List.take_length]; exact hp)⟩
def rSortedP (K : PySem.W.Frag) (P : Program) (w : World) : List V → Hp → VK → Prop := fun vs H Q => ∃ (a : Addr) (L : List (Addr × List Int)), vs = [V.ref a] ∧ H a = some (SetTO P w a L) ∧ (∀ p ∈ L, SqT K H p.1 (p.2.map V.int)) ∧ (∀ p ∈ L, ∃ x y, p.2 = [x, y]) ∧
  ∀ (L' : List (Addr × List Int)) (p : Addr), L'.Perm L → (L'.map (·.2)).Nodup → L'.length < 64 → L'.Pairwise (fun q r => SrtO.lexB (prL r.2) (prL q.2) = false) → H p = none → Q (.ref p) (upd H p (.lst (L'.map fun q => V.ref q.1)))
theorem cr_sortedP (hc : X.calm = true) : CallR X (.builtin "sorted") (rSortedP X.K X.prog X.w) := by
  intro pins s σ H vs us Q I r h
  obtain ⟨a, L, rfl, ha, hk, hB, q⟩ := h
  have R0 : SetT0 X.prog X.w s.heap a L := (I.hok a _ ha).1
  obtain ⟨es, ep, t, R⟩ := R0.full fun p hp => I.isT (hk p hp)
  rw [Vals.ref1 r]
  refine sorted_setP R (I.ok.hd hc) hB fun s' p out c k g o hp hg pm pw => ?_
  obtain ⟨L', pm', rfl⟩ := perm_back (fun q : Addr × List Int => Value.ref q.1) out L pm
  have hfew : L'.length < 64 := by rw [pm'.length_eq]; exact R.few
  have hlen : (L'.map fun q => V.ref q.1).length ≤ sizeLine := by rw [List.length_map, sizeLine_eq]; omega
  have hn : H p = none := I.hok.fresh hp
  have hv : Vals (L'.map fun q => V.ref q.1) (L'.map fun q => Value.ref q.1) := vals_of_refs L'
  have J : Inv X pins σ (upd H p (.lst (L'.map fun q => V.ref q.1))) { s with heap := s'.heap, gens := s'.gens, drawn := s'.drawn, toks := s'.toks } :=
    I.call (ch := []) (Un.laid k hp hn) (I.hok.laid k hp ⟨hlen, _, c, hv, hg⟩) (by rw [g]; exact I.bare) (fun _ z => nomatch z)
  have e : s' = { s with heap := s'.heap, gens := s'.gens, drawn := s'.drawn, toks := s'.toks } := by
    cases s'; cases s; cases o; rfl
  rw [e]
  refine ⟨.ref p, _, J, rfl, q L' p pm' ((pm'.map (·.2)).nodup_iff.mpr R.nd) hfew (List.Pairwise.imp_of_mem (fun {q r} hq hr z => ?_) (List.pairwise_map.mp pw)) hn⟩
  have f1 := (tupInts_of (P := X.prog) (w := X.w) (R.tup q (pm'.mem_iff.mp hq))).ints
  have f2 := (tupInts_of (P := X.prog) (w := X.w) (R.tup r (pm'.mem_iff.mp hr))).ints
  have z' : SrtO.lexB (pairOf s.heap (.ref r.1)) (pairOf s.heap (.ref q.1)) = false := z
  unfold pairOf at z'
  rw [f1, f2] at z'
  exact z'
end
end DL
namespace DL
open PySem PySem.Spec PyProof.Rows L2
variable [TL : TabList]
@[reducible] def qD (p : Int × Int) : D := .tup [.int p.1, .int p.2]
theorem reps_pairs {K : PySem.W.Frag} {H : Hp} : ∀ {pz : List (Int × Int)} {vs : List V}, Reps K H vs (pz.map qD) → ∃ ks : List (Addr × List Int), vs = ks.map (fun p => V.ref p.1) ∧ (∀ p ∈ ks, SqT K H p.1 (p.2.map V.int)) ∧ ks.map (·.2) = pz.map fun p => [p.1, p.2]
  | [], _, .nil => ⟨[], rfl, fun _ h => (by cases h), rfl⟩
  | p :: pz, _, .cons h t => by
    obtain ⟨ks, rfl, h1, h2⟩ := reps_pairs t
    cases h with
    | tup sq r =>
      rename_i a vs
      have e : vs = [p.1, p.2].map V.int := Reps.ints (ns := [p.1, p.2]) r
      subst e
      refine ⟨(a, [p.1, p.2]) :: ks, rfl, fun q hq => ?_, by rw [List.map_cons, List.map_cons, h2]⟩
      rcases List.mem_cons.mp hq with rfl | hq
      · exact sq
      · exact h1 q hq
theorem pairs_reps {K : PySem.W.Frag} {H : Hp} : ∀ {L : List (Addr × List Int)}, (∀ p ∈ L, SqT K H p.1 (p.2.map V.int)) → (∀ p ∈ L, ∃ x y, p.2 = [x, y]) → Reps K H (L.map fun q => V.ref q.1) ((L.map fun q => prL q.2).map qD)
  | [], _, _ => .nil
  | p :: L, h1, h2 => by
    obtain ⟨x, y, e⟩ := h2 p List.mem_cons_self
    have s := h1 p List.mem_cons_self
    rw [e] at s
    refine .cons ?_ (pairs_reps (fun q hq => h1 q (List.mem_cons_of_mem _ hq)) fun q hq => h2 q (List.mem_cons_of_mem _ hq))
    have e2 : prL p.2 = (x, y) := by rw [e]; rfl
    show Rep K H (.ref p.1) (qD (prL p.2))
    rw [e2]
    exact .tup s (.cons (.int x) (.cons (.int y) .nil))
theorem lex_strict {p q : Int × Int} (h : SrtO.lexB q p = false) (n : p ≠ q) : SrtO.lexB p q = true := by
  rw [SrtO.lexB_no] at h
  rw [SrtO.lexB_iff]
  obtain ⟨a, b⟩ := p
  obtain ⟨c, d⟩ := q
  by_cases e1 : a = c
  · subst e1
    refine .inr ⟨rfl, ?_⟩
    have h3 : b ≠ d := fun e => n (by rw [e])
    simp only at h h3 ⊢
    have h4 : ¬ d < b := fun z => h (.inr ⟨trivial, z⟩)
    omega
  · simp only at h ⊢
    omega
section
variable {X : Cx} {e : Expr} {w : WE} {p p2 pos pos2 : Pos}
@[reducible] def kSset (k : KE) : KE := fun d M => ∃ pz : List (Int × Int), d = .tup (pz.map qD) ∧ pz.length < 64 ∧ ∀ L : List (Int × Int), (∀ z, z ∈ L ↔ z ∈ pz) → L.Pairwise (fun x y => SrtO.lexB x y = true) → k (.lst (L.map qD)) M
@[reducible] def wSset (w : WE) : WE := fun sd M k kx => w sd M (kSset k) kx
theorem e_sset {n : Nat} (hr : Room n X.A) (hc : X.calm = true) (hg : Gl X "sorted") (hm : X.mg "sorted" = none) (hg2 : Gl X "set") (hm2 : X.mg "set" = none) (he : SE X e w)
    (hs : starEach (e :: []) X.env = (false, eval e X.env) :: starEach [] X.env := by rfl) (hpl : (backTo pos2 (starEach [] X.env)).any (·.1) = false := by rfl)
    (hs2 : starEach (.Call (.Name "set" p2) [e] [] pos2 :: []) X.env = (false, eval (.Call (.Name "set" p2) [e] [] pos2) X.env) :: starEach [] X.env := by rfl) (hpl2 : (backTo pos (starEach [] X.env)).any (·.1) = false := by rfl) :
    SE X (.Call (.Name "sorted" p) [.Call (.Name "set" p2) [e] [] pos2] [] pos) (wSset w) := fun Wx tk => by
  have inner := pe_callTy (p := p2) (cr_setTup hc hr.units) hg2 hm2 (by decide +kernel) (pa_cons (he Wx tk) pa_nil hs) (by decide) (by decide) hs hpl
  refine PE.imp (PE.gh (pe_callB (cr_sortedP hc) hg hm (by decide +kernel) (pa_cons inner pa_nil hs2) (by decide) (by decide) hs2 hpl2)) fun σ H Q h => ?_
  obtain ⟨sd, M, k, kx, rs, rm, h, po, px⟩ := h
  refine ⟨sd, M, _, kx, rs, rm, h, fun v H1 d M1 r1 rs1 rm1 k1 h1 => ?_, px⟩
  obtain ⟨pz, rfl, hlen, hk⟩ := h1
  cases r1 with
  | tup sq tt =>
    obtain ⟨ks, rfl, hks, he2⟩ := reps_pairs tt
    have hlk : ks.length = pz.length := by have := congrArg List.length he2; simpa using this
    have hsh : ∀ q ∈ ks, ∃ x y, q.2 = [x, y] ∧ (x, y) ∈ pz := fun q hq => by
      have : q.2 ∈ ks.map (·.2) := List.mem_map.mpr ⟨q, hq, rfl⟩
      rw [he2] at this
      obtain ⟨z, hz, e⟩ := List.mem_map.mp this
      exact ⟨z.1, z.2, e.symm, hz⟩
    refine ⟨_, ks, rfl, sq, hks, by omega, fun a L hn hL hall => ?_⟩
    have st : Stay H1 (upd H1 a (SetTO X.prog X.w a L)) := .new hn
    refine ⟨a, L, rfl, upd_same, fun q hq => st.sqt (hks q (hL q hq)), fun q hq => let ⟨x, y, e, _⟩ := hsh q (hL q hq); ⟨x, y, e⟩, fun L' b pm nd h64 pw hb => ?_⟩
    have k2 : Kp M1 H1 M1 (upd H1 a (SetTO X.prog X.w a L)) := .new hn
    have mem' : ∀ q ∈ L', q ∈ ks := fun q hq => hL q (pm.mem_iff.mp hq)
    have hn2 : ∀ q ∈ L', ∃ x y, q.2 = [x, y] := fun q hq => let ⟨x, y, e, _⟩ := hsh q (mem' q hq); ⟨x, y, e⟩
    refine post_frz (fun v4 H4 d4 M4 r4 rm4 s4 h4 => po v4 H4 d4 M4 r4 ((rs1.kp k2).kp s4) rm4 ((k1.trans k2).trans s4) h4) (rm1.lay hn) hb (pairs_reps (fun q hq => st.sqt (hks q (mem' q hq))) hn2) (hk _ (fun z => ⟨fun hz => ?_, fun hz => ?_⟩) ?_)
    · obtain ⟨q, hq, rfl⟩ := List.mem_map.mp hz
      obtain ⟨x, y, e, hm⟩ := hsh q (mem' q hq)
      rw [e]; exact hm
    · have : [z.1, z.2] ∈ ks.map (·.2) := by rw [he2]; exact List.mem_map.mpr ⟨z, hz, rfl⟩
      obtain ⟨q, hq, e⟩ := List.mem_map.mp this
      have h2 := hall q hq
      obtain ⟨q2, hq2, e2⟩ := List.mem_map.mp h2
      exact List.mem_map.mpr ⟨q2, pm.mem_iff.mpr hq2, by rw [e2, e]; rfl⟩
    · refine List.pairwise_map.mpr (List.Pairwise.imp_of_mem (fun {q r} hq hr' z => ?_) (pw.and (List.pairwise_map.mp nd)))
      refine lex_strict z.1 fun e => z.2 ?_
      obtain ⟨x, y, e1⟩ := hn2 q hq
      obtain ⟨x', y', e2⟩ := hn2 r hr'
      rw [e1, e2] at e ⊢
      have e' : (x, y) = (x', y') := e
      cases e'
      rfl
end
/-! ### x[::-1] -/
section
variable {prog : Program} {w : World} {A : Around} {E : Value → Shared → Prop} {s : Shared}
theorem places_rev (n : Nat) : Builtin.Slice.slicePlaces ((n : Int) - 1) (-1) (-1) = n := by
  unfold Builtin.Slice.slicePlaces
  rw [if_neg (by decide)]
  by_cases h : (n : Int) - 1 > -1
  · rw [if_pos h]
    have : ((n : Int) - 1 - -1 - 1) / (- -1) + 1 = n := by
      rw [show (- -1 : Int) = 1 by decide, Int.ediv_one]; omega
    rw [this]; simp
  · rw [if_neg h]
    have : n = 0 := by omega
    subst this; rfl
theorem sliceApplied_rev {sl : Addr} {vl vu vs : Value} {n : Nat} {Q : Int × Int × Nat → Shared → Prop} (hs : s.heap.IsSliceOf sl vl vu vs) (pl : IsPart vl none) (pu : IsPart vu none) (ps : IsPart vs (some (-1)))
    (h : Q ((n : Int) - 1, -1, n) s) : wpAny (model prog w) A (Builtin.Slice.sliceApplied (.ref sl) (pure (n : Int))) Q E s := by
  obtain ⟨os, hos, hcs, hds⟩ := id hs
  unfold Builtin.Slice.sliceApplied Builtin.Slice.sliceFields
  refine wpAny_bind (wpAny_bind (wpAny_field hos hds (x := vl) rfl (wpAny_bind (wpAny_field hos hds (x := vu) rfl (wpAny_bind (wpAny_field hos hds (x := vs) rfl (wpAny_pure ?_)))))))
  refine wpAny_bind (HT.slicePart_ ps ?_)
  show wpAny _ _ (if ((-1 : Int) == 0) = true then _ else _) _ _ s
  rw [if_neg (by decide)]
  refine wpAny_bind (HT.slicePart_ pl (wpAny_bind (HT.slicePart_ pu (wpAny_bind (wpAny_pure ?_)))))
  show wpAny _ _ (match Builtin.Slice.sliceAdjust none none (-1) (n : Int) with | (lo, hi) => pure (lo, (-1 : Int), Builtin.Slice.slicePlaces lo hi (-1))) _ _ s
  have e : Builtin.Slice.sliceAdjust none none (-1) (n : Int) = ((n : Int) - 1, -1) := by
    first | rfl | simp [Builtin.Slice.sliceAdjust]
  rw [e]
  show wpAny _ _ (pure ((n : Int) - 1, (-1 : Int), Builtin.Slice.slicePlaces ((n : Int) - 1) (-1) (-1))) _ _ s
  rw [places_rev]
  exact wpAny_pure h
theorem fmap_all {α β : Type} {f : α → Option β} {g : α → β} : ∀ {l : List α}, (∀ k ∈ l, f k = some (g k)) → l.filterMap f = l.map g
  | [], _ => rfl
  | a :: l, h => by
    rw [List.filterMap_cons_some (h a List.mem_cons_self), List.map_cons, fmap_all fun k hk => h k (List.mem_cons_of_mem _ hk)]
theorem pick_rev (xs : Array Value) : ((List.range xs.size).filterMap fun (k : Nat) => xs[((xs.size : Int) - 1 + (k : Int) * -1).toNat]?).toArray = xs.toList.reverse.toArray := by
  congr 1
  obtain ⟨l⟩ := xs
  show ((List.range l.length).filterMap fun (k : Nat) => l.toArray[((l.length : Int) - 1 + (k : Int) * -1).toNat]?) = l.reverse
  refine List.ext_getElem? fun i => ?_
  have e : ((List.range l.length).filterMap fun (k : Nat) => l.toArray[((l.length : Int) - 1 + (k : Int) * -1).toNat]?) = (List.range l.length).map fun (k : Nat) => (l[l.length - 1 - k]?).getD .none := by
    refine fmap_all fun k hk => ?_
    have hk := List.mem_range.mp hk
    have e1 : ((l.length : Int) - 1 + (k : Int) * -1).toNat = l.length - 1 - k := by omega
    rw [e1]
    have hlt : l.length - 1 - k < l.length := by omega
    simp [List.getElem?_eq_getElem hlt]
  rw [e]
  by_cases hi : i < l.length
  · rw [List.getElem?_map, List.getElem?_range hi, List.getElem?_reverse hi]
    have hlt : l.length - 1 - i < l.length := by omega
    simp [List.getElem?_eq_getElem hlt]
  · rw [List.getElem?_eq_none (by simpa using hi), List.getElem?_eq_none (by simpa using hi)]
theorem getItem_tuple_rev {t sl : Addr} {items : Array Value} {vl vu vs : Value} {Q : Value → Shared → Prop} (ht : IsTup s.heap t items) (hs : s.heap.IsSliceOf sl vl vu vs) (pl : IsPart vl none) (pu : IsPart vu none) (ps : IsPart vs (some (-1)))
    (h : Q (.ref s.heap.objs.size) { s with heap := s.heap.push { cls := .type "tuple", data := .seq items.toList.reverse.toArray } }) (hsz : items.size ≤ sizeLine) : wpAny (model prog w) A (getItem (.ref t) (.ref sl)) Q E s := by
  have ok : sizeOk (.seq items.toList.reverse.toArray) := by
    show items.toList.reverse.toArray.size ≤ sizeLine
    rw [List.size_toArray, List.length_reverse, Array.length_toList]
    exact hsz
  obtain ⟨os, hos, hcs, hds⟩ := id hs
  have hTs : s.TypeIs (.ref sl) "slice" := ⟨os, hos, hcs⟩
  unfold getItem
  try with_reducible refine wpAny_holding ?_
  first | refine wpAny_bind (wpAny_pure ?_) | skip
  refine wpAny_bind (wpAny_sequenceKey ht.typeIs (by decide) ?_)
  refine wpAny_bind (wpAny_callSpecial?_slot (name := Str.ofString "__getitem__") ht.typeIs PyProof.Rows.slot_tuple_getitem
    (wpAny_call_entry PyProof.Rows.slot_tuple_getitem ht.typeIs entry_tuple_getitem ?_ (args_tuple_getitem _ _)))
  show wpAny _ _ (Builtin.Tuple.tupleItemsOf (.ref t) >>= _) _ _ s
  refine wpAny_bind (tupleItemsOf_ ht ?_)
  refine wpAny_bind (wpAny_typeOf hTs ?_)
  rw [if_pos (by decide)]
  refine wpAny_bind (sliceApplied_rev hs pl pu ps ?_)
  have hno : ¬ ((((items.size : Int) - 1) == 0 && (-1 : Int) == 1 && items.size == items.size) = true) := by
    intro q
    rw [Bool.and_eq_true, Bool.and_eq_true] at q
    exact absurd (eq_of_beq q.1.2) (by decide)
  show wpAny _ _ (if (((items.size : Int) - 1) == 0 && (-1 : Int) == 1 && items.size == items.size) = true then _ else _) _ _ s
  rw [if_neg hno, pick_rev]
  first
    | exact wpAny_bind (m := Builtin.Tuple.tupleExact _) (wpAny_newObj_type (wpAny_pure ⟨_, rfl, wpAny_pure h⟩) ok)
    | exact wpAny_bind (wpAny_bind (m := Builtin.Tuple.tupleExact _) (wpAny_newObj_type (wpAny_pure ⟨_, rfl, wpAny_pure h⟩) ok))
    | exact wpAny_bind (wpAny_bind (m := Builtin.Tuple.tupleExact _) (wpAny_newObj_type (wpAny_pure (wpAny_pure ⟨_, rfl, wpAny_pure h⟩)) ok))
end
section
variable {X : Cx} {e : Expr} {w : WE} {te : TE} {kk : Nat} {p1 p2 p3 pos : Pos}
def tRevT (K : PySem.W.Frag) (te : TE) : TE := fun σ H Q => te σ H fun x H1 => ∃ a xs, x = .ref a ∧ SqT K H1 a xs ∧ ∀ p, H1 p = none → Q (.ref p) (upd H1 p (.tup xs.reverse))
theorem pe_revT (he : PE X e te) : PE X (.Subscript e (.Slice none none (some (.UnaryOp .USub (.Constant (.int 1) kk p1) p2)) p3) pos) (tRevT X.K te) := by
  refine ⟨fun pins s σ H Q I h => ?_⟩
  refine Subscript_ (thn (he.run pins s σ H _ I h) fun v s1 ⟨x, H1, I1, r1, q1⟩ => ?_)
  obtain ⟨a, xs, ex, hx, q⟩ := q1
  subst ex
  cases r1
  have hst : PO X (some (.UnaryOp .USub (.Constant (.int 1) kk p1) p2)) (tPart (tUn (rU fun i => .int (-i)) (tC (.int 1)))) := po_some (pe_un un_neg pe_int)
  refine wpAny_Slice (thn (po_none.run pins s1 σ H1 (fun o H2 => o = none ∧ H2 = H1) I1 ⟨rfl, rfl⟩) fun vl s2 ⟨l, H2, I2, pl, el, e2⟩ => ?_)
  subst el e2
  refine thn (po_none.run pins s2 σ H2 (fun o H3 => o = none ∧ H3 = H2) I2 ⟨rfl, rfl⟩) fun vu s3 ⟨u, H3, I3, pu, eu, e3⟩ => ?_
  subst eu e3
  refine thn (hst.run pins s3 σ H3 (fun o H4 => o = some (-1) ∧ H4 = H3) I3 ⟨1, rfl, -1, rfl, rfl, rfl⟩) fun vs s4 ⟨o, H4, I4, ps, eo, e4⟩ => ?_
  subst eo e4
  have I5 : Inv X pins σ H4 { s4 with heap := s4.heap.push { cls := .type "slice", data := .fields #[vl, vu, vs] } } := I4.kept (t' := s4.toks) fun b ob q => Heap.get?_push_of_some _ q
  obtain ⟨its, r, ht, hz⟩ := I5.tuple hx
  have hlen := r.length
  refine tail_any (ops := [.ref a, .ref s4.heap.objs.size]) ht.typeIs PyProof.Rows.slot_tuple_getitem.lookup ?_ (by with_unfolding_all rfl)
  refine getItem_tuple_rev ht (Heap.IsSliceOf.new _ vl vu vs) pl pu ps ?_ (by rw [List.size_toArray]; omega)
  refine ⟨.ref _, _, I5.laid (t' := s4.toks) (o := .tup xs.reverse) (fun b ob q => Heap.get?_push_of_some _ q) (Nat.le_refl _) ?_, rfl, q _ (I5.hok.fresh (Nat.le_refl _))⟩
  exact ⟨by rw [List.length_reverse]; exact hz, _, r.reverse, _, Heap.get?_push_size _ rfl, rfl, 0, rfl⟩
@[reducible] def kRev (k : KE) : KE := fun d M => match d with
  | .tup l => k (.tup l.reverse) M
  | _ => False
@[reducible] def wRev (w : WE) : WE := fun sd M k kx => w sd M (kRev k) kx
theorem e_revT (he : SE X e w) : SE X (.Subscript e (.Slice none none (some (.UnaryOp .USub (.Constant (.int 1) kk p1) p2)) p3) pos) (wRev w) := fun Wx tk =>
  PE.imp (pe_revT (he Wx tk)) fun σ H Q h => by
    obtain ⟨sd, M, k, kx, rs, rm, h, po, px⟩ := h
    refine ⟨sd, M, _, kx, rs, rm, h, fun v H1 d M1 r1 rs1 rm1 k1 h1 => ?_, px⟩
    cases d with
    | tup l =>
      cases r1 with
      | tup sq tt => exact ⟨_, _, rfl, sq, fun q hq => po _ _ _ M1 (tt.rev.newTup hq) (rs1.st (.new hq)) (rm1.lay hq) (k1.trans (.new hq)) h1⟩
    | _ => exact h1.elim
end
end DL
namespace DL
open PySem PySem.Spec PyProof.Rows L2
/-! ### the head's facts, as the theorems take them -/
section
variable {K : PySem.W.Frag}
abbrev ddOf (x : Str) (st : Stmt) : He.DefD := ⟨(x, none), x, x, defArgs st, defBody st, defScope st, [], []⟩
abbrev FunZ (K : PySem.W.Frag) (x : Str) (st : Stmt) (fd : FuncData) : Prop := FunD K x x (defArgs st) (defBody st) (defScope st) [] [] (He.ga K x) fd
theorem fun_of {x : Str} {st : Stmt} {fd : FuncData} (F : FunZ K x st fd) : Fun K x x st (He.ga K x) fd := by
  obtain ⟨oc, od, dV, kV, doc, pm, an, cdv, ct, osl, e, lk, hcd, hD, hK⟩ := F.ex
  rcases hD with ⟨_, rfl⟩ | ⟨e, _⟩
  · exact ⟨⟨oc, od, kV, doc, pm, an, cdv, ct, osl, e, lk, hcd⟩, F.kp⟩
  · exact absurd rfl e
theorem funC_of {x : Str} {st : Stmt} {fd : FuncData} (F : FunZ K x st fd) : FunC K x x st (He.ga K x) fd (He.cT K (x, none)).1 := by
  obtain ⟨oc, od, dV, kV, doc, pm, an, cdv, ct, osl, e, lk, hcd, hD, hK⟩ := F.ex
  rcases hD with ⟨_, rfl⟩ | ⟨e, _⟩
  · obtain ⟨c, rfl⟩ := He.codeIn_ref hcd
    have e2 : (He.cT K (x, none)).1 = c := He.codeOf_eq (p := (x, none)) lk (by rw [e] <;> rfl)
    rw [e2]
    exact ⟨⟨oc, od, kV, doc, pm, an, ct, osl, e, lk, hcd⟩, F.kp⟩
  · exact absurd rfl e
/-- the tables of the defs with lambdas -/
def tabsOf (K : PySem.W.Frag) (l : List He.Defn) : List (Addr × Str) := l.map fun p => ((He.cT K p).2, lamQual p.1)
def ndTab (l : List He.Defn) (K : PySem.W.Frag) : Bool := decide ((l.map fun p => (He.cT K p).2).Nodup)
theorem mem_tabs {l : List He.Defn} {x : Str} (h : (x, none) ∈ l) : ((He.cT K (x, none)).2, lamQual x) ∈ tabsOf K l := List.mem_map.mpr ⟨_, h, rfl⟩
theorem tabs_one {l : List He.Defn} (nd : ndTab l K = true) {x : Str} (h : (x, none) ∈ l) : ∀ p ∈ tabsOf K l, p.1 = (He.cT K (x, none)).2 → p.2 = lamQual x := by
  have nd : (l.map fun p => (He.cT K p).2).Nodup := of_decide_eq_true nd
  intro p hp e
  obtain ⟨q, hq, rfl⟩ := List.mem_map.mp hp
  have key : ∀ {l : List He.Defn}, (l.map fun p => (He.cT K p).2).Nodup → ∀ q ∈ l, ∀ r ∈ l, (He.cT K q).2 = (He.cT K r).2 → q = r := by
    intro l
    induction l with
    | nil => intro _ q hq; cases hq
    | cons a l ih =>
      intro nd q hq r hr e
      rw [List.map_cons, List.nodup_cons] at nd
      rcases List.mem_cons.mp hq with e1 | h1
      · rcases List.mem_cons.mp hr with e2 | h2
        · rw [e1, e2]
        · subst e1
          exact absurd (List.mem_map.mpr ⟨r, h2, e.symm⟩) nd.1
      · rcases List.mem_cons.mp hr with e2 | h2
        · subst e2
          exact absurd (List.mem_map.mpr ⟨q, h1, e⟩) nd.1
        · exact ih nd.2 q h1 r h2 e
  rw [key nd q hq _ h e]
theorem tabs_start {l : List He.Defn} {H : Hp} (h : ∀ p ∈ l.map (He.cT K), H p.2 = some (.tbl #[])) : LamX.Tabs (tabsOf K l) H := by
  intro p hp
  obtain ⟨q, hq, rfl⟩ := List.mem_map.mp hp
  refine ⟨#[], h _ (List.mem_map.mpr ⟨q, hq, rfl⟩), ?_, fun pos cv z => ?_⟩
  · exact True.intro
  · cases z
end
variable [TL : TabList]
/-- a promise that asks for nothing -/
theorem callee_no {P : Program} {w : World} {K : PySem.W.Frag} {mg : Str → Option Value} {base : Heap} {x : Str} {st : Stmt} {f : Addr} {fd : FuncData} {ps : List Str} {lvl : Nat} {sp : SpD} (F : Fun K x x st f fd) (hm : mg x = some (.ref f)) (hb : Binds K fd ps []) (no : ∀ ds M k kx, ¬ sp ds M k kx) : Callee P w K mg base x lvl sp :=
  callee_of F hm hb ⟨fun vs H Q E ⟨ds, M, k, kx, _, _, h, _⟩ => (no ds M k kx h).elim, fun A outer s H args us vs Q E _ _ _ _ ⟨ds, M, k, kx, _, _, h, _⟩ => (no ds M k kx h).elim⟩
theorem reps_ints {K : PySem.W.Frag} {H : Hp} : ∀ ns : List Int, Reps K H (ns.map V.int) (ns.map D.int)
  | [] => .nil
  | n :: ns => .cons (.int n) (reps_ints ns)
/-- the law's def at its beginning -/
theorem law_start {K : PySem.W.Frag} {H : Hp} {a : Addr} {ns : List Int} {sp : SpD} (ht : LamX.Tabs TL.T H) (hS : SqL K H a (ns.map V.int))
    (h : ∀ (d : D) (M : Mm), (d = .lst (ns.map D.int) ∨ ∃ a, d = .ref a ∧ M a = some (.lst (ns.map D.int))) → sp [d] M (fun d _ => d = .bl true) kxF) : toSp K sp [.ref a] H (fun v _ => v = .bl true) fun _ _ _ => False := by
  have key : ∀ (d : D) (M : Mm), Rep K H (.ref a) d → RelM K H M → (d = .lst (ns.map D.int) ∨ ∃ a, d = .ref a ∧ M a = some (.lst (ns.map D.int))) → toSp K sp [.ref a] H (fun v _ => v = .bl true) fun _ _ _ => False := fun d M r rm hd =>
    ⟨[d], M, _, _, .cons r .nil, rm, h d M hd, fun v H' d' M' r' _ _ e => by subst e; cases r'; rfl, fun _ _ _ _ _ _ _ _ z => z⟩
  rcases hS with (hS | hS) | hS
  · refine key (.ref a) (put mnil a (.lst (ns.map D.int))) (.ref a) ⟨fun b o e => ?_, ht⟩ (.inr ⟨a, rfl, put_same⟩)
    by_cases hb : b = a
    · subst hb
      rw [put_same] at e
      cases e
      exact ⟨_, hS, reps_ints ns⟩
    · rw [put_ne hb] at e
      cases e
  · exact key (.lst (ns.map D.int)) mnil (.lst (.inl hS) (reps_ints ns)) ⟨fun b o e => (by cases e), ht⟩ (.inl rfl)
  · exact key (.lst (ns.map D.int)) mnil (.lst (.inr hS) (reps_ints ns)) ⟨fun b o e => (by cases e), ht⟩ (.inl rfl)
theorem cx_no (P : Program) (w : World) (H : Hp) (s : Shared) (e : Value) (s' : Shared) (z : L2.CX P w [] H s (fun _ _ _ => False) e s') : False := by
  obtain ⟨_, _, _, _, _, _, _, _, _, _, _, _, z⟩ := z
  exact z
/-- an own class of exceptions -/
theorem exc_of {K : PySem.W.Frag} {h : Heap} {mg : Str → Option Value} {x : String} (X : K.In h) (G : h.Ns mainGlobals mg) (c1 : (He.Fa.glo x).ok K = true) (c2 : (He.Fa.exc x).ok K = true) : ExC K mg x (He.ga K x) := by
  obtain ⟨a, b, c, d⟩ := He.exc_ok c2
  exact ⟨He.glo_ok X G c1, a, b, c, d⟩
end DL
namespace DL
open PySem PySem.Spec PyProof.Rows L2
/-! ### enumerate of a tuple -/
theorem meets_enumT (t : Addr) (items : Array Value) :
    Meets (Builtin.«enumerate.__new__» ⟨[.type "enumerate", .ref t], []⟩) (fun _ R s => s.heap.IsTuple t items ∧
      R (.ok (.ret (.ref (s.heap.push { cls := .type "tuple_iterator", data := .fields #[.ref t, .int 0 0] }).objs.size)))
        { s with heap := (s.heap.push { cls := .type "tuple_iterator", data := .fields #[.ref t, .int 0 0] }).push { cls := .type "enumerate", data := .fields #[.none, .bool false, .ref s.heap.objs.size, rawInt 0, .none, .none] } }) :=
  .of_wp fun prog w A R s h => by
    obtain ⟨hp, g, d, tk, os⟩ := s
    obtain ⟨h1, h⟩ := h
    have hsub := sub_enumerate
    have q1 : ∀ {A' : Around} {E : Value → Shared → Prop} {Q : Value → Shared → Prop}, Q (.ref hp.objs.size) ⟨hp.push { cls := .type "tuple_iterator", data := .fields #[.ref t, .int 0 0] }, g, d, tk, os⟩ → wpAny (model prog w) A' (pyIter (.ref t)) Q E ⟨hp, g, d, tk, os⟩ :=
      fun q => (begins_tuple t items).iter prog w _ _ ⟨hp, g, d, tk, os⟩ _ h1 q
    wp_walk using q1
    refine wpAny_stack_any fun st => wpAny_pure ?_
    split
    · rename_i c _ _ _ _ _
      cases (c == Value.type "enumerate")
      · wp_walk using q1
        exact ⟨_, rfl, h⟩
      · wp_walk using q1
        exact ⟨_, rfl, h⟩
    · wp_walk using q1
      exact ⟨_, rfl, h⟩
section
variable {prog : Program} {w : World} {A : Around} {E : Value → Shared → Prop} {s : Shared}
theorem call_enumT {t : Addr} {items : Array Value} {Q : Value → Shared → Prop} (hL : s.heap.IsTuple t items)
    (h : ∀ h', IsEnum h' (s.heap.objs.size + 1) s.heap.objs.size 0 .none → h'.IsTupleIter s.heap.objs.size t 0 →
      (∀ b o, s.heap.get? b = some o → h'.get? b = some o) → Q (.ref (s.heap.objs.size + 1)) { s with heap := h' }) :
    wpAny (model prog w) A (call (.type "enumerate") [.ref t]) Q E s := by
  refine callType_new F.called_enumerate (by decide) (F.typeCall_enumerate_1 _) (F.newCall_enumerate_1 _) (fun obj => F.args_object_init_2 obj _) F.entry_enumerate_new
    (meets_enumT t items) ⟨hL, ?_⟩
  have hz : (s.heap.push { cls := .type "tuple_iterator", data := .fields #[.ref t, .int 0 0] }).objs.size = s.heap.objs.size + 1 := Heap.size_push ..
  show _ ∧ _
  rw [hz]
  have he : IsEnum ((s.heap.push { cls := .type "tuple_iterator", data := .fields #[.ref t, .int 0 0] }).push
      { cls := .type "enumerate", data := .fields #[.none, .bool false, .ref s.heap.objs.size, rawInt 0, .none, .none] }) (s.heap.objs.size + 1) s.heap.objs.size 0 .none := by
    have := Heap.get?_push_size (s.heap.push { cls := .type "tuple_iterator", data := .fields #[.ref t, .int 0 0] })
      (o := { cls := .type "enumerate", data := .fields #[.none, .bool false, .ref s.heap.objs.size, rawInt 0, .none, .none] }) rfl
    rw [hz] at this; exact this
  exact ⟨⟨_, he, rfl⟩, h _ he ⟨_, Heap.get?_push_of_some _ (Heap.get?_push_size _ rfl), rfl, rfl⟩ fun b o x => Heap.get?_push_of_some _ (Heap.get?_push_of_some _ x)⟩
theorem pyNext_enumT_end {e it a : Addr} {items : Array Value} {old : Value} {i : Nat} {Q : Option Value → Shared → Prop} (hh : A.handled = none) (he : IsEnum s.heap e it i old) (hit : s.heap.IsTupleIter it a i) (hl : s.heap.IsTuple a items) (hx : items[i]? = none)
    (hQ : ∀ h', Heap.ExtBut it s.heap h' → Q none { s with heap := h' }) : wpAny (model prog w) A (pyNext (.ref e)) Q E s := by
  have hT : s.TypeIs (.ref e) "enumerate" := ⟨_, he, rfl⟩
  unfold pyNext
  refine wpAny_bind (wpAny_attempt (wpAny_callSpecial?_slot (name := Str.ofString "__next__") hT F.slot_enumerate_next
    (wpAny_call_entry F.slot_enumerate_next hT F.entry_enumerate_next ?_ (F.args_enumerate_next_1 _))))
  show wpAny _ _ (field (.ref e) 2 >>= _) _ _ _
  refine wpAny_bind (wpAny_field he rfl (x := .ref it) rfl ?_)
  refine wpAny_bind (wpAny_nextOf_tuple_end hh hit hl hx fun h' x he' hx' => ?_)
  obtain ⟨o, ho, hc⟩ := hx'
  refine wpAny_bind (wpAny_isInstance (T := "StopIteration") (b := true) ⟨o, ho, hc⟩ isSubtype_stop ?_)
  exact wpAny_pure (hQ _ he')
end
/-- the tuple at a, each item in a new pair -/
def IteT (K : PySem.W.Frag) (a : Addr) : It :=
  ⟨fun i H => ∃ (xs : List V) (x : V), SqT K H a xs ∧ xs[i]? = some x, fun i H v H' => ∃ T x, v = .ref T ∧ H T = none ∧ H' = upd H T (.tup [.int (i : Nat), x]) ∧ ∀ xs, SqT K H a xs → xs[i]? = some x, fun i H => ∃ xs : List V, SqT K H a xs ∧ xs.length ≤ i⟩
theorem turn_enumT {P : Program} {w : World} {K : PySem.W.Frag} {elts : List Expr} {kk : Nat} {tpos : Pos} (a e it : Addr) (hai : a ≠ it) (hae : a ≠ e) :
    Turn P w K (.Tuple elts kk tpos) (IteT K a) [e, it] e (fun i h => (∃ old, IsEnum h e it ((i : Nat) : Int) old) ∧ h.IsTupleIter it a i ∧ e ≠ it) where
  mem := by simp
  obj := fun i h st b hb => by
    obtain ⟨⟨old, he⟩, ⟨o, ho, hc, hd⟩, _⟩ := st
    have e' : b = e ∨ b = it := by simpa using hb
    rcases e' with z | z
    · rw [z]; exact ⟨_, he, fun v q => nomatch q⟩
    · rw [z]; exact ⟨o, ho, fun v q => by rw [hd] at q; cases q⟩
  keep := fun i h h' st k => let ⟨⟨old, he⟩, hi, hne⟩ := st; ⟨⟨old, k e (by simp) _ he⟩, hi.at fun o q => k it (by simp) o q, hne⟩
  item := by
    intro X hP hw hK hc i pins s σ H E I hf st hg
    subst hP hw hK
    obtain ⟨⟨old, he⟩, hit, hne⟩ := st
    obtain ⟨xs, x, hq, hx⟩ := hg
    obtain ⟨its, rv, p, hz⟩ := I.tuple hq
    obtain ⟨u, hu, ru⟩ := rv.get hx
    have hel : e < s.heap.objs.size := Heap.lt_size he
    have hil : it < s.heap.objs.size := by obtain ⟨_, q, _⟩ := hit; exact Heap.lt_size q
    have hlt : i < its.toArray.size := by
      have z := (List.getElem?_eq_some_iff.mp hu).1
      simpa using z
    refine wpAny_pyNext_enum_itemD (Draws.tuple (prog := X.prog) (w := X.w) (A := X.A.in1) (I.ok.hd hc) it a hai its.toArray) he ⟨hit, show s.heap.IsTuple a its.toArray from p⟩ hlt hne (by simp [hne, Ne.symm hae]) fun y h' tk hy ho hst hT hsz hk => ?_
    have hy2 : y = u := by
      have z : its[i]? = some y := by simpa using hy
      rw [hu] at z
      exact (Option.some.inj z).symm
    subst hy2
    refine ⟨_, rfl, wpAny_letOwnedTupleGo_enum (s := { s with heap := h', toks := tk + 1 }) ho fun h'' he' sb => ?_⟩
    have hT2 : h''.get? s.heap.objs.size = some { cls := .type "tuple", data := .seq #[.int i tk, y] } := (sb.2 _ (Nat.ne_of_gt hel)).trans hT
    have new : ObjOk X.prog X.w (upd H s.heap.objs.size (.tup [.int (i : Nat), x])) h'' s.heap.objs.size (.tup [.int (i : Nat), x]) :=
      ⟨by show 2 ≤ sizeLine; decide, [.int i tk, y], .cons ⟨_, rfl⟩ (.cons ru .nil), ⟨_, hT2, rfl, _, rfl⟩⟩
    have I1 : Inv X pins σ (upd H s.heap.objs.size (.tup [.int (i : Nat), x])) { s with heap := h'', toks := tk + 1 } :=
      I.turnedNew (ch := [e, it]) (fun b ob hb q => (sb.2 b (fun z => hb (by simp [z]))).trans (hk b ob (fun z => hb (by simp [z])) (fun z => hb (by simp [z])) q)) hf (Nat.le_refl _) new
    refine ⟨.ref s.heap.objs.size, _, I1, rfl, ⟨_, x, rfl, I.hok.fresh (Nat.le_refl _), rfl, fun ys hy => by rw [I.tuple_inj hy hq]; exact hx⟩, ⟨⟨y, ?_⟩, hst.1.at fun o q => (sb.2 it (Ne.symm hne)).trans q, hne⟩, fun b hb => ?_⟩
    · have e1 : ((i + 1 : Nat) : Int) = (i : Int) + 1 := by omega
      rw [e1]; exact he'
    · have hb' : b < s.heap.objs.size := by
        have e' : b = e ∨ b = it := by simpa using hb
        rcases e' with z | z
        · rw [z]; exact hel
        · rw [z]; exact hil
      rw [upd_ne (Nat.ne_of_lt hb')]
      exact (hf b hb).1
  done := by
    intro X hP hw hK hc i pins s σ H E I hf st hg
    subst hP hw hK
    obtain ⟨⟨old, he⟩, hit, hne⟩ := st
    obtain ⟨xs, hq, hx⟩ := hg
    obtain ⟨its, rv, p, hz⟩ := I.tuple hq
    obtain ⟨f0, f1, f2, f3, f4, f5⟩ := hf it (by simp)
    have hl := rv.length
    exact pyNext_enumT_end (I.ok.hd hc) he hit (show s.heap.IsTuple a its.toArray from p) (by simp; omega) fun h' eb => ⟨rfl, I.turned (t' := s.toks) (fun b o hb q => eb b o hb q) f0 f1 f3 f4 f5⟩
  self := fun A i s Q E st h => let ⟨⟨_, he⟩, _⟩ := st; wpAny_pyIter_enum he h
/-- enumerate of a list or a tuple -/
def iEnumA (K : PySem.W.Frag) (ta : TA) : TI := fun σ H R => ta σ H fun vs H1 => ∃ a xs, vs = [.ref a] ∧ ((SqL K H1 a xs ∧ R (Ite K a) H1) ∨ (SqT K H1 a xs ∧ R (IteT K a) H1))
theorem pi_enumA {X : Cx} {e : Expr} {ta : TA} {p pos tpos : Pos} {elts : List Expr} {kk : Nat} (hg : Gl X "enumerate") (hm : X.mg "enumerate" = none) (ha : PA X [e] ta) (hs : starEach [e] X.env = [(false, eval e X.env)] := by rfl) :
    PI X (.Tuple elts kk tpos) (.Call (.Name "enumerate" p) [e] [] pos) (iEnumA X.K ta) := by
  refine ⟨fun pins s σ H R I h => ?_⟩
  refine Call_ (ld_blt I hg hm boot_enumerate (PyProof.Rows.callWith_type1 (thn (ha.run pos pins s σ H _ I h) fun us s1 ⟨vs, H1, I1, r1, q1⟩ => ?_) hs rfl))
  obtain ⟨a, xs, ex, q⟩ := q1
  subst ex
  cases r1 with
  | cons r rr =>
    cases rr
    cases r
    have fp : ∀ b, b ∈ [s1.heap.objs.size + 1, s1.heap.objs.size] → FpOk X pins H1 b := fun b hb => by
      have e' : b = s1.heap.objs.size + 1 ∨ b = s1.heap.objs.size := by simpa using hb
      have hle : s1.heap.objs.size ≤ b := by
        rcases e' with z | z
        · rw [z]; exact Nat.le_add_right _ _
        · rw [z]; exact Nat.le_refl _
      exact I1.fpOk hle (I1.hok.fresh hle)
    rcases q with ⟨hq, q⟩ | ⟨hq, q⟩
    · obtain ⟨its, rv, p', hz⟩ := I1.list hq
      refine call_enumerate_list p'.isList fun h' he hit hsz hk => wpAny_pyIter_enum he ?_
      have I2 : Inv X pins σ H1 { s1 with heap := h' } := I1.kept (t' := s1.toks) hk
      exact ⟨s1.heap.objs.size + 1, [s1.heap.objs.size + 1, s1.heap.objs.size], _, _, H1, rfl, I2, turn_enum a (s1.heap.objs.size + 1) s1.heap.objs.size, ⟨⟨.none, he⟩, hit, Nat.succ_ne_self _⟩, fp, q⟩
    · obtain ⟨its, rv, p', hz⟩ := I1.tuple hq
      obtain ⟨o1, ho1, _⟩ := id p'
      have hla : a < s1.heap.objs.size := Heap.lt_size ho1
      refine call_enumT (show s1.heap.IsTuple a its.toArray from p') fun h' he hit hk => wpAny_pyIter_enum he ?_
      have I2 : Inv X pins σ H1 { s1 with heap := h' } := I1.kept (t' := s1.toks) hk
      exact ⟨s1.heap.objs.size + 1, [s1.heap.objs.size + 1, s1.heap.objs.size], _, _, H1, rfl, I2, turn_enumT a (s1.heap.objs.size + 1) s1.heap.objs.size (Nat.ne_of_lt hla) (Nat.ne_of_lt (Nat.lt_succ_of_lt hla)), ⟨⟨.none, he⟩, hit, Nat.succ_ne_self _⟩, fp, q⟩
variable [TL : TabList]
theorem src_enumT {K : PySem.W.Frag} {H : Hp} {a : Addr} {vs : List V} {xs : List D} (s1 : SqT K H a vs) (t1 : Reps K H vs xs) : SrcOk K H (IteT K a) (enumD 0 xs) := fun H' st => by
  have s1' := st.sqt s1
  have t1' := t1.st st
  refine ⟨fun i hi => ⟨vs, s1', by rw [enumD_len] at hi; rw [t1.len]; exact hi⟩, fun i d e => ?_⟩
  obtain ⟨x, e1, rfl⟩ := enumD_get e
  obtain ⟨v, f1, r1⟩ := t1'.get e1
  refine ⟨⟨vs, v, s1', f1⟩, fun u H'' ⟨T, x', h1, h2, h3, h4⟩ => ?_⟩
  subst h1 h3
  have z1 := h4 vs s1'
  rw [f1] at z1; cases z1
  refine ⟨?_, fun M rm => ⟨rm.lay h2, .new h2⟩⟩
  have := pair_new h2 (.int ((i : Nat) : Int)) r1
  simpa using this
section
variable {X : Cx} {tg e a b c elt iter : Expr} {ifs : List Expr} {es : List Expr} {w wa wb we : WE} {wt : WT} {ws : WA} {wi : WI} {s1 s2 : WS} {st : Stmt} {sts body : List Stmt} {pos p tpos pos' spos py : Pos}
@[reducible] def kEnum (k : List D → Mm → Prop) : List D → Mm → Prop := fun ds M => match ds with
  | [.tup l] => k (enumD 0 l) M
  | [.lst l] => k (enumD 0 l) M
  | _ => False
@[reducible] def wEnum (ws : WA) : WI := fun sd M k kx => ws sd M (kEnum k) kx
theorem i_enum {elts : List Expr} {kk : Nat} (hg : Gl X "enumerate") (hm : X.mg "enumerate" = none) (ha : SA X [a] ws)
    (hs : starEach [a] X.env = [(false, eval a X.env)] := by rfl) : SI X (.Tuple elts kk tpos) (.Call (.Name "enumerate" p) [a] [] pos) (wEnum ws) := fun Wx tk =>
  PI.imp (pi_enumA hg hm (ha Wx tk) hs) fun σ H R q => by
    obtain ⟨sd, M, k, kx, rs, rm, h, p, px⟩ := q
    refine ⟨sd, M, _, kx, rs, rm, h, fun vs H1 ds M1 r1 rs1 rm1 s1 h1 => ?_, px⟩
    match ds, r1, h1 with
    | [.tup l], r1, h1 =>
      cases r1 with
      | cons rv rr => cases rr; cases rv with
        | tup q1 t1 => exact ⟨_, _, rfl, .inr ⟨q1, p _ H1 _ M1 (src_enumT q1 t1) rs1 rm1 s1 h1⟩⟩
    | [.lst l], r1, h1 =>
      cases r1 with
      | cons rv rr => cases rr; cases rv with
        | lst q1 t1 => exact ⟨_, _, rfl, .inl ⟨q1.sq, p _ H1 _ M1 (src_enum q1 t1) rs1 rm1 s1 h1⟩⟩
/-! ### three at once -/
def on3 {α : Type} (ds : List α) (f : α → α → α → Prop) : Prop := match ds with
  | [a, b, c] => f a b c
  | _ => False
@[reducible] def kPar3 (i j l : Nat) (k : SD → Mm → Prop) (sd : SD) : List D → Mm → Prop := fun ds M => match ds with
  | [x, y, z] => k (setD (setD (setD sd i x) j y) l z) M
  | _ => False
@[reducible] def wPar3 (i j l : Nat) (ws : WA) : WS := fun ED sd M => ws sd M (kPar3 i j l ED.nx sd) (exAt ED sd)
theorem s_par3 {i j l : Nat} {x y z : Str} {px py pz pt : Pos} {kt k2 pt2} (hc : X.calm = true) (hN : X.N.Nodup) (hi : X.N[i]? = some x) (hj : X.N[j]? = some y) (hl : X.N[l]? = some z) (hij : i ≠ j) (hil : i ≠ l) (hjl : j ≠ l)
    (hx : X.env.scope.names.lookup x = some .local) (hy : X.env.scope.names.lookup y = some .local) (hz : X.env.scope.names.lookup z = some .local) (ha : SA X [a, b, c] ws)
    (hw : swappedStores [.Tuple [.Name x px, .Name y py, .Name z pz] kt pt] (.Tuple [a, b, c] k2 pt2) X.env = pure (some [x, y, z]))
    (hs : swapsWithSole [.Tuple [.Name x px, .Name y py, .Name z pz] kt pt] (.Tuple [a, b, c] k2 pt2) pos.line X.env = pure false := by rfl) :
    SS X (.Assign [.Tuple [.Name x px, .Name y py, .Name z pz] kt pt] (.Tuple [a, b, c] k2 pt2) pos) (wPar3 i j l ws) := fun Wx tk => PS.imp (ps_par3 hc hN hi hj hl hij hil hjl hx hy hz (ha Wx tk) hw hs) fun E σ H h => by
  obtain ⟨ED, sd, M, rs, rm, h, r⟩ := h
  refine ⟨sd, M, _, _, rs, rm, h, fun vs H' ds M' a b c k q => ?_, r.ex.at⟩
  match ds, a, q with
  | [x, y, z], .cons rx (.cons ry (.cons rz .nil)), q => exact ⟨_, _, _, rfl, r.nx _ H' _ M' (by rw [setD_set, setD_set, setD_set]; exact ((b.set rx).set ry).set rz) c k q⟩
/-! ### dicts with int or text keys -/
def dkey : D → Option Key
  | .int i => some (.inl i)
  | .str x => some (.inr x)
  | _ => none
theorem dkey_rep {K : PySem.W.Frag} {H : Hp} {y : V} {d : D} {k : Key} (r : Rep K H y d) (e : dkey d = some k) : y = kV k := by
  cases r <;> simp [dkey] at e <;> subst e <;> rfl
def getK {κ : Type} [DecidableEq κ] (kvs : List (κ × D)) (k : κ) : Option D := (kvs.find? fun kv => decide (kv.1 = k)).map (·.2)
def setK {κ : Type} [DecidableEq κ] (kvs : List (κ × D)) (k : κ) (v : D) : List (κ × D) :=
  if (kvs.any fun kv => decide (kv.1 = k)) = true then kvs.map (fun kv => if kv.1 = k then (kv.1, v) else kv) else kvs ++ [(k, v)]
theorem repKV_cons {K : PySem.W.Frag} {H : Hp} {κ : Type} {w : κ × V} {ws : List (κ × V)} {kv : κ × D} {kvs : List (κ × D)} (h : RepKV K H (w :: ws) (kv :: kvs)) : w.1 = kv.1 ∧ Rep K H w.2 kv.2 ∧ RepKV K H ws kvs := by
  obtain ⟨h1, h2⟩ := h
  simp only [List.map_cons, List.cons.injEq] at h1 h2
  cases h2 with
  | cons r rr => exact ⟨h1.1, r, h1.2, rr⟩
theorem repKV_len {K : PySem.W.Frag} {H : Hp} {κ : Type} {ws : List (κ × V)} {kvs : List (κ × D)} (h : RepKV K H ws kvs) : ws.length = kvs.length := by
  have := congrArg List.length h.1
  simpa using this
theorem repKV_get {K : PySem.W.Frag} {H : Hp} {κ : Type} [DecidableEq κ] {k : κ} : ∀ {ws : List (κ × V)} {kvs : List (κ × D)}, RepKV K H ws kvs → (valV ws k = none ∧ getK kvs k = none) ∨ ∃ v d, valV ws k = some v ∧ getK kvs k = some d ∧ Rep K H v d
  | [], [], _ => .inl ⟨rfl, rfl⟩
  | [], _ :: _, h => by have := repKV_len h; simp at this
  | _ :: _, [], h => by have := repKV_len h; simp at this
  | w :: ws, kv :: kvs, h => by
    obtain ⟨e, r, t⟩ := repKV_cons h
    by_cases hk : kv.1 = k
    · exact .inr ⟨w.2, kv.2, valV_pos (e.trans hk), by simp [getK, List.find?_cons, hk], r⟩
    · rcases repKV_get (k := k) t with ⟨a, b⟩ | ⟨v, d, a, b, c⟩
      · exact .inl ⟨by rw [valV_neg (by rw [e]; exact hk)]; exact a, by simpa [getK, List.find?_cons, hk] using b⟩
      · exact .inr ⟨v, d, by rw [valV_neg (by rw [e]; exact hk)]; exact a, by simpa [getK, List.find?_cons, hk] using b, c⟩
theorem repKV_isSome {K : PySem.W.Frag} {H : Hp} {κ : Type} [DecidableEq κ] {k : κ} {ws : List (κ × V)} {kvs : List (κ × D)} (h : RepKV K H ws kvs) : (valV ws k).isSome = (getK kvs k).isSome := by
  rcases repKV_get (k := k) h with ⟨a, b⟩ | ⟨v, d, a, b, _⟩ <;> rw [a, b] <;> rfl
theorem repKV_any {K : PySem.W.Frag} {H : Hp} {κ : Type} [DecidableEq κ] {k : κ} : ∀ {ws : List (κ × V)} {kvs : List (κ × D)}, RepKV K H ws kvs → (ws.any fun kv => decide (kv.1 = k)) = kvs.any fun kv => decide (kv.1 = k)
  | [], [], _ => rfl
  | [], _ :: _, h => by have := repKV_len h; simp at this
  | _ :: _, [], h => by have := repKV_len h; simp at this
  | w :: ws, kv :: kvs, h => by
    obtain ⟨e, r, t⟩ := repKV_cons h
    rw [List.any_cons, List.any_cons, repKV_any t, e]
theorem repKV_mk {K : PySem.W.Frag} {H : Hp} {κ : Type} {w : κ × V} {ws : List (κ × V)} {kv : κ × D} {kvs : List (κ × D)} (e : w.1 = kv.1) (r : Rep K H w.2 kv.2) (h : RepKV K H ws kvs) : RepKV K H (w :: ws) (kv :: kvs) :=
  ⟨by simp only [List.map_cons, e, h.1], by simp only [List.map_cons]; exact .cons r h.2⟩
theorem repKV_map {K : PySem.W.Frag} {H : Hp} {κ : Type} [DecidableEq κ] {k : κ} {v : V} {d : D} (r : Rep K H v d) : ∀ {ws : List (κ × V)} {kvs : List (κ × D)}, RepKV K H ws kvs → RepKV K H (ws.map fun kv => if kv.1 = k then (kv.1, v) else kv) (kvs.map fun kv => if kv.1 = k then (kv.1, d) else kv)
  | [], [], h => h
  | [], _ :: _, h => by have := repKV_len h; simp at this
  | _ :: _, [], h => by have := repKV_len h; simp at this
  | w :: ws, kv :: kvs, h => by
    obtain ⟨e, r1, t⟩ := repKV_cons h
    rw [List.map_cons, List.map_cons]
    by_cases hk : kv.1 = k
    · rw [if_pos hk, if_pos (e.trans hk)]
      exact repKV_mk e r (repKV_map r t)
    · rw [if_neg hk, if_neg (by rw [e]; exact hk)]
      exact repKV_mk e r1 (repKV_map r t)
theorem repKV_set {K : PySem.W.Frag} {H : Hp} {κ : Type} [DecidableEq κ] {k : κ} {v : V} {d : D} {ws : List (κ × V)} {kvs : List (κ × D)} (h : RepKV K H ws kvs) (r : Rep K H v d) : RepKV K H (putK ws k v) (setK kvs k d) := by
  unfold putK setK
  rw [repKV_any h]
  by_cases hk : (kvs.any fun kv => decide (kv.1 = k)) = true
  · rw [if_pos hk, if_pos hk]
    exact repKV_map r h
  · rw [if_neg hk, if_neg hk]
    exact ⟨by simp only [List.map_append, h.1, List.map_cons, List.map_nil], by simp only [List.map_append, List.map_cons, List.map_nil]; exact h.2.app (.cons r .nil)⟩
@[reducible] def wDnew : WE := fun _ M k _ => ∀ p, M p = none → k (.ref p) (put M p (.dK []))
theorem e_dnew : SE X (.Dict [] [] pos) wDnew := fun Wx tk => PE.imp pe_dnewK fun σ H Q h => by
  obtain ⟨sd, M, k, kx, rs, rm, h, po, px⟩ := h
  intro p hp
  exact po _ _ _ _ (.ref p) (rs.st (.new hp)) (rm.put (o := .dK []) (.new hp) (fun y z => by rw [hp] at z; cases z) ⟨[], upd_same, rfl, .nil⟩) (.newT hp) (h p (rm.free hp))
@[reducible] def opInD : OPD := fun x y M k => match y with
  | .ref a => ∃ key kvs, dkey x = some key ∧ M a = some (.dK kvs) ∧ k (.bl (getK kvs key).isSome) M
  | _ => False
@[reducible] def opNotInD : OPD := fun x y M k => match y with
  | .ref a => ∃ key kvs, dkey x = some key ∧ M a = some (.dK kvs) ∧ k (.bl (!(getK kvs key).isSome)) M
  | _ => False
theorem o_inD {n : Nat} (hr : Room n X.A) : OpD X (compareOp .In) opInD := by
  intro p s σ H x y v u Q I rx ry q
  obtain ⟨dx, dy, M, k, r1, r2, rm, h, po⟩ := q
  cases dy with
  | ref a =>
    obtain ⟨key, kvs, e, hM, hk⟩ := h
    obtain ⟨ws, ha, rv⟩ := rm a _ hM
    cases r2
    cases ry
    have e2 := dkey_rep r1 e
    subst e2
    exact d_in (by have := hr.units; omega) I (.k ha) rx fun s' I' => ⟨.bl _, H, I', rfl, po _ _ _ _ (.bl _) rm (.refl _ _) (by rw [repKV_isSome rv]; exact hk)⟩
  | _ => exact h.elim
theorem o_notInD {n : Nat} (hr : Room n X.A) : OpD X (compareOp .NotIn) opNotInD := by
  intro p s σ H x y v u Q I rx ry q
  obtain ⟨dx, dy, M, k, r1, r2, rm, h, po⟩ := q
  cases dy with
  | ref a =>
    obtain ⟨key, kvs, e, hM, hk⟩ := h
    obtain ⟨ws, ha, rv⟩ := rm a _ hM
    cases r2
    cases ry
    have e2 := dkey_rep r1 e
    subst e2
    exact d_notIn (by have := hr.units; omega) I (.k ha) rx fun s' I' => ⟨.bl _, H, I', rfl, po _ _ _ _ (.bl _) rm (.refl _ _) (by rw [repKV_isSome rv]; exact hk)⟩
  | _ => exact h.elim
/-- d[i] = v -/
@[reducible] def kPt3 (v x : D) (k : SD → Mm → Prop) (sd : SD) : KE := fun y M => match x with
  | .ref a => ∃ key kvs, dkey y = some key ∧ M a = some (.dK kvs) ∧ kvs.length ≤ 1000000 ∧ k sd (put M a (.dK (setK kvs key v)))
  | _ => False
@[reducible] def kPt2 (v : D) (wi : WE) (k : SD → Mm → Prop) (sd : SD) (kx : KX) : KE := fun x M => wi sd M (kPt3 v x k sd) kx
@[reducible] def kPt1 (wo wi : WE) (k : SD → Mm → Prop) (sd : SD) (kx : KX) : KE := fun v M => wo sd M (kPt2 v wi k sd kx) kx
@[reducible] def wPutD (wo wi wv : WE) : WS := fun ED sd M => wv sd M (kPt1 wo wi ED.nx sd (exAt ED sd)) (exAt ED sd)
theorem Stay.dk {H : Hp} {a : Addr} {ws ws' : List (Key × V)} (h : H a = some (.dK ws)) : Stay H (upd H a (.dK ws')) := .chg fun u e => by
  rw [h] at e
  cases e
  exact ⟨fun _ z => HO.noConfusion z, fun _ _ z => HO.noConfusion z, fun _ z => HO.noConfusion z, fun _ z => HO.noConfusion z⟩
theorem s_putD {n : Nat} {o i : Expr} {wo wi : WE} (hr : Room n X.A) (ho : SE X o wo) (hi : SE X i wi) (hv : SE X e we) (hs : swapsWith e (some (.Subscript o i pos')) pos.line X.env = pure false) :
    SS X (.Assign [.Subscript o i pos'] e pos) (wPutD wo wi we) := fun Wx tk => PS.imp (ps_dput (by have := hr.units; omega) (ho Wx tk) (hi Wx tk) (hv Wx tk) hs) fun E σ H h => by
  obtain ⟨ED, sd, M, rs, rm, h, r⟩ := h
  refine ⟨sd, M, _, _, rs, rm, h, fun v H1 d M1 r1 rs1 rm1 k1 h1 => ?_, r.ex.at⟩
  refine ⟨sd, M1, _, _, rs1, rm1, h1, fun x H2 d2 M2 r2 rs2 rm2 k2 h2 => ?_, (PostW.at r.ex).st k1⟩
  refine ⟨sd, M2, _, _, rs2, rm2, h2, fun y H3 d3 M3 r3 rs3 rm3 k3 h3 => ?_, (PostW.at r.ex).st (k1.trans k2)⟩
  cases d2 with
  | ref a =>
    obtain ⟨key, kvs, e, hM, hl, hk⟩ := h3
    obtain ⟨ws, ha, rv⟩ := rm3 a _ hM
    cases r2
    have e2 := dkey_rep r3 e
    subst e2
    have hlen : ws.length < sizeLine := by rw [repKV_len rv, sizeLine_eq]; omega
    have st : Stay H3 (upd H3 a (.dK (putK ws key v))) := .dk ha
    exact ⟨a, _, rfl, .k ha hlen, r.nx _ _ _ _ (rs3.st st) (rm3.put (o := .dK (setK kvs key d)) st (fun y z => by rw [ha] at z; cases z) ⟨_, upd_same, (repKV_set rv ((r1.kp k2).kp k3)).st st⟩) (((k1.trans k2).trans k3).trans (.set st hM)) hk⟩
  | _ => exact h3.elim
end
end DL
namespace DL
open PySem PySem.Spec PyProof.Rows L2
variable [TL : TabList]
section
variable {X : Cx} {tg e a b c elt iter tg1 iter1 : Expr} {ifs ifs1 : List Expr} {es : List Expr} {w wa wb we : WE} {wt wt1 : WT} {ws : WA} {wi wi1 : WI} {s1 s2 : WS} {st : Stmt} {sts body : List Stmt} {pos p tpos pos' spos py : Pos} {scope : Scope} {own : List (Str × Nat)} {t t1 : Tg} {vs1 : List Nat}
/-! ### try, several clauses -/
def hdS (K : PySem.W.Frag) (ED : EndsD) : List (Value × WS) → Value → Fs → SD → Mm → Prop
  | [] => ED.ex
  | (c, wh) :: r => fun cls fs sd M => ∃ b, PySem.W.exmOne K cls c = some b ∧ sel b (wh { ED with ex := fun _ _ _ _ => False } sd M) (hdS K ED r cls fs sd M)
theorem hdS_cons (K : PySem.W.Frag) (ED : EndsD) (c : Value) (wh : WS) (r : List (Value × WS)) (cls : Value) (fs : Fs) (sd : SD) (M : Mm) : hdS K ED ((c, wh) :: r) cls fs sd M = ∃ b, PySem.W.exmOne K cls c = some b ∧ sel b (wh { ED with ex := fun _ _ _ _ => False } sd M) (hdS K ED r cls fs sd M) := rfl
@[reducible] def wTry (K : PySem.W.Frag) (wb : WS) (l : List (Value × WS)) : WS := fun ED sd M => wb { ED with ex := hdS K ED l } sd M
inductive HdD (X : Cx) : List ExceptHandler → List (Value × WS) → Prop
  | nil : HdD X [] []
  | cons {x : Str} {c : Value} {wh : WS} {b₀ : Stmt} {suite : List Stmt} {np pos' : Pos} {hds : List ExceptHandler} {l : List (Value × WS)} (hc : Names X x c)
      (hsu : ∀ (a : Addr) (oe : Obj) (pn : List (Addr × Obj)), SSs (X.suite a ((a, oe) :: pn)) (b₀ :: suite) wh) (r : HdD X hds l) :
      HdD X (.ExceptHandler (some (.Name x np)) none (b₀ :: suite) pos' :: hds) ((c, wh) :: l)
def hdTS (K : PySem.W.Frag) (l : List (Value × WS)) : List (Value × (Addr → Value → Option Addr → TS)) := l.map fun p => (p.1, fun _ _ _ => toTS K WF p.2)
theorem hdD_ok : ∀ {hds : List ExceptHandler} {l : List (Value × WS)}, HdD X hds l → HdsOk X hds (hdTS X.K l)
  | _, _, .nil => .nil
  | _, _, .cons hc hsu r => .cons hc (fun a oe cls d pn _ _ => hsu a oe pn WF takes0) (hdD_ok r)
theorem hdS_W {H : Hp} {M : Mm} {ED : EndsD} {D : Ends} {Wx : WX} (r : EndsR X.K H M ED D Wx) : ∀ l : List (Value × WS), PostW X.K H M (hdS X.K ED l) (wMany X.K Wx D (hdTS X.K l))
  | [] => r.ex
  | (c, wh) :: l => fun cls d σ' H' fs sd' M' rx rs rm k ⟨b, e, h⟩ => by
    refine ⟨b, e, fun hb a _ => ?_, fun hb => ?_⟩
    · subst hb
      exact ⟨_, sd', M', rs, rm, h.of, ⟨r.nx.st k, r.rt.st k, r.bk.st k, r.ct.st k, fun _ _ _ _ _ _ _ _ _ _ _ z => z.elim⟩⟩
    · subst hb
      exact hdS_W r l cls d σ' H' fs sd' M' rx rs rm k h.of
theorem s_try {wb : WS} {l : List (Value × WS)} {h₀ : ExceptHandler} {hds : List ExceptHandler} (hs : X.stack = X.env :: X.outer) (hf : X.env.frame = some X.env.locals) (hb : ∀ (pn : List (Addr × Obj)) (xe : Value → Shared → Prop), PassesOwn (model X.prog X.w) X.A X.env xe → SSs (X.tr pn xe) body wb) (hh : HdD X (h₀ :: hds) l) :
    SS X (.Try body (h₀ :: hds) [] [] pos) (wTry X.K wb l) := fun Wx tk =>
  PS.imp (ps_try_many (tb := fun W => toTS X.K W wb) hs hf tk (fun W pn xe tk2 po => hb pn xe po W tk2) (hdD_ok hh)) fun E σ H h => by
    obtain ⟨ED, sd, M, rs, rm, h, r⟩ := h
    exact ⟨_, sd, M, rs, rm, h, ⟨r.nx, r.rt, r.bk, r.ct, hdS_W r l⟩⟩
/-! ### a comprehension with two clauses -/
/-- the inner loop; out: what follows it -/
def wLcI (t1 : Tg) (tt1 : WT) (te : WE) (sd : SD) (out : List D → Mm → Prop) : List D → List D → Mm → Prop
  | [], acc, M => out acc M
  | y :: ys, acc, M => bindTg t1 y sd fun sd' => tt1 sd' M (fun b M2 => sel b (te sd' M2 (fun d M3 => acc.length ≤ 1000000 ∧ wLcI t1 tt1 te sd out ys (acc ++ [d]) M3) kxF) (wLcI t1 tt1 te sd out ys acc M2)) kxF
theorem wLcI_nil (t1 : Tg) (tt1 : WT) (te : WE) (sd : SD) (out : List D → Mm → Prop) (acc : List D) (M : Mm) : wLcI t1 tt1 te sd out [] acc M = out acc M := rfl
theorem wLcI_cons (t1 : Tg) (tt1 : WT) (te : WE) (sd : SD) (out : List D → Mm → Prop) (y : D) (ys acc : List D) (M : Mm) : wLcI t1 tt1 te sd out (y :: ys) acc M = bindTg t1 y sd fun sd' => tt1 sd' M (fun b M2 => sel b (te sd' M2 (fun d M3 => acc.length ≤ 1000000 ∧ wLcI t1 tt1 te sd out ys (acc ++ [d]) M3) kxF) (wLcI t1 tt1 te sd out ys acc M2)) kxF := rfl
def wLcL2 (t : Tg) (tt : WT) (wi1 : WI) (t1 : Tg) (tt1 : WT) (te : WE) (vs1 : List Nat) (sd : SD) (k : List D → Mm → Prop) : List D → List D → Mm → Prop
  | [], acc, M => k acc M
  | x :: xs, acc, M => bindTg t x sd fun sd' => tt sd' M (fun b M2 => sel b (wi1 sd' M2 (fun ys M3 => wLcI t1 tt1 te (wipeD sd' vs1) (wLcL2 t tt wi1 t1 tt1 te vs1 sd k xs) ys acc M3) kxF) (wLcL2 t tt wi1 t1 tt1 te vs1 sd k xs acc M2)) kxF
theorem wLcL2_nil (t : Tg) (tt : WT) (wi1 : WI) (t1 : Tg) (tt1 : WT) (te : WE) (vs1 : List Nat) (sd : SD) (k : List D → Mm → Prop) (acc : List D) (M : Mm) : wLcL2 t tt wi1 t1 tt1 te vs1 sd k [] acc M = k acc M := rfl
theorem wLcL2_cons (t : Tg) (tt : WT) (wi1 : WI) (t1 : Tg) (tt1 : WT) (te : WE) (vs1 : List Nat) (sd : SD) (k : List D → Mm → Prop) (x : D) (xs acc : List D) (M : Mm) : wLcL2 t tt wi1 t1 tt1 te vs1 sd k (x :: xs) acc M = bindTg t x sd fun sd' => tt sd' M (fun b M2 => sel b (wi1 sd' M2 (fun ys M3 => wLcI t1 tt1 te (wipeD sd' vs1) (wLcL2 t tt wi1 t1 tt1 te vs1 sd k xs) ys acc M3) kxF) (wLcL2 t tt wi1 t1 tt1 te vs1 sd k xs acc M2)) kxF := rfl
@[reducible] def wLcG2 (wi : WI) (t : Tg) (tt : WT) (wi1 : WI) (t1 : Tg) (tt1 : WT) (te : WE) (vs vs1 : List Nat) (k : SD → List D → Mm → Prop) : SD → Mm → KX → Prop := fun sd M kx => wi sd M (fun xs M' => wLcL2 t tt wi1 t1 tt1 te vs1 (wipeD sd vs) (k sd) xs [] M') kx
theorem lc2_read {Wx : WX} {σ : St} {H : Hp} {Q : VK} {sd : SD} {M : Mm} {k : SD → List D → Mm → Prop} {kx : KX} (hv : ∀ i ∈ (match t with | .one i => [i] | .many is => is), i ∈ own.map (·.2)) (hv1 : ∀ i ∈ (match t1 with | .one i => [i] | .many is => is), i ∈ vs1)
    (rs : RelS X.K H σ sd) (rm : RelM X.K H M) (h : wLcG2 wi t wt wi1 t1 wt1 we (own.map (·.2)) vs1 k sd M kx) (px : PostX X.K H M σ sd kx Wx)
    (hq : ∀ p H' acc vs M', Fre H p → H' p = some (.lst vs) → Reps X.K H' vs acc → RelS X.K H' σ sd → RelM X.K H' M' → M' p = none → Kp M H M' H' → k sd acc M' → Q (.ref p) H') :
    tLc2 (toTI X.K Wx wi) (gOf X.K t) (toTT X.K WF wt) (toTI X.K WF wi1) (gOf X.K t1) (toTT X.K WF wt1) (toTE X.K WF we) (own.map (·.2)) vs1 σ H Q := by
  refine ⟨sd, M, _, kx, rs, rm, h, fun J H1 xs M1 src rs1 rm1 k1 q => fun A hA => ?_, px⟩
  have sA : Stay H1 (upd H1 A (.lst [])) := .new hA
  have hHA : Fre H A := fun o e => by
    by_cases w : ∀ ps, o ≠ .tbl ps
    · obtain ⟨o1, e1, _⟩ := k1.live A o e w
      rw [hA] at e1; cases e1
    · exact Classical.not_forall_not.mp w
  have sz : (sizeLine : Nat) = 16777216 := sizeLine_eq
  refine ⟨fun i m H2 => ∃ acc vs M2, H2 A = some (.lst vs) ∧ Reps X.K H2 vs acc ∧ RelM X.K H2 M2 ∧ M2 A = none ∧ Kp M1 H1 M2 H2 ∧ m = xs.length - i ∧ i ≤ xs.length ∧ wLcL2 t wt wi1 t1 wt1 we vs1 (wipeD sd (own.map (·.2))) (k sd) (xs.drop i) acc M2,
    ⟨xs.length, [], [], M1, upd_same, .nil, rm1.lay hA, rm1.free hA, .new hA, by omega, Nat.zero_le _, q⟩, ?_⟩
  rintro i m H2 ⟨acc, vs, M2, hD, rv, rm2, nD, k2, rfl, hi, q2⟩
  obtain ⟨stop, go⟩ := src H2 k2.stay
  have rs2 := rs1.kp k2
  by_cases hlt : i < xs.length
  · obtain ⟨hgo, hy⟩ := go i xs[i] (by simp [hlt])
    rw [List.drop_eq_getElem_cons hlt, wLcL2_cons] at q2
    refine .inr ⟨hgo, fun H3 => ∃ acc vs M3, H3 A = some (.lst vs) ∧ Reps X.K H3 vs acc ∧ RelM X.K H3 M3 ∧ M3 A = none ∧ Kp M1 H1 M3 H3 ∧ wLcL2 t wt wi1 t1 wt1 we vs1 (wipeD sd (own.map (·.2))) (k sd) (xs.drop (i + 1)) acc M3,
      fun H3 ⟨acc, vs, M3, a, b, c, d, e, g⟩ => ⟨xs.length - (i + 1), by omega, acc, vs, M3, a, b, c, d, e, rfl, hlt, g⟩, fun x H3 y => ?_⟩
    obtain ⟨rx, hM⟩ := hy x H3 y
    obtain ⟨rm3, k3⟩ := hM M2 rm2
    obtain ⟨hD3, nD3⟩ := k3.keep A _ hD nD (fun _ z => HO.noConfusion z)
    refine gOf_ok q2 ((rs2.kp k3).wipe (own.map (·.2))) rx fun σ4 sd4 rs4 hk hw => ⟨?_, ?_⟩
    · have e1 := hw (own.map (·.2)) hv
      rw [e1]
      exact wipe_wipe _ _
    · refine ⟨sd4, M2, _, kxF, rs4, rm3, hk, fun bb H5 M5 rs5 rm5 k5 h5 => ?_, fun _ _ _ _ _ _ _ _ _ z => z⟩
      obtain ⟨hD5, nD5⟩ := k5.keep A _ hD3 nD3 (fun _ z => HO.noConfusion z)
      have k25 := (k2.trans k3).trans k5
      cases bb with
      | false => exact ⟨acc, vs, M5, hD5, (rv.kp k3).kp k5, rm5, nD5, k25, h5.of⟩
      | true =>
        refine ⟨sd4, M5, _, kxF, rs5, rm5, h5.of, fun J1 H6 ys M6 src1 rs6 rm6 k6 q6 => ?_, fun _ _ _ _ _ _ _ _ _ z => z⟩
        obtain ⟨hD6, nD6⟩ := k6.keep A _ hD5 nD5 (fun _ z => HO.noConfusion z)
        refine ⟨fun j m1 H7 => ∃ acc vs M7, H7 A = some (.lst vs) ∧ Reps X.K H7 vs acc ∧ RelM X.K H7 M7 ∧ M7 A = none ∧ Kp M1 H1 M7 H7 ∧ Stay H6 H7 ∧ m1 = ys.length - j ∧ j ≤ ys.length ∧ wLcI t1 wt1 we (wipeD sd4 vs1) (wLcL2 t wt wi1 t1 wt1 we vs1 (wipeD sd (own.map (·.2))) (k sd) (xs.drop (i + 1))) (ys.drop j) acc M7,
          ⟨ys.length, acc, vs, M6, hD6, ((rv.kp k3).kp k5).kp k6, rm6, nD6, k25.trans k6, .refl _, by omega, Nat.zero_le _, q6⟩, ?_⟩
        rintro j m1 H7 ⟨acc, vs, M7, hD7, rv7, rm7, nD7, k27, st7, rfl, hj, q7⟩
        obtain ⟨stop1, go1⟩ := src1 H7 st7
        by_cases hlt1 : j < ys.length
        · obtain ⟨hgo1, hy1⟩ := go1 j ys[j] (by simp [hlt1])
          rw [List.drop_eq_getElem_cons hlt1, wLcI_cons] at q7
          refine .inr ⟨hgo1, fun H8 => ∃ acc vs M8, H8 A = some (.lst vs) ∧ Reps X.K H8 vs acc ∧ RelM X.K H8 M8 ∧ M8 A = none ∧ Kp M1 H1 M8 H8 ∧ Stay H6 H8 ∧ wLcI t1 wt1 we (wipeD sd4 vs1) (wLcL2 t wt wi1 t1 wt1 we vs1 (wipeD sd (own.map (·.2))) (k sd) (xs.drop (i + 1))) (ys.drop (j + 1)) acc M8,
            fun H8 ⟨acc, vs, M8, a, b, c, d, e, f, g⟩ => ⟨ys.length - (j + 1), by omega, acc, vs, M8, a, b, c, d, e, f, rfl, hlt1, g⟩, fun x8 H8 y8 => ?_⟩
          obtain ⟨rx8, hM8⟩ := hy1 x8 H8 y8
          obtain ⟨rm8, k8⟩ := hM8 M7 rm7
          obtain ⟨hD8, nD8⟩ := k8.keep A _ hD7 nD7 (fun _ z => HO.noConfusion z)
          refine gOf_ok q7 (((rs6.st st7).kp k8).wipe vs1) rx8 fun σ9 sd9 rs9 hk9 hw9 => ⟨?_, ?_⟩
          · have e1 := hw9 vs1 hv1
            rw [e1]
            exact wipe_wipe _ _
          · refine ⟨sd9, M7, _, kxF, rs9, rm8, hk9, fun bb H10 M10 rs10 rm10 k10 h10 => ?_, fun _ _ _ _ _ _ _ _ _ z => z⟩
            obtain ⟨hD10, nD10⟩ := k10.keep A _ hD8 nD8 (fun _ z => HO.noConfusion z)
            have k610 := (k27.trans k8).trans k10
            have st10 := (st7.trans k8.stay).trans k10.stay
            cases bb with
            | false => exact ⟨acc, vs, M10, hD10, (rv7.kp k8).kp k10, rm10, nD10, k610, st10, h10.of⟩
            | true =>
              refine ⟨sd9, M10, _, kxF, rs10, rm10, h10.of, fun v H11 d M11 r11 rs11 rm11 k11 h11 => ?_, fun _ _ _ _ _ _ _ _ _ z => z⟩
              obtain ⟨hlen, h11⟩ := h11
              obtain ⟨hD11, nD11⟩ := k11.keep A _ hD10 nD10 (fun _ z => HO.noConfusion z)
              have rv11 := ((rv7.kp k8).kp k10).kp k11
              refine ⟨vs, hD11, by rw [rv11.len]; omega, acc ++ [d], vs ++ [v], M11, upd_same, (rv11.app (.cons r11 .nil)).st (.lst hD11), ?_, nD11, ?_, (st10.trans k11.stay).trans (.lst hD11), h11⟩
              · exact rm11.hid nD11 hD11
              · have k611 := k610.trans k11
                refine ⟨k611.stay.trans (.lst hD11), fun b o e n w => ?_, fun c x e w => let ⟨o1, e1, w1⟩ := k611.live c x e w; live_upd (.inr fun _ z => HO.noConfusion z) c o1 e1 w1⟩
                obtain ⟨e1, n1⟩ := k611.keep b o e n w
                exact ⟨by rw [upd_ne (ne_of_none e hA)]; exact e1, n1⟩
        · have e : j = ys.length := by omega
          subst e
          rw [List.drop_length, wLcI_nil] at q7
          exact .inl ⟨stop1 _ (Nat.le_refl _), acc, vs, M7, hD7, rv7, rm7, nD7, k27, q7⟩
  · have e : i = xs.length := by omega
    subst e
    rw [List.drop_length, wLcL2_nil] at q2
    exact .inl ⟨stop _ (Nat.le_refl _), hq A H2 acc vs M2 hHA hD rv rs2 rm2 nD (k1.trans k2) q2⟩
@[reducible] def wLc2 (wi : WI) (t : Tg) (tt : WT) (wi1 : WI) (t1 : Tg) (tt1 : WT) (te : WE) (vs vs1 : List Nat) : WE := fun sd M k kx => wLcG2 wi t tt wi1 t1 tt1 te vs vs1 (kLcF k) sd M kx
theorem lcF2_imp {Wx : WX} {σ : St} {H : Hp} {Q : VK} (hv : ∀ i ∈ (match t with | .one i => [i] | .many is => is), i ∈ own.map (·.2)) (hv1 : ∀ i ∈ (match t1 with | .one i => [i] | .many is => is), i ∈ vs1) (h : toTE X.K Wx (wLc2 wi t wt wi1 t1 wt1 we (own.map (·.2)) vs1) σ H Q) :
    tLc2 (toTI X.K Wx wi) (gOf X.K t) (toTT X.K WF wt) (toTI X.K WF wi1) (gOf X.K t1) (toTT X.K WF wt1) (toTE X.K WF we) (own.map (·.2)) vs1 σ H (Gh X Q) := by
  obtain ⟨sd, M, k, kx, rs, rm, h, po, px⟩ := h
  refine lc2_read (X := X) (k := kLcF k) hv hv1 rs rm h px fun p H' acc vs M' n hp rv rs' rm' nM kp hk => ?_
  intro pins σ2 s' I
  obtain ⟨o, I2⟩ := freeze I hp
  have st : Stay H' (upd H' p (.frz o (.lst vs))) := .lst hp
  refine ⟨_, I2, po _ _ _ M' (.lst (.inl ⟨o, upd_same⟩) (rv.st st)) (rs'.st st) ?_ ⟨kp.stay.trans st, fun b u e m w => ?_, fun c x e w => let ⟨o1, e1, w1⟩ := kp.live c x e w; live_upd (.inr fun _ z => HO.noConfusion z) c o1 e1 w1⟩ hk⟩
  · exact rm'.hid nM hp
  · obtain ⟨e1, n1⟩ := kp.keep b u e m w
    exact ⟨by rw [upd_ne (fre_ne n e w)]; exact e1, n1⟩
theorem e_lc20 (hc : X.calm = true) (hN : X.N.Nodup) (hi : SI X tg iter wi) (ok : BlkOk X.N X.env.scope scope own) (hvo : ∀ i ∈ vs1, i ∈ own.map (·.2)) (hg : Blk X scope fun Y => PG Y tg (gOf X.K t)) (ht : Blk X scope fun Y => ST' Y ifs wt)
    (hi1 : Blk X scope fun Y => SI Y tg1 iter1 wi1) (hg1 : Blk X scope fun Y => PG Y tg1 (gOf X.K t1)) (ht1 : Blk X scope fun Y => ST' Y ifs1 wt1) (he : Blk X scope fun Y => SE Y elt we)
    (hv : ∀ i ∈ (match t with | .one i => [i] | .many is => is), i ∈ own.map (·.2)) (hv1 : ∀ i ∈ (match t1 with | .one i => [i] | .many is => is), i ∈ vs1) (hs : ∀ x, foldedSetIterable iter X.env x = pure x := by intro _; rfl) (hs1 : ∀ env x, foldedSetIterable iter1 env x = pure x := by intro _ _; rfl) :
    SE X (.ListComp elt [⟨tg, iter, ifs, 0⟩, ⟨tg1, iter1, ifs1, 0⟩] scope pos) (wLc2 wi t wt wi1 t1 wt1 we (own.map (·.2)) vs1) := fun Wx tk =>
  PE.imp (PE.gh (pe_lc2 (vs1 := vs1) hc hN (hi Wx tk) ok hvo hg (fun s H C cl fp => ht s H C cl fp WF takes0) (fun s H C cl fp => hi1 s H C cl fp WF takes0) hg1 (fun s H C cl fp => ht1 s H C cl fp WF takes0) (fun s H C cl fp => he s H C cl fp WF takes0) hs hs1)) fun σ H Q h => lcF2_imp hv hv1 h
theorem e_lc2 {vs : List Nat} (hc : X.calm = true) (hN : X.N.Nodup) (hi : SI X tg iter wi) (ok : BlkOk X.N X.env.scope scope own) (hvo : ∀ i ∈ vs1, i ∈ own.map (·.2)) (hg : Blk X scope fun Y => PG Y tg (gOf X.K t)) (ht : Blk X scope fun Y => ST' Y ifs wt)
    (hi1 : Blk X scope fun Y => SI Y tg1 iter1 wi1) (hg1 : Blk X scope fun Y => PG Y tg1 (gOf X.K t1)) (ht1 : Blk X scope fun Y => ST' Y ifs1 wt1) (he : Blk X scope fun Y => SE Y elt we)
    (hv : ∀ i ∈ (match t with | .one i => [i] | .many is => is), i ∈ own.map (·.2)) (hv1 : ∀ i ∈ (match t1 with | .one i => [i] | .many is => is), i ∈ vs1) (hs : ∀ x, foldedSetIterable iter X.env x = pure x := by intro _; rfl) (hs1 : ∀ env x, foldedSetIterable iter1 env x = pure x := by intro _ _; rfl) (hvs : own.map (·.2) = vs := by rfl) :
    SE X (.ListComp elt [⟨tg, iter, ifs, 0⟩, ⟨tg1, iter1, ifs1, 0⟩] scope pos) (wLc2 wi t wt wi1 t1 wt1 we vs vs1) := by
  subst hvs
  exact e_lc20 hc hN hi ok hvo hg ht hi1 hg1 ht1 he hv hv1 hs hs1
end
end DL
namespace DL
open PySem PySem.Spec PyProof.Rows L2
/-! ### sorted of a list of pairs of ints -/
def rSortL (K : PySem.W.Frag) : List V → Hp → VK → Prop := fun vs H Q => ∃ (a : Addr) (L0 : List (Addr × (Int × Int))), vs = [V.ref a] ∧ SqL K H a (L0.map fun p => V.ref p.1) ∧ (∀ p ∈ L0, SqT K H p.1 [.int p.2.1, .int p.2.2]) ∧
  ∀ (L : List (Addr × (Int × Int))) (p : Addr), L.Perm L0 → L.Pairwise (fun x y => SrtO.lexB y.2 x.2 = false) → H p = none → Q (.ref p) (upd H p (.lst (L.map fun p => V.ref p.1)))
def keyL (L0 : List (Addr × (Int × Int))) (v : V) : Int × Int := ((L0.find? fun p => decide (V.ref p.1 = v)).map (·.2)).getD (0, 0)
theorem keyL_of {L0 : List (Addr × (Int × Int))} (un : ∀ p ∈ L0, ∀ q ∈ L0, p.1 = q.1 → p.2 = q.2) {p : Addr × (Int × Int)} (hp : p ∈ L0) : keyL L0 (.ref p.1) = p.2 := by
  unfold keyL
  cases h : L0.find? fun q => decide (V.ref q.1 = V.ref p.1) with
  | none =>
    have := List.find?_eq_none.mp h p hp
    simp at this
  | some q =>
    have h1 := List.mem_of_find?_eq_some h
    have h2 := List.find?_some h
    have h3 : q.1 = p.1 := by
      have := of_decide_eq_true h2
      cases q; cases p
      simp only [V.ref.injEq] at this
      exact this
    exact un q h1 p hp h3
section
variable {X : Cx}
theorem cr_sortL : CallR X (.builtin "sorted") (rSortL X.K) := by
  intro pins s σ H vs us Q I r h
  obtain ⟨a, L0, rfl, hs, hx, q⟩ := h
  obtain ⟨its, rv, hl, hz⟩ := I.list hs
  obtain ⟨u, rfl, ru⟩ := vals1 r
  obtain rfl : u = Value.ref a := ru
  have un : ∀ p ∈ L0, ∀ q ∈ L0, p.1 = q.1 → p.2 = q.2 := fun p hp q hq e => by
    have h1 := hx p hp
    rw [e] at h1
    have h2 := I.tuple_inj h1 (hx q hq)
    simp only [List.cons.injEq, V.int.injEq, and_true] at h2
    exact Prod.ext h2.1 h2.2
  obtain ⟨e1, e2⟩ := refs_back rv fun x m => by
    obtain ⟨p, _, rfl⟩ := List.mem_map.mp m
    exact ⟨p.1, rfl⟩
  refine SrtO.sorted_pairsO (k := fun u => keyL L0 (backV u)) hl.isList (by rw [← rv.length]; exact hz) (fun v hv => ?_) fun h' d out h1 h2 kp hd hn => ?_
  · obtain ⟨t, rfl⟩ := e2 v hv
    have hm : V.ref t ∈ L0.map fun p => V.ref p.1 := by rw [e1]; exact List.mem_map.mpr ⟨_, hv, rfl⟩
    obtain ⟨p, hp, e⟩ := List.mem_map.mp hm
    cases e
    obtain ⟨its2, r2, ⟨o, ho, hc, n, hd⟩, _⟩ := I.tuple (hx p hp)
    obtain ⟨u1, u2, rfl, ri, rj⟩ := vals2 r2
    obtain ⟨t1, rfl⟩ := ri
    obtain ⟨t2, rfl⟩ := rj
    have ek : keyL L0 (backV (.ref p.1)) = p.2 := keyL_of un hp
    show Srt.IsPair _ _ (keyL L0 (backV (.ref p.1))).1 (keyL L0 (backV (.ref p.1))).2
    rw [ek]
    exact ⟨p.1, o, t1, t2, n, rfl, ho, hc, hd⟩
  · have h3 : ∀ u ∈ out, ∃ a, u = Value.ref a := fun u hu => e2 u (h2.perm.mem_iff.mp hu)
    obtain ⟨n, hn⟩ := hn
    have hp : (out.map backV).Perm (L0.map fun p => V.ref p.1) := by
      rw [e1]
      exact h2.perm.map backV
    obtain ⟨L, hL, eL⟩ := perm_back (fun p : Addr × (Int × Int) => V.ref p.1) _ L0 hp
    have hsrt : (L.map fun p => V.ref p.1).Pairwise fun x y => ltP (keyL L0) y x = false := by
      rw [← eL]
      exact SrtO.srtd_map h1
    refine ⟨.ref d, upd H d (.lst (out.map backV)), I.laid (t' := s.toks) kp hd ⟨?_, out, n, vals_back h3, hn⟩, rfl, ?_⟩
    · rw [hp.length_eq]
      exact hz
    · rw [eL]
      refine q L d hL ?_ (I.hok.fresh hd)
      rw [List.pairwise_map] at hsrt
      refine List.Pairwise.imp_of_mem (fun {x y} hx' hy' z => ?_) hsrt
      have k1 := keyL_of un (hL.mem_iff.mp hx')
      have k2 := keyL_of un (hL.mem_iff.mp hy')
      have z' : SrtO.lexB (keyL L0 (.ref y.1)) (keyL L0 (.ref x.1)) = false := z
      rw [k1, k2] at z'
      exact z'
end
section
variable [TL : TabList]
variable {X : Cx} {e : Expr} {w : WE} {p p2 pos pos2 : Pos}
@[reducible] def kSortL (k : KE) : KE := fun d M => ∃ pz : List (Int × Int), d = .lst (pz.map qD) ∧ ∀ L : List (Int × Int), L.Perm pz → L.Pairwise (fun x y => SrtO.lexB y x = false) → k (.lst (L.map qD)) M
@[reducible] def wSortL (w : WE) : WE := fun sd M k kx => w sd M (kSortL k) kx
theorem reps_pairsL {K : PySem.W.Frag} {H : Hp} : ∀ {pz : List (Int × Int)} {vs : List V}, Reps K H vs (pz.map qD) → ∃ ks : List (Addr × (Int × Int)), vs = ks.map (fun p => V.ref p.1) ∧ (∀ p ∈ ks, SqT K H p.1 [.int p.2.1, .int p.2.2]) ∧ ks.map (·.2) = pz
  | [], _, .nil => ⟨[], rfl, (fun _ h => by cases h), rfl⟩
  | z :: pz, _, .cons h t => by
    obtain ⟨ks, rfl, h1, h2⟩ := reps_pairsL t
    cases h with
    | tup sq r =>
      rename_i a vs
      cases r with
      | cons r1 rr =>
        cases r1
        cases rr with
        | cons r2 rr =>
          cases r2
          cases rr
          exact ⟨(a, z) :: ks, rfl, fun q hq => (by
            rcases List.mem_cons.mp hq with rfl | hq
            · exact sq
            · exact h1 q hq), by rw [List.map_cons, h2]⟩
theorem reps_of_pairsL {K : PySem.W.Frag} {H : Hp} : ∀ {L : List (Addr × (Int × Int))}, (∀ p ∈ L, SqT K H p.1 [.int p.2.1, .int p.2.2]) → Reps K H (L.map fun p => V.ref p.1) ((L.map (·.2)).map qD)
  | [], _ => .nil
  | p :: L, h => .cons (.tup (h p List.mem_cons_self) (.cons (.int _) (.cons (.int _) .nil))) (reps_of_pairsL fun q hq => h q (List.mem_cons_of_mem _ hq))
theorem e_sortL (hc : X.calm = true) (hg : Gl X "sorted") (hm : X.mg "sorted" = none) (he : SE X e w)
    (hs : starEach (e :: []) X.env = (false, eval e X.env) :: starEach [] X.env := by rfl) (hpl : (backTo pos (starEach [] X.env)).any (·.1) = false := by rfl) :
    SE X (.Call (.Name "sorted" p) [e] [] pos) (wSortL w) := fun Wx tk => by
  refine PE.imp (PE.gh (pe_callB cr_sortL hg hm (by decide +kernel) (pa_cons (he Wx tk) pa_nil hs) (by decide) (by decide) hs hpl)) fun σ H Q h => ?_
  obtain ⟨sd, M, k, kx, rs, rm, h, po, px⟩ := h
  refine ⟨sd, M, _, kx, rs, rm, h, fun v H1 d M1 r1 rs1 rm1 k1 h1 => ?_, px⟩
  obtain ⟨pz, rfl, hk⟩ := h1
  cases r1 with
  | lst sq tt =>
    obtain ⟨ks, rfl, hks, he2⟩ := reps_pairsL tt
    refine ⟨_, ks, rfl, sq.sq, hks, fun L p hL hpw hp => ?_⟩
    refine post_frz (fun v4 H4 d4 M4 r4 rm4 s4 h4 => po v4 H4 d4 M4 r4 (rs1.kp s4) rm4 (k1.trans s4) h4) rm1 hp (reps_of_pairsL fun q hq => hks q (hL.mem_iff.mp hq)) (hk _ ?_ (List.pairwise_map.mpr hpw))
    rw [← he2]
    exact hL.map _
def cMax2 : List D → Mm → KE → Prop := fun ds M k => ∃ i j, ds = [.int i, .int j] ∧ k (.int (if j > i then j else i)) M
theorem c_max2 (hc : X.calm = true) : CallD X (.builtin "max") cMax2 := cd_of (call_max2 hc) fun xs H Q ds M k r rm hr po => by
  obtain ⟨i, j, rfl, hk⟩ := hr
  cases r with
  | cons r1 rr =>
    cases r1
    cases rr with
    | cons r2 rr =>
      cases r2
      cases rr
      exact ⟨i, j, rfl, gh_id (po _ H _ M (.int _) rm (.refl _ _) hk)⟩
end
end DL
namespace DL
open PySem PySem.Spec PyProof.Rows L2
variable [TL : TabList]
section
variable {X : Cx} {o e : Expr} {w wo we : WE} {p apos pos : Pos}
theorem reps_strs {K : PySem.W.Frag} {H : Hp} : ∀ ys : List Str, Reps K H (ys.map V.str) (ys.map D.str)
  | [] => .nil
  | y :: ys => .cons (.str y) (reps_strs ys)
/-! ### x.split(sep) -/
@[reducible] def kSplit2 (a : Str) (k : List Str → Mm → Prop) : KE := fun y M => match y with
  | .str b => (b.length == 0) = false ∧ a.length + 2 ≤ sizeLine ∧ k (Txt.split a b) M
  | _ => False
@[reducible] def kSplit1 (we : WE) (sd : SD) (k : List Str → Mm → Prop) (kx : KX) : KE := fun x M => match x with
  | .str a => we sd M (kSplit2 a k) kx
  | _ => False
@[reducible] def kStrsF (k : KE) : List Str → Mm → Prop := fun ys M => k (.lst (ys.map D.str)) M
@[reducible] def kStrsM (k : KE) : List Str → Mm → Prop := fun ys M => ∀ q, M q = none → k (.ref q) (put M q (.lst (ys.map D.str)))
@[reducible] def wSplit (wo we : WE) : WE := fun sd M k kx => wo sd M (kSplit1 we sd (kStrsF k) kx) kx
@[reducible] def wSplitM (wo we : WE) : WE := fun sd M k kx => wo sd M (kSplit1 we sd (kStrsM k) kx) kx
theorem e_split (ho : SE X o wo) (he : SE X e we) (hs : starEach [e] X.env = [(false, eval e X.env)] := by rfl)
    (hbase : attributeBase o "split" X.env (eval o X.env) = eval o X.env := by rfl) (hline : (apos.endLine == pos.line) = true := by rfl) : SE X (.Call (.Attribute o "split" apos) [e] [] pos) (wSplit wo we) := fun Wx tk =>
  PE.imp (PE.gh (pe_m1 F.slot_str_split F.type_str_split mt_split (ho Wx tk) (he Wx tk) hs hbase hline)) fun σ H Q h => by
    obtain ⟨sd, M, k, kx, rs, rm, h, po, px⟩ := h
    refine ⟨sd, M, _, kx, rs, rm, h, fun v H1 d M1 r1 rs1 rm1 k1 h1 => ?_, px⟩
    cases d with
    | str a =>
      cases r1
      refine ⟨⟨a, rfl⟩, sd, M1, _, kx, rs1, rm1, h1, fun v2 H2 d2 M2 r2 rs2 rm2 k2 h2 => ?_, px.st k1⟩
      cases d2 with
      | str b =>
        cases r2
        obtain ⟨hb, hl, hk⟩ := h2
        exact ⟨a, b, rfl, rfl, hb, hl, fun p hp => post_frz (fun v4 H4 d4 M4 r4 rm4 s4 h4 => po v4 H4 d4 M4 r4 (rs2.kp s4) rm4 ((k1.trans k2).trans s4) h4) rm2 hp (reps_strs _) hk⟩
      | _ => exact h2.elim
    | _ => exact h1.elim
theorem e_splitM (ho : SE X o wo) (he : SE X e we) (hs : starEach [e] X.env = [(false, eval e X.env)] := by rfl)
    (hbase : attributeBase o "split" X.env (eval o X.env) = eval o X.env := by rfl) (hline : (apos.endLine == pos.line) = true := by rfl) : SE X (.Call (.Attribute o "split" apos) [e] [] pos) (wSplitM wo we) := fun Wx tk =>
  PE.imp (pe_m1 F.slot_str_split F.type_str_split mt_split (ho Wx tk) (he Wx tk) hs hbase hline) fun σ H Q h => by
    obtain ⟨sd, M, k, kx, rs, rm, h, po, px⟩ := h
    refine ⟨sd, M, _, kx, rs, rm, h, fun v H1 d M1 r1 rs1 rm1 k1 h1 => ?_, px⟩
    cases d with
    | str a =>
      cases r1
      refine ⟨⟨a, rfl⟩, sd, M1, _, kx, rs1, rm1, h1, fun v2 H2 d2 M2 r2 rs2 rm2 k2 h2 => ?_, px.st k1⟩
      cases d2 with
      | str b =>
        cases r2
        obtain ⟨hb, hl, hk⟩ := h2
        exact ⟨a, b, rfl, rfl, hb, hl, fun p hp => po _ _ _ _ (.ref p) (rs2.st (.new hp)) (rm2.newLst hp (reps_strs _)) ((k1.trans k2).trans (.newT hp)) (hk p (rm2.free hp))⟩
      | _ => exact h2.elim
    | _ => exact h1.elim
/-! ### x.join(list of texts) -/
@[reducible] def kJoin2 (a : Str) (k : KE) : KE := fun y M => match y with
  | .lst l => ∃ ys : List Str, l = ys.map D.str ∧ (ys.map (·.length)).sum + ys.length * a.length ≤ 16777216 ∧ k (.str (Txt.join a ys)) M
  | _ => False
@[reducible] def kJoin1 (we : WE) (sd : SD) (k : KE) (kx : KX) : KE := fun x M => match x with
  | .str a => we sd M (kJoin2 a k) kx
  | _ => False
@[reducible] def wJoin (wo we : WE) : WE := fun sd M k kx => wo sd M (kJoin1 we sd k kx) kx
theorem e_join (ho : SE X o wo) (he : SE X e we) (hs : starEach [e] X.env = [(false, eval e X.env)] := by rfl)
    (hbase : attributeBase o "join" X.env (eval o X.env) = eval o X.env := by rfl) (hline : (apos.endLine == pos.line) = true := by rfl) : SE X (.Call (.Attribute o "join" apos) [e] [] pos) (wJoin wo we) := fun Wx tk =>
  PE.imp (pe_m1 F.slot_str_join F.type_str_join mt_join (ho Wx tk) (he Wx tk) hs hbase hline) fun σ H Q h => by
    obtain ⟨sd, M, k, kx, rs, rm, h, po, px⟩ := h
    refine ⟨sd, M, _, kx, rs, rm, h, fun v H1 d M1 r1 rs1 rm1 k1 h1 => ?_, px⟩
    cases d with
    | str a =>
      cases r1
      refine ⟨⟨a, rfl⟩, sd, M1, _, kx, rs1, rm1, h1, fun v2 H2 d2 M2 r2 rs2 rm2 k2 h2 => ?_, px.st k1⟩
      cases d2 with
      | lst l =>
        obtain ⟨ys, rfl, hl, hk⟩ := h2
        cases r2 with
        | lst sq tt =>
          have e := tt.strs
          subst e
          exact ⟨a, _, ys, rfl, rfl, .inl sq.sq, hl, po _ _ _ _ (.str _) rs2 rm2 (k1.trans k2) hk⟩
      | _ => exact h2.elim
    | _ => exact h1.elim
/-! ### int of a text -/
@[reducible] def cIntA : CD := fun ds M k => match ds with
  | [.str a] => ∃ n, PySem.intText? a = some n ∧ a.length ≤ 640 ∧ k (.int n) M
  | [.int i] => k (.int i) M
  | _ => False
theorem c_intA : CallD X (.type "int") cIntA := cd_of (CallR.or call_int_str call_int1) fun xs H Q ds M k r rm hr po => by
  match ds, r, hr with
  | [.str a], r, hr =>
    obtain ⟨v, rfl, rv⟩ := reps1 r
    cases rv
    obtain ⟨n, h1, h2, hk⟩ := hr
    exact .inl ⟨a, n, rfl, h1, h2, gh_id (po _ H _ M (.int _) rm (.refl _ _) hk)⟩
  | [.int i], r, hr =>
    obtain ⟨v, rfl, rv⟩ := reps1 r
    cases rv
    exact .inr (.inl ⟨i, rfl, gh_id (po _ H _ M (.int _) rm (.refl _ _) hr)⟩)
/-! ### a dict of the module, its keys texts -/
/-- the module's name stands for a dict -/
structure KDk (X : Cx) (x : Str) (d : Addr) : Prop where
  g : X.mg x = some (.ref d)
  k : ∃ es n, KDict X.K X.w d es n
@[reducible] def opInKd (K : PySem.W.Frag) (d : Addr) : OPD := fun x y M k => match x, y with
  | .str z, .ref a => a = d ∧ ∃ r, PySem.W.nsIn K d z = some r ∧ k (.bl r.isSome) M
  | _, _ => False
theorem o_inKd {d : Addr} (h : ∃ es n, KDict X.K X.w d es n) : OpD X (compareOp .In) (opInKd X.K d) := by
  obtain ⟨es, n, D⟩ := h
  refine opd_of (op_in_kd D) fun x y H Q dx dy M k r1 r2 rm hr po => ?_
  cases dx with
  | str z =>
    cases dy with
    | ref a =>
      obtain ⟨rfl, r, e, hk⟩ := hr
      cases r1
      cases r2
      exact ⟨z, r, rfl, rfl, e, po _ H _ M (.bl _) rm (.refl _ _) hk⟩
    | _ => exact hr.elim
  | _ => exact hr.elim
@[reducible] def opIxKd (K : PySem.W.Frag) (d : Addr) : OPD := fun x y M k => match x, y with
  | .ref a, .str z => a = d ∧ ∃ i t, PySem.W.nsIn K d z = some (some (.int i t)) ∧ k (.int i) M
  | _, _ => False
theorem o_ixKd {d : Addr} (h : ∃ es n, KDict X.K X.w d es n) : OpD X getItem (opIxKd X.K d) := by
  obtain ⟨es, n, D⟩ := h
  refine opd_of (op_item_kd D) fun x y H Q dx dy M k r1 r2 rm hr po => ?_
  cases dx with
  | ref a =>
    cases dy with
    | str z =>
      obtain ⟨rfl, i, t, e, hk⟩ := hr
      cases r1
      cases r2
      exact ⟨z, .int i t, .int i, rfl, rfl, e, ⟨t, rfl⟩, po _ H _ M (.int _) rm (.refl _ _) hk⟩
    | _ => exact hr.elim
  | _ => exact hr.elim
end
end DL
namespace DL
open PySem PySem.Spec PyProof.Rows L2
section
variable {X : Cx} {o e : Expr} {es : List Expr} {to te : TE} {ta : TA} {x : Str} {Cb : Addr} {p p' p1 p2 pos : Pos}
/-- the __init__ of ValueError, read off an own class over it -/
structure InitC (K : PySem.W.Frag) (mg : Str → Option Value) (x : Str) (Cb : Addr) : Prop where
  g : mg x = some (.ref Cb)
  sp : PySem.W.specialIn K (.ref Cb) "__getattribute__" = some (some (.builtin "type.__getattribute__"))
  rd : PySem.W.readsIn K Cb (.type "type") = true
  ty : PySem.W.typeIn K (.ref Cb) = some (.type "type")
  v : PySem.W.findCls K (.ref Cb) (.type "type") "__init__" = some (.val (.builtin "ValueError.__init__"))
/-- B.__init__(self, ..), B an own class over ValueError without an own __init__ -/
theorem pe_cinit {pl : Sem Bool} (hg : Gl X x) (B : InitC X.K X.mg x Cb) (ha : PA X (e :: es) ta) (hdb : (x == (("__debug__" : String) : Str)) = false := by decide)
    (hc : eval (.Call (.Attribute (.Name x p1) "__init__" p2) (e :: es) [] pos) X.env = (do
      let ov ← eval (.Name x p1) X.env
      standAt p2.atName
      let (f, first) ← holding [ov] (getMethod ov "__init__" pl)
      callWith pos f first (backTo pos (starEach (e :: es) X.env)) (backToKw pos (keywordEach [] X.env))) := by rfl)
    (he : starEach (e :: es) X.env = (false, eval e X.env) :: starEach es X.env := by rfl) (hpl : (backTo pos (starEach es X.env)).any (·.1) = false := by rfl) :
    PE X (.Call (.Attribute (.Name x p1) "__init__" p2) (e :: es) [] pos) (tVeI X.K ta) := by
  refine ⟨fun pins s σ H Q I h => ?_⟩
  refine PySem.W.methodCall_KW (ld_glob I hg B.g ?_ hdb) hc
  obtain ⟨m, fr⟩ := I.fr
  refine PySem.W.method_of_cls fr I.ok.mod.kin B.sp (PySem.W.cls_val fr I.ok.mod.kin B.ty B.rd B.v (by decide +kernel) ?_)
  show wpAny _ _ (callWith pos (Value.builtin "ValueError.__init__") [] (backTo pos (starEach (e :: es) X.env)) []) _ _ _
  refine PyProof.Rows.callWith_method1 (thn (ha.run pos pins _ σ H _ (I.tok _) h) fun us s1 ⟨vs, H1, I1, r1, a, C, ws, ev, hl, T, ea, q⟩ => ?_) he hpl
  subst ev
  cases r1 with
  | @cons _ u0 _ ur ra rw' =>
    obtain rfl : u0 = Value.ref a := ra
    have hlen : ur.length ≤ sizeLine := by
      rw [← Paired.length rw', sizeLine_eq]
      omega
    exact oinit_ok T I1 ea hlen fun s' J => ⟨.non, H1, J, rfl, q⟩
end
end DL
namespace DL
open PySem PySem.Spec PyProof.Rows L2
/-- what such an __init__ keeps: the error has its one attribute f -/
def spXI (K : PySem.W.Frag) (f : Str) : Sp := fun vs H Q _ => ∃ (a C : Addr) (y : V), vs = [.ref a, y] ∧ OexC K C ∧ PySem.W.findIn K (.ref C) f = some none ∧ H a = some (exo a C none) ∧ ∀ dx, H dx = none → dx ≠ a → Q .non (upd (upd H dx (exd dx [(f, y)])) a (exo a C (some dx)))
/-- self.f = y behind B.__init__(self, text): the reading of such a body -/
theorem xinit_read {K : PySem.W.Frag} {f : Str} {g : Str} {msg : Str} {vs : List V} {H : Hp} {Q : VK} {E : XK} (h : spXI K f vs H Q E) :
    tSeq (tDrop (tVeI K (tCons (tVar 0) (tCons (tC (.str msg)) tNil)))) (tOst K f (tVar 0) (tVar 1)) { nx := fun _ H' => Q .non H', rt := Q } (start [("self" : Str), g] vs) H := by
  obtain ⟨a, C, y, rfl, T, hno, ha, hQ⟩ := h
  refine ⟨_, rfl, a, C, _, rfl, by show 1 ≤ 1000; decide, T, ha, ?_⟩
  exact ⟨_, rfl, _, rfl, a, C, rfl, T, hno, .inl ⟨ha, fun dx n ne => hQ dx n ne⟩⟩
end DL
namespace DL
open PySem PySem.Spec PyProof.Rows L2
variable [TL : TabList]
/-- an own class of exceptions with an __init__ of its own that sets f -/
structure ExI (P : Program) (w : World) (K : PySem.W.Frag) (mg : Str → Option Value) (base : Heap) (x f : Str) (C : Addr) : Prop where
  g : mg x = some (.ref C)
  T : OexC K C
  no : PySem.W.findIn K (.ref C) f = some none
  ini : ∃ (fI : Addr) (fd : FuncData) (ps : List Str), PySem.W.findIn K (.ref C) "__init__" = some (some (.ref fI)) ∧ PySem.W.typeIn K (.ref fI) = some (.type "function") ∧ FnOk P w K mg base (L2.CX P w) 1 fI fd ps (spXI K f) ∧ Binds K fd ps []
section
variable {X : Cx} {e : Expr} {w : WE} {p pos pos2 : Pos}
@[reducible] def wRaiseI (C : Addr) (f : Str) (w : WE) : WS := fun ED sd M => w sd M (fun d M' => ED.ex (.ref C) [(f, d)] sd M') (exAt ED sd)
theorem s_raiseI {x f : Str} {C : Addr} (c : ExI X.prog X.w X.K X.mg X.base x f C) (hr : Room 2 X.A) (he : SE X e w) (hc : X.calm = true) (hg : Gl X x) (hdb : (x == ("__debug__" : Str)) = false := by decide)
    (hs : starEach (e :: []) X.env = (false, eval e X.env) :: starEach [] X.env := by rfl) (hpl : (backTo pos (starEach [] X.env)).any (·.1) = false := by rfl) :
    SS X (.Raise (some (.Call (.Name x p) [e] [] pos)) none pos2) (wRaiseI C f w) := fun Wx tk => by
  obtain ⟨fI, fd, ps, iC, tI, F1, hb⟩ := c.ini
  refine PS.imp (ps_raise hc tk (pmk_oex c.T iC tI F1 hr hb .nil (passes_call tk fun _ _ _ _ h => h.elim) hg c.g (pa_cons (he Wx tk) pa_nil hs) hdb hs hpl)) fun E σ H h => ?_
  obtain ⟨ED, sd, M, rs, rm, h, r⟩ := h
  refine ⟨sd, M, _, _, rs, rm, h, fun v H1 d M1 r1 rs1 rm1 k1 h1 => ?_, r.ex.at⟩
  refine ⟨by show 1 ≤ 1000; decide, fun a ha => ⟨a, C, v, rfl, c.T, c.no, upd_same, fun dx hdx hne => ⟨rfl, dx, [(f, v)], upd_same, ?_, ?_, ?_⟩⟩⟩
  · rw [upd_ne (fun z => hne z), upd_same]
  · rw [upd_ne hne] at hdx
    exact hdx
  · have hd0 : H1 dx = none := by rw [upd_ne hne] at hdx; exact hdx
    have e1 : upd (del (upd (upd (upd H1 a (exo a C none)) dx (exd dx [(f, v)])) a (exo a C (some dx))) a) dx (.xd [(f, v)]) = upd H1 dx (.xd [(f, v)]) := by
      funext b
      by_cases hb1 : b = dx
      · rw [hb1, upd_same, upd_same]
      · rw [upd_ne hb1, upd_ne hb1]
        by_cases hb2 : b = a
        · rw [hb2, del_same, ha]
        · rw [del_ne hb2, upd_ne hb2, upd_ne hb1, upd_ne hb2]
    rw [e1]
    have k2 : Kp M1 H1 M1 (upd H1 dx (.xd [(f, v)])) := .new hd0
    exact r.ex _ (some dx) σ _ [(f, d)] sd M1 ⟨[(f, v)], upd_same, rfl, .cons (r1.kp k2) .nil⟩ (rs1.kp k2) (rm1.lay hd0) (k1.trans k2) h1
end
end DL
namespace DL
open PySem PySem.Spec PyProof.Rows L2
/-! ### several clauses, some with a name -/
abbrev ClA : Type := Value × Option Nat × (Addr → Value → Option Addr → TS)
/-- the ways out of a clause whose name goes -/
def endsGo (i : Nat) (D : Ends) : Ends := { nx := fun σ H => D.nx (σ.set i none) H, rt := D.rt, bk := fun σ H => D.bk (σ.set i none) H, ct := fun σ H => D.ct (σ.set i none) H }
def wManyA (K : PySem.W.Frag) (Wo : WX) (D : Ends) : List ClA → WX
  | [] => Wo
  | (c, none, ts) :: r => fun cls d σ H => ∃ b, PySem.W.exmOne K cls c = some b ∧ (b = true → ∀ a, H a = none → ts a cls d D σ H) ∧ (b = false → wManyA K Wo D r cls d σ H)
  | (c, some i, ts) :: r => fun cls d σ H => ∃ b, PySem.W.exmOne K cls c = some b ∧ (b = true → ∀ a, H a = none → ts a cls d (endsGo i D) (σ.set i (some (.ref a))) H) ∧ (b = false → wManyA K Wo D r cls d σ H)
inductive HdA (X : Cx) : List ExceptHandler → List ClA → Prop
  | nil : HdA X [] []
  | one {x : Str} {c : Value} {ts : Addr → Value → Option Addr → TS} {b₀ : Stmt} {su : List Stmt} {np pos' : Pos} {hds : List ExceptHandler} {l : List ClA} (hc : Names X x c)
      (hsu : ∀ (a : Addr) (oe : Obj) (cls : Value) (d : Option Addr) (pn : List (Addr × Obj)), Zc cls d oe → (∃ vs, oe.data = .fields vs) → PSs (X.suite a ((a, oe) :: pn)) (b₀ :: su) (ts a cls d)) (r : HdA X hds l) :
      HdA X (.ExceptHandler (some (.Name x np)) none (b₀ :: su) pos' :: hds) ((c, none, ts) :: l)
  | named {x n : Str} {i : Nat} {c : Value} {ts : Addr → Value → Option Addr → TS} {b₀ : Stmt} {su : List Stmt} {np pos' : Pos} {hds : List ExceptHandler} {l : List ClA} (hN : X.N.Nodup) (hi : X.N[i]? = some n) (hln : X.env.kindOf n = some .local) (hc : Names X x c)
      (hsu : ∀ (a : Addr) (oe : Obj) (cls : Value) (d : Option Addr) (pn : List (Addr × Obj)), Zc cls d oe → (∃ vs, oe.data = .fields vs) → PSs (X.suite a ((a, oe) :: pn)) (b₀ :: su) (ts a cls d)) (r : HdA X hds l) :
      HdA X (.ExceptHandler (some (.Name x np)) (some n) (b₀ :: su) pos' :: hds) ((c, some i, ts) :: l)
section
variable {X : Cx} {body : List Stmt} {h₀ : ExceptHandler} {hds : List ExceptHandler} {l : List ClA} {pos : Pos} {tb : WX → TS} {Wo : WX}
theorem sp_untry {pn : List (Addr × Obj)} {pins : List (Addr × Obj)} {xe : Value → Shared → Prop} {D : Ends} {f : Flow} {s : Shared} (ok : X.Ok) (h : SP (X.tr (X.pn ++ pins) xe) pn D f s) : SP X pins D f s := by
  cases f with
  | ret u =>
    obtain ⟨v, σ', H', J', r, q⟩ := h
    exact ⟨v, σ', H', J'.ofTry ok, r, q⟩
  | _ =>
    obtain ⟨σ', H', J', q⟩ := h
    exact ⟨σ', H', J'.ofTry ok, q⟩
theorem sp_unsuite {a : Addr} {q : Addr × Obj} {pn : List (Addr × Obj)} {pins : List (Addr × Obj)} {D : Ends} {f : Flow} {s : Shared} (ok : X.Ok) (h : SP (X.suite a (q :: (X.pn ++ pins))) pn D f s) : SP X pins D f s := by
  cases f with
  | ret u =>
    obtain ⟨v, σ', H', J', r, q⟩ := h
    exact ⟨v, σ', H', J'.unsuite ok, r, q⟩
  | _ =>
    obtain ⟨σ', H', J', q⟩ := h
    exact ⟨σ', H', J'.unsuite ok, q⟩
theorem ps_tryA (hs : X.stack = X.env :: X.outer) (hf : X.env.frame = some X.env.locals) (tk : Takes X Wo)
    (hb : ∀ (W : WX) (pn : List (Addr × Obj)) (xe : Value → Shared → Prop), Takes (X.tr pn xe) W → PassesOwn (model X.prog X.w) X.A X.env xe → PSs (X.tr pn xe) body (tb W)) (hh : HdA X (h₀ :: hds) l) :
    PS X (.Try body (h₀ :: hds) [] [] pos) (fun D σ H => tb (wManyA X.K Wo D l) D σ H) := by
  refine ⟨fun pins s σ H D I h => wpAny_Try_except (wpAny_mono ((hb (wManyA X.K Wo D l) (X.pn ++ pins) (fun e s₁ => wpAny (model X.prog X.w) X.A (noteFrame e X.env) (fun _ s₂ => wpAny (model X.prog X.w) X.A (setFlight e none) (fun _ s₃ =>
    wpAny (model X.prog X.w) X.A (handleBy e X.env (h₀ :: hds)) (SP X pins D) X.xe s₃) X.xe s₂) X.xe s₁) (fun u s' xx => ?_) PassesOwn.looking).run [] s σ H D (I.toTry _) h) (fun f s1 hsp => ?_) (fun e s1 he => he))⟩
  · have ok := I.ok
    obtain ⟨a, B, sI, pins', σ', H', cls, d, rfl, J', nb, up, sky, na, os, ag, w⟩ := xx
    have J : Inv X pins σ' H' sI := J'.ofTry ok
    rw [show (X.tr (X.pn ++ pins) _).stack = X.env :: X.outer from hs] at sky
    refine Sky.land Zc.steady (by rw [ok.frames, hs]) hf sky fun h3 fl3 up3 => ?_
    have J3 : Inv X pins σ' H' { s' with heap := h3 } := J.landed nb fl3.1 (up.trans up3) os ag
    obtain ⟨oe3, vs3, he3, hz3, hd3⟩ := fl3.there
    have nfr : a ∉ frs (X.env :: X.outer) := fun hm => by
      obtain ⟨_, o', e', hnf⟩ := fl3.2.2.1.mem hm
      rw [he3] at e'
      cases e'
      exact hnf _ hd3
    have nL : a ≠ X.env.locals := fun z => nfr (List.mem_filterMap.mpr ⟨X.env, List.mem_cons_self, by rw [hf, z]⟩)
    have nF : a ∉ X.fs := fun hm => by
      obtain ⟨e, he, q⟩ := List.mem_filterMap.mp hm
      exact nfr (List.mem_filterMap.mpr ⟨e, List.mem_cons_of_mem _ he, q⟩)
    have S3 := J3.suite he3 hd3 na nL nF
    -- a clause is asked
    have ask : ∀ {x : Str} {c : Value} {np : Pos} {b : Bool} {Q : Value → Shared → Prop} {E : Value → Shared → Prop}, Names X x c → PySem.W.exmOne X.K cls c = some b → Q c { s' with heap := h3 } → wpAny (model X.prog X.w) (X.A.mark (some (.ref a))) (eval (.Name x np) X.env) Q E { s' with heap := h3 } := fun {x c np b Q E} hc hb1 q => by
      obtain ⟨hg, hdbg, hm | ⟨hm, hv, hnn⟩⟩ := hc
      · exact ld_glob (X := X.suite a ((a, oe3) :: (X.pn ++ pins))) S3 hg hm q hdbg
      · exact ld_blt (X := X.suite a ((a, oe3) :: (X.pn ++ pins))) S3 hg hm hv q hnn hdbg
    have LT : PySem.W.Looks (model X.prog X.w) h3 (typeOf (.ref a)) cls := fun A Q E s k q => wpAny_typeOf_ref (k _ _ he3) (by rw [hz3.1]; exact q)
    suffices go : ∀ {hds' : List ExceptHandler} {l' : List ClA}, HdA X hds' l' → wManyA X.K Wo D l' cls d σ' H' → wpAny (model X.prog X.w) X.A (handleBy (.ref a) X.env hds') (SP X pins D) X.xe { s' with heap := h3 } from go hh w
    intro hds' l' hk
    induction hk with
    | nil =>
      intro w
      refine wpAny_handleBy_nil ?_
      obtain ⟨_, _, _, oe, vs, T, oT, _, he, hz, hd, h1, _⟩ := id fl3
      unfold PySem.passOn
      refine wpAny_bind (wpAny_field he hd h1 ?_)
      rw [if_neg (show ¬ ((Value.ref T == Value.none) = true) from by simp)]
      have fin : wpAny (model X.prog X.w) X.A (setFlight (.ref a) X.env.frame) (fun _ s4 => wpAny (model X.prog X.w) X.A (throw (.ref a) : Sem Flow) (SP X pins D) X.xe s4) X.xe { s' with heap := h3 } := by
        rw [hf]
        exact HandSPX.setFlight_upZ fl3 fun h4 hh4 up4 => wpAny_throw (tk _ _ ⟨a, B, sI, pins, σ', H', cls, d, rfl, J, nb, (up.trans up3).trans up4, .inr (.inr (by rw [hs]; exact hh4)), na, os, ag, w⟩)
      first
        | exact wpAny_bind (wpAny_pure (wpAny_bind fin))
        | exact wpAny_bind fin
    | one hc hsu r ih =>
      intro w
      obtain ⟨b, hb1, hyes, hno⟩ := w
      refine wpAny_handleBy_cons (codeAny_handlers_test (ask hc hb1 ((PySem.W.exm_one (M := model X.prog X.w) J3.kIn LT hb1).here ?_))) (by intro q; cases q)
      cases b with
      | true =>
        refine codeAny_handlers_suite (HandSPX.lands_againZ fl3 fun h4 fl4 up4 => ?_)
        have J4 : Inv X pins σ' H' { s' with heap := h4 } := J.landed nb fl4.1 ((up.trans up3).trans up4) os ag
        obtain ⟨oe4, vs4, he4, hz4, hd4⟩ := fl4.there
        exact wpAny_mono ((hsu a oe4 cls d (X.pn ++ pins) hz4 ⟨_, hd4⟩).run [] _ _ H' _ (J4.suite he4 hd4 na nL nF) (hyes rfl a na)) (fun f s6 hsp => sp_unsuite ok hsp) (fun _ _ z => False.elim z)
      | false => exact ih (hno rfl)
    | @named x n i c ts b₀ su np pos' hds2 l2 hN hi hln hc hsu r ih =>
      intro w
      obtain ⟨b, hb1, hyes, hno⟩ := w
      refine wpAny_handleBy_cons (codeAny_handlers_test (ask hc hb1 ((PySem.W.exm_one (M := model X.prog X.w) J3.kIn LT hb1).here ?_))) (by intro q; cases q)
      cases b with
      | true =>
        refine codeAny_handlers_suite_as (HandSPX.lands_againZ fl3 fun h4 fl4 up4 => ?_)
        have J4 : Inv X pins σ' H' { s' with heap := h4 } := J.landed nb fl4.1 ((up.trans up3).trans up4) os ag
        obtain ⟨oe4, vs4, he4, hz4, hd4⟩ := fl4.there
        refine store_ok (X := X.suite a ((a, oe4) :: (X.pn ++ pins))) (v := .ref a) (J4.suite he4 hd4 na nL nF) hN hi (.inl hln) rfl (fun s5 S5 => ?_) (.inr hln)
        refine wpAny_mono ((hsu a oe4 cls d (X.pn ++ pins) hz4 ⟨_, hd4⟩).run [] s5 _ H' _ S5 (hyes rfl a na)) (fun f s6 hsp => ?_) (fun _ _ z => False.elim z)
        have bye : ∀ {σ6 : L2.St} {H6 : Hp} {Q : Shared → Prop}, Inv X pins σ6 H6 s6 → (∀ s7, Inv X pins (σ6.set i none) H6 s7 → Q s7) → wpAny (model X.prog X.w) X.A (do bindName X.env n .none; unbindBehindTheSuite X.env n pos') (fun _ s7 => Q s7) X.xe s6 := fun S6 hq => gone_ok S6 hN hi hln hq
        cases f with
        | ret u =>
          obtain ⟨v6, σ6, H6, S6, r6, q6⟩ := hsp
          exact bye (S6.unsuite ok) fun s7 J7 => ⟨_, _, _, J7, r6, q6⟩
        | _ =>
          obtain ⟨σ6, H6, S6, q6⟩ := hsp
          exact bye (S6.unsuite ok) fun s7 J7 => ⟨_, _, J7, q6⟩
      | false => exact ih (hno rfl)
  · cases f with
    | next =>
      obtain ⟨σ', H', J', q⟩ := hsp
      exact wpAny_execs_nil ⟨σ', H', J'.ofTry I.ok, q⟩
    | _ => exact sp_untry I.ok hsp
end
end DL
namespace DL
open PySem PySem.Spec PyProof.Rows L2
variable [TL : TabList]
/-- a clause, told of data; fld: except X as e: return e.f -/
inductive Cl where
  | plain (c : Value) (wh : WS)
  | fld (c : Value) (i : Nat) (C : Addr) (f : Str)
def hdA (K : PySem.W.Frag) (ED : EndsD) : List Cl → Value → Fs → SD → Mm → Prop
  | [] => ED.ex
  | .plain c wh :: r => fun cls fs sd M => ∃ b, PySem.W.exmOne K cls c = some b ∧ sel b (wh { ED with ex := fun _ _ _ _ => False } sd M) (hdA K ED r cls fs sd M)
  | .fld c i C f :: r => fun cls fs sd M => ∃ b, PySem.W.exmOne K cls c = some b ∧ sel b (cls = .ref C ∧ i < sd.length ∧ ∃ v, fs.lookup f = some v ∧ ED.rt v M) (hdA K ED r cls fs sd M)
@[reducible] def wTryA (K : PySem.W.Frag) (wb : WS) (l : List Cl) : WS := fun ED sd M => wb { ED with ex := hdA K ED l } sd M
def toA (K : PySem.W.Frag) : Cl → ClA
  | .plain c wh => (c, none, fun _ _ _ => toTS K WF wh)
  | .fld c i C f => (c, some i, fun a cls d => tRet (tXf a cls d C f (tVar i)))
section
variable {X : Cx} {body : List Stmt} {pos : Pos}
inductive HdAD (X : Cx) : List ExceptHandler → List Cl → Prop
  | nil : HdAD X [] []
  | plain {x : Str} {c : Value} {wh : WS} {b₀ : Stmt} {su : List Stmt} {np pos' : Pos} {hds : List ExceptHandler} {l : List Cl} (hc : Names X x c)
      (hsu : ∀ (a : Addr) (oe : Obj) (pn : List (Addr × Obj)), SSs (X.suite a ((a, oe) :: pn)) (b₀ :: su) wh) (r : HdAD X hds l) :
      HdAD X (.ExceptHandler (some (.Name x np)) none (b₀ :: su) pos' :: hds) (.plain c wh :: l)
  | fld {x n f : Str} {i : Nat} {c : Value} {C : Addr} {np p1 p2 p3 pos' : Pos} {hds : List ExceptHandler} {l : List Cl} (hN : X.N.Nodup) (hi : X.N[i]? = some n) (hln : X.env.kindOf n = some .local) (hc : Names X x c) (T : XfC X.K C) (hno : PySem.W.findIn X.K (.ref C) f = some none)
      (he : ∀ (a : Addr) (oe : Obj) (pn : List (Addr × Obj)), PE (X.suite a ((a, oe) :: pn)) (.Name n p1) (tVar i)) (hb : ∀ env, attributeBase (.Name n p1) f env (eval (.Name n p1) env) = eval (.Name n p1) env) (r : HdAD X hds l) :
      HdAD X (.ExceptHandler (some (.Name x np)) (some n) [.Return (some (.Attribute (.Name n p1) f p2)) p3] pos' :: hds) (.fld c i C f :: l)
theorem hdAD_ok : ∀ {hds : List ExceptHandler} {l : List Cl}, HdAD X hds l → HdA X hds (l.map (toA X.K))
  | _, _, .nil => .nil
  | _, _, .plain hc hsu r => .one hc (fun a oe cls d pn _ _ => hsu a oe pn WF takes0) (hdAD_ok r)
  | _, _, .fld hN hi hln hc T hno he hb r => .named hN hi hln hc (fun a oe cls d pn hz hf => pss_one (ps_ret (pe_xf T hno hz hf (he a oe pn) (hb _)))) (hdAD_ok r)
theorem repKV_lookup {K : PySem.W.Frag} {H : Hp} {f : Str} : ∀ {ws : List (Str × V)} {fs : List (Str × D)} {d : D}, RepKV K H ws fs → fs.lookup f = some d → ∃ v, ws.lookup f = some v ∧ Rep K H v d
  | [], [], _, _, h => by cases h
  | [], _ :: _, _, h, _ => by have := repKV_len h; simp at this
  | _ :: _, [], _, h, _ => by have := repKV_len h; simp at this
  | w :: ws, kv :: fs, d, h, hd => by
    obtain ⟨e, r, t⟩ := repKV_cons h
    obtain ⟨k, v⟩ := w
    obtain ⟨k', d'⟩ := kv
    simp only at e r
    subst e
    rw [List.lookup_cons] at hd ⊢
    by_cases hk : (f == k) = true
    · simp only [hk] at hd ⊢
      cases hd
      exact ⟨v, rfl, r⟩
    · simp only [Bool.not_eq_true] at hk
      simp only [hk] at hd ⊢
      exact repKV_lookup t hd
theorem hdA_W {H : Hp} {M : Mm} {ED : EndsD} {D : Ends} {Wx : WX} (r : EndsR X.K H M ED D Wx) : ∀ l : List Cl, PostW X.K H M (hdA X.K ED l) (wManyA X.K Wx D (l.map (toA X.K)))
  | [] => r.ex
  | .plain c wh :: l => fun cls d σ' H' fs sd' M' rx rs rm k ⟨b, e, h⟩ => by
    refine ⟨b, e, fun hb a _ => ?_, fun hb => ?_⟩
    · subst hb
      exact ⟨_, sd', M', rs, rm, h.of, ⟨r.nx.st k, r.rt.st k, r.bk.st k, r.ct.st k, fun _ _ _ _ _ _ _ _ _ _ _ z => z.elim⟩⟩
    · subst hb
      exact hdA_W r l cls d σ' H' fs sd' M' rx rs rm k h.of
  | .fld c i C f :: l => fun cls d σ' H' fs sd' M' rx rs rm k ⟨b, e, h⟩ => by
    refine ⟨b, e, fun hb a _ => ?_, fun hb => ?_⟩
    · subst hb
      obtain ⟨ec, hi, v, hv, hrt⟩ := h.of
      cases d with
      | none =>
        have e0 : fs = [] := rx
        subst e0
        cases hv
      | some dd =>
        obtain ⟨ws, hd, rkv⟩ := rx
        obtain ⟨vv, hl, rv⟩ := repKV_lookup rkv hv
        refine ⟨.ref a, ?_, rfl, ec, dd, ws, vv, rfl, hd, hl, r.rt vv H' v M' rv rm k hrt⟩
        rw [List.getElem?_set_self (by rw [rs.1]; exact hi)]
    · subst hb
      exact hdA_W r l cls d σ' H' fs sd' M' rx rs rm k h.of
theorem s_tryA {wb : WS} {l : List Cl} {h₀ : ExceptHandler} {hds : List ExceptHandler} (hs : X.stack = X.env :: X.outer) (hf : X.env.frame = some X.env.locals) (hb : ∀ (pn : List (Addr × Obj)) (xe : Value → Shared → Prop), PassesOwn (model X.prog X.w) X.A X.env xe → SSs (X.tr pn xe) body wb) (hh : HdAD X (h₀ :: hds) l) :
    SS X (.Try body (h₀ :: hds) [] [] pos) (wTryA X.K wb l) := fun Wx tk =>
  PS.imp (ps_tryA (tb := fun W => toTS X.K W wb) hs hf tk (fun W pn xe tk2 po => hb pn xe po W tk2) (hdAD_ok hh)) fun E σ H h => by
    obtain ⟨ED, sd, M, rs, rm, h, r⟩ := h
    exact ⟨_, sd, M, rs, rm, h, ⟨r.nx, r.rt, r.bk, r.ct, hdA_W r l⟩⟩
end
end DL
namespace DL
open PySem PySem.Spec PyProof.Rows L2
variable [TL : TabList]
section
variable {X : Cx} {o e : Expr} {wo we : WE} {apos cpos : Pos}
theorem toPyL_get : ∀ {l : List D} {j : Nat}, (toPyL l)[j]? = (l[j]?).map toPy
  | [], _ => by simp [toPyL]
  | x :: l, 0 => by simp [toPyL]
  | x :: l, j + 1 => by simp only [toPyL, List.getElem?_cons_succ]; exact toPyL_get
@[reducible] def kIdx2 (l : List D) (k : KE) : KE := fun y M => laidL l = true ∧ laid y = true ∧ depL l ≤ 50 ∧ dep y ≤ 50 ∧ ∃ j z, l[j]? = some z ∧ eqv z y = true ∧ (∀ m z', m < j → l[m]? = some z' → eqv z' y = false) ∧ k (.int (j : Nat)) M
@[reducible] def kIdx1 (we : WE) (sd : SD) (k : KE) (kx : KX) : KE := fun x M => match x with
  | .lst l => we sd M (kIdx2 l k) kx
  | _ => False
@[reducible] def wIdx (wo we : WE) : WE := fun sd M k kx => wo sd M (kIdx1 we sd k kx) kx
theorem e_index {n : Nat} (hr : Room n X.A) (ho : SE X o wo) (he : SE X e we) (hbase : attributeBase o "index" X.env (eval o X.env) = eval o X.env := by rfl)
    (hfew : ((backTo cpos (starEach (e :: []) X.env)).all (fun x => !x.1) && (backToKw cpos (keywordEach [] X.env)).all (fun x => x.1.isSome)
      && decide ((e :: []).length + ([] : List Keyword).length + (if ([] : List Keyword).isEmpty then 0 else 1) < 30)) = true := by rfl)
    (hline : (apos.endLine == cpos.line) = true := by rfl) (hs : starEach (e :: []) X.env = (false, eval e X.env) :: starEach [] X.env := by rfl) (hplain : (backTo cpos (starEach [] X.env)).any (·.1) = false := by rfl) :
    SE X (.Call (.Attribute o "index" apos) [e] [] cpos) (wIdx wo we) := fun Wx tk =>
  PE.imp (pe_bm PySem.F.plainAttrs_list PySem.F.slot_list_index PySem.F.type_list_index (mt_indexD (by have := hr.un; omega)) (ho Wx tk) (pa_cons (he Wx tk) pa_nil hs) hbase hfew hline hs hplain) fun σ H Q h => by
    obtain ⟨sd, M, k, kx, rs, rm, h, po, px⟩ := h
    refine ⟨sd, M, _, kx, rs, rm, h, fun v H1 d M1 r1 rs1 rm1 k1 h1 => ?_, px⟩
    cases d with
    | lst l =>
      cases r1 with
      | lst sq tt =>
        refine ⟨.inl ⟨rfl, _, sq.sq⟩, sd, M1, _, kx, rs1, rm1, h1, fun v2 H2 d2 M2 r2 rs2 rm2 k2 h2 => ?_, px.st k1⟩
        obtain ⟨l1, l2, p1, p2, j, z, hj, hz, hm, hk⟩ := h2
        have r1' := (Rep.lst sq tt).kp k2
        have e1 : ∀ z', z' ∈ l → PyData.eqv (toPy z') (toPy d2) = eqv z' d2 := fun z' hz' => by
          have := toPyL_any d2 l2 [z'] (by rw [laidL, laidL_mem l1 z' hz']; rfl)
          simpa [toPyL] using this
        refine ⟨_, v2, toPy d2, toPyL l, j, toPy z, rfl, rfl, ?_, Rep.dp d2 v2 l2 r2, ?_, ?_, by rw [toPyL_get, hj]; rfl, by rw [e1 z (List.mem_of_getElem? hj)]; exact hz, fun m z' hlt hz' => ?_, po _ _ _ _ (.int _) rs2 rm2 (k1.trans k2) hk⟩
        · have := Rep.dp (.lst l) _ (by simpa [laid] using l1) r1'
          simpa [toPy] using this
        · have a1 : (toPy (.lst l)).canLay0 = true := toPy_lay (.lst l) (by simpa [laid] using l1)
          have a2 : (toPy (.lst l)).depth = dep (.lst l) := toPy_dep _
          rw [show toPy (.lst l) = .list (toPyL l) by simp [toPy]] at a1 a2
          rw [SeqAt.shaped, a1, a2, Bool.true_and, decide_eq_true_eq]
          simp only [dep]
          omega
        · rw [SeqAt.shaped, toPy_lay d2 l2, toPy_dep, Bool.true_and, decide_eq_true_eq]
          omega
        · rw [toPyL_get] at hz'
          cases hq : l[m]? with
          | none => rw [hq] at hz'; cases hz'
          | some y =>
            rw [hq] at hz'
            cases hz'
            rw [e1 y (List.mem_of_getElem? hq)]
            exact hm m y hlt hq
    | _ => exact h1.elim
end
end DL
namespace DL
open PySem PySem.Spec PyProof.Rows L2
variable [TL : TabList]
section
variable {X : Cx} {pos : Pos}
/-- a name of the module that stands for an object -/
theorem e_gref {x : Str} {a : Addr} (hg : Gl X x) (hm : X.mg x = some (.ref a)) (hd : (x == ("__debug__" : Str)) = false := by decide) : SE X (.Name x pos) (wC (.ref a)) := e_glob (v := .ref a) hg hm rfl (fun _ => .ref a) hd
/-- a tuple of texts of the module -/
structure GTup (K : PySem.W.Frag) (mg : Str → Option Value) (x : Str) (zs : List Str) : Prop where
  ex : ∃ a, mg x = some (.ref a) ∧ ∀ H : Hp, SqT K H a (zs.map V.str)
theorem e_gtup {x : Str} {zs : List Str} (hg : Gl X x) (h : GTup X.K X.mg x zs) (hd : (x == ("__debug__" : Str)) = false := by decide) : SE X (.Name x pos) (wC (.tup (zs.map D.str))) := by
  obtain ⟨a, hm, hs⟩ := h.ex
  exact e_glob (v := .ref a) hg hm rfl (fun H => .tup (hs H) (reps_strs zs)) hd
end
end DL
namespace DL
open PySem PySem.Spec PyProof.Rows L2
section
variable {X : Cx} {o i : Expr} {td ty : TE} {pos : Pos} {d : Addr} {es : Array DictEntry} {n : Nat}
def tIxKd (K : PySem.W.Frag) (d : Addr) (td ty : TE) : TE := fun σ H Q => td σ H fun x H1 => ty σ H1 fun y H2 => x = .ref d ∧ ∃ (z : Str) (u0 : Value) (v0 : V), y = .str z ∧ PySem.W.nsIn K d z = some (some u0) ∧ RelV v0 u0 ∧ Q v0 H2
theorem pe_ixKd (D : KDict X.K X.w d es n) (ho : PE X o td) (hi : PE X i ty) (hs : NoSl i) : PE X (.Subscript o i pos) (tIxKd X.K d td ty) := by
  refine ⟨fun pins s σ H Q I h => ?_⟩
  refine subD_of PySem.F.slot_dict_getitem.lookup hs (thn (ho.run pins s σ H _ I h) fun u s1 ⟨x, H1, I1, rx, q1⟩ => thn (hi.run pins s1 σ H1 _ I1 q1) fun iv s2 ⟨y, H2, I2, ry, ex, z, u0, v0, ey, e, rv, q2⟩ => ?_)
  subst ex
  have hu : u = Value.ref d := rx
  subst hu
  exact ⟨kd_type D I2, op_item_kd D pins s2 σ H2 (V.ref d) y (Value.ref d) iv Q I2 rfl ry ⟨z, u0, v0, rfl, ey, e, rv, q2⟩⟩
variable [TL : TabList] {w wi : WE}
@[reducible] def kIxKd2 (K : PySem.W.Frag) (d : Addr) (x : D) (k : KE) : KE := fun y M => match x, y with
  | .ref a, .str z => a = d ∧ ∃ i t, PySem.W.nsIn K d z = some (some (.int i t)) ∧ k (.int i) M
  | _, _ => False
@[reducible] def kIxKd1 (K : PySem.W.Frag) (d : Addr) (wi : WE) (sd : SD) (k : KE) (kx : KX) : KE := fun x M => wi sd M (kIxKd2 K d x k) kx
@[reducible] def wIxKd (K : PySem.W.Frag) (d : Addr) (w wi : WE) : WE := fun sd M k kx => w sd M (kIxKd1 K d wi sd k kx) kx
theorem e_ixKd (hs : NoSl i) (h : ∃ es n, KDict X.K X.w d es n) (ho : SE X o w) (hi : SE X i wi) : SE X (.Subscript o i pos) (wIxKd X.K d w wi) := fun Wx tk => by
  obtain ⟨es, n, D⟩ := h
  refine PE.imp (pe_ixKd D (ho Wx tk) (hi Wx tk) hs) fun σ H Q h => ?_
  obtain ⟨sd, M, k, kx, rs, rm, h, po, px⟩ := h
  refine ⟨sd, M, _, kx, rs, rm, h, fun v H1 x M1 r1 rs1 rm1 k1 h1 => ?_, px⟩
  refine ⟨sd, M1, _, kx, rs1, rm1, h1, fun v2 H2 y M2 r2 rs2 rm2 k2 h2 => ?_, px.st k1⟩
  cases x with
  | ref a =>
    cases y with
    | str z =>
      obtain ⟨rfl, i, t, e, hk⟩ := h2
      cases r1
      cases r2
      exact ⟨rfl, z, .int i t, .int i, rfl, e, ⟨t, rfl⟩, po _ _ _ _ (.int _) rs2 rm2 (k1.trans k2) hk⟩
    | _ => exact h2.elim
  | _ => cases y <;> exact h2.elim
/-! ### d[k] of a dict that is told -/
@[reducible] def kGetD2 (x : D) (k : KE) : KE := fun y M => match x with
  | .ref a => ∃ key kvs v, dkey y = some key ∧ M a = some (.dK kvs) ∧ getK kvs key = some v ∧ k v M
  | _ => False
@[reducible] def kGetD1 (wi : WE) (sd : SD) (k : KE) (kx : KX) : KE := fun x M => wi sd M (kGetD2 x k) kx
@[reducible] def wGetD (w wi : WE) : WE := fun sd M k kx => w sd M (kGetD1 wi sd k kx) kx
theorem e_getD {m : Nat} (hr : Room m X.A) (hs : NoSl i) (ho : SE X o w) (hi : SE X i wi) : SE X (.Subscript o i pos) (wGetD w wi) := fun Wx tk => by
  refine PE.imp (pe_dget (by have := hr.un; omega) (ho Wx tk) (hi Wx tk) hs) fun σ H Q h => ?_
  obtain ⟨sd, M, k, kx, rs, rm, h, po, px⟩ := h
  refine ⟨sd, M, _, kx, rs, rm, h, fun v H1 x M1 r1 rs1 rm1 k1 h1 => ?_, px⟩
  refine ⟨sd, M1, _, kx, rs1, rm1, h1, fun v2 H2 y M2 r2 rs2 rm2 k2 h2 => ?_, px.st k1⟩
  cases x with
  | ref a =>
    obtain ⟨key, kvs, dv, e, hM, hg, hk⟩ := h2
    obtain ⟨ws, ha, rv⟩ := rm2 a _ hM
    cases r1
    have e2 := dkey_rep r2 e
    subst e2
    rcases repKV_get (k := key) rv with ⟨_, b⟩ | ⟨vv, d', a1, b1, c1⟩
    · rw [hg] at b; cases b
    · rw [hg] at b1
      cases b1
      refine ⟨a, vv, rfl, ?_, po _ _ _ _ c1 rs2 rm2 (k1.trans k2) hk⟩
      rw [← a1]
      exact .k ha
  | _ => exact h2.elim
end
end DL
namespace DL
open PySem PySem.Spec PyProof.Rows L2
variable [TL : TabList]
section
variable {X : Cx} {pos : Pos}
/-- the pairs of a display, constants all -/
inductive DispC (X : Cx) (pos : Pos) : List (Option Expr) → List Expr → List (Key × Int) → Prop
  | nil : DispC X pos [] [] []
  | cons {k v : Expr} {ks : List (Option Expr)} {vs : List Expr} {key : Key} {n : Int} {l : List (Key × Int)} (hk : PE X k (tC (kV key))) (hv : PE X v (tC (.int n))) (r : DispC X pos ks vs l) : DispC X pos (some k :: ks) (v :: vs) ((key, n) :: l)
def trC (l : List (Key × Int)) : List (TE × TE) := l.map fun p => (tC (kV p.1), tC (.int p.2))
theorem dispC_pps : ∀ {ks : List (Option Expr)} {vs : List Expr} {l : List (Key × Int)}, DispC X pos ks vs l → PPs X pos ks vs (trC l)
  | _, _, _, .nil => pps_nil
  | _, _, _, .cons hk hv r => pps_cons hk hv (dispC_pps r)
theorem pairs_const {σ : L2.St} {H : Hp} {Q : List (V × V) → Hp → Prop} : ∀ l : List (Key × Int), Q (l.map fun p => (kV p.1, V.int p.2)) H → tPairs (trC l) σ H Q
  | [], h => h
  | p :: l, h => pairs_const (Q := fun ps H3 => Q ((kV p.1, .int p.2) :: ps) H3) l h
def mergeD (kvs more : List (Key × D)) : List (Key × D) := more.foldl (fun acc kv => setK acc kv.1 kv.2) kvs
theorem repKV_merge {K : PySem.W.Frag} {H : Hp} : ∀ (l : List (Key × Int)) {ws : List (Key × V)} {kvs : List (Key × D)}, RepKV K H ws kvs → RepKV K H (mergeK ws (l.map fun p => (p.1, V.int p.2))) (mergeD kvs (l.map fun p => (p.1, D.int p.2)))
  | [], _, _, h => h
  | p :: l, _, _, h => repKV_merge l (repKV_set h (.int p.2))
@[reducible] def wDisp (l : List (Key × Int)) : WE := fun _ M k _ => ∀ p, M p = none → k (.ref p) (put M p (.dK (mergeD [] (l.map fun p => (p.1, D.int p.2)))))
theorem e_disp {ks : List (Option Expr)} {vs : List Expr} {l : List (Key × Int)} (h : DispC X pos ks vs l) (hall : ks.all (·.isSome) = true) (hl : ks.length = vs.length) (h0 : ks ≠ []) (h15 : ks.length ≤ 15) (hn : l.length ≤ 15) : SE X (.Dict ks vs pos) (wDisp l) := fun Wx tk =>
  PE.imp (pe_disp (dispC_pps h) hall hl h0 h15) fun σ H Q h => by
    obtain ⟨sd, M, k, kx, rs, rm, h, po, px⟩ := h
    intro p hp
    refine pairs_const l ⟨upd_same, l.map fun p => (p.1, V.int p.2), by rw [List.map_map]; rfl, by rw [List.length_map]; exact hn, ?_⟩
    rw [upd_upd]
    exact po _ _ _ _ (.ref p) (rs.st (.new hp)) (rm.put (o := .dK (mergeD [] (l.map fun p => (p.1, D.int p.2)))) (.new hp) (fun y z => by rw [hp] at z; cases z) ⟨_, upd_same, repKV_merge l ⟨rfl, .nil⟩⟩) (.newT hp) (h p (rm.free hp))
end
end DL
namespace DL
open PySem PySem.Spec PyProof.Rows L2
/-! ### errors held as values -/
/-- an error just made: its class C, the tuple t of what it was made with -/
def ExV (a C t : Addr) : HO := .ext fun h => h.get? a = some ({ cls := .ref C, data := .fields #[.ref t, .none, .none, .none, .bool false, .none] } : Obj)
section
variable {P : Program} {w : World} {fs ex : List Addr} {H : Hp} {h h' : Heap} {a t : Addr} {o u : HO}
theorem un_two (k : ∀ b z, h.get? b = some z → h'.get? b = some z) (ga : h.get? a = none) (gt : h.get? t = none) (na : H a = none) (nt : H t = none) : Un fs ex H (upd (upd H t u) a o) h h' where
  keep := fun b z q _ _ _ => k b z q
  slot := fun b z q _ _ _ => ⟨z.slots, k b z q⟩
  free := fun b z q n _ => by
    have e1 : b ≠ a := fun e => by rw [e, ga] at q; cases q
    have e2 : b ≠ t := fun e => by rw [e, gt] at q; cases q
    rw [upd_ne e1, upd_ne e2]; exact n
  there := fun b z q _ => ⟨z, k b z q⟩
  tups := fun b xs q => by rw [upd_ne (ne_of_none q na), upd_ne (ne_of_none q nt)]; exact q
  frzs := fun b z y q => by rw [upd_ne (ne_of_none q na), upd_ne (ne_of_none q nt)]; exact q
  tbls := fun b ps q => ⟨#[], by rw [upd_ne (ne_of_none q na), upd_ne (ne_of_none q nt), q]; simp⟩
theorem hok_two (x : HOk P w H h) (k : ∀ b z, h.get? b = some z → h'.get? b = some z) (na : H a = none) (nt : H t = none) (nt' : t ≠ a) (oa : ObjOk P w (upd (upd H t u) a o) h' a o) (ot : ObjOk P w (upd (upd H t u) a o) h' t u) : HOk P w (upd (upd H t u) a o) h' := fun b z e => by
  by_cases hb : b = a
  · subst hb
    rw [upd_same] at e
    cases e
    exact oa
  · rw [upd_ne hb] at e
    by_cases hc : b = t
    · subst hc
      rw [upd_same] at e
      cases e
      exact ot
    · rw [upd_ne hc] at e
      exact (x b z e).stay (fun c v _ q => k c v q) (fun c q => by rw [upd_ne (ne_of_none q na), upd_ne (ne_of_none q nt)]; exact q) fun c xs q => by rw [upd_ne (ne_of_none q na), upd_ne (ne_of_none q nt)]; exact q
end
section
variable {X : Cx} {e : Expr} {te : TE} {p pos : Pos} {x : Str} {C : Addr}
/-- C(e) as a value, C an own class of errors without an __init__ -/
theorem pe_exv {bmB : List Value} {B newId initId : String} (F : ExcBaseFacts B newId initId bmB) (q : PySem.W.excIn X.K C bmB newId = true) (gC : X.mg x = some (.ref C)) (kC : PySem.W.keepIn X.K (.ref C) = true) (hg : Gl X x)
    (he : PE X e te) (hs : starEach [e] X.env = (false, eval e X.env) :: starEach [] X.env := by rfl) (hdb : (x == ("__debug__" : Str)) = false := by decide) :
    PE X (.Call (.Name x p) [e] [] pos) (fun σ H Q => te σ H fun v H1 => ∀ a t, H1 a = none → H1 t = none → t ≠ a → Q (.ref a) (upd (upd H1 t (.tup [v])) a (ExV a C t))) := by
  refine ⟨fun pins s σ H Q I hh => wpAny_Call_Name_kw (ld_glob I hg gC (PySem.W.callWith_K (h₀ := X.base) I.ok.mod.kin kC ?_ hs (by rfl)) hdb)⟩
  rw [hs]
  show wpAny _ _ (spliced ((false, eval e X.env) :: backTo pos (starEach [] X.env))) _ _ s
  refine Calls.spliced_cons (thn (he.run pins s σ H _ I hh) fun u s1 ⟨v, H1, I1, rv, q1⟩ => Calls.spliced_nil ⟨I1.kIn, ?_⟩)
  show wpAny _ _ (call (.ref C) [u]) _ _ _
  obtain ⟨bm, N, nm, qn, bs, hdct, sn, sub, ab, col, dd, k0, k1, k2, k3, k5, mN, hC, hN, hni, T⟩ := exc_obj I1.kIn q
  refine wpAny_call_exc_subT F T hC hN hni (fun h' a hm => ?_) (by show 1 ≤ sizeLine; rw [sizeLine_eq]; omega)
  obtain ⟨t, ea, gt, et⟩ := hm.there
  have na : H1 a = none := I1.hok.gone hm.new
  have nt : H1 t = none := I1.hok.gone gt
  have ne : t ≠ a := fun z => by
    rw [z, ea] at et
    have z2 := congrArg Obj.cls (Option.some.inj et)
    cases z2
  refine ⟨.ref a, upd (upd H1 t (.tup [v])) a (ExV a C t), I1.un (un_two hm.keeps hm.new gt na nt) (hok_two I1.hok hm.keeps na nt ne ?_ ?_), rfl, q1 a t na nt ne⟩
  · exact ⟨ea, ⟨_, ea⟩, fun h1 h2 z k => k _ z⟩
  · exact ⟨by show 1 ≤ sizeLine; rw [sizeLine_eq]; omega, [u], .cons rv .nil, _, et, rfl, _, rfl⟩
end
end DL

namespace DL
open PySem PySem.Spec PyProof.Rows L2
section
variable {X : Cx} {e : Expr} {es : List Expr} {ta : TA} {p pos : Pos} {x : Str} {C fI : Addr}
/-- C(e, ..) as a value, C with an __init__ of its own that keeps sp -/
theorem pe_exvI {CX : CXT} {lv : Nat} {fd : FuncData} {ps : List Str} {sp : Sp} (T : OexC X.K C) (iC : PySem.W.findIn X.K (.ref C) "__init__" = some (some (.ref fI))) (tI : PySem.W.typeIn X.K (.ref fI) = some (.type "function"))
    (F1 : FnOk X.prog X.w X.K X.mg X.base CX lv fI fd ps sp) (hr : Room (lv + 1) X.A) (hb : Binds X.K fd ps []) (hx : Passes CX X (fun _ _ _ => False)) (hg : Gl X x) (hm : X.mg x = some (.ref C)) (ha : PA X (e :: es) ta)
    (hdb : (x == ("__debug__" : Str)) = false := by decide) (he : starEach (e :: es) X.env = (false, eval e X.env) :: starEach es X.env := by rfl) (hpl : (backTo pos (starEach es X.env)).any (·.1) = false := by rfl) :
    PE X (.Call (.Name x p) (e :: es) [] pos) (fun σ H Q => ta σ H fun vs H1 => vs.length ≤ 1000 ∧ ∀ a, H1 a = none → sp (.ref a :: vs) (upd H1 a (exo a C none)) (fun v H2 => v = .non ∧ Q (.ref a) H2) fun _ _ _ => False) := by
  obtain ⟨nm, q, N, bs, bm, sn, sub, ab, col, dd, k0, k1, k2, k3, k5, hC, hbm⟩ := T.cls
  refine ⟨fun pins s σ H Q I hh => wpAny_Call_Name_kw (ld_glob I hg hm (PySem.W.callWith_K (h₀ := X.base) I.ok.mod.kin T.kC (thn (ha.run pos pins s σ H _ I hh) fun us s1 ⟨vs, H1, I1, rv, hz, q1⟩ => ⟨I1.kIn, ?_⟩) he hpl) hdb)⟩
  show wpAny _ _ (call (.ref C) us) _ _ _
  obtain ⟨hp, g, dr, tk, os⟩ := s1
  have up : hp.objs.size ≤ hp.objs.size + 1 := Nat.le_succ _
  have na : H1 (hp.objs.size + 1) = none := I1.hok.fresh up
  have hq := q1 _ na
  have kk : ∀ b o, hp.get? b = some o → ((hp.push (PySem.W.kdv_tup us)).push (PySem.HandSPX.excO C hp.objs.size)).get? b = some o := fun b o z => Heap.get?_push_of_some _ (Heap.get?_push_of_some _ z)
  have at_ : ((hp.push (PySem.W.kdv_tup us)).push (PySem.HandSPX.excO C hp.objs.size)).get? (hp.objs.size + 1) = some (PySem.HandSPX.excO C hp.objs.size) := by heap_get
  have I2 := I1.laid (t' := tk) (a := hp.objs.size + 1) (o := exo (hp.objs.size + 1) C none) (h' := (hp.push (PySem.W.kdv_tup us)).push (PySem.HandSPX.excO C hp.objs.size)) kk up (exo_ok at_)
  have rr : Vals (V.ref (hp.objs.size + 1) :: vs) (Value.ref (hp.objs.size + 1) :: us) := .cons rfl rv
  have hl : (Value.ref (hp.objs.size + 1) :: us).length = ps.length := by
    have z := rr.length
    rw [F1.len _ _ _ _ hq] at z
    exact z.symm
  have hl2 : (Value.ref (hp.objs.size + 1) :: us ++ []).length = ps.length := by rw [List.append_nil]; exact hl
  have hb2 := hb _ (Value.ref (hp.objs.size + 1) :: us) I2.kIn hl2
  rw [List.append_nil] at hb2
  have hus : us.length ≤ sizeLine := by
    rw [← Paired.length rv, sizeLine_eq]
    omega
  refine wpAny_call (PySem.HandSPX.call_own F.excBase_ValueError (fun Y => PySem.HandSPX.refsVE_contains Y bm hbm) (I1.kIn _ _ hC) (PySem.W.looks_findIn I1.kIn iC) (fun self => PySem.W.bind_fn I1.kIn self tI) hus
    (codeAny_mono (F1.run _ X.stack _ _ ⟨Value.ref (hp.objs.size + 1) :: us, []⟩ (Value.ref (hp.objs.size + 1) :: us) _ _ (fun _ _ _ => False) (hr.make C us []) (I2.env0.make C us []) hb2 rr hq) fun r s' z => ?_))
  cases r with
  | error er => exact hx pins σ _ _ er s' I2 z
  | ok fl =>
    cases fl with
    | ret u =>
      obtain ⟨v, H2, os2, bare2, un, hok, rv2, ev, q2⟩ := z
      subst ev
      obtain ⟨h2, g2, d2, t2, os'⟩ := s'
      have nea : ∀ {b : Addr} {o : Obj}, hp.get? b = some o → b ≠ hp.objs.size + 1 := fun {b o} z => Nat.ne_of_lt (Nat.lt_of_lt_of_le (Heap.lt_size z) up)
      have nn : ∀ {b : Addr}, b ≠ hp.objs.size + 1 → H1 b = none → upd H1 (hp.objs.size + 1) (exo (hp.objs.size + 1) C none) b = none := fun {b} hb n => by rw [upd_ne hb]; exact n
      have ss : ∀ {b : Addr} {o : HO}, H1 b = some o → upd H1 (hp.objs.size + 1) (exo (hp.objs.size + 1) C none) b = some o := fun {b o} z => by rw [upd_ne (ne_of_none z na)]; exact z
      have U : Un (frs X.stack) [] H1 H2 hp h2 := {
        keep := fun b o z n hf hx => un.keep b o (kk b o z) (nn (nea z) n) hf hx
        slot := fun b o z n hf hx => un.slot b o (kk b o z) (nn (nea z) n) hf hx
        free := fun b o z n hx => un.free b o (kk b o z) (nn (nea z) n) hx
        there := fun b o z hx => un.there b o (kk b o z) hx
        tups := fun b xs z => un.tups b xs (ss z)
        frzs := fun b o v z => un.frzs b o v (ss z)
        tbls := fun b ps z => un.tbls b ps (ss z) }
      exact ⟨rv2, .ref _, H2, I1.call' (ch := []) os2 U hok bare2 (fun b z => absurd z (by simp)), rfl, q2⟩
    | next => exact False.elim z
    | brk => exact False.elim z
    | cont => exact False.elim z
end
variable [TL : TabList]
section
variable {X : Cx} {e o : Expr} {w : WE} {p p2 pos : Pos} {x f : Str} {C : Addr}
@[reducible] def kExv (C : Addr) (k : KE) : KE := fun d M => match d with
  | .str s => k (.exc C (some s) [] []) M
  | _ => False
@[reducible] def wExv (C : Addr) (w : WE) : WE := fun sd M k kx => w sd M (kExv C k) kx
theorem e_exv (c : ExC X.K X.mg x C) (hg : Gl X x) (he : SE X e w) (hs : starEach [e] X.env = (false, eval e X.env) :: starEach [] X.env := by rfl) (hdb : (x == ("__debug__" : Str)) = false := by decide) :
    SE X (.Call (.Name x p) [e] [] pos) (wExv C w) := fun Wx tk =>
  PE.imp (PE.gh (pe_exv PySem.F.excBase_ValueError c.q c.g c.kp hg (he Wx tk) hs hdb)) fun σ H Q hh => by
    obtain ⟨sd, M, k, kx, rs, rm, h, po, px⟩ := hh
    refine ⟨sd, M, _, kx, rs, rm, h, fun v H1 d M1 r1 rs1 rm1 k1 h1 => ?_, px⟩
    cases d with
    | str s =>
      cases r1
      intro a t ha ht hne pins σ' s' I
      obtain ⟨ob, I2⟩ := I.lock (d := a) (u := ExV a C t) upd_same True.intro
      rw [upd_upd] at I2
      have ok : ObjOk X.prog X.w _ s'.heap a (.frz ob (ExV a C t)) := I2.hok a _ upd_same
      obtain ⟨e1, e2⟩ := ok
      have e3 : s'.heap.get? a = some ({ cls := .ref C, data := .fields #[.ref t, .none, .none, .none, .bool false, .none] } : Obj) := e2.1
      have e4 := Option.some.inj (e1.symm.trans e3)
      subst e4
      have ha' : upd H1 t (.tup [V.str s]) a = none := by rw [upd_ne (Ne.symm hne)]; exact ha
      have kp : Kp M1 H1 M1 (upd (upd H1 t (.tup [V.str s])) a (.frz { cls := .ref C, data := .fields #[.ref t, .none, .none, .none, .bool false, .none] } (ExV a C t))) := (Kp.new ht).trans (Kp.new ha')
      refine ⟨_, I2, po _ _ _ M1 (Rep.exc (ws := []) ⟨_, _, t, _, upd_same, rfl, rfl, rfl, fun x ex => ?_, rfl⟩ .nil) (rs1.kp kp) ((rm1.lay ht).lay ha') (k1.trans kp) h1⟩
      cases ex
      rw [upd_ne hne, upd_same]
    | _ => exact h1.elim
@[reducible] def kExvI (C : Addr) (f : Str) (k : KE) : KE := fun d M => k (.exc C none [f] [d]) M
@[reducible] def wExvI (C : Addr) (f : Str) (w : WE) : WE := fun sd M k kx => w sd M (kExvI C f k) kx
theorem e_exvI (c : ExI X.prog X.w X.K X.mg X.base x f C) (hr : Room 2 X.A) (hg : Gl X x) (he : SE X e w) (hdb : (x == ("__debug__" : Str)) = false := by decide)
    (hs : starEach (e :: []) X.env = (false, eval e X.env) :: starEach [] X.env := by rfl) (hpl : (backTo pos (starEach [] X.env)).any (·.1) = false := by rfl) :
    SE X (.Call (.Name x p) [e] [] pos) (wExvI C f w) := fun Wx tk => by
  obtain ⟨fI, fd, ps, iC, tI, F1, hb⟩ := c.ini
  refine PE.imp (PE.gh (pe_exvI c.T iC tI F1 hr hb (passes_call tk fun _ _ _ _ h => h.elim) hg c.g (pa_cons (he Wx tk) pa_nil hs) hdb hs hpl)) fun σ H Q hh => ?_
  obtain ⟨sd, M, k, kx, rs, rm, h, po, px⟩ := hh
  refine ⟨sd, M, _, kx, rs, rm, h, fun v H1 d M1 r1 rs1 rm1 k1 h1 => ?_, px⟩
  refine ⟨by show 1 ≤ 1000; decide, fun a ha => ⟨a, C, v, rfl, c.T, c.no, upd_same, fun dx hdx hne => ⟨rfl, ?_⟩⟩⟩
  intro pins σ' s' I
  have hd0 : H1 dx = none := by rw [upd_ne hne] at hdx; exact hdx
  obtain ⟨oa, I2⟩ := I.lock (d := a) (u := exo a C (some dx)) upd_same True.intro
  rw [upd_upd] at I2
  have h2 : upd (upd (upd H1 a (exo a C none)) dx (exd dx [(f, v)])) a (.frz oa (exo a C (some dx))) dx = some (exd dx [(f, v)]) := by rw [upd_ne hne, upd_same]
  obtain ⟨od, I3⟩ := I2.lock (d := dx) (u := exd dx [(f, v)]) h2 True.intro
  have e1 : upd (upd (upd (upd H1 a (exo a C none)) dx (exd dx [(f, v)])) a (.frz oa (exo a C (some dx)))) dx (.frz od (exd dx [(f, v)])) = upd (upd H1 a (.frz oa (exo a C (some dx)))) dx (.frz od (exd dx [(f, v)])) := by
    funext b
    by_cases h1 : b = dx
    · rw [h1, upd_same, upd_same]
    · rw [upd_ne h1, upd_ne h1]
      by_cases h2 : b = a
      · rw [h2, upd_same, upd_same]
      · rw [upd_ne h2, upd_ne h2, upd_ne h1, upd_ne h2]
  rw [e1] at I3
  have ok : ObjOk X.prog X.w _ s'.heap a (.frz oa (exo a C (some dx))) := I3.hok a _ (by rw [upd_ne (Ne.symm hne), upd_same])
  obtain ⟨g1, g2⟩ := ok
  have g3 : ∃ t1 : Addr, s'.heap.get? a = some ({ cls := .ref C, dict := some dx, data := .fields #[.ref t1, .none, .none, .none, .bool false, .none] } : Obj) := g2.1
  obtain ⟨t1, g3⟩ := g3
  have g4 := Option.some.inj (g1.symm.trans g3)
  subst g4
  have hd' : upd H1 a (.frz { cls := .ref C, dict := some dx, data := .fields #[.ref t1, .none, .none, .none, .bool false, .none] } (exo a C (some dx))) dx = none := by rw [upd_ne hne]; exact hd0
  have kp : Kp M1 H1 M1 (upd (upd H1 a (.frz { cls := .ref C, dict := some dx, data := .fields #[.ref t1, .none, .none, .none, .bool false, .none] } (exo a C (some dx)))) dx (.frz od (exd dx [(f, v)]))) := (Kp.new ha).trans (Kp.new hd')
  exact ⟨_, I3, po _ _ _ M1 (Rep.exc (ws := [(f, v)]) ⟨_, _, t1, _, by rw [upd_ne (Ne.symm hne), upd_same], rfl, rfl, rfl, (fun x ex => by cases ex), (by exact ⟨od, upd_same⟩)⟩ (.cons (r1.kp kp) .nil)) (rs1.kp kp) ((rm1.lay ha).lay hd') (k1.trans kp) h1⟩
end
end DL
namespace DL
open PySem PySem.Spec PyProof.Rows L2
/-- what a class of errors must say, so that isinstance, str and the fields of its errors are read rightly -/
structure XisC (K : PySem.W.Frag) (C : Addr) : Prop where
  cl : (PySem.W.clsIn K C).isSome = true
  ga : PySem.W.findIn K (.ref C) "__getattribute__" = some (some (.builtin "BaseException.__getattribute__"))
  gt : PySem.W.findIn K (.ref C) "__getattr__" = some none
  sub : PySem.W.subIn K (.ref C) (.type "BaseException") = some true
  ha : PySem.W.findIn K (.ref C) "__class__" = some (some (.builtin "object.__class__"))
  hn : PySem.W.specialIn K (.builtin "object.__class__") "__get__" = some (some (.builtin "getset_descriptor.__get__"))
  ht : PySem.W.takesIn K (.builtin "object.__class__") = some true
  hm : PySem.W.mroIn K C (.type "object") = some true
  st : PySem.W.findIn K (.ref C) "__str__" = some (some (.builtin "BaseException.__str__"))
  hd : PySem.W.hasDictIn K C = true
def xisB (K : PySem.W.Frag) (C : Addr) : Bool :=
  (PySem.W.clsIn K C).isSome && (decide (PySem.W.findIn K (.ref C) "__getattribute__" = some (some (.builtin "BaseException.__getattribute__"))) && (decide (PySem.W.findIn K (.ref C) "__getattr__" = some none) &&
  (decide (PySem.W.subIn K (.ref C) (.type "BaseException") = some true) && (decide (PySem.W.findIn K (.ref C) "__class__" = some (some (.builtin "object.__class__"))) &&
  (decide (PySem.W.specialIn K (.builtin "object.__class__") "__get__" = some (some (.builtin "getset_descriptor.__get__"))) && (decide (PySem.W.takesIn K (.builtin "object.__class__") = some true) &&
  (decide (PySem.W.mroIn K C (.type "object") = some true) && (decide (PySem.W.findIn K (.ref C) "__str__" = some (some (.builtin "BaseException.__str__"))) && PySem.W.hasDictIn K C))))))))
theorem xisB_ok {K : PySem.W.Frag} {C : Addr} (h : xisB K C = true) : XisC K C := by
  unfold xisB at h
  simp only [Bool.and_eq_true, decide_eq_true_eq] at h
  obtain ⟨h1, h2, h3, h4, h5, h6, h7, h8, h9, h10⟩ := h
  exact ⟨h1, h2, h3, h4, h5, h6, h7, h8, h9, h10⟩
section
variable {X : Cx} {e o : Expr} {te : TE} {p pos : Pos} {n : Str}
theorem ExcAt.inst {P : Program} {w : World} {H : Hp} {h : Heap} {a C : Addr} {m : Option Str} {ws : List (Str × V)} (ok : HOk P w H h) (x : ExcAt H a C m ws) : ∃ (o : Obj) (od : Option Obj), PySem.W.InstAt h a o C od := by
  obtain ⟨o, u, t, vs, h1, h2, h3, h4, h5, h6⟩ := x
  have q := (ok a _ h1).1
  have nc : PySem.W.notCls o = true := by unfold PySem.W.notCls; rw [h3] <;> rfl
  cases hd : o.dict with
  | none => exact ⟨o, none, q, h2, nc, by rw [hd]; exact trivial⟩
  | some dx =>
    rw [hd] at h6
    obtain ⟨od, h7⟩ := h6
    exact ⟨o, some od, q, h2, nc, by rw [hd]; exact (ok dx _ h7).1⟩
theorem call_isx : CallR X (.builtin "isinstance") (fun xs H Q => ∃ (a : Addr) (c : V) (cv : Value) (b : Bool) (C : Addr) (m : Option Str) (ws : List (Str × V)), xs = [.ref a, c] ∧ ExcAt H a C m ws ∧ XisC X.K C ∧ (∀ u, RelV c u → u = cv) ∧ PySem.W.kitOne X.K (.ref C) cv = some b ∧ Q (.bl b) H) := by
  intro pins s σ H xs us Q I r h
  obtain ⟨a, c, cv, b, C, m, ws, rfl, x, T, hcv, e, q⟩ := h
  cases r with
  | cons rx rr =>
    cases rr with
    | cons rt rr =>
      cases rr
      cases rx
      have ec := hcv _ rt
      subst ec
      obtain ⟨o, od, J⟩ := x.inst I.hok
      exact PySem.W.kia_one (PySem.W.kitx_exc T.cl T.ga T.gt T.sub T.ha T.hn T.ht T.hm) I.kIn J e (fun z => nomatch z) fun tk => ⟨.bl b, H, I.tok tk, rfl, q⟩
theorem call_strx {k : Nat} (hr : Room k X.A) : CallR X (.type "str") (fun xs H Q => ∃ (a C : Addr) (x : Str) (ws : List (Str × V)), xs = [.ref a] ∧ ExcAt H a C (some x) ws ∧ XisC X.K C ∧ Q (.str x) H) := by
  intro pins s σ H xs us Q I r h
  obtain ⟨a, C, x, ws, rfl, ⟨o, u, t, vs, h1, h2, h3, h4, h5, h6⟩, T, q⟩ := h
  cases r with
  | cons rx rr =>
    cases rr
    cases rx
    have ht : ObjOk X.prog X.w H s.heap t (.tup [.str x]) := I.hok t _ (h5 x rfl)
    obtain ⟨_, its, rv, ot, g1, g2, n, g3⟩ := ht
    cases rv with
    | cons ry rr =>
      cases rr
      obtain ⟨tk, rfl⟩ := ry
      exact PySem.P.str_of_C_one (by have := hr.un; omega) ⟨I.kIn, o, vs, (I.hok a _ h1).1, h2, h3, h4⟩ ⟨ot, n, g1, g2, g3⟩ T.st T.sub ⟨.str x, H, I, ⟨tk, rfl⟩, q⟩
theorem pe_xat (he : PE X e te) (hb : attributeBase e n X.env (eval e X.env) = eval e X.env := by rfl) :
    PE X (.Attribute e n pos) (fun σ H Q => te σ H fun x H1 => ∃ (a C : Addr) (m : Option Str) (ws : List (Str × V)) (v : V), x = .ref a ∧ ExcAt H1 a C m ws ∧ XisC X.K C ∧ PySem.W.findIn X.K (.ref C) n = some none ∧ ws.lookup n = some v ∧ Q v H1) := by
  refine ⟨fun pins s σ H Q I h => attr_of hb (thn (he.run pins s σ H _ I h) fun u s1 hh => ?_)⟩
  obtain ⟨x, H1, I1, rx, a, C, m, ws, v, ex, ⟨o, w, t, vs, h1, h2, h3, h4, h5, h6⟩, T, hno, l, q⟩ := hh
  subst ex
  obtain rfl : u = Value.ref a := rx
  have nc : PySem.W.notCls o = true := by unfold PySem.W.notCls; rw [h3] <;> rfl
  cases hd : o.dict with
  | none =>
    rw [hd] at h6
    have e0 : ws = [] := h6
    subst e0
    cases l
  | some dx =>
    rw [hd] at h6
    obtain ⟨od, h7⟩ := h6
    have ok : ObjOk X.prog X.w H1 s1.heap dx (.frz od (exd dx ws)) := I1.hok dx _ h7
    obtain ⟨g1, g2⟩ := ok
    have g3 : ∃ mA, s1.heap.Ns1 dx mA ∧ ∀ f, RelO (ws.lookup f) (mA f) := g2.1
    obtain ⟨mA, hns, hr⟩ := g3
    obtain ⟨od2, ho, hl⟩ := lookIn_ns hns
    obtain ⟨u, hu, ru⟩ := RelO.some_of (v := v) (o := mA n) (by rw [← l]; exact hr n)
    have J : PySem.W.InstAt s1.heap a o C (some od2) := ⟨(I1.hok a _ h1).1, h2, nc, by rw [hd]; exact ho⟩
    exact HandSPX.exc_get I1.kIn J T.ga T.gt T.sub (PySem.W.findObj_own T.hd hno rfl (by rw [hl, hu])) (handed_of ru) ⟨v, H1, I1.tok _, ru, q⟩
end
variable [TL : TabList]
theorem Rep.exc_inv {K : PySem.W.Frag} {H : Hp} {v : V} {C : Addr} {m : Option Str} {ns : List Str} {ds : List D} (h : Rep K H v (.exc C m ns ds)) : ∃ (a : Addr) (ws : List (Str × V)), v = .ref a ∧ ns = ws.map (·.1) ∧ ExcAt H a C m ws ∧ Reps K H (ws.map (·.2)) ds := by
  cases h with
  | exc a b => exact ⟨_, _, rfl, rfl, a, b⟩
section
variable {X : Cx} {e o : Expr} {w : WE} {p p2 pos : Pos} {x f : Str} {C : Addr}
@[reducible] def kitD (K : PySem.W.Frag) (C : Addr) : D → Option Bool
  | .ref E => PySem.W.kitOne K (.ref C) (.ref E)
  | .ty T => PySem.W.kitOne K (.ref C) (.type T)
  | _ => none
@[reducible] def cIsx (K : PySem.W.Frag) : CD := fun ds M k => match ds with
  | [.exc C _ _ _, y] => XisC K C ∧ ∃ b, kitD K C y = some b ∧ k (.bl b) M
  | _ => False
theorem c_isx : CallD X (.builtin "isinstance") (cIsx X.K) := cd_of call_isx fun xs H Q ds M k r rm hr po => by
  match ds, r, hr with
  | [.exc C _ _ _, y], r, hr =>
    obtain ⟨T, b, e, hk⟩ := hr
    obtain ⟨v, w, rfl, rv, rw'⟩ := reps2 r
    obtain ⟨a, ws, rfl, _, x, _⟩ := rv.exc_inv
    cases y with
    | ref E => cases rw'; exact ⟨a, _, .ref E, b, C, _, ws, rfl, x, T, fun u z => z, e, gh_id (po _ H _ M (.bl _) rm (.refl _ _) hk)⟩
    | ty n => cases rw'; exact ⟨a, _, .type n, b, C, _, ws, rfl, x, T, fun u z => z, e, gh_id (po _ H _ M (.bl _) rm (.refl _ _) hk)⟩
    | _ => cases e
@[reducible] def cStrx (K : PySem.W.Frag) : CD := fun ds M k => match ds with
  | [.exc C (some s) _ _] => XisC K C ∧ k (.str s) M
  | _ => False
theorem c_strx {k : Nat} (hr : Room k X.A) : CallD X (.type "str") (cStrx X.K) := cd_of (call_strx hr) fun xs H Q ds M k r rm hr po => by
  match ds, r, hr with
  | [.exc C (some s) _ _], r, hr =>
    obtain ⟨T, hk⟩ := hr
    obtain ⟨v, rfl, rv⟩ := reps1 r
    obtain ⟨a, ws, rfl, _, x, _⟩ := rv.exc_inv
    exact ⟨a, C, s, ws, rfl, x, T, gh_id (po _ H _ M (.str _) rm (.refl _ _) hk)⟩
@[reducible] def kXat (K : PySem.W.Frag) (f : Str) (k : KE) : KE := fun d M => match d with
  | .exc C _ [n] [v] => n = f ∧ XisC K C ∧ PySem.W.findIn K (.ref C) f = some none ∧ k v M
  | _ => False
@[reducible] def wXat (K : PySem.W.Frag) (f : Str) (w : WE) : WE := fun sd M k kx => w sd M (kXat K f k) kx
theorem e_xat (he : SE X e w) (hb : attributeBase e f X.env (eval e X.env) = eval e X.env := by rfl) : SE X (.Attribute e f pos) (wXat X.K f w) := fun Wx tk =>
  PE.imp (pe_xat (he Wx tk) hb) fun σ H Q hh => by
    obtain ⟨sd, M, k, kx, rs, rm, h, po, px⟩ := hh
    refine ⟨sd, M, _, kx, rs, rm, h, fun v H1 d M1 r1 rs1 rm1 k1 h1 => ?_, px⟩
    match d, r1, h1 with
    | .exc C m [n] [y], r1, h1 =>
      obtain ⟨rfl, T, hno, hk⟩ := h1
      obtain ⟨a, ws, rfl, e1, x, rr⟩ := r1.exc_inv
      match ws, e1, rr, x with
      | [(n', z)], e1, rr, x =>
        cases e1
        cases rr with
        | cons a1 _ => exact ⟨a, C, m, _, z, rfl, x, T, hno, by simp, po _ H1 _ M1 a1 rs1 rm1 k1 hk⟩
end
end DL
namespace DL
open PySem PySem.Spec PyProof.Rows L2
/-! ### facts of own classes of errors with an __init__, and what a Bool tells of them -/
theorem bt_isinstance : bootBuiltins "isinstance" = some (.builtin "isinstance") := by decide +kernel
theorem bt_ValueError : bootBuiltins "ValueError" = some (.type "ValueError") := by decide +kernel
def oexB (K : PySem.W.Frag) (C : Addr) : Bool := match K.lookup C with
  | some ⟨.type "type", _, .cls cd, sl⟩ => (match cd.mro, sl.toList with
    | .ref C' :: bm, [_, _, _, _, some (.builtin n), _] => decide (C' = C) && (decide (n = "ValueError.__new__") && (!cd.hasDel && (cd.hasDict && PySem.HandSPX.refsVE bm)))
    | _, _ => false)
  | _ => false
theorem oexB_ok {K : PySem.W.Frag} {C : Addr} (h : oexB K C = true) : ∃ nm q N bs bm sn sub ab col dd k0 k1 k2 k3 k5, K.lookup C = some (excClassObj nm q C N bs bm true sn sub ab col dd k0 k1 k2 k3 k5 "ValueError.__new__") ∧ PySem.HandSPX.refsVE bm = true := by
  unfold oexB at h
  split at h
  · rename_i dd cd sl ho
    split at h
    · rename_i C' bm k0 k1 k2 k3 n k5 hm hs
      simp only [Bool.and_eq_true, decide_eq_true_eq, Bool.not_eq_true'] at h
      obtain ⟨rfl, rfl, h1, h2, h3⟩ := h
      obtain ⟨nm, bs, mro, ns, qn, hd, sn, sub, ab, col, del⟩ := cd
      dsimp only at hm h1 h2
      subst hm h1 h2
      obtain ⟨l⟩ := sl
      simp only at hs
      subst hs
      exact ⟨nm, qn, ns, bs, bm, sn, sub, ab, col, dd, k0, k1, k2, k3, k5, ho, h3⟩
    · cases h
  · cases h
def exiB (K : PySem.W.Frag) (C fI : Addr) (f : Str) : Bool :=
  oexB K C && (decide (PySem.W.findIn K (.ref C) "__setattr__" = some (some (.builtin "object.__setattr__"))) && (decide (PySem.W.subIn K (.ref C) (.type "BaseException") = some true) &&
  (decide (PySem.W.typeIn K (.ref C) = some (.type "type")) && (PySem.W.keepIn K (.ref C) && (decide (PySem.W.findIn K (.ref C) f = some none) &&
  (decide (PySem.W.findIn K (.ref C) "__init__" = some (some (.ref fI))) && decide (PySem.W.typeIn K (.ref fI) = some (.type "function"))))))))
theorem exi_of {P : Program} {w : World} {K : PySem.W.Frag} {mg : Str → Option Value} {base : Heap} {x f : Str} {C fI : Addr} {fd : FuncData} {ps : List Str} (g : mg x = some (.ref C)) (h : exiB K C fI f = true) (F : FnOk P w K mg base (L2.CX P w) 1 fI fd ps (spXI K f)) (b : Binds K fd ps []) : ExI P w K mg base x f C := by
  unfold exiB at h
  simp only [Bool.and_eq_true, decide_eq_true_eq] at h
  obtain ⟨h1, h2, h3, h4, h5, h6, h7, h8⟩ := h
  exact ⟨g, ⟨oexB_ok h1, h2, h3, h4, h5⟩, h6, fI, fd, ps, h7, h8, F, b⟩
def cinB (K : PySem.W.Frag) (C : Addr) : Bool :=
  decide (PySem.W.specialIn K (.ref C) "__getattribute__" = some (some (.builtin "type.__getattribute__"))) && (PySem.W.readsIn K C (.type "type") && (decide (PySem.W.typeIn K (.ref C) = some (.type "type")) &&
  (match PySem.W.findCls K (.ref C) (.type "type") "__init__" with
    | some (.val (.builtin n)) => decide (n = "ValueError.__init__")
    | _ => false)))
theorem cin_of {K : PySem.W.Frag} {mg : Str → Option Value} {x : Str} {C : Addr} (g : mg x = some (.ref C)) (h : cinB K C = true) : InitC K mg x C := by
  unfold cinB at h
  simp only [Bool.and_eq_true, decide_eq_true_eq] at h
  obtain ⟨h1, h2, h3, h4⟩ := h
  refine ⟨g, h1, h2, h3, ?_⟩
  split at h4
  · rename_i n e
    rw [e, of_decide_eq_true h4]
  · cases h4
/-- a method of the text, as the head tells it -/
abbrev dmOf (c m q : Str) (st : Stmt) : He.DefD := ⟨(c, some m), m, q, defArgs st, defBody st, defScope st, [], []⟩
theorem fun_ofM {K : PySem.W.Frag} {m q : Str} {st : Stmt} {f : Addr} {fd : FuncData} (F : FunD K m q (defArgs st) (defBody st) (defScope st) [] [] f fd) : Fun K m q st f fd := by
  obtain ⟨oc, od, dV, kV, doc, pm, an, cdv, ct, osl, e, lk, hcd, hD, hK⟩ := F.ex
  rcases hD with ⟨_, rfl⟩ | ⟨e, _⟩
  · exact ⟨⟨oc, od, kV, doc, pm, an, cdv, ct, osl, e, lk, hcd⟩, F.kp⟩
  · exact absurd rfl e
/-- two classes of errors asked: is the one the other, or over it -/
def kitB2 (K : PySem.W.Frag) (x y : String) (b : Bool) : Bool := decide (PySem.W.kitOne K (.ref (He.ga K x)) (.ref (He.ga K y)) = some b)
def kitsB (K : PySem.W.Frag) (l : List String) (r : String → String → Bool) : Bool := l.all fun x => xisB K (He.ga K x) && (decide (PySem.W.kitOne K (.ref (He.ga K x)) (.type "ValueError") = some true) && l.all fun y => kitB2 K x y (r x y))
structure Kits (K : PySem.W.Frag) (cl : String → Addr) (l : List String) (r : String → String → Bool) : Prop where
  xis : ∀ x ∈ l, XisC K (cl x)
  kit : ∀ x ∈ l, ∀ y ∈ l, PySem.W.kitOne K (.ref (cl x)) (.ref (cl y)) = some (r x y)
  kitV : ∀ x ∈ l, PySem.W.kitOne K (.ref (cl x)) (.type "ValueError") = some true
theorem kits_of {K : PySem.W.Frag} {l : List String} {r : String → String → Bool} (h : kitsB K l r = true) : Kits K (fun x : String => He.ga K x) l r := by
  unfold kitsB at h
  have key : ∀ x ∈ l, xisB K (He.ga K x) = true ∧ PySem.W.kitOne K (.ref (He.ga K x)) (.type "ValueError") = some true ∧ ∀ y ∈ l, PySem.W.kitOne K (.ref (He.ga K x)) (.ref (He.ga K y)) = some (r x y) := fun x hx => by
    have h2 := List.all_eq_true.mp h x hx
    simp only [Bool.and_eq_true, decide_eq_true_eq] at h2
    exact ⟨h2.1, h2.2.1, fun y hy => of_decide_eq_true (List.all_eq_true.mp h2.2.2 y hy)⟩
  exact ⟨fun x hx => xisB_ok (key x hx).1, fun x hx y hy => (key x hx).2.2 y hy, fun x hx => (key x hx).2.1⟩
end DL
namespace DL
open PySem PySem.Spec PyProof.Rows L2
theorem exi_no {K : PySem.W.Frag} {C fI : Addr} {f : Str} (h : exiB K C fI f = true) : PySem.W.findIn K (.ref C) f = some none := by
  unfold exiB at h
  simp only [Bool.and_eq_true, decide_eq_true_eq] at h
  exact h.2.2.2.2.2.1
end DL
namespace DL
open PySem PySem.Spec PyProof.Rows L2
/-! ### the head's facts, the interpreter's own statics looked at, too -/
def asY (g : Addr → Option Obj) (n : Nat) : List Addr := He.asD g n ++ [cStatics]
def obsY (n : Nat) (fa : List He.Fa) (fn : List He.DefD) (ts : List He.Tab) (tf : List He.Defn) (ex : PySem.W.Frag → Bool) (g : Addr → Option Obj) : He.AlX :=
  (He.obsT fa fn ts (He.frT g (asY g n)), ex (He.frT g (asY g n)) && He.tabsB g tf (He.frT g (asY g n)))
section
variable {n : Nat} {fa : List He.Fa} {fn : List He.DefD} {ts : List He.Tab} {tf : List He.Defn} {ex : PySem.W.Frag → Bool} {w : World} {h : Heap}
theorem tabsB_at {K : PySem.W.Frag} (e : He.tabsB h.get? tf K = true) {p : He.Defn} (hp : p ∈ tf) : PySem.W.codeHdIn K (He.cT K p).1 (He.cT K p).2 = true ∧ ∃ o, h.get? (He.cT K p).2 = some o ∧ He.emptyTab o = true := by
  have q := List.all_eq_true.mp e p hp
  rw [Bool.and_eq_true] at q
  refine ⟨q.1, ?_⟩
  have q2 := q.2
  revert q2
  cases h.get? (He.cT K p).2 with
  | none => exact fun z => by cases z
  | some o => exact fun z => ⟨o, rfl, z⟩
theorem saysY_of (e : obsY n fa fn ts tf ex h.get? = He.valX fn ts w) : He.SaysX fa fn ts tf ex w h (He.frT h.get? (asY h.get? n)) := by
  have e1 : He.obsT fa fn ts (He.frT h.get? (asY h.get? n)) = He.valT fn ts w := (Prod.mk.inj e).1
  have e2 : (ex (He.frT h.get? (asY h.get? n)) && He.tabsB h.get? tf (He.frT h.get? (asY h.get? n))) = true := (Prod.mk.inj e).2
  rw [Bool.and_eq_true] at e2
  refine { t := e1, more := e2.1, hd := fun p hp => (tabsB_at e2.2 hp).1, out := fun p hp => ?_, empty := fun p hp => ?_ }
  · obtain ⟨_, o, q, z⟩ := tabsB_at e2.2 hp
    exact He.frT_none q z
  · obtain ⟨_, o, q, z⟩ := tabsB_at e2.2 hp
    rw [q, He.emptyTab_eq z]
end
def hookY (n : Nat) (fa : List He.Fa) (fn : List He.DefD) (ts : List He.Tab) (tf : List He.Defn) (ex : PySem.W.Frag → Bool) : PySem.W.Hook :=
  { α := He.AlX, obs := fun s => obsY n fa fn ts tf ex s.heap.get?, val := fun w => He.valX fn ts w, says := fun w h => ∃ K : PySem.W.Frag, K.In h ∧ He.SaysX fa fn ts tf ex w h K,
    of := fun _ _ e => ⟨_, He.frT_in, saysY_of e⟩,
    keeps := fun _ _ _ ⟨K, i, c⟩ k => ⟨K, PySem.W.Frag.In.keeps i k, { t := c.t, more := c.more, hd := c.hd, out := c.out, empty := fun p hp => k _ _ (c.empty p hp) }⟩ }
theorem obsY_eq {n : Nat} {fa : List He.Fa} {fn : List He.DefD} {ts : List He.Tab} {tf : List He.Defn} {ex : PySem.W.Frag → Bool} {g : Addr → Option Obj} {s : Shared} (h : ∀ a, g a = s.heap.get? a) : obsY n fa fn ts tf ex g = (hookY n fa fn ts tf ex).obs s := by
  have e : g = s.heap.get? := funext h
  subst e
  rfl
end DL
namespace DL
open PySem PySem.Spec PyProof.Rows L2
/-! ### a dict of the module, told whole: its keys texts, its values ints -/
def entF (e : DictEntry) : Option (Str × Int) := match e.key, e.val with
  | .str y _, .int i _ => some (y, i)
  | _, _ => none
def dicB (K : PySem.W.Frag) (d : Addr) (kv : List (Str × Int)) : Bool := match K.lookup d with
  | some ⟨_, _, .dict es _, _⟩ => decide (es.toList.map entF = kv.map some)
  | _ => false
theorem ents_in (z : Str) : ∀ {l : List DictEntry} {kv : List (Str × Int)}, l.map entF = kv.map some → ((∃ i t en, kv.lookup z = some i ∧ l.find? (·.key.isStr z) = some en ∧ en.val = .int i t) ∨ (kv.lookup z = none ∧ l.find? (·.key.isStr z) = none)) ∧ l.any (·.refKey) = false
  | [], [], _ => ⟨.inr ⟨rfl, rfl⟩, rfl⟩
  | [], _ :: _, h => by cases h
  | _ :: _, [], h => by cases h
  | e :: l, (y, i) :: kv, h => by
    have h1 : entF e = some (y, i) ∧ l.map entF = kv.map some := by simpa using h
    obtain ⟨ih, ih2⟩ := ents_in z h1.2
    obtain ⟨he, _⟩ := h1
    unfold entF at he
    split at he
    · rename_i y' t i' t' ek ev
      cases he
      have r1 : e.refKey = false := by unfold DictEntry.refKey; rw [ek]
      refine ⟨?_, by rw [List.any_cons, r1, ih2]; rfl⟩
      by_cases hz : z = y
      · subst hz
        have q : e.key.isStr z = true := by rw [ek]; simp [Value.isStr]
        exact .inl ⟨i, t', e, by simp, by rw [List.find?_cons, q], ev⟩
      · have q : e.key.isStr z = false := by
          rw [ek]
          have : y ≠ z := fun e => hz e.symm
          simpa [Value.isStr] using this
        have q2 : (z == y) = false := by simpa using hz
        rw [List.find?_cons, q, List.lookup_cons, q2]
        exact ih
    · cases he
theorem dic_in {K : PySem.W.Frag} {d : Addr} {kv : List (Str × Int)} (h : dicB K d kv = true) (z : Str) : (∃ i t, kv.lookup z = some i ∧ PySem.W.nsIn K d z = some (some (.int i t))) ∨ (kv.lookup z = none ∧ PySem.W.nsIn K d z = some none) := by
  unfold dicB at h
  split at h
  · rename_i c dd es n sl ho
    obtain ⟨h1, h2⟩ := ents_in z (of_decide_eq_true h)
    unfold PySem.W.nsIn
    rw [ho]
    rcases h1 with ⟨i, t, en, e1, e2, e3⟩ | ⟨e1, e2⟩
    · exact .inl ⟨i, t, e1, by simp only [e2, e3]⟩
    · exact .inr ⟨e1, by simp only [e2, h2]; rfl⟩
  · cases h
variable [TL : TabList]
section
variable {X : Cx} {k : Nat} {p1 p2 p3 p pos : Pos} {n : Int}
theorem pe_negc : PE X (.UnaryOp .USub (.Constant (.int n) k p1) p) (tC (.int (-n))) := PE.imp (pe_un un_neg pe_int) fun σ H Q h => ⟨n, rfl, h⟩
end
section
variable {X : Cx} {e o tg : Expr} {w wo we : WE} {kk : Nat} {p p1 p2 p3 apos pos : Pos}
@[reducible] def opNotInKd (K : PySem.W.Frag) (d : Addr) : OPD := fun x y M k => match x, y with
  | .str z, .ref a => a = d ∧ ∃ r, PySem.W.nsIn K d z = some r ∧ k (.bl (bnot r.isSome)) M
  | _, _ => False
theorem o_notInKd {d : Addr} (h : ∃ es n, KDict X.K X.w d es n) : OpD X (compareOp .NotIn) (opNotInKd X.K d) := by
  obtain ⟨es, n, D⟩ := h
  refine opd_of (op_notIn_kd D) fun x y H Q dx dy M k r1 r2 rm hr po => ?_
  cases dx with
  | str z =>
    cases dy with
    | ref a =>
      obtain ⟨rfl, r, e, hk⟩ := hr
      cases r1
      cases r2
      exact ⟨z, r, rfl, rfl, e, po _ H _ M (.bl _) rm (.refl _ _) (by rw [bnot_eq] at hk; exact hk)⟩
    | _ => exact hr.elim
  | _ => exact hr.elim
/-! ### join of a list that may change -/
@[reducible] def kJoinM2 (a : Str) (k : KE) : KE := fun y M => match y with
  | .ref b => ∃ l, M b = some (.lst l) ∧ ∃ ys : List Str, l = ys.map D.str ∧ (ys.map (·.length)).sum + ys.length * a.length ≤ 16777216 ∧ k (.str (Txt.join a ys)) M
  | _ => False
@[reducible] def kJoinM1 (we : WE) (sd : SD) (k : KE) (kx : KX) : KE := fun x M => match x with
  | .str a => we sd M (kJoinM2 a k) kx
  | _ => False
@[reducible] def wJoinM (wo we : WE) : WE := fun sd M k kx => wo sd M (kJoinM1 we sd k kx) kx
theorem e_joinM (ho : SE X o wo) (he : SE X e we) (hs : starEach [e] X.env = [(false, eval e X.env)] := by rfl)
    (hbase : attributeBase o "join" X.env (eval o X.env) = eval o X.env := by rfl) (hline : (apos.endLine == pos.line) = true := by rfl) : SE X (.Call (.Attribute o "join" apos) [e] [] pos) (wJoinM wo we) := fun Wx tk =>
  PE.imp (pe_m1 F.slot_str_join F.type_str_join mt_join (ho Wx tk) (he Wx tk) hs hbase hline) fun σ H Q h => by
    obtain ⟨sd, M, k, kx, rs, rm, h, po, px⟩ := h
    refine ⟨sd, M, _, kx, rs, rm, h, fun v H1 d M1 r1 rs1 rm1 k1 h1 => ?_, px⟩
    cases d with
    | str a =>
      cases r1
      refine ⟨⟨a, rfl⟩, sd, M1, _, kx, rs1, rm1, h1, fun v2 H2 d2 M2 r2 rs2 rm2 k2 h2 => ?_, px.st k1⟩
      cases d2 with
      | ref b =>
        obtain ⟨l, hM, ys, rfl, hl, hk⟩ := h2
        obtain ⟨vs, hb, rv⟩ := rm2 b _ hM
        cases r2
        have e := rv.strs
        subst e
        exact ⟨a, _, ys, rfl, rfl, .inl (SqL.of hb), hl, po _ _ _ _ (.str _) rs2 rm2 (k1.trans k2) hk⟩
      | _ => exact h2.elim
    | _ => exact h1.elim
/-! ### x[::-1] of a list that stands still -/
@[reducible] def kRevL (k : KE) : KE := fun d M => match d with
  | .lst l => k (.lst l.reverse) M
  | _ => False
@[reducible] def wRevL (w : WE) : WE := fun sd M k kx => w sd M (kRevL k) kx
theorem e_revL (he : SE X e w) : SE X (.Subscript e (.Slice none none (some (.UnaryOp .USub (.Constant (.int 1) kk p1) p2)) p3) pos) (wRevL w) := fun Wx tk =>
  PE.imp (PE.gh (pe_revL (he Wx tk))) fun σ H Q h => by
    obtain ⟨sd, M, k, kx, rs, rm, h, po, px⟩ := h
    refine ⟨sd, M, _, kx, rs, rm, h, fun v H1 d M1 r1 rs1 rm1 k1 h1 => ?_, px⟩
    cases d with
    | lst l =>
      cases r1 with
      | lst sq tt => exact ⟨_, _, rfl, sq.sq, fun q hq => post_frz (fun v4 H4 d4 M4 r4 rm4 s4 h4 => po v4 H4 d4 M4 r4 (rs1.kp s4) rm4 (k1.trans s4) h4) rm1 hq tt.rev h1⟩
    | _ => exact h1.elim
/-! ### a, b = a list -/
@[reducible] def kUnl (is : List Nat) (k : SD → Mm → Prop) (sd : SD) : KE := fun d M => match d with
  | .lst ds => fitN is ds (k (setMany is ds sd) M)
  | _ => False
@[reducible] def wUnl (is : List Nat) (w : WE) : WS := fun ED sd M => w sd M (kUnl is ED.nx sd) (exAt ED sd)
theorem s_unl {is : List Nat} (h : SE X e w) (hg : PG X tg (gUnl X.K is.length (gNames is))) (hs : swapsWithSole [tg] e pos.line X.env = pure false := by rfl) (hw : swappedStores [tg] e X.env = pure none := by rfl)
    (h1 : (assignEach [tg] X.env).map (·.2) = [assign tg X.env] := by rfl) : SS X (.Assign [tg] e pos) (wUnl is w) := fun Wx tk => PS.imp (ps_asg (h Wx tk) hg hs hw h1) fun E σ H h => by
  obtain ⟨ED, sd, M, rs, rm, h, r⟩ := h
  refine ⟨sd, M, _, _, rs, rm, h, fun v H' d M' a b c k q => ?_, r.ex.at⟩
  cases d with
  | lst ds =>
    obtain ⟨hl, hk⟩ := fitN_len q
    cases a with
    | lst sq tt => exact ⟨_, _, rfl, sq.sq, by rw [tt.len, hl], gNames_ok b tt hl fun σ' rs' hw => r.nx σ' H' _ M' rs' c k hk⟩
  | _ => exact q.elim
end
end DL
namespace DL
open PySem PySem.Spec PyProof.Rows L2
variable [TL : TabList]
section
variable {X : Cx} {o i : Expr} {w wi : WE} {pos : Pos} {d : Addr} {K : PySem.W.Frag} {w0 : World}
theorem e_ixKd' (hs : NoSl i) (h : ∃ es n, KDict K w0 d es n) (ho : SE X o w) (hi : SE X i wi) (hK : X.K = K := by rfl) (hw : X.w = w0 := by rfl) : SE X (.Subscript o i pos) (wIxKd K d w wi) := by
  subst hK hw
  exact e_ixKd hs h ho hi
theorem o_inKd' (h : ∃ es n, KDict K w0 d es n) (hK : X.K = K := by rfl) (hw : X.w = w0 := by rfl) : OpD X (compareOp .In) (opInKd K d) := by
  subst hK hw
  exact o_inKd h
theorem o_notInKd' (h : ∃ es n, KDict K w0 d es n) (hK : X.K = K := by rfl) (hw : X.w = w0 := by rfl) : OpD X (compareOp .NotIn) (opNotInKd K d) := by
  subst hK hw
  exact o_notInKd h
end
end DL
namespace DL
open PySem PySem.Spec PyProof.Rows L2
/-- the store without a -/
def dele (M : Mm) (a : Addr) : Mm := fun b => if b = a then none else M b
theorem dele_same {M : Mm} {a : Addr} : dele M a a = none := if_pos rfl
theorem dele_ne {M : Mm} {a b : Addr} (h : b ≠ a) : dele M a b = M b := if_neg h
theorem dele_le (M : Mm) (a : Addr) : Le (dele M a) M := fun b o e => by
  by_cases h : b = a
  · rw [h, dele_same] at e; cases e
  · rw [dele_ne h] at e; exact e
variable [TL : TabList]
section
variable {X : Cx} {e : Expr} {w : WE}
/-- a told list stands still from here on -/
@[reducible] def kFreeze (k : KE) : KE := fun d M => match d with
  | .ref a => ∃ l, M a = some (.lst l) ∧ k (.lst l) (dele M a)
  | _ => False
@[reducible] def wFreeze (w : WE) : WE := fun sd M k kx => w sd M (kFreeze k) kx
theorem e_freeze (h : SE X e w) : SE X e (wFreeze w) := fun Wx tk => ⟨fun pins s σ H Q I q => by
  obtain ⟨sd, M, k, kx, rs, rm, hw, p, px⟩ := q
  refine thn ((h Wx tk).run pins s σ H (fun v H' => ∀ s', Inv X pins σ H' s' → ∃ H3, Inv X pins σ H3 s' ∧ Q v H3) I ⟨sd, M, _, kx, rs, rm, hw, fun v H1 d M1 r1 rs1 rm1 s1 h1 s' I' => ?_, px⟩) fun u s' ⟨v, H', I', r, f⟩ => ?_
  · cases d with
    | ref a =>
      obtain ⟨l, hM, hk⟩ := h1
      obtain ⟨vs, ha, rv⟩ := rm1 a _ hM
      obtain ⟨o, I2⟩ := I'.lock ha True.intro
      refine ⟨_, I2, p _ _ _ (dele M1 a) ?_ (rs1.st (.lst ha)) ((rm1.le (dele_le M1 a)).hid dele_same ha) ⟨s1.stay.trans (.lst ha), fun b u e n w => ?_, fun c x e w => let ⟨o1, e1, w1⟩ := s1.live c x e w; live_upd (.inr fun _ z => HO.noConfusion z) c o1 e1 w1⟩ hk⟩
      · cases r1
        exact .lst (.inl ⟨o, upd_same⟩) (rv.st (.lst ha))
      · obtain ⟨e1, n1⟩ := s1.keep b u e n w
        have hb : b ≠ a := fun z => by rw [z, hM] at n1; cases n1
        exact ⟨by rw [upd_ne hb]; exact e1, by rw [dele_ne hb]; exact n1⟩
    | _ => exact h1.elim
  · obtain ⟨H3, I3, q⟩ := f s' I'
    exact ⟨v, H3, I3, r, q⟩⟩
end
end DL
namespace DL
open PySem PySem.Spec PyProof.Rows L2
variable [TL : TabList]
/-! ### lambdas held as values -/
section
variable {X : Cx} {pins : List (Addr × Obj)} {σ : L2.St} {H : Hp} {s : Shared}
theorem funO_ok {P : Program} {w : World} {H : Hp} {h : Heap} {a : Addr} {q : Str} {params : Arguments} {b : Expr} {sc : Scope} {cs : List (Str × Addr)} {pm : Value} {c' : Addr} {ctv : Value}
    (e : h.get? a = some (PySem.W.kla_obj "<lambda>" q params b sc (cloFrom cs sc.names []) pm c' ctv)) : ObjOk P w H h a (FunO a q params b sc cs pm c' ctv) := ⟨e, ⟨_, e⟩, fun h1 h2 z k => k _ z⟩
/-- a lambda is made and told -/
theorem lam_told {c P : Addr} {params : Arguments} {body : Expr} {scope : Scope} {pos : Pos} {E Q : Value → Shared → Prop} (I : Inv X pins σ H s) (TB : LamX.TabB X.base X.mg c P) (hcode : X.env.code = .ref c)
    (hm : (P, X.env.qual ++ "<lambda>") ∈ TL.T) (hu : ∀ p ∈ TL.T, p.1 = P → p.2 = X.env.qual ++ "<lambda>") (hT : LamX.Tabs TL.T H) (hdef : defaultsOf params X.env = ([], [])) (hfree : ∀ y ∈ scope.names, y.2 = .free → ∃ c, X.env.cells.lookup y.1 = some c)
    (k : ∀ (f c' : Addr) (pm ctv : Value) (H1 : Hp) (s' : Shared), Inv X pins σ (upd H1 f (FunO f (X.env.qual ++ "<lambda>") params body scope X.env.cells pm c' ctv)) s' → LamX.ExtN H H1 → LamX.Tabs TL.T H1 → H1 f = none →
      H1 c' = some (LamX.CodeO c' (X.env.qual ++ "<lambda>")) → Q (.ref f) s') : wpAny (model X.prog X.w) X.A (eval (.Lambda params body scope pos) X.env) Q E s := by
  obtain ⟨ps, p1, p2, p3⟩ := hT _ hm
  have hob : s.heap.get? P = some { cls := .none, data := .fields ps } := I.hok P _ p1
  have hbi : s.heap.BuiltinsAt X.mg P := TB.bm.keeps I.bk
  apply PySem.W.kla_eval hdef
  rcases hc : codeAmong pos ps.toList with _ | cv
  · apply PySem.W.kla_makeFunction (mg := X.mg) (c := c) (P := P) (ps := ps) (closure_ok hfree) I.ok.glob (I.mod.glob.keeps I.bk) hcode (TB.code.keeps I.bk) hob p2 hc TB.gP hbi
    intro c' ctv h' tk k1 k2 k3 ⟨_, oc, vs, t, e0, e1, e2, e3⟩ k5
    cases e0
    have nc : H c' = none := I.hok.fresh k2
    have J := LamX.inv_table (t' := tk) (more := #[rawInt pos.line, rawInt pos.col, .ref c']) (h' := h') I p1 (fun b o hb e => k1 b o hb e) k5 k2 ⟨oc, vs, t, e1, e2, e3⟩
    have ex : LamX.ExtN H (upd (upd H P (.tbl (ps ++ #[rawInt pos.line, rawInt pos.col, .ref c']))) c' (LamX.CodeO c' (X.env.qual ++ "<lambda>"))) := by
      intro b o e n
      by_cases hb : b = c'
      · rw [hb, nc] at e; cases e
      · by_cases hp : b = P
        · rw [hp, p1] at e; cases e; exact absurd rfl (n _)
        · rw [upd_ne hb, upd_ne hp]; exact e
    refine k h'.objs.size c' _ ctv _ _ (J.laid (a := h'.objs.size) (fun b o e => Heap.get?_push_of_some _ e) (Nat.le_refl _) (funO_ok (Heap.get?_push_size _ rfl))) ex (fun p hp => ?_) (J.hok.fresh (Nat.le_refl _)) upd_same
    by_cases hb : p.1 = P
    · rw [hu p hp hb, hb]
      refine ⟨ps ++ #[rawInt pos.line, rawInt pos.col, .ref c'], ?_, ?_, fun pp cv z => ?_⟩
      · rw [upd_ne (fun e => by rw [e, nc] at p1; cases p1), upd_same]
      · rw [Array.toList_append]; exact PySem.TriplesOk_snoc _ _ _ _ p2
      · rw [Array.toList_append] at z
        rcases LamX.among_app _ p2 z with y | y
        · obtain ⟨c0, y1, y2⟩ := p3 pp cv y
          exact ⟨c0, y1, ex _ _ y2 LamX.codeO_ne⟩
        · exact ⟨c', y, upd_same⟩
    · obtain ⟨qs, a1, a2, a3⟩ := hT p hp
      refine ⟨qs, ?_, a2, fun pp cv z => ?_⟩
      · rw [upd_ne (fun e => by rw [e, nc] at a1; cases a1), upd_ne hb]; exact a1
      · obtain ⟨c0, y1, y2⟩ := a3 pp cv z
        exact ⟨c0, y1, ex _ _ y2 LamX.codeO_ne⟩
  · obtain ⟨c', rfl, e⟩ := p3 pos cv hc
    apply PySem.W.kla_makeFunctionHit (mg := X.mg) (c := c) (P := P) (ps := ps) (closure_ok hfree) I.ok.glob (I.mod.glob.keeps I.bk) hcode (TB.code.keeps I.bk) hob p2 hc hbi
    intro ctv h' tk k1 k2
    exact k h'.objs.size c' _ ctv H _ (I.laid (a := h'.objs.size) (fun b o e => Heap.get?_push_of_some _ (k1 b o e)) k2 (funO_ok (Heap.get?_push_size _ rfl))) (fun b o e _ => e) hT (I.hok.fresh k2) e
@[reducible] def wLamV (b : Expr) (sc : Scope) (cs : List (Str × Addr)) : WE := fun _ M k _ => k (.lam b sc cs) M
theorem e_lamV {c P : Addr} {params : Arguments} {body b : Expr} {scope sc : Scope} {pos : Pos} (eb : body = b) (es : scope = sc) (TB : LamX.TabB X.base X.mg c P) (hcode : X.env.code = .ref c)
    (hm : (P, X.env.qual ++ "<lambda>") ∈ TL.T) (hu : ∀ p ∈ TL.T, p.1 = P → p.2 = X.env.qual ++ "<lambda>") (L : LamX.LamS X.env.scope scope) (hdef : defaultsOf params X.env = ([], []))
    (hbind : ∀ (q : Str) (cl : List (Str × Addr)) (pm cv ctv : Value), bindArgs (PySem.W.kla_fn "<lambda>" q params body scope cl pm cv ctv) ⟨[], []⟩ = pure []) :
    SE X (.Lambda params body scope pos) (fun sd M k kx => wLamV b sc X.env.cells sd M k kx) := fun Wx tk => by
  subst eb es
  refine ⟨fun pins s σ H Q I h => ?_⟩
  obtain ⟨sd, M, k, kx, rs, rm, h, po, px⟩ := h
  refine lam_told I TB hcode hm hu rm.tabs hdef (L.has I.ok) fun f c' pm ctv H1 s' I1 eN T1 hf hco => ?_
  have s1 : Kp M H M H1 := ext_kp eN T1
  have r1 : RelM X.K H1 M := ext_rel rm eN T1
  have r2 : RelM X.K (upd H1 f (FunO f (X.env.qual ++ "<lambda>") params body scope X.env.cells pm c' ctv)) M := r1.lay hf
  refine ⟨.ref f, _, I1, rfl, po (.ref f) _ (.lam body scope X.env.cells) M (.lam ⟨_, params, pm, c', ctv, upd_same, ?_, hbind⟩) ((rs.kp s1).st (.new hf)) r2 (s1.trans (Kp.new hf)) h⟩
  rw [upd_ne (fun e => by rw [e, hf] at hco; cases hco)]
  exact hco
end
end DL
namespace DL
open PySem PySem.Spec PyProof.Rows L2
variable [TL : TabList]
/-! ### cells told, and not told -/
/-- the cells tr are told -/
def trH (H : Hp) (tr : List (Addr × Value)) : Hp := fun b => match tr.lookup b with
  | some w => some (CellO b w)
  | none => H b
/-- the cells tr are not told -/
def noH (H : Hp) (tr : List (Addr × Value)) : Hp := fun b => match tr.lookup b with
  | some _ => none
  | none => H b
theorem trH_in {H : Hp} {tr : List (Addr × Value)} {b : Addr} {w : Value} (h : tr.lookup b = some w) : trH H tr b = some (CellO b w) := by unfold trH; rw [h]
theorem trH_out {H : Hp} {tr : List (Addr × Value)} {b : Addr} (h : tr.lookup b = none) : trH H tr b = H b := by unfold trH; rw [h]
theorem noH_in {H : Hp} {tr : List (Addr × Value)} {b : Addr} {w : Value} (h : tr.lookup b = some w) : noH H tr b = none := by unfold noH; rw [h]
theorem noH_out {H : Hp} {tr : List (Addr × Value)} {b : Addr} (h : tr.lookup b = none) : noH H tr b = H b := by unfold noH; rw [h]
theorem noH_none {H : Hp} {tr : List (Addr × Value)} {b : Addr} (h : H b = none) : noH H tr b = none := by
  unfold noH; split
  · rfl
  · exact h
theorem noH_some {H : Hp} {tr : List (Addr × Value)} {b : Addr} {o : HO} (h : noH H tr b = some o) : H b = some o := by
  unfold noH at h; split at h
  · cases h
  · exact h
/-- the cells tr, none of them told by H -/
def Free (H : Hp) (tr : List (Addr × Value)) : Prop := ∀ b w, tr.lookup b = some w → H b = none
theorem trH_keep {H : Hp} {tr : List (Addr × Value)} {b : Addr} {o : HO} (f : Free H tr) (h : H b = some o) : trH H tr b = some o := by
  cases e : tr.lookup b with
  | none => rw [trH_out e]; exact h
  | some w => rw [f b w e] at h; cases h
theorem trH_none {H : Hp} {tr : List (Addr × Value)} {b : Addr} (h : trH H tr b = none) : H b = none := by
  unfold trH at h; split at h
  · cases h
  · exact h
theorem trH_ok {P : Program} {w : World} {H : Hp} {h : Heap} {tr : List (Addr × Value)} (f : Free H tr) (ok : HOk P w H h) (hc : ∀ b w, tr.lookup b = some w → h.IsCell b (some w)) : HOk P w (trH H tr) h := fun b o e => by
  cases q : tr.lookup b with
  | some v =>
    rw [trH_in q] at e
    cases e
    obtain ⟨o, ho, hd⟩ := hc b v q
    exact ⟨⟨o, ho, hd⟩, ⟨o, ho⟩, fun h1 h2 ⟨o, ho, hd⟩ k => ⟨o, k o ho, hd⟩⟩
  | none =>
    rw [trH_out q] at e
    exact (ok b o e).stay (fun c u _ r => r) (fun c r => trH_keep f r) fun c xs r => trH_keep f r
theorem noH_ok {P : Program} {w : World} {H : Hp} {h : Heap} {tr : List (Addr × Value)} (t : ∀ b w, tr.lookup b = some w → H b = some (CellO b w)) (ok : HOk P w H h) : HOk P w (noH H tr) h := fun b o e => by
  have ne : ∀ c u, H c = some u → (∀ φ, u ≠ .ext φ) → noH H tr c = some u := fun c u r n => by
    cases q : tr.lookup c with
    | none => rw [noH_out q]; exact r
    | some v => rw [t c v q] at r; cases r; exact absurd rfl (n _)
  exact (ok b o (noH_some e)).stay (fun c u _ r => r) (fun c r => ne c _ r fun φ z => HO.noConfusion z) fun c xs r => ne c _ r fun φ z => HO.noConfusion z
theorem trH_stay {H : Hp} {tr : List (Addr × Value)} (f : Free H tr) : Stay H (trH H tr) := ⟨fun b xs h => trH_keep f h, fun b o u h => trH_keep f h, fun t => t.ext fun b o h => trH_keep f h, fun b φ h _ => trH_keep f h⟩
/-- the store with the cells -/
def trM (M : Mm) (cs : List (Addr × D)) : Mm := fun b => match cs.lookup b with
  | some d => some (.cell d)
  | none => M b
/-- the store without the cells -/
def noM (M : Mm) (cs : List (Addr × D)) : Mm := fun b => match cs.lookup b with
  | some _ => none
  | none => M b
theorem trM_noM {M : Mm} {cs : List (Addr × D)} (h : ∀ b d, cs.lookup b = some d → M b = some (.cell d)) : trM (noM M cs) cs = M := by
  funext b
  unfold trM noM
  cases e : cs.lookup b with
  | some d => rw [h b d e]
  | none => rfl
/-- cells and what they hold, told twice -/
inductive Cls (K : PySem.W.Frag) (H : Hp) : List (Addr × Value) → List (Addr × D) → Prop
  | nil : Cls K H [] []
  | cons {c : Addr} {w : Value} {v : V} {d : D} {tr : List (Addr × Value)} {cs : List (Addr × D)} : RelV v w → Rep K H v d → Cls K H tr cs → Cls K H ((c, w) :: tr) ((c, d) :: cs)
theorem Cls.st {K : PySem.W.Frag} {H H' : Hp} {tr : List (Addr × Value)} {cs : List (Addr × D)} (h : Cls K H tr cs) (s : Stay H H') : Cls K H' tr cs := by
  induction h with
  | nil => exact .nil
  | cons a b _ ih => exact .cons a (b.st s) ih
theorem Cls.look {K : PySem.W.Frag} {H : Hp} {tr : List (Addr × Value)} {cs : List (Addr × D)} (h : Cls K H tr cs) (b : Addr) : (tr.lookup b = none ∧ cs.lookup b = none) ∨ ∃ w v d, tr.lookup b = some w ∧ cs.lookup b = some d ∧ RelV v w ∧ Rep K H v d := by
  induction h with
  | nil => exact .inl ⟨rfl, rfl⟩
  | @cons c w v d tr cs r1 r2 _ ih =>
    rw [List.lookup_cons, List.lookup_cons]
    cases hb : (b == c) with
    | true => exact .inr ⟨w, v, d, rfl, rfl, r1, r2⟩
    | false => exact ih
theorem trM_rel {K : PySem.W.Frag} {H : Hp} {M : Mm} {tr : List (Addr × Value)} {cs : List (Addr × D)} (rm : RelM K H M) (f : Free H tr) (c : Cls K H tr cs) : RelM K (trH H tr) (trM M cs) := ⟨fun b q e => by
  have s : Stay H (trH H tr) := trH_stay f
  rcases c.look b with ⟨e1, e2⟩ | ⟨w, v, d, e1, e2, rv, r⟩
  · unfold trM at e
    rw [e2] at e
    have x := rm b q e
    cases q with
    | lst ds => obtain ⟨vs, z, r⟩ := x; exact ⟨vs, trH_keep f z, r.st s⟩
    | cell d => obtain ⟨w, v, z, rv, r⟩ := x; exact ⟨w, v, trH_keep f z, rv, r.st s⟩
    | dK kvs => obtain ⟨vs, z, r⟩ := x; exact ⟨vs, trH_keep f z, r.st s⟩
    | dT kvs => obtain ⟨vs, z, r⟩ := x; exact ⟨vs, trH_keep f z, r.st s⟩
    | ins C fs => obtain ⟨dx, vs, z, ow, r⟩ := x; exact ⟨dx, vs, trH_keep f z, trH_keep f ow, r.st s⟩
  · unfold trM at e
    rw [e2] at e
    cases e
    exact ⟨w, v, trH_in e1, rv, r.st s⟩, (trH_stay f).2.2.1 rm.tabs⟩
theorem trM_kp {K : PySem.W.Frag} {H H' : Hp} {M M' : Mm} {tr : List (Addr × Value)} {cs : List (Addr × D)} (k : Kp M H M' H') (f : Free H' tr) (c : Cls K H' tr cs) : Kp M H (trM M' cs) (trH H' tr) := ⟨k.stay.trans (trH_stay f), fun a o e n w => by
  obtain ⟨e1, n1⟩ := k.keep a o e n w
  refine ⟨trH_keep f e1, ?_⟩
  rcases c.look a with ⟨z1, z2⟩ | ⟨w, v, d, z1, z2, rv, r⟩
  · unfold trM; rw [z2]; exact n1
  · exact absurd (f a _ z1) (by rw [e1]; exact fun z => by cases z), fun a o e w => by
  obtain ⟨o', e1, w1⟩ := k.live a o e w
  exact ⟨o', trH_keep f e1, w1⟩⟩
/-- a call's end, the cells told again -/
theorem ce_cells {P : Program} {w : World} {outer : List Env} {H : Hp} {s s' : Shared} {Q : VK} {u : Value} {tr : List (Addr × Value)} (t : ∀ b w, tr.lookup b = some w → H b = some (CellO b w)) (ok : HOk P w H s.heap) (fr : ∀ b ∈ frs outer, H b = none)
    (h : CE outer P w (noH H tr) s (fun v H' => Free H' tr → Q v (trH H' tr)) u s') : CE outer P w H s Q u s' := by
  obtain ⟨v, H', e1, e2, un, hok, rv, q⟩ := h
  have cell : ∀ b w, tr.lookup b = some w → ∃ o, s.heap.get? b = some o ∧ o.data = .cell (some w) := fun b w e => by
    obtain ⟨⟨o, ho, hd⟩, _⟩ := ok b _ (t b w e)
    exact ⟨o, ho, hd⟩
  have fre : Free H' tr := fun b w e => by
    obtain ⟨o, ho, _⟩ := cell b w e
    exact un.free b o ho (noH_in e) (by simp)
  have out : ∀ b u, H b = some u → (∀ φ, u ≠ .ext φ) → tr.lookup b = none := fun b u e n => by
    cases q : tr.lookup b with
    | none => rfl
    | some w => rw [t b w q] at e; cases e; exact absurd rfl (n _)
  refine ⟨v, trH H' tr, e1, e2, ⟨fun b o e n => un.keep b o e (noH_none n), fun b o e n => un.slot b o e (noH_none n), fun b o e n x => ?_, un.there, fun b xs e => ?_, fun b o u e => ?_, fun b ps e => ?_⟩,
    trH_ok fre hok (fun b w e => ?_), rv, q fre⟩
  · have z : tr.lookup b = none := by
      cases q : tr.lookup b with
      | none => rfl
      | some w => rw [t b w q] at n; cases n
    rw [trH_out z]
    exact un.free b o e (noH_none n) x
  · have z := out b _ e fun φ z => HO.noConfusion z
    rw [trH_out z]
    exact un.tups b xs (by rw [noH_out z]; exact e)
  · have z := out b _ e fun φ z => HO.noConfusion z
    rw [trH_out z]
    exact un.frzs b o u (by rw [noH_out z]; exact e)
  · have z := out b _ e fun φ z => HO.noConfusion z
    obtain ⟨more, e2⟩ := un.tbls b ps (by rw [noH_out z]; exact e)
    exact ⟨more, by rw [trH_out z]; exact e2⟩
  · obtain ⟨o, ho, hd⟩ := cell b w e
    exact ⟨o, un.keep b o ho (noH_in e) (fun hb => absurd (fr b hb) (by rw [t b w e]; exact fun z => by cases z)) (by simp), hd⟩
theorem cx_cells {P : Program} {w : World} {outer : List Env} {H : Hp} {s s' : Shared} {E : XK} {u : Value} {tr : List (Addr × Value)} (t : ∀ b w, tr.lookup b = some w → H b = some (CellO b w)) (ok : HOk P w H s.heap) (fr : ∀ b ∈ frs outer, H b = none)
    (h : L2.CX P w outer (noH H tr) s (fun cls d H' => Free H' tr → E cls d (trH H' tr)) u s') : L2.CX P w outer H s E u s' := by
  obtain ⟨a, B, H', cls, d, e0, fl, hok, un, na, e1, e2, q⟩ := h
  have cell : ∀ b w, tr.lookup b = some w → ∃ o, s.heap.get? b = some o ∧ o.data = .cell (some w) := fun b w e => by
    obtain ⟨⟨o, ho, hd⟩, _⟩ := ok b _ (t b w e)
    exact ⟨o, ho, hd⟩
  have fre : Free H' tr := fun b w e => by
    obtain ⟨o, ho, _⟩ := cell b w e
    exact un.free b o ho (noH_in e)
  have out : ∀ b u, H b = some u → (∀ φ, u ≠ .ext φ) → tr.lookup b = none := fun b u e n => by
    cases q : tr.lookup b with
    | none => rfl
    | some w => rw [t b w q] at e; cases e; exact absurd rfl (n _)
  have inB : ∀ b w, tr.lookup b = some w → B.IsCell b (some w) := fun b w e => by
    obtain ⟨o, ho, hd⟩ := cell b w e
    exact ⟨o, un.keep b o ho (noH_in e) (fun hb => absurd (fr b hb) (by rw [t b w e]; exact fun z => by cases z)), hd⟩
  refine ⟨a, B, trH H' tr, cls, d, e0, fl, trH_ok fre hok inB, ⟨fun b o e n => un.keep b o e (noH_none n), un.slot, fun b o e n => ?_, un.there, fun b xs e => ?_, fun b o u e => ?_, fun b ps e => ?_⟩, ?_, e1, e2, q fre⟩
  · have z : tr.lookup b = none := by
      cases q : tr.lookup b with
      | none => rfl
      | some w => rw [t b w q] at n; cases n
    rw [trH_out z]
    exact un.free b o e (noH_none n)
  · have z := out b _ e fun φ z => HO.noConfusion z
    rw [trH_out z]
    exact un.tups b xs (by rw [noH_out z]; exact e)
  · have z := out b _ e fun φ z => HO.noConfusion z
    rw [trH_out z]
    exact un.frzs b o u (by rw [noH_out z]; exact e)
  · have z := out b _ e fun φ z => HO.noConfusion z
    obtain ⟨more, e2⟩ := un.tbls b ps (by rw [noH_out z]; exact e)
    exact ⟨more, by rw [trH_out z]; exact e2⟩
  · cases q : tr.lookup a with
    | none => rw [trH_out q]; exact na
    | some w =>
      obtain ⟨o, ho, _⟩ := inB a w q
      rw [fl.2.1] at ho
      cases ho
theorem cr_cells {P : Program} {w : World} {outer : List Env} {H : Hp} {s : Shared} {Q : VK} {E : XK} {A : Around} {c : Code} {tr : List (Addr × Value)} (t : ∀ b w, tr.lookup b = some w → H b = some (CellO b w)) (ok : HOk P w H s.heap) (fr : ∀ b ∈ frs outer, H b = none)
    (h : codeAny (model P w) A c (CR (L2.CX P w) outer P w (noH H tr) s (fun v H' => Free H' tr → Q v (trH H' tr)) fun cls d H' => Free H' tr → E cls d (trH H' tr)) s) : codeAny (model P w) A c (CR (L2.CX P w) outer P w H s Q E) s :=
  codeAny_mono h fun r s' q => by
    cases r with
    | error e => exact cx_cells t ok fr q
    | ok fl =>
      cases fl with
      | ret u => exact ce_cells t ok fr q
      | next => exact q
      | brk => exact q
      | cont => exact q
end DL
namespace DL
open PySem PySem.Spec PyProof.Rows L2
variable [TL : TabList]
/-! ### a lambda that is held is called -/
/-- the context of a body whose frame is env, over the frames outer, entered at s -/
def envCx (P : Program) (w : World) (K : PySem.W.Frag) (mg : Str → Option Value) (base : Heap) (N : List Str) (A : Around) (outer : List Env) (s : Shared) (H : Hp) (E : XK) (env : Env) : Cx where
  prog := P
  w := w
  K := K
  mg := mg
  base := base
  A := A.deeper env
  N := N
  s_0 := s
  H_0 := H
  env := env
  outer := outer
  stack := env :: outer
  ex := []
  fn := fun _ => false
  calm := true
  pn := []
  xe := fun e s' => wpAny (model P w) (A.deeper env) (leaving env e) (fun _ s'' => L2.CX P w outer H s E e s'') (fun e' s'' => L2.CX P w outer H s E e' s'') s'
/-- the names of a lambda without parameters: captured ones, of those at hand, and globals -/
structure LamSV (sc : Scope) (ns : List Str) : Prop where
  kind : sc.kind = .function
  co : sc.isCoroutine = false
  gen : sc.isGenerator = false
  own : ∀ y ∈ sc.names, y.2 ≠ .local ∧ y.2 ≠ .cell
  free : ∀ y ∈ sc.names, y.2 = .free → y.1 ∈ ns
def lamSVB (sc : Scope) (ns : List Str) : Bool :=
  decide (sc.kind = .function) && (!sc.isCoroutine && (!sc.isGenerator && sc.names.all fun y => !decide (y.2 = .local) && (!decide (y.2 = .cell) && (!decide (y.2 = .free) || decide (y.1 ∈ ns)))))
theorem lamSV_by {sc : Scope} {ns : List Str} (h : lamSVB sc ns = true) : LamSV sc ns := by
  unfold lamSVB at h
  simp only [Bool.and_eq_true, Bool.or_eq_true, Bool.not_eq_true', decide_eq_true_eq, decide_eq_false_iff_not, List.all_eq_true] at h
  obtain ⟨h1, h2, h3, h4⟩ := h
  exact ⟨h1, h2, h3, fun y hy => ⟨(h4 y hy).1, (h4 y hy).2.1⟩, fun y hy e => (h4 y hy).2.2.resolve_left (absurd e)⟩
abbrev lamEnvV (q : Str) (sc : Scope) (L f c' : Addr) (cs : List (Str × Addr)) : Env := PySem.W.envX q sc L f (.ref c') (cloFrom cs sc.names [])
/-- a lambda's body, derived at any frame -/
def LamSE (P : Program) (w : World) (K : PySem.W.Frag) (mg : Str → Option Value) (base : Heap) (lv : Nat) (b : Expr) (sc : Scope) (ns : List Str) (wb : WE) : Prop :=
  ∀ (A : Around) (outer : List Env) (s : Shared) (H : Hp) (E : XK) (q : Str) (f c' : Addr) (cs : List (Str × Addr)), Room lv (A.deeper (lamEnvV q sc s.heap.objs.size f c' cs)) →
    SE (envCx P w K mg base ns A outer s H E (lamEnvV q sc s.heap.objs.size f c' cs)) b wb
theorem lookup_fst {β : Type} : ∀ {l : List (Str × β)} {x : Str}, x ∈ l.map (·.1) → ∃ c, l.lookup x = some c
  | [], _, h => by cases h
  | (y, c) :: l, x, h => by
    rw [List.lookup_cons]
    cases e : (x == y) with
    | true => exact ⟨c, rfl⟩
    | false =>
      refine lookup_fst ?_
      rcases List.mem_cons.mp h with z | z
      · rw [z] at e; simp at e
      · exact z
theorem lookup_at {β : Type} : ∀ {l : List (Str × β)} {i : Nat} {x : Str} {c : β}, (l.map (·.1)).Nodup → l[i]? = some (x, c) → l.lookup x = some c
  | [], _, _, _, _, h => by cases h
  | (y, d) :: l, 0, x, c, _, h => by cases h; simp
  | (y, d) :: l, i + 1, x, c, n, h => by
    rw [List.getElem?_cons_succ] at h
    rw [List.map_cons, List.nodup_cons] at n
    have hx : x ∈ l.map (·.1) := List.mem_map.mpr ⟨(x, c), List.mem_of_getElem? h, rfl⟩
    have ne : (x == y) = false := by
      cases e : (x == y) with
      | false => rfl
      | true => rw [show x = y from by simpa using e] at hx; exact absurd hx n.1
    rw [List.lookup_cons, ne]
    exact lookup_at n.2 h
theorem lookup_snd {β : Type} : ∀ {l : List (Str × β)} {x y : Str} {c : β}, (l.map (·.2)).Nodup → l.lookup x = some c → l.lookup y = some c → x = y
  | [], _, _, _, _, h, _ => by cases h
  | (z, d) :: l, x, y, c, n, h1, h2 => by
    rw [List.map_cons, List.nodup_cons] at n
    rw [List.lookup_cons] at h1 h2
    have key : ∀ u : Str, l.lookup u = some c → c ∈ l.map (·.2) := fun u e => List.mem_map.mpr ⟨(u, c), PySem.mem_of_lookup e, rfl⟩
    cases e1 : (x == z) with
    | true =>
      rw [e1] at h1
      cases h1
      cases e2 : (y == z) with
      | true => rw [show x = z from by simpa using e1, show y = z from by simpa using e2]
      | false => rw [e2] at h2; exact absurd (key _ h2) n.1
    | false =>
      rw [e1] at h1
      cases e2 : (y == z) with
      | true => rw [e2] at h2; cases h2; exact absurd (key _ h1) n.1
      | false => rw [e2] at h2; exact lookup_snd n.2 h1 h2
theorem clo_of {cs : List (Str × Addr)} {sc : Scope} (L : LamSV sc (cs.map (·.1))) {y : Str} {c : Addr} (e : (cloFrom cs sc.names []).lookup y = some c) : cs.lookup y = some c := by
  rcases cloFrom_mem (PySem.mem_of_lookup e) with z | ⟨z1, z2⟩
  · cases z
  · obtain ⟨d, hd⟩ := lookup_fst (L.free _ z1 rfl)
    have hd : cs.lookup y = some d := hd
    rw [hd] at z2
    rw [hd, z2] <;> rfl
theorem clo_has {cs : List (Str × Addr)} {sc : Scope} (L : LamSV sc (cs.map (·.1))) {y : Str} (e : sc.names.lookup y = some .free) : ∃ c, (cloFrom cs sc.names []).lookup y = some c ∧ cs.lookup y = some c := by
  obtain ⟨c, hc⟩ := mem_lookup (cloFrom_has (cells := cs) (acc := []) (PySem.mem_of_lookup e))
  exact ⟨c, hc, clo_of L hc⟩
/-- the frame of the lambda stands -/
theorem lamv_start {P : Program} {w : World} {K : PySem.W.Frag} {mg : Str → Option Value} {base : Heap} {A : Around} {outer : List Env} {s : Shared} {H : Hp} {E : XK} {q : Str} {sc : Scope} {f c' : Addr} {cs : List (Str × Addr)} {h₁ : Heap} {tk : Nat} {σ : L2.St}
    (e0 : Env0 P w K mg base A outer s H) (hd : A.handled = none) (L : LamSV sc (cs.map (·.1))) (n1 : (cs.map (·.1)).Nodup) (n2 : (cs.map (·.2)).Nodup) (hl : σ.length = cs.length)
    (hc : ∀ (i : Nat) (x : Str) (c : Addr), cs[i]? = some (x, c) → H c = none ∧ ∃ v u, σ[i]? = some (some v) ∧ RelV v u ∧ s.heap.IsCell c (some u))
    (hns : h₁.Ns s.heap.objs.size fun y => ([] : List (Str × Value)).reverse.lookup y) (kp : ∀ b o, s.heap.get? b = some o → h₁.get? b = some o) :
    Inv (envCx P w K mg base (cs.map (·.1)) A outer s H E (lamEnvV q sc s.heap.objs.size f c' cs)) [] σ H { s with heap := h₁, toks := tk } := by
  have at_ : ∀ {y c}, cs.lookup y = some c → H c = none ∧ ∃ u, s.heap.IsCell c (some u) := fun {y c} e => by
    obtain ⟨i, hi⟩ := List.getElem?_of_mem (PySem.mem_of_lookup e)
    obtain ⟨z, v, u, _, _, z2⟩ := hc i y c hi
    exact ⟨z, u, z2⟩
  have kc : ∀ {c v}, s.heap.IsCell c v → h₁.IsCell c v := fun {c v} ⟨o, ho, hd⟩ => ⟨o, kp _ _ ho, hd⟩
  have nex : ∀ b : Addr, b ∉ (envCx P w K mg base (cs.map (·.1)) A outer s H E (lamEnvV q sc s.heap.objs.size f c' cs)).ex := fun b z => nomatch (show b ∈ ([] : List Addr) from z)
  refine ⟨⟨e0.mod, L.kind, rfl, rfl, Nat.le_refl _, fun y z c a b => lookup_snd n2 (clo_of L a) (clo_of L b), fun y hy => ?_, fun y c z _ => ?_, fun _ => hd, Around.frames_deeper e0.frames, .inr ⟨rfl, rfl⟩, fun b z => absurd z (nex b), e0.bs, e0.bsz, fun b _ _ => nex b,
      fun b z => absurd z (nex b), e0.funs, e0.frf⟩, rfl, e0.bare, Un.kept kp, ⟨_, hns, fun i y v a b z => ?_⟩, fun y c e => ?_, e0.hok.fresh (Nat.le_refl _), fun y c e => (at_ (clo_of L e)).1, fun p hp => (nomatch (show p ∈ ([] : List (Addr × Obj)) from hp)), e0.hok.kept kp, ?_⟩
  · have hy : sc.names.lookup y = some .cell ∨ sc.names.lookup y = some .free := hy
    rcases hy with z | z
    · exact absurd rfl (L.own _ (PySem.mem_of_lookup z)).2
    · obtain ⟨c, z1, _⟩ := clo_has L z
      exact ⟨c, z1⟩
  · exact nomatch (show false = true from z)
  · have z : Vis sc y := z
    rcases z with k | k | k
    · exact absurd rfl (L.own _ (PySem.mem_of_lookup k)).1
    · exact absurd rfl (L.own _ (PySem.mem_of_lookup k)).2
    · obtain ⟨c, k1, k2⟩ := clo_has L k
      have a : (cs.map (·.1))[i]? = some y := a
      rw [List.getElem?_map] at a
      cases hi : cs[i]? with
      | none => rw [hi] at a; cases a
      | some p =>
        obtain ⟨x, c0⟩ := p
        rw [hi] at a
        cases a
        obtain ⟨_, v0, u, z1, z2, z3⟩ := hc i _ c0 hi
        rw [lookup_at n1 hi] at k2
        have ec : c0 = c := Option.some.inj k2
        rw [ec] at z3
        rw [z1] at b
        cases b
        exact ⟨u, z2, .inr ⟨.inr k, c, k1, kc z3⟩⟩
  · obtain ⟨_, u, z⟩ := at_ (clo_of L e)
    exact ⟨_, kc z⟩
  · rw [hl]
    exact (List.length_map _).symm
/-- cells told by the store -/
theorem cells_of {K : PySem.W.Frag} {H : Hp} {M : Mm} (rm : RelM K H M) : ∀ z : List (Addr × D), (∀ p ∈ z, M p.1 = some (.cell p.2)) → ∃ (tr : List (Addr × Value)) (vs : List V), tr.map (·.1) = z.map (·.1) ∧ (∀ p ∈ tr, H p.1 = some (CellO p.1 p.2)) ∧ Cls K H tr z ∧ Vals vs (tr.map (·.2)) ∧ Reps K H vs (z.map (·.2))
  | [], _ => ⟨[], [], rfl, fun _ h => (nomatch h), .nil, .nil, .nil⟩
  | (c, d) :: z, h => by
    obtain ⟨tr, vs, e1, e2, e3, e4, e5⟩ := cells_of rm z fun p hp => h p (List.mem_cons_of_mem _ hp)
    obtain ⟨w, v, x1, x2, x3⟩ := rm c _ (h (c, d) List.mem_cons_self)
    refine ⟨(c, w) :: tr, v :: vs, by rw [List.map_cons, List.map_cons, e1], fun p hp => ?_, .cons x2 x3 e3, .cons x2 e4, .cons x3 e5⟩
    rcases List.mem_cons.mp hp with q | q
    · rw [q]; exact x1
    · exact e2 p q
theorem noH_stay {H : Hp} {tr : List (Addr × Value)} (t : ∀ b w, tr.lookup b = some w → H b = some (CellO b w)) : Stay H (noH H tr) := by
  have ne : ∀ c u, H c = some u → (∀ w, u ≠ CellO c w) → noH H tr c = some u := fun c u r n => by
    cases q : tr.lookup c with
    | none => rw [noH_out q]; exact r
    | some v => rw [t c v q] at r; cases r; exact absurd rfl (n _)
  refine ⟨fun b xs h => ne b _ h fun w z => HO.noConfusion z, fun b o u h => ne b _ h fun w z => HO.noConfusion z, fun tt p hp => ?_, fun b f h n => ne b _ h n⟩
  obtain ⟨ps, a1, a2, a3⟩ := tt p hp
  refine ⟨ps, ne _ _ a1 fun w z => HO.noConfusion z, a2, fun pos cv hcv => ?_⟩
  obtain ⟨c, b1, b2⟩ := a3 pos cv hcv
  exact ⟨c, b1, ne _ _ b2 fun w => codeO_ne⟩
theorem noM_rel {K : PySem.W.Frag} {H : Hp} {M : Mm} {tr : List (Addr × Value)} {z : List (Addr × D)} (rm : RelM K H M) (t : ∀ b w, tr.lookup b = some w → H b = some (CellO b w)) (c : Cls K H tr z) : RelM K (noH H tr) (noM M z) := ⟨fun b q e => by
  have s : Stay H (noH H tr) := noH_stay t
  rcases c.look b with ⟨e1, e2⟩ | ⟨w, v, d, e1, e2, rv, r⟩
  · unfold noM at e
    rw [e2] at e
    have x := rm b q e
    have ne : ∀ c u, H c = some u → (∀ w, u ≠ CellO c w) → noH H tr c = some u := fun c u r n => by
      cases q : tr.lookup c with
      | none => rw [noH_out q]; exact r
      | some v => rw [t c v q] at r; cases r; exact absurd rfl (n _)
    cases q with
    | lst ds => obtain ⟨vs, z, r⟩ := x; exact ⟨vs, by rw [noH_out e1]; exact z, r.st s⟩
    | cell d => obtain ⟨w, v, z, rv, r⟩ := x; exact ⟨w, v, by rw [noH_out e1]; exact z, rv, r.st s⟩
    | dK kvs => obtain ⟨vs, z, r⟩ := x; exact ⟨vs, by rw [noH_out e1]; exact z, r.st s⟩
    | dT kvs => obtain ⟨vs, z, r⟩ := x; exact ⟨vs, by rw [noH_out e1]; exact z, r.st s⟩
    | ins C fs => obtain ⟨dx, vs, z, ow, r⟩ := x; exact ⟨dx, vs, by rw [noH_out e1]; exact z, ne _ _ ow fun w z => HO.noConfusion z, r.st s⟩
  · unfold noM at e
    rw [e2] at e
    exact absurd e (by simp), (noH_stay t).2.2.1 rm.tabs⟩
theorem noM_kp {K : PySem.W.Frag} {H H' : Hp} {M M' : Mm} {tr : List (Addr × Value)} {z : List (Addr × D)} (t : ∀ b w, tr.lookup b = some w → H b = some (CellO b w)) (hM : ∀ b d, z.lookup b = some d → M b = some (.cell d)) (c : Cls K H tr z) (k : Kp (noM M z) (noH H tr) M' H') (f : Free H' tr) :
    Kp M H (trM M' z) (trH H' tr) := by
  refine ⟨((noH_stay t).trans k.stay).trans (trH_stay f), fun a o e n w => ?_, fun a o e w => ?_⟩
  · rcases c.look a with ⟨z1, z2⟩ | ⟨w, v, d, z1, z2, rv, r⟩
    · obtain ⟨e1, n1⟩ := k.keep a o (by rw [noH_out z1]; exact e) (by unfold noM; rw [z2]; exact n) w
      exact ⟨trH_keep f e1, by unfold trM; rw [z2]; exact n1⟩
    · rw [hM a d z2] at n; cases n
  · rcases c.look a with ⟨z1, z2⟩ | ⟨w, v, d, z1, z2, rv, r⟩
    · obtain ⟨o', e1, w1⟩ := k.live a o (by rw [noH_out z1]; exact e) w
      exact ⟨o', trH_keep f e1, w1⟩
    · exact ⟨_, trH_in z1, fun ps z => HO.noConfusion z⟩
end DL
namespace DL
open PySem PySem.Spec PyProof.Rows L2
variable [TL : TabList]
/-- the cells of a lambda's frame, with what they hold -/
abbrev zipC (cs : List (Str × Addr)) (ds : List D) : List (Addr × D) := (cs.map (·.2)).zip ds
@[reducible] def wCallL (LS : Expr → Scope → List Str → WE → Prop) (i : Nat) : WE := fun sd M k kx => ∃ b sc cs ds wb, sd[i]? = some (some (.lam b sc cs)) ∧ LamSV sc (cs.map (·.1)) ∧ (cs.map (·.1)).Nodup ∧ (cs.map (·.2)).Nodup ∧ ds.length = cs.length ∧
  (∀ p ∈ zipC cs ds, M p.1 = some (.cell p.2)) ∧ LS b sc (cs.map (·.1)) wb ∧ wb (ds.map some) (noM M (zipC cs ds)) (fun d M' => k d (trM M' (zipC cs ds))) fun cls fs M' => kx cls fs (trM M' (zipC cs ds))
theorem mem_look {β : Type} : ∀ {l : List (Addr × β)} {x : Addr} {c : β}, l.lookup x = some c → (x, c) ∈ l
  | [], _, _, h => by cases h
  | (y, d) :: l, x, c, h => by
    rw [List.lookup_cons] at h
    cases e : (x == y) with
    | true => rw [e] at h; cases h; rw [show x = y from by simpa using e]; exact List.mem_cons_self
    | false => rw [e] at h; exact List.mem_cons_of_mem _ (mem_look h)
theorem vals_at : ∀ {tr : List (Addr × Value)} {vs : List V} {i : Nat} {c : Addr} {u : Value}, Vals vs (tr.map (·.2)) → tr[i]? = some (c, u) → ∃ v, vs[i]? = some v ∧ RelV v u
  | [], _, _, _, _, _, h => by cases h
  | (c0, u0) :: tr, _, 0, c, u, .cons a b, h => by cases h; exact ⟨_, rfl, a⟩
  | (c0, u0) :: tr, _, i + 1, c, u, .cons a b, h => by
    rw [List.getElem?_cons_succ] at h
    obtain ⟨v, h1, h2⟩ := vals_at b h
    exact ⟨v, by rw [List.getElem?_cons_succ]; exact h1, h2⟩
theorem reps_rels {K : PySem.W.Frag} {H : Hp} {vs : List V} {ds : List D} (r : Reps K H vs ds) : RelS K H (vs.map some) (ds.map some) := by
  refine ⟨by rw [List.length_map, List.length_map]; exact r.len, fun i d e => ?_⟩
  rw [List.getElem?_map] at e
  cases q : ds[i]? with
  | none => rw [q] at e; cases e
  | some d0 =>
    rw [q] at e
    cases e
    obtain ⟨v, e1, rv⟩ := r.get q
    exact ⟨v, by rw [List.getElem?_map, e1]; rfl, rv⟩
theorem zip_fst {cs : List (Str × Addr)} {ds : List D} (h : ds.length = cs.length) : (zipC cs ds).map (·.1) = cs.map (·.2) := by
  have : ((cs.map (·.2)).zip ds).map Prod.fst = cs.map (·.2) := List.map_fst_zip (by rw [List.length_map, h]; exact Nat.le_refl _)
  exact this
theorem zip_snd {cs : List (Str × Addr)} {ds : List D} (h : ds.length = cs.length) : (zipC cs ds).map (·.2) = ds := by
  have : ((cs.map (·.2)).zip ds).map Prod.snd = ds := List.map_snd_zip (by rw [List.length_map, h]; exact Nat.le_refl _)
  exact this
theorem look_mem : ∀ {tr : List (Addr × Value)} {c : Addr}, c ∈ tr.map (·.1) → ∃ w, tr.lookup c = some w
  | [], _, h => by cases h
  | (y, w) :: l, x, h => by
    rw [List.lookup_cons]
    cases e : (x == y) with
    | true => exact ⟨w, rfl⟩
    | false =>
      refine look_mem ?_
      rcases List.mem_cons.mp h with z | z
      · rw [z] at e; simp at e
      · exact z
theorem RepX.tr {K : PySem.W.Frag} {H : Hp} {d : Option Addr} {fs : Fs} {tr : List (Addr × Value)} (h : RepX K H d fs) (f : Free H tr) : RepX K (trH H tr) d fs := by
  cases d with
  | none => exact h
  | some dd =>
    obtain ⟨ws, e, r⟩ := h
    exact ⟨ws, trH_keep f e, r.st (trH_stay f)⟩
theorem e_callL {X : Cx} {i lv : Nat} {a : Str} {p1 p2 : Pos} (hr : Room (lv + 1) X.A) (hi : X.N[i]? = some a := by rfl) (hv : Vis X.env.scope a := by first | exact Or.inl rfl | exact Or.inr (Or.inl rfl) | exact Or.inr (Or.inr rfl)) (hd : (a == ("__debug__" : Str)) = false := by decide)
    (hcd : (a == ("__classdict__" : Str)) = false := by decide) : SE X (.Call (.Name a p1) [] [] p2) (wCallL (LamSE X.prog X.w X.K X.mg X.base lv) i) := fun Wx tk => by
  refine ⟨fun pins s σ H Q I h => ?_⟩
  obtain ⟨sd, M, k, kx, rs, rm, ⟨b, sc, cs, ds, wb, hsd, hL, n1, n2, hl, hM, hS, hw⟩, po, px⟩ := h
  obtain ⟨v, hσ, rv⟩ := rs.2 i _ hsd
  cases rv with
  | @lam f _ _ _ at_ =>
    obtain ⟨q, params, pm, c', ctv, hf, hco, hbind⟩ := at_
    refine wpAny_Call_Name_kw (thn ((pe_var (pos := p1) (i := i) hi hv hd hcd).run pins s σ H (fun v H1 => v = .ref f ∧ H1 = H) I ⟨.ref f, hσ, rfl, rfl⟩) fun u s1 ⟨v, H1, I1, r1, q1⟩ => ?_)
    obtain ⟨rfl, rfl⟩ := q1
    obtain rfl : u = Value.ref f := r1
    have of1 : s1.heap.get? f = some (PySem.W.kla_obj "<lambda>" q params b sc (cloFrom cs sc.names []) pm c' ctv) := (I1.hok f _ hf).1
    obtain ⟨⟨oc, vs0, t, c1, c2, c3⟩, _, _⟩ := I1.hok c' _ hco
    refine PySem.W.callWith_F0 ⟨_, _, _, _, of1⟩ ?_
    obtain ⟨tr, vs, e1, e2, e3, e4, e5⟩ := cells_of rm (zipC cs ds) hM
    rw [zip_fst hl] at e1
    rw [zip_snd hl] at e5
    have t1 : ∀ b w, tr.lookup b = some w → H1 b = some (CellO b w) := fun b w e => e2 (b, w) (mem_look e)
    have tM : ∀ b d, (zipC cs ds).lookup b = some d → M b = some (.cell d) := fun b d e => hM (b, d) (mem_look e)
    have e0 := I1.env0
    have hvs : vs.length = cs.length := by rw [e5.len, hl]
    have rc : codeAny (model X.prog X.w) X.A (.call (.ref f) ⟨[], []⟩) (CR (L2.CX X.prog X.w) X.stack X.prog X.w H1 s1 Q (L2.WE Wx σ)) s1 := by
      refine cr_cells t1 I1.hok e0.frf ?_
      refine PySem.W.kla_callFunE hr.depth of1 rfl hL.co hL.gen rfl ⟨c', oc, vs0, t, rfl, c1, c2, c3⟩ ?_
      rw [hbind]
      refine wpAny_pure (wpAny_newFunctionEnv (fun y hy => (hL.own y hy).2) (fun y hy => absurd hy (by simp)) (fun h₁ hns hsb => ⟨I1.nolimit.fresh _ hsb, ?_⟩) hL.kind)
      show codeAny _ _ (.expr b (lamEnvV q sc s1.heap.objs.size f c' cs)) _ _
      have J : Inv (envCx X.prog X.w X.K X.mg X.base (cs.map (·.1)) X.A X.stack s1 (noH H1 tr) (fun cls d H' => Free H' tr → L2.WE Wx σ cls d (trH H' tr)) (lamEnvV q sc s1.heap.objs.size f c' cs)) [] (vs.map some) (noH H1 tr) { s1 with heap := h₁, toks := s1.toks + ([] : List (Str × Value)).length } :=
        lamv_start ⟨e0.frames, e0.mod, fun b o e => ⟨(e0.bs b o e).1, noH_none (e0.bs b o e).2⟩, e0.bsz, e0.funs, fun b hb => noH_none (e0.frf b hb), noH_ok t1 e0.hok, e0.bare⟩ hr.hd hL n1 n2 (by rw [List.length_map]; exact hvs)
          (fun i x c hi => by
            have z : (tr.map (·.1))[i]? = some c := by rw [e1, List.getElem?_map, hi]; rfl
            rw [List.getElem?_map] at z
            cases y : tr[i]? with
            | none => rw [y] at z; cases z
            | some p =>
              obtain ⟨c0, u0⟩ := p
              rw [y] at z
              cases z
              obtain ⟨v, y1, y2⟩ := vals_at e4 y
              obtain ⟨w2, y3⟩ := look_mem (tr := tr) (c := c0) (List.mem_map.mpr ⟨(c0, u0), List.mem_of_getElem? y, rfl⟩)
              exact ⟨noH_in y3, v, u0, by rw [List.getElem?_map, y1]; rfl, y2, (I1.hok c0 _ (e2 (c0, u0) (List.mem_of_getElem? y))).1⟩)
          hns fun b o e => hsb.extBut b o (Nat.ne_of_lt (Heap.lt_size e)) (Heap.get?_push_of_some _ e)
      refine PySem.W.kla_codeExpr (wpAny_mono ((hS X.A X.stack s1 (noH H1 tr) (fun cls d H' => Free H' tr → L2.WE Wx σ cls d (trH H' tr)) q f c' cs (hr.deeper _) (fun cls d _ H' => Free H' tr → L2.WE Wx σ cls d (trH H' tr)) (takes_of rfl rfl rfl rfl)).run [] _ _ (noH H1 tr)
        (fun v H' => Free H' tr → Q v (trH H' tr)) J ⟨ds.map some, noM M (zipC cs ds), _, _, reps_rels (e5.st (noH_stay t1)), noM_rel rm t1 e3, hw, fun v H' d M' a1 a2 a3 a4 a5 fr => ?_, fun cls d H' fs M' a1 a2 a3 a4 a5 fr => ?_⟩) (fun v s' hq => ?_) fun e s' hq => hq)
      · have kp := noM_kp t1 tM e3 a4 fr
        exact po v _ d _ (a1.st (trH_stay fr)) (rs.kp kp) (trM_rel a3 fr ((e3.st (noH_stay t1)).st a4.stay)) kp a5
      · have kp := noM_kp t1 tM e3 a4 fr
        exact px cls d _ fs _ (a1.tr fr) (rs.kp kp) (trM_rel a3 fr ((e3.st (noH_stay t1)).st a4.stay)) kp a5
      · obtain ⟨w', H', J', rv, q⟩ := hq
        exact ⟨w', H', J'.os, J'.bare, J'.base, J'.hok, rv, q⟩
    refine wpAny_call (codeAny_mono rc fun r s' hq => ?_)
    cases r with
    | error e => exact passAt tk σ pins H1 s1 e s' I1 hq
    | ok fl =>
      cases fl with
      | ret u => exact I1.after hq
      | next => exact False.elim hq
      | brk => exact False.elim hq
      | cont => exact False.elim hq
end DL
namespace DL
open PySem PySem.Spec PyProof.Rows L2
variable [TL : TabList]
/-! ### a def that gives lambdas back: its cells are told from its end on -/
theorem execs_app {env : Env} (rest : List Stmt) : ∀ pre : List Stmt, execs (pre ++ rest) env = execs pre env >>= fun f => match f with | .next => execs rest env | f => pure f
  | [] => by
    rw [List.nil_append, execs_nil, pure_bind]
  | st :: pre => by
    rw [List.cons_append, execs_cons, execs_cons, bind_assoc]
    congr 1
    funext f
    cases f with
    | next => exact execs_app rest pre
    | _ => rw [pure_bind]
theorem cellsFrom_nodup : ∀ (names : List (Str × NameKind)) (m : Nat) (acc : List (Str × Addr)), (acc.map (·.2)).Nodup → (∀ p ∈ acc, p.2 < m) → ((cellsFrom m names acc).map (·.2)).Nodup
  | [], _, acc, h, _ => h
  | (n, k) :: r, m, acc, h, hl => by
    unfold cellsFrom
    split
    · refine cellsFrom_nodup r (m + 1) _ ?_ fun p hp => ?_
      · rw [List.map_cons, List.nodup_cons]
        refine ⟨fun hm => ?_, h⟩
        obtain ⟨p, hp, e⟩ := List.mem_map.mp hm
        have := hl p hp
        rw [e] at this
        exact Nat.lt_irrefl _ this
      · rcases List.mem_cons.mp hp with q | q
        · rw [q]; exact Nat.lt_succ_self m
        · exact Nat.lt_succ_of_lt (hl p q)
    · exact cellsFrom_nodup r m acc h hl
theorem cells_build {h : Heap} {K : PySem.W.Frag} {H : Hp} {N : List Str} {σ : L2.St} {sd : SD} (rs : RelS K H σ sd) : ∀ (cs : List (Str × Addr)) (js : List Nat) (ds : List D), js.map (fun j => N[j]?) = cs.map (fun p => some p.1) → js.map (fun j => sd[j]?) = ds.map (fun d => some (some d)) →
    (∀ p ∈ cs, ∀ (j : Nat) (v : V), N[j]? = some p.1 → σ[j]? = some (some v) → ∃ u, RelV v u ∧ h.IsCell p.2 (some u)) → ∃ tr : List (Addr × Value), (∀ p ∈ tr, p.1 ∈ cs.map (·.2) ∧ h.IsCell p.1 (some p.2)) ∧ Cls K H tr (zipC cs ds)
  | [], [], [], _, _, _ => ⟨[], fun p hp => (nomatch hp), .nil⟩
  | [], [], _ :: _, _, e, _ => nomatch e
  | [], _ :: _, _, e, _, _ => nomatch e
  | _ :: _, [], _, e, _, _ => nomatch e
  | _ :: _, _ :: _, [], _, e, _ => nomatch e
  | (y, c) :: cs, j :: js, d :: ds, e1, e2, hc => by
    have a1 : N[j]? = some y := (List.cons.inj e1).1
    have a2 : sd[j]? = some (some d) := (List.cons.inj e2).1
    obtain ⟨v, b1, b2⟩ := rs.2 j d a2
    obtain ⟨u, c1, c2⟩ := hc (y, c) List.mem_cons_self j v a1 b1
    obtain ⟨tr, t1, t2⟩ := cells_build rs cs js ds (List.cons.inj e1).2 (List.cons.inj e2).2 fun p hp => hc p (List.mem_cons_of_mem _ hp)
    refine ⟨(c, u) :: tr, fun p hp => ?_, .cons c1 b2 t2⟩
    rcases List.mem_cons.mp hp with q | q
    · rw [q]; exact ⟨List.mem_cons_self, c2⟩
    · exact ⟨List.mem_cons_of_mem _ (t1 p q).1, (t1 p q).2⟩
/-- what such a body is to reach: its slot ir is given back, its cells hold the slots js -/
@[reducible] def endsL (k : KE) (kx : KX) (ir : Nat) (js : List Nat) (cs : List (Str × Addr)) : EndsD := { nx := fun sd M' => ∃ d ds, sd[ir]? = some (some d) ∧ js.map (fun j => sd[j]?) = ds.map (fun d => some (some d)) ∧ ∃ M0, Le M0 M' ∧ ((∀ q ∈ cs, M' q.2 = none) → k d (trM M0 (zipC cs ds))), rt := fun _ _ => False, ex := fun cls fs _ M' => ∃ M0, Le M0 M' ∧ kx cls fs M0 }
abbrev SpL := List (Str × Addr) → SpD
/-- the promise, at whatever new cells -/
def cellSp (np : Nat) (ns : List Str) (spl : SpL) : SpD := fun ds M k kx => ds.length = np ∧ ∀ cs : List (Str × Addr), cs.map (·.1) = ns → (cs.map (·.2)).Nodup → (∀ p ∈ cs, M p.2 = none) → spl cs ds M k kx
theorem cellsFrom_ge {a : Nat} : ∀ (names : List (Str × NameKind)) (m : Nat) (acc : List (Str × Addr)), (∀ p ∈ acc, a ≤ p.2) → a ≤ m → ∀ p ∈ cellsFrom m names acc, a ≤ p.2
  | [], _, _, h, _ => h
  | (n, k) :: r, m, acc, h1, h2 => by
    unfold cellsFrom
    split
    · refine cellsFrom_ge r (m + 1) _ (fun p hp => ?_) (Nat.le_succ_of_le h2)
      rcases List.mem_cons.mp hp with z | z
      · rw [z]; exact h2
      · exact h1 p z
    · exact cellsFrom_ge r m acc h1 h2
section
variable {P : Program} {w : World} {K : PySem.W.Frag} {mg : Str → Option Value} {base : Heap}
theorem fn_okDCL {x qual : Str} {st : Stmt} {f : Addr} {fd : FuncData} {c : Addr} {N ps : List Str} {k n ir : Nat} {spl : SpL} {pre : List Stmt} {rx : Str} {p0 p1 : Pos} {js : List Nat} {ns : List Str} (F : FunC K x qual st f fd c) (S : FnScope N ps (defScope st)) (hn : N.length = n)
    (hbd : defBody st = pre ++ [.Return (some (.Name rx p0)) p1]) (hir : N[ir]? = some rx) (hvr : Vis (defScope st) rx) (hns : ∀ m, (cellsFrom m (defScope st).names []).map (·.1) = ns)
    (hjs : js.map (fun j => N[j]?) = ns.map some) (hck : ∀ y ∈ ns, (defScope st).names.lookup y = some .cell) (hnn : ns.Nodup)
    (hbody : ∀ (A : Around) (outer : List Env) (s : Shared) (H : Hp) (E : XK), Room k (A.deeper (envOfC qual (defScope st) s.heap.objs.size f (.ref c))) →
      ∃ w', SSs (bodyCx P w K mg base N qual st f (.ref c) A outer s H E) pre w' ∧ ∀ ds M k kx, spl (cellsFrom (s.heap.objs.size + 1) (defScope st).names []) ds M k kx → w' (endsL k kx ir js (cellsFrom (s.heap.objs.size + 1) (defScope st).names [])) (startD n ds) M)
    (hd : (rx == ("__debug__" : Str)) = false := by decide) (hcd : (rx == ("__classdict__" : Str)) = false := by decide) : FnOk P w K mg base (L2.CX P w) (k + 1) f fd ps (toSp K (cellSp ps.length ns spl)) := by
  obtain ⟨oc, od, kV, doc, pm, an, ct, osl, rfl, lk, hco⟩ := F.ex
  refine ⟨fun vs H Q E ⟨ds, M, k, kx, r, rm, h, p, px⟩ => by rw [r.len]; exact h.1, fun A outer s H args us vs Q E hr e0 hb r ⟨ds, M, k, kx, rr, rm, ⟨hl, h⟩, p, px⟩ => ?_⟩
  have hvl : vs.length = ps.length := by rw [rr.len]; exact hl
  have KX : K.In s.heap := e0.mod.kin.keeps fun b o e => (e0.bs b o e).1
  have hkind : ∀ y ∈ ps.zip us, (defScope st).names.lookup y.1 = some .local ∨ ((defScope st).names.lookup y.1 = some .cell ∧ ((cellsFrom (s.heap.objs.size + 1) (defScope st).names []).lookup y.1).isSome = true) := fun y hy =>
    (S.par y.1 (List.of_mem_zip hy).1).imp id fun q => ⟨q, PySem.W.cellsFrom_some _ _ _ (.inl q)⟩
  have hfr : ∀ q ∈ cellsFrom (s.heap.objs.size + 1) (defScope st).names [], s.heap.objs.size ≤ q.2 := cellsFrom_ge _ _ _ (fun p hp => (nomatch hp)) (Nat.le_succ _)
  have hsp := h _ (hns _) (cellsFrom_nodup _ _ [] List.nodup_nil fun p hp => (nomatch hp)) fun q hq => rm.free (e0.hok.fresh (hfr q hq))
  refine codeAny_call_function hr.depth (KX _ _ lk) rfl S.co S.gen rfl (PySem.W.codeRec_of KX hco) (hb _ _ _ _ (wpAny_newFunctionEnv_cells S.kind hkind fun env he s1 x => ?_))
  subst he
  refine ⟨(e0.mod.nolimit.keeps fun b o e => (e0.bs b o e).1).keeps x.toInCall.keep, codeAny_func ?_⟩
  obtain ⟨w', hw, hs⟩ := hbody A outer s H E (hr.deeper _)
  have I : Inv (bodyCx P w K mg base N qual st f (.ref c) A outer s H E) [] (L2.start N vs) H s1 := inv_start S hr.hd e0 hvl r x
  have rs0 : RelS K H (L2.start N vs) (startD n ds) := by
    rw [← hn]
    refine startD_rel rr ?_
    rw [hl, ← S.pre, List.length_take]
    exact Nat.min_le_right _ _
  obtain ⟨D, hD⟩ : ∃ D : Ends, D = { nx := fun σ' H' => ∃ sd M', RelS K H' σ' sd ∧ RelM K H' M' ∧ Kp M H M' H' ∧ (endsL k kx ir js (cellsFrom (s.heap.objs.size + 1) (defScope st).names [])).nx sd M', rt := fun _ _ => False } := ⟨_, rfl⟩
  have ends : EndsR K H M (endsL k kx ir js (cellsFrom (s.heap.objs.size + 1) (defScope st).names [])) D (fun cls d _ H => E cls d H) := by
    rw [hD]
    exact ⟨fun σ' H' sd' M' a b c q => ⟨sd', M', a, b, c, q⟩, fun _ _ _ _ _ _ _ z => z, fun _ _ _ _ _ _ _ z => z, fun _ _ _ _ _ _ _ z => z, fun cls d σ' H' fs sd' M' a b c e ⟨M0, l, q⟩ => px cls d H' fs M0 a (c.le l) (e.le l) q⟩
  have run := (hw (fun cls d _ H => E cls d H) (takes_of rfl rfl rfl rfl)).run [] s1 (L2.start N vs) H D I ⟨_, _, _, rs0, rm, hs ds M k kx hsp, ends⟩
  subst hD
  have R : wpAny (model P w) (A.deeper (envOfC qual (defScope st) s.heap.objs.size f (.ref c))) (execs (defBody st) (envOfC qual (defScope st) s.heap.objs.size f (.ref c))) (fun fl s' => ∃ u, fl = .ret u ∧ CE outer P w H s Q u s') (bodyCx P w K mg base N qual st f (.ref c) A outer s H E).xe s1 := by
    rw [hbd, execs_app]
    refine wpAny_bind (wpAny_mono run (fun fl s' hs => ?_) fun e s' hs => hs)
    cases fl with
    | ret u => obtain ⟨_, _, _, _, _, q⟩ := hs; exact False.elim q
    | brk => obtain ⟨_, _, _, q⟩ := hs; exact False.elim q
    | cont => obtain ⟨_, _, _, q⟩ := hs; exact False.elim q
    | next =>
      obtain ⟨σ', H', I', sd, M', rs, rm', kp, d, ds', hsd, hjd, M0, le, hk⟩ := hs
      obtain ⟨v0, hσ, rv0⟩ := rs.2 ir d hsd
      refine wpAny_execs_cons (wpAny_Return_some (thn ((pe_var (X := bodyCx P w K mg base N qual st f (.ref c) A outer s H E) (pos := p0) (i := ir) hir hvr hd hcd).run [] s' σ' H' (fun v H1 => v = v0 ∧ H1 = H') I' ⟨v0, hσ, rfl, rfl⟩) fun u s2 ⟨v, H2, J, rv, e1, e2⟩ => ?_))
      subst e1 e2
      refine ⟨u, rfl, ?_⟩
      obtain ⟨m, hm, hlk⟩ := id J.loc
      have look : ∀ q ∈ cellsFrom (s.heap.objs.size + 1) (defScope st).names [], (cellsFrom (s.heap.objs.size + 1) (defScope st).names []).lookup q.1 = some q.2 := fun q hq => by
        obtain ⟨i, hi⟩ := List.getElem?_of_mem hq
        exact lookup_at (by rw [hns]; exact hnn) hi
      obtain ⟨tr, t1, t2⟩ := cells_build (h := s2.heap) (N := N) rs (cellsFrom (s.heap.objs.size + 1) (defScope st).names []) js ds' (by rw [hjs, ← hns (s.heap.objs.size + 1), List.map_map]; rfl) hjd fun q hq j v a b => by
        have hy : q.1 ∈ ns := by rw [← hns (s.heap.objs.size + 1)]; exact List.mem_map.mpr ⟨q, hq, rfl⟩
        have kind := hck q.1 hy
        obtain ⟨u, r1, lk⟩ := hlk j q.1 v a b (.inr (.inl kind))
        rcases lk with ⟨k, _⟩ | ⟨_, c1, k1, k2⟩
        · have k : (defScope st).names.lookup q.1 = some .local := k
          rw [kind] at k
          cases k
        · have k1 : (cellsFrom (s.heap.objs.size + 1) (defScope st).names []).lookup q.1 = some c1 := k1
          rw [look q hq] at k1
          have ec : q.2 = c1 := Option.some.inj k1
          exact ⟨u, r1, by rw [ec]; exact k2⟩
      have fr : Free H2 tr := fun b w e => by
        obtain ⟨q, hq, eq⟩ := List.mem_map.mp (t1 (b, w) (mem_look e)).1
        have eq : q.2 = b := eq
        rw [← eq]
        exact J.freeC q.1 q.2 (look q hq)
      have un : Un (frs outer) [] H H2 s.heap s2.heap := J.base
      refine ⟨v, trH H2 tr, J.os, J.bare, ⟨un.keep, un.slot, fun b o e n x => ?_, un.there, fun b xs e => trH_keep fr (un.tups b xs e), fun b o u e => trH_keep fr (un.frzs b o u e), fun b ps e => ?_⟩, trH_ok fr J.hok fun b w e => (t1 (b, w) (mem_look e)).2, rv,
        p v _ d _ (rv0.st (trH_stay fr)) (trM_rel (rm'.le le) fr t2) (trM_kp (kp.le le) fr t2) (hk fun q hq => rm'.free (J.freeC q.1 q.2 (look q hq)))⟩
      · cases z : tr.lookup b with
        | none => rw [trH_out z]; exact un.free b o e n x
        | some w =>
          obtain ⟨q, hq, eq⟩ := List.mem_map.mp (t1 (b, w) (mem_look z)).1
          have eq : q.2 = b := eq
          have := hfr q hq
          rw [eq] at this
          exact absurd (Heap.lt_size e) (Nat.not_lt.mpr this)
      · obtain ⟨more, z⟩ := un.tbls b ps e
        exact ⟨more, trH_keep fr z⟩
  exact wpAny_mono R (fun fl s' ⟨u, e, hs⟩ => by subst e; exact hs) fun e s' hs => hs
end
end DL
namespace DL
open PySem PySem.Spec PyProof.Rows L2
variable [TL : TabList]
/-! ### rows that the proof never comes to; lambdas that raise -/
@[reducible] def wDead : WS := fun _ _ _ => False
theorem ss_dead {X : Cx} {sts : List Stmt} : SSs X sts wDead := fun Wx tk => ⟨fun pins s σ H D I h => by
  obtain ⟨ED, sd, M, rs, rm, h, r⟩ := h
  exact h.elim⟩
/-- the lambda in a row -/
def lamOf : Expr → Expr
  | .Lambda a b sc p => .Lambda a b sc p
  | .Tuple (e :: _) _ _ => e
  | .List (.Tuple (e :: _) _ _ :: _) _ => e
  | .List (e :: _) _ => e
  | e => e
def stLam : Stmt → Expr
  | .Expr (.Call _ (e :: _) _ _) _ => lamOf e
  | .Assign _ e _ => lamOf e
  | _ => .Constant .none 0 ⟨0, 0, 0, 0⟩
def lamBody : Expr → Expr
  | .Lambda _ b _ _ => b
  | e => e
def lamScope : Expr → Scope → Scope
  | .Lambda _ _ sc _, _ => sc
  | _, sc => sc
/-- a lambda that is held raises an error of the class cls -/
def LamGood (P : Program) (w : World) (K : PySem.W.Frag) (mg : Str → Option Value) (base : Heap) (lv : Nat) (cls : Value) (M : Mm) (x : D) : Prop :=
  ∃ (b : Expr) (sc : Scope) (cs : List (Str × Addr)) (ds : List D) (wb : WE), x = .lam b sc cs ∧ LamSV sc (cs.map (·.1)) ∧ (cs.map (·.1)).Nodup ∧ (cs.map (·.2)).Nodup ∧ ds.length = cs.length ∧ (∀ p ∈ zipC cs ds, M p.1 = some (.cell p.2)) ∧
    LamSE P w K mg base lv b sc (cs.map (·.1)) wb ∧ ∀ (M' : Mm) (k : KE) (kx : KX), kx cls [] M' → wb (ds.map some) M' k kx
theorem LamGood.more {P : Program} {w : World} {K : PySem.W.Frag} {mg : Str → Option Value} {base : Heap} {lv : Nat} {cls : Value} {M M' : Mm} {x : D} (h : LamGood P w K mg base lv cls M x) (k : ∀ b d, M b = some (.cell d) → M' b = some (.cell d)) : LamGood P w K mg base lv cls M' x := by
  obtain ⟨b, sc, cs, ds, wb, e, h1, h2, h3, h4, h5, h6⟩ := h
  exact ⟨b, sc, cs, ds, wb, e, h1, h2, h3, h4, fun p hp => k _ _ (h5 p hp), h6⟩
theorem trM_at {M : Mm} {z : List (Addr × D)} (n : (z.map (·.1)).Nodup) {p : Addr × D} (h : p ∈ z) : trM M z p.1 = some (.cell p.2) := by
  have key : ∀ {l : List (Addr × D)}, (l.map (·.1)).Nodup → p ∈ l → l.lookup p.1 = some p.2 := by
    intro l
    induction l with
    | nil => exact fun _ h => (nomatch h)
    | cons q l ih =>
      intro n h
      rw [List.map_cons, List.nodup_cons] at n
      obtain ⟨a, d⟩ := q
      rw [List.lookup_cons]
      rcases List.mem_cons.mp h with e | e
      · rw [e]; simp
      · have ne : (p.1 == a) = false := by
          cases z : (p.1 == a) with
          | false => rfl
          | true =>
            have : p.1 = a := by simpa using z
            exact absurd (List.mem_map.mpr ⟨p, e, this⟩) n.1
        rw [ne]
        exact ih n.2 e
  unfold trM
  rw [key n h]
theorem trM_other {M : Mm} {z : List (Addr × D)} {a : Addr} (h : a ∉ z.map (·.1)) : trM M z a = M a := by
  have key : ∀ {l : List (Addr × D)}, a ∉ l.map (·.1) → l.lookup a = none := by
    intro l
    induction l with
    | nil => exact fun _ => rfl
    | cons q l ih =>
      intro n
      obtain ⟨b, d⟩ := q
      rw [List.map_cons, List.mem_cons, not_or] at n
      have ne : (a == b) = false := by
        cases z : (a == b) with
        | false => rfl
        | true => exact absurd (by simpa using z) n.1
      rw [List.lookup_cons, ne]
      exact ih n.2
  unfold trM
  rw [key h]
end DL
namespace DL
open PySem PySem.Spec PyProof.Rows L2
variable [TL : TabList]
theorem e_callLS {X : Cx} {i lv : Nat} {a : Str} {p1 p2 : Pos} {LS : Expr → Scope → List Str → WE → Prop} (hr : Room (lv + 1) X.A) (hL : LamSE X.prog X.w X.K X.mg X.base lv = LS) (hi : X.N[i]? = some a := by rfl) (hv : Vis X.env.scope a := by first | exact Or.inl rfl | exact Or.inr (Or.inl rfl) | exact Or.inr (Or.inr rfl)) (hd : (a == ("__debug__" : Str)) = false := by decide)
    (hcd : (a == ("__classdict__" : Str)) = false := by decide) : SE X (.Call (.Name a p1) [] [] p2) (wCallL LS i) := by
  subst hL
  exact e_callL hr hi hv hd hcd
end DL
namespace DL
open PySem PySem.Spec PyProof.Rows L2
variable [TL : TabList]
theorem lams_end {M B : Mm} {p : Addr} {ls : List D} {cs : List (Str × Addr)} {ds : List D} (hB : B p = some (.lst ls)) (hle : Le M B) (hl : ds.length = cs.length) (hn : (cs.map (·.2)).Nodup) (hfr : ∀ q ∈ cs, B q.2 = none) :
    Le M (trM B (zipC cs ds)) ∧ trM B (zipC cs ds) p = some (.lst ls) ∧ ∀ q ∈ zipC cs ds, trM B (zipC cs ds) q.1 = some (.cell q.2) := by
  have out : ∀ b o, B b = some o → b ∉ (zipC cs ds).map (·.1) := fun b o e hm => by
    rw [zip_fst hl] at hm
    obtain ⟨q, hq, e2⟩ := List.mem_map.mp hm
    have e2 : q.2 = b := e2
    have := hfr q hq
    rw [e2, e] at this
    cases this
  exact ⟨fun b o e => by rw [trM_other (out b o (hle b o e))]; exact hle b o e, by rw [trM_other (out p _ hB)]; exact hB, fun q hq => trM_at (by rw [zip_fst hl]; exact hn) hq⟩
end DL
namespace DL
open PySem PySem.Spec PyProof.Rows L2
variable [TL : TabList]
/-! ### instances of own classes, told by the store -/
/-- a class of the text; the names fl are attributes of its instances alone -/
structure ClsI (K : PySem.W.Frag) (C : Addr) (fl : List Str) : Prop where
  c : L2.Cls K C
  no : ∀ f ∈ fl, NoAttr K C f
section
variable {X : Cx} {o e ev : Expr} {es : List Expr} {w wo wv : WE} {ws : WA} {pos p p2 apos pos' : Pos} {C : Addr} {f m : Str} {fl : List Str}
@[reducible] def kFld (C : Addr) (f : Str) (k : KE) : KE := fun d M => match d with
  | .ref a => ∃ fs, M a = some (.ins C fs) ∧ onAt (fs.lookup f) fun v => k v M
  | _ => False
@[reducible] def wFld (C : Addr) (f : Str) (w : WE) : WE := fun sd M k kx => w sd M (kFld C f k) kx
/-- o.f -/
theorem e_fld (c : ClsI X.K C fl) (hf : f ∈ fl) (he : SE X e w) (hb : attributeBase e f X.env (eval e X.env) = eval e X.env := by rfl) : SE X (.Attribute e f pos) (wFld C f w) := fun Wx tk =>
  PE.imp (pe_fld (he Wx tk) hb) fun σ H Q h => by
    obtain ⟨sd, M, k, kx, rs, rm, h, po, px⟩ := h
    refine ⟨sd, M, _, kx, rs, rm, h, fun v H1 d M1 r1 rs1 rm1 k1 h1 => ?_, px⟩
    cases d with
    | ref a =>
      obtain ⟨fs, hM, hk⟩ := h1
      obtain ⟨d, e1, hk⟩ := onAt_ex hk
      obtain ⟨dx, vs, ha, _, r⟩ := rm1 a _ hM
      obtain ⟨vv, hl, rv⟩ := repKV_lookup r e1
      cases r1
      exact ⟨a, C, dx, vs, vv, rfl, ha, c.c, c.no f hf, hl, po vv H1 d M1 rv rs1 rm1 k1 hk⟩
    | _ => exact h1.elim
def putFD (f : Str) (v : D) : List (Str × D) → List (Str × D)
  | [] => [(f, v)]
  | (g, x) :: r => if g = f then (g, v) :: r else (g, x) :: putFD f v r
theorem repKV_put {K : PySem.W.Frag} {H : Hp} {y : V} {v : D} (ry : Rep K H y v) : ∀ {vs : List (Str × V)} {fs : List (Str × D)}, RepKV K H vs fs → RepKV K H (putF f y vs) (putFD f v fs)
  | [], [], _ => ⟨rfl, .cons ry .nil⟩
  | [], _ :: _, h => by have := repKV_len h; simp at this
  | _ :: _, [], h => by have := repKV_len h; simp at this
  | (g, x) :: vs, (g', x') :: fs, h => by
    obtain ⟨e, r, t⟩ := repKV_cons h
    simp only at e r
    subst e
    unfold putF putFD
    by_cases hg : g = f
    · rw [if_pos hg, if_pos hg]
      exact ⟨by rw [List.map_cons, List.map_cons, t.1], .cons ry t.2⟩
    · rw [if_neg hg, if_neg hg]
      have z := repKV_put ry t
      exact ⟨by rw [List.map_cons, List.map_cons, z.1], .cons r z.2⟩
theorem Stay.ins {H : Hp} {a dx C' : Addr} {vs : List (Str × V)} {o : HO} (h : H a = some (.ins C' dx vs)) : Stay H (upd H a o) := .chg fun u e => by
  rw [h] at e; cases e; exact ⟨fun _ z => HO.noConfusion z, fun _ _ z => HO.noConfusion z, fun _ z => HO.noConfusion z, fun _ z => HO.noConfusion z⟩
@[reducible] def kSF2 (C : Addr) (f : Str) (v : D) (k : SD → Mm → Prop) (sd : SD) : KE := fun d M => match d with
  | .ref a => ∃ fs, M a = some (.ins C fs) ∧ fs.length < 900 ∧ k sd (put M a (.ins C (putFD f v fs)))
  | _ => False
@[reducible] def kSF1 (C : Addr) (f : Str) (wo : WE) (k : SD → Mm → Prop) (sd : SD) (kx : KX) : KE := fun v M => wo sd M (kSF2 C f v k sd) kx
@[reducible] def wSetFld (C : Addr) (f : Str) (wo wv : WE) : WS := fun ED sd M => wv sd M (kSF1 C f wo ED.nx sd (exAt ED sd)) (exAt ED sd)
/-- o.f = v -/
theorem s_fld (c : ClsI X.K C fl) (hf : f ∈ fl) (ho : SE X o wo) (hv : SE X ev wv) (hs : swapsWith ev (some (.Attribute o f pos')) pos.line X.env = pure false := by rfl) : SS X (.Assign [.Attribute o f pos'] ev pos) (wSetFld C f wo wv) := fun Wx tk =>
  PS.imp (ps_fld (ho Wx tk) (hv Wx tk) hs) fun E σ H h => by
    obtain ⟨ED, sd, M, rs, rm, h, r⟩ := h
    refine ⟨sd, M, _, _, rs, rm, h, fun y H1 v M1 r1 rs1 rm1 k1 h1 => ?_, r.ex.at⟩
    refine ⟨sd, M1, _, _, rs1, rm1, h1, fun x H2 d M2 r2 rs2 rm2 k2 h2 => ?_, (r.ex.st k1).at⟩
    cases d with
    | ref a =>
      obtain ⟨fs, hM, hl, hk⟩ := h2
      obtain ⟨dx, vs, ha, hd, rr⟩ := rm2 a _ hM
      cases r2
      have st : Stay H2 (upd H2 a (.ins C dx (putF f y vs))) := .ins ha
      have hne : dx ≠ a := fun z => by rw [z, ha] at hd; cases hd
      refine ⟨a, C, dx, vs, rfl, ha, c.c, c.no f hf, by rw [repKV_len rr]; omega, ?_⟩
      refine r.nx σ _ sd _ (rs2.st st) (rm2.put (o := .ins C (putFD f v fs)) st (fun z q => by rw [ha] at q; cases q) ⟨dx, _, upd_same, by rw [upd_ne hne]; exact hd, repKV_put ((r1.kp k2).st st) (rr.st st)⟩) (((k1.trans k2)).trans (Kp.set st hM)) hk
    | _ => exact h2.elim

/-! calls of own defs at any room -/
theorem run_fnA {CX : CXT} {A' : Around} {k : Nat} {g : Addr} {fd : FuncData} {ps : List Str} {sp : Sp} {E : St → XK} {pins : List (Addr × Obj)} {σ : St} {H : Hp} {s : Shared} {Q : VK} {us : List Value} {vs : List V} (F : FnOk X.prog X.w X.K X.mg X.base CX k g fd ps sp) (hr : Room k A') (hb : Binds X.K fd ps []) (hx : PassesAt CX X σ (E σ))
    (e0 : Env0 X.prog X.w X.K X.mg X.base A' X.stack s H) (I : Inv X pins σ H s) (r : Vals vs us) (h : sp vs H Q (E σ)) : wpAny (model X.prog X.w) A' (call (.ref g) us) (EP X pins σ Q) X.xe s := by
  have hl : us.length = ps.length := by rw [← r.length]; exact F.len _ _ _ _ h
  have b := hb s us I.kIn (by rw [List.append_nil]; exact hl)
  rw [List.append_nil] at b
  refine wpAny_call (codeAny_mono (F.run A' X.stack s H ⟨us, []⟩ us vs Q (E σ) hr e0 b r h) fun r s' hq => ?_)
  cases r with
  | error e => exact hx pins H s e s' I hq
  | ok fl =>
    cases fl with
    | ret u => exact I.after hq
    | next => exact False.elim hq
    | brk => exact False.elim hq
    | cont => exact False.elim hq
/-- a method that keeps its promise -/
structure MethD (P : Program) (w : World) (K : PySem.W.Frag) (mg : Str → Option Value) (base : Heap) (C : Addr) (m : Str) (lvl : Nat) (sp : SpD) : Prop where
  ex : ∃ f fd ps, FnOk P w K mg base (L2.CX P w) lvl f fd ps (toSp K sp) ∧ Meth K C m f ∧ PySem.W.fnIn K f = true ∧ Binds K fd ps []
def tMethE (C : Addr) (m : Str) (sp : Sp) (E : St → XK) (ta : TE) (t : TA) : TE := fun σ H Q => ta σ H fun x H1 => ∃ a dx fs, x = .ref a ∧ H1 a = some (.ins C dx fs) ∧ fs.lookup m = none ∧ t σ H1 fun vs H2 => sp (x :: vs) H2 Q (E σ)
theorem pe_methE {CX : CXT} {k : Nat} {g : Addr} {fd : FuncData} {ps : List Str} {sp : Sp} {E : St → XK} {ta : TE} {t : TA} {pl : Sem Bool} (he : PE X o ta) (c : L2.Cls X.K C) (hm : Meth X.K C m g) (F : FnOk X.prog X.w X.K X.mg X.base CX k g fd ps sp) (hr : Room k X.A) (hb : Binds X.K fd ps []) (hx : ∀ σ, PassesAt CX X σ (E σ)) (ha : PA X (e :: es) t)
    (hst : starEach (e :: es) X.env = (false, eval e X.env) :: starEach es X.env := by rfl) (hpl : (backTo pos (starEach es X.env)).any (·.1) = false := by rfl)
    (ht : eval (.Call (.Attribute o m apos) (e :: es) [] pos) X.env = (do
      let ov ← eval o X.env
      standAt apos.atName
      let (f, first) ← holding [ov] (getMethod ov m pl)
      callWith pos f first (backTo pos (starEach (e :: es) X.env)) (backToKw pos (keywordEach [] X.env))) := by rfl) :
    PE X (.Call (.Attribute o m apos) (e :: es) [] pos) (tMethE C m sp E ta t) := by
  refine ⟨fun pins s σ H Q I h => ?_⟩
  refine PySem.W.methodCall_KW (pl := pl) (thn (he.run pins s σ H _ I h) fun u s1 ⟨x, H1, I1, rx, a, dx, fs, ex, ea, l, q⟩ => ?_) ht
  subst ex
  obtain rfl : u = Value.ref a := rx
  refine getmeth_ok I1 ea c hm l ?_
  refine PySem.W.callWith_K (first := [.ref a]) (h₀ := X.base) I.ok.mod.kin hm.kp (thn (ha.run pos pins s1 σ H1 _ I1 q) fun us s2 ⟨vs, H2, I2, r, q2⟩ => ⟨I2.kIn, ?_⟩) hst hpl
  exact run_fnA (us := .ref a :: us) (vs := .ref a :: vs) F hr hb (hx σ) I2.env0 I2 (.cons rfl r) q2
theorem pe_methE0 {CX : CXT} {k : Nat} {g : Addr} {fd : FuncData} {ps : List Str} {sp : Sp} {E : St → XK} {ta : TE} {pl : Sem Bool} (he : PE X o ta) (c : L2.Cls X.K C) (hm : Meth X.K C m g) (F : FnOk X.prog X.w X.K X.mg X.base CX k g fd ps sp) (hr : Room k X.A) (hb : Binds X.K fd ps []) (hx : ∀ σ, PassesAt CX X σ (E σ))
    (ht : eval (.Call (.Attribute o m apos) [] [] pos) X.env = (do
      let ov ← eval o X.env
      standAt apos.atName
      let (f, first) ← holding [ov] (getMethod ov m pl)
      callWith pos f first (backTo pos (starEach [] X.env)) (backToKw pos (keywordEach [] X.env))) := by rfl) :
    PE X (.Call (.Attribute o m apos) [] [] pos) (tMethE C m sp E ta tNil) := by
  refine ⟨fun pins s σ H Q I h => ?_⟩
  refine PySem.W.methodCall_KW (pl := pl) (thn (he.run pins s σ H _ I h) fun u s1 ⟨x, H1, I1, rx, a, dx, fs, ex, ea, l, q⟩ => ?_) ht
  subst ex
  obtain rfl : u = Value.ref a := rx
  refine getmeth_ok I1 ea c hm l ?_
  exact PySem.W.callWith_K0 (first := [.ref a]) I1.kIn hm.kp (run_fnA (us := [.ref a]) (vs := [.ref a]) F hr hb (hx σ) I1.env0 I1 (.cons rfl .nil) q)
@[reducible] def kMe2 (sp : SpD) (a : Addr) (k : KE) (kx : KX) : List D → Mm → Prop := fun ds M => sp (.ref a :: ds) M k kx
@[reducible] def kMe1 (C : Addr) (m : Str) (sp : SpD) (ws : WA) (sd : SD) (k : KE) (kx : KX) : KE := fun d M => match d with
  | .ref a => ∃ fs, M a = some (.ins C fs) ∧ fs.lookup m = none ∧ ws sd M (kMe2 sp a k kx) kx
  | _ => False
@[reducible] def wMeth (C : Addr) (m : Str) (sp : SpD) (wo : WE) (ws : WA) : WE := fun sd M k kx => wo sd M (kMe1 C m sp ws sd k kx) kx
theorem lookup_none {K : PySem.W.Frag} {H : Hp} {f : Str} : ∀ {vs : List (Str × V)} {fs : List (Str × D)}, RepKV K H vs fs → fs.lookup f = none → vs.lookup f = none
  | [], _, _, _ => rfl
  | _ :: _, [], h, _ => by have := repKV_len h; simp at this
  | (g, x) :: vs, (g', x') :: fs, h, e => by
    obtain ⟨e1, _, t⟩ := repKV_cons h
    simp only at e1
    subst e1
    rw [List.lookup_cons] at e ⊢
    cases q : (f == g) with
    | true => rw [q] at e; cases e
    | false => rw [q] at e; exact lookup_none t e
/-- a promise, where it is met -/
theorem sp_here {K : PySem.W.Frag} {Wx : WX} {σ : St} {sd : SD} {vs : List V} {ds : List D} {H H1 : Hp} {M M1 : Mm} {sp : SpD} {k : KE} {kx : KX} {Q : VK} (r : Reps K H1 vs ds) (rs : RelS K H1 σ sd) (rm : RelM K H1 M1) (k1 : Kp M H M1 H1) (h : sp ds M1 k kx) (po : PostE K H M σ sd k Q) (px : PostX K H M σ sd kx Wx) : toSp K sp vs H1 Q (L2.WE Wx σ) :=
  ⟨ds, M1, k, kx, r, rm, h, fun v H2 d M2 a b c q => po v H2 d M2 a (rs.kp c) b (k1.trans c) q, fun cls d H2 fs M2 a b c q => px cls d H2 fs M2 a (rs.kp c) b (k1.trans c) q⟩
theorem e_meth {lvl : Nat} {sp : SpD} {pl : Sem Bool} (c : ClsI X.K C fl) (Mt : MethD X.prog X.w X.K X.mg X.base C m lvl sp) (hr : Room lvl X.A) (ho : SE X o wo) (ha : SA X (e :: es) ws)
    (hst : starEach (e :: es) X.env = (false, eval e X.env) :: starEach es X.env := by rfl) (hpl : (backTo pos (starEach es X.env)).any (·.1) = false := by rfl)
    (ht : eval (.Call (.Attribute o m apos) (e :: es) [] pos) X.env = (do
      let ov ← eval o X.env
      standAt apos.atName
      let (f, first) ← holding [ov] (getMethod ov m pl)
      callWith pos f first (backTo pos (starEach (e :: es) X.env)) (backToKw pos (keywordEach [] X.env))) := by rfl) : SE X (.Call (.Attribute o m apos) (e :: es) [] pos) (wMeth C m sp wo ws) := fun Wx tk => by
  obtain ⟨g, fd, ps, F, hm, _, hb⟩ := Mt.ex
  refine PE.imp (pe_methE (E := L2.WE Wx) (ho Wx tk) c.c hm F hr hb (fun σ => passAt tk σ) (ha Wx tk) hst hpl ht) fun σ H Q h => ?_
  obtain ⟨sd, M, k, kx, rs, rm, h, po, px⟩ := h
  refine ⟨sd, M, _, kx, rs, rm, h, fun v H1 d M1 r1 rs1 rm1 k1 h1 => ?_, px⟩
  cases d with
  | ref a =>
    obtain ⟨fs, hM, hl, h2⟩ := h1
    obtain ⟨dx, vs, hH, _, rr⟩ := rm1 a _ hM
    cases r1
    refine ⟨a, dx, vs, rfl, hH, lookup_none rr hl, sd, M1, _, kx, rs1, rm1, h2, fun vs2 H2 ds M2 r2 rs2 rm2 k2 h3 => ?_, px.st k1⟩
    exact sp_here (.cons (.ref a) r2) rs2 rm2 (k1.trans k2) h3 po px
  | _ => exact h1.elim
theorem e_meth0 {lvl : Nat} {sp : SpD} {pl : Sem Bool} (c : ClsI X.K C fl) (Mt : MethD X.prog X.w X.K X.mg X.base C m lvl sp) (hr : Room lvl X.A) (ho : SE X o wo)
    (ht : eval (.Call (.Attribute o m apos) [] [] pos) X.env = (do
      let ov ← eval o X.env
      standAt apos.atName
      let (f, first) ← holding [ov] (getMethod ov m pl)
      callWith pos f first (backTo pos (starEach [] X.env)) (backToKw pos (keywordEach [] X.env))) := by rfl) : SE X (.Call (.Attribute o m apos) [] [] pos) (wMeth C m sp wo wNil) := fun Wx tk => by
  obtain ⟨g, fd, ps, F, hm, _, hb⟩ := Mt.ex
  refine PE.imp (pe_methE0 (E := L2.WE Wx) (ho Wx tk) c.c hm F hr hb (fun σ => passAt tk σ) ht) fun σ H Q h => ?_
  obtain ⟨sd, M, k, kx, rs, rm, h, po, px⟩ := h
  refine ⟨sd, M, _, kx, rs, rm, h, fun v H1 d M1 r1 rs1 rm1 k1 h1 => ?_, px⟩
  cases d with
  | ref a =>
    obtain ⟨fs, hM, hl, h2⟩ := h1
    obtain ⟨dx, vs, hH, _, rr⟩ := rm1 a _ hM
    cases r1
    exact ⟨a, dx, vs, rfl, hH, lookup_none rr hl, sp_here (.cons (.ref a) .nil) rs1 rm1 k1 h2 po px⟩
  | _ => exact h1.elim

/-! C(..) -/
def tMakeE (C : Addr) (sp : Sp) (E : St → XK) (t : TA) : TE := fun σ H Q => t σ H fun vs H1 => ∀ x dx, H1 x = none → H1 dx = none → dx ≠ x → sp (.ref x :: vs) (upd (upd H1 dx (.own x)) x (.ins C dx [])) (fun v H2 => v = .non ∧ Q (.ref x) H2) (E σ)
theorem pe_makeE {CX : CXT} {k : Nat} {g : Addr} {fd : FuncData} {ps : List Str} {sp : Sp} {E : St → XK} {t : TA} {x : Str} (Mk0 : Mk X.K C g) (F : FnOk X.prog X.w X.K X.mg X.base CX k g fd ps sp) (hr : Room (k + 1) X.A) (hg : Gl X x) (hm : X.mg x = some (.ref C)) (hb : Binds X.K fd ps []) (hx : ∀ σ, PassesAt CX X σ (E σ)) (ha : PA X (e :: es) t)
    (hdb : (x == ("__debug__" : Str)) = false := by decide) (he : starEach (e :: es) X.env = (false, eval e X.env) :: starEach es X.env := by rfl) (hpl : (backTo pos (starEach es X.env)).any (·.1) = false := by rfl) :
    PE X (.Call (.Name x p) (e :: es) [] pos) (tMakeE C sp E t) := by
  refine ⟨fun pins s σ H Q I h => ?_⟩
  refine wpAny_Call_Name_kw (ld_glob I hg hm ?_ hdb)
  refine PySem.W.callWith_K (h₀ := X.base) I.ok.mod.kin Mk0.kp (thn (ha.run pos pins s σ H _ I h) fun us s1 ⟨vs, H1, I1, r, q⟩ => ⟨I1.kIn, ?_⟩) he hpl
  have hq := q (s1.heap.objs.size + 1) s1.heap.objs.size (I1.hok.fresh (Nat.le_succ _)) (I1.hok.fresh (Nat.le_refl _)) (Nat.ne_of_lt (Nat.lt_succ_self _))
  have I2 := Inv.made (C := C) I1
  have r2 : Vals (V.ref (s1.heap.objs.size + 1) :: vs) (Value.ref (s1.heap.objs.size + 1) :: us) := .cons rfl r
  have hl : (Value.ref (s1.heap.objs.size + 1) :: us).length = ps.length := by rw [← r2.length]; exact F.len _ _ _ _ hq
  have b := hb _ (Value.ref (s1.heap.objs.size + 1) :: us) I2.kIn (by rw [List.append_nil]; exact hl)
  rw [List.append_nil] at b
  refine wpAny_call (make_map (f := g) I1.kIn Mk0.makes Mk0.init (beq_iff_eq.mp Mk0.fn) (codeAny_mono (F.run _ X.stack _ _ ⟨Value.ref (s1.heap.objs.size + 1) :: us, []⟩ (Value.ref (s1.heap.objs.size + 1) :: us) _ _ (E σ) (hr.make C us [])
    (I2.env0.make C us []) b r2 hq) fun r s' hq' => ?_))
  cases r with
  | error e => exact hx σ pins _ _ e s' I2 hq'
  | ok fl =>
    cases fl with
    | ret u =>
      obtain ⟨v, H', I3, rv, ev, q3⟩ := I2.after hq'
      subst ev
      exact ⟨rv, ⟨V.ref (s1.heap.objs.size + 1), H', I3, rfl, q3⟩⟩
    | next => exact False.elim hq'
    | brk => exact False.elim hq'
    | cont => exact False.elim hq'
/-- a class whose __init__ keeps its promise -/
structure MakeD (P : Program) (w : World) (K : PySem.W.Frag) (mg : Str → Option Value) (base : Heap) (x : Str) (C : Addr) (lvl : Nat) (sp : SpD) : Prop where
  ex : ∃ f fd ps, FnOk P w K mg base (L2.CX P w) lvl f fd ps (toSp K sp) ∧ Mk K C f ∧ Binds K fd ps []
  g : mg x = some (.ref C)
@[reducible] def kMk (x : Addr) (k : KE) : KE := fun d M => d = .non ∧ k (.ref x) M
@[reducible] def kMake (C : Addr) (sp : SpD) (k : KE) (kx : KX) : List D → Mm → Prop := fun ds M => ∀ x, M x = none → sp (.ref x :: ds) (put M x (.ins C [])) (kMk x k) kx
@[reducible] def wMake (C : Addr) (sp : SpD) (ws : WA) : WE := fun sd M k kx => ws sd M (kMake C sp k kx) kx
theorem e_make {lvl : Nat} {sp : SpD} {x : Str} (Mt : MakeD X.prog X.w X.K X.mg X.base x C lvl sp) (hr : Room (lvl + 1) X.A) (hg : Gl X x) (ha : SA X (e :: es) ws)
    (hdb : (x == ("__debug__" : Str)) = false := by decide) (he : starEach (e :: es) X.env = (false, eval e X.env) :: starEach es X.env := by rfl) (hpl : (backTo pos (starEach es X.env)).any (·.1) = false := by rfl) :
    SE X (.Call (.Name x p) (e :: es) [] pos) (wMake C sp ws) := fun Wx tk => by
  obtain ⟨g, fd, ps, F, M0, hb⟩ := Mt.ex
  refine PE.imp (pe_makeE (E := L2.WE Wx) M0 F hr hg Mt.g hb (fun σ => passAt tk σ) (ha Wx tk) hdb he hpl) fun σ H Q h => ?_
  obtain ⟨sd, M, k, kx, rs, rm, h, po, px⟩ := h
  refine ⟨sd, M, _, kx, rs, rm, h, fun vs H1 ds M1 r1 rs1 rm1 k1 h1 => ?_, px⟩
  intro a dx ha hdx hne
  have hda : upd H1 dx (.own a) a = none := by rw [upd_ne (Ne.symm hne)]; exact ha
  have s1 : Kp M1 H1 M1 (upd H1 dx (.own a)) := .new hdx
  have s2 : Kp M1 (upd H1 dx (.own a)) (put M1 a (.ins C [])) (upd (upd H1 dx (.own a)) a (.ins C dx [])) := .newT hda
  have s12 := s1.trans s2
  have rm2 : RelM X.K (upd (upd H1 dx (.own a)) a (.ins C dx [])) (put M1 a (.ins C [])) := (rm1.lay hdx).put (o := .ins C []) (.new hda) (fun y z => by rw [hda] at z; cases z) ⟨dx, [], upd_same, by rw [upd_ne hne, upd_same], rfl, .nil⟩
  refine ⟨.ref a :: ds, put M1 a (.ins C []), _, kx, .cons (.ref a) (r1.kp s12), rm2, h1 a (rm1.free ha), fun v H2 d M2 a1 b1 c1 q => ?_, fun cls d H2 fs M2 a1 b1 c1 q => ?_⟩
  · obtain ⟨rfl, q⟩ := q
    cases a1
    exact ⟨rfl, po _ H2 _ M2 (.ref a) ((rs1.kp s12).kp c1) b1 ((k1.trans s12).trans c1) q⟩
  · exact px cls d H2 fs M2 a1 ((rs1.kp s12).kp c1) b1 ((k1.trans s12).trans c1) q
end
end DL
namespace DL
open PySem PySem.Spec PyProof.Rows L2
variable [TL : TabList]
/-! ### properties; len, subscripts, text of instances; += by an own def; constants of a class -/
theorem at_no {X : Cx} {σ : L2.St} : PassesAt (L2.CX X.prog X.w) X σ (fun _ _ _ => False) := fun pins H s e s' I z => by
  obtain ⟨_, _, _, _, _, _, _, _, _, _, _, _, z⟩ := z
  exact z.elim
theorem post_no {K : PySem.W.Frag} {H : Hp} {M : Mm} {E : XK} : PostC K H M kxF E := fun _ _ _ _ _ _ _ _ z => False.elim z
theorem ins_at {X : Cx} {pins : List (Addr × Obj)} {σ : L2.St} {H : Hp} {s : Shared} {a C dx : Addr} {vs : List (Str × V)} (I : Inv X pins σ H s) (ha : H a = some (.ins C dx vs)) : ∃ o od, PySem.W.InstAt s.heap a o C od := by
  obtain ⟨mA, O, _⟩ := ins_get I.hok ha
  obtain ⟨od, J, _⟩ := O.look
  exact ⟨_, _, J⟩
section
variable {X : Cx} {o e a b : Expr} {es : List Expr} {w wo wa wb we : WE} {ws : WA} {pos p p2 apos pos' : Pos} {C : Addr} {f m : Str} {fl : List Str} {lvl : Nat} {sp : SpD}
structure PropD (P : Program) (w : World) (K : PySem.W.Frag) (mg : Str → Option Value) (base : Heap) (C : Addr) (f : Str) (lvl : Nat) (sp : SpD) : Prop where
  ex : ∃ p g fd ps, PropOf K C f p g ∧ FnOk P w K mg base (L2.CX P w) lvl g fd ps (toSp K sp) ∧ Binds K fd ps []
@[reducible] def kOwn (C : Addr) (sp : SpD) (k : KE) : KE := fun d M => match d with
  | .ref a => ∃ fs, M a = some (.ins C fs) ∧ sp [.ref a] M k kxF
  | _ => False
@[reducible] def wOwn (C : Addr) (sp : SpD) (w : WE) : WE := fun sd M k kx => w sd M (kOwn C sp k) kx
/-- o.f, a property -/
theorem e_prop (c : ClsI X.K C fl) (Pr : PropD X.prog X.w X.K X.mg X.base C f lvl sp) (hr : Room (lvl + 1) X.A) (he : SE X e w) (hb : attributeBase e f X.env (eval e X.env) = eval e X.env := by rfl) : SE X (.Attribute e f pos) (wOwn C sp w) := fun Wx tk => by
  obtain ⟨p, g, fd, ps, hp, F, hB⟩ := Pr.ex
  refine PE.imp (pe_prop (E := fun _ _ _ => False) (he Wx tk) c.c hp F hr hB .nil (fun pins σ H s e s' I z => at_no (X := X.nox) pins H s e s' I z) hb) fun σ H Q h => ?_
  obtain ⟨sd, M, k, kx, rs, rm, h, po, px⟩ := h
  refine ⟨sd, M, _, kx, rs, rm, h, fun v H1 d M1 r1 rs1 rm1 k1 h1 => ?_, px⟩
  cases d with
  | ref a =>
    obtain ⟨fs, hM, h2⟩ := h1
    obtain ⟨dx, vs, hH, _, rr⟩ := rm1 a _ hM
    cases r1
    exact ⟨a, dx, vs, rfl, hH, [.ref a], M1, k, kxF, .cons (.ref a) .nil, rm1, h2, fun v H2 d M2 a1 b1 c1 q => po v H2 d M2 a1 (rs1.kp c1) b1 (k1.trans c1) q, post_no⟩
  | _ => exact h1.elim
@[reducible] def lenB (k : KE) : KE := fun d M => match d with
  | .int n => (0 ≤ n ∧ n < 2 ^ 63) ∧ k (.int n) M
  | _ => False
@[reducible] def cLenI (C : Addr) (sp : SpD) : CD := fun ds M k => on1 ds fun x => kOwn C sp (lenB k) x M
/-- len(o) -/
theorem c_lenI (c : ClsI X.K C fl) (Mt : MethD X.prog X.w X.K X.mg X.base C "__len__" lvl sp) (hr : Room (lvl + 1) X.A) : CallD X (.builtin "len") (cLenI C sp) := by
  obtain ⟨g, fd, ps, F, hm, _, hb⟩ := Mt.ex
  intro pins s σ H xs us Q I r ⟨ds, M, k, rr, rm, h, po⟩
  obtain ⟨x, rfl, h⟩ := on1_ex h
  obtain ⟨v, rfl, rv⟩ := reps1 rr
  cases x with
  | ref a =>
    obtain ⟨fs, hM, h2⟩ := h
    cases rv
    obtain ⟨dx, vs, hH, _, _⟩ := rm a _ hM
    obtain ⟨ox, od, J⟩ := ins_at I hH
    obtain ⟨m, fr⟩ := I.fr
    cases r with
    | cons ru rn =>
      cases rn
      cases ru
      refine PySem.W.len_K fr I.ok.mod.kin J hm.at_ hm.fn (wpAny_mono (run_fnA (A' := X.A.in1) (E := fun _ _ _ _ => False) (Q := fun v H' => ∃ n : Int, v = .int n ∧ (0 ≤ n ∧ n < 2 ^ 63) ∧ Q (.int n) H') F hr.in1 hb at_no I.env0.in1 I (vs := [.ref a]) (.cons rfl .nil)
        ⟨[.ref a], M, lenB k, kxF, .cons (.ref a) .nil, rm, h2, fun v H2 d M2 a1 b1 c1 q => ?_, post_no⟩) (fun u s' hu => ?_) fun _ _ z => z)
      · cases d with
        | int n =>
          cases a1
          exact ⟨n, rfl, q.1, po _ H2 _ M2 (.int n) b1 c1 q.2⟩
        | _ => exact q.elim
      · obtain ⟨v, H', I', rv, n, rfl, hb, q⟩ := hu
        obtain ⟨t, rfl⟩ := rv
        exact ⟨hb, .int n, H', I'.tok _, ⟨_, rfl⟩, q⟩
  | _ => exact h.elim
/-- what is to be shown of o[i] -/
@[reducible] def kSubI2 (C : Addr) (sp : SpD) (x : D) (k : KE) (kx : KX) : KE := fun y M => match x with
  | .ref a => ∃ fs, M a = some (.ins C fs) ∧ sp [.ref a, y] M k kx
  | _ => False
@[reducible] def kSubI1 (C : Addr) (sp : SpD) (wb : WE) (sd : SD) (k : KE) (kx : KX) : KE := fun x M => wb sd M (kSubI2 C sp x k kx) kx
@[reducible] def wSubI (C : Addr) (sp : SpD) (wa wb : WE) : WE := fun sd M k kx => wa sd M (kSubI1 C sp wb sd k kx) kx
/-- o[i] -/
theorem e_subI (c : ClsI X.K C fl) (Mt : MethD X.prog X.w X.K X.mg X.base C "__getitem__" lvl sp) (hr : Room (lvl + 1) X.A) (ha : SE X a wa) (hb : SE X b wb)
    (hsl : ∀ o i, subscripted b true o i = runValue (.builtin "lifetime.subscript" ⟨[o, i], []⟩) := by intro _ _; with_unfolding_all rfl) : SE X (.Subscript a b pos) (wSubI C sp wa wb) := fun Wx tk => by
  obtain ⟨g, fd, ps, F, hm, hfn, hB⟩ := Mt.ex
  refine ⟨fun pins s σ H Q I h => ?_⟩
  obtain ⟨sd, M, k, kx, rs, rm, h, po, px⟩ := h
  refine Subscript_ (binT (ha Wx tk) (hb Wx tk) I (R := fun x y H2 => ∃ (a dx : Addr) (vs : List (Str × V)), x = V.ref a ∧ H2 a = some (.ins C dx vs) ∧ toSp X.K sp [.ref a, y] H2 Q (L2.WE Wx σ))
    ⟨sd, M, _, kx, rs, rm, h, fun v H1 d M1 r1 rs1 rm1 k1 h1 => ⟨sd, M1, _, kx, rs1, rm1, h1, fun v2 H2 d2 M2 r2 rs2 rm2 k2 h2 => ?_, px.st k1⟩, px⟩ fun v u s2 x y H2 I2 rx ry hq => ?_)
  · cases d with
    | ref a =>
      obtain ⟨fs, hM, h3⟩ := h2
      obtain ⟨dx, vs, hH, _, rr⟩ := rm2 a _ hM
      cases r1
      exact ⟨a, dx, vs, rfl, hH, sp_here (.cons (.ref a) (.cons r2 .nil)) rs2 rm2 (k1.trans k2) h3 po px⟩
    | _ => exact h2.elim
  · obtain ⟨a, dx, vs, rfl, hH, hsp⟩ := hq
    obtain ⟨ox, od, J⟩ := ins_at I2 hH
    obtain ⟨m, fr⟩ := I2.fr
    cases rx
    exact PySem.W.sub_K fr I2.ok.mod.kin J hm.at_ hfn hm.fn (run_fnA (A' := X.A.in1) (E := L2.WE Wx) F hr.in1 hB (passAt tk σ) I2.env0.in1 I2 (vs := [.ref a, y]) (.cons rfl (.cons ry .nil)) hsp) (hsl _ _)

theorem rel_ni (v : V) : ¬ L2.RelV v Value.notImplemented := fun r => by
  cases v with
  | non => cases (show Value.notImplemented = Value.none from r)
  | bl b => cases (show Value.notImplemented = Value.bool b from r)
  | int i => obtain ⟨t, e⟩ := (show ∃ t, Value.notImplemented = Value.int i t from r); cases e
  | str x => obtain ⟨t, e⟩ := (show ∃ t, Value.notImplemented = Value.str x t from r); cases e
  | byt b => obtain ⟨t, e⟩ := (show ∃ t, Value.notImplemented = Value.bytes b t from r); cases e
  | flt b => obtain ⟨t, e⟩ := (show ∃ t, Value.notImplemented = Value.float b t from r); cases e
  | ref a => cases (show Value.notImplemented = Value.ref a from r)
  | ty n => cases (show Value.notImplemented = Value.type n from r)
theorem dunderI_add : PySem.dunderI (Operator.info .Add).2 = "__iadd__" := by decide +kernel
/-! x += e by an own def -/
def tAugE (i : Nat) (te : TE) (ti : L2.St → V → V → Hp → VK → Prop) : TS := fun D σ H => ∃ x, σ[i]? = some (some x) ∧ te σ H fun y H1 => ti σ x y H1 fun z H2 => D.nx (σ.set i (some z)) H2
theorem ps_augE {i : Nat} {x : Str} {e : Expr} {te : TE} {op : Operator} {ti : L2.St → V → V → Hp → VK → Prop} {pos' : Pos} (hN : X.N.Nodup) (hi : X.N[i]? = some x) (hx : Loc X.env.scope x) (he : PE X e te)
    (ho : ∀ (pins : List (Addr × Obj)) (s : Shared) (σ : L2.St) (H : Hp) (x y : V) (u v : Value) (Q : VK), Inv X pins σ H s → RelV x u → RelV y v → ti σ x y H Q → wpAny (model X.prog X.w) X.A (inplaceOp op u v) (EP X pins σ Q) X.xe s)
    (hf : X.fn x = true ∨ X.env.scope.names.lookup x = some .local) : PS X (.AugAssign (.Name x pos') op e pos) (tAugE i te ti) := by
  refine ⟨fun pins s σ H D I h => ?_⟩
  obtain ⟨v, e1, h⟩ := h
  obtain ⟨m, hn, hl⟩ := I.loc
  have vis : Vis X.env.scope x := by rcases hx with k | k; exact .inl k; exact .inr (.inl k)
  obtain ⟨u, r, l⟩ := hl i x v hi e1 vis
  refine wpAny_AugAssign_Name ?_
  have go : wpAny (model X.prog X.w) X.A (eval e X.env) (fun w s₂ => wpAny (model X.prog X.w) X.A (inplaceOp op u w) (fun r s₃ => wpAny (model X.prog X.w) X.A (storeName X.env x r) (fun _ => SP X pins D .next) X.xe s₃) X.xe s₂) X.xe s := by
    refine thn (he.run pins s σ H _ I h) fun w s1 ⟨y, H1, I1, r1, q1⟩ => ?_
    refine thn (ho pins s1 σ H1 v y u w _ I1 r r1 q1) fun z s2 ⟨zv, H2, I2, r2, q2⟩ => ?_
    exact store_ok I2 hN hi hx r2 (fun s3 I3 => ⟨_, H2, I3, q2⟩) hf
  rcases l with ⟨hk, hm⟩ | ⟨hk, c, hc, hcell⟩
  · exact wpAny_loadName_local I.ok.kind hk hn hm go
  · rcases hk with hk | hk
    · exact wpAny_loadName_cell I.ok.kind hk hc hcell go
    · rcases hx with k | k
      · have : X.env.scope.names.lookup x = some .free := hk
        rw [k] at this; cases this
      · have : X.env.scope.names.lookup x = some .free := hk
        rw [k] at this; cases this
@[reducible] def kIad (C : Addr) (sp : SpD) (i : Nat) (x : D) (k : SD → Mm → Prop) (sd : SD) (kx : KX) : KE := fun y M => match x with
  | .ref a => ∃ fs, M a = some (.ins C fs) ∧ sp [.ref a, y] M (kSet i k sd) kx
  | _ => False
@[reducible] def wIad (C : Addr) (sp : SpD) (i : Nat) (we : WE) : WS := fun ED sd M => onSome (slotD sd i) fun x => we sd M (kIad C sp i x ED.nx sd (exAt ED sd)) (exAt ED sd)
/-- x += e -/
theorem s_iadd {i : Nat} {x : Str} (c : ClsI X.K C fl) (Mt : MethD X.prog X.w X.K X.mg X.base C "__iadd__" lvl sp) (hc : PySem.W.selfFirst X.K C = true) (hr : Room lvl X.A) (hN : X.N.Nodup) (hi : X.N[i]? = some x) (hx : Loc X.env.scope x) (he : SE X e we)
    (hf : X.fn x = true ∨ X.env.scope.names.lookup x = some .local := by first | exact .inl rfl | exact .inr rfl | assumption) : SS X (.AugAssign (.Name x pos') .Add e pos) (wIad C sp i we) := fun Wx tk => by
  obtain ⟨g, fd, ps, F, hm, hfn, hB⟩ := Mt.ex
  refine PS.imp (ps_augE (ti := fun σ x y H Q => ∃ (a dx : Addr) (vs : List (Str × V)), x = V.ref a ∧ H a = some (.ins C dx vs) ∧ toSp X.K sp [.ref a, y] H Q (L2.WE Wx σ)) hN hi hx (he Wx tk) (fun pins s σ H x y u v Q I rx ry h => ?_) hf) fun E σ H h => ?_
  · obtain ⟨a, dx, vs, rfl, hH, hsp⟩ := h
    obtain ⟨ox, od, J⟩ := ins_at I hH
    obtain ⟨m, fr⟩ := I.fr
    cases rx
    refine PySem.W.ksp_inplace fr I.ok.mod.kin J hc (by rw [dunderI_add]; exact hm.at_) hm.fn (wpAny_mono (run_fnA (A' := X.A) (E := L2.WE Wx) F hr hB (passAt tk σ) I.env0 I (vs := [.ref a, y]) (.cons rfl (.cons ry .nil)) hsp) (fun u s' hu => ?_) fun _ _ z => z)
    obtain ⟨v0, H', I', rv, q⟩ := id hu
    cases u <;> first | exact hu | exact absurd rv (rel_ni v0)
  · obtain ⟨ED, sd, M, rs, rm, h, r⟩ := h
    obtain ⟨d, e1, h⟩ := onSome_ex h
    obtain ⟨v, e2, rv⟩ := rs.2 i d (slotD_get e1)
    refine ⟨v, e2, sd, M, _, _, rs, rm, h, fun y H1 dy M1 r1 rs1 rm1 k1 h1 => ?_, r.ex.at⟩
    cases d with
    | ref a =>
      obtain ⟨fs, hM, h2⟩ := h1
      obtain ⟨dx, vs, hH, _, rr⟩ := rm1 a _ hM
      cases rv
      refine ⟨a, dx, vs, rfl, hH, [.ref a, dy], M1, _, exAt ED sd, .cons (.ref a) (.cons r1 .nil), rm1, h2, fun z H2 d M2 a1 b1 c1 q => ?_, fun cls d H2 fs M2 a1 b1 c1 q => ?_⟩
      · exact r.nx _ H2 _ M2 (by rw [setD_set]; exact (rs1.kp c1).set a1) b1 (k1.trans c1) q
      · exact r.ex cls d σ H2 fs sd M2 a1 (rs1.kp c1) b1 (k1.trans c1) q
    | _ => exact h1.elim
/-- C.f, a whole number that the class holds -/
structure CInt (K : PySem.W.Frag) (C : Addr) (f : Str) (i : Int) : Prop where
  ex : ∃ mc t, ClX.CRead K C mc ∧ PySem.W.findCls K (.ref C) mc f = some (.val (.int i t))
@[reducible] def kCon (C : Addr) (i : Int) (k : KE) : KE := fun d M => d = .ref C ∧ k (.int i) M
@[reducible] def wCon (C : Addr) (i : Int) (w : WE) : WE := fun sd M k kx => w sd M (kCon C i k) kx
theorem e_con {i : Int} (c : CInt X.K C f i) (he : SE X e w) (hb : attributeBase e f X.env (eval e X.env) = eval e X.env := by rfl) : SE X (.Attribute e f pos) (wCon C i w) := fun Wx tk =>
  PE.imp (ClX.pe_cval (he Wx tk) hb) fun σ H Q h => by
    obtain ⟨sd, M, k, kx, rs, rm, h, po, px⟩ := h
    refine ⟨sd, M, _, kx, rs, rm, h, fun v H1 d M1 r1 rs1 rm1 k1 h1 => ?_, px⟩
    obtain ⟨rfl, hk⟩ := h1
    cases r1
    obtain ⟨mc, t, cr, hf⟩ := c.ex
    exact ⟨C, mc, .int i, .int i t, rfl, cr, ⟨hf, ⟨t, rfl⟩⟩, po _ H1 _ M1 (.int i) rs1 rm1 k1 hk⟩
end
end DL
namespace DL
open PySem PySem.Spec PyProof.Rows L2
/-! ### with: an own manager whose body may raise -/
section
variable {prog : Program} {w : World} {A : Around} {E : Value → Shared → Prop} {s : Shared} {env : Env} {K : PySem.W.Frag} {x C fe fx : Addr} {ox : Obj} {od : Option Obj} {pos : Pos}
/-- the error of a with's body: it is handed to __exit__, which gives None, and goes on -/
def WithRaised (prog : Program) (w : World) (A : Around) (E : Value → Shared → Prop) (env : Env) (x fx : Addr) (Q : Flow → Shared → Prop) (e : Value) (s : Shared) : Prop :=
  e ≠ byPass ∧ wpAny (model prog w) A (typeOf e) (fun c s1 => wpAny (model prog w) A (tracebackOf e) (fun tb s2 =>
    codeAny (model prog w) (A.mark (some e)) (.call (.ref fx) ⟨[.ref x, c, e, tb], []⟩) (fun r s3 => match r with
      | .ok (.ret v) => v = .none ∧ wpAny (model prog w) A (passOn "with" e env : Sem Flow) Q E s3
      | .ok _ => False
      | .error er => E er s3) s2) E s1) E s
theorem kw_coreX {b : Value → Sem Unit} {bdy : Sem Flow} {Q : Flow → Shared → Prop} (X : K.In s.heap) (I : PySem.W.InstAt s.heap x ox C od) (he : PySem.W.findIn K (.ref C) "__enter__" = some (some (.ref fe))) (hfe : PySem.W.isFn K (.ref fe) = true) (hx : PySem.W.findIn K (.ref C) "__exit__" = some (some (.ref fx))) (hfx : PySem.W.isFn K (.ref fx) = true)
    (h : wpAny (model prog w) A (call (.ref fe) [.ref x]) (fun v s₂ => wpAny (model prog w) A (b v) (fun _ s₃ => wpAny (model prog w) A bdy (fun f s₄ => wpAny (model prog w) A (call (.ref fx) [.ref x, .none, .none, .none]) (fun _ s₅ => Q f s₅) E s₄)
      (fun e s₄ => wpAny (model prog w) A (noteFrame e env) (fun _ s₅ => wpAny (model prog w) A (setFlight e none) (fun _ s₆ => WithRaised prog w A E env x fx Q e s₆) E s₅) E s₄) s₃) (fun _ _ => False) s₂) E s) :
    wpAny (model prog w) A (withItem false pos env (pure (.ref x)) (some b) bdy) Q E s := by
  obtain ⟨cd, hcd, ae⟩ := PySem.W.kw_along he
  obtain ⟨cd', hcd', ax⟩ := PySem.W.kw_along hx
  cases hcd.symm.trans hcd'
  obtain ⟨hh, g, d, tt, os⟩ := s
  have L1 : PySem.W.Looks (model prog w) hh (specialOnItsLine (.ref x) "__enter__") (some (.ref fe), cd.mro) := PySem.W.kw_special X I hcd ae
  have L2 : PySem.W.Looks (model prog w) hh (specialOnItsLine (.ref x) "__exit__") (some (.ref fx), cd.mro) := PySem.W.kw_special X I hcd ax
  have L3 : PySem.W.Looks (model prog w) hh (bindSpecial (.ref fe) (.ref x)) (.ref fe, [.ref x]) := PySem.W.bind_fn X _ (beq_iff_eq.mp hfe)
  have L4 : PySem.W.Looks (model prog w) hh (bindSpecial (.ref fx) (.ref x)) (.ref fx, [.ref x]) := PySem.W.bind_fn X _ (beq_iff_eq.mp hfx)
  have L5 : PySem.W.Looks (model prog w) hh (aMethodOfAnotherBuiltinTypeStops (.ref fe) cd.mro) () := PySem.W.Looks.of_pure rfl
  have L6 : PySem.W.Looks (model prog w) hh (aMethodOfAnotherBuiltinTypeStops (.ref fx) cd.mro) () := PySem.W.Looks.of_pure rfl
  unfold withItem
  refine wpAny_bind (wpAny_pure ?_)
  refine wpAny_bind (wpAny_standAt ?_)
  simp only [Bool.false_eq_true, if_false]
  kw_lk
  refine wpAny_mono h (fun v s₂ h₂ => ?_) fun _ _ z => z
  kw_lk
  refine wpAny_attempt (PySem.W.kw_held ?_)
  show wpAny _ _ (b v >>= fun _ => bdy) _ _ _
  refine wpAny_bind (wpAny_mono h₂ (fun _ s₃ h₃ => wpAny_mono h₃ (fun f s₄ h₄ => ?_) fun e s₄ h₄ => ?_) fun _ _ z => z.elim)
  · kw_lk
    refine wpAny_mono h₄ (fun _ s₅ h₅ => ?_) fun _ _ z => z
    kw_lk
    exact h₅
  · dsimp only
    refine wpAny_bind (wpAny_mono h₄ (fun _ s₅ h₅ => ?_) fun _ _ z => z)
    refine wpAny_bind (wpAny_mono h₅ (fun _ s₆ h₆ => ?_) fun _ _ z => z)
    obtain ⟨hb, h₆⟩ := h₆
    refine wpAny_bind (wpAny_standAt ?_)
    refine wpAny_holding ?_
    refine wpAny_bind (wpAny_mono h₆ (fun c s₇ h₇ => ?_) fun _ _ z => z)
    refine wpAny_bind (wpAny_mono h₇ (fun tb s₈ h₈ => ?_) fun _ _ z => z)
    unfold withItem.marked
    refine wpAny_bind (wpAny_bind (wpAny_run (codeAny_mono h₈ fun r s₉ h₉ => ?_) (fun z => hb (Option.some.inj z))))
    cases r with
    | error er => exact h₉
    | ok f =>
      cases f with
      | ret v =>
        obtain ⟨rfl, h₉⟩ := h₉
        refine wpAny_pure ?_
        refine wpAny_bind (wpAny_pure ?_)
        exact h₉
      | next => exact h₉.elim
      | brk => exact h₉.elim
      | cont => exact h₉.elim
theorem traceback_ok {M : Model} {a T : Addr} {oe oT : Obj} {vs ts : Array Value} {Q : Value → Shared → Prop} (he : s.heap.get? a = some oe) (hd : oe.data = .fields vs) (h1 : vs[1]? = some (.ref T)) (hT : s.heap.get? T = some oT) (hdT : oT.data = .fields ts) (ht : 1 < ts.size)
    (h : ∀ v, (v = .none ∨ v = .ref T) → Q v s) : wpAny M A (tracebackOf (.ref a)) Q E s := by
  obtain ⟨y, hy⟩ : ∃ y, ts[1]? = some y := ⟨ts[1], Array.getElem?_eq_getElem ht⟩
  unfold tracebackOf
  refine wpAny_bind (wpAny_field he hd h1 ?_)
  dsimp only
  refine wpAny_bind (wpAny_field hT hdT hy ?_)
  split
  · exact wpAny_pure (h _ (.inl rfl))
  · exact wpAny_pure (h _ (.inr rfl))
end
end DL
namespace DL
open PySem PySem.Spec PyProof.Rows L2
/-! ### defs that are called while an error is handled, and raise nothing of their own -/
structure FnM (P : Program) (w : World) (K : PySem.W.Frag) (mg : Str → Option Value) (base : Heap) (CX : CXT) (k : Nat) (f : Addr) (fd : FuncData) (ps : List Str) (sp : Sp) : Prop where
  len : ∀ vs H Q E, sp vs H Q E → vs.length = ps.length
  run : ∀ (A : Around) (outer : List Env) (s : Shared) (H : Hp) (args : Args) (us : List Value) (vs : List V) (Q : VK) (E : XK), L2H.RoomH k A → Env0 P w K mg base A outer s H → BindsTo s fd args (ps.zip us) → Vals vs us → sp vs H Q E →
    codeAny (model P w) A (.call (.ref f) args) (CR CX outer P w H s Q E) s
abbrev cxM (CX : CXT) (P : Program) (w : World) (K : PySem.W.Frag) (mg : Str → Option Value) (base : Heap) (N : List Str) (qual : Str) (scope : Scope) (f : Addr) (cd : Value) (A : Around) (outer : List Env) (s : Shared) (H : Hp) (E : XK) : Cx :=
  { cxOf CX P w K mg base N qual scope f cd A outer s H E with calm := false }
theorem inv_startM {CX : CXT} {P : Program} {w : World} {K : PySem.W.Frag} {mg : Str → Option Value} {base : Heap} {N ps : List Str} {qual : Str} {scope : Scope} {f : Addr} {cd : Value} {A : Around} {outer : List Env} {s s1 : Shared} {H : Hp} {E : XK} {us : List Value} {vs : List V}
    (S : FnScope N ps scope) (e0 : Env0 P w K mg base A outer s H) (hl : vs.length = ps.length) (r : Vals vs us)
    (x : InCallC s s.heap.objs.size (bindL (envOfC qual scope s.heap.objs.size f cd).kindOf (ps.zip us) fun _ => none) (cellsFrom (s.heap.objs.size + 1) scope.names []) (bindC (envOfC qual scope s.heap.objs.size f cd).kindOf (ps.zip us) fun _ => none) s1) :
    Inv (cxM CX P w K mg base N qual scope f cd A outer s H E) [] (L2.start N vs) H s1 := by
  have hpl : ps.length ≤ N.length := by have := congrArg List.length S.pre; rw [List.length_take] at this; omega
  obtain ⟨h1, tk, rfl, hk⟩ := x.done
  have noA : ∀ b : Addr, b ∉ (cxM CX P w K mg base N qual scope f cd A outer s H E).ex := fun b z => absurd (show b ∈ ([] : List Addr) from z) (by simp)
  refine ⟨⟨e0.mod, S.kind, rfl, rfl, Nat.le_refl _, fun y z c h1 h2 => ?_, fun y hy => ?_, fun y c _ h => ?_, (fun z => Bool.noConfusion (show false = true from z)), Around.frames_deeper e0.frames, .inr ⟨rfl, rfl⟩, fun b z => absurd z (noA b), e0.bs, e0.bsz, fun b _ _ => noA b, fun b z => absurd z (noA b), e0.funs, e0.frf⟩,
    rfl, e0.bare, Un.kept hk, ⟨_, x.toInCall.ns, fun i y v h1 h2 h3 => ?_⟩, fun y c h => ⟨_, x.cell y c h⟩, e0.hok.fresh (Nat.le_refl _), fun y c h => ?_, fun q hq => absurd (show q ∈ ([] : List (Addr × Obj)) from hq) (by simp), e0.hok.kept hk, ?_⟩
  · exact name_of_addr x.apart (PySem.mem_of_lookup h1) (PySem.mem_of_lookup h2)
  · have hy : scope.names.lookup y = some .cell ∨ scope.names.lookup y = some .free := hy
    rcases hy with hy | hy
    · exact cell_has hy
    · exact absurd rfl (S.nofree _ (PySem.mem_of_lookup hy))
  · exact Nat.le_of_lt (x.above y c (PySem.mem_of_lookup h))
  · have hi : i < vs.length := by
      unfold L2.start at h2
      by_cases hi : i < vs.length
      · exact hi
      · rw [List.getElem?_append_right (by simpa using hi)] at h2
        rw [List.getElem?_replicate] at h2
        split at h2 <;> cases h2
    have ha : vs[i]? = some v := by
      unfold L2.start at h2
      rw [List.getElem?_append_left (by simpa using hi), List.getElem?_map] at h2
      cases e : vs[i]? with
      | none => rw [e] at h2; cases h2
      | some a => rw [e] at h2; cases h2; rfl
    obtain ⟨u, hu, rv⟩ := r.get ha
    have hp : ps[i]? = some y := by
      rw [← S.pre, List.getElem?_take_of_lt (by omega)]; exact h1
    have ndP : ps.Nodup := by rw [← S.pre]; exact S.nd.sublist (List.take_sublist _ _)
    refine ⟨u, rv, ?_⟩
    rcases S.par y (List.mem_of_getElem? hp) with k | k
    · exact .inl ⟨k, bindL_get ndP hp hu k⟩
    · obtain ⟨c, e⟩ := cell_has (n := s.heap.objs.size + 1) k
      refine .inr ⟨.inl k, c, e, ?_⟩
      have q := x.cell y c e
      rw [bindC_get ndP hp hu (by show scope.names.lookup y ≠ _; rw [k]; decide)] at q
      exact q
  · exact e0.hok.fresh (Nat.le_of_lt (x.above y c (PySem.mem_of_lookup h)))
  · unfold L2.start
    show _ = N.length
    rw [List.length_append, List.length_map, List.length_replicate]
    omega
variable [TL : TabList]
theorem fn_okM {P : Program} {w : World} {K : PySem.W.Frag} {mg : Str → Option Value} {base : Heap} {x qual : Str} {st : Stmt} {f : Addr} {fd : FuncData} {N ps : List Str} {k n : Nat} {sp : SpD} (F : Fun K x qual st f fd) (S : FnScope N ps (defScope st)) (hn : N.length = n) (len : ∀ ds M k kx, sp ds M k kx → ds.length = ps.length)
    (hbody : ∀ (cdv : Value) (A : Around) (outer : List Env) (s : Shared) (H : Hp) (E : XK), L2H.RoomH k (A.deeper (envOfC qual (defScope st) s.heap.objs.size f cdv)) →
      ∃ w', SSs (cxM (L2.CX P w) P w K mg base N qual (defScope st) f cdv A outer s H E) (defBody st) w' ∧ ∀ ds M k kx, sp ds M k kx → w' (endsOf k kx) (startD n ds) M) : FnM P w K mg base (L2.CX P w) (k + 1) f fd ps (toSp K sp) := by
  obtain ⟨oc, od, kV, doc, pm, an, cdv, ct, osl, rfl, lk, hcd⟩ := F.ex
  have len2 : ∀ vs H Q E, toSp K sp vs H Q E → vs.length = ps.length := fun vs H Q E ⟨ds, M, k, kx, r, rm, h, p, px⟩ => by rw [r.len]; exact len ds M k kx h
  refine ⟨len2, fun A outer s H args us vs Q E hr e0 hb r hsp => ?_⟩
  have hl := len2 _ _ _ _ hsp
  have KX : K.In s.heap := e0.mod.kin.keeps fun b o e => (e0.bs b o e).1
  have lim : s.heap.NoLimit := e0.mod.nolimit.keeps fun b o e => (e0.bs b o e).1
  have hkind : ∀ y ∈ ps.zip us, (defScope st).names.lookup y.1 = some .local ∨ ((defScope st).names.lookup y.1 = some .cell ∧ ((cellsFrom (s.heap.objs.size + 1) (defScope st).names []).lookup y.1).isSome = true) := fun ⟨n, v⟩ hy => by
    rcases S.par n (List.of_mem_zip hy).1 with q | q
    · exact .inl q
    · exact .inr ⟨q, PySem.W.cellsFrom_some _ _ _ (.inl q)⟩
  refine codeAny_call_function hr.depth (KX _ _ lk) rfl S.co S.gen rfl (PySem.W.codeRec_of KX hcd) (hb _ _ _ _ ?_)
  refine wpAny_newFunctionEnv_cells S.kind hkind fun env he s1 x => ?_
  subst he
  refine ⟨lim.keeps x.toInCall.keep, codeAny_func ?_⟩
  obtain ⟨w', hw, hs⟩ := hbody cdv A outer s H E (hr.deeper _)
  obtain ⟨ds, M, kk, kx, rr, rm, hd, p, px⟩ := hsp
  have I : Inv (cxM (L2.CX P w) P w K mg base N qual (defScope st) f cdv A outer s H E) [] (L2.start N vs) H s1 := inv_startM S e0 hl r x
  have rs0 : RelS K H (L2.start N vs) (startD n ds) := by
    rw [← hn]
    refine startD_rel rr ?_
    rw [len ds M kk kx hd, ← S.pre, List.length_take]
    exact Nat.min_le_right _ _
  refine wpAny_mono ((hw (fun cls d _ H => E cls d H) (takes_of rfl rfl rfl rfl)).run [] s1 (L2.start N vs) H { nx := fun _ H' => Q .non H', rt := Q } I ⟨endsOf kk kx, startD n ds, M, rs0, rm, hs ds M kk kx hd,
    ⟨fun σ' H' sd' M' a b c ⟨M0, l, q⟩ => p _ H' _ M0 .non (b.le l) (c.le l) q, fun v H' d M' a b c ⟨M0, l, q⟩ => p v H' d M0 a (b.le l) (c.le l) q, fun _ _ _ _ _ _ _ z => z, fun _ _ _ _ _ _ _ z => z,
      fun cls d σ' H' fs sd' M' a b c e ⟨M0, l, q⟩ => px cls d H' fs M0 a (c.le l) (e.le l) q⟩⟩) (fun fl s' hs => ?_) fun e s' hs => hs
  have fin : ∀ {σ' : L2.St} {H' : Hp} {v : V} {u : Value}, Inv (cxM (L2.CX P w) P w K mg base N qual (defScope st) f cdv A outer s H E) [] σ' H' s' → L2.RelV v u → Q v H' → CE outer P w H s Q u s' :=
    fun {σ' H' v u} J rv q => ⟨v, H', J.os, J.bare, J.base, J.hok, rv, q⟩
  cases fl with
  | ret u =>
    obtain ⟨v, σ', H', J, rv, q⟩ := hs
    exact fin J rv q
  | next =>
    obtain ⟨σ', H', J, q⟩ := hs
    exact fin (v := V.non) (u := Value.none) J rfl q
  | brk =>
    obtain ⟨_, _, _, q⟩ := hs
    exact False.elim q
  | cont =>
    obtain ⟨_, _, _, q⟩ := hs
    exact False.elim q

/-! ### with, by promises -/
section
variable {X : Cx} {ctx : Expr} {body : List Stmt} {te : TE} {tb : WX → TS} {Wo : WX} {CT fe fx : Addr} {fdE fdX : FuncData} {psE psX : List Str} {spE spX spM : Sp} {k i : Nat} {y : Str} {py pos : Pos}
def noX : XK := fun _ _ _ => False
/-- what is wished of an error of the body -/
def wWith (spM : Sp) (Wo : WX) (t : Addr) : WX := fun cls d σ H => ∃ cv, L2.RelV cv cls ∧ ∀ (a : Addr) (tb : V), (tb = .non ∨ ∃ T, tb = .ref T) → H a = none → spM [.ref t, cv, .ref a, tb] H (fun r H' => r = .non ∧ Wo cls d σ H') noX
def exW (spX : Sp) (t : Addr) (H : Hp) (P : Hp → Prop) : Prop := spX [.ref t, .non, .non, .non] H (fun _ H' => P H') noX
def endsW (spX : Sp) (t : Addr) (D : Ends) : Ends where
  nx := fun σ H => exW spX t H fun H' => D.nx σ H'
  rt := fun v H => exW spX t H fun H' => D.rt v H'
  bk := fun σ H => exW spX t H fun H' => D.bk σ H'
  ct := fun σ H => exW spX t H fun H' => D.ct σ H'
def tWith (CT : Addr) (spE spX spM : Sp) (i : Nat) (Wo : WX) (te : TE) (tb : WX → TS) : TS := fun D σ H => te σ H fun x H1 => ∃ t dx vs, x = .ref t ∧ H1 t = some (.ins CT dx vs) ∧ spE [.ref t] H1 (fun v H2 => tb (wWith spM Wo t) (endsW spX t D) (σ.set i (some v)) H2) noX
theorem with_exc {pins : List (Addr × Obj)} {D : Ends} {t : Addr} {xe0 : Value → Shared → Prop} {u : Value} {s' : Shared} (hs : X.stack = X.env :: X.outer) (hf : X.env.frame = some X.env.locals) (hex : X.ex = []) (ok : X.Ok) (tk : Takes X Wo) (FM : FnM X.prog X.w X.K X.mg X.base (L2.CX X.prog X.w) k fx fdX psX spM) (hr : Room k X.A) (hbX : Binds X.K fdX psX [])
    (xx : XE (X.tr (X.pn ++ pins) xe0) (wWith spM Wo t) u s') :
    wpAny (model X.prog X.w) X.A (noteFrame u X.env) (fun _ s₂ => wpAny (model X.prog X.w) X.A (setFlight u none) (fun _ s₃ => WithRaised X.prog X.w X.A X.xe X.env t fx (SP X pins D) u s₃) X.xe s₂) X.xe s' := by
  obtain ⟨a, B, sI, pins', σ', H', cls, d, rfl, J', nb, up, sky, na, os, ag, cv, hcv, w⟩ := xx
  have J : Inv X pins σ' H' sI := J'.ofTry ok
  rw [show (X.tr (X.pn ++ pins) xe0).stack = X.env :: X.outer from hs] at sky
  refine Sky.land Zc.steady (by rw [ok.frames, hs]) hf sky fun h3 fl3 up3 => ?_
  have J3 : Inv X pins σ' H' { s' with heap := h3 } := J.landed nb fl3.1 (up.trans up3) os ag
  obtain ⟨k1, k2, k3, oe, vs, T, oT, ts, he3, hz, hd, hv1, hnT, hTe, hT, hdT, ht3⟩ := id fl3
  have nT : H' T = none := (J.inGround nb).gone hnT
  have notFr : ∀ (b : Addr) (o : Obj) (fv : Array Value), h3.get? b = some o → o.data = .fields fv → b ∉ frs (X.env :: X.outer) := fun b o fv e dd hm => by
    obtain ⟨_, o', e', hnf⟩ := k3.mem hm
    have eo : o = o' := Option.some.inj (e.symm.trans e')
    rw [← eo] at hnf
    exact hnf _ dd
  have locF : X.env.locals ∈ frs (X.env :: X.outer) := List.mem_filterMap.mpr ⟨X.env, List.mem_cons_self, hf⟩
  have fsF : ∀ b, b ∈ X.fs → b ∈ frs (X.env :: X.outer) := fun b hm => by
    obtain ⟨e, he, q⟩ := List.mem_filterMap.mp hm
    exact List.mem_filterMap.mpr ⟨e, List.mem_cons_of_mem _ he, q⟩
  have fa := notFr a oe vs he3 hd
  have fT := notFr T oT ts hT hdT
  refine ⟨ref_ne_byPass a, wpAny_typeOf_ref he3 ?_⟩
  refine traceback_ok he3 hd hv1 hT hdT (by have := (Array.getElem?_eq_some_iff.mp ht3).1; omega) fun tbv htb => ?_
  have S3 : Inv (X.suite a ((a, oe) :: (T, oT) :: (X.pn ++ pins))) [] σ' H' { s' with heap := h3 } :=
    ⟨J3.ok.suite _ _, J3.os, J3.bare, J3.base, J3.loc, J3.cell, J3.free, J3.freeC, fun p hp => by
      rw [List.append_nil] at hp
      rcases List.mem_cons.mp hp with z | hp
      · rw [z]
        exact ⟨he3, na, fun z2 => fa (by rw [show a = X.env.locals from z2]; exact locF), fun z2 => fa (fsF _ z2), fun v z2 => by
          have z3 : oe.data = .cell v := z2
          rw [hd] at z3
          cases z3⟩
      · rcases List.mem_cons.mp hp with z | hp
        · rw [z]
          exact ⟨hT, nT, fun z2 => fT (by rw [show T = X.env.locals from z2]; exact locF), fun z2 => fT (fsF _ z2), fun v z2 => by
            have z3 : oT.data = .cell v := z2
            rw [hdT] at z3
            cases z3⟩
        · exact J3.pin p hp, J3.hok, J3.len⟩
  obtain ⟨tbV, hsp, rtb⟩ : ∃ tbV, spM [.ref t, cv, .ref a, tbV] H' (fun r H'' => r = .non ∧ Wo cls d σ' H'') noX ∧ L2.RelV tbV tbv := by
    rcases htb with rfl | rfl
    · exact ⟨.non, w a _ (.inl rfl) na, rfl⟩
    · exact ⟨.ref T, w a _ (.inr ⟨T, rfl⟩) na, rfl⟩
  have hlen := FM.len _ _ _ _ hsp
  have b := hbX { s' with heap := h3 } [.ref t, cls, .ref a, tbv] J3.kIn (by rw [List.append_nil, ← hlen]; rfl)
  rw [List.append_nil] at b
  rw [hz.1]
  refine codeAny_mono (FM.run (X.A.mark (some (.ref a))) X.stack { s' with heap := h3 } H' ⟨[.ref t, cls, .ref a, tbv], []⟩ [.ref t, cls, .ref a, tbv] [.ref t, cv, .ref a, tbV] _ _ ⟨hr.dp, hr.un⟩ S3.env0 b (.cons rfl (.cons hcv (.cons rfl (.cons rtb .nil)))) hsp) fun r s6 hq => ?_
  cases r with
  | error er =>
    obtain ⟨_, _, _, _, _, _, _, _, _, _, _, _, z⟩ := hq
    exact z.elim
  | ok fl =>
    cases fl with
    | next => exact False.elim hq
    | brk => exact False.elim hq
    | cont => exact False.elim hq
    | ret u =>
      obtain ⟨v, H6, S6, rv, rfl, q6⟩ := S3.after hq
      refine ⟨rv, ?_⟩
      have J6 : Inv X pins σ' H6 s6 := ⟨ok, S6.os, S6.bare, S6.base, S6.loc, S6.cell, S6.free, S6.freeC, fun p hp => S6.pin p (List.mem_append_left _ (List.mem_cons_of_mem _ (List.mem_cons_of_mem _ hp))), S6.hok, S6.len⟩
      have pa := S6.pin (a, oe) (List.mem_append_left _ List.mem_cons_self)
      have pT := S6.pin (T, oT) (List.mem_append_left _ (List.mem_cons_of_mem _ List.mem_cons_self))
      have ga : s6.heap.get? a = some oe := pa.1
      have gT : s6.heap.get? T = some oT := pT.1
      have na6 : H6 a = none := pa.2.1
      have nT6 : H6 T = none := pT.2.1
      have far : ∀ b o, sI.heap.get? b = some o → b ≠ a ∧ b ≠ T := fun b o e => by
        by_cases hb : b ∈ frs X.stack
        · rw [hs] at hb
          exact ⟨fun z => fa (by rw [← z]; exact hb), fun z => fT (by rw [← z]; exact hb)⟩
        · have q := nb b o e hb
          exact ⟨fun z => by
            rw [z, k2] at q
            exact (nomatch q), fun z => by
            rw [z, hnT] at q
            cases q⟩
      have far0 : ∀ b o, X.s_0.heap.get? b = some o → b ≠ a ∧ b ≠ T := fun b o e => by
        obtain ⟨o', q⟩ := J.base.there b o e (by rw [hex]; simp)
        exact far b o' q
      have farP : ∀ p ∈ X.pn ++ pins, p.1 ≠ a ∧ p.1 ≠ T := fun p hp => far p.1 p.2 (J.pin p hp).1
      obtain ⟨G, g1, g2⟩ := restrict s6.heap fun b => !(decide (b = a) || decide (b = T))
      have gIn : ∀ b o, G.get? b = some o → s6.heap.get? b = some o ∧ b ≠ a ∧ b ≠ T := fun b o e => by
        cases q : (!(decide (b = a) || decide (b = T))) with
        | false =>
          rw [g2 b q] at e
          cases e
        | true =>
          rw [g1 b q] at e
          simp only [Bool.not_eq_true', Bool.or_eq_false_iff, decide_eq_false_iff_not] at q
          exact ⟨e, q.1, q.2⟩
      have gOf : ∀ b o, b ≠ a → b ≠ T → s6.heap.get? b = some o → G.get? b = some o := fun b o h1 h2 e => by
        rw [g1 b (by simp [h1, h2])]
        exact e
      have I6 : Inv X pins σ' H6 { s6 with heap := G } := J6.less (fun b o e => (gIn b o e).1) gOf ⟨oe, vs, ga, hd⟩ ⟨oT, ts, gT, hdT⟩ na6 nT6 far0 farP
      have B6in : ∀ b o, (PySem.W.hideAll G (frs X.stack)).get? b = some o → s6.heap.get? b = some o := fun b o e => (gIn b o (PySem.W.of_hideAll _ e)).1
      have Bno : ∀ b, (b = a ∨ b = T) → (PySem.W.hideAll G (frs X.stack)).get? b = none := fun b hb => by
        cases q : (PySem.W.hideAll G (frs X.stack)).get? b with
        | none => rfl
        | some o =>
          obtain ⟨_, n1, n2⟩ := gIn b o (PySem.W.of_hideAll _ q)
          rcases hb with z | z
          · exact absurd z n1
          · exact absurd z n2
      have fl6 : HandSPX.FlyingZ (PySem.W.hideAll G (frs X.stack)) (X.env :: X.outer) a (Zc cls d) s6.heap := by
        refine ⟨B6in, Bno a (.inl rfl), ?_, oe, vs, T, oT, ts, ga, hz, hd, hv1, Bno T (.inr rfl), hTe, gT, hdT, ht3⟩
        have ff := funFrames_none (B := PySem.W.hideAll G (frs X.stack)) J6.stack fun b hb => PySem.W.hideAll_none _ hb
        rw [← hs]
        exact ff
      unfold PySem.passOn
      refine wpAny_bind (wpAny_field ga hd hv1 ?_)
      rw [if_neg (show ¬ ((Value.ref T == Value.none) = true) from by simp)]
      have goOn : wpAny (model X.prog X.w) X.A (setFlight (.ref a) X.env.frame) (fun _ s7 => wpAny (model X.prog X.w) X.A (throw (.ref a) : Sem Flow) (SP X pins D) X.xe s7) X.xe s6 := by
        rw [hf]
        refine HandSPX.setFlight_upZ fl6 fun h7 hh7 up7 => wpAny_throw (tk _ _ ?_)
        refine ⟨a, PySem.W.hideAll G (frs X.stack), { s6 with heap := G }, pins, σ', H6, cls, d, rfl, I6, fun b o e hb => PySem.W.hideAll_get _ e hb, ?_, .inr (.inr (by rw [← hs] at hh7; exact hh7)), na6, rfl, J6.bare, q6⟩
        exact Heap.UpToSlots.trans (Heap.UpToSlots.of_keeps fun b o e => (gIn b o e).1) up7
      first
        | exact wpAny_bind (wpAny_pure (wpAny_bind goOn))
        | exact wpAny_bind goOn
theorem ps_with (hs : X.stack = X.env :: X.outer) (hf : X.env.frame = some X.env.locals) (hex : X.ex = []) (tk : Takes X Wo) (he : PE X ctx te) (hmE : Meth X.K CT "__enter__" fe) (hmX : Meth X.K CT "__exit__" fx)
    (FE : FnOk X.prog X.w X.K X.mg X.base (L2.CX X.prog X.w) k fe fdE psE spE) (FX : FnOk X.prog X.w X.K X.mg X.base (L2.CX X.prog X.w) k fx fdX psX spX) (FM : FnM X.prog X.w X.K X.mg X.base (L2.CX X.prog X.w) k fx fdX psX spM) (hr : Room k X.A) (hbE : Binds X.K fdE psE []) (hbX : Binds X.K fdX psX [])
    (hN : X.N.Nodup) (hi : X.N[i]? = some y) (hx : Loc X.env.scope y) (hfn : X.fn y = true ∨ X.env.scope.names.lookup y = some .local)
    (hb : ∀ (W : WX) (pn : List (Addr × Obj)) (xe : Value → Shared → Prop), Takes (X.tr pn xe) W → PassesOwn (model X.prog X.w) X.A X.env xe → PSs (X.tr pn xe) body (tb W)) :
    PS X (.With [⟨ctx, some (.Name y py)⟩] body pos) (tWith CT spE spX spM i Wo te tb) := by
  refine ⟨fun pins s σ H D I h => ?_⟩
  have ok := I.ok
  refine PySem.W.kw_execN (thn (he.run pins s σ H _ I h) fun u s1 ⟨x, H1, I1, rx, t, dx, vs, ex, ht, hE⟩ => ?_)
  subst ex
  obtain rfl : u = Value.ref t := rx
  obtain ⟨ox, od, J⟩ := ins_at I1 ht
  refine kw_coreX (b := assign (.Name y py) X.env) I1.kIn J hmE.at_ hmE.fn hmX.at_ hmX.fn ?_
  refine thn (run_fnA (A' := X.A) (E := fun _ => noX) FE hr hbE at_no I1.env0 I1 (vs := [.ref t]) (.cons rfl .nil) hE) fun u2 s2 ⟨v, H2, I2, rv, q2⟩ => ?_
  refine wpAny_assign_Name (store_ok I2 hN hi hx rv (fun s3 I3 => ?_) hfn)
  have out : ∀ {σ' : L2.St} {H' : Hp} {s4 : Shared} {P : Hp → Prop} {Q : Shared → Prop}, Inv X pins σ' H' s4 → exW spX t H' P → (∀ H'' s5, Inv X pins σ' H'' s5 → P H'' → Q s5) → wpAny (model X.prog X.w) X.A (call (.ref fx) [.ref t, .none, .none, .none]) (fun _ s5 => Q s5) X.xe s4 := fun {σ' H' s4 P Q} I4 h4 hQ =>
    thn (run_fnA (A' := X.A) (E := fun _ => noX) FX hr hbX at_no I4.env0 I4 (vs := [.ref t, .non, .non, .non]) (us := [.ref t, .none, .none, .none]) (.cons rfl (.cons rfl (.cons rfl (.cons rfl .nil)))) h4) fun u5 s5 ⟨v5, H5, I5, _, q5⟩ => hQ H5 s5 I5 q5
  refine wpAny_mono ((hb (wWith spM Wo t) (X.pn ++ pins) (fun e s₄ => wpAny (model X.prog X.w) X.A (noteFrame e X.env) (fun _ s₅ => wpAny (model X.prog X.w) X.A (setFlight e none) (fun _ s₆ => WithRaised X.prog X.w X.A X.xe X.env t fx (SP X pins D) e s₆) X.xe s₅) X.xe s₄)
    (fun u s' xx => with_exc hs hf hex ok tk FM hr hbX xx) PassesOwn.looking).run [] s3 _ H2 (endsW spX t D) (I3.toTry _) q2) (fun f s4 hsp => ?_) fun e s4 he => he
  cases f with
  | next =>
    obtain ⟨σ', H', J', q⟩ := hsp
    exact out (J'.ofTry ok) q fun H'' s5 I5 q5 => ⟨σ', H'', I5, q5⟩
  | brk =>
    obtain ⟨σ', H', J', q⟩ := hsp
    exact out (J'.ofTry ok) q fun H'' s5 I5 q5 => ⟨σ', H'', I5, q5⟩
  | cont =>
    obtain ⟨σ', H', J', q⟩ := hsp
    exact out (J'.ofTry ok) q fun H'' s5 I5 q5 => ⟨σ', H'', I5, q5⟩
  | ret u =>
    obtain ⟨v, σ', H', J', r, q⟩ := hsp
    exact out (J'.ofTry ok) q fun H'' s5 I5 q5 => ⟨v, σ', H'', I5, r, q5⟩
end
/-- a manager's class: its promises -/
structure WithD (P : Program) (w : World) (K : PySem.W.Frag) (mg : Str → Option Value) (base : Heap) (CT : Addr) (lvl : Nat) (spE spX : SpD) : Prop where
  ex : ∃ fe fdE psE fx fdX psX, Meth K CT "__enter__" fe ∧ Meth K CT "__exit__" fx ∧ FnOk P w K mg base (L2.CX P w) lvl fe fdE psE (toSp K spE) ∧ FnOk P w K mg base (L2.CX P w) lvl fx fdX psX (toSp K spX) ∧ FnM P w K mg base (L2.CX P w) lvl fx fdX psX (toSp K spX) ∧ Binds K fdE psE [] ∧ Binds K fdX psX []
/-- a class as data -/
@[reducible] def clsD : Value → Option D
  | .ref C => some (.ref C)
  | .type n => some (.ty n)
  | _ => none
section
variable {X : Cx} {ctx : Expr} {body : List Stmt} {we : WE} {wb : WS} {CT : Addr} {lvl i : Nat} {spE spX : SpD} {y : Str} {py pos : Pos}
@[reducible] def outW (spX : SpD) (t : Addr) (k : Mm → Prop) (M : Mm) : Prop := spX [.ref t, .non, .non, .non] M (fun _ M' => k M') kxF
@[reducible] def exWD (spX : SpD) (t : Addr) (ED : EndsD) : Value → Fs → SD → Mm → Prop := fun cls fs sd M => ∃ cd, clsD cls = some cd ∧ ∀ (a : Addr) (tb : D), (tb = .non ∨ ∃ T, tb = .ref T) → spX [.ref t, cd, .ref a, tb] M (fun d M' => d = .non ∧ ED.ex cls fs sd M') kxF
@[reducible] def kWith2 (spX : SpD) (i : Nat) (wb : WS) (t : Addr) (ED : EndsD) (sd : SD) : KE := fun v M => wb { nx := fun sd' M' => outW spX t (ED.nx sd') M', rt := fun v M' => outW spX t (ED.rt v) M', bk := fun sd' M' => outW spX t (ED.bk sd') M', ct := fun sd' M' => outW spX t (ED.ct sd') M', ex := exWD spX t ED } (setD sd i v) M
@[reducible] def kWith1 (CT : Addr) (spE spX : SpD) (i : Nat) (wb : WS) (ED : EndsD) (sd : SD) : KE := fun d M => match d with
  | .ref t => ∃ fs, M t = some (.ins CT fs) ∧ spE [.ref t] M (kWith2 spX i wb t ED sd) kxF
  | _ => False
@[reducible] def wWithD (CT : Addr) (spE spX : SpD) (i : Nat) (we : WE) (wb : WS) : WS := fun ED sd M => we sd M (kWith1 CT spE spX i wb ED sd) (exAt ED sd)
theorem RepX.kp {K : PySem.W.Frag} {H H' : Hp} {M M' : Mm} {d : Option Addr} {fs : Fs} (h : RepX K H d fs) (k : Kp M H M' H') (n : ∀ dd, d = some dd → M dd = none) : RepX K H' d fs := by
  cases d with
  | none => exact h
  | some dd =>
    obtain ⟨ws, e, r⟩ := h
    obtain ⟨e1, _⟩ := k.keep dd _ e (n dd rfl) fun _ z => HO.noConfusion z
    exact ⟨ws, e1, r.st k.stay⟩
theorem RepX.no {K : PySem.W.Frag} {H : Hp} {M : Mm} {d : Option Addr} {fs : Fs} (h : RepX K H d fs) (rm : RelM K H M) : ∀ dd, d = some dd → M dd = none := fun dd e => by
  subst e
  obtain ⟨ws, e, _⟩ := h
  cases q : M dd with
  | none => rfl
  | some o =>
    have x := rm dd o q
    cases o with
    | lst ds => obtain ⟨vs, z, _⟩ := x; rw [e] at z; cases z
    | cell d => obtain ⟨w, v, z, _⟩ := x; rw [e] at z; cases z
    | dK kvs => obtain ⟨vs, z, _⟩ := x; rw [e] at z; cases z
    | dT kvs => obtain ⟨vs, z, _⟩ := x; rw [e] at z; cases z
    | ins C fs => obtain ⟨dx, vs, z, _⟩ := x; rw [e] at z; cases z
theorem s_with (W : WithD X.prog X.w X.K X.mg X.base CT lvl spE spX) (hs : X.stack = X.env :: X.outer) (hf : X.env.frame = some X.env.locals) (hex : X.ex = []) (hr : Room lvl X.A) (he : SE X ctx we)
    (hN : X.N.Nodup) (hi : X.N[i]? = some y) (hx : Loc X.env.scope y) (hb : ∀ (pn : List (Addr × Obj)) (xe : Value → Shared → Prop), PassesOwn (model X.prog X.w) X.A X.env xe → SSs (X.tr pn xe) body wb)
    (hfn : X.fn y = true ∨ X.env.scope.names.lookup y = some .local := by first | exact .inl rfl | exact .inr rfl | assumption) :
    SS X (.With [⟨ctx, some (.Name y py)⟩] body pos) (wWithD CT spE spX i we wb) := fun Wx tk => by
  obtain ⟨fe, fdE, psE, fx, fdX, psX, hmE, hmX, FE, FX, FM, hbE, hbX⟩ := W.ex
  refine PS.imp (ps_with (tb := fun W => toTS X.K W wb) hs hf hex tk (he Wx tk) hmE hmX FE FX FM hr hbE hbX hN hi hx hfn (fun W pn xe tk2 po => hb pn xe po W tk2)) fun E σ H h => ?_
  obtain ⟨ED, sd, M, rs, rm, h, r⟩ := h
  refine ⟨sd, M, _, _, rs, rm, h, fun v H1 d M1 r1 rs1 rm1 k1 h1 => ?_, r.ex.at⟩
  cases d with
  | ref t =>
    obtain ⟨fs, hM, h2⟩ := h1
    obtain ⟨dx, vs, hH, _, rr⟩ := rm1 t _ hM
    cases r1
    refine ⟨t, dx, vs, rfl, hH, [.ref t], M1, _, kxF, .cons (.ref t) .nil, rm1, h2, fun v2 H2 d2 M2 r2 rm2 k2 h3 => ?_, post_no⟩
    have k12 := k1.trans k2
    refine ⟨_, setD sd i d2, M2, by rw [setD_set]; exact (rs1.kp k2).set r2, rm2, h3, ⟨?_, ?_, ?_, ?_, ?_⟩⟩
    · exact fun σ' H' sd' M' a b c q => ⟨[.ref t, .non, .non, .non], M', _, kxF, .cons (.ref t) (.cons .non (.cons .non (.cons .non .nil))), b, q, fun v5 H5 d5 M5 r5 rm5 k5 h5 => r.nx σ' H5 sd' M5 (a.kp k5) rm5 ((k12.trans c).trans k5) h5, post_no⟩
    · exact fun v' H' d' M' a b c q => ⟨[.ref t, .non, .non, .non], M', _, kxF, .cons (.ref t) (.cons .non (.cons .non (.cons .non .nil))), b, q, fun v5 H5 d5 M5 r5 rm5 k5 h5 => r.rt v' H5 d' M5 (a.kp k5) rm5 ((k12.trans c).trans k5) h5, post_no⟩
    · exact fun σ' H' sd' M' a b c q => ⟨[.ref t, .non, .non, .non], M', _, kxF, .cons (.ref t) (.cons .non (.cons .non (.cons .non .nil))), b, q, fun v5 H5 d5 M5 r5 rm5 k5 h5 => r.bk σ' H5 sd' M5 (a.kp k5) rm5 ((k12.trans c).trans k5) h5, post_no⟩
    · exact fun σ' H' sd' M' a b c q => ⟨[.ref t, .non, .non, .non], M', _, kxF, .cons (.ref t) (.cons .non (.cons .non (.cons .non .nil))), b, q, fun v5 H5 d5 M5 r5 rm5 k5 h5 => r.ct σ' H5 sd' M5 (a.kp k5) rm5 ((k12.trans c).trans k5) h5, post_no⟩
    · intro cls d' σ' H' fs' sd' M' rx a b c q
      obtain ⟨cd, hc, q⟩ := q
      obtain ⟨cv, rcv, rcd⟩ : ∃ cv, L2.RelV cv cls ∧ Rep X.K H' cv cd := by
        cases cls with
        | ref C => cases hc; exact ⟨.ref C, rfl, .ref C⟩
        | type n => cases hc; exact ⟨.ty n, rfl, .ty n⟩
        | _ => cases hc
      refine ⟨cv, rcv, fun e tb htb he => ?_⟩
      have fin : ∀ (v5 : V) (H5 : Hp) (d5 : D) (M5 : Mm), Rep X.K H5 v5 d5 → RelM X.K H5 M5 → Kp M' H' M5 H5 → d5 = .non ∧ ED.ex cls fs' sd' M5 → v5 = .non ∧ Wx cls d' σ' H5 := fun v5 H5 d5 M5 r5 rm5 k5 h5 => by
        obtain ⟨rfl, h5⟩ := h5
        cases r5
        exact ⟨rfl, r.ex cls d' σ' H5 fs' sd' M5 (rx.kp k5 (rx.no b)) (a.kp k5) rm5 ((k12.trans c).trans k5) h5⟩
      rcases htb with rfl | ⟨T, rfl⟩
      · exact ⟨[.ref t, cd, .ref e, .non], M', _, kxF, .cons (.ref t) (.cons rcd (.cons (.ref e) (.cons .non .nil))), b, q e .non (.inl rfl), fin, post_no⟩
      · exact ⟨[.ref t, cd, .ref e, .ref T], M', _, kxF, .cons (.ref t) (.cons rcd (.cons (.ref e) (.cons (.ref T) .nil))), b, q e (.ref T) (.inr ⟨T, rfl⟩), fin, post_no⟩
  | _ => exact h1.elim
end
end DL
namespace DL
open PySem PySem.Spec PyProof.Rows L2
variable [TL : TabList]
/-! ### defs that try a lambda, some clauses with a name -/
/-- a clause: it gives a word; a field of the error; a word and a field -/
inductive ClW where
  | word (c : Value) (s : Str)
  | fld (c : Value) (C : Addr) (f : Str)
  | tupf (c : Value) (C : Addr) (f : Str) (s : Str)
def tsW (i : Nat) : ClW → ClA
  | .word c s => (c, none, fun _ _ _ => rdRet s)
  | .fld c C f => (c, some i, fun a cls d => tRet (tXf a cls d C f (tVar i)))
  | .tupf c C f s => (c, some i, fun a cls d => tRet (tTup (tCons (tC (.str s)) (tCons (tXf a cls d C f (tVar i)) tNil))))
def hdWA (K : PySem.W.Frag) (Q : VK) (H : Hp) (cls : Value) (d : Option Addr) : List ClW → Prop
  | [] => False
  | .word c s :: r => ∃ b, PySem.W.exmOne K cls c = some b ∧ (b = true → Q (.str s) H) ∧ (b = false → hdWA K Q H cls d r)
  | .fld c C f :: r => ∃ b, PySem.W.exmOne K cls c = some b ∧ (b = true → cls = .ref C ∧ ∃ dd ws v, d = some dd ∧ H dd = some (.xd ws) ∧ ws.lookup f = some v ∧ Q v H) ∧ (b = false → hdWA K Q H cls d r)
  | .tupf c C f s :: r => ∃ b, PySem.W.exmOne K cls c = some b ∧ (b = true → cls = .ref C ∧ ∃ dd ws v, d = some dd ∧ H dd = some (.xd ws) ∧ ws.lookup f = some v ∧ ∀ p, H p = none → Q (.ref p) (upd H p (.tup [.str s, v]))) ∧ (b = false → hdWA K Q H cls d r)
theorem hdWA_many {K : PySem.W.Frag} {Q : VK} {D : Ends} (hD : D.rt = Q) {i : Nat} {cls : Value} {d : Option Addr} {σ' : L2.St} {H' : Hp} (hi : i < σ'.length) : ∀ l : List ClW, hdWA K Q H' cls d l → wManyA K (fun _ _ _ _ => False) D (l.map (tsW i)) cls d σ' H'
  | [], h => h
  | .word c s :: r, ⟨b, e, h1, h2⟩ => ⟨b, e, fun hb a _ => by
      show D.rt _ _
      rw [hD]; exact h1 hb, fun hb => hdWA_many hD hi r (h2 hb)⟩
  | .fld c C f :: r, ⟨b, e, h1, h2⟩ => ⟨b, e, fun hb a _ => by
      obtain ⟨ec, dd, ws, v, ed, hx, hl, hq⟩ := h1 hb
      refine ⟨.ref a, ?_, rfl, ec, dd, ws, v, ed, hx, hl, ?_⟩
      · rw [List.getElem?_set_self hi]
      · show D.rt _ _
        rw [hD]; exact hq, fun hb => hdWA_many hD hi r (h2 hb)⟩
  | .tupf c C f s :: r, ⟨b, e, h1, h2⟩ => ⟨b, e, fun hb a _ => by
      obtain ⟨ec, dd, ws, v, ed, hx, hl, hq⟩ := h1 hb
      refine ⟨.ref a, ?_, rfl, ec, dd, ws, v, ed, hx, hl, by show 2 ≤ sizeLine; decide, fun p hp => ?_⟩
      · rw [List.getElem?_set_self hi]
      · show D.rt _ _
        rw [hD]; exact hq p hp, fun hb => hdWA_many hD hi r (h2 hb)⟩
theorem takes_len {X : Cx} {W : WX} (tk : Takes X W) : Takes X (fun cls d σ H => σ.length = X.N.length → W cls d σ H) := fun u s' ⟨a, B, sI, pins, σ, H, cls, d, e, I, nb, up, sky, na, os, ag, w⟩ =>
  tk u s' ⟨a, B, sI, pins, σ, H, cls, d, e, I, nb, up, sky, na, os, ag, w I.len⟩
def TTwA (K : PySem.W.Frag) (l : List ClW) (last : Str) : (XK → Hp → VK → Prop) → Hp → VK → Prop := fun tl H Q => tl (fun cls d H' => hdWA K Q H' cls d l) H (fun _ H' => Q (.str last) H')
def TTrA (K : PySem.W.Frag) (l : List ClW) : (XK → Hp → VK → Prop) → Hp → VK → Prop := fun tl H Q => tl (fun cls d H' => hdWA K Q H' cls d l) H Q
section
variable {X : Cx} {Ng : List Str} {x a q last : Str} {sg : Scope} {g : Addr} {cdg : Value} {i j : Nat} {p1 p2 p3 p4 p5 p8 : Pos} {h₀ : ExceptHandler} {hds : List ExceptHandler} {l : List ClW}
theorem wordA_gives (hi : i < Ng.length) (h0 : ∀ f : Addr, (L2.start Ng [V.ref f])[0]? = some (some (V.ref f))) (hh : ∀ s H, HdA (cxOf C8.CX0 X.prog X.w X.K X.mg X.base Ng x sg g cdg X.A X.stack s H C8.E0).nox (h₀ :: hds) (l.map (tsW i))) :
    LamX.GivesTo X Ng x sg g cdg [.Try [.Expr (.Call (.Name a p1) [] [] p2) p3] (h₀ :: hds) [] [] p8, .Return (some (.Constant (.str last) j p4)) p5] a q (TTwA X.K l last) := by
  intro f c' s H Q tl act hc h
  refine ⟨_, pss_cons (ps_tryA (X := (cxOf C8.CX0 X.prog X.w X.K X.mg X.base Ng x sg g cdg X.A X.stack s H C8.E0).nox)
      (tb := fun W D σ H => ∃ Ech : XK, (∀ cls d σ' H', Ech cls d H' → σ'.length = Ng.length → W cls d σ' H') ∧ σ[0]? = some (some (.ref f)) ∧ H c' = some (LamX.CodeO c' q) ∧ tl Ech H fun _ H' => D.nx σ H')
      rfl rfl takes_none5 (fun W pn xe tk _ => ?_) (hh s H)) (pss_one (ps_ret pe_str)), ?_⟩
  · refine ⟨fun pins s' σ H' D I h' => ?_⟩
    obtain ⟨Ech, hW, h1, h2, h3⟩ := h'
    have hp := act _ pn xe Ech p1 p2 (takes_len tk) hW
    have hq := pss_one (ps_expr (pos := p3) hp)
    exact hq.run pins s' σ H' D I ⟨h1, h2, h3⟩
  · exact ⟨fun cls d H' => hdWA X.K Q H' cls d l, fun cls d σ' H' w e => hdWA_many (D := _) rfl (by rw [e]; exact hi) l w, h0 f, hc, h⟩
theorem toldA_gives (hi : i < Ng.length) (h0 : ∀ f : Addr, (L2.start Ng [V.ref f])[0]? = some (some (V.ref f))) (hh : ∀ s H, HdA (cxOf C8.CX0 X.prog X.w X.K X.mg X.base Ng x sg g cdg X.A X.stack s H C8.E0).nox (h₀ :: hds) (l.map (tsW i))) :
    LamX.GivesTo X Ng x sg g cdg [.Try [.Return (some (.Call (.Name a p1) [] [] p2)) p3] (h₀ :: hds) [] [] p8] a q (TTrA X.K l) := by
  intro f c' s H Q tl act hc h
  refine ⟨_, pss_one (ps_tryA (X := (cxOf C8.CX0 X.prog X.w X.K X.mg X.base Ng x sg g cdg X.A X.stack s H C8.E0).nox)
      (tb := fun W D σ H => ∃ Ech : XK, (∀ cls d σ' H', Ech cls d H' → σ'.length = Ng.length → W cls d σ' H') ∧ σ[0]? = some (some (.ref f)) ∧ H c' = some (LamX.CodeO c' q) ∧ tl Ech H D.rt)
      rfl rfl takes_none5 (fun W pn xe tk _ => ?_) (hh s H)), ?_⟩
  · refine ⟨fun pins s' σ H' D I h' => ?_⟩
    obtain ⟨Ech, hW, h1, h2, h3⟩ := h'
    have hp := act _ pn xe Ech p1 p2 (takes_len tk) hW
    have hq := pss_one (ps_ret (pos := p3) hp)
    exact hq.run pins s' σ H' D I ⟨h1, h2, h3⟩
  · exact ⟨fun cls d H' => hdWA X.K Q H' cls d l, fun cls d σ' H' w e => hdWA_many (D := _) rfl (by rw [e]; exact hi) l w, h0 f, hc, h⟩
end
@[reducible] def hdDA (K : PySem.W.Frag) (k : KE) (M : Mm) (cls : Value) (fs : Fs) : List ClW → Prop
  | [] => False
  | .word c s :: r => ∃ b, PySem.W.exmOne K cls c = some b ∧ sel b (k (.str s) M) (hdDA K k M cls fs r)
  | .fld c C f :: r => ∃ b, PySem.W.exmOne K cls c = some b ∧ sel b (cls = .ref C ∧ ∃ v, fs.lookup f = some v ∧ k v M) (hdDA K k M cls fs r)
  | .tupf c C f s :: r => ∃ b, PySem.W.exmOne K cls c = some b ∧ sel b (cls = .ref C ∧ ∃ v, fs.lookup f = some v ∧ k (.tup [.str s, v]) M) (hdDA K k M cls fs r)
theorem hdDA_W {K : PySem.W.Frag} {k : KE} {M : Mm} {H : Hp} {cls : Value} {d : Option Addr} {fs : Fs} {Q : VK} (rx : RepX K H d fs) (i : ∀ v dv, Rep K H v dv → k dv M → Q v H) (i2 : ∀ p s v dv, H p = none → Rep K H v dv → k (.tup [.str s, dv]) M → Q (.ref p) (upd H p (.tup [.str s, v]))) : ∀ l : List ClW, hdDA K k M cls fs l → hdWA K Q H cls d l
  | [], h => h
  | .word c s :: r, ⟨b, e, h⟩ => ⟨b, e, fun hb => by subst hb; exact i _ _ (.str s) h.of, fun hb => by subst hb; exact hdDA_W rx i i2 r h.of⟩
  | .fld c C f :: r, ⟨b, e, h⟩ => ⟨b, e, fun hb => by
      subst hb
      obtain ⟨ec, v, hv, hk⟩ := h.of
      cases d with
      | none =>
        have e0 : fs = [] := rx
        subst e0
        cases hv
      | some dd =>
        obtain ⟨ws, hd, rkv⟩ := rx
        obtain ⟨vv, hl, rv⟩ := repKV_lookup rkv hv
        exact ⟨ec, dd, ws, vv, rfl, hd, hl, i _ _ rv hk⟩, fun hb => by subst hb; exact hdDA_W rx i i2 r h.of⟩
  | .tupf c C f s :: r, ⟨b, e, h⟩ => ⟨b, e, fun hb => by
      subst hb
      obtain ⟨ec, v, hv, hk⟩ := h.of
      cases d with
      | none =>
        have e0 : fs = [] := rx
        subst e0
        cases hv
      | some dd =>
        obtain ⟨ws, hd, rkv⟩ := rx
        obtain ⟨vv, hl, rv⟩ := repKV_lookup rkv hv
        exact ⟨ec, dd, ws, vv, rfl, hd, hl, fun p hp => i2 p s vv v hp rv hk⟩, fun hb => by subst hb; exact hdDA_W rx i i2 r h.of⟩
@[reducible] def xHdA (K : PySem.W.Frag) (l : List ClW) (k : KE) : KX := fun cls fs M => hdDA K k M cls fs l
@[reducible] def wLamWA (K : PySem.W.Frag) (l : List ClW) (last : Str) (wb : WE) : WE := fun sd M k _ => wb sd M (kLast last k) (xHdA K l k)
@[reducible] def wLamRA (K : PySem.W.Frag) (l : List ClW) (wb : WE) : WE := fun sd M k _ => wb sd M k (xHdA K l k)
section
variable {X : Cx} {x a last : Str} {g c P : Addr} {k : Nat} {pg : Arguments} {bg : List Stmt} {sg : Scope} {dV kV doc pm cdv ct oc : Value} {an od : Option Addr} {osl : Array (Option Value)} {Ng : List Str}
    {params : Arguments} {body : Expr} {scope : Scope} {wb : WE} {p lpos pos : Pos} {l : List ClW}
theorem e_lamWA (hg : Gl X x) (hm : X.mg x = some (.ref g)) (hk : PySem.W.keepIn X.K (.ref g) = true)
    (lk : X.K.lookup g = some ⟨oc, od, .func (PySem.W.fnOf x x pg bg sg dV kV doc pm an cdv ct), osl⟩) (hcg : PySem.W.codeIn X.K cdv x = true) (hb : L2.Binds X.K (PySem.W.fnOf x x pg bg sg dV kV doc pm an cdv ct) [a] []) (Sg : FnScope Ng [a] sg) (hNg : Ng[0]? = some a) (hva : Vis sg a)
    (hG : LamX.GivesTo X Ng x sg g cdv bg a (X.env.qual ++ "<lambda>") (TTwA X.K l last))
    (TB : LamX.TabB X.base X.mg c P) (hcode : X.env.code = .ref c) (hmT : (P, X.env.qual ++ "<lambda>") ∈ TL.T) (hu : ∀ p ∈ TL.T, p.1 = P → p.2 = X.env.qual ++ "<lambda>") (hr : Room (k + 2) X.A) (L : LamX.LamS X.env.scope scope) (hdef : defaultsOf params X.env = ([], []))
    (hbind : ∀ (q : Str) (cl : List (Str × Addr)) (pm cv ctv : Value), bindArgs (PySem.W.kla_fn "<lambda>" q params body scope cl pm cv ctv) ⟨[], []⟩ = pure [])
    (hbody : ∀ (A : Around) (outer : List Env) (s : Shared) (H : Hp) (E : XK) (f c' : Addr), Room k (A.deeper (LamX.lamEnv X scope s.heap.objs.size f c')) → SE (LamX.lamCx X A outer s H E scope f c') body wb)
    (hdb : (x == ("__debug__" : Str)) = false := by decide) (hd : (a == ("__debug__" : Str)) = false := by decide) (hcd : (a == ("__classdict__" : Str)) = false := by decide) :
    SE X (.Call (.Name x p) [.Lambda params body scope lpos] [] pos) (wLamWA X.K l last wb) := fun Wx tk => by
  refine PE.imp (LamX.pe_lamcall (T := TL.T) (t := fun E => toTE X.K (fun cls d _ H => E cls d H) wb) hg hm hk lk hcg hb Sg hNg hva hG TB hcode hmT hu hr L hdef hbind (fun A outer s H E f c' hr2 => ?_) hdb hd hcd) fun σ H Q h => ?_
  · exact hbody A outer s H E f c' hr2 (fun cls d _ H => E cls d H) (takes_of rfl rfl rfl rfl)
  · obtain ⟨sd, M, k, kx, rs, rm, h, po, px⟩ := h
    refine ⟨rm.tabs, fun H1 e t => ?_⟩
    have s1 : Kp M H M H1 := ext_kp e t
    refine ⟨sd, M, _, _, rs.kp s1, ext_rel rm e t, h, fun v H2 d M2 r2 rs2 rm2 s2 h2 => ?_, fun cls d H2 fs M2 r2 rs2 rm2 s2 h2 => ?_⟩
    · exact po _ H2 _ M2 (.str _) rs2 rm2 (s1.trans s2) h2
    · exact hdDA_W r2 (fun v dv r hs => po _ H2 _ M2 r rs2 rm2 (s1.trans s2) hs) (fun p s v dv hp r hs => po _ _ _ M2 (Reps.newTup hp (.cons (.str s) (.cons r .nil))) (rs2.st (.new hp)) (rm2.lay hp) ((s1.trans s2).trans (.new hp)) hs) l h2
theorem e_lamRA (hg : Gl X x) (hm : X.mg x = some (.ref g)) (hk : PySem.W.keepIn X.K (.ref g) = true)
    (lk : X.K.lookup g = some ⟨oc, od, .func (PySem.W.fnOf x x pg bg sg dV kV doc pm an cdv ct), osl⟩) (hcg : PySem.W.codeIn X.K cdv x = true) (hb : L2.Binds X.K (PySem.W.fnOf x x pg bg sg dV kV doc pm an cdv ct) [a] []) (Sg : FnScope Ng [a] sg) (hNg : Ng[0]? = some a) (hva : Vis sg a)
    (hG : LamX.GivesTo X Ng x sg g cdv bg a (X.env.qual ++ "<lambda>") (TTrA X.K l))
    (TB : LamX.TabB X.base X.mg c P) (hcode : X.env.code = .ref c) (hmT : (P, X.env.qual ++ "<lambda>") ∈ TL.T) (hu : ∀ p ∈ TL.T, p.1 = P → p.2 = X.env.qual ++ "<lambda>") (hr : Room (k + 2) X.A) (L : LamX.LamS X.env.scope scope) (hdef : defaultsOf params X.env = ([], []))
    (hbind : ∀ (q : Str) (cl : List (Str × Addr)) (pm cv ctv : Value), bindArgs (PySem.W.kla_fn "<lambda>" q params body scope cl pm cv ctv) ⟨[], []⟩ = pure [])
    (hbody : ∀ (A : Around) (outer : List Env) (s : Shared) (H : Hp) (E : XK) (f c' : Addr), Room k (A.deeper (LamX.lamEnv X scope s.heap.objs.size f c')) → SE (LamX.lamCx X A outer s H E scope f c') body wb)
    (hdb : (x == ("__debug__" : Str)) = false := by decide) (hd : (a == ("__debug__" : Str)) = false := by decide) (hcd : (a == ("__classdict__" : Str)) = false := by decide) :
    SE X (.Call (.Name x p) [.Lambda params body scope lpos] [] pos) (wLamRA X.K l wb) := fun Wx tk => by
  refine PE.imp (LamX.pe_lamcall (T := TL.T) (t := fun E => toTE X.K (fun cls d _ H => E cls d H) wb) hg hm hk lk hcg hb Sg hNg hva hG TB hcode hmT hu hr L hdef hbind (fun A outer s H E f c' hr2 => ?_) hdb hd hcd) fun σ H Q h => ?_
  · exact hbody A outer s H E f c' hr2 (fun cls d _ H => E cls d H) (takes_of rfl rfl rfl rfl)
  · obtain ⟨sd, M, k, kx, rs, rm, h, po, px⟩ := h
    refine ⟨rm.tabs, fun H1 e t => ?_⟩
    have s1 : Kp M H M H1 := ext_kp e t
    refine ⟨sd, M, _, _, rs.kp s1, ext_rel rm e t, h, fun v H2 d M2 r2 rs2 rm2 s2 h2 => ?_, fun cls d H2 fs M2 r2 rs2 rm2 s2 h2 => ?_⟩
    · exact po _ H2 _ M2 r2 rs2 rm2 (s1.trans s2) h2
    · exact hdDA_W r2 (fun v dv r hs => po _ H2 _ M2 r rs2 rm2 (s1.trans s2) hs) (fun p s v dv hp r hs => po _ _ _ M2 (Reps.newTup hp (.cons (.str s) (.cons r .nil))) (rs2.st (.new hp)) (rm2.lay hp) ((s1.trans s2).trans (.new hp)) hs) l h2
end
end DL
namespace DL
open PySem PySem.Spec PyProof.Rows L2
/-! ### sorted of a tuple of pairs of ints; texts with fields -/
section
variable {prog : Program} {w : World} {A : Around} {E : Value → Shared → Prop} {s : Shared}
theorem collect_tuple {l : Addr} {vs : List Value} {Q : List Value → Shared → Prop} (hl : s.heap.IsTuple l vs.toArray)
    (h : Q vs { s with heap := (s.heap.push (seqObj "list" #[] 0)).update s.heap.objs.size (Obj.mapSeq (· ++ vs.toArray)) }) (hsz : vs.length ≤ sizeLine) :
    wpAny (model prog w) A (collect (.ref l)) Q E s := by
  obtain ⟨o, ho, hc, n, hd⟩ := id hl
  unfold collect
  refine wpAny_bind (wpAny_runValue (codeAny_builtin entry_proto_collect' ?_))
  show wpAny _ _ (do again (.builtin "list.__iadd__" ⟨[← newList [], .ref l], []⟩)) _ _ s
  refine wpAny_bind (wpAny_newList (wpAny_pure ⟨Code.quiet_builtin _ (by decide +kernel), codeAny_builtin entry_list_iadd' ?_⟩))
  show wpAny _ _ (Builtin.List.listExtendWith (.ref s.heap.objs.size) (.ref l) (.ref s.heap.objs.size)) _ _ { s with heap := s.heap.push (seqObj "list" #[] 0) }
  unfold Builtin.List.listExtendWith
  have ho' : (s.heap.push (seqObj "list" #[] 0)).get? l = some o := Heap.get?_push_of_some _ ho
  refine wpAny_bind (wpAny_typeOf (T := "tuple") ⟨o, ho', hc⟩ ?_)
  have ht : (Value.type "tuple" == Value.type "tuple") = true := by rfl
  rw [if_pos (by rw [ht]; simp)]
  refine wpAny_bind (listItems_at ho' hd ?_)
  refine wpAny_bind (listItems_at (xs := #[]) (n := 0) (Heap.get?_push_size _ rfl) rfl ?_)
  rw [if_neg (by simp)]
  refine wpAny_bind (listUpdate_at (xs := #[]) (n := 0) (Heap.get?_push_size _ rfl) rfl ?_ (Nat.zero_le _) (by show (#[] ++ vs.toArray).size ≤ sizeLine + 1; simp only [Array.size_append, List.size_toArray, List.length_nil]; omega))
  refine wpAny_pure ?_
  show wpAny (model prog w) A (do
      let o ← load s.heap.objs.size
      match o.data with
      | .seq xs _ => pure xs.toList
      | _ => unsupported "internal:collect") Q E { s with heap := (s.heap.push (seqObj "list" #[] 0)).update s.heap.objs.size (Obj.mapSeq (· ++ vs.toArray)) }
  refine wpAny_bind (wpAny_load (get?_update_seq (Heap.get?_push_size _ rfl) _) ?_)
  show wpAny _ _ (pure ((#[] : Array Value) ++ vs.toArray).toList) Q E _
  rw [show ((#[] : Array Value) ++ vs.toArray).toList = vs by simp]
  exact wpAny_pure h
theorem sorted_ordT {l : Addr} {vs : List Value} {ltv : Value → Value → Bool} {Q : Value → Shared → Prop} (O : SrtO.Swo ltv) (hl : s.heap.IsTuple l vs.toArray) (hz : vs.length ≤ sizeLine)
    (hS : 2 ≤ vs.length → ∀ (h₁ : Heap) (a : Addr), h₁.get? a = some (seqObj "list" vs.toArray 0) → (∀ b o, s.heap.get? b = some o → b ≠ a ∧ h₁.get? b = some o) → SrtO.SortableO prog w A.in1.in1 { s with heap := h₁ } a vs ltv)
    (h : ∀ out : List Value, SrtO.Srtd ltv out → SrtO.Stb ltv out vs → Q (.ref (s.heap.objs.size + 1)) { s with heap := sortedAll s.heap vs out.toArray }) :
    wpAny (model prog w) A (call (.builtin "sorted") [.ref l]) Q E s := by
  refine Calls.call_function_entry kind_sorted plain_sorted entry_sorted (args_sorted1 _) ?_
  unfold Builtin.«sorted»
  refine wpAny_bind (m := checkCount "sorted" 1 1 _) (wpAny_pure ?_)
  refine wpAny_bind (collect_tuple hl ?_ hz)
  refine wpAny_bind (wpAny_newList ?_ hz)
  have hsz : ((s.heap.push (seqObj "list" #[] 0)).update s.heap.objs.size (Obj.mapSeq (· ++ vs.toArray))).objs.size = s.heap.objs.size + 1 := by
    rw [Heap.size_update, size_push']
  have hoL : (((s.heap.push (seqObj "list" #[] 0)).update s.heap.objs.size (Obj.mapSeq (· ++ vs.toArray))).push (seqObj "list" vs.toArray 0)).get? (s.heap.objs.size + 1) = some (seqObj "list" vs.toArray 0) := by
    rw [← hsz]; exact Heap.get?_push_size _ rfl
  have keep : ∀ b o, s.heap.get? b = some o → b ≠ s.heap.objs.size + 1 ∧ (((s.heap.push (seqObj "list" #[] 0)).update s.heap.objs.size (Obj.mapSeq (· ++ vs.toArray))).push (seqObj "list" vs.toArray 0)).get? b = some o := fun b o q => by
    have hlt : b < s.heap.objs.size := Heap.lt_size q
    refine ⟨Nat.ne_of_lt (Nat.lt_succ_of_lt hlt), Heap.get?_push_of_some _ ?_⟩
    rw [Heap.get?_update_ne _ _ _ _ (Nat.ne_of_lt hlt)]
    exact Heap.get?_push_of_some _ q
  show wpAny _ _ _ _ _ { s with heap := ((s.heap.push (seqObj "list" #[] 0)).update s.heap.objs.size (Obj.mapSeq (· ++ vs.toArray))).push (seqObj "list" vs.toArray 0) }
  rw [hsz]
  refine wpAny_bind (wpAny_holding (wpAny_call_entry slot_list_sort ⟨_, hoL, rfl⟩ entry_list_sort (SrtO.list_sort_ord O hoL hz (fun h2 => hS h2 _ _ hoL keep) fun out hs hb => ⟨_, rfl, ?_⟩) (args_list_sort _)))
  exact wpAny_pure ⟨_, rfl, h out hs hb⟩
theorem sorted_pairsT {l : Addr} {vs : List Value} {k : Value → Int × Int} {Q : Value → Shared → Prop} (hl : s.heap.IsTuple l vs.toArray) (hz : vs.length ≤ sizeLine) (hp : ∀ v ∈ vs, Srt.IsPair s.heap v (k v).1 (k v).2)
    (h : ∀ (h' : Heap) (d : Addr) (out : List Value), SrtO.Srtd (fun v u => SrtO.lexB (k v) (k u)) out → SrtO.Stb (fun v u => SrtO.lexB (k v) (k u)) out vs → (∀ b o, s.heap.get? b = some o → h'.get? b = some o) → s.heap.objs.size ≤ d → (∃ n, h'.get? d = some (seqObj "list" out.toArray n)) → Q (.ref d) { s with heap := h' }) :
    wpAny (model prog w) A (call (.builtin "sorted") [.ref l]) Q E s := by
  refine sorted_ordT (SrtO.swo_lex k) hl hz (fun h2 h₁ a ha kk => ?_) fun out hs hb => ?_
  · refine SrtO.pairs_sortableO (s := { s with heap := h₁ }) (by omega) (fun v hm => (hp v hm).keeps fun b o e _ => (kk b o e).2) fun o e => ?_
    have e' : some o = some (seqObj "list" vs.toArray 0) := e.symm.trans ha
    cases e'
    intro c
    exact absurd (Value.type.inj c) (by decide)
  · exact h _ _ out hs hb (fun b o e => sortedAll_old e) (Nat.le_succ _) (sortedAll_at s.heap vs out.toArray)
end
def rSortTT (K : PySem.W.Frag) : List V → Hp → VK → Prop := fun vs H Q => ∃ (a : Addr) (L0 : List (Addr × (Int × Int))), vs = [V.ref a] ∧ L0.length ≤ sizeLine ∧ SqT K H a (L0.map fun p => V.ref p.1) ∧ (∀ p ∈ L0, SqT K H p.1 [.int p.2.1, .int p.2.2]) ∧
  ∀ (L : List (Addr × (Int × Int))) (p : Addr), L.Perm L0 → L.Pairwise (fun x y => SrtO.lexB y.2 x.2 = false) → H p = none → Q (.ref p) (upd H p (.lst (L.map fun p => V.ref p.1)))
section
variable {X : Cx}
theorem cr_sortTT : CallR X (.builtin "sorted") (rSortTT X.K) := by
  intro pins s σ H vs us Q I r h
  obtain ⟨a, L0, rfl, hz, hs, hx, q⟩ := h
  obtain ⟨its, rv, hl, _⟩ := I.tuple hs
  obtain ⟨u, rfl, ru⟩ := vals1 r
  obtain rfl : u = Value.ref a := ru
  have un : ∀ p ∈ L0, ∀ q ∈ L0, p.1 = q.1 → p.2 = q.2 := fun p hp q hq e => by
    have h1 := hx p hp
    rw [e] at h1
    have h2 := I.tuple_inj h1 (hx q hq)
    simp only [List.cons.injEq, V.int.injEq, and_true] at h2
    exact Prod.ext h2.1 h2.2
  obtain ⟨e1, e2⟩ := refs_back rv fun x m => by
    obtain ⟨p, _, rfl⟩ := List.mem_map.mp m
    exact ⟨p.1, rfl⟩
  have hz' : its.length ≤ sizeLine := by rw [← rv.length, List.length_map]; exact hz
  refine sorted_pairsT (k := fun u => keyL L0 (backV u)) hl hz' (fun v hv => ?_) fun h' d out h1 h2 kp hd hn => ?_
  · obtain ⟨t, rfl⟩ := e2 v hv
    have hm : V.ref t ∈ L0.map fun p => V.ref p.1 := by rw [e1]; exact List.mem_map.mpr ⟨_, hv, rfl⟩
    obtain ⟨p, hp, e⟩ := List.mem_map.mp hm
    cases e
    obtain ⟨its2, r2, ⟨o, ho, hc, n, hd⟩, _⟩ := I.tuple (hx p hp)
    obtain ⟨u1, u2, rfl, ri, rj⟩ := vals2 r2
    obtain ⟨t1, rfl⟩ := ri
    obtain ⟨t2, rfl⟩ := rj
    have ek : keyL L0 (backV (.ref p.1)) = p.2 := keyL_of un hp
    show Srt.IsPair _ _ (keyL L0 (backV (.ref p.1))).1 (keyL L0 (backV (.ref p.1))).2
    rw [ek]
    exact ⟨p.1, o, t1, t2, n, rfl, ho, hc, hd⟩
  · have h3 : ∀ u ∈ out, ∃ a, u = Value.ref a := fun u hu => e2 u (h2.perm.mem_iff.mp hu)
    obtain ⟨n, hn⟩ := hn
    have hp : (out.map backV).Perm (L0.map fun p => V.ref p.1) := by
      rw [e1]
      exact h2.perm.map backV
    obtain ⟨L, hL, eL⟩ := perm_back (fun p : Addr × (Int × Int) => V.ref p.1) _ L0 hp
    have hsrt : (L.map fun p => V.ref p.1).Pairwise fun x y => ltP (keyL L0) y x = false := by
      rw [← eL]
      exact SrtO.srtd_map h1
    refine ⟨.ref d, upd H d (.lst (out.map backV)), I.laid (t' := s.toks) kp hd ⟨?_, out, n, vals_back h3, hn⟩, rfl, ?_⟩
    · rw [hp.length_eq, List.length_map]
      exact hz
    · rw [eL]
      refine q L d hL ?_ (I.hok.fresh hd)
      rw [List.pairwise_map] at hsrt
      refine List.Pairwise.imp_of_mem (fun {x y} hx' hy' z => ?_) hsrt
      have k1 := keyL_of un (hL.mem_iff.mp hx')
      have k2 := keyL_of un (hL.mem_iff.mp hy')
      have z' : SrtO.lexB (keyL L0 (.ref y.1)) (keyL L0 (.ref x.1)) = false := z
      rw [k1, k2] at z'
      exact z'
end
section
variable [TL : TabList]
variable {X : Cx} {e : Expr} {w : WE} {p p2 pos pos2 : Pos}
@[reducible] def kSortT (k : KE) : KE := fun d M => ∃ pz : List (Int × Int), d = .tup (pz.map qD) ∧ pz.length ≤ sizeLine ∧ ∀ L : List (Int × Int), L.Perm pz → L.Pairwise (fun x y => SrtO.lexB y x = false) → k (.lst (L.map qD)) M
@[reducible] def wSortT (w : WE) : WE := fun sd M k kx => w sd M (kSortT k) kx
/-- sorted(a tuple of pairs) -/
theorem e_sortT (hc : X.calm = true) (hg : Gl X "sorted") (hm : X.mg "sorted" = none) (he : SE X e w)
    (hs : starEach (e :: []) X.env = (false, eval e X.env) :: starEach [] X.env := by rfl) (hpl : (backTo pos (starEach [] X.env)).any (·.1) = false := by rfl) :
    SE X (.Call (.Name "sorted" p) [e] [] pos) (wSortT w) := fun Wx tk => by
  refine PE.imp (PE.gh (pe_callB cr_sortTT hg hm (by decide +kernel) (pa_cons (he Wx tk) pa_nil hs) (by decide) (by decide) hs hpl)) fun σ H Q h => ?_
  obtain ⟨sd, M, k, kx, rs, rm, h, po, px⟩ := h
  refine ⟨sd, M, _, kx, rs, rm, h, fun v H1 d M1 r1 rs1 rm1 k1 h1 => ?_, px⟩
  obtain ⟨pz, rfl, hz, hk⟩ := h1
  cases r1 with
  | tup sq tt =>
    obtain ⟨ks, rfl, hks, he2⟩ := reps_pairsL tt
    refine ⟨_, ks, rfl, by rw [← he2, List.length_map] at hz; exact hz, sq, hks, fun L p hL hpw hp => ?_⟩
    refine post_frz (fun v4 H4 d4 M4 r4 rm4 s4 h4 => po v4 H4 d4 M4 r4 (rs1.kp s4) rm4 (k1.trans s4) h4) rm1 hp (reps_of_pairsL fun q hq => hks q (hL.mem_iff.mp hq)) (hk _ ?_ (List.pairwise_map.mpr hpw))
    rw [← he2]
    exact hL.map _
/-! f'..' -/
@[reducible] def kFmt (k : KE) : KE := fun d M => match d with
  | .str y => y.length ≤ sizeLine ∧ k (.str y) M
  | .int i => i.natAbs.log2 < 1920 ∧ k (.str (toString i)) M
  | _ => False
@[reducible] def wFmt (w : WE) : WE := fun sd M k kx => w sd M (kFmt k) kx
theorem e_fmt (he : SE X e w) : SE X (.FormattedValue e (-1) none pos) (wFmt w) := fun Wx tk =>
  PE.imp (pe_fmt (he Wx tk)) fun σ H Q h => by
    obtain ⟨sd, M, k, kx, rs, rm, h, po, px⟩ := h
    refine ⟨sd, M, _, kx, rs, rm, h, fun v H1 d M1 r1 rs1 rm1 k1 h1 => ?_, px⟩
    cases d with
    | str y => cases r1; exact .inl ⟨y, rfl, h1.1, po _ H1 _ M1 (.str y) rs1 rm1 k1 h1.2⟩
    | int i => cases r1; exact .inr ⟨i, rfl, h1.1, po _ H1 _ M1 (.str _) rs1 rm1 k1 h1.2⟩
    | _ => exact h1.elim
inductive SJ (X : Cx) : List Expr → List WE → Prop where
  | nil : SJ X [] []
  | cons {e : Expr} {w : WE} {es : List Expr} {ws : List WE} (h : SE X e w) (r : SJ X es ws) : SJ X (e :: es) (w :: ws)
theorem sj_pj {Wx : WX} (tk : Takes X Wx) : ∀ {es : List Expr} {ws : List WE}, SJ X es ws → PJ X es (ws.map (toTE X.K Wx))
  | _, _, .nil => .nil
  | _, _, .cons h r => .cons (h Wx tk) (sj_pj tk r)
@[reducible] def wJs : List WE → Str → SD → Mm → KE → KX → Prop
  | [], acc, _, M, k, _ => k (.str acc) M
  | w :: ws, acc, sd, M, k, kx => w sd M (fun d M' => match d with
    | .str y => (acc ++ y).length ≤ sizeLine ∧ wJs ws (acc ++ y) sd M' k kx
    | _ => False) kx
theorem js_imp {K : PySem.W.Frag} {Wx : WX} {σ : L2.St} {sd : SD} {H0 : Hp} {M0 : Mm} {k : KE} {kx : KX} {Q : VK} (po : PostE K H0 M0 σ sd k Q) (px : PostX K H0 M0 σ sd kx Wx) : ∀ (ws : List WE) (acc : Str) (H : Hp) (M : Mm), RelS K H σ sd → RelM K H M → Kp M0 H0 M H → wJs ws acc sd M k kx → tJs (ws.map (toTE K Wx)) acc σ H fun out H1 => Q (.str out) H1
  | [], acc, H, M, rs, rm, k0, h => po _ H _ M (.str acc) rs rm k0 h
  | w :: ws, acc, H, M, rs, rm, k0, h => ⟨sd, M, _, kx, rs, rm, h, fun v H1 d M1 r1 rs1 rm1 k1 h1 => by
      cases d with
      | str y => cases r1; exact ⟨y, rfl, h1.1, js_imp po px ws (acc ++ y) H1 M1 rs1 rm1 (k0.trans k1) h1.2⟩
      | _ => exact h1.elim, px.st k0⟩
@[reducible] def wJoined (ws : List WE) : WE := fun sd M k kx => wJs ws Str.empty sd M k kx
theorem e_joined {v1 v2 : Expr} {rest : List Expr} {ws : List WE} (h : SJ X (v1 :: v2 :: rest) ws) : SE X (.JoinedStr (v1 :: v2 :: rest) pos) (wJoined ws) := fun Wx tk =>
  PE.imp (pe_joined (sj_pj tk h)) fun σ H Q ⟨sd, M, k, kx, rs, rm, h, po, px⟩ => js_imp po px ws Str.empty H M rs rm (.refl _ _) h
end
end DL
namespace DL
open PySem PySem.Spec PyProof.Rows L2
variable [TL : TabList]
/-! ### generators: list(o.m()) -/
abbrev SpGD := List D → Mm → (List D → Mm → Prop) → Prop
def toSpG (K : PySem.W.Frag) (sp : SpGD) : SpG := fun vs H cont _ => ∃ ds M k, Reps K H vs ds ∧ RelM K H M ∧ sp ds M k ∧ ∀ out H' os M', Reps K H' out os → RelM K H' M' → Kp M H M' H' → k os M' → cont out H'
structure GenD (P : Program) (w : World) (K : PySem.W.Frag) (mg : Str → Option Value) (base : Heap) (C : Addr) (m : Str) (lvl : Nat) (sp : SpGD) : Prop where
  ex : ∃ f fd ps, GFn P w K mg base lvl f fd ps (toSpG K sp) ∧ Meth K C m f ∧ Binds K fd ps []
/-- a generator's body, as a whole: ys are out already -/
structure GEndsD where
  nx : List D → SD → Mm → Prop
abbrev WG1 := (List D → SD → Mm → Prop) → List D → SD → Mm → Prop
/-- a generator def whose body hands out nothing on the way that is shown -/
theorem gfn_plain {P : Program} {w : World} {K : PySem.W.Frag} {mg : Str → Option Value} {base : Heap} {x qual : Str} {st : Stmt} {f : Addr} {fd : FuncData} {N ps : List Str} {k n : Nat} {sp : SpGD} (F : Fun K x qual st f fd) (S : GScope N ps (defScope st)) (hn : N.length = n) (len : ∀ ds M k, sp ds M k → ds.length = ps.length)
    (hbody : ∀ (cdv : Value) (A : Around) (outer : List Env) (s : Shared) (H : Hp) (E : XK) (pn : List (Addr × Obj)), Room k (A.deeper (envOfC qual (defScope st) s.heap.objs.size f cdv)) →
      ∃ w', SSs (gcxOf P w K mg base N qual (defScope st) f cdv A outer s H E pn) (defBody st) w' ∧ ∀ ds M k, sp ds M k → w' { nx := fun _ M' => ∃ M0, Le M0 M' ∧ k [] M0, rt := fun _ _ => False } (startD n ds) M) :
    GFn P w K mg base (k + 1) f fd ps (toSpG K sp) := by
  obtain ⟨oc, od, kV, doc, pm, an, cdv, ct, osl, rfl, lk, hcd⟩ := F.ex
  refine gfn_of lk hcd S (fun vs H Q E ⟨ds, M, k, r, rm, h, p⟩ => by rw [r.len]; exact len ds M k h) fun A outer s H vs Q E pn hr ⟨ds, M, kk, r, rm, h, p⟩ => ?_
  obtain ⟨w', hw, hs⟩ := hbody cdv A outer s H E pn hr
  refine ⟨_, gss_pss (hw _ takes_gcx), ?_⟩
  refine ⟨_, startD n ds, M, ?_, rm, hs ds M kk h, ⟨fun σ' H' sd' M' a b c ⟨M0, l, q⟩ => p [] H' [] M0 .nil (b.le l) (c.le l) q, fun _ _ _ _ _ _ _ z => z.elim, fun _ _ _ _ _ _ _ z => z, fun _ _ _ _ _ _ _ z => z, fun _ _ _ _ _ _ _ _ _ _ _ z => z.elim⟩⟩
  rw [← hn]
  refine startD_rel r ?_
  rw [len ds M kk h, ← S.pre, List.length_take]
  exact Nat.min_le_right _ _
section
variable {X : Cx} {o : Expr} {wo : WE} {C : Addr} {m : Str} {fl : List Str} {apos pos pos' p : Pos} {lvl : Nat} {sp : SpGD}
@[reducible] def kGenL (C : Addr) (m : Str) (sp : SpGD) (k : KE) : KE := fun d M => match d with
  | .ref a => ∃ fs, M a = some (.ins C fs) ∧ fs.lookup m = none ∧ sp [.ref a] M fun os M' => k (.lst os) M'
  | _ => False
@[reducible] def wGenL (C : Addr) (m : Str) (sp : SpGD) (w : WE) : WE := fun sd M k kx => w sd M (kGenL C m sp k) kx
/-- list(o.m()), m a generator method -/
theorem e_listG {pl : Sem Bool} (c : ClsI X.K C fl) (G : GenD X.prog X.w X.K X.mg X.base C m lvl sp) (hr : Room (lvl + 3) X.A) (hg : Gl X "list") (hm : X.mg "list" = none) (ho : SE X o wo)
    (ht : eval (.Call (.Attribute o m apos) [] [] pos') X.env = (do
      let ov ← eval o X.env
      standAt apos.atName
      let (f, first) ← holding [ov] (getMethod ov m pl)
      callWith pos' f first (backTo pos' (starEach [] X.env)) (backToKw pos' (keywordEach [] X.env))) := by rfl)
    (he : starEach [.Call (.Attribute o m apos) [] [] pos'] X.env = (false, eval (.Call (.Attribute o m apos) [] [] pos') X.env) :: starEach [] X.env := by rfl) :
    SE X (.Call (.Name "list" p) [.Call (.Attribute o m apos) [] [] pos'] [] pos) (wGenL C m sp wo) := fun Wx tk => by
  obtain ⟨f, fd, ps, F, hmt, hB⟩ := G.ex
  refine PE.imp (PE.gh (pe_listG (E := fun _ _ _ => False) (pgen_meth0 (ho Wx tk) c.c hmt F (hr.mono (by omega)) hB .nil ht) (fun pins σ H s e s' I z => at_no pins H s e s' I z) (fun _ _ _ z => z.elim) hr hg hm (by decide +kernel) (by decide) (by decide) he)) fun σ H Q h => ?_
  obtain ⟨sd, M, k, kx, rs, rm, h, po, px⟩ := h
  refine ⟨sd, M, _, kx, rs, rm, h, fun v H1 d M1 r1 rs1 rm1 k1 h1 => ?_, px⟩
  cases d with
  | ref a =>
    obtain ⟨fs, hM, hl, h2⟩ := h1
    obtain ⟨dx, vs, hH, _, rr⟩ := rm1 a _ hM
    cases r1
    refine ⟨a, dx, vs, rfl, hH, lookup_none rr hl, [.ref a], M1, _, .cons (.ref a) .nil, rm1, h2, fun out H2 os M2 r2 rm2 k2 h3 p hp => ?_⟩
    exact post_frz (fun v4 H4 d4 M4 r4 rm4 s4 h4 => po v4 H4 d4 M4 r4 ((rs1.kp k2).kp s4) rm4 ((k1.trans k2).trans s4) h4) rm2 hp r2 h3
  | _ => exact h1.elim
end
end DL
namespace DL
open PySem PySem.Spec PyProof.Rows L2
/-! ### facts of own classes -/
/-- the def behind a property -/
def gA (K : PySem.W.Frag) (C p : Str) : Addr := match PySem.W.recIn K (He.ma K (He.ga K C) p) "property" with
  | some (.ref g :: _) => g
  | _ => 0
def fnWa (K : PySem.W.Frag) (a : Addr) : He.FnW := match K.lookup a with
  | some ⟨_, _, .func fd, _⟩ => some (fd.name, fd.qualname, fd.params, fd.body, fd.scope, fd.globals, fd.closure, fd.builtins)
  | _ => none
def okA (K : PySem.W.Frag) (a : Addr) (d : He.DefD) : Bool := PySem.W.keepIn K (.ref a) && (match K.lookup a with
  | some ⟨_, _, .func fd, _⟩ => PySem.W.codeIn K fd.code d.qual && (He.dflB K fd.defaults (d.dvs K) && He.kwdB K fd.kwdefaults (d.kws K))
  | _ => false)
theorem funD_at {K : PySem.W.Frag} {a : Addr} {d : He.DefD} (e : fnWa K a = d.val) (c : okA K a d = true) : ∃ fd, FunD K d.name d.qual d.params d.body d.scope (d.dvs K) (d.kws K) a fd := by
  obtain ⟨kp, c2⟩ := Bool.and_eq_true_iff.mp c
  unfold fnWa at e
  cases q : K.lookup a with
  | none =>
    rw [q] at c2
    cases c2
  | some o =>
    obtain ⟨oc, od, dt, osl⟩ := o
    rw [q] at c2 e
    cases dt with
    | func fd =>
      obtain ⟨n1, n2, n3, n4, n5, n6, n7, n8, n9, n10, n11, n12, n13, n14, n15⟩ := fd
      have e2 : (some (n1, n2, n3, n4, n5, n6, n7, n15) : He.FnW) = some (d.name, d.qual, d.params, .stmts d.body, d.scope, mainGlobals, [], builtinsNs) := e
      simp only [Option.some.injEq, Prod.mk.injEq] at e2
      obtain ⟨h1, h2, h3, h4, h5, h6, h7, h8⟩ := e2
      subst h1 h2 h3 h4 h5 h6 h7 h8
      have c3 : (PySem.W.codeIn K n13 d.qual && (He.dflB K n8 (d.dvs K) && He.kwdB K n9 (d.kws K))) = true := c2
      obtain ⟨k1, k2⟩ := Bool.and_eq_true_iff.mp c3
      obtain ⟨k3, k4⟩ := Bool.and_eq_true_iff.mp k2
      exact ⟨_, ⟨oc, od, n8, n9, n10, n11, n12, n13, n14, osl, rfl, q, k1, He.dflB_ok k3, He.kwdB_ok k4⟩, kp⟩
    | _ => cases c2
def propB (K : PySem.W.Frag) (C p : Str) : Bool := decide (PySem.W.findIn K (.ref (He.ga K C)) p = some (some (.ref (He.ma K (He.ga K C) p)))) && (decide (PySem.W.specialIn K (.ref (He.ma K (He.ga K C) p)) "__get__" = some (some (.builtin "property.__get__"))) &&
  (decide (PySem.W.takesIn K (.ref (He.ma K (He.ga K C) p)) = some true) && (match PySem.W.recIn K (He.ma K (He.ga K C) p) "property" with
    | some (.ref _ :: _) => true
    | _ => false)))
theorem propB_ok {K : PySem.W.Frag} {C p : Str} (h : propB K C p = true) : PropOf K (He.ga K C) p (He.ma K (He.ga K C) p) (gA K C p) := by
  unfold propB at h
  simp only [Bool.and_eq_true, decide_eq_true_eq] at h
  obtain ⟨h1, h2, h3, h4⟩ := h
  refine ⟨h1, h2, h3, ?_⟩
  unfold gA
  split at h4
  · rename_i g r e
    rw [e]
    exact ⟨r, rfl⟩
  · cases h4
def conIB (K : PySem.W.Frag) (C f : Str) (i : Int) : Bool := PySem.W.readsIn K (He.ga K C) (.type "type") && (decide (PySem.W.specialIn K (.ref (He.ga K C)) "__getattribute__" = some (some (.builtin "type.__getattribute__"))) &&
  (match PySem.W.findCls K (.ref (He.ga K C)) (.type "type") f with
    | some (.val (.int j _)) => decide (j = i)
    | _ => false))
theorem conIB_ok {K : PySem.W.Frag} {C f : Str} {i : Int} (h : conIB K C f i = true) : CInt K (He.ga K C) f i := by
  unfold conIB at h
  simp only [Bool.and_eq_true, decide_eq_true_eq] at h
  obtain ⟨h1, h2, h3⟩ := h
  split at h3
  · rename_i j t e
    have := of_decide_eq_true h3
    subst this
    exact ⟨_, t, ⟨h1, h2⟩, e⟩
  · cases h3
theorem FnM.mono {P : Program} {w : World} {K : PySem.W.Frag} {mg : Str → Option Value} {base : Heap} {CX : CXT} {j k : Nat} {f : Addr} {fd : FuncData} {ps : List Str} {sp : Sp} (F : FnM P w K mg base CX j f fd ps sp) (h : j ≤ k) : FnM P w K mg base CX k f fd ps sp :=
  ⟨F.len, fun A outer s H args us vs Q E hr => F.run A outer s H args us vs Q E (hr.mono h)⟩
theorem fn_in {K : PySem.W.Frag} {x qual : Str} {st : Stmt} {f : Addr} {fd : FuncData} (F : Fun K x qual st f fd) : PySem.W.fnIn K f = true := by
  obtain ⟨oc, od, kV, doc, pm, an, cdv, ct, osl, e, lk, hcd⟩ := F.ex
  unfold PySem.W.fnIn
  rw [lk]
/-! the head's facts with the getters -/
abbrev GetT := Str × Str × He.DefD
def obsZ (n : Nat) (fa : List He.Fa) (fn : List He.DefD) (ts : List He.Tab) (tf : List He.Defn) (ex : PySem.W.Frag → Bool) (gn : List GetT) (g : Addr → Option Obj) : He.AlX × List He.FnW :=
  (obsY n fa fn ts tf ex g, gn.map fun d => fnWa (He.frT g (asY g n)) (gA (He.frT g (asY g n)) d.1 d.2.1))
def hookZ (n : Nat) (fa : List He.Fa) (fn : List He.DefD) (ts : List He.Tab) (tf : List He.Defn) (ex : PySem.W.Frag → Bool) (gn : List GetT) : PySem.W.Hook :=
  { α := He.AlX × List He.FnW, obs := fun s => obsZ n fa fn ts tf ex gn s.heap.get?, val := fun w => (He.valX fn ts w, gn.map fun d => d.2.2.val),
    says := fun w h => ∃ K : PySem.W.Frag, K.In h ∧ He.SaysX fa fn ts tf ex w h K ∧ gn.map (fun d => fnWa K (gA K d.1 d.2.1)) = gn.map fun d => d.2.2.val,
    of := fun _ _ e => ⟨_, He.frT_in, saysY_of (Prod.mk.inj e).1, (Prod.mk.inj e).2⟩,
    keeps := fun _ _ _ ⟨K, i, c, e⟩ k => ⟨K, PySem.W.Frag.In.keeps i k, { t := c.t, more := c.more, hd := c.hd, out := c.out, empty := fun p hp => k _ _ (c.empty p hp) }, e⟩ }
theorem obsZ_eq {n : Nat} {fa : List He.Fa} {fn : List He.DefD} {ts : List He.Tab} {tf : List He.Defn} {ex : PySem.W.Frag → Bool} {gn : List GetT} {g : Addr → Option Obj} {s : Shared} (h : ∀ a, g a = s.heap.get? a) : obsZ n fa fn ts tf ex gn g = (hookZ n fa fn ts tf ex gn).obs s := by
  have e : g = s.heap.get? := funext h
  subst e
  rfl
theorem get_at {K : PySem.W.Frag} {gn : List GetT} (h : gn.map (fun d => fnWa K (gA K d.1 d.2.1)) = gn.map fun d => d.2.2.val) (i : Nat) {d : GetT} (e : gn[i]? = some d := by rfl) : fnWa K (gA K d.1 d.2.1) = d.2.2.val := by
  have e2 : (gn.map fun d => fnWa K (gA K d.1 d.2.1))[i]? = (gn.map fun d => d.2.2.val)[i]? := by rw [h]
  rw [List.getElem?_map, List.getElem?_map, e] at e2
  exact Option.some.inj e2
end DL
namespace DL
open PySem PySem.Spec PyProof.Rows L2
/-! steps for instances -/
theorem sd_ins {M : Mm} {a C : Addr} {fs : List (Str × D)} {A : List (Str × D) → Prop} (h1 : M a = some (.ins C fs)) (h : A fs) : ∃ fs, M a = some (.ins C fs) ∧ A fs := ⟨fs, h1, h⟩
theorem sd_insN {M : Mm} {a C : Addr} {fs : List (Str × D)} {m : Str} {A : List (Str × D) → Prop} (h1 : M a = some (.ins C fs)) (h2 : fs.lookup m = none) (h : A fs) : ∃ fs, M a = some (.ins C fs) ∧ fs.lookup m = none ∧ A fs := ⟨fs, h1, h2, h⟩
theorem sd_900 {fs : List (Str × D)} {A : Prop} (h1 : decide (fs.length < 900) = true) (h : A) : fs.length < 900 ∧ A := ⟨of_decide_eq_true h1, h⟩
theorem sd_insS {M : Mm} {a C : Addr} {fs fs' : List (Str × D)} {f : Str} {v : D} {A : O → Prop} (h1 : M a = some (.ins C fs)) (h2 : putFD f v fs = fs') (h3 : fs.length < 900) (h : A (.ins C fs')) : ∃ fs, M a = some (.ins C fs) ∧ fs.length < 900 ∧ A (.ins C (putFD f v fs)) := ⟨fs, h1, h3, by rw [h2]; exact h⟩
end DL
namespace DL
open PySem PySem.Spec PyProof.Rows L2
variable [TL : TabList]
def topS (i : Nat) : Stmt := PySem.Challenge.pw_hedgeworths_k16_refused_at_hedges.main.body.getD i (.Pass ⟨0, 0, 0, 0⟩)
abbrev st_is_number : Stmt := topS 12
abbrev st_is_pair : Stmt := topS 13
abbrev st_are_pairs : Stmt := topS 14
abbrev st_is_rule_of : Stmt := topS 15
abbrev st_need_rule : Stmt := topS 16
abbrev st_need_number : Stmt := topS 17
abbrev st_may_touch : Stmt := topS 18
abbrev st_can_stand : Stmt := topS 19
abbrev st_moves_in : Stmt := topS 20
abbrev st_Trial___init__ : Stmt := inClass (topS 23) 0
abbrev st_Trial___enter__ : Stmt := inClass (topS 23) 1
abbrev st_Trial___exit__ : Stmt := inClass (topS 23) 2
abbrev st_Hedge___init__ : Stmt := inClass (topS 24) 1
abbrev st_Hedge_turn_to : Stmt := inClass (topS 24) 2
abbrev st_Hedge_plant : Stmt := inClass (topS 24) 3
abbrev st_Hedge___iadd__ : Stmt := inClass (topS 24) 4
abbrev st_Hedge_plants : Stmt := inClass (topS 24) 7
abbrev st_Hedge_undo : Stmt := inClass (topS 24) 12
abbrev st_Hedge_log : Stmt := inClass (topS 24) 15
abbrev st_Hedge___getitem__ : Stmt := inClass (topS 24) 16
abbrev st_Hedge___len__ : Stmt := inClass (topS 24) 18
abbrev st_gaps_of : Stmt := topS 25
abbrev st_open_gaps : Stmt := topS 26
abbrev st__law_hoe : Stmt := topS 30
abbrev st__law_dig : Stmt := topS 31
abbrev st__law_pick : Stmt := topS 32
abbrev st__law_kinds : Stmt := topS 33
abbrev st__law_rule : Stmt := topS 34
abbrev st__law_int : Stmt := topS 35
abbrev st__law_are_pairs : Stmt := topS 36
abbrev st__law_is_rule : Stmt := topS 37
abbrev st__law_odd : Stmt := topS 38
abbrev st__law_bent : Stmt := topS 39
abbrev st__law_grow : Stmt := topS 41
abbrev st__law_full_right : Stmt := topS 42
abbrev st_law : Stmt := topS 43
theorem sc_is_number : FnScope ["value", "low", "high"] ["value", "low", "high"] (defScope st_is_number) := ⟨rfl, rfl, rfl, by decide +kernel, rfl, by decide +kernel, by decide +kernel⟩
theorem sc_is_pair : FnScope ["many", "value", "one"] ["many", "value"] (defScope st_is_pair) := ⟨rfl, rfl, rfl, by decide +kernel, rfl, by decide +kernel, by decide +kernel⟩
theorem sc_are_pairs : FnScope ["many", "value", "one", "other"] ["many", "value"] (defScope st_are_pairs) := ⟨rfl, rfl, rfl, by decide +kernel, rfl, by decide +kernel, by decide +kernel⟩
theorem sc_is_rule_of : FnScope ["value", "size", "pairs"] ["value"] (defScope st_is_rule_of) := ⟨rfl, rfl, rfl, by decide +kernel, rfl, by decide +kernel, by decide +kernel⟩
theorem sc_need_rule : FnScope ["rule"] ["rule"] (defScope st_need_rule) := ⟨rfl, rfl, rfl, by decide +kernel, rfl, by decide +kernel, by decide +kernel⟩
theorem sc_need_number : FnScope ["value", "low", "high"] ["value", "low", "high"] (defScope st_need_number) := ⟨rfl, rfl, rfl, by decide +kernel, rfl, by decide +kernel, by decide +kernel⟩
theorem sc_may_touch : FnScope ["rule", "places", "left", "right"] ["rule", "places", "left", "right"] (defScope st_may_touch) := ⟨rfl, rfl, rfl, by decide +kernel, rfl, by decide +kernel, by decide +kernel⟩
theorem sc_can_stand : FnScope ["rule", "gap", "kind", "place", "n", "left", "right", "behind"] ["rule", "gap", "kind", "place"] (defScope st_can_stand) := ⟨rfl, rfl, rfl, by decide +kernel, rfl, by decide +kernel, by decide +kernel⟩
theorem sc_moves_in : FnScope ["rule", "gap", "found", "kind", "place"] ["rule", "gap"] (defScope st_moves_in) := ⟨rfl, rfl, rfl, by decide +kernel, rfl, by decide +kernel, by decide +kernel⟩
theorem sc_Trial___init__ : FnScope ["self", "hedge"] ["self", "hedge"] (defScope st_Trial___init__) := ⟨rfl, rfl, rfl, by decide +kernel, rfl, by decide +kernel, by decide +kernel⟩
theorem sc_Trial___enter__ : FnScope ["self"] ["self"] (defScope st_Trial___enter__) := ⟨rfl, rfl, rfl, by decide +kernel, rfl, by decide +kernel, by decide +kernel⟩
theorem sc_Trial___exit__ : FnScope ["self", "kind", "value", "trace"] ["self", "kind", "value", "trace"] (defScope st_Trial___exit__) := ⟨rfl, rfl, rfl, by decide +kernel, rfl, by decide +kernel, by decide +kernel⟩
theorem sc_Hedge___init__ : FnScope ["self", "rule", "n"] ["self", "rule", "n"] (defScope st_Hedge___init__) := ⟨rfl, rfl, rfl, by decide +kernel, rfl, by decide +kernel, by decide +kernel⟩
theorem sc_Hedge_turn_to : FnScope ["self", "plants", "words"] ["self", "plants", "words"] (defScope st_Hedge_turn_to) := ⟨rfl, rfl, rfl, by decide +kernel, rfl, by decide +kernel, by decide +kernel⟩
theorem sc_Hedge_plant : FnScope ["self", "kind", "place", "rule", "n", "gaps", "plants", "begin", "gap"] ["self", "kind", "place"] (defScope st_Hedge_plant) := ⟨rfl, rfl, rfl, by decide +kernel, rfl, by decide +kernel, by decide +kernel⟩
theorem sc_Hedge___iadd__ : FnScope ["self", "some", "same", "move"] ["self", "some"] (defScope st_Hedge___iadd__) := ⟨rfl, rfl, rfl, by decide +kernel, rfl, by decide +kernel, by decide +kernel⟩
theorem sc_Hedge_plants : FnScope ["self"] ["self"] (defScope st_Hedge_plants) := ⟨rfl, rfl, rfl, by decide +kernel, rfl, by decide +kernel, by decide +kernel⟩
theorem sc_Hedge_undo : FnScope ["self", "past"] ["self"] (defScope st_Hedge_undo) := ⟨rfl, rfl, rfl, by decide +kernel, rfl, by decide +kernel, by decide +kernel⟩
theorem sc_Hedge_log : GScope ["self", "at", "word"] ["self"] (defScope st_Hedge_log) := ⟨rfl, rfl, rfl, by decide +kernel, rfl, by decide +kernel, by decide +kernel⟩
theorem sc_Hedge___getitem__ : FnScope ["self", "place"] ["self", "place"] (defScope st_Hedge___getitem__) := ⟨rfl, rfl, rfl, by decide +kernel, rfl, by decide +kernel, by decide +kernel⟩
theorem sc_Hedge___len__ : FnScope ["self"] ["self"] (defScope st_Hedge___len__) := ⟨rfl, rfl, rfl, by decide +kernel, rfl, by decide +kernel, by decide +kernel⟩
theorem sc_gaps_of : FnScope ["rule", "n", "plants", "found", "begin", "left", "place", "kind"] ["rule", "n", "plants"] (defScope st_gaps_of) := ⟨rfl, rfl, rfl, by decide +kernel, rfl, by decide +kernel, by decide +kernel⟩
theorem sc_open_gaps : FnScope ["rule", "gaps", "begin", "gap"] ["rule", "gaps"] (defScope st_open_gaps) := ⟨rfl, rfl, rfl, by decide +kernel, rfl, by decide +kernel, by decide +kernel⟩
theorem sc__law_hoe : FnScope ["_law_cell", "_law_salt", "_law_great"] ["_law_cell", "_law_salt"] (defScope st__law_hoe) := ⟨rfl, rfl, rfl, by decide +kernel, rfl, by decide +kernel, by decide +kernel⟩
theorem sc__law_dig : FnScope ["_law_hoe_here", "_law_many", "_law_found", "_law_deep"] ["_law_hoe_here", "_law_many"] (defScope st__law_dig) := ⟨rfl, rfl, rfl, by decide +kernel, rfl, by decide +kernel, by decide +kernel⟩
theorem sc__law_pick : FnScope ["_law_hoe_here", "_law_things"] ["_law_hoe_here", "_law_things"] (defScope st__law_pick) := ⟨rfl, rfl, rfl, by decide +kernel, rfl, by decide +kernel, by decide +kernel⟩
theorem sc__law_kinds : FnScope ["_law_many", "_law_kinds_here", "_law_found", "_law_left", "_law_right"] ["_law_many"] (defScope st__law_kinds) := ⟨rfl, rfl, rfl, by decide +kernel, rfl, by decide +kernel, by decide +kernel⟩
theorem sc__law_rule : FnScope ["_law_hoe_here", "_law_most", "_law_many", "_law_part", "_law_sizes", "_law_pairs", "_law_turn", "_law_kind", "_law_pair"] ["_law_hoe_here", "_law_most"] (defScope st__law_rule) := ⟨rfl, rfl, rfl, by decide +kernel, rfl, by decide +kernel, by decide +kernel⟩
theorem sc__law_int : FnScope ["_law_value", "_law_low", "_law_high"] ["_law_value", "_law_low", "_law_high"] (defScope st__law_int) := ⟨rfl, rfl, rfl, by decide +kernel, rfl, by decide +kernel, by decide +kernel⟩
theorem sc__law_are_pairs : FnScope ["_law_many", "_law_value", "_law_pair"] ["_law_many", "_law_value"] (defScope st__law_are_pairs) := ⟨rfl, rfl, rfl, by decide +kernel, rfl, by decide +kernel, by decide +kernel⟩
theorem sc__law_is_rule : FnScope ["_law_value", "_law_size"] ["_law_value"] (defScope st__law_is_rule) := ⟨rfl, rfl, rfl, by decide +kernel, rfl, by decide +kernel, by decide +kernel⟩
theorem sc__law_odd : FnScope ["_law_hoe_here", "_law_some"] ["_law_hoe_here"] (defScope st__law_odd) := ⟨rfl, rfl, rfl, by decide +kernel, rfl, by decide +kernel, by decide +kernel⟩
theorem sc__law_bent : FnScope ["_law_hoe_here", "_law_value", "_law_at", "_law_way"] ["_law_hoe_here", "_law_value"] (defScope st__law_bent) := ⟨rfl, rfl, rfl, by decide +kernel, rfl, by decide +kernel, by decide +kernel⟩
theorem sc__law_grow : FnScope ["_law_hedge", "_law_some"] ["_law_hedge", "_law_some"] (defScope st__law_grow) := ⟨rfl, rfl, rfl, by decide +kernel, rfl, by decide +kernel, by decide +kernel⟩
theorem sc__law_full_right : FnScope ["_law_every", "_law_hedge", "_law_at"] [] (defScope st__law_full_right) := ⟨rfl, rfl, rfl, by decide +kernel, rfl, by decide +kernel, by decide +kernel⟩
theorem sc_law : FnScope ["_law_script", "_law_cell", "_law_hoe_here", "_law_rule_here", "_law_size", "_law_hedge", "_law_odd_here", "_law_bad"] ["_law_script"] (defScope st_law) := ⟨rfl, rfl, rfl, by decide +kernel, rfl, by decide +kernel, by decide +kernel⟩
abbrev st_TooMany : Stmt := inClass (topS 8) 0
theorem sc_TooMany : FnScope ["self", "limit"] ["self", "limit"] (defScope st_TooMany) := ⟨rfl, rfl, rfl, by decide +kernel, rfl, by decide +kernel, by decide +kernel⟩
theorem ini_TooMany {P : Program} {w : World} {K : PySem.W.Frag} {mg : Str → Option Value} {base : Heap} {Cb fI : Addr} {fd : FuncData} (F : Fun K "__init__" "TooMany.__init__" st_TooMany fI fd) (B : InitC K mg "HedgeError" Cb) : FnOk P w K mg base (L2.CX P w) 1 fI fd ["self", "limit"] (spXI K "limit") :=
  F.okX sc_TooMany (fun vs H Q E ⟨a, C, y, e, _⟩ => by subst e; rfl) fun cdv A outer s H vs Q E hr hsp => ⟨_, pss_cons (ps_expr (pe_cinit (by rfl) B (pa_cons (pv 0) (pa_cons pe_str pa_nil)))) (pss_one (ps_ost (pv 0) (pv 1))), xinit_read hsp⟩
/-- what the top has left -/
structure Txt (K : PySem.W.Frag) (mg : Str → Option Value) (cl : String → Addr) : Prop where
  z_isinstance : mg "isinstance" = none
  z_bool : mg "bool" = none
  z_int : mg "int" = none
  z_len : mg "len" = none
  z_tuple : mg "tuple" = none
  c_END : ∃ tk, mg "END" = some (.int (-1) tk)
  z_all : mg "all" = none
  z_zip : mg "zip" = none
  x_InvalidRule : ExC K mg "InvalidRule" (cl "InvalidRule")
  x_InvalidNumber : ExC K mg "InvalidNumber" (cl "InvalidNumber")
  z_range : mg "range" = none
  k_Trial : ClsI K (cl "Trial") ["hedge", "old"]
  g_Trial : mg "Trial" = some (.ref (cl "Trial"))
  sf_Trial : PySem.W.selfFirst K (cl "Trial") = true
  k_Hedge : ClsI K (cl "Hedge") ["base", "now"]
  g_Hedge : mg "Hedge" = some (.ref (cl "Hedge"))
  sf_Hedge : PySem.W.selfFirst K (cl "Hedge") = true
  c_FEW : ∃ tk, mg "FEW" = some (.int (60) tk)
  c_MOST_HEIGHT : ∃ tk, mg "MOST_HEIGHT" = some (.int (30) tk)
  f_TooMany : XfC K (cl "TooMany")
  g_TooMany : mg "TooMany" = some (.ref (cl "TooMany"))
  x_InvalidMove : ExC K mg "InvalidMove" (cl "InvalidMove")
  z_any : mg "any" = none
  z_sorted : mg "sorted" = none
  x_NothingToUndo : ExC K mg "NothingToUndo" (cl "NothingToUndo")
  z_enumerate : mg "enumerate" = none
  x_InvalidIndex : ExC K mg "InvalidIndex" (cl "InvalidIndex")
  z_list : mg "list" = none
  z_set : mg "set" = none
  x_HedgeError : ExC K mg "HedgeError" (cl "HedgeError")
  n_Hedge_MOST : CInt K (cl "Hedge") "MOST" (30)
  n_TooMany : PySem.W.findIn K (.ref (cl "TooMany")) "limit" = some none
  m_InvalidRule_InvalidMove : PySem.W.exmOne K (.ref (cl "InvalidRule")) (.ref (cl "InvalidMove")) = some false
  m_InvalidNumber_InvalidMove : PySem.W.exmOne K (.ref (cl "InvalidNumber")) (.ref (cl "InvalidMove")) = some false
  m_TooMany_InvalidMove : PySem.W.exmOne K (.ref (cl "TooMany")) (.ref (cl "InvalidMove")) = some false
  m_InvalidMove_InvalidMove : PySem.W.exmOne K (.ref (cl "InvalidMove")) (.ref (cl "InvalidMove")) = some true
  m_NothingToUndo_InvalidMove : PySem.W.exmOne K (.ref (cl "NothingToUndo")) (.ref (cl "InvalidMove")) = some false
  m_InvalidIndex_InvalidMove : PySem.W.exmOne K (.ref (cl "InvalidIndex")) (.ref (cl "InvalidMove")) = some false
  m_HedgeError_InvalidMove : PySem.W.exmOne K (.ref (cl "HedgeError")) (.ref (cl "InvalidMove")) = some false
  m_InvalidRule_InvalidIndex : PySem.W.exmOne K (.ref (cl "InvalidRule")) (.ref (cl "InvalidIndex")) = some false
  m_InvalidNumber_InvalidIndex : PySem.W.exmOne K (.ref (cl "InvalidNumber")) (.ref (cl "InvalidIndex")) = some false
  m_TooMany_InvalidIndex : PySem.W.exmOne K (.ref (cl "TooMany")) (.ref (cl "InvalidIndex")) = some false
  m_InvalidMove_InvalidIndex : PySem.W.exmOne K (.ref (cl "InvalidMove")) (.ref (cl "InvalidIndex")) = some false
  m_NothingToUndo_InvalidIndex : PySem.W.exmOne K (.ref (cl "NothingToUndo")) (.ref (cl "InvalidIndex")) = some false
  m_InvalidIndex_InvalidIndex : PySem.W.exmOne K (.ref (cl "InvalidIndex")) (.ref (cl "InvalidIndex")) = some true
  m_HedgeError_InvalidIndex : PySem.W.exmOne K (.ref (cl "HedgeError")) (.ref (cl "InvalidIndex")) = some false
  m_InvalidRule_InvalidRule : PySem.W.exmOne K (.ref (cl "InvalidRule")) (.ref (cl "InvalidRule")) = some true
  m_InvalidNumber_InvalidRule : PySem.W.exmOne K (.ref (cl "InvalidNumber")) (.ref (cl "InvalidRule")) = some false
  m_TooMany_InvalidRule : PySem.W.exmOne K (.ref (cl "TooMany")) (.ref (cl "InvalidRule")) = some false
  m_InvalidMove_InvalidRule : PySem.W.exmOne K (.ref (cl "InvalidMove")) (.ref (cl "InvalidRule")) = some false
  m_NothingToUndo_InvalidRule : PySem.W.exmOne K (.ref (cl "NothingToUndo")) (.ref (cl "InvalidRule")) = some false
  m_InvalidIndex_InvalidRule : PySem.W.exmOne K (.ref (cl "InvalidIndex")) (.ref (cl "InvalidRule")) = some false
  m_HedgeError_InvalidRule : PySem.W.exmOne K (.ref (cl "HedgeError")) (.ref (cl "InvalidRule")) = some false
  m_InvalidRule_InvalidNumber : PySem.W.exmOne K (.ref (cl "InvalidRule")) (.ref (cl "InvalidNumber")) = some false
  m_InvalidNumber_InvalidNumber : PySem.W.exmOne K (.ref (cl "InvalidNumber")) (.ref (cl "InvalidNumber")) = some true
  m_TooMany_InvalidNumber : PySem.W.exmOne K (.ref (cl "TooMany")) (.ref (cl "InvalidNumber")) = some false
  m_InvalidMove_InvalidNumber : PySem.W.exmOne K (.ref (cl "InvalidMove")) (.ref (cl "InvalidNumber")) = some false
  m_NothingToUndo_InvalidNumber : PySem.W.exmOne K (.ref (cl "NothingToUndo")) (.ref (cl "InvalidNumber")) = some false
  m_InvalidIndex_InvalidNumber : PySem.W.exmOne K (.ref (cl "InvalidIndex")) (.ref (cl "InvalidNumber")) = some false
  m_HedgeError_InvalidNumber : PySem.W.exmOne K (.ref (cl "HedgeError")) (.ref (cl "InvalidNumber")) = some false
  m_InvalidRule_TooMany : PySem.W.exmOne K (.ref (cl "InvalidRule")) (.ref (cl "TooMany")) = some false
  m_InvalidNumber_TooMany : PySem.W.exmOne K (.ref (cl "InvalidNumber")) (.ref (cl "TooMany")) = some false
  m_TooMany_TooMany : PySem.W.exmOne K (.ref (cl "TooMany")) (.ref (cl "TooMany")) = some true
  m_InvalidMove_TooMany : PySem.W.exmOne K (.ref (cl "InvalidMove")) (.ref (cl "TooMany")) = some false
  m_NothingToUndo_TooMany : PySem.W.exmOne K (.ref (cl "NothingToUndo")) (.ref (cl "TooMany")) = some false
  m_InvalidIndex_TooMany : PySem.W.exmOne K (.ref (cl "InvalidIndex")) (.ref (cl "TooMany")) = some false
  m_HedgeError_TooMany : PySem.W.exmOne K (.ref (cl "HedgeError")) (.ref (cl "TooMany")) = some false
  m_InvalidRule_HedgeError : PySem.W.exmOne K (.ref (cl "InvalidRule")) (.ref (cl "HedgeError")) = some true
  m_InvalidNumber_HedgeError : PySem.W.exmOne K (.ref (cl "InvalidNumber")) (.ref (cl "HedgeError")) = some true
  m_TooMany_HedgeError : PySem.W.exmOne K (.ref (cl "TooMany")) (.ref (cl "HedgeError")) = some true
  m_InvalidMove_HedgeError : PySem.W.exmOne K (.ref (cl "InvalidMove")) (.ref (cl "HedgeError")) = some true
  m_NothingToUndo_HedgeError : PySem.W.exmOne K (.ref (cl "NothingToUndo")) (.ref (cl "HedgeError")) = some true
  m_InvalidIndex_HedgeError : PySem.W.exmOne K (.ref (cl "InvalidIndex")) (.ref (cl "HedgeError")) = some true
  m_HedgeError_HedgeError : PySem.W.exmOne K (.ref (cl "HedgeError")) (.ref (cl "HedgeError")) = some true
structure Txw (P : Program) (w : World) (K : PySem.W.Frag) (mg : Str → Option Value) (base : Heap) (cl : String → Addr) : Prop where
  i_TooMany : ExI P w K mg base "TooMany" "limit" (cl "TooMany")
abbrev st__law_word : Stmt := topS 40
theorem sc__law_word : FnScope ["_law_call", "refused"] ["_law_call"] (defScope st__law_word) := ⟨rfl, rfl, rfl, by decide +kernel, rfl, by decide +kernel, by decide +kernel⟩
abbrev hds__law_word (cl : String → Addr) : List ClW := [.word (.ref (cl "InvalidMove")) "move", .word (.ref (cl "InvalidIndex")) "index", .word (.ref (cl "InvalidRule")) "rule", .word (.ref (cl "InvalidNumber")) "number", .fld (.ref (cl "TooMany")) (cl "TooMany") "limit", .word (.ref (cl "HedgeError")) "else"]
theorem gives__law_word {X : Cx} {cl : String → Addr} (T : Txt X.K X.mg cl) {g : Addr} {cdg : Value} {q : Str} : LamX.GivesTo X ["_law_call", "refused"] "_law_word" (defScope st__law_word) g cdg (defBody st__law_word) "_law_call" q (TTwA X.K (hds__law_word cl) "fine") := wordA_gives (i := 1) (by decide) (fun _ => rfl) fun s H => (.one ⟨rfl, by decide, .inl T.x_InvalidMove.g⟩ (fun _ _ _ _ _ _ _ => pss_one (ps_ret pe_str)) (.one ⟨rfl, by decide, .inl T.x_InvalidIndex.g⟩ (fun _ _ _ _ _ _ _ => pss_one (ps_ret pe_str)) (.one ⟨rfl, by decide, .inl T.x_InvalidRule.g⟩ (fun _ _ _ _ _ _ _ => pss_one (ps_ret pe_str)) (.one ⟨rfl, by decide, .inl T.x_InvalidNumber.g⟩ (fun _ _ _ _ _ _ _ => pss_one (ps_ret pe_str)) (.named sc__law_word.nd rfl rfl ⟨rfl, by decide, .inl T.g_TooMany⟩ (fun _ _ _ _ _ hz hf => pss_one (ps_ret (pe_xf T.f_TooMany T.n_TooMany hz hf (pv 1) rfl))) (.one ⟨rfl, by decide, .inl T.x_HedgeError.g⟩ (fun _ _ _ _ _ _ _ => pss_one (ps_ret pe_str)) .nil))))))
theorem e__law_word {X : Cx} {cl : String → Addr} {k : Nat} {c PP : Addr} {params : Arguments} {body : Expr} {scope : Scope} {wb : WE} {p lpos pos : Pos} (T : Txt X.K X.mg cl) (W : ∃ f fd, Fun X.K "_law_word" "_law_word" st__law_word f fd ∧ X.mg "_law_word" = some (.ref f)) (hg : Gl X "_law_word") (TB : LamX.TabB X.base X.mg c PP) (hcode : X.env.code = .ref c) (hmT : (PP, X.env.qual ++ "<lambda>") ∈ TL.T) (hu : ∀ p ∈ TL.T, p.1 = PP → p.2 = X.env.qual ++ "<lambda>") (hr : Room (k + 2) X.A) (L : LamX.LamS X.env.scope scope) (hdef : defaultsOf params X.env = ([], []))
    (hbind : ∀ (q : Str) (cl : List (Str × Addr)) (pm cv ctv : Value), bindArgs (PySem.W.kla_fn "<lambda>" q params body scope cl pm cv ctv) ⟨[], []⟩ = pure [])
    (hbody : ∀ (A : Around) (outer : List Env) (s : Shared) (H : Hp) (E : XK) (f c' : Addr), Room k (A.deeper (LamX.lamEnv X scope s.heap.objs.size f c')) → SE (LamX.lamCx X A outer s H E scope f c') body wb) :
    SE X (.Call (.Name "_law_word" p) [.Lambda params body scope lpos] [] pos) (wLamWA X.K (hds__law_word cl) "fine" wb) := by
  obtain ⟨f, fd, F, hm⟩ := W
  obtain ⟨oc, od, kV, doc, pm, an, cdv, ct, osl, rfl, lk, hcd⟩ := F.ex
  exact e_lamWA hg hm F.kp lk hcd (.all fun us hl => match us, hl with | [_], _ => rfl) sc__law_word rfl (.inl rfl) (gives__law_word T) TB hcode hmT hu hr L hdef hbind hbody
end DL
namespace DL
open PySem PySem.Spec PyProof.Rows L2
def fnL0 : List He.DefD := [ddOf "is_number" st_is_number, ddOf "is_pair" st_is_pair, ddOf "are_pairs" st_are_pairs, ddOf "is_rule_of" st_is_rule_of, ddOf "need_rule" st_need_rule, ddOf "need_number" st_need_number, ddOf "may_touch" st_may_touch, ddOf "can_stand" st_can_stand, ddOf "moves_in" st_moves_in, dmOf "Trial" "__init__" "Trial.__init__" st_Trial___init__, dmOf "Trial" "__enter__" "Trial.__enter__" st_Trial___enter__, dmOf "Trial" "__exit__" "Trial.__exit__" st_Trial___exit__, dmOf "Hedge" "__init__" "Hedge.__init__" st_Hedge___init__, dmOf "Hedge" "turn_to" "Hedge.turn_to" st_Hedge_turn_to, dmOf "Hedge" "plant" "Hedge.plant" st_Hedge_plant, dmOf "Hedge" "__iadd__" "Hedge.__iadd__" st_Hedge___iadd__, dmOf "Hedge" "undo" "Hedge.undo" st_Hedge_undo, dmOf "Hedge" "log" "Hedge.log" st_Hedge_log, dmOf "Hedge" "__getitem__" "Hedge.__getitem__" st_Hedge___getitem__, dmOf "Hedge" "__len__" "Hedge.__len__" st_Hedge___len__, ddOf "gaps_of" st_gaps_of, ddOf "open_gaps" st_open_gaps, ddOf "_law_hoe" st__law_hoe, ddOf "_law_dig" st__law_dig, ddOf "_law_pick" st__law_pick, ddOf "_law_kinds" st__law_kinds, ddOf "_law_rule" st__law_rule, ddOf "_law_int" st__law_int, ddOf "_law_are_pairs" st__law_are_pairs, ddOf "_law_is_rule" st__law_is_rule]
def fnL1 : List He.DefD := [ddOf "_law_odd" st__law_odd, ddOf "_law_bent" st__law_bent, ddOf "_law_word" st__law_word, ddOf "_law_grow" st__law_grow, ddOf "_law_full_right" st__law_full_right, ddOf "law" st_law, dmOf "TooMany" "__init__" "TooMany.__init__" st_TooMany]
def fnL : List He.DefD := fnL0 ++ fnL1
def faL0 : List He.Fa := [.glo "is_number", .glo "is_pair", .glo "are_pairs", .glo "is_rule_of", .glo "need_rule", .glo "need_number", .glo "may_touch", .glo "can_stand", .glo "moves_in", .mkr "Trial", .meth "Trial" "__enter__", .meth "Trial" "__exit__", .mkr "Hedge", .meth "Hedge" "turn_to", .meth "Hedge" "plant", .meth "Hedge" "__iadd__", .meth "Hedge" "undo", .meth "Hedge" "log", .meth "Hedge" "__getitem__", .meth "Hedge" "__len__", .glo "gaps_of", .glo "open_gaps", .glo "_law_hoe", .glo "_law_dig", .glo "_law_pick", .glo "_law_kinds", .glo "_law_rule", .glo "_law_int", .glo "_law_are_pairs", .glo "_law_is_rule"]
def faL1 : List He.Fa := [.glo "_law_odd", .glo "_law_bent", .glo "_law_word", .glo "_law_grow", .glo "_law_full_right", .glo "law", .glo "Trial", .cls "Trial", .noat "Trial" "hedge", .noat "Trial" "old", .glo "Hedge", .cls "Hedge", .noat "Hedge" "base", .noat "Hedge" "now", .free "isinstance", .free "bool", .free "int", .free "len", .free "tuple", .int "END" (-1), .free "all", .free "zip", .glo "InvalidRule", .exc "InvalidRule", .glo "InvalidNumber", .exc "InvalidNumber", .free "range", .int "FEW" (60), .int "MOST_HEIGHT" (30), .glo "TooMany"]
def faL2 : List He.Fa := [.glo "InvalidMove", .exc "InvalidMove", .free "any", .free "sorted", .glo "NothingToUndo", .exc "NothingToUndo", .free "enumerate", .glo "InvalidIndex", .exc "InvalidIndex", .free "list", .free "set", .glo "HedgeError", .exc "HedgeError", .exm "InvalidRule" "InvalidMove" false, .exm "InvalidNumber" "InvalidMove" false, .exm "TooMany" "InvalidMove" false, .exm "InvalidMove" "InvalidMove" true, .exm "NothingToUndo" "InvalidMove" false, .exm "InvalidIndex" "InvalidMove" false, .exm "HedgeError" "InvalidMove" false, .exm "InvalidRule" "InvalidIndex" false, .exm "InvalidNumber" "InvalidIndex" false, .exm "TooMany" "InvalidIndex" false, .exm "InvalidMove" "InvalidIndex" false, .exm "NothingToUndo" "InvalidIndex" false, .exm "InvalidIndex" "InvalidIndex" true, .exm "HedgeError" "InvalidIndex" false, .exm "InvalidRule" "InvalidRule" true, .exm "InvalidNumber" "InvalidRule" false, .exm "TooMany" "InvalidRule" false]
def faL3 : List He.Fa := [.exm "InvalidMove" "InvalidRule" false, .exm "NothingToUndo" "InvalidRule" false, .exm "InvalidIndex" "InvalidRule" false, .exm "HedgeError" "InvalidRule" false, .exm "InvalidRule" "InvalidNumber" false, .exm "InvalidNumber" "InvalidNumber" true, .exm "TooMany" "InvalidNumber" false, .exm "InvalidMove" "InvalidNumber" false, .exm "NothingToUndo" "InvalidNumber" false, .exm "InvalidIndex" "InvalidNumber" false, .exm "HedgeError" "InvalidNumber" false, .exm "InvalidRule" "TooMany" false, .exm "InvalidNumber" "TooMany" false, .exm "TooMany" "TooMany" true, .exm "InvalidMove" "TooMany" false, .exm "NothingToUndo" "TooMany" false, .exm "InvalidIndex" "TooMany" false, .exm "HedgeError" "TooMany" false, .exm "InvalidRule" "HedgeError" true, .exm "InvalidNumber" "HedgeError" true, .exm "TooMany" "HedgeError" true, .exm "InvalidMove" "HedgeError" true, .exm "NothingToUndo" "HedgeError" true, .exm "InvalidIndex" "HedgeError" true, .exm "HedgeError" "HedgeError" true]
def faL : List He.Fa := faL0 ++ faL1 ++ faL2 ++ faL3
def tfL0 : List He.Defn := [("_law_full_right", none), ("law", none)]
def tfL : List He.Defn := tfL0
def looseL0 : List Str := ["_wall", "HedgeError", "InvalidRule", "InvalidNumber", "InvalidMove", "InvalidIndex", "NothingToUndo", "TooMany", "FEW", "END", "is_number", "is_pair", "are_pairs", "is_rule_of", "need_rule", "need_number", "may_touch", "can_stand", "moves_in", "MOST_HEIGHT", "Trial", "Hedge", "gaps_of", "open_gaps", "kind_at", "place_sign", "_law_hoe", "_law_dig", "_law_pick", "_law_kinds"]
def looseL1 : List Str := ["_law_rule", "_law_int", "_law_are_pairs", "_law_is_rule", "_law_odd", "_law_bent", "_law_word", "_law_grow", "_law_full_right"]
def looseL : List Str := looseL0 ++ looseL1
def gnL0 : List GetT := [("Hedge", "plants", ⟨("Hedge", none), "plants", "Hedge.plants", defArgs st_Hedge_plants, defBody st_Hedge_plants, defScope st_Hedge_plants, [], []⟩)]
def gnL : List GetT := gnL0
def tsL : List He.Tab := []
def exB (K : PySem.W.Frag) : Bool := ndTab tfL K && (exiB K (He.ga K "TooMany") (He.ma K (He.ga K "TooMany") "__init__") "limit" && (cinB K (He.ga K "HedgeError") && (xfB K (He.ga K "TooMany") && (PySem.W.selfFirst K (He.ga K "Trial") && (PySem.W.selfFirst K (He.ga K "Hedge") && (conIB K "Hedge" "MOST" (30) && (propB K "Hedge" "plants" && (okA K (gA K "Hedge" "plants") (("Hedge", "plants", ⟨("Hedge", none), "plants", "Hedge.plants", defArgs st_Hedge_plants, defBody st_Hedge_plants, defScope st_Hedge_plants, [], []⟩) : GetT).2.2))))))))
abbrev hkX : PySem.W.Hook := hookZ 6 faL fnL tsL tfL exB gnL
def obX (s : PySem.W.SharedT) : He.AlX × List He.FnW := obsZ 6 faL fnL tsL tfL exB gnL (HandSHeadRun.getT s)
theorem obX_eq (s : PySem.W.SharedT) : obX s = hkX.obs s.abs := obsZ_eq (HandSHeadRun.getT_eq s)
theorem runX (w : World) : HandSHeadRun.RunEq (PySem.W.OpenLaw.row PySem.Challenge.rw_hedgeworths_k16_refused_at_hedges) (PySem.W.view (PySem.W.OpenLaw.row PySem.Challenge.rw_hedgeworths_k16_refused_at_hedges).prog [43]) hkX obX 9000 looseL w := by
  intro os
  kernel_rfl
end DL
namespace DL
open PySem PySem.Spec PyProof.Rows L2
variable [TL : TabList]
/-! ### plain law: rules as data -/
def isNum (d : D) (lo hi : Int) : Bool := match d with
  | .int i => decide (lo ≤ i) && decide (i ≤ hi)
  | _ => false
theorem isNum_iff {d : D} {lo hi : Int} : isNum d lo hi = true ↔ ∃ i, d = .int i ∧ lo ≤ i ∧ i ≤ hi := by
  cases d <;> simp [isNum]
def isPairD (many : Int) (v : D) : Bool := match v with
  | .tup [a, b] => isNum a (-1) (many - 1) && isNum b (-1) (many - 1) && !eqv (.tup [a, b]) (.tup [.int (-1), .int (-1)])
  | _ => false
def ltP (x y : D) : Bool := match x, y with
  | .tup [.int a, .int b], .tup [.int c, .int d] => HT.lexLt [a, b] [c, d]
  | _, _ => false
def ascD : List D → Bool
  | x :: y :: r => ltP x y && ascD (y :: r)
  | _ => true
def arePairsD (many : Int) (v : D) : Bool := match v with
  | .tup l => l.all (isPairD many) && ascD l
  | _ => false
def isRule3 (x b a : D) : Bool := match x with
  | .tup s => decide (1 ≤ s.length) && decide (s.length ≤ 2) && s.all (fun z => isNum z 1 2) && (arePairsD s.length b && arePairsD s.length a)
  | _ => false
def isRuleD (v : D) : Bool := match v with
  | .tup [x, b, a] => isRule3 x b a
  | _ => false
def isGapD (many : Int) (v : D) (most : Int) : Bool := match v with
  | .tup [n, l, r] => isNum n 0 most && (isNum l (-1) (many - 1) && isNum r (-1) (many - 1))
  | _ => false
theorem laid_tup {l : List D} : laid (.tup l) = laidL l := by simp [laid]
theorem laid_lst {l : List D} : laid (.lst l) = laidL l := by simp [laid]
theorem laid_int {i : Int} : laid (.int i) = true := by simp [laid]
theorem laidL_cons {x : D} {l : List D} : laidL (x :: l) = (laid x && laidL l) := by simp [laidL]
theorem laidL_nil : laidL [] = true := by simp [laidL]
theorem dep_int {i : Int} : dep (.int i) = 0 := by simp [dep]
theorem laidL_at {l : List D} (h : laidL l = true) {i : Nat} {d : D} (e : l[i]? = some d) : laid d = true := laidL_mem h d (List.mem_of_getElem? e)
theorem len2 {α : Type} {l : List α} (h : l.length = 2) : ∃ a b, l = [a, b] := by
  match l, h with
  | [a, b], _ => exact ⟨a, b, rfl⟩
theorem len3 {α : Type} {l : List α} (h : l.length = 3) : ∃ a b c, l = [a, b, c] := by
  match l, h with
  | [a, b, c], _ => exact ⟨a, b, c, rfl⟩
theorem len2i {l : List D} (h : ((l.length : Nat) : Int) = 2) : ∃ a b, l = [a, b] := len2 (by omega)
theorem len3i {l : List D} (h : ((l.length : Nat) : Int) = 3) : ∃ a b c, l = [a, b, c] := len3 (by omega)
theorem le_line {n : Nat} (h : n ≤ 1000000) : n ≤ sizeLine := by rw [sizeLine_eq]; omega
theorem okEq_r {x y : D} (h1 : laid x = true) (h2 : laid y = true) (h3 : dep y ≤ 60) : okEq x y := ⟨h1, h2, Nat.le_trans (Nat.min_le_right _ _) h3⟩
theorem okEq_l {x y : D} (h1 : laid x = true) (h2 : laid y = true) (h3 : dep x ≤ 60) : okEq x y := ⟨h1, h2, Nat.le_trans (Nat.min_le_left _ _) h3⟩
theorem isPairD_len {many : Int} {l : List D} (h : l.length ≠ 2) : isPairD many (.tup l) = false := by
  match l, h with
  | [], _ => rfl
  | [_], _ => rfl
  | _ :: _ :: _ :: _, _ => rfl
  | [_, _], h => exact absurd rfl h
/-! ### loops in short -/
theorem lc_fm {t : Tg} {tt : WT} {te : WE} {sd : SD} {k : List D → Mm → Prop} {M : Mm} (p : D → Bool) (f : D → D) : ∀ {xs : List D} {acc : List D},
    (∀ x ∈ xs, ∀ (K1 : KE) (K2 : Mm → Prop), (p x = true → K1 (f x) M) → (p x = false → K2 M) → bindTg t x sd fun sd' => tt sd' M (fun b M2 => sel b (te sd' M2 K1 kxF) (K2 M2)) kxF) →
    k (acc ++ (xs.filter p).map f) M → wLcL t tt te sd k xs acc M
  | [], acc, _, hk => by rw [List.filter_nil, List.map_nil, List.append_nil] at hk; exact hk
  | x :: xs, acc, h, hk => by
    rw [wLcL_cons]
    refine h x List.mem_cons_self _ _ (fun hp => ?_) fun hp => ?_
    · refine lc_fm p f (fun y hy => h y (List.mem_cons_of_mem _ hy)) ?_
      rw [List.filter_cons, if_pos hp, List.map_cons] at hk
      rw [List.append_assoc]
      exact hk
    · refine lc_fm p f (fun y hy => h y (List.mem_cons_of_mem _ hy)) ?_
      rw [List.filter_cons, if_neg (by rw [hp]; exact Bool.false_ne_true)] at hk
      exact hk
theorem lc_map {t : Tg} {te : WE} {sd : SD} {k : List D → Mm → Prop} {M : Mm} (f : D → D) {xs : List D} {acc : List D}
    (h : ∀ x ∈ xs, ∀ K1 : KE, K1 (f x) M → bindTg t x sd fun sd' => te sd' M K1 kxF) (hk : k (acc ++ xs.map f) M) : wLcL t wYes te sd k xs acc M := by
  refine lc_fm (fun _ => true) f (fun x hx K1 K2 h1 _ => ?_) (by rw [List.filter_eq_self.mpr (fun _ _ => rfl)]; exact hk)
  have z := h x hx K1 (h1 rfl)
  cases t with
  | one i => exact ⟨z⟩
  | many is =>
    cases x with
    | tup ds => exact fitN_imp z fun z => ⟨z⟩
    | _ => exact z
where
  fitN_imp : ∀ {is : List Nat} {ds : List D} {P Q : Prop}, fitN is ds P → (P → Q) → fitN is ds Q
    | [], [], _, _, h, i => i h
    | _ :: is, _ :: ds, _, _, h, i => fitN_imp (is := is) (ds := ds) h i
    | [], _ :: _, _, _, h, _ => h
    | _ :: _, [], _, _, h, _ => h
theorem for_inv {t : Tg} {s : WS} {ED : EndsD} (I : List D → SD → Mm → Prop)
    (hs : ∀ x r sd M (N : SD → Mm → Prop), (∀ sd M, I r sd M → N sd M) → I (x :: r) sd M → bindTg t x sd fun sd' => s { ED with nx := N, ct := N, bk := ED.nx } sd' M)
    (hd : ∀ sd M, I [] sd M → ED.nx sd M) : ∀ xs sd M, I xs sd M → wForL t s ED xs sd M
  | [], sd, M, h => hd sd M h
  | x :: xs, sd, M, h => hs x xs sd M _ (fun sd M h => for_inv I hs hd xs sd M h) h
theorem cut_from {α : Type} (l : List α) (n : Nat) : cutD l (some (n : Int)) none = l.drop n := by
  unfold cutD
  rw [HT.sIx_nat, HT.sIx_none]
  by_cases h : n ≤ l.length
  · rw [Nat.min_eq_left h, List.take_of_length_le (by rw [List.length_drop]; omega)]
  · rw [Nat.min_eq_right (by omega), List.drop_eq_nil_of_le (Nat.le_refl _), List.drop_eq_nil_of_le (by omega)]; simp
theorem cut_to {α : Type} (l : List α) (n : Nat) : cutD l none (some (n : Int)) = l.take n := by
  unfold cutD
  rw [HT.sIx_nat, HT.sIx_none, List.drop_zero, Nat.sub_zero]
  by_cases h : n ≤ l.length
  · rw [Nat.min_eq_left h]
  · rw [Nat.min_eq_right (by omega), List.take_of_length_le (Nat.le_refl _), List.take_of_length_le (by omega)]
theorem cut_1 {α : Type} (l : List α) : cutD l (some 1) none = l.drop 1 := cut_from l 1
theorem map_bl {α : Type} (l : List α) (f : α → Bool) : l.map (fun x => D.bl (f x)) = (l.map f).map D.bl := by rw [List.map_map]; rfl
theorem all_id_map {α : Type} (l : List α) (f : α → Bool) : (l.map f).all id = l.all f := by rw [List.all_map]; rfl
theorem any_id_map {α : Type} (l : List α) (f : α → Bool) : (l.map f).any id = l.any f := by rw [List.any_map]; rfl
/-! ### pairs -/
theorem isPairD_shape {many : Int} {v : D} (h : isPairD many v = true) : ∃ a b, v = .tup [.int a, .int b] ∧ -1 ≤ a ∧ a ≤ many - 1 ∧ -1 ≤ b ∧ b ≤ many - 1 ∧ (a, b) ≠ (-1, -1) := by
  match v, h with
  | .tup [x, y], h =>
    simp only [isPairD, Bool.and_eq_true, Bool.not_eq_true', isNum_iff] at h
    obtain ⟨⟨⟨a, rfl, a1, a2⟩, b, rfl, b1, b2⟩, h3⟩ := h
    refine ⟨a, b, rfl, a1, a2, b1, b2, fun e => ?_⟩
    cases e
    simp [eqv, eqvL] at h3
def ltZ : D → Bool
  | .tup [x, y] => ltP x y
  | _ => false
theorem zip_asc : ∀ l : List D, ((zipD l (l.drop 1)).all ltZ) = ascD l
  | [] => rfl
  | [_] => rfl
  | x :: y :: r => by
    have ih := zip_asc (y :: r)
    simp only [List.drop_succ_cons, List.drop_zero, zipD, List.all_cons, ascD, ltZ] at ih ⊢
    rw [ih]
theorem zip_mem : ∀ {l m : List D} {z : D}, z ∈ zipD l m → ∃ x y, z = .tup [x, y] ∧ x ∈ l ∧ y ∈ m
  | [], _, _, h => by simp [zipD] at h
  | _ :: _, [], _, h => by simp [zipD] at h
  | x :: l, y :: m, z, h => by
    simp only [zipD, List.mem_cons] at h
    rcases h with rfl | h
    · exact ⟨x, y, rfl, List.mem_cons_self, List.mem_cons_self⟩
    · obtain ⟨a, b, e, ha, hb⟩ := zip_mem h
      exact ⟨a, b, e, List.mem_cons_of_mem _ ha, List.mem_cons_of_mem _ hb⟩
/-! ### ranges -/
theorem rngD_get {lo : Int} {n i : Nat} (h : i < n) : (rngD lo n)[i]? = some (.int (lo + i)) := by
  unfold rngD
  rw [List.getElem?_map, List.getElem?_range h]
  rfl
theorem rngD_len (lo : Int) (n : Nat) : (rngD lo n).length = n := by simp [rngD]
theorem rngD_mem {lo : Int} {n : Nat} {x : D} (h : x ∈ rngD lo n) : ∃ i : Nat, i < n ∧ x = .int (lo + i) := by
  unfold rngD at h
  obtain ⟨i, hi, rfl⟩ := List.mem_map.mp h
  exact ⟨i, by simpa using hi, rfl⟩
theorem rngD_fm (lo : Int) (n : Nat) (p : D → Bool) (f : D → D) : ((rngD lo n).filter p).map f = ((List.range n).filter fun (i : Nat) => p (.int (lo + i))).map fun (i : Nat) => f (.int (lo + i)) := by
  unfold rngD
  rw [List.filter_map, List.map_map]
  rfl
theorem rngD_map (lo : Int) (n : Nat) (f : D → D) : (rngD lo n).map f = (List.range n).map fun (i : Nat) => f (.int (lo + i)) := by
  unfold rngD
  rw [List.map_map]
  rfl
theorem rngD_drop {lo : Int} {n j : Nat} (h : j < n) : (rngD lo n).drop j = .int (lo + j) :: (rngD lo n).drop (j + 1) := by
  have e := List.drop_eq_getElem_cons (l := rngD lo n) (i := j) (by rw [rngD_len]; exact h)
  rw [e]
  congr 1
  have := rngD_get (lo := lo) h
  rw [List.getElem?_eq_getElem (by rw [rngD_len]; exact h)] at this
  exact Option.some.inj this
theorem for_rng {t : Tg} {s : WS} {ED : EndsD} {lo : Int} {n : Nat} {sd : SD} {M : Mm} (I : Nat → SD → Mm → Prop) (h0 : I 0 sd M)
    (hs : ∀ i sd M (N : SD → Mm → Prop), i < n → (∀ sd M, I (i + 1) sd M → N sd M) → I i sd M → bindTg t (.int (lo + i)) sd fun sd' => s { ED with nx := N, ct := N, bk := ED.nx } sd' M)
    (hd : ∀ sd M, I n sd M → ED.nx sd M) : wForL t s ED (rngD lo n) sd M := by
  refine for_inv (fun r sd M => ∃ j, r = (rngD lo n).drop j ∧ j ≤ n ∧ I j sd M) (fun x r sd M N hN ⟨j, e, hj, h⟩ => ?_) (fun sd M ⟨j, e, hj, h⟩ => ?_) _ _ _ ⟨0, rfl, Nat.zero_le _, h0⟩
  · by_cases hlt : j < n
    · rw [rngD_drop hlt] at e
      cases e
      exact hs j sd M N hlt (fun sd M h => hN sd M ⟨j + 1, rfl, hlt, h⟩) h
    · have : (rngD lo n).drop j = [] := List.drop_eq_nil_of_le (by rw [rngD_len]; omega)
      rw [this] at e; cases e
  · by_cases hlt : j < n
    · rw [rngD_drop hlt] at e; cases e
    · have e2 : j = n := by omega
      subst e2
      exact hd sd M h
theorem atI_int {l : List Int} {i : Nat} (h : i < l.length) : atI (l.map D.int) (i : Int) = some (.int (l.getD i 0)) := by
  have e : (l.map D.int)[i]? = some (.int (l.getD i 0)) := by
    rw [List.getElem?_map, List.getElem?_eq_getElem h, List.getD_eq_getElem?_getD, List.getElem?_eq_getElem h]; rfl
  exact atI_nat e
/-! ### rules -/
structure Ru where
  sz : List Int
  be : List (Int × Int)
  ap : List (Int × Int)
def pD (p : Int × Int) : D := .tup [.int p.1, .int p.2]
@[reducible] def Ru.D (r : Ru) : D := .tup [.tup (r.sz.map D.int), .tup (r.be.map pD), .tup (r.ap.map pD)]
theorem eqv_pD (p q : Int × Int) : eqv (pD p) (pD q) = decide (p = q) := by
  obtain ⟨a, b⟩ := p
  obtain ⟨c, d⟩ := q
  simp [pD, eqv, eqvL, Bool.and_comm, Bool.beq_eq_decide_eq]
theorem any_pD (l : List (Int × Int)) (q : Int × Int) : ((l.map pD).any fun z => eqv z (pD q)) = decide (q ∈ l) := by
  rw [List.any_map]
  induction l with
  | nil => simp
  | cons a l ih =>
    simp only [List.any_cons, ih, Function.comp, eqv_pD, List.mem_cons]
    by_cases h1 : q = a
    · subst h1; simp
    · have : a ≠ q := fun e => h1 e.symm
      simp [h1, this]
theorem laid_pD (p : Int × Int) : laid (pD p) = true := by simp [pD, laid, laidL]
theorem laidL_pDs (l : List (Int × Int)) : laidL (l.map pD) = true := laidL_map pD laid_pD l
theorem laidL_ints (l : List Int) : laidL (l.map D.int) = true := laidL_map D.int (fun _ => by simp [laid]) l
theorem dep_pD (p : Int × Int) : dep (pD p) = 1 := by simp [pD, dep, depL]
theorem okIn_p (q : Int × Int) (l : List (Int × Int)) : okIn (pD q) (l.map pD) := ⟨laid_pD q, laidL_pDs l, Nat.le_trans (Nat.min_le_right _ _) (by rw [dep_pD]; decide)⟩
/-- whether two may stand with p bare places between -/
def touch (r : Ru) (p a b : Int) : Bool := if p = 0 then decide ((a, b) ∈ r.be) else decide (1 < p) || decide ((a, b) ∈ r.ap)
def canS (r : Ru) (n a b : Int) (kind : Nat) (place : Int) : Bool :=
  if place < 0 ∨ n - r.sz.getD kind 0 - place < 0 then false else touch r place a kind && touch r (n - r.sz.getD kind 0 - place) kind b
def movesOf (r : Ru) (n : Nat) (a b : Int) (kind : Nat) : List (Int × Int) := ((List.range n).filter fun (p : Nat) => canS r n a b kind p).map fun (p : Nat) => ((kind : Int), (p : Int))
def movesL (r : Ru) (n : Nat) (a b : Int) : Nat → List (Int × Int)
  | 0 => []
  | k + 1 => movesL r n a b k ++ movesOf r n a b k
theorem movesOf_len (r : Ru) (n : Nat) (a b : Int) (k : Nat) : (movesOf r n a b k).length ≤ n := by
  unfold movesOf
  rw [List.length_map]
  exact Nat.le_trans (List.length_filter_le _ _) (by simp)
theorem movesL_len (r : Ru) (n : Nat) (a b : Int) : ∀ k, (movesL r n a b k).length ≤ k * n
  | 0 => by simp [movesL]
  | k + 1 => by
    have h1 := movesL_len r n a b k
    have h2 := movesOf_len r n a b k
    simp only [movesL, List.length_append]
    rw [Nat.succ_mul]
    omega
@[reducible] def gD (n a b : Int) : D := .tup [.int n, .int a, .int b]
theorem isNum_pos {i lo hi : Int} : isNum (.int i) lo hi = true ↔ lo ≤ i ∧ i ≤ hi := by simp [isNum]
theorem Le.tell {M M' : Mm} {q : Addr} {o : O} (l : Le M M') (h : M' q = some o) : Le (DL.put M q o) M' := fun b u e => by
  by_cases hb : b = q
  · subst hb; rw [put_same] at e; cases e; exact h
  · rw [put_ne hb] at e; exact l b u e
/-- a word about the number of it -/
@[reducible] def pI (f : Int → Bool) : D → Bool
  | .int p => f p
  | _ => false
theorem isPairs_shape {many : Int} : ∀ {l : List D}, l.all (isPairD many) = true → ∃ ps : List (Int × Int), l = ps.map pD
  | [], _ => ⟨[], rfl⟩
  | v :: l, h => by
    rw [List.all_cons, Bool.and_eq_true] at h
    obtain ⟨a, b, rfl, _⟩ := isPairD_shape h.1
    obtain ⟨ps, rfl⟩ := isPairs_shape h.2
    exact ⟨(a, b) :: ps, rfl⟩
theorem arePairs_shape {many : Int} {v : D} (h : arePairsD many v = true) : ∃ ps : List (Int × Int), v = .tup (ps.map pD) := by
  cases v with
  | tup l =>
    simp only [arePairsD, Bool.and_eq_true] at h
    obtain ⟨ps, rfl⟩ := isPairs_shape h.1
    exact ⟨ps, rfl⟩
  | _ => simp [arePairsD] at h
theorem isNums_shape {lo hi : Int} : ∀ {l : List D}, l.all (fun z => isNum z lo hi) = true → ∃ ns : List Int, l = ns.map D.int ∧ ∀ n ∈ ns, lo ≤ n ∧ n ≤ hi
  | [], _ => ⟨[], rfl, fun _ h => by cases h⟩
  | v :: l, h => by
    rw [List.all_cons, Bool.and_eq_true] at h
    obtain ⟨i, rfl, h1, h2⟩ := isNum_iff.mp h.1
    obtain ⟨ns, rfl, hn⟩ := isNums_shape h.2
    refine ⟨i :: ns, rfl, fun n hn' => ?_⟩
    rcases List.mem_cons.mp hn' with rfl | hn'
    · exact ⟨h1, h2⟩
    · exact hn n hn'
theorem isRule_shape {v : D} (h : isRuleD v = true) : ∃ r : Ru, v = r.D ∧ 1 ≤ r.sz.length ∧ r.sz.length ≤ 2 ∧ (∀ n ∈ r.sz, 1 ≤ n ∧ n ≤ 2) := by
  match v, h with
  | .tup [x, b, a], h =>
    simp only [isRuleD] at h
    have hx : ∃ s, x = .tup s := by
      cases x with
      | tup s => exact ⟨s, rfl⟩
      | _ => simp [isRule3] at h
    obtain ⟨s, rfl⟩ := hx
    simp only [isRule3, Bool.and_eq_true, decide_eq_true_eq] at h
    obtain ⟨⟨⟨h1, h2⟩, h3⟩, hb, ha⟩ := h
    obtain ⟨ns, rfl, hn⟩ := isNums_shape h3
    obtain ⟨pb, rfl⟩ := arePairs_shape hb
    obtain ⟨pa, rfl⟩ := arePairs_shape ha
    exact ⟨⟨ns, pb, pa⟩, rfl, by simpa using h1, by simpa using h2, hn⟩
theorem map_inj {α β : Type} {f : α → β} (hf : ∀ a b, f a = f b → a = b) : ∀ {l m : List α}, l.map f = m.map f → l = m
  | [], [], _ => rfl
  | [], _ :: _, h => by cases h
  | _ :: _, [], h => by cases h
  | a :: l, b :: m, h => by
    rw [List.map_cons, List.map_cons] at h
    have h1 := List.cons.inj h
    rw [hf a b h1.1, map_inj hf h1.2]
theorem pD_inj (a b : Int × Int) (h : pD a = pD b) : a = b := by
  obtain ⟨a1, a2⟩ := a
  obtain ⟨b1, b2⟩ := b
  simp [pD] at h
  rw [h.1, h.2]
theorem RuD_inj {r t : Ru} (h : r.D = t.D) : r = t := by
  obtain ⟨a, b, c⟩ := r
  obtain ⟨a', b', c'⟩ := t
  simp only [Ru.D, D.tup.injEq, List.cons.injEq, and_true] at h
  rw [map_inj (fun a b h => by cases h; rfl) h.1, map_inj pD_inj h.2.1, map_inj pD_inj h.2.2]
theorem laid_RuD (r : Ru) : laid r.D = true := by simp [laid, laidL, laidL_ints, laidL_pDs]
theorem isGap_shape {m mo : Int} {v : D} (h : isGapD m v mo = true) : ∃ (n : Nat) (a b : Int), v = gD n a b ∧ n ≤ mo ∧ -1 ≤ a ∧ a ≤ m - 1 ∧ -1 ≤ b ∧ b ≤ m - 1 := by
  match v, h with
  | .tup [x, y, z], h =>
    simp only [isGapD, Bool.and_eq_true, isNum_iff] at h
    obtain ⟨⟨n, rfl, h1, h2⟩, ⟨a, rfl, h3, h4⟩, b, rfl, h5, h6⟩ := h
    refine ⟨n.toNat, a, b, ?_, by omega, h3, h4, h5, h6⟩
    have : ((n.toNat : Nat) : Int) = n := by omega
    rw [this]
theorem gD_inj {n a b m c d : Int} (h : gD n a b = gD m c d) : n = m ∧ a = c ∧ b = d := by
  simp [gD] at h; exact h
/-- a rule or a word why not -/
def RuleOr (v : D) (no : Prop) (yes : Ru → Prop) : Prop := (isRuleD v = false → no) ∧ (isRuleD v = true → ∀ r : Ru, v = r.D → 1 ≤ r.sz.length → r.sz.length ≤ 2 → (∀ n ∈ r.sz, 1 ≤ n ∧ n ≤ 2) → yes r)
theorem RuleOr.yes {v : D} {no : Prop} {yes : Ru → Prop} (h : RuleOr v no yes) (e : isRuleD v = true) : ∃ r : Ru, v = r.D ∧ 1 ≤ r.sz.length ∧ r.sz.length ≤ 2 ∧ (∀ n ∈ r.sz, 1 ≤ n ∧ n ≤ 2) ∧ yes r := by
  obtain ⟨r, e2, h1, h2, h3⟩ := isRule_shape e
  exact ⟨r, e2, h1, h2, h3, h.2 e r e2 h1 h2 h3⟩
def GapOr (r : Ru) (v : D) (most : Int) (no : Prop) (yes : Nat → Int → Int → Prop) : Prop := (isGapD r.sz.length v most = false → no) ∧ (isGapD r.sz.length v most = true → ∀ (n : Nat) (a b : Int), v = gD n a b → n ≤ most → yes n a b)
theorem GapOr.yes {r : Ru} {v : D} {most : Int} {no : Prop} {yes : Nat → Int → Int → Prop} (h : GapOr r v most no yes) (e : isGapD r.sz.length v most = true) : ∃ (n : Nat) (a b : Int), v = gD n a b ∧ n ≤ most ∧ yes n a b := by
  obtain ⟨n, a, b, e2, h1, _⟩ := isGap_shape e
  exact ⟨n, a, b, e2, h1, h.2 e n a b e2 h1⟩
/-! ### what is dug -/
@[reducible] def hoeO (g t : Int) : O := .lst [.int g, .int t]
def Hoe (a : Addr) (M : Mm) : Prop := ∃ g t, M a = some (hoeO g t) ∧ 0 ≤ t ∧ t < 2147483648
/-- one digs -/
def Dug (a : Addr) (M M' : Mm) : Prop := ∃ g t, M' = put M a (hoeO g t) ∧ 0 ≤ t ∧ t < 2147483648
/-- one digs, and more may be told -/
def Dig (a : Addr) (M M' : Mm) : Prop := Hoe a M' ∧ ∀ b, b ≠ a → ∀ o, M b = some o → M' b = some o
theorem Dug.hoe {a : Addr} {M M' : Mm} (h : Dug a M M') : Hoe a M' := by obtain ⟨g, t, rfl, h1, h2⟩ := h; exact ⟨g, t, put_same, h1, h2⟩
theorem Dug.ne {a b : Addr} {M M' : Mm} (h : Dug a M M') (hb : b ≠ a) : M' b = M b := by obtain ⟨g, t, rfl, h1, h2⟩ := h; exact put_ne hb
theorem Dug.trans {a : Addr} {M M1 M2 : Mm} (h : Dug a M M1) (h2 : Dug a M1 M2) : Dug a M M2 := by
  obtain ⟨g, t, rfl, _⟩ := h
  obtain ⟨g', t', rfl, h1⟩ := h2
  exact ⟨g', t', put_put, h1⟩
theorem Dug.dig {a : Addr} {M M' : Mm} (h : Dug a M M') : Dig a M M' := ⟨h.hoe, fun b hb o e => by rw [h.ne hb]; exact e⟩
theorem Dig.refl {a : Addr} {M : Mm} (h : Hoe a M) : Dig a M M := ⟨h, fun _ _ _ e => e⟩
theorem Dig.trans {a : Addr} {M M1 M2 : Mm} (h : Dig a M M1) (h2 : Dig a M1 M2) : Dig a M M2 := ⟨h2.1, fun b hb o e => h2.2 b hb o (h.2 b hb o e)⟩
theorem Dig.dug {a : Addr} {M M1 M2 : Mm} (h : Dig a M M1) (h2 : Dug a M1 M2) : Dig a M M2 := h.trans h2.dig
theorem Hoe.ne {a q : Addr} {M : Mm} (h : Hoe a M) (e : M q = none) : q ≠ a := fun z => by
  obtain ⟨g, t, e1, _⟩ := h
  rw [z, e1] at e; cases e
theorem Dig.none {a q : Addr} {M M1 : Mm} (h : Dig a M M1) (e : M1 q = none) : M q = none := by
  have hq := h.1.ne e
  cases z : M q with
  | none => rfl
  | some o => rw [h.2 q hq o z] at e; cases e
/-- a new thing beside it -/
theorem Dig.put {a q : Addr} {M M1 : Mm} {o : O} (h : Dig a M M1) (hq : q ≠ a) (e : M q = Option.none) : Dig a M (DL.put M1 q o) := by
  refine ⟨?_, fun b hb u z => ?_⟩
  · obtain ⟨g, t, e1, h1⟩ := h.1
    exact ⟨g, t, by rw [put_ne (Ne.symm hq)]; exact e1, h1⟩
  · have hne : b ≠ q := fun y => by rw [y, e] at z; cases z
    rw [put_ne hne]; exact h.2 b hb u z
theorem Dig.new {a q : Addr} {M M1 : Mm} {o : O} (h : Dig a M M1) (e : M1 q = Option.none) : Dig a M (DL.put M1 q o) := h.put (h.1.ne e) (h.none e)
/-- at the end -/
theorem Dig.out {a : Addr} {M M1 : Mm} (h : Dig a M M1) : ∃ M0, Dug a M M0 ∧ Le M0 M1 := by
  obtain ⟨g, t, e1, h1⟩ := h.1
  refine ⟨DL.put M a (hoeO g t), ⟨g, t, rfl, h1⟩, fun b o e => ?_⟩
  by_cases hb : b = a
  · subst hb; rw [put_same] at e; cases e; exact e1
  · rw [put_ne hb] at e; exact h.2 b hb o e
/-- a comprehension by a word of one's own -/
theorem lc_inv {t : Tg} {tt : WT} {te : WE} {sd : SD} {k : List D → Mm → Prop} (I : List D → List D → Mm → Prop)
    (hs : ∀ x r acc M (N : List D → Mm → Prop), (∀ acc M, I r acc M → N acc M) → I (x :: r) acc M → bindTg t x sd fun sd' => tt sd' M (fun b M2 => sel b (te sd' M2 (fun d M3 => N (acc ++ [d]) M3) kxF) (N acc M2)) kxF)
    (hd : ∀ acc M, I [] acc M → k acc M) : ∀ xs acc M, I xs acc M → wLcL t tt te sd k xs acc M
  | [], acc, M, h => hd acc M h
  | x :: xs, acc, M, h => hs x xs acc M _ (fun acc M h => lc_inv I hs hd xs acc M h) h
/-! ### side words of the walk -/
theorem sd_mulR {i j : Int} {A : Prop} (h1 : decide (-(2 ^ 64) < j ∧ j < 2 ^ 64) = true) (h : A) : CMul i j ∧ A := ⟨.inr (of_decide_eq_true h1), h⟩
theorem sd_mulL {i j : Int} {A : Prop} (h1 : decide (-(2 ^ 64) < i ∧ i < 2 ^ 64) = true) (h : A) : CMul i j ∧ A := ⟨.inl (of_decide_eq_true h1), h⟩
theorem sd_div {i j : Int} {A : Prop} (h1 : decide (0 < j ∧ j < 1073741824) = true) (h : A) : CDiv i j ∧ A := ⟨show 0 < j ∧ j < 1073741824 from of_decide_eq_true h1, h⟩
theorem sd_pow {i j : Int} {A : Prop} (h1 : decide (0 ≤ j ∧ j ≤ 1000000 ∧ i.natAbs < 2 ^ 64) = true) (h : A) : CPow i j ∧ A := ⟨show 0 ≤ j ∧ j ≤ 1000000 ∧ i.natAbs < 2 ^ 64 from of_decide_eq_true h1, h⟩
theorem sd_pos {i : Int} {A : Prop} (h1 : decide (0 < i) = true) (h : A) : 0 < i ∧ A := ⟨of_decide_eq_true h1, h⟩
theorem sd_get {M : Mm} {a : Addr} {l : List D} {A : List D → Prop} (h1 : M a = some (.lst l)) (h : A l) : ∃ l, M a = some (.lst l) ∧ A l := ⟨l, h1, h⟩
theorem sd_ix {n : Nat} {i : Int} {j : Nat} {A : Nat → Prop} (h1 : ixN n i = some j) (h : A j) : ∃ j, ixN n i = some j ∧ A j := ⟨j, h1, h⟩
theorem sd_eq {x y : D} {A : Prop} (h1 : laid x = true) (h2 : laid y = true) (h3 : min (dep x) (dep y) ≤ 60) (h : A) : okEq x y ∧ A := ⟨⟨h1, h2, h3⟩, h⟩
theorem sd_in {x : D} {l : List D} {A : Prop} (h1 : laid x = true) (h2 : laidL l = true) (h3 : min (depL l) (dep x) ≤ 60) (h : A) : okIn x l ∧ A := ⟨⟨h1, h2, h3⟩, h⟩
theorem lenIn_i {l : List D} {P : Prop} (h : l.length ≤ sizeLine → P) : lenIn l P := h
theorem sel_ct {b : Bool} {A B : Prop} (e : b = true) (h : A) : sel b A B := by rw [e]; exact ⟨h⟩
theorem sel_cf {b : Bool} {A B : Prop} (e : b = false) (h : B) : sel b A B := by rw [e]; exact ⟨h⟩
structure Hold (P : Prop) : Prop where
  out : P
theorem sd_has {M : Mm} {a : Addr} {l : List D} {A : Prop} (h1 : M a = some (.lst l)) (h : A) : (∃ l, M a = some (.lst l)) ∧ A := ⟨⟨l, h1⟩, h⟩
mutual
/-- how many things there are in it -/
def siz : D → Nat
  | .tup l => sizL l + 1
  | .lst l => sizL l + 1
  | .non => 1
  | .bl _ => 1
  | .int _ => 1
  | .str _ => 1
  | .ref _ => 1
  | .ty _ => 1
  | .exc _ _ _ _ => 1
  | .lam _ _ _ => 1
def sizL : List D → Nat
  | [] => 0
  | x :: xs => siz x + sizL xs
end
theorem filter_range_lt (q : Nat → Bool) {m : Nat} : ∀ {n : Nat}, m ≤ n → ((List.range n).filter fun p => decide (p < m) && q p) = (List.range m).filter q := by
  intro n
  induction n with
  | zero => intro h; have : m = 0 := by omega
            subst this; rfl
  | succ n ih =>
    intro h
    by_cases e : m = n + 1
    · subst e
      refine List.filter_congr fun p hp => ?_
      have := List.mem_range.mp hp
      simp [this]
    · rw [List.range_succ, List.filter_append, ih (by omega)]
      have : ¬ n < m := by omega
      simp [this]
/-- the moves of a kind, place by place -/
def movesP (r : Ru) (n : Nat) (a b : Int) (kind : Nat) (i : Nat) : List (Int × Int) := ((List.range i).filter fun (p : Nat) => touch r p a kind && touch r (n - r.sz.getD kind 0 - p) kind b).map fun (p : Nat) => ((kind : Int), (p : Int))
theorem movesP_all (r : Ru) (n : Nat) (a b : Int) (kind : Nat) (h : 1 ≤ r.sz.getD kind 0) : movesP r n a b kind ((n : Int) - r.sz.getD kind 0 + 1).toNat = movesOf r n a b kind := by
  unfold movesP movesOf
  congr 1
  rw [← filter_range_lt _ (show ((n : Int) - r.sz.getD kind 0 + 1).toNat ≤ n by omega)]
  refine List.filter_congr fun p hp => ?_
  unfold canS
  by_cases e : (p : Int) < 0 ∨ (n : Int) - r.sz.getD kind 0 - p < 0
  · rw [if_pos e]
    have : ¬ p < ((n : Int) - r.sz.getD kind 0 + 1).toNat := by omega
    rw [decide_eq_false this, Bool.false_and]
  · rw [if_neg e]
    have : p < ((n : Int) - r.sz.getD kind 0 + 1).toNat := by omega
    rw [decide_eq_true this, Bool.true_and]
theorem movesP_succ (r : Ru) (n : Nat) (a b : Int) (kind i : Nat) : movesP r n a b kind (i + 1) = if (touch r i a kind && touch r (n - r.sz.getD kind 0 - i) kind b) = true then movesP r n a b kind i ++ [((kind : Int), (i : Int))] else movesP r n a b kind i := by
  unfold movesP
  rw [List.range_succ, List.filter_append, List.map_append]
  by_cases h : (touch r i a kind && touch r (n - r.sz.getD kind 0 - i) kind b) = true
  · rw [if_pos h]
    simp only [List.filter_cons, h, List.filter_nil]
    rfl
  · rw [if_neg h]
    simp only [List.filter_cons, h, List.filter_nil]
    simp
theorem movesP_len (r : Ru) (n : Nat) (a b : Int) (kind i : Nat) : (movesP r n a b kind i).length ≤ i := by
  unfold movesP
  rw [List.length_map]
  exact Nat.le_trans (List.length_filter_le _ _) (by simp)
theorem sz_getD {r : Ru} {lo hi : Int} (h : ∀ n ∈ r.sz, lo ≤ n ∧ n ≤ hi) {k : Nat} (hk : k < r.sz.length) : lo ≤ r.sz.getD k 0 ∧ r.sz.getD k 0 ≤ hi := by
  rw [List.getD_eq_getElem?_getD, List.getElem?_eq_getElem hk]
  exact h _ (List.getElem_mem hk)
theorem for_rng0 {t : Tg} {s : WS} {ED : EndsD} {n : Nat} {sd : SD} {M : Mm} (I : Nat → SD → Mm → Prop) (h0 : I 0 sd M)
    (hs : ∀ i sd M (N : SD → Mm → Prop), i < n → (∀ sd M, I (i + 1) sd M → N sd M) → I i sd M → bindTg t (.int i) sd fun sd' => s { ED with nx := N, ct := N, bk := ED.nx } sd' M)
    (hd : ∀ sd M, I n sd M → ED.nx sd M) : wForL t s ED (rngD 0 n) sd M :=
  for_rng I h0 (fun i sd M N hi hN h => by rw [Int.zero_add]; exact hs i sd M N hi hN h) hd
theorem rngD_mem0 {n : Nat} {x : D} (h : x ∈ rngD 0 n) : ∃ i : Nat, i < n ∧ x = .int i := by
  obtain ⟨i, hi, rfl⟩ := rngD_mem h
  exact ⟨i, hi, by rw [Int.zero_add]⟩
theorem sizL_append : ∀ a b : List D, sizL (a ++ b) = sizL a + sizL b
  | [], b => by simp [sizL]
  | x :: a, b => by simp only [List.cons_append, sizL, sizL_append a b]; omega
theorem depL_append : ∀ a b : List D, depL (a ++ b) = max (depL a) (depL b)
  | [], b => by simp [depL]
  | x :: a, b => by simp only [List.cons_append, depL, depL_append a b]; omega
theorem siz_pos : ∀ x : D, 1 ≤ siz x := fun x => by cases x <;> simp [siz]
theorem sizL_len : ∀ l : List D, l.length ≤ sizL l
  | [] => by simp
  | x :: l => by have := siz_pos x; have := sizL_len l; simp only [List.length_cons, sizL]; omega
/-- a list around one place -/
theorem around {l : List D} {n : Nat} (h : n < l.length) : l = l.take n ++ l[n] :: l.drop (n + 1) := by
  rw [← List.drop_eq_getElem_cons h, List.take_append_drop]
theorem cut_from1 {α : Type} (l : List α) (n : Nat) : cutD l (some ((n : Int) + 1)) none = l.drop (n + 1) := cut_from l (n + 1)
theorem cut_to1 {α : Type} (l : List α) (n : Nat) : cutD l none (some ((n : Int) + 1)) = l.take (n + 1) := cut_to l (n + 1)
mutual
/-- the longest tuple or list in it -/
def wid : D → Nat
  | .tup l => max l.length (widL l)
  | .lst l => max l.length (widL l)
  | .non => 0
  | .bl _ => 0
  | .int _ => 0
  | .str _ => 0
  | .ref _ => 0
  | .ty _ => 0
  | .exc _ _ _ _ => 0
  | .lam _ _ _ => 0
def widL : List D → Nat
  | [] => 0
  | x :: xs => max (wid x) (widL xs)
end
theorem widL_append : ∀ a b : List D, widL (a ++ b) = max (widL a) (widL b)
  | [], b => by simp [widL]
  | x :: a, b => by simp only [List.cons_append, widL, widL_append a b]; omega
/-- how a value may be otherwise -/
def Bent (v v' : D) : Prop := laid v' = true ∧ dep v' ≤ dep v + 3 ∧ siz v' ≤ 2 * siz v + 20 ∧ wid v' ≤ max (wid v + 1) 8
theorem bent_at {l : List D} {n : Nat} (h : n < l.length) (hv : laidL l = true) {x y z : List D} (e : ∃ ys, y = ys ∧ x = l.take n ∧ z = l.drop (n + 1)) (hy : laidL y = true) (dy : depL y ≤ dep l[n] + 3) (sy : sizL y ≤ 2 * siz l[n] + 20) (wy : widL y ≤ max (wid l[n] + 1) 8) (ly : y.length ≤ 2) : Bent (.tup l) (.tup (x ++ y ++ z)) := by
  obtain ⟨_, rfl, rfl, rfl⟩ := e
  have e1 := around h
  have h1 : laidL l = (laidL (l.take n) && (laid l[n] && laidL (l.drop (n + 1)))) := by conv => lhs; rw [e1, laidL_append, laidL_cons]
  have h2 : depL l = max (depL (l.take n)) (max (dep l[n]) (depL (l.drop (n + 1)))) := by conv => lhs; rw [e1, depL_append, depL]
  have h3 : sizL l = sizL (l.take n) + (siz l[n] + sizL (l.drop (n + 1))) := by conv => lhs; rw [e1, sizL_append, sizL]
  rw [h1] at hv
  simp only [Bool.and_eq_true] at hv
  have h4 : widL l = max (widL (l.take n)) (max (wid l[n]) (widL (l.drop (n + 1)))) := by conv => lhs; rw [e1, widL_append, widL]
  have h5 : (l.take n).length + (1 + (l.drop (n + 1)).length) = l.length := by
    have e5 := congrArg List.length e1
    rw [List.length_append, List.length_cons] at e5
    omega
  refine ⟨?_, ?_, ?_, ?_⟩
  · rw [laid_tup, laidL_append, laidL_append, hv.1, hy, hv.2.2]; rfl
  · simp only [dep, depL_append]; omega
  · simp only [siz, sizL_append]; omega
  · simp only [wid, widL_append, List.length_append]; omega
theorem eqvL_pDs : ∀ l : List (Int × Int), eqvL (l.map pD) (l.map pD) = true
  | [] => rfl
  | p :: l => by
    have h := eqv_pD p p
    simp only [List.map_cons, eqvL, h, eqvL_pDs l, decide_true, Bool.and_self]
theorem depL_pDs : ∀ l : List (Int × Int), depL (l.map pD) ≤ 1
  | [] => by simp [depL]
  | p :: l => by
    have h := dep_pD p
    have := depL_pDs l
    simp only [List.map_cons, depL]; omega
theorem okEq_pDs (l : List (Int × Int)) : okEq (.lst (l.map pD)) (.lst (l.map pD)) := ⟨by rw [laid_lst]; exact laidL_pDs l, by rw [laid_lst]; exact laidL_pDs l, by have := depL_pDs l; simp only [dep]; omega⟩
/-- what a rule is -/
structure RuOk (r : Ru) : Prop where
  is : isRuleD r.D = true
  l1 : 1 ≤ r.sz.length
  l2 : r.sz.length ≤ 2
  sz : ∀ n ∈ r.sz, 1 ≤ n ∧ n ≤ 2
theorem RuOk.ruleOr {r : Ru} (h : RuOk r) {no : Prop} {yes : Ru → Prop} (y : yes r) : RuleOr r.D no yes := ⟨fun e => (by rw [h.is] at e; cases e), fun _ t e _ _ _ => (by rw [← RuD_inj e]; exact y)⟩
/-! ### ascending lists of pairs -/
theorem lexB_irr (p : Int × Int) : SrtO.lexB p p = false := by rw [SrtO.lexB_no]; omega
theorem lexB_tr {p q r : Int × Int} (h1 : SrtO.lexB p q = true) (h2 : SrtO.lexB q r = true) : SrtO.lexB p r = true := by
  rw [SrtO.lexB_iff] at *; omega
theorem asc_uniq : ∀ {l m : List (Int × Int)}, l.Pairwise (fun x y => SrtO.lexB x y = true) → m.Pairwise (fun x y => SrtO.lexB x y = true) → (∀ z, z ∈ l ↔ z ∈ m) → l = m
  | [], [], _, _, _ => rfl
  | [], b :: m, _, _, h => by have := (h b).mpr List.mem_cons_self; cases this
  | a :: l, [], _, _, h => by have := (h a).mp List.mem_cons_self; cases this
  | a :: l, b :: m, h1, h2, h => by
    rw [List.pairwise_cons] at h1 h2
    have e : a = b := by
      rcases List.mem_cons.mp ((h a).mp List.mem_cons_self) with e | ha
      · exact e
      · rcases List.mem_cons.mp ((h b).mpr List.mem_cons_self) with e | hb
        · exact e.symm
        · have := lexB_tr (h1.1 b hb) (h2.1 a ha)
          rw [lexB_irr] at this; cases this
    subst e
    rw [asc_uniq h1.2 h2.2 fun z => ⟨fun hz => ?_, fun hz => ?_⟩]
    · rcases List.mem_cons.mp ((h z).mp (List.mem_cons_of_mem _ hz)) with e | hz'
      · subst e
        have := h1.1 z hz
        rw [lexB_irr] at this; cases this
      · exact hz'
    · rcases List.mem_cons.mp ((h z).mpr (List.mem_cons_of_mem _ hz)) with e | hz'
      · subst e
        have := h2.1 z hz
        rw [lexB_irr] at this; cases this
      · exact hz'
theorem ltP_lex (p q : Int × Int) : ltP (pD p) (pD q) = SrtO.lexB p q := by
  obtain ⟨a, b⟩ := p
  obtain ⟨c, d⟩ := q
  simp only [pD, ltP, SrtO.lexB, HT.lexLt]
  by_cases h : a = c
  · simp [h]; intro h2; omega
  · simp [h]

/-! ### worths -/
def kz (m : Nat) : List Int := (List.range (m + 1)).map fun (i : Nat) => (i : Int) - 1
def sortsM (m : Nat) : List (Int × Int) := (kz m).flatMap fun l => (kz m).map fun t => (l, t)
def spotM (m : Nat) (l t : Int) : Int := (l + 1) * ((m : Int) + 1) + t + 1
def cellM (rows : List (List Int)) (p s : Int) : Int := (rows.getD p.toNat []).getD s.toNat 0
def bothM (r : Ru) (l : Int) (k : Nat) (t p rest : Int) : Bool := touch r p l k && touch r rest k t
def numM (r : Ru) (rows : List (List Int)) (n l t : Int) (k : Nat) (p : Int) : Int := Builtin.bitXor (cellM rows p (spotM r.sz.length l k)) (cellM rows (n - r.sz.getD k 0 - p) (spotM r.sz.length k t))
def numsP (r : Ru) (rows : List (List Int)) (n l t : Int) (k i : Nat) : List Int :=
  ((List.range i).filter fun (p : Nat) => bothM r l k t p (n - r.sz.getD k 0 - p)).map fun (p : Nat) => numM r rows n l t k p
def numsK (r : Ru) (rows : List (List Int)) (n l t : Int) : Nat → List Int
  | 0 => []
  | k + 1 => numsK r rows n l t k ++ numsP r rows n l t k (n - r.sz.getD k 0 + 1).toNat
def mexI (s : List Int) : Nat := ((List.range (s.length + 1)).find? fun (i : Nat) => !decide ((i : Int) ∈ s)).getD 0
def worthM (r : Ru) (rows : List (List Int)) (n l t : Int) : Int := (mexI (numsK r rows n l t r.sz.length) : Nat)
def rowM (r : Ru) (rows : List (List Int)) : List Int := (sortsM r.sz.length).map fun z => worthM r rows rows.length z.1 z.2
def rowsM (r : Ru) : Nat → List (List Int)
  | 0 => []
  | n + 1 => rowsM r n ++ [rowM r (rowsM r n)]
@[reducible] def rowD (row : List Int) : D := .tup (row.map D.int)
@[reducible] def rowsD (rows : List (List Int)) : List D := rows.map rowD
theorem numsP_succ (r : Ru) (rows : List (List Int)) (n l t : Int) (k i : Nat) : numsP r rows n l t k (i + 1) = if bothM r l k t i (n - r.sz.getD k 0 - i) = true then numsP r rows n l t k i ++ [numM r rows n l t k i] else numsP r rows n l t k i := by
  unfold numsP
  rw [List.range_succ, List.filter_append, List.map_append]
  by_cases h : bothM r l k t i (n - r.sz.getD k 0 - i) = true
  · rw [if_pos h]
    simp only [List.filter_cons, h, List.filter_nil]
    rfl
  · rw [if_neg h]
    simp only [List.filter_cons, h, List.filter_nil]
    simp
theorem numsP_len (r : Ru) (rows : List (List Int)) (n l t : Int) (k i : Nat) : (numsP r rows n l t k i).length ≤ i := by
  unfold numsP
  rw [List.length_map]
  exact Nat.le_trans (List.length_filter_le _ _) (by simp)
theorem numsK_len (r : Ru) (rows : List (List Int)) (n l t : Int) {c : Nat} (h : ∀ k, (n - r.sz.getD k 0 + 1).toNat ≤ c) : ∀ k, (numsK r rows n l t k).length ≤ k * c
  | 0 => by simp [numsK]
  | k + 1 => by
    have h1 := numsK_len r rows n l t h k
    have h2 := numsP_len r rows n l t k (n - r.sz.getD k 0 + 1).toNat
    have h3 := h k
    simp only [numsK, List.length_append]
    rw [Nat.succ_mul]
    omega
theorem rowsM_len (r : Ru) : ∀ n, (rowsM r n).length = n
  | 0 => rfl
  | n + 1 => by rw [rowsM, List.length_append, rowsM_len r n]; rfl
theorem kz_len (m : Nat) : (kz m).length = m + 1 := by simp [kz]
theorem flatMap_len {α β : Type} {f : α → List β} {c : Nat} : ∀ {l : List α}, (∀ x ∈ l, (f x).length = c) → (l.flatMap f).length = l.length * c
  | [], _ => by simp
  | a :: l, h => by
    rw [List.flatMap_cons, List.length_append, h a List.mem_cons_self, flatMap_len fun x hx => h x (List.mem_cons_of_mem _ hx), List.length_cons, Nat.succ_mul]
    omega
theorem sortsM_len (m : Nat) : (sortsM m).length = (m + 1) * (m + 1) := by
  unfold sortsM
  rw [flatMap_len (c := m + 1) fun x _ => by rw [List.length_map, kz_len], kz_len]
theorem rowM_len (r : Ru) (rows : List (List Int)) : (rowM r rows).length = (r.sz.length + 1) * (r.sz.length + 1) := by
  unfold rowM
  rw [List.length_map, sortsM_len]
/-- rows of a rule's width -/
def Wide (m : Nat) (rows : List (List Int)) : Prop := ∀ row ∈ rows, row.length = (m + 1) * (m + 1)
theorem Wide.app {m : Nat} {rows : List (List Int)} {row : List Int} (h : Wide m rows) (e : row.length = (m + 1) * (m + 1)) : Wide m (rows ++ [row]) := fun x hx => by
  rcases List.mem_append.mp hx with h1 | h1
  · exact h x h1
  · rw [List.mem_singleton.mp h1]; exact e
theorem rowsM_wide (r : Ru) : ∀ n, Wide r.sz.length (rowsM r n)
  | 0 => fun _ h => by cases h
  | n + 1 => (rowsM_wide r n).app (rowM_len r _)
/-! ### the least number that is not among some -/
theorem erase_len {s : List Int} {x : Int} (h : x ∈ s) : (s.erase x).length + 1 = s.length := by
  rw [List.length_erase_of_mem h]
  have : 0 < s.length := List.length_pos_of_mem h
  omega
theorem all_len : ∀ {i : Nat} {s : List Int}, (∀ j < i, ((j : Nat) : Int) ∈ s) → i ≤ s.length
  | 0, _, _ => Nat.zero_le _
  | i + 1, s, h => by
    have hi := h i (Nat.lt_succ_self i)
    have h2 : i ≤ (s.erase (i : Int)).length := all_len fun j hj => (List.mem_erase_of_ne (by omega)).mpr (h j (by omega))
    have := erase_len hi
    omega
theorem mexI_eq {s : List Int} {i : Nat} (h : ∀ j < i, ((j : Nat) : Int) ∈ s) (n : ((i : Nat) : Int) ∉ s) : mexI s = i := by
  have hl := all_len h
  unfold mexI
  have e : (List.range (s.length + 1)).find? (fun (j : Nat) => !decide ((j : Int) ∈ s)) = some i := by
    rw [List.find?_eq_some_iff_append]
    refine ⟨by simpa using n, List.range i, (List.range (s.length - i)).map (fun x => i + 1 + x), ?_, fun j hj => ?_⟩
    · have e1 : s.length + 1 = i + ((s.length - i) + 1) := by omega
      rw [e1, List.range_add, List.range_succ_eq_map]
      simp only [List.map_cons, List.map_map, Nat.add_zero]
      congr 2
      refine List.map_congr_left fun x _ => ?_
      simp only [Function.comp]
      omega
    · have := h j (List.mem_range.mp hj)
      simpa using this
  rw [e]
  rfl
/-- a dict's keys are some numbers -/
structure DSet (kvs : List (Key × D)) (s : List Int) : Prop where
  has : ∀ i : Int, (getK kvs (.inl i)).isSome = decide (i ∈ s)
  len : kvs.length ≤ s.length
theorem DSet.nil : DSet [] [] := ⟨fun i => by simp [getK], Nat.le_refl _⟩
theorem getK_any (kvs : List (Key × D)) (k : Key) : (getK kvs k).isSome = kvs.any fun kv => decide (kv.1 = k) := by
  unfold getK
  induction kvs with
  | nil => rfl
  | cons a l ih =>
    rw [List.find?_cons, List.any_cons]
    by_cases h : a.1 = k
    · simp [h]
    · simp [h] at ih ⊢
      exact ih
theorem any_map_key (kvs : List (Key × D)) (k k' : Key) (v : D) : ((kvs.map fun kv => if kv.1 = k then (kv.1, v) else kv).any fun kv => decide (kv.1 = k')) = kvs.any fun kv => decide (kv.1 = k') := by
  induction kvs with
  | nil => rfl
  | cons a l ih =>
    rw [List.map_cons, List.any_cons, List.any_cons, ih]
    congr 1
    by_cases h : a.1 = k
    · rw [if_pos h]
    · rw [if_neg h]
theorem DSet.put {kvs : List (Key × D)} {s : List Int} (h : DSet kvs s) (i : Int) (v : D) : DSet (setK kvs (.inl i) v) (s ++ [i]) := by
  refine ⟨fun j => ?_, ?_⟩
  · have hj := h.has j
    have hi := h.has i
    rw [getK_any] at hj hi ⊢
    unfold setK
    by_cases hk : (kvs.any fun kv => decide (kv.1 = Sum.inl i)) = true
    · rw [if_pos hk, any_map_key, hj]
      rw [hk] at hi
      have hi2 : i ∈ s := of_decide_eq_true hi.symm
      by_cases e : j = i
      · subst e; simp [hi2]
      · simp [e]
    · rw [if_neg hk, List.any_append, hj]
      by_cases e : j = i
      · subst e; simp
      · have : ¬ i = j := fun z => e z.symm
        simp [e, this]
  · unfold setK
    have := h.len
    split
    · simp; omega
    · simp; omega
theorem atI_rows {rows : List (List Int)} {p : Int} (h0 : 0 ≤ p) (h : p < rows.length) : atI (rowsD rows) p = some (rowD (rows.getD p.toNat [])) := by
  obtain ⟨n, rfl⟩ := Int.eq_ofNat_of_zero_le h0
  have hn : n < rows.length := by omega
  refine atI_nat ?_
  show (rows.map rowD)[n]? = _
  rw [List.getElem?_map, List.getElem?_eq_getElem hn, List.getD_eq_getElem?_getD, Int.toNat_natCast, List.getElem?_eq_getElem hn]; rfl
theorem atI_ints {row : List Int} {p : Int} (h0 : 0 ≤ p) (h : p < row.length) : atI (row.map D.int) p = some (.int (row.getD p.toNat 0)) := by
  obtain ⟨n, rfl⟩ := Int.eq_ofNat_of_zero_le h0
  exact atI_int (by omega)
theorem Wide.at {m : Nat} {rows : List (List Int)} (h : Wide m rows) {p : Int} (h0 : 0 ≤ p) (hp : p < rows.length) : (rows.getD p.toNat []).length = (m + 1) * (m + 1) := by
  have hn : p.toNat < rows.length := by omega
  rw [List.getD_eq_getElem?_getD, List.getElem?_eq_getElem hn]
  exact h _ (List.getElem_mem hn)
theorem spotM_in {m : Nat} (hm : m ≤ 2) {l t : Int} (l1 : -1 ≤ l) (l2 : l ≤ m - 1) (t1 : -1 ≤ t) (t2 : t ≤ m - 1) : 0 ≤ spotM m l t ∧ spotM m l t < ((m + 1) * (m + 1) : Nat) := by
  have e : m = 0 ∨ m = 1 ∨ m = 2 := by omega
  unfold spotM
  rcases e with rfl | rfl | rfl
  · simp; omega
  · simp; omega
  · simp; omega
theorem rowsM_get (r : Ru) : ∀ (n i : Nat), i < n → (rowsM r n).getD i [] = rowM r (rowsM r i)
  | n + 1, i, h => by
    rw [rowsM]
    by_cases e : i = n
    · subst e
      rw [List.getD_eq_getElem?_getD, List.getElem?_append_right (by rw [rowsM_len]; exact Nat.le_refl _), rowsM_len]
      simp
    · rw [List.getD_eq_getElem?_getD, List.getElem?_append_left (by rw [rowsM_len]; omega), ← List.getD_eq_getElem?_getD]
      exact rowsM_get r n i (by omega)
theorem rowsM_take (r : Ru) : ∀ (n i : Nat), i ≤ n → (rowsM r n).take i = rowsM r i
  | 0, i, h => by have : i = 0 := by omega
                  subst this; rfl
  | n + 1, i, h => by
    by_cases e : i = n + 1
    · subst e; rw [List.take_of_length_le (by rw [rowsM_len]; exact Nat.le_refl _)]
    · rw [rowsM, List.take_append_of_le_length (by rw [rowsM_len]; omega), rowsM_take r n i (by omega)]
theorem kz_mem {m : Nat} {x : Int} (h : x ∈ kz m) : -1 ≤ x ∧ x ≤ (m : Int) - 1 := by
  unfold kz at h
  obtain ⟨i, hi, rfl⟩ := List.mem_map.mp h
  have := List.mem_range.mp hi
  omega
theorem sortsM_mem {m : Nat} {z : Int × Int} (h : z ∈ sortsM m) : (-1 ≤ z.1 ∧ z.1 ≤ (m : Int) - 1) ∧ (-1 ≤ z.2 ∧ z.2 ≤ (m : Int) - 1) := by
  unfold sortsM at h
  obtain ⟨l, hl, h⟩ := List.mem_flatMap.mp h
  obtain ⟨t, ht, rfl⟩ := List.mem_map.mp h
  exact ⟨kz_mem hl, kz_mem ht⟩
/-! ### rounds -/
def leadF (rows : List (List Int)) (p : Nat) : Nat → Nat
  | 0 => 0
  | x + 1 => if 2 < x + 1 ∧ rows.getD x [] = rows.getD (x + p) [] then leadF rows p x else x + 1
def leadM (rows : List (List Int)) (p : Nat) : Nat := leadF rows p (rows.length - p)
def roundF (rows : List (List Int)) : Nat → Nat → Option (Nat × Nat)
  | 0, _ => none
  | f + 1, p => if 2 * leadM rows p + 2 * p ≤ 180 then some (leadM rows p, p) else roundF rows f (p + 1)
def roundM (rows : List (List Int)) : Option (Nat × Nat) := roundF rows 89 1
@[reducible] def roundD : Option (Nat × Nat) → D
  | none => .non
  | some z => .tup [.int z.1, .int z.2]
/-! ### loops in short, again -/
theorem wh_inv {c : WT} {s : WS} {ED : EndsD} {sd : SD} {M : Mm} (I : Nat → SD → Mm → Prop) (n : Nat) (h0 : I n sd M)
    (hs : ∀ n sd M (N : SD → Mm → Prop), (∀ m sd M, m < n → I m sd M → N sd M) → I n sd M → c sd M (kWh s ED N sd) (exAt ED sd)) : wWhile c s ED sd M :=
  ⟨I, ⟨n, h0⟩, fun n sd M h => hs n sd M _ (fun m _ _ hm h => ⟨m, hm, h⟩) h⟩
theorem enumD_drop : ∀ {ns : List D} {k j : Nat}, (h : j < ns.length) → (enumD k ns).drop j = .tup [.int (k + j : Nat), ns[j]] :: (enumD k ns).drop (j + 1)
  | x :: ns, k, 0, h => by simp [enumD]
  | x :: ns, k, j + 1, h => by
    have := enumD_drop (ns := ns) (k := k + 1) (j := j) (by simpa using h)
    simp only [enumD, List.drop_succ_cons, this, List.getElem_cons_succ]
    congr 5
    omega
theorem for_enum {t : Tg} {s : WS} {ED : EndsD} {ns : List Int} {sd : SD} {M : Mm} (I : Nat → SD → Mm → Prop) (h0 : I 0 sd M)
    (hs : ∀ i sd M (N : SD → Mm → Prop), i < ns.length → (∀ sd M, I (i + 1) sd M → N sd M) → I i sd M → bindTg t (.tup [.int i, .int (ns.getD i 0)]) sd fun sd' => s { ED with nx := N, ct := N, bk := ED.nx } sd' M)
    (hd : ∀ sd M, I ns.length sd M → ED.nx sd M) : wForL t s ED (enumD 0 (ns.map D.int)) sd M := by
  refine for_inv (fun r sd M => ∃ j, r = (enumD 0 (ns.map D.int)).drop j ∧ j ≤ ns.length ∧ I j sd M) (fun x r sd M N hN ⟨j, e, hj, h⟩ => ?_) (fun sd M ⟨j, e, hj, h⟩ => ?_) _ _ _ ⟨0, rfl, Nat.zero_le _, h0⟩
  · by_cases hlt : j < ns.length
    · rw [enumD_drop (by rw [List.length_map]; exact hlt)] at e
      obtain ⟨rfl, rfl⟩ := List.cons.inj e
      have e2 : (ns.map D.int)[j]'(by rw [List.length_map]; exact hlt) = .int (ns.getD j 0) := by
        rw [List.getElem_map, List.getD_eq_getElem?_getD, List.getElem?_eq_getElem hlt]; rfl
      rw [e2, Nat.zero_add]
      exact hs j sd M N hlt (fun sd M h => hN sd M ⟨j + 1, rfl, hlt, h⟩) h
    · have : (enumD 0 (ns.map D.int)).drop j = [] := List.drop_eq_nil_of_le (by rw [enumD_len, List.length_map]; omega)
      rw [this] at e; cases e
  · by_cases hlt : j < ns.length
    · rw [enumD_drop (by rw [List.length_map]; exact hlt)] at e; cases e
    · have e2 : j = ns.length := by omega
      subst e2
      exact hd sd M h
theorem filter_pI (g : Int → Bool) (l : List Int) : (l.map D.int).filter (pI g) = (l.filter g).map D.int := by
  rw [List.filter_map]
  rfl
theorem any_ints (l : List Int) (q : Int) : ((l.map D.int).any fun z => eqv z (.int q)) = decide (q ∈ l) := by
  rw [List.any_map]
  induction l with
  | nil => simp
  | cons a l ih =>
    simp only [List.any_cons, ih, Function.comp, eqv, List.mem_cons]
    by_cases h1 : q = a
    · subst h1; simp
    · have h2 : ¬ a = q := fun e => h1 e.symm
      simp [h1, h2]
theorem okIn_ints (q : Int) (l : List Int) : okIn (.int q) (l.map D.int) := ⟨laid_int, laidL_ints l, Nat.le_trans (Nat.min_le_right _ _) (by rw [dep_int]; decide)⟩
def barM (r : Ru) (l t k most : Int) : List Int := ([0, 1].filter fun p => !touch r p l k) ++ ([0, 1].filter fun b => !touch r b k t).map fun b => most - b
theorem touch_far (r : Ru) {p a b : Int} (h : 1 < p) : touch r p a b = true := by
  unfold touch
  rw [if_neg (by omega)]
  simp [h]
theorem bar_ok (r : Ru) (l t : Int) (k : Nat) {p rest most : Int} (h0 : 0 ≤ p) (h1 : 0 ≤ rest) (e : most - p = rest) : decide (p ∈ barM r l t k most) = !bothM r l k t p rest := by
  have e1 : (p ∈ barM r l t k most) ↔ (touch r p l k = false ∨ touch r rest k t = false) := by
    unfold barM
    rw [List.mem_append, List.mem_filter, List.mem_map]
    constructor
    · rintro (⟨_, h⟩ | ⟨b, hb, h⟩)
      · left; simpa using h
      · right
        rw [List.mem_filter] at hb
        have : b = rest := by omega
        rw [← this]
        simpa using hb.2
    · rintro (h | h)
      · left
        have hp : p = 0 ∨ p = 1 := by
          by_cases q : 1 < p
          · rw [touch_far r q] at h; cases h
          · omega
        exact ⟨by rcases hp with rfl | rfl <;> simp, by simpa using h⟩
      · right
        have hp : rest = 0 ∨ rest = 1 := by
          by_cases q : 1 < rest
          · rw [touch_far r q] at h; cases h
          · omega
        refine ⟨rest, List.mem_filter.mpr ⟨by rcases hp with e | e <;> rw [e] <;> simp, by simpa using h⟩, by omega⟩
  unfold bothM
  cases h2 : touch r p l k <;> cases h3 : touch r rest k t <;> simp [e1, h2, h3]
theorem laidL_filter {l : List D} (h : laidL l = true) (p : D → Bool) : laidL (l.filter p) = true := by
  induction l with
  | nil => rfl
  | cons a l ih =>
    rw [laidL_cons, Bool.and_eq_true] at h
    rw [List.filter_cons]
    split
    · rw [laidL_cons, h.1, ih h.2]; rfl
    · exact ih h.2
/-- none is left: all are good -/
theorem eqv_filter_nil (l : List D) (p : D → Bool) : eqv (.lst (l.filter fun x => !p x)) (.lst []) = l.all p := by
  cases hq : l.all p with
  | true =>
    rw [List.filter_eq_nil_iff.mpr fun x hx => by simp [List.all_eq_true.mp hq x hx]]
    simp [eqv, eqvL]
  | false =>
    cases hf : l.filter fun x => !p x with
    | nil =>
      have : l.all p = true := List.all_eq_true.mpr fun x hx => by
        have := List.filter_eq_nil_iff.mp hf x hx
        simpa using this
      rw [this] at hq; cases hq
    | cons _ _ => simp [eqv, eqvL]
theorem lcI_map {j : Nat} {te : WE} {sd : SD} {out : List D → Mm → Prop} {M : Mm} (f : D → D) : ∀ {ys acc : List D}, (∀ y ∈ ys, ∀ K1 : KE, K1 (f y) M → te (setD sd j y) M K1 kxF) → acc.length + ys.length ≤ 1000000 → out (acc ++ ys.map f) M → wLcI (.one j) wYes te sd out ys acc M
  | [], acc, _, _, hk => by rw [List.map_nil, List.append_nil] at hk; exact hk
  | y :: ys, acc, h, hl, hk => by
    rw [wLcI_cons]
    rw [List.length_cons] at hl
    refine ⟨h y List.mem_cons_self _ ⟨by omega, lcI_map f (fun z hz => h z (List.mem_cons_of_mem _ hz)) (by rw [List.length_append, List.length_cons, List.length_nil]; omega) ?_⟩⟩
    rw [List.append_assoc]
    exact hk
theorem lc2_map {i j : Nat} {te : WE} {vs1 : List Nat} {sd : SD} {k : List D → Mm → Prop} {M : Mm} {wi1 : WI} (g : D → List D) (f : D → D) : ∀ {xs acc : List D}, (∀ x ∈ xs, ∀ K : List D → Mm → Prop, K (g x) M → wi1 (setD sd i x) M K kxF) →
    (∀ x ∈ xs, ∀ y ∈ g x, ∀ K1 : KE, K1 (f y) M → te (setD (wipeD (setD sd i x) vs1) j y) M K1 kxF) → acc.length + (xs.flatMap g).length ≤ 1000000 → k (acc ++ (xs.flatMap g).map f) M → wLcL2 (.one i) wYes wi1 (.one j) wYes te vs1 sd k xs acc M
  | [], acc, _, _, _, hk => by rw [List.flatMap_nil, List.map_nil, List.append_nil] at hk; exact hk
  | x :: xs, acc, h1, h2, hl, hk => by
    rw [wLcL2_cons]
    rw [List.flatMap_cons, List.length_append] at hl
    refine ⟨h1 x List.mem_cons_self _ (lcI_map f (h2 x List.mem_cons_self) (by omega) (lc2_map g f (fun z hz => h1 z (List.mem_cons_of_mem _ hz)) (fun z hz => h2 z (List.mem_cons_of_mem _ hz)) (by rw [List.length_append, List.length_map]; omega) ?_))⟩
    rw [List.flatMap_cons, List.map_append, ← List.append_assoc] at hk
    exact hk
theorem cut_mid {α : Type} (l : List α) (n p : Nat) : cutD l (some (n : Int)) (some ((n : Int) + (p : Int))) = (l.drop n).take p := by
  unfold cutD
  rw [show ((n : Int) + (p : Int)) = ((n + p : Nat) : Int) by omega, HT.sIx_nat, HT.sIx_nat]
  by_cases h : n ≤ l.length
  · rw [Nat.min_eq_left h]
    by_cases h2 : n + p ≤ l.length
    · rw [Nat.min_eq_left h2]
      congr 1; omega
    · rw [Nat.min_eq_right (by omega), List.take_of_length_le (by rw [List.length_drop]; omega), List.take_of_length_le (by rw [List.length_drop]; omega)]
  · rw [List.drop_eq_nil_of_le (by omega), List.drop_eq_nil_of_le (by omega)]; simp
theorem cut_mid0 {α : Type} (l : List α) (n p : Nat) : cutD l (some (n : Int)) (some (p : Int)) = (l.take p).drop n := by
  unfold cutD
  rw [HT.sIx_nat, HT.sIx_nat]
  by_cases h : n ≤ l.length
  · rw [Nat.min_eq_left h]
    by_cases h2 : p ≤ l.length
    · rw [Nat.min_eq_left h2, List.drop_take]
    · rw [Nat.min_eq_right (by omega), List.drop_take]
      rw [List.take_of_length_le (by rw [List.length_drop]; omega), List.take_of_length_le (by rw [List.length_drop]; omega)]
  · rw [List.drop_eq_nil_of_le (by omega), List.drop_eq_nil_of_le (by rw [List.length_take]; omega)]; simp
/-! ### rounds again -/
theorem leadF_eq {rows : List (List Int)} {p : Nat} : ∀ {x i : Nat}, leadF rows p x ≤ i → i < x → rows.getD i [] = rows.getD (i + p) []
  | 0, i, _, h => by omega
  | x + 1, i, h1, h2 => by
    rw [leadF] at h1
    by_cases h : 2 < x + 1 ∧ rows.getD x [] = rows.getD (x + p) []
    · rw [if_pos h] at h1
      by_cases e : i = x
      · subst e; exact h.2
      · exact leadF_eq h1 (by omega)
    · rw [if_neg h] at h1; omega
theorem leadF_le {rows : List (List Int)} {p : Nat} : ∀ x, leadF rows p x ≤ x
  | 0 => Nat.le_refl _
  | x + 1 => by
    rw [leadF]
    split
    · exact Nat.le_succ_of_le (leadF_le x)
    · exact Nat.le_refl _
theorem leadF_two {rows : List (List Int)} {p : Nat} : ∀ x, 2 ≤ x → 2 ≤ leadF rows p x
  | 0, h => by omega
  | x + 1, h => by
    rw [leadF]
    split
    · rename_i h2
      exact leadF_two x (by omega)
    · exact h
theorem roundF_ok {rows : List (List Int)} : ∀ {f p : Nat} {z : Nat × Nat}, roundF rows f p = some z → 1 ≤ p → z.1 = leadM rows z.2 ∧ 1 ≤ z.2 ∧ 2 * z.1 + 2 * z.2 ≤ 180 ∧ z.2 < f + p
  | 0, _, _, h, _ => by cases h
  | f + 1, p, z, h, hp => by
    rw [roundF] at h
    split at h
    · rename_i h2
      cases h
      exact ⟨rfl, hp, h2, by show p < _; omega⟩
    · obtain ⟨a, b, c, d⟩ := roundF_ok h (by omega)
      exact ⟨a, b, c, by omega⟩
theorem round_per {rows : List (List Int)} {z : Nat × Nat} (h : roundM rows = some z) : ∀ m n : Nat, z.1 ≤ n → n + m * z.2 < rows.length → rows.getD (n + m * z.2) [] = rows.getD n []
  | 0, n, _, _ => by rw [Nat.zero_mul, Nat.add_zero]
  | m + 1, n, h1, h2 => by
    obtain ⟨e, hp, _, _⟩ := roundF_ok h (Nat.le_refl 1)
    rw [Nat.succ_mul] at h2 ⊢
    have h3 := round_per h m n h1 (by omega)
    have h4 := leadF_eq (rows := rows) (p := z.2) (x := rows.length - z.2) (i := n + m * z.2) (by have : leadF rows z.2 (rows.length - z.2) = z.1 := e.symm; omega) (by omega)
    rw [← h3, h4, Nat.add_assoc]

/-! ### texts: commas, lengths, signs -/
def nC (s : Str) : Nat := s.cps.toList.count 44
structure Tx (s : Str) (n c : Nat) : Prop where
  ok : PyData.strOk s = true
  len : s.length ≤ n
  com : nC s ≤ c
theorem Tx.mono {s : Str} {n c m d : Nat} (h : Tx s n c) (h1 : n ≤ m) (h2 : c ≤ d) : Tx s m d := ⟨h.ok, Nat.le_trans h.len h1, Nat.le_trans h.com h2⟩
theorem strOk_iff {s : Str} : PyData.strOk s = true ↔ ∀ c ∈ s.cps.toList, c < 0x110000 := by
  unfold PyData.strOk
  rw [← Array.all_toList, List.all_eq_true]
  exact ⟨fun h c hc => by simpa using h c hc, fun h c hc => by simpa using h c hc⟩
theorem cps_app (a b : Str) : (a ++ b).cps.toList = a.cps.toList ++ b.cps.toList := by
  show (a.cps ++ b.cps).toList = _
  simp
theorem len_str (s : Str) : s.length = s.cps.toList.length := by show s.cps.size = _; simp
theorem nC_app (a b : Str) : nC (a ++ b) = nC a + nC b := by unfold nC; rw [cps_app, List.count_append]
theorem len_app (a b : Str) : (a ++ b).length = a.length + b.length := by rw [len_str, len_str, len_str, cps_app, List.length_append]
theorem nC_le (s : Str) : nC s ≤ s.length := by rw [len_str]; exact List.count_le_length
theorem ok_app {a b : Str} (h1 : PyData.strOk a = true) (h2 : PyData.strOk b = true) : PyData.strOk (a ++ b) = true := strOk_iff.mpr fun c hc => by
  rw [cps_app] at hc
  rcases List.mem_append.mp hc with h | h
  · exact strOk_iff.mp h1 c h
  · exact strOk_iff.mp h2 c h
theorem Tx.app {a b : Str} {n c m d : Nat} (h1 : Tx a n c) (h2 : Tx b m d) : Tx (a ++ b) (n + m) (c + d) := ⟨ok_app h1.ok h2.ok, by rw [len_app]; have := h1.len; have := h2.len; omega, by rw [nC_app]; have := h1.com; have := h2.com; omega⟩
theorem join_is (sep : Str) (ys : List Str) : Txt.join sep ys = Str.join sep ys := StrLaws.glued_eq_join sep ys
theorem join_cc (sep x y : Str) (r : List Str) : Str.join sep (x :: y :: r) = x ++ sep ++ Str.join sep (y :: r) := rfl
theorem nC_join {sep : Str} (h : nC sep = 0) : ∀ ys : List Str, nC (Str.join sep ys) = (ys.map nC).sum
  | [] => rfl
  | [x] => by show nC x = _; simp
  | x :: y :: r => by
    rw [join_cc, nC_app, nC_app, h, nC_join h (y :: r)]
    simp only [List.map_cons, List.sum_cons]
    omega
theorem ok_join {sep : Str} (h : PyData.strOk sep = true) : ∀ {ys : List Str}, (∀ y ∈ ys, PyData.strOk y = true) → PyData.strOk (Str.join sep ys) = true
  | [], _ => by show PyData.strOk Str.empty = true; decide +kernel
  | [x], hy => hy x List.mem_cons_self
  | x :: y :: r, hy => by
    rw [join_cc]
    exact ok_app (ok_app (hy x List.mem_cons_self) h) (ok_join h fun z hz => hy z (List.mem_cons_of_mem _ hz))
theorem cps_in_join {sep : Str} : ∀ {ys : List Str} {y : Str}, y ∈ ys → ∀ c ∈ y.cps.toList, c ∈ (Str.join sep ys).cps.toList
  | [x], y, h, c, hc => by rw [List.mem_singleton.mp h] at hc; exact hc
  | x :: z :: r, y, h, c, hc => by
    rw [join_cc, cps_app, cps_app]
    rcases List.mem_cons.mp h with rfl | h
    · exact List.mem_append_left _ (List.mem_append_left _ hc)
    · exact List.mem_append_right _ (cps_in_join h c hc)
theorem sum_mem {α : Type} (f : α → Nat) : ∀ {l : List α} {x : α}, x ∈ l → f x ≤ (l.map f).sum
  | y :: l, x, h => by
    rw [List.map_cons, List.sum_cons]
    rcases List.mem_cons.mp h with rfl | h
    · omega
    · have := sum_mem f h; omega
theorem sum_le_mul {α : Type} (f : α → Nat) (m : Nat) : ∀ {l : List α}, (∀ x ∈ l, f x ≤ m) → (l.map f).sum ≤ l.length * m
  | [], _ => by simp
  | y :: l, h => by
    rw [List.map_cons, List.sum_cons, List.length_cons, Nat.add_mul, Nat.one_mul]
    have := h y List.mem_cons_self
    have := sum_le_mul f m (l := l) fun x hx => h x (List.mem_cons_of_mem _ hx)
    omega
/-- the parts of a text, and what they weigh together -/
structure Parts (ps : List Str) (n c : Nat) : Prop where
  ok : ∀ p ∈ ps, PyData.strOk p = true
  len : (ps.map (·.length)).sum + ps.length ≤ n + 1
  com : (ps.map nC).sum ≤ c
theorem Tx.split {s y : Str} {n c : Nat} (h : Tx s n c) (hy : 1 ≤ y.length) : Parts (Txt.split s y) n c := by
  have e := StrLaws.join_split s y
  refine ⟨fun p hp => strOk_iff.mpr fun ch hc => strOk_iff.mp h.ok ch ?_, ?_, ?_⟩
  · have := cps_in_join (sep := y) hp ch hc
    rw [e] at this
    exact this
  · have := split_weight s y hy
    have := h.len
    omega
  · have key : ∀ ys : List Str, (ys.map nC).sum ≤ nC (Str.join y ys) := fun ys => by
      induction ys with
      | nil => simp
      | cons a r ih =>
        cases r with
        | nil => show nC a + 0 ≤ nC a; omega
        | cons b r =>
          rw [join_cc, nC_app, nC_app, List.map_cons, List.sum_cons]
          omega
    have h2 := key (Txt.split s y)
    rw [e] at h2
    exact Nat.le_trans h2 h.com
theorem Parts.mem {ps : List Str} {n c : Nat} (h : Parts ps n c) {p : Str} (hp : p ∈ ps) : Tx p n c := by
  refine ⟨h.ok p hp, ?_, Nat.le_trans (sum_mem nC hp) h.com⟩
  have h1 : p.length ≤ (ps.map (·.length)).sum := sum_mem (fun s : Str => s.length) hp
  have h2 := h.len
  have h3 : 0 < ps.length := List.length_pos_of_mem hp
  omega
theorem Parts.count {ps : List Str} {n c : Nat} (h : Parts ps n c) : ps.length ≤ n + 1 := by have := h.len; omega
theorem cnt_count (c : Nat) : ∀ l : List Nat, cnt c l = (l.count c : Int)
  | [] => by rw [cnt_nil]; simp
  | n :: r => by
    rw [cnt_cons, cnt_count c r, List.count_cons]
    by_cases h : n = c
    · simp [h]; omega
    · simp [h]
theorem split_commas (s : Str) : (Txt.split s ",").length = nC s + 1 := by
  have h := split_len s 44
  rw [cnt_count] at h
  rw [show (("," : String) : Str) = ⟨#[44]⟩ by decide +kernel]
  unfold nC
  omega
theorem nC_joinS (sep : Str) : ∀ ys : List Str, nC (Str.join sep ys) ≤ (ys.map nC).sum + (ys.length - 1) * nC sep
  | [] => Nat.zero_le _
  | [x] => by show nC x ≤ _; simp
  | x :: y :: r => by
    have h := nC_joinS sep (y :: r)
    rw [join_cc, nC_app, nC_app]
    simp only [List.map_cons, List.sum_cons, List.length_cons, Nat.add_sub_cancel, Nat.succ_mul] at h ⊢
    omega
/-- texts put together, commas between -/
theorem tx_joinS {sep : Str} {ys : List Str} {n c : Nat} (h1 : PyData.strOk sep = true) (ho : ∀ y ∈ ys, PyData.strOk y = true) (hl : (ys.map (·.length)).sum + ys.length * sep.length ≤ n) (hc : (ys.map nC).sum + (ys.length - 1) * nC sep ≤ c) : Tx (Txt.join sep ys) n c := by
  rw [join_is]
  exact ⟨ok_join h1 ho, Nat.le_trans (StrLaws.join_length_le sep ys) hl, Nat.le_trans (nC_joinS sep ys) hc⟩
/-- texts put together -/
theorem tx_join {sep : Str} {ys : List Str} {n c : Nat} (h0 : nC sep = 0) (h1 : PyData.strOk sep = true) (ho : ∀ y ∈ ys, PyData.strOk y = true) (hl : (ys.map (·.length)).sum + ys.length * sep.length ≤ n) (hc : (ys.map nC).sum ≤ c) : Tx (Txt.join sep ys) n c := by
  rw [join_is]
  exact ⟨ok_join h1 ho, Nat.le_trans (StrLaws.join_length_le sep ys) hl, by rw [nC_join h0]; exact hc⟩
theorem cutS_to (s : Str) (n : Nat) : (cutS s none (some (n : Int))).cps.toList = s.cps.toList.take n := by
  show ((cutD s.cps.toList none (some (n : Int))).toArray).toList = _
  rw [cut_to]
theorem cutS_from (s : Str) (n : Nat) : (cutS s (some (n : Int)) none).cps.toList = s.cps.toList.drop n := by
  show ((cutD s.cps.toList (some (n : Int)) none).toArray).toList = _
  rw [cut_from]
theorem ok_sub {s t : Str} (h : PyData.strOk s = true) (hs : ∀ c ∈ t.cps.toList, c ∈ s.cps.toList) : PyData.strOk t = true := strOk_iff.mpr fun c hc => strOk_iff.mp h c (hs c hc)
/-- a text cut in two, perhaps without one sign between -/
theorem tx_cut {s : Str} {n c : Nat} (h : Tx s n c) {i j : Nat} (hij : i ≤ j) : Tx (cutS s none (some (i : Int)) ++ cutS s (some (j : Int)) none) n c := by
  have e1 := cutS_to s i
  have e2 := cutS_from s j
  have key : (s.cps.toList.drop j).Sublist (s.cps.toList.drop i) := by
    have e : s.cps.toList.drop j = (s.cps.toList.drop i).drop (j - i) := by rw [List.drop_drop]; congr 1; omega
    rw [e]
    exact List.drop_sublist _ _
  have sub : (s.cps.toList.take i ++ s.cps.toList.drop j).Sublist s.cps.toList := by
    have := (List.Sublist.refl (s.cps.toList.take i)).append key
    rwa [List.take_append_drop] at this
  refine ⟨ok_sub h.ok fun ch hc => ?_, ?_, ?_⟩
  · rw [cps_app, e1, e2] at hc
    exact sub.subset hc
  · rw [len_str, cps_app, e1, e2]
    have := sub.length_le
    have := h.len
    rw [len_str] at this
    omega
  · unfold nC
    rw [cps_app, e1, e2]
    exact Nat.le_trans (sub.count_le 44) h.com
theorem nC_cut3 {s m : Str} {n c a b : Nat} (h : Tx s n c) (hm : Tx m a b) (i : Nat) : Tx (cutS s none (some (i : Int)) ++ m ++ cutS s (some (i : Int)) none) (n + a) (c + b) := by
  have h2 := tx_cut h (Nat.le_refl i)
  have l2 := h2.len
  have c2 := h2.com
  have o2 := h2.ok
  rw [len_app] at l2
  rw [nC_app] at c2
  have lm := hm.len
  have cm := hm.com
  refine ⟨ok_app (ok_app (ok_sub o2 fun ch hc => by rw [cps_app]; exact List.mem_append_left _ hc) hm.ok) (ok_sub o2 fun ch hc => by rw [cps_app]; exact List.mem_append_right _ hc), ?_, ?_⟩
  · rw [len_app, len_app]; omega
  · rw [nC_app, nC_app]; omega
/-! ### what a text writes -/
def sigs : List (Str × Int) := [("e", -1), ("0", 0), ("1", 1)]
def sgn (c : Nat) : Option Int := sigs.lookup ⟨#[c]⟩
def oneTwo (p : Str) : Bool := decide (p = "1") || decide (p = "2")
def sizeOf1 (p : Str) : Int := if p = "1" then 1 else 2
def sizesO (w : Str) : Option (List D) := if decide ((Txt.split w ",").length ≤ 2) && (Txt.split w ",").all oneTwo then some ((Txt.split w ",").map fun p => .int (sizeOf1 p)) else none
def pairL : List Nat → Option (Int × Int)
  | [a, b] => (match sgn a, sgn b with
    | some x, some y => some (x, y)
    | _, _ => none)
  | _ => none
def signsOf (p : Str) : Option (Int × Int) := pairL p.cps.toList
def pairsO (w : Str) : Option (List D) := if w = "-" then some [] else if (Txt.split w ",").all (fun p => (signsOf p).isSome) then some ((Txt.split w ",").map fun p => pD ((signsOf p).getD (0, 0))) else none
def part2 (w x : Str) : Option (Str × List D) := if w = "sizes" then (sizesO x).map (fun l => (w, l)) else if w = "beside" ∨ w = "apart" then (pairsO x).map (fun l => (w, l)) else none
def partL : List Str → Option (Str × List D)
  | [w, x] => part2 w x
  | _ => none
def partO (line : Str) : Option (Str × List D) := partL (Txt.split line " ")
def optD : Option (List D) → D
  | none => .non
  | some l => .tup l
def partD : Option (Str × List D) → D
  | none => .non
  | some (w, l) => .tup [.str w, .tup l]
def ruleD (ps : List (Option (Str × List D))) : D := .tup (ps.map fun p => .tup (p.getD ("", [])).2)
def wordsM (ps : List (Option (Str × List D))) : List Str := ps.map fun p => (p.getD ("", [])).1
def readL (ps : List (Option (Str × List D))) : Sum Nat D := match ps.findIdx? (·.isNone) with
  | some i => .inl (i + 1)
  | none => if wordsM ps = ([("sizes" : Str), "beside", "apart"] : List Str) ∧ isRuleD (ruleD ps) = true then .inr (ruleD ps) else .inl (ps.length + 1)
def readM (t : Str) : Sum Nat D := readL ((Txt.split t "\n").map partO)
def toldS : Sum Nat D → D
  | .inl n => .int n
  | .inr d => d
def toldM : D → D
  | .str t => toldS (readM t)
  | _ => .int 0
/-- what a good part is -/
structure GoodL (z : List D) (c : Nat) : Prop where
  l : laidL z = true
  d : depL z ≤ 1
  n : z.length ≤ c + 1
  w : widL z ≤ 2
theorem widL_le {n : Nat} : ∀ {l : List D}, (∀ x ∈ l, wid x ≤ n) → widL l ≤ n
  | [], _ => by simp [widL]
  | y :: l, h => by
    simp only [widL]
    have := h y List.mem_cons_self
    have := widL_le (l := l) fun x hx => h x (List.mem_cons_of_mem _ hx)
    omega
theorem sizesO_good {x : Str} {n c : Nat} (h : Tx x n c) {l : List D} (e : sizesO x = some l) : GoodL l c := by
  unfold sizesO at e
  split at e
  · cases e
    refine ⟨laidL_map _ (fun p => by simp [laid]) _, depL_le fun y hy => ?_, ?_, widL_le fun y hy => ?_⟩
    · obtain ⟨p, _, rfl⟩ := List.mem_map.mp hy
      simp [dep]
    · rw [List.length_map, split_commas]
      have := h.com
      omega
    · obtain ⟨p, _, rfl⟩ := List.mem_map.mp hy
      simp [wid]
  · cases e
theorem pairsO_good {x : Str} {n c : Nat} (h : Tx x n c) {l : List D} (e : pairsO x = some l) : GoodL l c := by
  unfold pairsO at e
  split at e
  · cases e
    exact ⟨by simp [laidL], by simp [depL], by simp, by simp [widL]⟩
  · split at e
    · cases e
      refine ⟨laidL_map _ (fun p => laid_pD _) _, depL_le fun y hy => ?_, ?_, widL_le fun y hy => ?_⟩
      · obtain ⟨p, _, rfl⟩ := List.mem_map.mp hy
        simp [pD, dep, depL]
      · rw [List.length_map, split_commas]
        have := h.com
        omega
      · obtain ⟨p, _, rfl⟩ := List.mem_map.mp hy
        simp [pD, wid, widL]
    · cases e
theorem partO_good {line : Str} {n c : Nat} (h : Tx line n c) {w : Str} {l : List D} (e : partO line = some (w, l)) : GoodL l c ∧ (w = "sizes" ∨ w = "beside" ∨ w = "apart") := by
  unfold partO at e
  have hp := h.split (y := " ") (by decide +kernel)
  revert e
  generalize Txt.split line " " = ws at hp
  intro e
  match ws, hp, e with
  | [a, x], hp, e =>
    have hx := hp.mem (p := x) (by simp)
    replace e : part2 a x = some (w, l) := e
    unfold part2 at e
    split at e
    · rename_i ha
      cases hs : sizesO x with
      | none => rw [hs] at e; cases e
      | some l' =>
        rw [hs] at e
        cases e
        exact ⟨sizesO_good hx hs, .inl ha⟩
    · split at e
      · rename_i ha
        cases hs : pairsO x with
        | none => rw [hs] at e; cases e
        | some l' =>
          rw [hs] at e
          cases e
          exact ⟨pairsO_good hx hs, .inr ha⟩
      · cases e
theorem laid_words {w : Str} (h : w = "sizes" ∨ w = "beside" ∨ w = "apart") : laid (.str w) = true := by
  rcases h with rfl | rfl | rfl <;> decide +kernel
theorem partD_good {line : Str} {n c : Nat} (h : Tx line n c) : laid (partD (partO line)) = true ∧ dep (partD (partO line)) ≤ 3 := by
  cases e : partO line with
  | none => exact ⟨by simp [partD, laid], by simp [partD, dep]⟩
  | some p =>
    obtain ⟨w, l⟩ := p
    obtain ⟨g, hw⟩ := partO_good h e
    have := laid_words hw
    refine ⟨by simp [partD, laid, laidL, g.l]; simpa [laid] using this, ?_⟩
    have := g.d
    simp only [partD, dep, depL]
    omega
theorem getD_part {p : Option (Str × List D)} (h : p.isNone = false) : ∃ w l, p = some (w, l) := by
  cases p with
  | none => cases h
  | some q => exact ⟨q.1, q.2, rfl⟩
/-- all parts are good: the rule that they make -/
theorem ruleD_good {lines : List Str} {n c : Nat} (h : ∀ x ∈ lines, Tx x n c) : laid (ruleD (lines.map partO)) = true ∧ dep (ruleD (lines.map partO)) ≤ 4 ∧ wid (ruleD (lines.map partO)) ≤ max lines.length (max (c + 1) 2) := by
  have key : ∀ y ∈ (lines.map partO).map (fun p => D.tup (p.getD ("", [])).2), laid y = true ∧ dep y ≤ 2 ∧ wid y ≤ max (c + 1) 2 := fun y hy => by
    obtain ⟨p, hp, rfl⟩ := List.mem_map.mp hy
    obtain ⟨x, hx, rfl⟩ := List.mem_map.mp hp
    cases e : partO x with
    | none => exact ⟨by simp [laid, laidL], by simp [dep, depL], by simp [wid, widL]⟩
    | some q =>
      obtain ⟨w, l⟩ := q
      obtain ⟨g, _⟩ := partO_good (h x hx) e
      have := g.d
      have := g.n
      have := g.w
      refine ⟨by simp [laid, g.l], by simp only [Option.getD_some, dep]; omega, by simp only [Option.getD_some, wid]; omega⟩
  unfold ruleD
  have k2 : depL ((lines.map partO).map (fun p => D.tup (p.getD ("", [])).2)) ≤ 2 := depL_le fun y hy => (key y hy).2.1
  have k3 : widL ((lines.map partO).map (fun p => D.tup (p.getD ("", [])).2)) ≤ max (c + 1) 2 := widL_le fun y hy => (key y hy).2.2
  refine ⟨by rw [laid_tup]; exact laidL_of fun y hy => (key y hy).1, by simp only [dep]; omega, ?_⟩
  simp only [wid, List.length_map]
  omega
mutual
theorem eqv_refl : ∀ d : D, laid d = true → eqv d d = true
  | .non, _ => by simp [eqv]
  | .bl b, _ => by simp [eqv]
  | .int i, _ => by simp [eqv]
  | .str x, _ => by simp [eqv]
  | .tup l, h => by simp only [eqv]; exact eqvL_refl l (by simpa [laid] using h)
  | .lst l, h => by simp only [eqv]; exact eqvL_refl l (by simpa [laid] using h)
  | .ref _, h => by simp [laid] at h
  | .ty _, h => by simp [laid] at h
  | .exc _ _ _ _, h => by simp [laid] at h
  | .lam _ _ _, h => by simp [laid] at h
theorem eqvL_refl : ∀ l : List D, laidL l = true → eqvL l l = true
  | [], _ => by simp [eqvL]
  | x :: xs, h => by
    have h1 : laid x = true ∧ laidL xs = true := by simpa [laidL] using h
    simp only [eqvL, eqv_refl x h1.1, eqvL_refl xs h1.2, Bool.and_self]
end
theorem toldM_good {v : D} {n c : Nat} (h : ∀ s, v = .str s → Tx s n c) : laid (toldM v) = true ∧ dep (toldM v) ≤ 4 := by
  cases v with
  | str s =>
    have hs := h s rfl
    have hp := hs.split (y := "\n") (by decide +kernel)
    show laid (toldS (readL ((Txt.split s "\n").map partO))) = true ∧ dep (toldS (readL ((Txt.split s "\n").map partO))) ≤ 4
    unfold readL
    obtain ⟨g1, g2, _⟩ := ruleD_good (lines := Txt.split s "\n") (n := n) (c := c) fun x hx => hp.mem hx
    split
    · exact ⟨by simp [toldS, laid], by simp [toldS, dep]⟩
    · split
      · exact ⟨g1, g2⟩
      · exact ⟨by simp [toldS, laid], by simp [toldS, dep]⟩
  | _ => exact ⟨by simp [toldM, laid], by simp [toldM, dep]⟩
theorem eqvL_strs : ∀ a b : List Str, eqvL (a.map D.str) (b.map D.str) = decide (a = b)
  | [], [] => by simp [eqvL]
  | [], _ :: _ => by simp [eqvL]
  | _ :: _, [] => by simp [eqvL]
  | x :: a, y :: b => by
    simp only [List.map_cons, eqvL, eqv, eqvL_strs a b]
    by_cases h : x = y <;> simp [h]
theorem any_none (qs : List (Option (Str × List D))) : ((qs.map partD).any fun z => eqv z .non) = qs.any (·.isNone) := by
  rw [List.any_map]
  congr 1
  funext p
  cases p with
  | none => simp [partD, eqv]
  | some q => simp [partD, eqv]
def snd2 : D → D
  | .tup [_, y] => y
  | _ => .non
def fst2 : D → D
  | .tup [x, _] => x
  | _ => .non
/-- what is known of the parts of a text -/
structure Qs (qs : List (Option (Str × List D))) : Prop where
  l : ∀ q ∈ qs, laid (partD q) = true
  d : ∀ q ∈ qs, dep (partD q) ≤ 3
  w : ∀ q ∈ qs, ∀ w l, q = some (w, l) → laid (.str w) = true
theorem Parts.qs {ls : List Str} {n c : Nat} (h : Parts ls n c) : Qs (ls.map partO) := by
  refine ⟨fun q hq => ?_, fun q hq => ?_, fun q hq w l e => ?_⟩
  · obtain ⟨x, hx, rfl⟩ := List.mem_map.mp hq
    exact (partD_good (h.mem hx)).1
  · obtain ⟨x, hx, rfl⟩ := List.mem_map.mp hq
    exact (partD_good (h.mem hx)).2
  · obtain ⟨x, hx, rfl⟩ := List.mem_map.mp hq
    exact laid_words (partO_good (h.mem hx) e).2
theorem Qs.lL {qs : List (Option (Str × List D))} (h : Qs qs) : laidL (qs.map partD) = true := laidL_of fun y hy => by
  obtain ⟨q, hq, rfl⟩ := List.mem_map.mp hy
  exact h.l q hq
theorem Qs.dL {qs : List (Option (Str × List D))} (h : Qs qs) : depL (qs.map partD) ≤ 3 := depL_le fun y hy => by
  obtain ⟨q, hq, rfl⟩ := List.mem_map.mp hy
  exact h.d q hq
theorem map_snd2 {qs : List (Option (Str × List D))} (h : qs.any (·.isNone) = false) : (qs.map partD).map snd2 = qs.map fun p => D.tup (p.getD ("", [])).2 := by
  rw [List.map_map]
  refine List.map_congr_left fun q hq => ?_
  rw [List.any_eq_false] at h
  obtain ⟨w, l, rfl⟩ := getD_part (Bool.eq_false_iff.mpr (h q hq))
  rfl
theorem map_fst2 {qs : List (Option (Str × List D))} (h : qs.any (·.isNone) = false) : (qs.map partD).map fst2 = (wordsM qs).map D.str := by
  rw [wordsM, List.map_map, List.map_map]
  refine List.map_congr_left fun q hq => ?_
  rw [List.any_eq_false] at h
  obtain ⟨w, l, rfl⟩ := getD_part (Bool.eq_false_iff.mpr (h q hq))
  rfl
theorem Qs.words {qs : List (Option (Str × List D))} (h : Qs qs) (h0 : qs.any (·.isNone) = false) : laid (.lst ((wordsM qs).map D.str)) = true := by
  rw [laid_lst]
  refine laidL_of fun y hy => ?_
  rw [wordsM, List.map_map] at hy
  obtain ⟨q, hq, rfl⟩ := List.mem_map.mp hy
  rw [List.any_eq_false] at h0
  obtain ⟨w, l, rfl⟩ := getD_part (Bool.eq_false_iff.mpr (h0 q hq))
  exact h.w _ hq w l rfl
theorem readL_none {qs : List (Option (Str × List D))} {j : Nat} (h : qs.findIdx? (·.isNone) = some j) : readL qs = .inl (j + 1) := by unfold readL; rw [h]
theorem readL_all {qs : List (Option (Str × List D))} (h : qs.any (·.isNone) = false) : readL qs = if wordsM qs = ([("sizes" : Str), "beside", "apart"] : List Str) ∧ isRuleD (ruleD qs) = true then .inr (ruleD qs) else .inl (qs.length + 1) := by
  have e : qs.findIdx? (·.isNone) = none := by
    rw [List.findIdx?_eq_none_iff]
    rw [List.any_eq_false] at h
    exact fun x hx => Bool.eq_false_iff.mpr (h x hx)
  unfold readL
  rw [e]
/-- the signs as a dict that is told -/
def sigK : List (Key × D) := mergeD [] ([((.inr "e" : Key), (-1 : Int)), (.inr "0", 0), (.inr "1", 1)].map fun p => (p.1, D.int p.2))
theorem sigK_is : sigK = [(.inr "e", .int (-1)), (.inr "0", .int 0), (.inr "1", .int 1)] := by
  unfold sigK mergeD
  simp only [List.map_cons, List.map_nil, List.foldl_cons, List.foldl_nil]
  have e1 : ∀ v : D, setK [] (.inr "e" : Key) v = [(.inr "e", v)] := fun v => rfl
  have n1 : decide ((.inr "e" : Key) = .inr "0") = false := by decide +kernel
  have n2 : decide ((.inr "e" : Key) = .inr "1") = false := by decide +kernel
  have n3 : decide ((.inr "0" : Key) = .inr "1") = false := by decide +kernel
  rw [e1]
  unfold setK
  simp [n1, n2, n3]
  first | done | (constructor <;> decide +kernel) | decide +kernel
theorem getK_sig (z : Str) : getK sigK (.inr z) = (sigs.lookup z).map D.int := by
  rw [sigK_is]
  unfold getK sigs
  have q : ∀ x : Str, decide ((.inr x : Key) = .inr z) = (z == x) := fun x => by
    by_cases h : z = x
    · subst h; simp
    · have h' : x ≠ z := fun e => h e.symm
      simp [h, h']
  simp only [List.find?_cons, List.lookup_cons, q, List.find?_nil, List.lookup_nil]
  cases z == ("e" : Str) <;> cases z == ("0" : Str) <;> cases z == ("1" : Str) <;> rfl
theorem filter_nil {α : Type} {p : α → Bool} {l : List α} : (l.filter p = []) ↔ l.all (fun x => !p x) = true := by
  rw [List.filter_eq_nil_iff, List.all_eq_true]
  exact ⟨fun h x hx => by simpa using h x hx, fun h x hx => by simpa using h x hx⟩
theorem eqv_nil (l : List D) : eqv (.lst l) (.lst []) = decide (l = []) := by
  cases l <;> simp [eqv, eqvL]
def notOne : D → Bool
  | .str p => !oneTwo p
  | _ => false
def badPair : D → Bool
  | .str p => !(signsOf p).isSome
  | _ => false
theorem all_notOne (ps : List Str) : ((ps.map D.str).all fun x => !notOne x) = ps.all oneTwo := by
  rw [List.all_map]
  congr 1
  funext p
  simp [notOne]
theorem all_badPair (ps : List Str) : ((ps.map D.str).all fun x => !badPair x) = ps.all fun p => (signsOf p).isSome := by
  rw [List.all_map]
  congr 1
  funext p
  simp [badPair]
theorem filt_laid {qs : List Str} (h : ∀ p ∈ qs, laid (.str p) = true) (f : D → Bool) : laid (.lst ((qs.map D.str).filter f)) = true := by
  rw [laid_lst]
  refine laidL_of fun y hy => ?_
  obtain ⟨p, hp, rfl⟩ := List.mem_map.mp (List.mem_filter.mp hy).1
  exact h p hp
theorem filt_one (qs : List Str) : decide ((qs.map D.str).filter notOne = []) = qs.all oneTwo := by
  rw [← all_notOne, Bool.eq_iff_iff, decide_eq_true_iff]
  exact filter_nil
theorem filt_bad (qs : List Str) : decide ((qs.map D.str).filter badPair = []) = qs.all fun p => (signsOf p).isSome := by
  rw [← all_badPair, Bool.eq_iff_iff, decide_eq_true_iff]
  exact filter_nil
/-- parts by their weight: signs and places together, commas together -/
structure Pt (ps : List Str) (w c : Nat) : Prop where
  ok : ∀ p ∈ ps, PyData.strOk p = true
  len : (ps.map (·.length)).sum + ps.length ≤ w
  com : (ps.map nC).sum ≤ c
theorem Parts.pt {ps : List Str} {n c : Nat} (h : Parts ps n c) : Pt ps (n + 1) c := ⟨h.ok, h.len, h.com⟩
theorem Pt.mono {ps : List Str} {w c w' c' : Nat} (h : Pt ps w c) (h1 : w ≤ w') (h2 : c ≤ c') : Pt ps w' c' := ⟨h.ok, Nat.le_trans h.len h1, Nat.le_trans h.com h2⟩
theorem Pt.app {a b : List Str} {w c w' c' : Nat} (h : Pt a w c) (h2 : Pt b w' c') : Pt (a ++ b) (w + w') (c + c') := by
  refine ⟨fun p hp => ?_, ?_, ?_⟩
  · rcases List.mem_append.mp hp with z | z
    · exact h.ok p z
    · exact h2.ok p z
  · have := h.len
    have := h2.len
    rw [List.map_append, List.sum_append, List.length_append]
    omega
  · have := h.com
    have := h2.com
    rw [List.map_append, List.sum_append]
    omega
theorem Pt.cut {ps : List Str} {w c : Nat} (h : Pt ps w c) (i : Nat) : ∃ w1 w2 c1 c2, w1 + w2 ≤ w ∧ c1 + c2 ≤ c ∧ Pt (ps.take i) w1 c1 ∧ Pt (ps.drop i) w2 c2 := by
  have e := List.take_append_drop i ps
  have h1 := h.len
  have h2 := h.com
  have h0 := h.ok
  rw [← e, List.map_append, List.sum_append, List.length_append] at h1
  rw [← e, List.map_append, List.sum_append] at h2
  refine ⟨((ps.take i).map (·.length)).sum + (ps.take i).length, ((ps.drop i).map (·.length)).sum + (ps.drop i).length, ((ps.take i).map nC).sum, ((ps.drop i).map nC).sum, by omega, h2, ⟨fun p hp => h0 p (List.mem_of_mem_take hp), Nat.le_refl _, Nat.le_refl _⟩, ⟨fun p hp => h0 p (List.mem_of_mem_drop hp), Nat.le_refl _, Nat.le_refl _⟩⟩
theorem Pt.one {s : Str} {n c : Nat} (h : Tx s n c) : Pt [s] (n + 1) c := ⟨fun p hp => by rw [List.mem_singleton.mp hp]; exact h.ok, by have := h.len; simp only [List.map_cons, List.map_nil, List.sum_cons, List.sum_nil, List.length_cons, List.length_nil]; omega, by have := h.com; simp only [List.map_cons, List.map_nil, List.sum_cons, List.sum_nil]; omega⟩
theorem Pt.take {ps : List Str} {w c : Nat} (h : Pt ps w c) (i : Nat) : Pt (ps.take i) w c := by
  obtain ⟨w1, w2, c1, c2, hw, hc, a, _⟩ := h.cut i
  exact a.mono (by omega) (by omega)
theorem Pt.drop {ps : List Str} {w c : Nat} (h : Pt ps w c) (i : Nat) : Pt (ps.drop i) w c := by
  obtain ⟨w1, w2, c1, c2, hw, hc, _, a⟩ := h.cut i
  exact a.mono (by omega) (by omega)
theorem Pt.count {ps : List Str} {w c : Nat} (h : Pt ps w c) : ps.length ≤ w := by have := h.len; omega
theorem Pt.join {ps : List Str} {w c : Nat} (h : Pt ps w c) {sep : Str} (h1 : sep.length = 1) (h2 : nC sep = 0) (h3 : PyData.strOk sep = true) : Tx (Txt.join sep ps) w c := tx_join h2 h3 h.ok (by have := h.len; rw [h1]; omega) h.com
/-- the place i of a list is another one -/
theorem Pt.at {ps : List Str} {w c : Nat} (h : Pt ps w c) {i : Nat} (hi : i < ps.length) : ∃ w1 c1, w1 + ps[i].length + 1 ≤ w ∧ c1 + nC ps[i] ≤ c ∧ ∀ {s : Str} {n d : Nat}, Tx s n d → Pt (ps.take i ++ [s] ++ ps.drop (i + 1)) (w1 + n + 1) (c1 + d) := by
  have e := List.take_append_drop i ps
  have e2 := List.drop_eq_getElem_cons hi
  have h1 := h.len
  have h2 := h.com
  have h0 := h.ok
  rw [← e, List.map_append, List.sum_append, List.length_append, e2, List.map_cons, List.sum_cons, List.length_cons] at h1
  rw [← e, List.map_append, List.sum_append, e2, List.map_cons, List.sum_cons] at h2
  have a1 : Pt (ps.take i) (((ps.take i).map (·.length)).sum + (ps.take i).length) ((ps.take i).map nC).sum := ⟨fun p hp => h0 p (List.mem_of_mem_take hp), Nat.le_refl _, Nat.le_refl _⟩
  have a2 : Pt (ps.drop (i + 1)) (((ps.drop (i + 1)).map (·.length)).sum + (ps.drop (i + 1)).length) ((ps.drop (i + 1)).map nC).sum := ⟨fun p hp => h0 p (List.mem_of_mem_drop hp), Nat.le_refl _, Nat.le_refl _⟩
  refine ⟨((ps.take i).map (·.length)).sum + (ps.take i).length + (((ps.drop (i + 1)).map (·.length)).sum + (ps.drop (i + 1)).length), ((ps.take i).map nC).sum + ((ps.drop (i + 1)).map nC).sum, by omega, by omega, fun {s n d} hs => ((a1.app (Pt.one hs)).app a2).mono (by omega) (by omega)⟩
theorem Pt.set {ps : List Str} {w c : Nat} (h : Pt ps w c) {i : Nat} (hi : i < ps.length) {s : Str} {n d : Nat} (hs : Tx s n d) : Pt (ps.set i s) (w + n) (c + d) := by
  obtain ⟨w1, c1, hw, hc, f⟩ := h.at hi
  have e : ps.set i s = ps.take i ++ [s] ++ ps.drop (i + 1) := by rw [List.set_eq_take_append_cons_drop, if_pos hi]; simp
  rw [e]
  exact (f hs).mono (by omega) (by omega)
theorem cutL_to (ps : List Str) (n : Nat) : cutD (ps.map D.str) none (some (n : Int)) = (ps.take n).map D.str := by rw [cut_to, List.map_take]
theorem cutL_from (ps : List Str) (n : Nat) : cutD (ps.map D.str) (some (n : Int)) none = (ps.drop n).map D.str := by rw [cut_from, List.map_drop]
theorem cutL_to1 (ps : List Str) (n : Nat) : cutD (ps.map D.str) none (some ((n : Int) + 1)) = (ps.take (n + 1)).map D.str := cutL_to ps (n + 1)
theorem cutL_from1 (ps : List Str) (n : Nat) : cutD (ps.map D.str) (some ((n : Int) + 1)) none = (ps.drop (n + 1)).map D.str := cutL_from ps (n + 1)

/-! ### plain law: hedges -/
/-- moves in a gap of n places, n of any sign -/
def movesZO (r : Ru) (n a b : Int) (kind : Nat) : List (Int × Int) := ((List.range n.toNat).filter fun (p : Nat) => canS r n a b kind p).map fun (p : Nat) => ((kind : Int), (p : Int))
def movesZ (r : Ru) (n a b : Int) : Nat → List (Int × Int)
  | 0 => []
  | k + 1 => movesZ r n a b k ++ movesZO r n a b k
theorem movesZO_len (r : Ru) (n a b : Int) (k : Nat) : (movesZO r n a b k).length ≤ n.toNat := by
  unfold movesZO
  rw [List.length_map]
  exact Nat.le_trans (List.length_filter_le _ _) (by simp)
theorem movesZ_len (r : Ru) (n a b : Int) : ∀ k, (movesZ r n a b k).length ≤ k * n.toNat
  | 0 => by simp [movesZ]
  | k + 1 => by
    have h1 := movesZ_len r n a b k
    have h2 := movesZO_len r n a b k
    simp only [movesZ, List.length_append]
    rw [Nat.succ_mul]
    omega
/-- a gap with the place at which it begins -/
abbrev Gp := Int × (Int × (Int × Int))
def gpD (g : Gp) : D := .tup [.int g.1, gD g.2.1 g.2.2.1 g.2.2.2]
def sizeK (r : Ru) (k : Int) : Int := r.sz.getD k.toNat 0
def gapsL (r : Ru) (n : Int) : Int → Int → List (Int × Int) → List Gp
  | b, l, [] => [(b, (n - b, (l, -1)))]
  | b, l, (p, k) :: t => (b, (p - b, (l, k))) :: gapsL r n (p + sizeK r k) k t
def canAny (r : Ru) (n : Int) (pl : List (Int × Int)) (kind : Nat) (place : Int) : Bool := (gapsL r n 0 (-1) pl).any fun g => canS r g.2.1 g.2.2.1 g.2.2.2 kind (place - g.1)
def openL (r : Ru) (n : Int) (pl : List (Int × Int)) : List Gp := (gapsL r n 0 (-1) pl).filter fun g => !(movesZ r g.2.1 g.2.2.1 g.2.2.2 r.sz.length).isEmpty
/-- a plant is put among the others -/
def insP (x : Int × Int) : List (Int × Int) → List (Int × Int)
  | [] => [x]
  | y :: t => if SrtO.lexB y x then y :: insP x t else x :: y :: t
theorem insP_perm (x : Int × Int) : ∀ l : List (Int × Int), (insP x l).Perm (l ++ [x])
  | [] => .refl _
  | y :: t => by
    unfold insP
    split
    · exact (insP_perm x t).cons y
    · exact (List.perm_append_comm (l₁ := [x]) (l₂ := y :: t))
abbrev SortedP (l : List (Int × Int)) : Prop := l.Pairwise fun x y => SrtO.lexB y x = false
theorem insP_sorted (x : Int × Int) : ∀ {l : List (Int × Int)}, SortedP l → SortedP (insP x l)
  | [], _ => List.pairwise_singleton _ _
  | y :: t, h => by
    obtain ⟨h1, h2⟩ := List.pairwise_cons.mp h
    unfold insP
    split
    · rename_i e
      refine List.pairwise_cons.mpr ⟨fun z hz => ?_, insP_sorted x h2⟩
      rcases List.mem_append.mp ((insP_perm x t).mem_iff.mp hz) with q | q
      · exact h1 z q
      · rw [List.mem_singleton.mp q]
        rw [SrtO.lexB_no]; rw [SrtO.lexB_iff] at e; omega
    · rename_i e
      have e : SrtO.lexB y x = false := by cases q : SrtO.lexB y x with | true => exact absurd q e | false => rfl
      refine List.pairwise_cons.mpr ⟨fun z hz => ?_, h⟩
      rcases List.mem_cons.mp hz with q | q
      · rw [q]; exact e
      · have := h1 z q
        rw [SrtO.lexB_no] at *; omega
theorem sorted_uniq : ∀ {l m : List (Int × Int)}, l.Perm m → SortedP l → SortedP m → l = m
  | [], m, p, _, _ => by have := p.length_eq; cases m with | nil => rfl | cons _ _ => simp at this
  | a :: l, [], p, _, _ => by have := p.length_eq; simp at this
  | a :: l, b :: m, p, h1, h2 => by
    obtain ⟨a1, a2⟩ := List.pairwise_cons.mp h1
    obtain ⟨b1, b2⟩ := List.pairwise_cons.mp h2
    have e : a = b := by
      rcases List.mem_cons.mp (p.mem_iff.mp (List.mem_cons_self (a := a) (l := l))) with q | q
      · exact q
      · rcases List.mem_cons.mp (p.mem_iff.mpr (List.mem_cons_self (a := b) (l := m))) with q2 | q2
        · exact q2.symm
        · have x1 := a1 b q2
          have x2 := b1 a q
          rw [SrtO.lexB_no] at x1 x2
          exact Prod.ext (by omega) (by omega)
    subst e
    rw [sorted_uniq (List.Perm.cons_inv p) a2 b2]
/-! the state of a hedge -/
structure HSt where
  pl : List (Int × Int)
  wd : List Str
  pa : List (List (Int × Int) × List Str)
@[reducible] def plD (l : List (Int × Int)) : D := .tup (l.map pD)
@[reducible] def wdD (l : List Str) : D := .tup (l.map D.str)
@[reducible] def paD (l : List (List (Int × Int) × List Str)) : D := .tup (l.map fun z => .tup [plD z.1, wdD z.2])
@[reducible] def HSt.D (s : HSt) : D := .tup [plD s.pl, wdD s.wd, paD s.pa]
/-- the fields of a hedge -/
@[reducible] def hfs (r : Ru) (n : Int) (s : HSt) : List (Str × DL.D) := [("base", .tup [r.D, .int n]), ("now", s.D)]
@[reducible] def hO (C : Addr) (r : Ru) (n : Int) (s : HSt) : O := .ins C (hfs r n s)
/-- the word of a plant -/
def plW (k p : Int) : Str := ((Str.empty ++ (toString k : Str)) ++ (" at " : Str)) ++ (toString p : Str)
theorem plW_ok {k p : Int} (hk : 0 ≤ k ∧ k < 2) (hp : 0 ≤ p ∧ p ≤ 59) : k.natAbs.log2 < 1920 ∧ p.natAbs.log2 < 1920 ∧ (Str.empty ++ (toString k : Str)).length ≤ sizeLine ∧ ((Str.empty ++ (toString k : Str)) ++ (" at " : Str)).length ≤ sizeLine ∧ (plW k p).length ≤ sizeLine ∧ PyData.strOk (plW k p) = true := by
  have key : ∀ (a : Fin 2) (b : Fin 60), (decide (((a.val : Int)).natAbs.log2 < 1920) && (decide (((b.val : Int)).natAbs.log2 < 1920) && (decide ((Str.empty ++ (toString (a.val : Int) : Str)).length ≤ 1000) && (decide (((Str.empty ++ (toString (a.val : Int) : Str)) ++ (" at " : Str)).length ≤ 1000) && (decide ((plW (a.val : Int) (b.val : Int)).length ≤ 1000) && PyData.strOk (plW (a.val : Int) (b.val : Int))))))) = true := by decide +kernel
  obtain ⟨a, rfl⟩ : ∃ a : Fin 2, k = a.val := ⟨⟨k.toNat, by omega⟩, by show k = (k.toNat : Int); omega⟩
  obtain ⟨b, rfl⟩ : ∃ b : Fin 60, p = b.val := ⟨⟨p.toNat, by omega⟩, by show p = (p.toNat : Int); omega⟩
  have h := key a b
  simp only [Bool.and_eq_true, decide_eq_true_eq] at h
  obtain ⟨h1, h2, h3, h4, h5, h6⟩ := h
  exact ⟨h1, h2, le_line (by omega), le_line (by omega), le_line (by omega), h6⟩
/-- a hedge's state is one that plants have made -/
structure HOk (r : Ru) (n : Int) (s : HSt) : Prop where
  n0 : 0 ≤ n
  n1 : n ≤ 60
  kd : ∀ p ∈ s.pl, 0 ≤ p.2 ∧ p.2 < r.sz.length
  pc : ∀ p ∈ s.pl, 0 ≤ p.1 ∧ p.1 ≤ 59
  so : SortedP s.pl
  lp : s.pl.length = s.wd.length
  la : s.pa.length = s.wd.length
  lw : s.wd.length ≤ 30
  sl : r.sz.length ≤ 2
  sw : s.wd.all PyData.strOk = true
  sp : ∀ z ∈ s.pa, z.2.all PyData.strOk = true
  zs : ∀ z ∈ r.sz, 1 ≤ z ∧ z ≤ 2
def plS (s : HSt) (k p : Int) : HSt := ⟨insP (p, k) s.pl, s.wd ++ [plW k p], s.pa ++ [(s.pl, s.wd)]⟩
theorem HOk.plant {r : Ru} {n : Int} {s : HSt} (h : HOk r n s) {k p : Int} (hk : 0 ≤ k ∧ k < r.sz.length) (hp : 0 ≤ p ∧ p ≤ n - 1) (l2 : s.wd.length < 30) : HOk r n (plS s k p) := by
  have hm : ∀ q, q ∈ insP (p, k) s.pl → q ∈ s.pl ∨ q = (p, k) := fun q hq => by
    rcases List.mem_append.mp ((insP_perm (p, k) s.pl).mem_iff.mp hq) with z | z
    · exact .inl z
    · exact .inr (List.mem_singleton.mp z)
  refine ⟨h.n0, h.n1, fun q hq => ?_, fun q hq => ?_, insP_sorted _ h.so, ?_, ?_, ?_, h.sl, ?_, ?_, ?_⟩
  · rcases hm q hq with z | z
    · exact h.kd q z
    · rw [z]; exact hk
  · rcases hm q hq with z | z
    · exact h.pc q z
    · rw [z]; have := h.n1; exact ⟨hp.1, by show p ≤ 59; omega⟩
  · show (insP (p, k) s.pl).length = (s.wd ++ [plW k p]).length
    rw [(insP_perm (p, k) s.pl).length_eq]; simp [h.lp]
  · show (s.pa ++ [(s.pl, s.wd)]).length = (s.wd ++ [plW k p]).length
    simp [h.la]
  · show (s.wd ++ [plW k p]).length ≤ 30
    simp; omega
  · show (s.wd ++ [plW k p]).all PyData.strOk = true
    have := h.n1
    have := h.sl
    obtain ⟨_, _, _, _, _, e⟩ := plW_ok (k := k) (p := p) ⟨hk.1, by omega⟩ ⟨hp.1, by omega⟩
    rw [List.all_append, h.sw]; simp [e]
  · intro z hz
    rcases List.mem_append.mp hz with q | q
    · exact h.sp z q
    · rw [List.mem_singleton.mp q]; exact h.sw
  · exact h.zs
abbrev h0 : HSt := ⟨[], [], []⟩
theorem laid_plD (l : List (Int × Int)) : laid (plD l) = true := by rw [laid_tup]; exact laidL_pDs l
theorem laid_wdD {l : List Str} (h : l.all PyData.strOk = true) : laid (wdD l) = true := by
  rw [laid_tup]
  induction l with
  | nil => simp [laidL]
  | cons a l ih =>
    simp only [List.all_cons, Bool.and_eq_true] at h
    simp only [List.map_cons, laidL_cons, laid, Bool.and_eq_true]
    exact ⟨h.1, ih h.2⟩
theorem HOk.bare {r : Ru} {n : Int} (e0 : 0 ≤ n) (e1 : n ≤ 60) (e2 : r.sz.length ≤ 2) (e3 : ∀ z ∈ r.sz, 1 ≤ z ∧ z ≤ 2) : HOk r n h0 := ⟨e0, e1, fun p h => (nomatch h), fun p h => (nomatch h), .nil, rfl, rfl, Nat.zero_le _, e2, rfl, fun p h => (nomatch h), e3⟩
theorem laid_paD {l : List (List (Int × Int) × List Str)} (h : ∀ z ∈ l, z.2.all PyData.strOk = true) : laid (paD l) = true := by
  rw [laid_tup]
  refine laidL_of fun x hx => ?_
  obtain ⟨z, hz, rfl⟩ := List.mem_map.mp hx
  rw [laid_tup, laidL_cons, laidL_cons, laidL_nil, laid_plD, laid_wdD (h z hz)]
  rfl
/-- what a plant comes to -/
inductive IRes where
  | ok (s : HSt)
  | bad
  | many
def movP (r : Ru) (n : Int) (s : HSt) (kd pd : D) : IRes := match kd, pd with
  | .int k, .int p => if (0 ≤ k ∧ k ≤ (r.sz.length : Int) - 1) ∧ (0 ≤ p ∧ p ≤ n - 1) then (if canAny r n s.pl k.toNat p = true then (if 30 ≤ s.wd.length then .many else .ok (plS s k p)) else .bad) else .bad
  | _, _ => .bad
theorem movP_ok {r : Ru} {n : Int} {s s' : HSt} {kd pd : D} (h : HOk r n s) (e : movP r n s kd pd = .ok s') : HOk r n s' := by
  unfold movP at e
  split at e
  · split at e
    · rename_i h1
      split at e
      · split at e
        · cases e
        · cases e; exact h.plant ⟨h1.1.1, by omega⟩ h1.2 (by omega)
      · cases e
    · cases e
  · cases e
def movM (r : Ru) (n : Int) (s : HSt) (x : D) : IRes := match x with
  | .tup [kd, pd] => movP r n s kd pd
  | _ => .bad
def addM (r : Ru) (n : Int) : HSt → List D → IRes
  | s, [] => .ok s
  | s, x :: xs => match movM r n s x with
    | .ok s' => addM r n s' xs
    | .bad => .bad
    | .many => .many
theorem movM_ok {r : Ru} {n : Int} {s s' : HSt} {x : D} (h : HOk r n s) (e : movM r n s x = .ok s') : HOk r n s' := by
  unfold movM at e
  split at e
  · exact movP_ok h e
  · cases e
theorem sizeK_rng {r : Ru} (zs : ∀ z ∈ r.sz, 1 ≤ z ∧ z ≤ 2) (k : Int) : 0 ≤ sizeK r k ∧ sizeK r k ≤ 2 := by
  unfold sizeK
  by_cases h : k.toNat < r.sz.length
  · rw [List.getD_eq_getElem?_getD, List.getElem?_eq_getElem h]
    have := zs _ (List.getElem_mem h)
    simp; omega
  · rw [List.getD_eq_getElem?_getD, List.getElem?_eq_none (by omega)]
    simp
theorem gapsL_rng {r : Ru} {n : Int} (zs : ∀ z ∈ r.sz, 1 ≤ z ∧ z ≤ 2) (n0 : 0 ≤ n) (n1 : n ≤ 60) : ∀ {pl : List (Int × Int)} {b l : Int}, 0 ≤ b → b ≤ 61 → (∀ p ∈ pl, 0 ≤ p.1 ∧ p.1 ≤ 59) → ∀ g ∈ gapsL r n b l pl, -100 ≤ g.2.1 ∧ g.2.1 ≤ 100
  | [], b, l, b0, b1, _, g, hg => by
    rw [gapsL, List.mem_singleton] at hg
    subst hg
    show -100 ≤ n - b ∧ n - b ≤ 100
    omega
  | (p, k) :: t, b, l, b0, b1, h, g, hg => by
    rw [gapsL, List.mem_cons] at hg
    have hp : 0 ≤ p ∧ p ≤ 59 := h (p, k) List.mem_cons_self
    rcases hg with rfl | hg
    · show -100 ≤ p - b ∧ p - b ≤ 100
      omega
    · have := sizeK_rng zs k
      exact gapsL_rng zs n0 n1 (by omega) (by omega) (fun q hq => h q (List.mem_cons_of_mem _ hq)) g hg
/-- what is wished of it -/
def resW (cl : String → Addr) (k : HSt → Prop) (kx : Value → Fs → Prop) : IRes → Prop
  | .ok s => k s
  | .bad => kx (.ref (cl "InvalidMove")) []
  | .many => kx (.ref (cl "TooMany")) [("limit", .int 30)]
theorem resW_ok {cl : String → Addr} {k : HSt → Prop} {kx : Value → Fs → Prop} {s : HSt} (h : k s) : resW cl k kx (.ok s) := h
theorem resW_bad {cl : String → Addr} {k : HSt → Prop} {kx : Value → Fs → Prop} (h : kx (.ref (cl "InvalidMove")) []) : resW cl k kx .bad := h
theorem resW_many {cl : String → Addr} {k : HSt → Prop} {kx : Value → Fs → Prop} (h : kx (.ref (cl "TooMany")) [("limit", .int 30)]) : resW cl k kx .many := h
/-! what a taker's clauses give -/
theorem hd_w1 {K : PySem.W.Frag} {k : KE} {M : Mm} {cls c : Value} {fs : Fs} {s : Str} {r : List ClW} (e : PySem.W.exmOne K cls c = some true) (h : k (.str s) M) : hdDA K k M cls fs (.word c s :: r) := ⟨true, e, ⟨h⟩⟩
theorem hd_w0 {K : PySem.W.Frag} {k : KE} {M : Mm} {cls c : Value} {fs : Fs} {s : Str} {r : List ClW} (e : PySem.W.exmOne K cls c = some false) (h : hdDA K k M cls fs r) : hdDA K k M cls fs (.word c s :: r) := ⟨false, e, ⟨h⟩⟩
theorem hd_f1 {K : PySem.W.Frag} {k : KE} {M : Mm} {c : Value} {C : Addr} {fs : Fs} {f : Str} {v : D} {r : List ClW} (e : PySem.W.exmOne K (.ref C) c = some true) (hv : fs.lookup f = some v) (h : k v M) : hdDA K k M (.ref C) fs (.fld c C f :: r) := ⟨true, e, ⟨rfl, v, hv, h⟩⟩
/-- kinds as numbers -/
theorem kd_nat {r : Ru} {k : Int} (h : 0 ≤ k ∧ k < r.sz.length) : ∃ m : Nat, k = m ∧ m < r.sz.length := ⟨k.toNat, by omega, by omega⟩
theorem sizeK_nat (r : Ru) (m : Nat) : sizeK r m = r.sz.getD m 0 := by unfold sizeK; simp
theorem cut_last {α : Type} (l : List α) (x : α) : cutD (l ++ [x]) none (some (-1)) = l := by
  unfold cutD
  have e : HT.sIx (l ++ [x]).length (l ++ [x]).length (some (-1)) = l.length := by
    show (if (-1 : Int) < 0 then ((-1 : Int) + ((l ++ [x]).length : Int)).toNat else min (-1 : Int).toNat (l ++ [x]).length) = _
    rw [if_pos (by decide), List.length_append, List.length_singleton]
    omega
  rw [e, HT.sIx_none, List.drop_zero, Nat.sub_zero, List.take_append_of_le_length (Nat.le_refl _), List.take_length]
theorem paD_app (l : List (List (Int × Int) × List Str)) (z : List (Int × Int) × List Str) : paD (l ++ [z]) = D.tup ((l.map fun z => D.tup [plD z.1, wdD z.2]) ++ [.tup [plD z.1, wdD z.2]]) := by
  unfold paD; rw [List.map_append]; rfl

end DL
namespace DL
open PySem PySem.Spec PyProof.Rows L2
variable [TL : TabList]
def sp_is_number : SpD := fun ds M k kx => ∃ v lo hi, ds = [v, .int lo, .int hi] ∧ laid v = true ∧ k (.bl (isNum v lo hi)) M

def sp_is_pair : SpD := fun ds M k kx => ∃ many v, ds = [.int many, v] ∧ laid v = true ∧ k (.bl (isPairD many v)) M

def sp_are_pairs : SpD := fun ds M k kx => ∃ many v, ds = [.int many, v] ∧ laid v = true ∧ k (.bl (arePairsD many v)) M

def sp_is_rule_of : SpD := fun ds M k kx => ∃ v, ds = [v] ∧ laid v = true ∧ k (.bl (isRuleD v)) M
theorem isRuleD_len {l : List D} (h : l.length ≠ 3) : isRuleD (.tup l) = false := by
  match l, h with
  | [], _ => rfl
  | [_], _ => rfl
  | [_, _], _ => rfl
  | _ :: _ :: _ :: _ :: _, _ => rfl
  | [_, _, _], h => exact absurd rfl h

def sp_need_rule (cl : String → Addr) : SpD := fun ds M k kx => ∃ v, ds = [v] ∧ laid v = true ∧ (isRuleD v = true → k .non M) ∧ (isRuleD v = false → kx (.ref (cl "InvalidRule")) [] M)

def BadR (v : D) (no : Prop) (yes : Ru → Prop) : Prop := (isRuleD v = false ∧ no) ∨ ∃ r : Ru, v = r.D ∧ RuOk r ∧ yes r
theorem BadR.imp {v : D} {no no' : Prop} {yes yes' : Ru → Prop} (h : BadR v no yes) (a : no → no') (b : ∀ r, yes r → yes' r) : BadR v no' yes' := h.elim (fun q => .inl ⟨q.1, a q.2⟩) fun ⟨r, e, o, q⟩ => .inr ⟨r, e, o, b r q⟩
def sp_need_number (cl : String → Addr) : SpD := fun ds M k kx => ∃ v lo hi, ds = [v, .int lo, .int hi] ∧ laid v = true ∧ (isNum v lo hi = true → k .non M) ∧ (isNum v lo hi = false → kx (.ref (cl "InvalidNumber")) [] M)

def sp_may_touch : SpD := fun ds M k kx => ∃ rr p a b, ds = [rr, .int p, .int a, .int b] ∧ ∃ r : Ru, rr = r.D ∧ k (.bl (touch r p a b)) M

def sp_can_stand : SpD := fun ds M k kx => ∃ rr g kd p, ds = [rr, g, kd, .int p] ∧ ∃ (r : Ru) (n a b : Int) (kind : Nat), rr = r.D ∧ g = gD n a b ∧ kd = .int kind ∧ kind < r.sz.length ∧ k (.bl (canS r n a b kind p)) M

def sp_moves_in : SpD := fun ds M k kx => ∃ rr g, ds = [rr, g] ∧ ∃ (r : Ru) (n a b : Int), rr = r.D ∧ g = gD n a b ∧ r.sz.length ≤ 2 ∧ -100 ≤ n ∧ n ≤ 100 ∧ ∀ q, M q = none → k (.ref q) (put M q (.lst ((movesZ r n a b r.sz.length).map pD)))
theorem movesZO_rng (r : Ru) (n a b : Int) (k : Nat) : ((rngD 0 n.toNat).filter (pI (canS r n a b k))).map (fun x => D.tup [.int k, x]) = (movesZO r n a b k).map pD := by
  rw [rngD_fm]
  unfold movesZO
  rw [List.map_map]
  congr 1
  · funext p; simp [pD]
  · congr 1; funext p; simp [pI]

@[reducible] def tO (C a : Addr) (s : HSt) : O := .ins C [("hedge", .ref a), ("old", s.D)]
def sp_Trial___init__ (cl : String → Addr) : SpD := fun ds M k kx => ∃ t x, ds = [t, x] ∧ ∃ (t' a : Addr) (r : Ru) (n : Int) (s : HSt), t = .ref t' ∧ x = .ref a ∧ t' ≠ a ∧ M t' = some (.ins (cl "Trial") []) ∧ M a = some (hO (cl "Hedge") r n s) ∧ k .non (put M t' (tO (cl "Trial") a s))

def sp_Trial___enter__ (cl : String → Addr) : SpD := fun ds M k kx => ∃ t, ds = [t] ∧ ∃ (t' a : Addr) (s : HSt), t = .ref t' ∧ M t' = some (tO (cl "Trial") a s) ∧ k (.ref a) M

def sp_Trial___exit__ (cl : String → Addr) : SpD := fun ds M k kx => ∃ t kd v tr, ds = [t, kd, v, tr] ∧ ∃ (t' a : Addr) (r : Ru) (n : Int) (s s0 : HSt), t = .ref t' ∧ t' ≠ a ∧ M t' = some (tO (cl "Trial") a s0) ∧ M a = some (hO (cl "Hedge") r n s) ∧
  ((kd = .non ∧ k .non M) ∨ (∃ c, kd = .ref c ∧ k .non (put M a (hO (cl "Hedge") r n s0))))

def sp_Hedge___init__ (cl : String → Addr) : SpD := fun ds M k kx => ∃ h rd nd, ds = [h, rd, nd] ∧ ∃ (a : Addr), h = .ref a ∧ M a = some (.ins (cl "Hedge") []) ∧ laid rd = true ∧ laid nd = true ∧ (isRuleD rd = false → kx (.ref (cl "InvalidRule")) [] M) ∧
  (isRuleD rd = true → isNum nd 0 60 = false → kx (.ref (cl "InvalidNumber")) [] M) ∧ (isRuleD rd = true → ∀ (r : Ru) (n : Int), rd = r.D → nd = .int n → 0 ≤ n → n ≤ 60 → k .non (put M a (hO (cl "Hedge") r n h0)))

def sp_Hedge_turn_to (cl : String → Addr) : SpD := fun ds M k kx => ∃ h pd wd, ds = [h, pd, wd] ∧ ∃ (a : Addr) (r : Ru) (n : Int) (s : HSt) (pl : List (Int × Int)) (wl : List Str), h = .ref a ∧ pd = plD pl ∧ wd = wdD wl ∧ M a = some (hO (cl "Hedge") r n s) ∧ s.pa.length ≤ 1000 ∧
  (30 < wl.length → kx (.ref (cl "TooMany")) [("limit", .int 30)] M) ∧ (wl.length ≤ 30 → k .non (put M a (hO (cl "Hedge") r n ⟨pl, wl, s.pa ++ [(s.pl, s.wd)]⟩)))
theorem paD_snoc (l : List (List (Int × Int) × List Str)) (z : List (Int × Int) × List Str) : D.tup ((l.map fun z => D.tup [plD z.1, wdD z.2]) ++ [.tup [plD z.1, wdD z.2]]) = paD (l ++ [z]) := by
  unfold paD; rw [List.map_append]; rfl

def sp_Hedge_plant (cl : String → Addr) : SpD := fun ds M k kx => ∃ h kd pd, ds = [h, kd, pd] ∧ ∃ (a : Addr) (r : Ru) (n : Int) (s : HSt), h = .ref a ∧ M a = some (hO (cl "Hedge") r n s) ∧ HOk r n s ∧ laid kd = true ∧ laid pd = true ∧
  resW cl (fun s' => k (.int (openL r n s'.pl).length) (put M a (hO (cl "Hedge") r n s'))) (fun c fs => kx c fs M) (movP r n s kd pd)
theorem movP_bad1 {r : Ru} {n : Int} {s : HSt} {kd pd : D} (h : isNum kd 0 ((r.sz.length : Int) - 1) = false) : movP r n s kd pd = .bad := by
  unfold movP
  split
  · rename_i k p
    rw [if_neg]
    intro h2
    rw [isNum_iff.mpr ⟨k, rfl, h2.1.1, h2.1.2⟩] at h
    cases h
  · rfl
theorem movP_bad2 {r : Ru} {n : Int} {s : HSt} {kd pd : D} (h : isNum pd 0 (n - 1) = false) : movP r n s kd pd = .bad := by
  unfold movP
  split
  · rename_i k p
    rw [if_neg]
    intro h2
    rw [isNum_iff.mpr ⟨p, rfl, h2.2.1, h2.2.2⟩] at h
    cases h
  · rfl
theorem movP_in {r : Ru} {n : Int} {s : HSt} {k p : Int} (h1 : 0 ≤ k ∧ k ≤ (r.sz.length : Int) - 1) (h2 : 0 ≤ p ∧ p ≤ n - 1) : movP r n s (.int k) (.int p) = if canAny r n s.pl k.toNat p = true then (if 30 ≤ s.wd.length then .many else .ok (plS s k p)) else .bad := by
  show (if _ then _ else _) = _
  rw [if_pos ⟨h1, h2⟩]
def plnF (r : Ru) (kn : Nat) (p : Int) : D → D
  | .tup [.int g0, .tup [.int n, .int a, .int b]] => .bl (canS r n a b kn (p - g0))
  | x => x
theorem plnF_map (r : Ru) (kn : Nat) (p : Int) (gs : List Gp) : (gs.map gpD).map (plnF r kn p) = (gs.map fun g => canS r g.2.1 g.2.2.1 g.2.2.2 kn (p - g.1)).map D.bl := by
  rw [List.map_map, List.map_map]
  rfl
theorem any_id {α : Type} (f : α → Bool) (l : List α) : (l.map f).any id = l.any f := by
  rw [List.any_map]; rfl

def sp_Hedge___iadd__ (cl : String → Addr) : SpD := fun ds M k kx => ∃ h v, ds = [h, v] ∧ ∃ (a : Addr) (r : Ru) (n : Int) (s : HSt), h = .ref a ∧ M a = some (hO (cl "Hedge") r n s) ∧ HOk r n s ∧ laid v = true ∧
  ((∀ l, v ≠ .tup l) → kx (.ref (cl "InvalidMove")) [] M) ∧ (∀ l, v = .tup l → l.length ≤ 100 ∧ resW cl (fun s' => k (.ref a) (put M a (hO (cl "Hedge") r n s'))) (fun c fs => kx c fs M) (addM r n s l))
theorem le_back {M M' : Mm} {a : Addr} {o : O} (h : Le M M') (e : M a = some o) : Le M (DL.put M' a o) := fun b u q => by
  by_cases z : b = a
  · subst z; rw [e] at q; cases q; exact put_same
  · rw [put_ne z]; exact h b u q
theorem laidL_two {x : D} {xs : List D} (h : laidL (x :: xs) = true) : laid x = true ∧ laidL xs = true := by
  rw [laidL_cons, Bool.and_eq_true] at h; exact h
theorem exit_bad {cl : String → Addr} {x a C : Addr} {r : Ru} {n : Int} {s s1 : HSt} {M : Mm} {Z : Mm → Prop} (hxa : x ≠ a) (h : Z (put (put M x (tO (cl "Trial") a s)) a (hO (cl "Hedge") r n s))) :
    ∃ cd, clsD (Value.ref C) = some cd ∧ ∀ (a1 : Addr) (tb : D), (tb = D.non ∨ ∃ T, tb = D.ref T) → sp_Trial___exit__ cl [D.ref x, cd, D.ref a1, tb] (put (put M x (tO (cl "Trial") a s)) a (hO (cl "Hedge") r n s1)) (fun d M' => d = .non ∧ Z M') kxF :=
  ⟨.ref C, rfl, fun a1 tb _ => ⟨_, _, _, _, rfl, x, a, r, n, s1, s, rfl, hxa, (put_ne hxa).trans put_same, put_same, .inr ⟨C, rfl, rfl, by rw [put_put]; exact h⟩⟩⟩

def sp_Hedge_plants (cl : String → Addr) : SpD := fun ds M k kx => ∃ h, ds = [h] ∧ ∃ (a : Addr) (r : Ru) (n : Int) (s : HSt), h = .ref a ∧ M a = some (hO (cl "Hedge") r n s) ∧ k (plD s.pl) M

def sp_Hedge_undo (cl : String → Addr) : SpD := fun ds M k kx => ∃ h, ds = [h] ∧ ∃ (a : Addr) (r : Ru) (n : Int) (s : HSt), h = .ref a ∧ M a = some (hO (cl "Hedge") r n s) ∧ (∀ z ∈ s.pa, z.2.all PyData.strOk = true) ∧ s.pa.length ≤ 1000 ∧
  (s.pa = [] → kx (.ref (cl "NothingToUndo")) [] M) ∧ (∀ l pl wd, s.pa = l ++ [(pl, wd)] → k .non (put M a (hO (cl "Hedge") r n ⟨pl, wd, l⟩)))

def sp_Hedge_log (cl : String → Addr) : SpGD := fun ds M k => ∃ h, ds = [h] ∧ ∃ (a : Addr) (r : Ru) (n : Int) (s : HSt), h = .ref a ∧ M a = some (hO (cl "Hedge") r n s) ∧ s.wd = [] ∧ k [] M

def sp_Hedge___getitem__ (cl : String → Addr) : SpD := fun ds M k kx => ∃ h d, ds = [h, d] ∧ ∃ (a : Addr) (r : Ru) (n : Int) (s : HSt), h = .ref a ∧ M a = some (hO (cl "Hedge") r n s) ∧ laid d = true ∧ isNum d 0 (n - 1) = false ∧ kx (.ref (cl "InvalidIndex")) [] M

def sp_Hedge___len__ (cl : String → Addr) : SpD := fun ds M k kx => ∃ h, ds = [h] ∧ ∃ (a : Addr) (r : Ru) (n : Int) (s : HSt), h = .ref a ∧ M a = some (hO (cl "Hedge") r n s) ∧ k (.int s.wd.length) M

def sp_gaps_of : SpD := fun ds M k kx => ∃ rr nd pd, ds = [rr, nd, pd] ∧ ∃ (r : Ru) (n : Int) (pl : List (Int × Int)), rr = r.D ∧ nd = .int n ∧ pd = plD pl ∧ (∀ p ∈ pl, 0 ≤ p.2 ∧ p.2 < r.sz.length) ∧ pl.length ≤ 100 ∧ k (.lst ((gapsL r n 0 (-1) pl).map gpD)) M
theorem gapsL_len (r : Ru) (n : Int) : ∀ (b l : Int) (pl : List (Int × Int)), (gapsL r n b l pl).length = pl.length + 1
  | _, _, [] => rfl
  | b, l, (p, k) :: t => by simp only [gapsL, List.length_cons, gapsL_len r n _ _ t]

def sp_open_gaps : SpD := fun ds M k kx => ∃ rr gd, ds = [rr, gd] ∧ ∃ (r : Ru) (gs : List Gp), rr = r.D ∧ gd = .lst (gs.map gpD) ∧ r.sz.length ≤ 2 ∧ (∀ g ∈ gs, -100 ≤ g.2.1 ∧ g.2.1 ≤ 100) ∧ gs.length ≤ 100 ∧
  k (.lst ((gs.filter fun g => !(movesZ r g.2.1 g.2.2.1 g.2.2.2 r.sz.length).isEmpty).map fun g => gD g.2.1 g.2.2.1 g.2.2.2)) M
def opnB (r : Ru) : D → Bool
  | .tup [_, .tup [.int n, .int a, .int b]] => !(movesZ r n a b r.sz.length).isEmpty
  | _ => false
def opnF : D → D
  | .tup [_, x] => x
  | x => x
theorem opn_fm (r : Ru) (gs : List Gp) : ((gs.map gpD).filter (opnB r)).map opnF = (gs.filter fun g => !(movesZ r g.2.1 g.2.2.1 g.2.2.2 r.sz.length).isEmpty).map fun g => gD g.2.1 g.2.2.1 g.2.2.2 := by
  rw [List.filter_map, List.map_map]
  rfl

def sp__law_hoe : SpD := fun ds M k kx => ∃ c s, ds = [.int c, .int s] ∧ (0 ≤ s ∧ s ≤ 1000) ∧ ∀ q, M q = none → ∀ g t, 0 ≤ t → t < 2147483648 → k (.ref q) (put M q (hoeO g t))

def sp__law_dig : SpD := fun ds M k kx => ∃ a m, ds = [.ref a, .int m] ∧ Hoe a M ∧ (0 < m ∧ m < 1073741824) ∧ ∀ r M', 0 ≤ r → r < m → Dug a M M' → k (.int r) M'

@[reducible] def itemsOf : D → Option (List D)
  | .lst l => some l
  | .tup l => some l
  | _ => none
def sp__law_pick : SpD := fun ds M k kx => ∃ a t, ds = [.ref a, t] ∧ ∃ l, itemsOf t = some l ∧ Hoe a M ∧ 0 < l.length ∧ l.length < 1000000 ∧ ∀ x ∈ l, ∀ M', Dug a M M' → k x M'
theorem atI_in {l : List D} {r : Int} (h1 : 0 ≤ r) (h2 : r < l.length) : ∃ x, atI l r = some x ∧ x ∈ l := by
  obtain ⟨n, rfl⟩ := Int.eq_ofNat_of_zero_le h1
  have hn : n < l.length := by omega
  exact ⟨l[n], atI_nat (List.getElem?_eq_getElem hn), List.getElem_mem hn⟩

def kindsZ : Nat → List (Int × Int)
  | 1 => [(-1, 0), (0, -1), (0, 0)]
  | _ => [(-1, 0), (-1, 1), (0, -1), (0, 0), (0, 1), (1, -1), (1, 0), (1, 1)]
def sp__law_kinds : SpD := fun ds M k kx => ∃ m : Int, ds = [.int m] ∧ (m = 1 ∨ m = 2) ∧ k (.lst ((kindsZ m.toNat).map pD)) M

def sp__law_rule : SpD := fun ds M k kx => ∃ a m, ds = [.ref a, .int m] ∧ Hoe a M ∧ (m = 1 ∨ m = 2) ∧ ∀ r : Ru, isRuleD r.D = true → r.sz.length ≤ m → 1 ≤ r.sz.length → (∀ n ∈ r.sz, 1 ≤ n ∧ n ≤ 2) → r.be.length ≤ 8 → r.ap.length ≤ 8 → ∀ M', Dug a M M' → k r.D M'
theorem ascD_of : ∀ {l : List (Int × Int)}, l.Pairwise (fun x y => ltP (pD x) (pD y) = true) → ascD (l.map pD) = true
  | [], _ => rfl
  | [_], _ => rfl
  | x :: y :: r, h => by
    rw [List.pairwise_cons] at h
    have h2 := ascD_of (l := y :: r) h.2
    simp only [List.map_cons, ascD, Bool.and_eq_true] at h2 ⊢
    exact ⟨h.1 y List.mem_cons_self, h2⟩
theorem kinds_pairs {m : Nat} (hm : m = 1 ∨ m = 2) {l : List (Int × Int)} (h : l.Sublist (kindsZ m)) : arePairsD m (.tup (l.map pD)) = true := by
  have h1 : ∀ p ∈ kindsZ m, isPairD m (pD p) = true := by rcases hm with rfl | rfl <;> decide
  have h2 : (kindsZ m).Pairwise (fun x y => ltP (pD x) (pD y) = true) := by rcases hm with rfl | rfl <;> decide
  simp only [arePairsD, Bool.and_eq_true, List.all_map, List.all_eq_true]
  exact ⟨fun p hp => h1 p (h.subset hp), ascD_of (h2.sublist h)⟩
theorem isRuleD_mk {r : Ru} (h1 : 1 ≤ r.sz.length) (h2 : r.sz.length ≤ 2) (h3 : ∀ n ∈ r.sz, 1 ≤ n ∧ n ≤ 2) (h4 : arePairsD r.sz.length (.tup (r.be.map pD)) = true) (h5 : arePairsD r.sz.length (.tup (r.ap.map pD)) = true) : isRuleD r.D = true := by
  simp only [isRuleD, isRule3, List.length_map, h4, h5, Bool.and_true, Bool.and_eq_true, decide_eq_true_eq, List.all_map, List.all_eq_true]
  exact ⟨⟨h1, h2⟩, fun n hn => by simpa [isNum] using h3 n hn⟩

def sp__law_int : SpD := fun ds M k kx => ∃ v lo hi, ds = [v, .int lo, .int hi] ∧ laid v = true ∧ k (.bl (isNum v lo hi)) M

def sp__law_are_pairs : SpD := fun ds M k kx => ∃ m v, ds = [.int m, v] ∧ laid v = true ∧ (∀ l, v = .tup l → l.length < 64) ∧ k (.bl (arePairsD m v)) M
theorem ascD_iff : ∀ {l : List (Int × Int)}, ascD (l.map pD) = true ↔ l.Pairwise (fun x y => SrtO.lexB x y = true)
  | [] => by simp [ascD]
  | [_] => by simp [ascD]
  | x :: y :: r => by
    have ih := ascD_iff (l := y :: r)
    simp only [List.map_cons] at ih
    simp only [List.map_cons, ascD, Bool.and_eq_true, ltP_lex]
    rw [ih, List.pairwise_cons (a := x)]
    refine ⟨fun ⟨h1, h2⟩ => ⟨fun z hz => ?_, h2⟩, fun ⟨h1, h2⟩ => ⟨h1 y List.mem_cons_self, h2⟩⟩
    rcases List.mem_cons.mp hz with rfl | hz
    · exact h1
    · exact lexB_tr h1 ((List.pairwise_cons.mp h2).1 z hz)
theorem eqvL_pDs_iff : ∀ {l m : List (Int × Int)}, eqvL (l.map pD) (m.map pD) = decide (l = m)
  | [], [] => by simp [eqvL]
  | [], _ :: _ => by simp [eqvL]
  | _ :: _, [] => by simp [eqvL]
  | a :: l, b :: m => by
    simp only [List.map_cons, eqvL, eqv_pD, eqvL_pDs_iff (l := l) (m := m)]
    by_cases h : a = b <;> simp [h]

def sp__law_is_rule : SpD := fun ds M k kx => ∃ v, ds = [v] ∧ laid v = true ∧ wid v < 64 ∧ k (.bl (isRuleD v)) M
theorem wid_len {l : List D} (h : wid (.tup l) < 64) : l.length < 64 := by simp only [wid] at h; omega
theorem widL_mem : ∀ {l : List D} {n : Nat}, widL l < n → ∀ x ∈ l, wid x < n
  | y :: l, n, h, x, hx => by
    simp only [widL] at h
    rcases List.mem_cons.mp hx with rfl | hx
    · omega
    · exact widL_mem (l := l) (by omega) x hx
theorem wid_mem {l : List D} (h : wid (.tup l) < 64) : ∀ x ∈ l, wid x < 64 := widL_mem (by simp only [wid] at h; omega)
theorem filter_nil_all {l : List D} {p : D → Bool} : (l.filter fun x => !p x) = [] ↔ l.all p = true := by
  rw [List.filter_eq_nil_iff, List.all_eq_true]
  exact ⟨fun h x hx => by simpa using h x hx, fun h x hx => by simpa using h x hx⟩

def sp__law_odd : SpD := fun ds M k kx => ∃ a, ds = [.ref a] ∧ Hoe a M ∧ ∀ v, laid v = true → dep v ≤ 3 → siz v ≤ 20 → wid v ≤ 8 → ∀ M', Dug a M M' → k v M'
theorem odd_ok {l : List D} (h : (l.all fun y => laid y && decide (dep y ≤ 3) && decide (siz y ≤ 20) && decide (wid y ≤ 8)) = true) {x : D} (hx : x ∈ l) : laid x = true ∧ dep x ≤ 3 ∧ siz x ≤ 20 ∧ wid x ≤ 8 := by
  have z := List.all_eq_true.mp h x hx
  simp only [Bool.and_eq_true, decide_eq_true_eq] at z
  exact ⟨z.1.1.1, z.1.1.2, z.1.2, z.2⟩

def sp__law_bent (d : Nat) : SpD := fun ds M k kx => ∃ a v, ds = [.ref a, v] ∧ laid v = true ∧ dep v < d ∧ siz v ≤ 100000 ∧ Hoe a M ∧ ∀ v', Bent v v' → ∀ M', Dug a M M' → k v' M'

def sp__law_grow (cl : String → Addr) : SpD := fun ds M k kx => ∃ h v, ds = [h, v] ∧ ∃ (a : Addr) (r : Ru) (n : Int) (s : HSt), h = .ref a ∧ M a = some (hO (cl "Hedge") r n s) ∧ HOk r n s ∧ laid v = true ∧
  ((∀ l, v ≠ .tup l) → kx (.ref (cl "InvalidMove")) [] M) ∧ (∀ l, v = .tup l → l.length ≤ 100 ∧ resW cl (fun s' => k (.ref a) (put M a (hO (cl "Hedge") r n s'))) (fun c fs => kx c fs M) (addM r n s l))

def IRes.st : IRes → HSt
  | .ok s => s
  | _ => h0
def IRes.isOk : IRes → Bool
  | .ok _ => true
  | _ => false
def IRes.isBad : IRes → Bool
  | .bad => true
  | _ => false
def IRes.isMany : IRes → Bool
  | .many => true
  | _ => false
theorem IRes.of_ok {i : IRes} (h : i.isOk = true) : i = .ok i.st := by cases i with | ok s => rfl | _ => cases h
theorem IRes.of_bad {i : IRes} (h : i.isBad = true) : i = .bad := by cases i with | bad => rfl | _ => cases h
theorem IRes.of_many {i : IRes} (h : i.isMany = true) : i = .many := by cases i with | many => rfl | _ => cases h
def evL : List (Int × Int) := [(-1, 0), (0, -1), (0, 0)]
def evR : Ru := ⟨[1], evL, evL⟩
def evF : D → D
  | .int i => .tup [.int 0, .int (2 * i)]
  | x => x
def evM : List D := (rngD 0 29).map evF
def ev29 : HSt := (addM evR 60 h0 evM).st
theorem ev29_ok : addM evR 60 h0 evM = .ok ev29 := IRes.of_ok (by decide +kernel)
theorem ev29_len : (ev29.wd.length : Int) = 29 := by decide +kernel
def ev30 : HSt := (movP evR 60 ev29 (.int 0) (.int 59)).st
theorem ev30_ok : movP evR 60 ev29 (.int 0) (.int 59) = .ok ev30 := IRes.of_ok (by decide +kernel)
theorem ev30_len : (ev30.wd.length : Int) = 30 := by decide +kernel
theorem ev30_open : ((openL evR 60 ev30.pl).length : Int) = 29 := by decide +kernel
theorem ev30_m : movP evR 60 ev30 (.int 0) (.int 1) = .many := IRes.of_many (by decide +kernel)
theorem ev30_b : movP evR 60 ev30 (.int 0) (.int 0) = .bad := IRes.of_bad (by decide +kernel)
theorem ev30_b1 : movP evR 60 ev30 (.int 1) (.int 1) = .bad := IRes.of_bad (by decide +kernel)
theorem ev29_m : addM evR 60 ev29 [.tup [.int 0, .int 1], .tup [.int 0, .int 3]] = .many := IRes.of_many (by decide +kernel)
theorem ev29_b : addM evR 60 ev29 [.tup [.int 0, .int 1], .tup [.int 0, .int 1]] = .bad := IRes.of_bad (by decide +kernel)
theorem ev30_pa : ev30.pa = ev29.pa ++ [(ev29.pl, ev29.wd)] := by decide +kernel
def ev30' : HSt := (movP evR 60 ev29 (.int 0) (.int 1)).st
theorem ev30'_ok : movP evR 60 ev29 (.int 0) (.int 1) = .ok ev30' := IRes.of_ok (by decide +kernel)
theorem ev30'_open : ((openL evR 60 ev30'.pl).length : Int) = 28 := by decide +kernel
theorem evR_zs : ∀ z ∈ evR.sz, 1 ≤ z ∧ z ≤ 2 := by decide
theorem addM_ok {r : Ru} {n : Int} : ∀ {l : List D} {s s' : HSt}, HOk r n s → addM r n s l = .ok s' → HOk r n s'
  | [], s, s', h, e => by cases e; exact h
  | x :: xs, s, s', h, e => by
    unfold addM at e
    cases q : movM r n s x with
    | ok s1 => rw [q] at e; exact addM_ok (movM_ok h q) e
    | bad => rw [q] at e; cases e
    | many => rw [q] at e; cases e
theorem ev0_h : HOk evR 60 h0 := HOk.bare (by decide) (by decide) (by decide) evR_zs
theorem ev29_h : HOk evR 60 ev29 := addM_ok ev0_h ev29_ok
theorem ev30_h : HOk evR 60 ev30 := movP_ok ev29_h ev30_ok
def sp__law_full_right (cl : String → Addr) : SpD := fun ds M k kx => ds = [] ∧ ∀ M', k (.bl true) M'

def sp_law (cl : String → Addr) : SpD := fun ds M k kx => ∃ d : D, ds = [d] ∧ ∃ ns : List Int, ns.length ≤ 63 ∧ (d = .lst (ns.map D.int) ∨ ∃ a, d = .ref a ∧ M a = some (.lst (ns.map D.int))) ∧ ∀ M', k (.bl true) M'
theorem sizL_pDs : ∀ l : List (Int × Int), sizL (l.map pD) = 3 * l.length
  | [] => by simp [sizL]
  | p :: l => by simp only [List.map_cons, sizL, sizL_pDs l, pD, siz, List.length_cons]; omega
theorem sizL_ints : ∀ l : List Int, sizL (l.map D.int) = l.length
  | [] => by simp [sizL]
  | p :: l => by simp only [List.map_cons, sizL, sizL_ints l, siz, List.length_cons]; omega
theorem widL_pDs : ∀ l : List (Int × Int), widL (l.map pD) ≤ 2
  | [] => by simp [widL]
  | p :: l => by have := widL_pDs l; simp only [List.map_cons, widL, pD, wid, List.length_cons, List.length_nil]; omega
theorem widL_ints : ∀ l : List Int, widL (l.map D.int) = 0
  | [] => by simp [widL]
  | p :: l => by simp only [List.map_cons, widL, widL_ints l, wid]; omega
theorem depL_ints : ∀ l : List Int, depL (l.map D.int) = 0
  | [] => by simp [depL]
  | p :: l => by simp only [List.map_cons, depL, depL_ints l, dep]; omega
structure Mod (v : D) (j : Nat) : Prop where
  l : laid v = true
  d : dep v ≤ 3 + 3 * j
  s : siz v ≤ 80 * 3 ^ j
  w : wid v ≤ 8 + j
theorem Mod.ru {r : Ru} (h1 : r.sz.length ≤ 2) (h2 : r.be.length ≤ 8) (h3 : r.ap.length ≤ 8) : Mod r.D 0 := by
  have a1 := depL_pDs r.be
  have a2 := depL_pDs r.ap
  have a3 := depL_ints r.sz
  have b1 := sizL_pDs r.be
  have b2 := sizL_pDs r.ap
  have b3 := sizL_ints r.sz
  have c1 := widL_pDs r.be
  have c2 := widL_pDs r.ap
  have c3 := widL_ints r.sz
  refine ⟨laid_RuD r, ?_, ?_, ?_⟩
  · simp only [Ru.D, dep, depL]; omega
  · simp only [Ru.D, siz, sizL]; omega
  · simp only [Ru.D, wid, widL, List.length_map, List.length_cons, List.length_nil]; omega

end DL
namespace DL
open PySem PySem.Spec PyProof.Rows L2
variable [TL : TabList]
local macro_rules | `(tactic| walk_at "w") => `(tactic| (refine Hold.out ?_; (with_reducible conv => (arg 1; whnf)); refine Hold.mk ?_))
local macro_rules | `(tactic| walk_at "lit") => `(tactic| (with_reducible refine And.intro (le_line (by simp only [List.length_cons, List.length_nil, List.length_append]; decide)) ?_))
local macro_rules | `(tactic| walk_at "get") => `(tactic| (first | assumption | exact put_same | (refine (put_ne (by assumption)).trans ?_; walk_at "get") | (refine (put_ne (Ne.symm (by assumption))).trans ?_; walk_at "get")))
local macro_rules | `(tactic| walk_at "side") => `(tactic| (first | (with_reducible refine sd_mulR (by decide) ?_) | (with_reducible refine sd_mulL (by decide) ?_) | (with_reducible refine sd_div (by decide) ?_) | (with_reducible refine sd_pow (by decide) ?_) | (with_reducible refine sd_pos (by decide) ?_) | (with_reducible refine And.intro (by assumption) ?_) | (with_reducible refine sd_eq (by first | decide +kernel | (simp [laid, laidL]; done) | fail) (by first | decide +kernel | (simp [laid, laidL]; done) | fail) (by first | decide +kernel | (simp [dep, depL]; done) | fail) ?_) | (with_reducible refine sd_in (by first | decide +kernel | (simp [laid, laidL]; done) | fail) (by first | decide +kernel | (simp [laid, laidL]; done) | fail) (by first | decide +kernel | (simp [dep, depL]; done) | fail) ?_)))
local macro_rules | `(tactic| walk_at "step") => `(tactic| (first | (with_reducible refine sel_t ?_) | (with_reducible refine sel_f ?_) | (with_reducible refine sel_not ?_) | (with_reducible refine And.intro True.intro ?_) | (with_reducible refine lenIn_i fun _ => ?_) | (with_reducible refine onAt_some (by with_unfolding_all rfl) ?_) | walk_at "lit" | walk_at "side" | (with_reducible refine sd_get (by walk_at "get") ?_) | (with_reducible refine sd_has (by walk_at "get") ?_) | (with_reducible refine sd_insN (by walk_at "get") (by with_unfolding_all rfl) ?_) | (with_reducible refine sd_ins (by walk_at "get") ?_) | (with_reducible refine sd_900 (by with_unfolding_all rfl) ?_) | (with_reducible refine sd_ix rfl ?_) | (with_reducible refine sel_ct (by decide +kernel) ?_) | (with_reducible refine sel_cf (by decide +kernel) ?_)))
local macro_rules | `(tactic| walk_at "run") => `(tactic| (walk_at "w"; try (walk_at "step"; walk_at "run")))
local macro_rules | `(tactic| walk_at "roll") => `(tactic| ((first | (with_reducible refine Eq.mpr (wLcL_cons ..) ?_) | (with_reducible refine Eq.mpr (wLcL_nil ..) ?_) | (with_reducible refine Eq.mpr (wForL_cons ..) ?_) | (with_reducible refine Eq.mpr (wForL_nil ..) ?_) | (with_reducible refine Eq.mpr (wLcL2_cons ..) ?_) | (with_reducible refine Eq.mpr (wLcL2_nil ..) ?_) | (with_reducible refine Eq.mpr (wLcI_cons ..) ?_) | (with_reducible refine Eq.mpr (wLcI_nil ..) ?_) | (with_reducible refine And.intro (by simp only [List.length_append, List.length_cons, List.length_nil]; decide) ?_)); walk_at "run"))
local macro_rules | `(tactic| walk_at "rolls") => `(tactic| (walk_at "roll"; try walk_at "rolls"))
section
variable {P : Program} {w : World} {K : PySem.W.Frag} {mg : Str → Option Value} {base : Heap} {cl : String → Addr}
theorem ok_is_number {f : Addr} {fd : FuncData} (F : Fun K "is_number" "is_number" st_is_number f fd) (T : Txt K mg cl) (U : Txw P w K mg base cl)  : FnOk P w K mg base (L2.CX P w) 1 f fd ["value", "low", "high"] (toSp K sp_is_number) := by
  refine fn_okD (n := 3) F sc_is_number rfl (fun ds M k kx h => by obtain ⟨_, _, _, rfl, _⟩ := h; rfl) fun cdv A outer s H E hr => ⟨_, (ss_one (s_ret (e_and (e_isi isi_int (by rfl) T.z_isinstance (by rfl) T.z_int bt_int (ev 0)) (e_and (e_not (e_isi isi_bool (by rfl) T.z_isinstance (by rfl) T.z_bool bt_bool (ev 0))) (e_and1 (e_chain o_le o_le (ev 1) (ev 0) (ev 2))))))), ?_⟩
  intro ds M k kx h
  obtain ⟨v, lo, hi, rfl, hv, hk⟩ := h
  cases v with
  | int i =>
    walk_at "run"
    refine sel_dec (fun h => ?_) fun h => ?_
    · walk_at "run"
      exact ⟨_, .refl _, by simpa [isNum, h] using hk⟩
    · walk_at "run"
      exact ⟨_, .refl _, by simpa [isNum, h] using hk⟩
  | bl b => walk_at "run"; exact ⟨_, .refl _, hk⟩
  | ref a => simp [laid] at hv
  | ty a => simp [laid] at hv
  | exc _ _ _ _ => simp [laid] at hv
  | lam _ _ _ => simp [laid] at hv
  | _ => walk_at "run"; exact ⟨_, .refl _, hk⟩
end

section
variable {P : Program} {w : World} {K : PySem.W.Frag} {mg : Str → Option Value} {base : Heap} {cl : String → Addr}
theorem ok_is_pair {f : Addr} {fd : FuncData} (F : Fun K "is_pair" "is_pair" st_is_pair f fd) (T : Txt K mg cl) (U : Txw P w K mg base cl) (C_is_number : Callee P w K mg base "is_number" 1 sp_is_number) : FnOk P w K mg base (L2.CX P w) 2 f fd ["many", "value"] (toSp K sp_is_pair) := by
  refine fn_okD (n := 3) F sc_is_pair rfl (fun ds M k kx h => by obtain ⟨_, _, rfl, _⟩ := h; rfl) fun cdv A outer s H E hr => ⟨_, (ss_cons (s_if (t_bool (b_or (t_not (t_val (e_isi isi_tup (by rfl) T.z_isinstance (by rfl) T.z_tuple bt_tuple (ev 1)))) (b_or1 (t_cmp (o_ne hr) (e_callB c_len (by rfl) T.z_len bt_len (a_cons (ev 1) a_nil)) e_int (nomark _))))) (ss_one (s_ret e_bl)) ss_nil)
      (ss_one (s_ret (e_and (e_callB (c_all rfl) (by rfl) T.z_all bt_all (a_cons (e_lc (t := (.one 2)) (vs := [2]) rfl sc_is_pair.nd (i_seq (ev 1)) (blkOk_by (own := [("one", 2)]) (N := ["many", "value", "one"]) (sc := defScope st_is_pair) (by decide +kernel)) (fun _ _ _ _ _ => (pg_name (i := 2) sc_is_pair.nd rfl (by first | exact Or.inl rfl | exact Or.inr rfl))) (fun _ _ _ _ _ => n_nil) (fun _ _ _ _ _ => (e_call C_is_number (hr.mono (by omega)) (by rfl) (a_cons (ev 2) (a_cons (e_gint (by rfl) T.c_END) (a_cons (e_op o_sub (ev 0) e_int) a_nil))))) (by decide)) a_nil)) (e_and1 (e_cmp (o_ne hr) (ev 1) (e_tup (a_cons (e_gint (by rfl) T.c_END) (a_cons (e_gint (by rfl) T.c_END) a_nil))) (nomark _))))))), ?_⟩
  intro ds M k kx h
  obtain ⟨many, v, rfl, hv, hk⟩ := h
  cases v with
  | tup l =>
    walk_at "run"
    refine sel_dec (fun h => ?_) fun h => ?_
    · obtain ⟨a, b, rfl⟩ := len2i h
      simp only [laid_tup, laidL_cons, laidL_nil, Bool.and_eq_true, and_true] at hv
      walk_at "run"
      walk_at "run"
      refine ⟨_, _, _, rfl, hv.1, ?_⟩
      walk_at "run"
      refine ⟨_, _, _, rfl, hv.2, ?_⟩
      walk_at "run"
      refine ⟨[_, _], rfl, ?_⟩
      walk_at "run"
      refine sel_by (fun h => ?_) fun h => ?_
      · walk_at "run"
        refine ⟨okEq_r (by simp [laid_tup, laidL_cons, laidL_nil, hv.1, hv.2]) (by simp [laid, laidL]) (by simp [dep, depL]), ?_⟩
        walk_at "run"
        simp at h
        exact ⟨_, .refl _, by rw [bnot_eq]; simpa [isPairD, h.1, h.2] using hk⟩
      · exact ⟨_, .refl _, by have e : isPairD many (.tup [a, b]) = false := by (simp [List.all] at h; simp [isPairD]; intro x; simp_all)
                              rw [e] at hk; exact hk⟩
    · walk_at "run"
      exact ⟨_, .refl _, by rw [isPairD_len (by omega)] at hk; exact hk⟩
  | ref a => simp [laid] at hv
  | ty a => simp [laid] at hv
  | exc _ _ _ _ => simp [laid] at hv
  | lam _ _ _ => simp [laid] at hv
  | _ => walk_at "run"; exact ⟨_, .refl _, hk⟩
end

section
variable {P : Program} {w : World} {K : PySem.W.Frag} {mg : Str → Option Value} {base : Heap} {cl : String → Addr}
theorem ok_are_pairs {f : Addr} {fd : FuncData} (F : Fun K "are_pairs" "are_pairs" st_are_pairs f fd) (T : Txt K mg cl) (U : Txw P w K mg base cl) (C_is_pair : Callee P w K mg base "is_pair" 2 sp_is_pair) : FnOk P w K mg base (L2.CX P w) 3 f fd ["many", "value"] (toSp K sp_are_pairs) := by
  refine fn_okD (n := 4) F sc_are_pairs rfl (fun ds M k kx h => by obtain ⟨_, _, rfl, _⟩ := h; rfl) fun cdv A outer s H E hr => ⟨_, (ss_cons (s_if (t_bool (b_or (t_not (t_val (e_isi isi_tup (by rfl) T.z_isinstance (by rfl) T.z_tuple bt_tuple (ev 1)))) (b_or1 (t_not (t_val (e_callB (c_all rfl) (by rfl) T.z_all bt_all (a_cons (e_lc (t := (.one 2)) (vs := [2]) rfl sc_are_pairs.nd (i_seq (ev 1)) (blkOk_by (own := [("one", 2)]) (N := ["many", "value", "one", "other"]) (sc := defScope st_are_pairs) (by decide +kernel)) (fun _ _ _ _ _ => (pg_name (i := 2) sc_are_pairs.nd rfl (by first | exact Or.inl rfl | exact Or.inr rfl))) (fun _ _ _ _ _ => n_nil) (fun _ _ _ _ _ => (e_call C_is_pair (hr.mono (by omega)) (by rfl) (a_cons (ev 0) (a_cons (ev 2) a_nil)))) (by decide)) a_nil))))))) (ss_one (s_ret e_bl)) ss_nil)
      (ss_one (s_ret (e_callB (c_all rfl) (by rfl) T.z_all bt_all (a_cons (e_lc (t := (.many [2, 3])) (vs := [2, 3]) rfl sc_are_pairs.nd (i_zip (by rfl) T.z_zip (a_cons (ev 1) (a_cons (e_sl (ev 1) (so_some e_int) so_none) a_nil))) (blkOk_by (own := [("one", 2), ("other", 3)]) (N := ["many", "value", "one", "other"]) (sc := defScope st_are_pairs) (by decide +kernel)) (fun _ _ _ _ _ => (pg_tup rfl (pgs_cons (pg_name (i := 2) sc_are_pairs.nd rfl (by first | exact Or.inl rfl | exact Or.inr rfl)) (pgs_cons (pg_name (i := 3) sc_are_pairs.nd rfl (by first | exact Or.inl rfl | exact Or.inr rfl)) pgs_nil)))) (fun _ _ _ _ _ => n_nil) (fun _ _ _ _ _ => (e_cmp (o_lt hr) (ev 2) (ev 3) (nomark _))) (by decide)) a_nil))))), ?_⟩
  intro ds M k kx h
  obtain ⟨many, v, rfl, hv, hk⟩ := h
  cases v with
  | tup l =>
    rw [laid_tup] at hv
    walk_at "run"
    refine lc_map (fun x => .bl (isPairD many x)) (fun x hx K1 h1 => ?_) ?_
    · walk_at "run"
      exact ⟨_, _, rfl, laidL_mem hv x hx, h1⟩
    · walk_at "run"
      refine ⟨l.map (isPairD many), map_bl _ _, ?_⟩
      walk_at "run"
      rw [all_id_map]
      refine sel_by (fun h => ?_) fun h => ?_
      · walk_at "run"
        rw [cut_1]
        have hz : (zipD l (l.drop 1)).length ≤ sizeLine := by rw [zipD_len]; omega
        refine ⟨hz, ?_⟩
        refine lc_map (fun z => .bl (ltZ z)) (fun z hz K1 h1 => ?_) ?_
        · obtain ⟨x, y, rfl, hx, hy⟩ := zip_mem hz
          obtain ⟨a, b, rfl, _⟩ := isPairD_shape (List.all_eq_true.mp h x hx)
          obtain ⟨c, d, rfl, _⟩ := isPairD_shape (List.all_eq_true.mp h y (List.mem_of_mem_drop hy))
          walk_at "run"
          exact ⟨[a, b], [c, d], rfl, rfl, h1⟩
        · walk_at "run"
          refine ⟨_, map_bl _ _, ?_⟩
          rw [all_id_map, zip_asc]
          exact ⟨_, .refl _, by simpa [arePairsD, h] using hk⟩
      · walk_at "run"
        exact ⟨_, .refl _, by simpa [arePairsD, h] using hk⟩
  | ref a => simp [laid] at hv
  | ty a => simp [laid] at hv
  | exc _ _ _ _ => simp [laid] at hv
  | lam _ _ _ => simp [laid] at hv
  | _ => walk_at "run"; exact ⟨_, .refl _, hk⟩
end

section
variable {P : Program} {w : World} {K : PySem.W.Frag} {mg : Str → Option Value} {base : Heap} {cl : String → Addr}
theorem ok_is_rule_of {f : Addr} {fd : FuncData} (F : Fun K "is_rule_of" "is_rule_of" st_is_rule_of f fd) (T : Txt K mg cl) (U : Txw P w K mg base cl) (C_is_number : Callee P w K mg base "is_number" 1 sp_is_number) (C_are_pairs : Callee P w K mg base "are_pairs" 3 sp_are_pairs) : FnOk P w K mg base (L2.CX P w) 4 f fd ["value"] (toSp K sp_is_rule_of) := by
  refine fn_okD (n := 3) F sc_is_rule_of rfl (fun ds M k kx h => by obtain ⟨_, rfl, _⟩ := h; rfl) fun cdv A outer s H E hr => ⟨_, (ss_cons (s_if (t_bool (b_or (t_not (t_val (e_isi isi_tup (by rfl) T.z_isinstance (by rfl) T.z_tuple bt_tuple (ev 0)))) (b_or (t_cmp (o_ne hr) (e_callB c_len (by rfl) T.z_len bt_len (a_cons (ev 0) a_nil)) e_int (nomark _)) (b_or1 (t_not (t_val (e_isi isi_tup (by rfl) T.z_isinstance (by rfl) T.z_tuple bt_tuple (e_ix (fun _ _ => rfl) (ev 0) e_int)))))))) (ss_one (s_ret e_bl)) ss_nil)
      (ss_cons (s_if (t_bool (b_or (t_not (t_chain o_le o_le e_int (e_callB c_len (by rfl) T.z_len bt_len (a_cons (e_ix (fun _ _ => rfl) (ev 0) e_int) a_nil)) e_int)) (b_or1 (t_not (t_val (e_callB (c_all rfl) (by rfl) T.z_all bt_all (a_cons (e_lc (t := (.one 1)) (vs := [1]) rfl sc_is_rule_of.nd (i_seq (e_ix (fun _ _ => rfl) (ev 0) e_int)) (blkOk_by (own := [("size", 1)]) (N := ["value", "size", "pairs"]) (sc := defScope st_is_rule_of) (by decide +kernel)) (fun _ _ _ _ _ => (pg_name (i := 1) sc_is_rule_of.nd rfl (by first | exact Or.inl rfl | exact Or.inr rfl))) (fun _ _ _ _ _ => n_nil) (fun _ _ _ _ _ => (e_call C_is_number (hr.mono (by omega)) (by rfl) (a_cons (ev 1) (a_cons e_int (a_cons e_int a_nil))))) (by decide)) a_nil))))))) (ss_one (s_ret e_bl)) ss_nil)
      (ss_one (s_ret (e_callB (c_all rfl) (by rfl) T.z_all bt_all (a_cons (e_lc (t := (.one 2)) (vs := [2]) rfl sc_is_rule_of.nd (i_seq (e_sl (ev 0) (so_some e_int) so_none)) (blkOk_by (own := [("pairs", 2)]) (N := ["value", "size", "pairs"]) (sc := defScope st_is_rule_of) (by decide +kernel)) (fun _ _ _ _ _ => (pg_name (i := 2) sc_is_rule_of.nd rfl (by first | exact Or.inl rfl | exact Or.inr rfl))) (fun _ _ _ _ _ => n_nil) (fun _ _ _ _ _ => (e_call C_are_pairs (hr.mono (by omega)) (by rfl) (a_cons (e_callB c_len (by rfl) T.z_len bt_len (a_cons (e_ix (fun _ _ => rfl) (ev 0) e_int) a_nil)) (a_cons (ev 2) a_nil)))) (by decide)) a_nil)))))), ?_⟩
  intro ds M k kx h
  obtain ⟨v, rfl, hv, hk⟩ := h
  cases v with
  | tup l =>
    rw [laid_tup] at hv
    walk_at "run"
    refine sel_dec (fun h => ?_) fun h => ?_
    · obtain ⟨a, b, c, rfl⟩ := len3i h
      simp only [laidL_cons, laidL_nil, Bool.and_eq_true, and_true] at hv
      walk_at "run"
      have la := hv.1
      cases a with
      | tup s =>
        rw [laid_tup] at la
        walk_at "run"
        refine sel_dec (fun h1 => ?_) fun h1 => ?_
        · walk_at "run"
          refine sel_dec (fun h2 => ?_) fun h2 => ?_
          · walk_at "run"
            refine lc_map (fun x => .bl (isNum x 1 2)) (fun x hx K1 hk1 => ?_) ?_
            · walk_at "run"
              exact ⟨_, _, _, rfl, laidL_mem la x hx, hk1⟩
            · walk_at "run"
              refine ⟨_, map_bl _ _, ?_⟩
              walk_at "run"
              rw [all_id_map]
              refine sel_by (fun h3 => ?_) fun h3 => ?_
              · walk_at "run"
                walk_at "roll"
                refine ⟨_, _, rfl, hv.2.1, ?_⟩
                walk_at "roll"
                refine ⟨_, _, rfl, hv.2.2, ?_⟩
                walk_at "rolls"
                refine ⟨[_, _], rfl, ?_⟩
                exact ⟨_, .refl _, by (have e1 : (1 : Nat) ≤ s.length := by omega
                                       have e2 : s.length ≤ 2 := by omega
                                       simpa [isRuleD, isRule3, e1, e2, h3] using hk)⟩
              · walk_at "run"
                exact ⟨_, .refl _, by simpa [isRuleD, isRule3, h3] using hk⟩
          · walk_at "run"
            exact ⟨_, .refl _, by (have e2 : ¬ s.length ≤ 2 := by omega
                                   simpa [isRuleD, isRule3, e2] using hk)⟩
        · walk_at "run"
          exact ⟨_, .refl _, by (have e2 : ¬ 1 ≤ s.length := by omega
                                 simpa [isRuleD, isRule3, e2] using hk)⟩
      | ref a => simp [laid] at la
      | ty a => simp [laid] at la
      | exc _ _ _ _ => simp [laid] at la
      | lam _ _ _ => simp [laid] at la
      | _ => walk_at "run"; exact ⟨_, .refl _, hk⟩
    · walk_at "run"
      exact ⟨_, .refl _, by rw [isRuleD_len (by omega)] at hk; exact hk⟩
  | ref a => simp [laid] at hv
  | ty a => simp [laid] at hv
  | exc _ _ _ _ => simp [laid] at hv
  | lam _ _ _ => simp [laid] at hv
  | _ => walk_at "run"; exact ⟨_, .refl _, hk⟩
end

section
variable {P : Program} {w : World} {K : PySem.W.Frag} {mg : Str → Option Value} {base : Heap} {cl : String → Addr}
theorem ok_need_rule {f : Addr} {fd : FuncData} (F : Fun K "need_rule" "need_rule" st_need_rule f fd) (T : Txt K mg cl) (U : Txw P w K mg base cl) (C_is_rule_of : Callee P w K mg base "is_rule_of" 4 sp_is_rule_of) : FnOk P w K mg base (L2.CX P w) 5 f fd ["rule"] (toSp K (sp_need_rule cl)) := by
  refine fn_okD (n := 1) F sc_need_rule rfl (fun ds M k kx h => by obtain ⟨_, rfl, _⟩ := h; rfl) fun cdv A outer s H E hr => ⟨_, (ss_one (s_if (t_not (t_val (e_call C_is_rule_of (hr.mono (by omega)) (by rfl) (a_cons (ev 0) a_nil)))) (ss_one (s_raise T.x_InvalidRule rfl (by rfl))) ss_nil)), ?_⟩
  intro ds M k kx h
  obtain ⟨v, rfl, hv, h1, h2⟩ := h
  walk_at "run"
  refine ⟨_, rfl, hv, ?_⟩
  walk_at "run"
  refine sel_by (fun h => ?_) fun h => ?_
  · walk_at "run"
    exact ⟨_, .refl _, h1 h⟩
  · walk_at "run"
    exact ⟨_, .refl _, h2 h⟩
end

section
variable {P : Program} {w : World} {K : PySem.W.Frag} {mg : Str → Option Value} {base : Heap} {cl : String → Addr}
theorem ok_need_number {f : Addr} {fd : FuncData} (F : Fun K "need_number" "need_number" st_need_number f fd) (T : Txt K mg cl) (U : Txw P w K mg base cl) (C_is_number : Callee P w K mg base "is_number" 1 sp_is_number) : FnOk P w K mg base (L2.CX P w) 2 f fd ["value", "low", "high"] (toSp K (sp_need_number cl)) := by
  refine fn_okD (n := 3) F sc_need_number rfl (fun ds M k kx h => by obtain ⟨_, _, _, rfl, _⟩ := h; rfl) fun cdv A outer s H E hr => ⟨_, (ss_one (s_if (t_not (t_val (e_call C_is_number (hr.mono (by omega)) (by rfl) (a_cons (ev 0) (a_cons (ev 1) (a_cons (ev 2) a_nil)))))) (ss_one (s_raise T.x_InvalidNumber rfl (by rfl))) ss_nil)), ?_⟩
  intro ds M k kx h
  obtain ⟨v, lo, hi, rfl, hv, h1, h2⟩ := h
  walk_at "run"
  refine ⟨_, _, _, rfl, hv, ?_⟩
  walk_at "run"
  refine sel_by (fun h => ?_) fun h => ?_
  · walk_at "run"
    exact ⟨_, .refl _, h1 h⟩
  · walk_at "run"
    exact ⟨_, .refl _, h2 h⟩
end

section
variable {P : Program} {w : World} {K : PySem.W.Frag} {mg : Str → Option Value} {base : Heap} {cl : String → Addr}
theorem ok_may_touch {f : Addr} {fd : FuncData} (F : Fun K "may_touch" "may_touch" st_may_touch f fd) (T : Txt K mg cl) (U : Txw P w K mg base cl)  : FnOk P w K mg base (L2.CX P w) 1 f fd ["rule", "places", "left", "right"] (toSp K sp_may_touch) := by
  refine fn_okD (n := 4) F sc_may_touch rfl (fun ds M k kx h => by obtain ⟨_, _, _, _, rfl, _⟩ := h; rfl) fun cdv A outer s H E hr => ⟨_, (ss_cons (s_if (t_cmp (o_eq hr) (ev 1) e_int (nomark _)) (ss_one (s_ret (e_cmp (o_in hr) (e_tup (a_cons (ev 2) (a_cons (ev 3) a_nil))) (e_ix (fun _ _ => rfl) (ev 0) e_int) (by rfl)))) ss_nil)
      (ss_one (s_ret (e_or (e_cmp o_gt (ev 1) e_int (nomark _)) (e_and1 (e_cmp (o_in hr) (e_tup (a_cons (ev 2) (a_cons (ev 3) a_nil))) (e_ix (fun _ _ => rfl) (ev 0) e_int) (by rfl))))))), ?_⟩
  intro ds M k kx h
  obtain ⟨_, p, a, b, rfl, r, rfl, hk⟩ := h
  walk_at "run"
  refine sel_dec (fun h => ?_) fun h => ?_
  · walk_at "run"
    refine ⟨okIn_p (a, b) r.be, ?_⟩
    have e := any_pD r.be (a, b)
    exact ⟨_, .refl _, by (show k (.bl ((r.be.map pD).any fun z => eqv z (pD (a, b)))) M
                           rw [e]
                           simpa [touch, h] using hk)⟩
  · walk_at "run"
    refine sel_dec (fun h1 => ?_) fun h1 => ?_
    · walk_at "run"
      exact ⟨_, .refl _, by simpa [touch, h, h1] using hk⟩
    · walk_at "run"
      refine ⟨okIn_p (a, b) r.ap, ?_⟩
      have e := any_pD r.ap (a, b)
      exact ⟨_, .refl _, by (show k (.bl ((r.ap.map pD).any fun z => eqv z (pD (a, b)))) M
                             rw [e]
                             simpa [touch, h, h1] using hk)⟩
end

section
variable {P : Program} {w : World} {K : PySem.W.Frag} {mg : Str → Option Value} {base : Heap} {cl : String → Addr}
theorem ok_can_stand {f : Addr} {fd : FuncData} (F : Fun K "can_stand" "can_stand" st_can_stand f fd) (T : Txt K mg cl) (U : Txw P w K mg base cl) (C_may_touch : Callee P w K mg base "may_touch" 1 sp_may_touch) : FnOk P w K mg base (L2.CX P w) 2 f fd ["rule", "gap", "kind", "place"] (toSp K sp_can_stand) := by
  refine fn_okD (n := 8) F sc_can_stand rfl (fun ds M k kx h => by obtain ⟨_, _, _, _, rfl, _⟩ := h; rfl) fun cdv A outer s H E hr => ⟨_, (ss_cons (s_asg (t := (.many [4, 5, 6])) (ev 1) (pg_tup rfl (pgs_cons (pg_name (i := 4) sc_can_stand.nd rfl (by first | exact Or.inl rfl | exact Or.inr rfl)) (pgs_cons (pg_name (i := 5) sc_can_stand.nd rfl (by first | exact Or.inl rfl | exact Or.inr rfl)) (pgs_cons (pg_name (i := 6) sc_can_stand.nd rfl (by first | exact Or.inl rfl | exact Or.inr rfl)) pgs_nil)))))
      (ss_cons (s_set (i := 7) sc_can_stand.nd rfl (by first | exact Or.inl rfl | exact Or.inr rfl) (e_op o_sub (e_op o_sub (ev 4) (e_ix (fun _ _ => rfl) (e_ix (fun _ _ => rfl) (ev 0) e_int) (ev 2))) (ev 3)))
      (ss_cons (s_if (t_bool (b_or (t_cmp (o_lt hr) (ev 3) e_int (nomark _)) (b_or1 (t_cmp (o_lt hr) (ev 7) e_int (nomark _))))) (ss_one (s_ret e_bl)) ss_nil)
      (ss_one (s_ret (e_and (e_call C_may_touch (hr.mono (by omega)) (by rfl) (a_cons (ev 0) (a_cons (ev 3) (a_cons (ev 5) (a_cons (ev 2) a_nil))))) (e_and1 (e_call C_may_touch (hr.mono (by omega)) (by rfl) (a_cons (ev 0) (a_cons (ev 7) (a_cons (ev 2) (a_cons (ev 6) a_nil)))))))))))), ?_⟩
  intro ds M k kx h
  obtain ⟨_, _, _, p, rfl, r, n, a, b, kind, rfl, rfl, rfl, hl, hk⟩ := h
  walk_at "run"
  refine onAt_some (atI_int hl) ?_
  walk_at "run"
  refine sel_dec (fun h => ?_) fun h => ?_
  · walk_at "run"
    exact ⟨_, .refl _, by simpa [canS, h] using hk⟩
  · walk_at "run"
    refine sel_dec (fun h1 => ?_) fun h1 => ?_
    · walk_at "run"
      exact ⟨_, .refl _, by (have e : canS r n a b kind p = false := by (unfold canS; rw [if_pos (.inr h1)])
                             rw [e] at hk; exact hk)⟩
    · walk_at "run"
      refine ⟨_, _, _, _, rfl, r, rfl, ?_⟩
      have e : canS r n a b kind p = (touch r p a kind && touch r (n - r.sz.getD kind 0 - p) kind b) := by
        unfold canS
        rw [if_neg (by rintro (z | z); exact h z; exact h1 z)]
      rw [e] at hk
      walk_at "run"
      refine sel_by (fun h2 => ?_) fun h2 => ?_
      · walk_at "run"
        exact ⟨_, _, _, _, rfl, r, rfl, ⟨_, .refl _, by rw [h2, Bool.true_and] at hk; exact hk⟩⟩
      · exact ⟨_, .refl _, by rw [h2, Bool.false_and] at hk; exact hk⟩
end

section
variable {P : Program} {w : World} {K : PySem.W.Frag} {mg : Str → Option Value} {base : Heap} {cl : String → Addr}
theorem ok_moves_in {f : Addr} {fd : FuncData} (F : Fun K "moves_in" "moves_in" st_moves_in f fd) (T : Txt K mg cl) (U : Txw P w K mg base cl) (C_can_stand : Callee P w K mg base "can_stand" 2 sp_can_stand) : FnOk P w K mg base (L2.CX P w) 3 f fd ["rule", "gap"] (toSp K sp_moves_in) := by
  refine fn_okD (n := 5) F sc_moves_in rfl (fun ds M k kx h => by obtain ⟨_, _, rfl, _⟩ := h; rfl) fun cdv A outer s H E hr => ⟨_, (ss_cons (s_set (i := 2) sc_moves_in.nd rfl (by first | exact Or.inl rfl | exact Or.inr rfl) (e_lst a_nil))
      (ss_cons (s_for (t := (.one 3)) (passes_of rfl) rfl (i_rg1 (by rfl) T.z_range (a_cons (e_callB c_len (by rfl) T.z_len bt_len (a_cons (e_ix (fun _ _ => rfl) (ev 0) e_int) a_nil)) a_nil)) (pg_name (i := 3) sc_moves_in.nd rfl (by first | exact Or.inl rfl | exact Or.inr rfl)) (ss_one (s_set (i := 2) sc_moves_in.nd rfl (by first | exact Or.inl rfl | exact Or.inr rfl) (e_op o_add (ev 2) (e_lc (t := (.one 4)) (vs := [4]) rfl sc_moves_in.nd (i_rg1 (by rfl) T.z_range (a_cons (e_ix (fun _ _ => rfl) (ev 1) e_int) a_nil)) (blkOk_by (own := [("place", 4)]) (N := ["rule", "gap", "found", "kind", "place"]) (sc := defScope st_moves_in) (by decide +kernel)) (fun _ _ _ _ _ => (pg_name (i := 4) sc_moves_in.nd rfl (by first | exact Or.inl rfl | exact Or.inr rfl))) (fun _ _ _ _ _ => (n_one (t_val (e_call C_can_stand (hr.mono (by omega)) (by rfl) (a_cons (ev 0) (a_cons (ev 1) (a_cons (ev 3) (a_cons (ev 4) a_nil)))))))) (fun _ _ _ _ _ => (e_tup (a_cons (ev 3) (a_cons (ev 4) a_nil)))) (by decide))))))
      (ss_one (s_ret (ev 2))))), ?_⟩
  intro ds M k kx h
  obtain ⟨_, _, rfl, r, n, a, b, rfl, rfl, hl, hn0, hn, hk⟩ := h
  have hsz : (sizeLine : Nat) = 16777216 := sizeLine_eq
  walk_at "run"
  intro q0 hq0
  walk_at "run"
  rw [List.length_map]
  refine ⟨by omega, ?_⟩
  refine for_rng (fun i sd M' => ∃ q x3 x4, sd = [some r.D, some (gD n a b), some (.ref q), x3, x4] ∧ M q = none ∧ M' q = some (.lst ((movesZ r n a b i).map pD)) ∧ Le M M') ⟨q0, _, _, rfl, hq0, put_same, Le.put hq0⟩ ?_ ?_
  · rintro i sd M' N hi hN ⟨q, x3, x4, rfl, hq, hM, hle⟩
    walk_at "run"
    refine ⟨by omega, by rw [rngD_len]; omega, ?_⟩
    refine lc_fm (pI (canS r n a b i)) (fun x => D.tup [.int i, x]) (fun x hx K1 K2 h1 h2 => ?_) ?_
    · obtain ⟨p, hp, rfl⟩ := rngD_mem hx
      walk_at "run"
      refine ⟨_, _, _, _, rfl, r, n, a, b, i, rfl, rfl, by simp, by simpa using hi, ?_⟩
      walk_at "run"
      refine sel_by (fun h => ?_) fun h => ?_
      · walk_at "run"
        simpa using h1 h
      · exact h2 h
    · walk_at "run"
      rw [List.nil_append, movesZO_rng]
      have l1 := movesZ_len r n a b i
      have l2 := movesZO_len r n a b i
      refine ⟨?_, fun p hp => ?_⟩
      · simp only [List.length_map]
        have : i * n.toNat ≤ 2 * 100 := Nat.mul_le_mul (by omega) (by omega)
        omega
      · walk_at "w"
        refine hN _ _ ⟨p, _, _, rfl, hle.none hp, ?_, hle.putr (hle.none hp)⟩
        rw [put_same, ← List.map_append]
        rfl
  · rintro sd M' ⟨q, x3, x4, rfl, hq, hM, hle⟩
    walk_at "run"
    exact ⟨put M q (.lst ((movesZ r n a b r.sz.length).map pD)), hle.tell hM, hk q hq⟩
end

section
variable {P : Program} {w : World} {K : PySem.W.Frag} {mg : Str → Option Value} {base : Heap} {cl : String → Addr}
theorem ok_Trial___init__ {f : Addr} {fd : FuncData} (F : Fun K "__init__" "Trial.__init__" st_Trial___init__ f fd) (T : Txt K mg cl) (U : Txw P w K mg base cl)  : FnOk P w K mg base (L2.CX P w) 1 f fd ["self", "hedge"] (toSp K (sp_Trial___init__ cl)) := by
  refine fn_okD (n := 2) F sc_Trial___init__ rfl (fun ds M k kx h => by obtain ⟨_, _, rfl, _⟩ := h; rfl) fun cdv A outer s H E hr => ⟨_, (ss_cons (s_fld T.k_Trial (.head _) (ev 0) (ev 1))
      (ss_one (s_fld T.k_Trial (.tail _ (.head _)) (ev 0) (e_fld T.k_Hedge (.tail _ (.head _)) (ev 1))))), ?_⟩
  intro ds M k kx h
  obtain ⟨_, _, rfl, t, a, r, n, s, rfl, rfl, hne, hT, hA, hk⟩ := h
  walk_at "run"
  refine ⟨_, .refl _, ?_⟩
  rw [put_put]
  exact hk
end

section
variable {P : Program} {w : World} {K : PySem.W.Frag} {mg : Str → Option Value} {base : Heap} {cl : String → Addr}
theorem ok_Trial___enter__ {f : Addr} {fd : FuncData} (F : Fun K "__enter__" "Trial.__enter__" st_Trial___enter__ f fd) (T : Txt K mg cl) (U : Txw P w K mg base cl)  : FnOk P w K mg base (L2.CX P w) 1 f fd ["self"] (toSp K (sp_Trial___enter__ cl)) := by
  refine fn_okD (n := 1) F sc_Trial___enter__ rfl (fun ds M k kx h => by obtain ⟨_, rfl, _⟩ := h; rfl) fun cdv A outer s H E hr => ⟨_, (ss_one (s_ret (e_fld T.k_Trial (.head _) (ev 0)))), ?_⟩
  intro ds M k kx h
  obtain ⟨_, rfl, t, a, s, rfl, hT, hk⟩ := h
  walk_at "run"
  exact ⟨_, .refl _, hk⟩
end

section
variable {P : Program} {w : World} {K : PySem.W.Frag} {mg : Str → Option Value} {base : Heap} {cl : String → Addr}
theorem ok_Trial___exit__ {f : Addr} {fd : FuncData} (F : Fun K "__exit__" "Trial.__exit__" st_Trial___exit__ f fd) (T : Txt K mg cl) (U : Txw P w K mg base cl)  : FnOk P w K mg base (L2.CX P w) 1 f fd ["self", "kind", "value", "trace"] (toSp K (sp_Trial___exit__ cl)) := by
  refine fn_okD (n := 4) F sc_Trial___exit__ rfl (fun ds M k kx h => by obtain ⟨_, _, _, _, rfl, _⟩ := h; rfl) fun cdv A outer s H E hr => ⟨_, (ss_one (s_if (t_cmp o_isNot (ev 1) e_non (nomark _)) (ss_one (s_fld T.k_Hedge (.tail _ (.head _)) (e_fld T.k_Trial (.head _) (ev 0)) (e_fld T.k_Trial (.tail _ (.head _)) (ev 0)))) ss_nil)), ?_⟩
  intro ds M k kx h
  obtain ⟨_, _, _, _, rfl, t, a, r, n, s, s0, rfl, hne, hT, hA, hk⟩ := h
  rcases hk with ⟨rfl, hk⟩ | ⟨c, rfl, hk⟩
  · walk_at "run"
    exact ⟨_, .refl _, hk⟩
  · walk_at "run"
    exact ⟨_, .refl _, hk⟩
theorem okM_Trial___exit__ {f : Addr} {fd : FuncData} (F : Fun K "__exit__" "Trial.__exit__" st_Trial___exit__ f fd) (T : Txt K mg cl) (U : Txw P w K mg base cl)  : FnM P w K mg base (L2.CX P w) 1 f fd ["self", "kind", "value", "trace"] (toSp K (sp_Trial___exit__ cl)) := by
  refine fn_okM (n := 4) F sc_Trial___exit__ rfl (fun ds M k kx h => by obtain ⟨_, _, _, _, rfl, _⟩ := h; rfl) fun cdv A outer s H E hr => ⟨_, (ss_one (s_if (t_cmp o_isNot (ev 1) e_non (nomark _)) (ss_one (s_fld T.k_Hedge (.tail _ (.head _)) (e_fld T.k_Trial (.head _) (ev 0)) (e_fld T.k_Trial (.tail _ (.head _)) (ev 0)))) ss_nil)), ?_⟩
  intro ds M k kx h
  obtain ⟨_, _, _, _, rfl, t, a, r, n, s, s0, rfl, hne, hT, hA, hk⟩ := h
  rcases hk with ⟨rfl, hk⟩ | ⟨c, rfl, hk⟩
  · walk_at "run"
    exact ⟨_, .refl _, hk⟩
  · walk_at "run"
    exact ⟨_, .refl _, hk⟩
end

section
variable {P : Program} {w : World} {K : PySem.W.Frag} {mg : Str → Option Value} {base : Heap} {cl : String → Addr}
theorem ok_Hedge___init__ {f : Addr} {fd : FuncData} (F : Fun K "__init__" "Hedge.__init__" st_Hedge___init__ f fd) (T : Txt K mg cl) (U : Txw P w K mg base cl) (C_need_rule : Callee P w K mg base "need_rule" 5 (sp_need_rule cl)) (C_need_number : Callee P w K mg base "need_number" 2 (sp_need_number cl)) : FnOk P w K mg base (L2.CX P w) 6 f fd ["self", "rule", "n"] (toSp K (sp_Hedge___init__ cl)) := by
  refine fn_okD (n := 3) F sc_Hedge___init__ rfl (fun ds M k kx h => by obtain ⟨_, _, _, rfl, _⟩ := h; rfl) fun cdv A outer s H E hr => ⟨_, (ss_cons (s_expr (e_call C_need_rule (hr.mono (by omega)) (by rfl) (a_cons (ev 1) a_nil)))
      (ss_cons (s_expr (e_call C_need_number (hr.mono (by omega)) (by rfl) (a_cons (ev 2) (a_cons e_int (a_cons (e_gint (by rfl) T.c_FEW) a_nil)))))
      (ss_cons (s_fld T.k_Hedge (.head _) (ev 0) (e_tup (a_cons (ev 1) (a_cons (ev 2) a_nil))))
      (ss_one (s_fld T.k_Hedge (.tail _ (.head _)) (ev 0) (e_tup (a_cons (e_tup a_nil) (a_cons (e_tup a_nil) (a_cons (e_tup a_nil) a_nil))))))))), ?_⟩
  intro ds M k kx h
  obtain ⟨_, rd, nd, rfl, a, rfl, hA, l1, l2, h1, h2, h3⟩ := h
  walk_at "run"
  refine ⟨_, rfl, l1, fun hr => ?_, fun hr => ⟨_, .refl _, h1 hr⟩⟩
  walk_at "run"
  refine ⟨_, _, _, rfl, l2, fun hn => ?_, fun hn => ⟨_, .refl _, h2 hr hn⟩⟩
  obtain ⟨r, rfl, _⟩ := isRule_shape hr
  obtain ⟨n, rfl, e0, e1⟩ := isNum_iff.mp hn
  walk_at "run"
  refine ⟨_, .refl _, ?_⟩
  rw [put_put]
  exact h3 hr r n rfl rfl e0 e1
end

section
variable {P : Program} {w : World} {K : PySem.W.Frag} {mg : Str → Option Value} {base : Heap} {cl : String → Addr}
theorem ok_Hedge_turn_to {f : Addr} {fd : FuncData} (F : Fun K "turn_to" "Hedge.turn_to" st_Hedge_turn_to f fd) (T : Txt K mg cl) (U : Txw P w K mg base cl)  : FnOk P w K mg base (L2.CX P w) 3 f fd ["self", "plants", "words"] (toSp K (sp_Hedge_turn_to cl)) := by
  refine fn_okD (n := 3) F sc_Hedge_turn_to rfl (fun ds M k kx h => by obtain ⟨_, _, _, rfl, _⟩ := h; rfl) fun cdv A outer s H E hr => ⟨_, (ss_cons (s_if (t_cmp o_gt (e_callB c_len (by rfl) T.z_len bt_len (a_cons (ev 2) a_nil)) (e_gint (by rfl) T.c_MOST_HEIGHT) (nomark _)) (ss_one (s_raiseI U.i_TooMany (hr.mono (by omega)) (e_gint (by rfl) T.c_MOST_HEIGHT) rfl (by rfl))) ss_nil)
      (ss_one (s_fld T.k_Hedge (.tail _ (.head _)) (ev 0) (e_tup (a_cons (ev 1) (a_cons (ev 2) (a_cons (e_op o_add (e_ix (fun _ _ => rfl) (e_fld T.k_Hedge (.tail _ (.head _)) (ev 0)) e_int) (e_tup (a_cons (e_sl (e_fld T.k_Hedge (.tail _ (.head _)) (ev 0)) so_none (so_some e_int)) a_nil))) a_nil))))))), ?_⟩
  intro ds M k kx h
  obtain ⟨_, _, _, rfl, a, r, n, s, pl, wl, rfl, rfl, rfl, hA, hl, h1, h2⟩ := h
  walk_at "run"
  refine sel_dec (fun h => ?_) fun h => ?_
  · walk_at "run"
    exact ⟨_, .refl _, h1 (by simp at h; omega)⟩
  · walk_at "run"
    refine ⟨le_line (by simp only [List.length_map, List.length_cons, List.length_nil]; omega), ?_⟩
    walk_at "run"
    refine ⟨_, .refl _, ?_⟩
    have e : cutD [plD s.pl, wdD s.wd, paD s.pa] none (some 2) = [plD s.pl, wdD s.wd] := cut_to _ 2
    rw [e, paD_snoc s.pa (s.pl, s.wd)]
    exact h2 (by simp at h; omega)
end

section
variable {P : Program} {w : World} {K : PySem.W.Frag} {mg : Str → Option Value} {base : Heap} {cl : String → Addr}
theorem ok_Hedge_plant {f : Addr} {fd : FuncData} (F : Fun K "plant" "Hedge.plant" st_Hedge_plant f fd) (T : Txt K mg cl) (U : Txw P w K mg base cl) (C_is_number : Callee P w K mg base "is_number" 1 sp_is_number) (C_gaps_of : Callee P w K mg base "gaps_of" 1 sp_gaps_of) (C_can_stand : Callee P w K mg base "can_stand" 2 sp_can_stand) (C_Hedge_turn_to : MethD P w K mg base (cl "Hedge") "turn_to" 3 (sp_Hedge_turn_to cl)) (C_open_gaps : Callee P w K mg base "open_gaps" 4 sp_open_gaps) : FnOk P w K mg base (L2.CX P w) 5 f fd ["self", "kind", "place"] (toSp K (sp_Hedge_plant cl)) := by
  refine fn_okD (n := 9) F sc_Hedge_plant rfl (fun ds M k kx h => by obtain ⟨_, _, _, rfl, _⟩ := h; rfl) fun cdv A outer s H E hr => ⟨_, (ss_cons (s_asg (t := (.many [3, 4])) (e_fld T.k_Hedge (.head _) (ev 0)) (pg_tup rfl (pgs_cons (pg_name (i := 3) sc_Hedge_plant.nd rfl (by first | exact Or.inl rfl | exact Or.inr rfl)) (pgs_cons (pg_name (i := 4) sc_Hedge_plant.nd rfl (by first | exact Or.inl rfl | exact Or.inr rfl)) pgs_nil))))
      (ss_cons (s_if (t_bool (b_or (t_not (t_val (e_call C_is_number (hr.mono (by omega)) (by rfl) (a_cons (ev 1) (a_cons e_int (a_cons (e_op o_sub (e_callB c_len (by rfl) T.z_len bt_len (a_cons (e_ix (fun _ _ => rfl) (ev 3) e_int) a_nil)) e_int) a_nil)))))) (b_or1 (t_not (t_val (e_call C_is_number (hr.mono (by omega)) (by rfl) (a_cons (ev 2) (a_cons e_int (a_cons (e_op o_sub (ev 4) e_int) a_nil))))))))) (ss_one (s_raise T.x_InvalidMove rfl (by rfl))) ss_nil)
      (ss_cons (s_set (i := 5) sc_Hedge_plant.nd rfl (by first | exact Or.inl rfl | exact Or.inr rfl) (e_call C_gaps_of (hr.mono (by omega)) (by rfl) (a_cons (ev 3) (a_cons (ev 4) (a_cons (e_ix (fun _ _ => rfl) (e_fld T.k_Hedge (.tail _ (.head _)) (ev 0)) e_int) a_nil)))))
      (ss_cons (s_if (t_not (t_val (e_callB (c_any rfl) (by rfl) T.z_any bt_any (a_cons (e_lc (t := (.many [7, 8])) (vs := [7, 8]) rfl sc_Hedge_plant.nd (i_seq (ev 5)) (blkOk_by (own := [("begin", 7), ("gap", 8)]) (N := ["self", "kind", "place", "rule", "n", "gaps", "plants", "begin", "gap"]) (sc := defScope st_Hedge_plant) (by decide +kernel)) (fun _ _ _ _ _ => (pg_tup rfl (pgs_cons (pg_name (i := 7) sc_Hedge_plant.nd rfl (by first | exact Or.inl rfl | exact Or.inr rfl)) (pgs_cons (pg_name (i := 8) sc_Hedge_plant.nd rfl (by first | exact Or.inl rfl | exact Or.inr rfl)) pgs_nil)))) (fun _ _ _ _ _ => n_nil) (fun _ _ _ _ _ => (e_call C_can_stand (hr.mono (by omega)) (by rfl) (a_cons (ev 3) (a_cons (ev 8) (a_cons (ev 1) (a_cons (e_op o_sub (ev 2) (ev 7)) a_nil)))))) (by decide)) a_nil)))) (ss_one (s_raise T.x_InvalidMove rfl (by rfl))) ss_nil)
      (ss_cons (s_set (i := 6) sc_Hedge_plant.nd rfl (by first | exact Or.inl rfl | exact Or.inr rfl) (e_callTy c_tuple (by rfl) T.z_tuple bt_tuple (a_cons (e_sortT rfl (by rfl) T.z_sorted (e_op o_add (e_ix (fun _ _ => rfl) (e_fld T.k_Hedge (.tail _ (.head _)) (ev 0)) e_int) (e_tup (a_cons (e_tup (a_cons (ev 2) (a_cons (ev 1) a_nil))) a_nil)))) a_nil)))
      (ss_cons (s_expr (e_meth T.k_Hedge C_Hedge_turn_to (hr.mono (by omega)) (ev 0) (a_cons (ev 6) (a_cons (e_op o_add (e_ix (fun _ _ => rfl) (e_fld T.k_Hedge (.tail _ (.head _)) (ev 0)) e_int) (e_tup (a_cons (e_joined (.cons (e_fmt (ev 1)) (.cons e_str (.cons (e_fmt (ev 2)) .nil)))) a_nil))) a_nil))))
      (ss_one (s_ret (e_callB c_len (by rfl) T.z_len bt_len (a_cons (e_call C_open_gaps (hr.mono (by omega)) (by rfl) (a_cons (ev 3) (a_cons (e_call C_gaps_of (hr.mono (by omega)) (by rfl) (a_cons (ev 3) (a_cons (ev 4) (a_cons (ev 6) a_nil)))) a_nil))) a_nil)))))))))), ?_⟩
  intro ds M k kx h
  obtain ⟨_, kd, pd, rfl, a, r, n, s, rfl, hA, ho, l1, l2, hr⟩ := h
  walk_at "run"
  refine ⟨kd, 0, (r.sz.length : Int) - 1, by rw [List.length_map], l1, ?_⟩
  walk_at "run"
  refine sel_by (fun h1 => ?_) fun h1 => ?_
  rotate_left
  · walk_at "run"
    rw [movP_bad1 h1] at hr
    exact ⟨_, .refl _, hr⟩
  walk_at "run"
  refine ⟨pd, 0, n - 1, rfl, l2, ?_⟩
  walk_at "run"
  refine sel_by (fun h2 => ?_) fun h2 => ?_
  rotate_left
  · walk_at "run"
    rw [movP_bad2 h2] at hr
    exact ⟨_, .refl _, hr⟩
  obtain ⟨k1, rfl, k2, k3⟩ := isNum_iff.mp h1
  obtain ⟨p, rfl, p2, p3⟩ := isNum_iff.mp h2
  rw [movP_in ⟨k2, k3⟩ ⟨p2, p3⟩] at hr
  obtain ⟨kn, rfl, hkn⟩ := kd_nat (r := r) (k := k1) ⟨k2, by omega⟩
  walk_at "run"
  refine ⟨_, _, _, rfl, r, n, s.pl, rfl, rfl, rfl, ho.kd, by have := ho.lp; have := ho.lw; omega, ?_⟩
  walk_at "run"
  refine lc_map (plnF r kn p) (fun x hx K1 y1 => ?_) ?_
  · obtain ⟨⟨g0, m, a1, b1⟩, hz, rfl⟩ := List.mem_map.mp hx
    rw [show gpD (g0, m, a1, b1) = .tup [.int g0, .tup [.int m, .int a1, .int b1]] from rfl] at *
    walk_at "run"
    refine ⟨_, _, _, _, rfl, r, m, a1, b1, kn, rfl, rfl, rfl, hkn, ?_⟩
    exact y1
  rw [plnF_map]
  walk_at "run"
  refine ⟨_, rfl, ?_⟩
  rw [any_id]
  have hca : ((gapsL r n 0 (-1) s.pl).any fun g => canS r g.2.1 g.2.2.1 g.2.2.2 kn (p - g.1)) = canAny r n s.pl kn p := rfl
  rw [hca]
  rw [Int.toNat_natCast] at hr
  cases hc : canAny r n s.pl kn p with
  | false =>
    walk_at "run"
    rw [hc, if_neg (by decide)] at hr
    exact ⟨_, .refl _, hr⟩
  | true =>
  rw [hc, if_pos rfl] at hr
  walk_at "run"
  have hlp := ho.lp
  have hlw := ho.lw
  refine ⟨le_line (by simp only [List.length_map, List.length_cons, List.length_nil]; omega), ?_⟩
  refine ⟨s.pl ++ [(p, (kn : Int))], by rw [List.map_append]; rfl, le_line (by simp; omega), fun L pe pw => ?_⟩
  have eL : L = insP (p, (kn : Int)) s.pl := sorted_uniq (pe.trans (insP_perm _ _).symm) pw (insP_sorted _ ho.so)
  subst eL
  walk_at "run"
  have hsl := ho.sl
  have hn1 := ho.n1
  obtain ⟨q1, q2, q3, q4, q5, q6⟩ := plW_ok (k := (kn : Int)) (p := p) ⟨by omega, by omega⟩ ⟨p2, by omega⟩
  refine ⟨q1, ?_⟩
  walk_at "run"
  refine ⟨q5, ?_⟩
  walk_at "run"
  refine ⟨le_line (by simp only [List.length_map, List.length_cons, List.length_nil]; omega), ?_⟩
  walk_at "run"
  refine ⟨_, _, _, rfl, a, r, n, s, insP (p, (kn : Int)) s.pl, s.wd ++ [plW kn p], rfl, rfl, by unfold wdD; rw [List.map_append]; rfl, hA, by have := ho.la; omega, fun h => ?_, fun h => ?_⟩
  · rw [if_pos (by simp at h; omega)] at hr
    exact ⟨_, .refl _, hr⟩
  rw [if_neg (by simp at h; omega)] at hr
  have hO2 : HOk r n (plS s kn p) := ho.plant ⟨by omega, by omega⟩ ⟨p2, p3⟩ (by simp at h; omega)
  have hlen : (insP (p, (kn : Int)) s.pl).length ≤ 31 := by rw [(insP_perm _ _).length_eq]; simp; omega
  walk_at "run"
  refine ⟨_, _, _, rfl, r, n, insP (p, (kn : Int)) s.pl, rfl, rfl, rfl, hO2.kd, by omega, ?_⟩
  walk_at "run"
  refine ⟨_, _, rfl, r, gapsL r n 0 (-1) (insP (p, (kn : Int)) s.pl), rfl, rfl, hsl, gapsL_rng ho.zs ho.n0 ho.n1 (by decide) (by decide) hO2.pc, by rw [gapsL_len]; omega, ?_⟩
  walk_at "run"
  refine ⟨_, .refl _, ?_⟩
  rw [List.length_map]
  exact hr
end

section
variable {P : Program} {w : World} {K : PySem.W.Frag} {mg : Str → Option Value} {base : Heap} {cl : String → Addr}
theorem ok_Hedge___iadd__ {f : Addr} {fd : FuncData} (F : Fun K "__iadd__" "Hedge.__iadd__" st_Hedge___iadd__ f fd) (T : Txt K mg cl) (U : Txw P w K mg base cl) (C_Trial_with : WithD P w K mg base (cl "Trial") 1 (sp_Trial___enter__ cl) (sp_Trial___exit__ cl)) (C_Trial___init__ : MakeD P w K mg base "Trial" (cl "Trial") 1 (sp_Trial___init__ cl)) (C_Hedge_plant : MethD P w K mg base (cl "Hedge") "plant" 5 (sp_Hedge_plant cl)) : FnOk P w K mg base (L2.CX P w) 6 f fd ["self", "some"] (toSp K (sp_Hedge___iadd__ cl)) := by
  refine fn_okD (n := 4) F sc_Hedge___iadd__ rfl (fun ds M k kx h => by obtain ⟨_, _, rfl, _⟩ := h; rfl) fun cdv A outer s H E hr => ⟨_, (ss_cons (s_if (t_not (t_val (e_isi isi_tup (by rfl) T.z_isinstance (by rfl) T.z_tuple bt_tuple (ev 1)))) (ss_one (s_raise T.x_InvalidMove rfl (by rfl))) ss_nil)
      (ss_cons (s_with (i := 2) C_Trial_with rfl rfl rfl (hr.mono (by omega)) (e_make C_Trial___init__ (hr.mono (by omega)) (by rfl) (a_cons (ev 0) a_nil)) sc_Hedge___iadd__.nd rfl (by first | exact Or.inl rfl | exact Or.inr rfl) (fun _ _ hp => (ss_one (s_for (t := (.one 3)) hp rfl (i_seq (ev 1)) (pg_name (i := 3) sc_Hedge___iadd__.nd rfl (by first | exact Or.inl rfl | exact Or.inr rfl)) (ss_cons (s_if (t_bool (b_or (t_not (t_val (e_isi isi_tup (by rfl) T.z_isinstance (by rfl) T.z_tuple bt_tuple (ev 3)))) (b_or1 (t_cmp (o_ne hr) (e_callB c_len (by rfl) T.z_len bt_len (a_cons (ev 3) a_nil)) e_int (nomark _))))) (ss_one (s_raise T.x_InvalidMove rfl (by rfl))) ss_nil)
      (ss_one (s_expr (e_meth T.k_Hedge C_Hedge_plant (hr.mono (by omega)) (ev 2) (a_cons (e_ix (fun _ _ => rfl) (ev 3) e_int) (a_cons (e_ix (fun _ _ => rfl) (ev 3) e_int) a_nil))))))))))
      (ss_one (s_ret (ev 0))))), ?_⟩
  intro ds M k kx h
  obtain ⟨_, v, rfl, a, r, n, s, rfl, hA, ho, lv, h1, h2⟩ := h
  cases v with
  | tup l =>
    obtain ⟨hl, h2⟩ := h2 l rfl
    have l1 : laidL l = true := by rw [laid_tup] at lv; exact lv
    walk_at "run"
    intro x hx
    have hxa : x ≠ a := fun e => by rw [e, hA] at hx; cases hx
    refine ⟨_, _, rfl, x, a, r, n, s, rfl, rfl, hxa, put_same, (put_ne (Ne.symm hxa)).trans hA, ?_⟩
    rw [put_put]
    refine ⟨rfl, ?_⟩
    walk_at "run"
    refine ⟨_, rfl, x, a, s, rfl, put_same, ?_⟩
    walk_at "run"
    have hst : ∀ s1, put (put M x (tO (cl "Trial") a s)) a (hO (cl "Hedge") r n s1) x = some (tO (cl "Trial") a s) := fun s1 => (put_ne hxa).trans put_same
    have h0 : put M x (tO (cl "Trial") a s) = put (put M x (tO (cl "Trial") a s)) a (hO (cl "Hedge") r n s) := by
      funext b
      by_cases z : b = a
      · subst z; rw [put_same, put_ne (Ne.symm hxa)]; exact hA
      · rw [put_ne z]
    refine for_inv (fun rest sd M' => ∃ s1, M' = put (put M x (tO (cl "Trial") a s)) a (hO (cl "Hedge") r n s1) ∧ HOk r n s1 ∧ laidL rest = true ∧ rest.length ≤ 100 ∧ resW cl (fun s' => k (.ref a) (put M a (hO (cl "Hedge") r n s'))) (fun c fs => kx c fs M) (addM r n s1 rest) ∧ ∃ x3, sd = [some (.ref a), some (.tup l), some (.ref a), x3]) ?_ ?_ _ _ _ ⟨s, h0, ho, l1, hl, h2, _, rfl⟩
    · rintro y rest sd M1 N hN ⟨s1, rfl, ho1, l2, hr, hw, x3, rfl⟩
      obtain ⟨ly, l3⟩ := laidL_two l2
      walk_at "run"
      have hbad : (∀ kd pd, y ≠ .tup [kd, pd]) → kx (.ref (cl "InvalidMove")) [] M := fun hy => by
        have e : movM r n s1 y = .bad := by
          unfold movM
          split
          · rename_i kd pd; exact absurd rfl (hy kd pd)
          · rfl
        unfold addM at hw
        rw [e] at hw
        exact hw
      have hM : Le M (put (put M x (tO (cl "Trial") a s)) a (hO (cl "Hedge") r n s)) := le_back (Le.put hx) hA
      cases y with
      | tup ys =>
        walk_at "run"
        refine sel_dec (fun h2 => ?_) fun h2 => ?_
        · obtain ⟨kd, pd, rfl⟩ : ∃ kd pd, ys = [kd, pd] := by
            match ys, h2 with
            | [a, b], _ => exact ⟨a, b, rfl⟩
            | [], h => simp at h
            | [_], h => simp at h
            | _ :: _ :: _ :: _, h => simp at h; omega
          rw [laid_tup] at ly
          obtain ⟨lk, ly⟩ := laidL_two ly
          obtain ⟨lp, _⟩ := laidL_two ly
          walk_at "run"
          refine ⟨_, _, _, rfl, a, r, n, s1, rfl, put_same, ho1, lk, lp, ?_⟩
          rw [show addM r n s1 (.tup [kd, pd] :: rest) = (match movP r n s1 kd pd with | .ok s' => addM r n s' rest | .bad => .bad | .many => .many) from rfl] at hw
          cases e : movP r n s1 kd pd with
          | ok s2 =>
            rw [e] at hw
            have ho2 := movP_ok ho1 e
            refine hN _ _ ⟨s2, by rw [put_put], ho2, l3, by simp only [List.length_cons] at hr; omega, hw, _, rfl⟩
          | bad =>
            rw [e] at hw
            exact exit_bad hxa ⟨_, hM, hw⟩
          | many =>
            rw [e] at hw
            exact exit_bad hxa ⟨_, hM, hw⟩
        · walk_at "run"
          exact exit_bad hxa ⟨_, hM, hbad fun kd pd e => by cases e; simp at h2⟩
      | ref a => simp [laid] at ly
      | ty a => simp [laid] at ly
      | exc _ _ _ _ => simp [laid] at ly
      | lam _ _ _ => simp [laid] at ly
      | _ =>
        walk_at "run"
        exact exit_bad hxa ⟨_, hM, hbad fun _ _ e => D.noConfusion e⟩
    · rintro sd M1 ⟨s1, rfl, ho1, l2, hr, hw, x3, rfl⟩
      walk_at "run"
      refine ⟨_, _, _, _, rfl, x, a, r, n, s1, s, rfl, hxa, hst s1, put_same, .inl ⟨rfl, ?_⟩⟩
      walk_at "run"
      refine ⟨_, Le.puts (Le.put hx), hw⟩
  | ref a => simp [laid] at lv
  | ty a => simp [laid] at lv
  | exc _ _ _ _ => simp [laid] at lv
  | lam _ _ _ => simp [laid] at lv
  | _ => walk_at "run"; exact ⟨_, .refl _, h1 (fun l e => D.noConfusion e)⟩
end

section
variable {P : Program} {w : World} {K : PySem.W.Frag} {mg : Str → Option Value} {base : Heap} {cl : String → Addr}
theorem ok_Hedge_plants {f : Addr} {fd : FuncData} (F : Fun K "plants" "Hedge.plants" st_Hedge_plants f fd) (T : Txt K mg cl) (U : Txw P w K mg base cl)  : FnOk P w K mg base (L2.CX P w) 1 f fd ["self"] (toSp K (sp_Hedge_plants cl)) := by
  refine fn_okD (n := 1) F sc_Hedge_plants rfl (fun ds M k kx h => by obtain ⟨_, rfl, _⟩ := h; rfl) fun cdv A outer s H E hr => ⟨_, (ss_one (s_ret (e_ix (fun _ _ => rfl) (e_fld T.k_Hedge (.tail _ (.head _)) (ev 0)) e_int))), ?_⟩
  intro ds M k kx h
  obtain ⟨_, rfl, a, r, n, s, rfl, hA, hk⟩ := h
  walk_at "run"
  exact ⟨_, .refl _, hk⟩
end

section
variable {P : Program} {w : World} {K : PySem.W.Frag} {mg : Str → Option Value} {base : Heap} {cl : String → Addr}
theorem ok_Hedge_undo {f : Addr} {fd : FuncData} (F : Fun K "undo" "Hedge.undo" st_Hedge_undo f fd) (T : Txt K mg cl) (U : Txw P w K mg base cl)  : FnOk P w K mg base (L2.CX P w) 1 f fd ["self"] (toSp K (sp_Hedge_undo cl)) := by
  refine fn_okD (n := 2) F sc_Hedge_undo rfl (fun ds M k kx h => by obtain ⟨_, rfl, _⟩ := h; rfl) fun cdv A outer s H E hr => ⟨_, (ss_cons (s_set (i := 1) sc_Hedge_undo.nd rfl (by first | exact Or.inl rfl | exact Or.inr rfl) (e_ix (fun _ _ => rfl) (e_fld T.k_Hedge (.tail _ (.head _)) (ev 0)) e_int))
      (ss_cons (s_if (t_cmp (o_eq hr) (ev 1) (e_tup a_nil) (nomark _)) (ss_one (s_raise T.x_NothingToUndo rfl (by rfl))) ss_nil)
      (ss_one (s_fld T.k_Hedge (.tail _ (.head _)) (ev 0) (e_op o_add (e_ix (fun _ _ => rfl) (ev 1) (e_neg e_int)) (e_tup (a_cons (e_sl (ev 1) so_none (so_some (e_neg e_int))) a_nil))))))), ?_⟩
  intro ds M k kx h
  obtain ⟨_, rfl, a, r, n, s, rfl, hA, hs, hl, h1, h2⟩ := h
  obtain ⟨pl, wd, pa⟩ := s
  walk_at "run"
  refine ⟨okEq_r (laid_paD hs) (by simp [laid, laidL]) (by simp [dep, depL]), ?_⟩
  walk_at "run"
  rcases List.eq_nil_or_concat pa with rfl | ⟨l, ⟨pl', wd'⟩, e⟩
  · walk_at "run"
    exact ⟨_, .refl _, h1 rfl⟩
  · rw [List.concat_eq_append] at e
    subst e
    refine sel_cf (by cases l <;> simp [eqv, eqvL]) ?_
    walk_at "run"
    refine onAt_some (d := .tup [plD pl', wdD wd']) (by rw [List.map_append]; exact atI_last _ _) ?_
    walk_at "run"
    refine ⟨_, .refl _, ?_⟩
    have e : cutD (List.map (fun z : List (Int × Int) × List Str => D.tup [plD z.1, wdD z.2]) (l ++ [(pl', wd')])) none (some (-1)) = List.map (fun z : List (Int × Int) × List Str => D.tup [plD z.1, wdD z.2]) l := by
      rw [List.map_append]; exact cut_last _ _
    have h3 := h2 l pl' wd' rfl
    have e2 : D.tup (cutD (List.map (fun z : List (Int × Int) × List Str => D.tup [plD z.1, wdD z.2]) (l ++ [(pl', wd')])) none (some (-1))) = paD l := by rw [e]
    simp only [List.cons_append, List.nil_append] at *
    rw [e2]
    exact h3
end

section
variable {P : Program} {w : World} {K : PySem.W.Frag} {mg : Str → Option Value} {base : Heap} {cl : String → Addr}
theorem ok_Hedge_log {f : Addr} {fd : FuncData} (F : Fun K "log" "Hedge.log" st_Hedge_log f fd) (T : Txt K mg cl) (U : Txw P w K mg base cl)  : GFn P w K mg base 1 f fd ["self"] (toSpG K (sp_Hedge_log cl)) := by
  refine gfn_plain (n := 3) F sc_Hedge_log rfl (fun ds M k h => by obtain ⟨_, rfl, _⟩ := h; rfl) fun cdv A outer s H E pn hr => ⟨_, (ss_one (s_for (t := (.many [1, 2])) owns_gcx rfl (i_enum (by rfl) T.z_enumerate (a_cons (e_ix (fun _ _ => rfl) (e_fld T.k_Hedge (.tail _ (.head _)) (ev 0)) e_int) a_nil)) (pg_tup rfl (pgs_cons (pg_name (i := 1) sc_Hedge_log.nd rfl (by first | exact Or.inl rfl | exact Or.inr rfl)) (pgs_cons (pg_name (i := 2) sc_Hedge_log.nd rfl (by first | exact Or.inl rfl | exact Or.inr rfl)) pgs_nil))) ss_dead)), ?_⟩
  intro ds M k h
  obtain ⟨_, rfl, a, r, n, s, rfl, hA, hw, hk⟩ := h
  obtain ⟨pl, wd, pa⟩ := s
  subst hw
  walk_at "run"
  rw [show enumD 0 (List.map D.str { pl := pl, wd := [], pa := pa : HSt }.wd) = [] from rfl]
  walk_at "roll"
  exact ⟨_, .refl _, hk⟩
end

section
variable {P : Program} {w : World} {K : PySem.W.Frag} {mg : Str → Option Value} {base : Heap} {cl : String → Addr}
theorem ok_Hedge___getitem__ {f : Addr} {fd : FuncData} (F : Fun K "__getitem__" "Hedge.__getitem__" st_Hedge___getitem__ f fd) (T : Txt K mg cl) (U : Txw P w K mg base cl) (C_is_number : Callee P w K mg base "is_number" 1 sp_is_number) : FnOk P w K mg base (L2.CX P w) 2 f fd ["self", "place"] (toSp K (sp_Hedge___getitem__ cl)) := by
  refine fn_okD (n := 2) F sc_Hedge___getitem__ rfl (fun ds M k kx h => by obtain ⟨_, _, rfl, _⟩ := h; rfl) fun cdv A outer s H E hr => ⟨_, (ss_cons (s_if (t_not (t_val (e_call C_is_number (hr.mono (by omega)) (by rfl) (a_cons (ev 1) (a_cons e_int (a_cons (e_op o_sub (e_ix (fun _ _ => rfl) (e_fld T.k_Hedge (.head _) (ev 0)) e_int) e_int) a_nil)))))) (ss_one (s_raise T.x_InvalidIndex rfl (by rfl))) ss_nil)
      ss_dead), ?_⟩
  intro ds M k kx h
  obtain ⟨_, d, rfl, a, r, n, s, rfl, hA, l, hn, hk⟩ := h
  walk_at "run"
  refine ⟨_, _, _, rfl, l, ?_⟩
  rw [hn]
  walk_at "run"
  exact ⟨_, .refl _, hk⟩
end

section
variable {P : Program} {w : World} {K : PySem.W.Frag} {mg : Str → Option Value} {base : Heap} {cl : String → Addr}
theorem ok_Hedge___len__ {f : Addr} {fd : FuncData} (F : Fun K "__len__" "Hedge.__len__" st_Hedge___len__ f fd) (T : Txt K mg cl) (U : Txw P w K mg base cl)  : FnOk P w K mg base (L2.CX P w) 1 f fd ["self"] (toSp K (sp_Hedge___len__ cl)) := by
  refine fn_okD (n := 1) F sc_Hedge___len__ rfl (fun ds M k kx h => by obtain ⟨_, rfl, _⟩ := h; rfl) fun cdv A outer s H E hr => ⟨_, (ss_one (s_ret (e_callB c_len (by rfl) T.z_len bt_len (a_cons (e_ix (fun _ _ => rfl) (e_fld T.k_Hedge (.tail _ (.head _)) (ev 0)) e_int) a_nil)))), ?_⟩
  intro ds M k kx h
  obtain ⟨_, rfl, a, r, n, s, rfl, hA, hk⟩ := h
  walk_at "run"
  refine ⟨_, .refl _, ?_⟩
  simpa [wdD] using hk
end

section
variable {P : Program} {w : World} {K : PySem.W.Frag} {mg : Str → Option Value} {base : Heap} {cl : String → Addr}
theorem ok_gaps_of {f : Addr} {fd : FuncData} (F : Fun K "gaps_of" "gaps_of" st_gaps_of f fd) (T : Txt K mg cl) (U : Txw P w K mg base cl)  : FnOk P w K mg base (L2.CX P w) 1 f fd ["rule", "n", "plants"] (toSp K sp_gaps_of) := by
  refine fn_okD (n := 8) F sc_gaps_of rfl (fun ds M k kx h => by obtain ⟨_, _, _, rfl, _⟩ := h; rfl) fun cdv A outer s H E hr => ⟨_, (ss_cons (s_par3 (i := 3) (j := 4) (l := 5) rfl sc_gaps_of.nd rfl rfl rfl (by decide) (by decide) (by decide) rfl rfl rfl (a_cons (e_lstF a_nil) (a_cons e_int (a_cons (e_gint (by rfl) T.c_END) a_nil))) (by rfl))
      (ss_cons (s_for (t := (.many [6, 7])) (passes_of rfl) rfl (i_seq (ev 2)) (pg_tup rfl (pgs_cons (pg_name (i := 6) sc_gaps_of.nd rfl (by first | exact Or.inl rfl | exact Or.inr rfl)) (pgs_cons (pg_name (i := 7) sc_gaps_of.nd rfl (by first | exact Or.inl rfl | exact Or.inr rfl)) pgs_nil))) (ss_cons (s_set (i := 3) sc_gaps_of.nd rfl (by first | exact Or.inl rfl | exact Or.inr rfl) (e_op o_add (ev 3) (e_lstF (a_cons (e_tup (a_cons (ev 4) (a_cons (e_tup (a_cons (e_op o_sub (ev 6) (ev 4)) (a_cons (ev 5) (a_cons (ev 7) a_nil)))) a_nil))) a_nil))))
      (ss_one (s_par (i := 4) (j := 5) rfl sc_gaps_of.nd rfl rfl (by decide) rfl rfl (a_cons (e_op o_add (ev 6) (e_ix (fun _ _ => rfl) (e_ix (fun _ _ => rfl) (ev 0) e_int) (ev 7))) (a_cons (ev 7) a_nil)) (by rfl)))))
      (ss_one (s_ret (e_op o_add (ev 3) (e_lstF (a_cons (e_tup (a_cons (ev 4) (a_cons (e_tup (a_cons (e_op o_sub (ev 1) (ev 4)) (a_cons (ev 5) (a_cons (e_gint (by rfl) T.c_END) a_nil)))) a_nil))) a_nil))))))), ?_⟩
  intro ds M k kx h
  obtain ⟨_, _, _, rfl, r, n, pl, rfl, rfl, rfl, hkd, hl, hk⟩ := h
  have hsz : (sizeLine : Nat) = 16777216 := sizeLine_eq
  walk_at "run"
  refine for_inv (fun rest sd M' => M' = M ∧ ∃ (b l : Int) (rl : List (Int × Int)) (acc : List Gp) (x6 x7 : Option D), sd = [some r.D, some (.int n), some (plD pl), some (.lst (acc.map gpD)), some (.int b), some (.int l), x6, x7] ∧ rest = rl.map pD ∧
    (∀ p ∈ rl, 0 ≤ p.2 ∧ p.2 < r.sz.length) ∧ acc.length + rl.length = pl.length ∧ acc ++ gapsL r n b l rl = gapsL r n 0 (-1) pl) ?_ ?_ _ _ _ ⟨rfl, 0, -1, pl, [], _, _, rfl, rfl, hkd, by simp, rfl⟩
  · rintro x rest sd M1 N hN ⟨rfl, b, l, rl, acc, x6, x7, rfl, hrest, hk2, hln, hg⟩
    cases rl with
    | nil => cases hrest
    | cons q rl =>
      obtain ⟨p, kd⟩ := q
      obtain ⟨rfl, rfl⟩ := List.cons.inj hrest
      obtain ⟨m, hm, hml⟩ := kd_nat (hk2 (p, kd) List.mem_cons_self)
      have hm : kd = m := hm
      subst hm
      rw [show pD (p, (m : Int)) = D.tup [.int p, .int m] from rfl]
      walk_at "run"
      have hln : acc.length + (rl.length + 1) = pl.length := hln
      refine ⟨le_line (by simp only [List.length_map, List.length_cons, List.length_nil]; omega), ?_⟩
      walk_at "run"
      refine onAt_some (atI_int hml) ?_
      walk_at "run"
      refine hN _ _ ⟨rfl, p + sizeK r m, m, rl, acc ++ [(b, (p - b, (l, (m : Int))))], some (.int p), some (.int m), ?_, rfl, fun z hz => hk2 z (List.mem_cons_of_mem _ hz), by simp; omega, by rw [List.append_assoc]; exact hg⟩
      rw [List.map_append, sizeK_nat]
      rfl
  · rintro sd M1 ⟨rfl, b, l, rl, acc, x6, x7, rfl, hrest, hk2, hln, hg⟩
    cases rl with
    | cons q rl => cases hrest
    | nil =>
      walk_at "run"
      refine ⟨le_line (by simp only [List.length_map, List.length_cons, List.length_nil]; simp at hln; omega), ?_⟩
      walk_at "run"
      refine ⟨_, .refl _, ?_⟩
      rw [← hg] at hk
      simpa [gapsL, gpD] using hk
end

section
variable {P : Program} {w : World} {K : PySem.W.Frag} {mg : Str → Option Value} {base : Heap} {cl : String → Addr}
theorem ok_open_gaps {f : Addr} {fd : FuncData} (F : Fun K "open_gaps" "open_gaps" st_open_gaps f fd) (T : Txt K mg cl) (U : Txw P w K mg base cl) (C_moves_in : Callee P w K mg base "moves_in" 3 sp_moves_in) : FnOk P w K mg base (L2.CX P w) 4 f fd ["rule", "gaps"] (toSp K sp_open_gaps) := by
  refine fn_okD (n := 4) F sc_open_gaps rfl (fun ds M k kx h => by obtain ⟨_, _, rfl, _⟩ := h; rfl) fun cdv A outer s H E hr => ⟨_, (ss_one (s_ret (e_lc (t := (.many [2, 3])) (vs := [2, 3]) rfl sc_open_gaps.nd (i_seq (ev 1)) (blkOk_by (own := [("begin", 2), ("gap", 3)]) (N := ["rule", "gaps", "begin", "gap"]) (sc := defScope st_open_gaps) (by decide +kernel)) (fun _ _ _ _ _ => (pg_tup rfl (pgs_cons (pg_name (i := 2) sc_open_gaps.nd rfl (by first | exact Or.inl rfl | exact Or.inr rfl)) (pgs_cons (pg_name (i := 3) sc_open_gaps.nd rfl (by first | exact Or.inl rfl | exact Or.inr rfl)) pgs_nil)))) (fun _ _ _ _ _ => (n_one (t_cmp (o_ne hr) (e_frz (e_call C_moves_in (hr.mono (by omega)) (by rfl) (a_cons (ev 0) (a_cons (ev 3) a_nil)))) (e_lstF a_nil) (nomark _)))) (fun _ _ _ _ _ => (ev 3)) (by decide)))), ?_⟩
  intro ds M k kx h
  obtain ⟨_, _, rfl, r, gs, rfl, rfl, hl, hg, hn, hk⟩ := h
  walk_at "run"
  refine lc_fm (opnB r) opnF (fun x hx K1 K2 y1 y2 => ?_) ?_
  · obtain ⟨⟨g0, n, a, b⟩, hz, rfl⟩ := List.mem_map.mp hx
    have hr := hg _ hz
    rw [show gpD (g0, n, a, b) = .tup [.int g0, .tup [.int n, .int a, .int b]] from rfl] at *
    walk_at "run"
    refine ⟨_, _, rfl, r, n, a, b, rfl, rfl, hl, hr.1, hr.2, fun q hq => ?_⟩
    refine ⟨q, _, rfl, put_same, Le.put hq, hq, ?_⟩
    walk_at "run"
    refine ⟨okEq_r (by rw [laid_lst]; exact laidL_pDs _) rfl (by simp [dep, depL]), ?_⟩
    cases e : movesZ r n a b r.sz.length with
    | nil =>
      walk_at "run"
      exact y2 (by show (!(movesZ r n a b r.sz.length).isEmpty) = false; rw [e]; rfl)
    | cons z zs =>
      refine sel_ct rfl ?_
      walk_at "run"
      exact y1 (by show (!(movesZ r n a b r.sz.length).isEmpty) = true; rw [e]; rfl)
  · rw [opn_fm]
    walk_at "run"
    exact ⟨_, .refl _, hk⟩
end

section
variable {P : Program} {w : World} {K : PySem.W.Frag} {mg : Str → Option Value} {base : Heap} {cl : String → Addr}
theorem ok__law_hoe {f : Addr} {fd : FuncData} (F : Fun K "_law_hoe" "_law_hoe" st__law_hoe f fd) (T : Txt K mg cl) (U : Txw P w K mg base cl)  : FnOk P w K mg base (L2.CX P w) 1 f fd ["_law_cell", "_law_salt"] (toSp K sp__law_hoe) := by
  refine fn_okD (n := 3) F sc__law_hoe rfl (fun ds M k kx h => by obtain ⟨_, _, rfl, _⟩ := h; rfl) fun cdv A outer s H E hr => ⟨_, (ss_cons (s_set (i := 2) sc__law_hoe.nd rfl (by first | exact Or.inl rfl | exact Or.inr rfl) (e_if (t_cmp o_ge (ev 0) (e_op o_pow e_int e_int) (nomark _)) (e_op o_add (e_op o_div (ev 0) e_int) (e_op o_mul e_int (ev 1))) e_int))
      (ss_one (s_ret (e_lst (a_cons (ev 2) (a_cons (e_op o_add (e_op o_mod (e_callTy c_intA (by rfl) T.z_int bt_int (a_cons (e_op o_add (e_op o_mul (ev 0) e_int) (e_op o_mul e_int (ev 1))) a_nil)) e_int) e_int) a_nil)))))), ?_⟩
  intro ds M k kx h
  obtain ⟨c, s, rfl, hs, hk⟩ := h
  walk_at "run"
  refine sel_dec (fun h => ?_) fun h => ?_
  · walk_at "run"
    intro q hq
    exact ⟨_, .refl _, hk q hq _ _ (by omega) (by omega)⟩
  · walk_at "run"
    intro q hq
    exact ⟨_, .refl _, hk q hq _ _ (by omega) (by omega)⟩
end

section
variable {P : Program} {w : World} {K : PySem.W.Frag} {mg : Str → Option Value} {base : Heap} {cl : String → Addr}
theorem ok__law_dig {f : Addr} {fd : FuncData} (F : Fun K "_law_dig" "_law_dig" st__law_dig f fd) (T : Txt K mg cl) (U : Txw P w K mg base cl)  : FnOk P w K mg base (L2.CX P w) 1 f fd ["_law_hoe_here", "_law_many"] (toSp K sp__law_dig) := by
  refine fn_okD (n := 4) F sc__law_dig rfl (fun ds M k kx h => by obtain ⟨_, _, rfl, _⟩ := h; rfl) fun cdv A outer s H E hr => ⟨_, (ss_cons (s_if (t_cmp o_gt (e_ix (fun _ _ => rfl) (ev 0) e_int) e_int (nomark _)) (ss_cons (s_set (i := 2) sc__law_dig.nd rfl (by first | exact Or.inl rfl | exact Or.inr rfl) (e_op o_mod (e_callTy c_intA (by rfl) T.z_int bt_int (a_cons (e_ix (fun _ _ => rfl) (ev 0) e_int) a_nil)) (ev 1)))
      (ss_cons (s_stIx (ev 0) e_int (e_op o_div (e_ix (fun _ _ => rfl) (ev 0) e_int) (ev 1)))
      (ss_one (s_ret (ev 2))))) ss_nil)
      (ss_cons (s_stIx (ev 0) e_int (e_op o_mod (e_callTy c_intA (by rfl) T.z_int bt_int (a_cons (e_op o_add (e_op o_mul (e_ix (fun _ _ => rfl) (ev 0) e_int) e_int) e_int) a_nil)) e_int))
      (ss_cons (s_set (i := 3) sc__law_dig.nd rfl (by first | exact Or.inl rfl | exact Or.inr rfl) (e_op o_mod (e_callTy c_intA (by rfl) T.z_int bt_int (a_cons (e_op o_mul (e_ix (fun _ _ => rfl) (ev 0) e_int) (e_op o_add (e_ix (fun _ _ => rfl) (ev 0) e_int) e_int)) a_nil)) e_int))
      (ss_one (s_ret (e_op o_mod (e_callTy c_intA (by rfl) T.z_int bt_int (a_cons (e_op o_div (ev 3) e_int) a_nil)) (ev 1))))))), ?_⟩
  intro ds M k kx h
  obtain ⟨a, m, rfl, ⟨g, t, hM, t1, t2⟩, ⟨m1, m2⟩, hk⟩ := h
  walk_at "run"
  refine sel_dec (fun h => ?_) fun h => ?_
  · walk_at "run"
    refine ⟨⟨m1, m2⟩, ?_⟩
    walk_at "run"
    exact ⟨_, .refl _, hk _ _ (Int.emod_nonneg _ (by omega)) (Int.emod_lt_of_pos _ m1) ⟨_, _, rfl, t1, t2⟩⟩
  · walk_at "run"
    have b1 : 0 ≤ (t * 36007 + 8009) % 2147483549 := by omega
    have b2 : (t * 36007 + 8009) % 2147483549 < 2147483549 := by omega
    generalize (t * 36007 + 8009) % 2147483549 = u at b1 b2 ⊢
    refine ⟨.inl ⟨by omega, by omega⟩, ?_⟩
    walk_at "run"
    exact ⟨_, .refl _, hk _ _ (Int.emod_nonneg _ (by omega)) (Int.emod_lt_of_pos _ m1) ⟨_, _, rfl, b1, by omega⟩⟩
end

section
variable {P : Program} {w : World} {K : PySem.W.Frag} {mg : Str → Option Value} {base : Heap} {cl : String → Addr}
theorem ok__law_pick {f : Addr} {fd : FuncData} (F : Fun K "_law_pick" "_law_pick" st__law_pick f fd) (T : Txt K mg cl) (U : Txw P w K mg base cl) (C__law_dig : Callee P w K mg base "_law_dig" 1 sp__law_dig) : FnOk P w K mg base (L2.CX P w) 2 f fd ["_law_hoe_here", "_law_things"] (toSp K sp__law_pick) := by
  refine fn_okD (n := 2) F sc__law_pick rfl (fun ds M k kx h => by obtain ⟨_, _, rfl, _⟩ := h; rfl) fun cdv A outer s H E hr => ⟨_, (ss_one (s_ret (e_ix (fun _ _ => rfl) (ev 1) (e_call C__law_dig (hr.mono (by omega)) (by rfl) (a_cons (ev 0) (a_cons (e_callB c_len (by rfl) T.z_len bt_len (a_cons (ev 1) a_nil)) a_nil)))))), ?_⟩
  intro ds M k kx h
  obtain ⟨a, t, rfl, l, ht, hh, l1, l2, hk⟩ := h
  cases t with
  | lst l' =>
    cases ht
    walk_at "run"
    refine ⟨a, _, rfl, hh, by omega, fun r M' r1 r2 hd => ?_⟩
    obtain ⟨x, hx, hm⟩ := atI_in r1 r2
    exact onAt_some hx ⟨_, .refl _, hk x hm M' hd⟩
  | tup l' =>
    cases ht
    walk_at "run"
    refine ⟨a, _, rfl, hh, by omega, fun r M' r1 r2 hd => ?_⟩
    obtain ⟨x, hx, hm⟩ := atI_in r1 r2
    exact onAt_some hx ⟨_, .refl _, hk x hm M' hd⟩
  | _ => cases ht
end

section
variable {P : Program} {w : World} {K : PySem.W.Frag} {mg : Str → Option Value} {base : Heap} {cl : String → Addr}
theorem ok__law_kinds {f : Addr} {fd : FuncData} (F : Fun K "_law_kinds" "_law_kinds" st__law_kinds f fd) (T : Txt K mg cl) (U : Txw P w K mg base cl)  : FnOk P w K mg base (L2.CX P w) 1 f fd ["_law_many"] (toSp K sp__law_kinds) := by
  refine fn_okD (n := 5) F sc__law_kinds rfl (fun ds M k kx h => by obtain ⟨_, rfl, _⟩ := h; rfl) fun cdv A outer s H E hr => ⟨_, (ss_cons (s_set (i := 1) sc__law_kinds.nd rfl (by first | exact Or.inl rfl | exact Or.inr rfl) (e_listRg rfl (by rfl) T.z_list (r_2 (by rfl) T.z_range (e_neg e_int) (ev 0))))
      (ss_cons (s_set (i := 2) sc__law_kinds.nd rfl (by first | exact Or.inl rfl | exact Or.inr rfl) (e_lstF a_nil))
      (ss_cons (s_for (t := (.one 3)) (passes_of rfl) rfl (i_seq (ev 1)) (pg_name (i := 3) sc__law_kinds.nd rfl (by first | exact Or.inl rfl | exact Or.inr rfl)) (ss_one (s_set (i := 2) sc__law_kinds.nd rfl (by first | exact Or.inl rfl | exact Or.inr rfl) (e_op o_add (ev 2) (e_lc (t := (.one 4)) (vs := [4]) rfl sc__law_kinds.nd (i_seq (ev 1)) (blkOk_by (own := [("_law_right", 4)]) (N := ["_law_many", "_law_kinds_here", "_law_found", "_law_left", "_law_right"]) (sc := defScope st__law_kinds) (by decide +kernel)) (fun _ _ _ _ _ => (pg_name (i := 4) sc__law_kinds.nd rfl (by first | exact Or.inl rfl | exact Or.inr rfl))) (fun _ _ _ _ _ => (n_one (t_cmp (o_ne hr) (e_tup (a_cons (ev 3) (a_cons (ev 4) a_nil))) (e_tup (a_cons (e_neg e_int) (a_cons (e_neg e_int) a_nil))) (nomark _)))) (fun _ _ _ _ _ => (e_tup (a_cons (ev 3) (a_cons (ev 4) a_nil)))) (by decide))))))
      (ss_one (s_ret (ev 2)))))), ?_⟩
  intro ds M k kx h
  obtain ⟨m, rfl, hm, hk⟩ := h
  have e1 : rngD (-1) ((1 : Int) - -1).toNat = [.int (-1), .int 0] := rfl
  have e2 : rngD (-1) ((2 : Int) - -1).toNat = [.int (-1), .int 0, .int 1] := rfl
  rcases hm with rfl | rfl
  · walk_at "run"
    refine ⟨by decide, ?_⟩
    rw [e1]
    walk_at "run"
    walk_at "rolls"
    exact ⟨_, .refl _, hk⟩
  · walk_at "run"
    refine ⟨by decide, ?_⟩
    rw [e2]
    walk_at "run"
    walk_at "rolls"
    exact ⟨_, .refl _, hk⟩
end

section
variable {P : Program} {w : World} {K : PySem.W.Frag} {mg : Str → Option Value} {base : Heap} {cl : String → Addr}
theorem ok__law_rule {f : Addr} {fd : FuncData} (F : Fun K "_law_rule" "_law_rule" st__law_rule f fd) (T : Txt K mg cl) (U : Txw P w K mg base cl) (C__law_dig : Callee P w K mg base "_law_dig" 1 sp__law_dig) (C__law_pick : Callee P w K mg base "_law_pick" 2 sp__law_pick) (C__law_kinds : Callee P w K mg base "_law_kinds" 1 sp__law_kinds) : FnOk P w K mg base (L2.CX P w) 3 f fd ["_law_hoe_here", "_law_most"] (toSp K sp__law_rule) := by
  refine fn_okD (n := 9) F sc__law_rule rfl (fun ds M k kx h => by obtain ⟨_, _, rfl, _⟩ := h; rfl) fun cdv A outer s H E hr => ⟨_, (ss_cons (s_asg (t := (.many [2, 3])) (e_tup (a_cons (e_op o_add e_int (e_call C__law_dig (hr.mono (by omega)) (by rfl) (a_cons (ev 0) (a_cons (ev 1) a_nil)))) (a_cons (e_call C__law_pick (hr.mono (by omega)) (by rfl) (a_cons (ev 0) (a_cons (e_lstF (a_cons e_int (a_cons e_int (a_cons e_int (a_cons e_int (a_cons e_int a_nil)))))) a_nil))) a_nil))) (pg_tup rfl (pgs_cons (pg_name (i := 2) sc__law_rule.nd rfl (by first | exact Or.inl rfl | exact Or.inr rfl)) (pgs_cons (pg_name (i := 3) sc__law_rule.nd rfl (by first | exact Or.inl rfl | exact Or.inr rfl)) pgs_nil))))
      (ss_cons (s_set (i := 4) sc__law_rule.nd rfl (by first | exact Or.inl rfl | exact Or.inr rfl) (e_callTy c_tuple (by rfl) T.z_tuple bt_tuple (a_cons (e_lc (t := (.one 7)) (vs := [7]) rfl sc__law_rule.nd (i_rg1 (by rfl) T.z_range (a_cons (ev 2) a_nil)) (blkOk_by (own := [("_law_kind", 7)]) (N := ["_law_hoe_here", "_law_most", "_law_many", "_law_part", "_law_sizes", "_law_pairs", "_law_turn", "_law_kind", "_law_pair"]) (sc := defScope st__law_rule) (by decide +kernel)) (fun _ _ _ _ _ => (pg_name (i := 7) sc__law_rule.nd rfl (by first | exact Or.inl rfl | exact Or.inr rfl))) (fun _ _ _ _ _ => n_nil) (fun _ _ _ _ _ => (e_op o_add e_int (e_call C__law_dig (hr.mono (by omega)) (by rfl) (a_cons (ev 0) (a_cons e_int a_nil))))) (by decide)) a_nil)))
      (ss_cons (s_set (i := 5) sc__law_rule.nd rfl (by first | exact Or.inl rfl | exact Or.inr rfl) (e_lst a_nil))
      (ss_cons (s_for (t := (.one 6)) (passes_of rfl) rfl (i_rg1 (by rfl) T.z_range (a_cons e_int a_nil)) (pg_name (i := 6) sc__law_rule.nd rfl (by first | exact Or.inl rfl | exact Or.inr rfl)) (ss_one (s_expr (e_app (ev 5) (e_callTy c_tuple (by rfl) T.z_tuple bt_tuple (a_cons (e_lc (t := (.one 8)) (vs := [8]) rfl sc__law_rule.nd (i_seq (e_call C__law_kinds (hr.mono (by omega)) (by rfl) (a_cons (ev 2) a_nil))) (blkOk_by (own := [("_law_pair", 8)]) (N := ["_law_hoe_here", "_law_most", "_law_many", "_law_part", "_law_sizes", "_law_pairs", "_law_turn", "_law_kind", "_law_pair"]) (sc := defScope st__law_rule) (by decide +kernel)) (fun _ _ _ _ _ => (pg_name (i := 8) sc__law_rule.nd rfl (by first | exact Or.inl rfl | exact Or.inr rfl))) (fun _ _ _ _ _ => (n_one (t_cmp o_gt (e_call C__law_dig (hr.mono (by omega)) (by rfl) (a_cons (ev 0) (a_cons (ev 3) a_nil))) e_int (nomark _)))) (fun _ _ _ _ _ => (ev 8)) (by decide)) a_nil))))))
      (ss_one (s_ret (e_tup (a_cons (ev 4) (a_cons (e_ix (fun _ _ => rfl) (ev 5) e_int) (a_cons (e_ix (fun _ _ => rfl) (ev 5) e_int) a_nil)))))))))), ?_⟩
  intro ds M k kx h
  obtain ⟨a, m, rfl, hh, hm, hk⟩ := h
  walk_at "run"
  refine ⟨a, _, rfl, hh, by omega, fun r M1 r1 r2 h1 => ?_⟩
  walk_at "run"
  refine ⟨a, _, rfl, _, rfl, h1.hoe, by decide, by decide, fun x hx M2 h2 => ?_⟩
  have hp : ∃ p, x = .int p ∧ 0 < p ∧ p < 100 := by
    simp only [List.mem_cons, List.not_mem_nil, or_false] at hx
    rcases hx with rfl | rfl | rfl | rfl | rfl <;> exact ⟨_, rfl, by decide, by decide⟩
  obtain ⟨p, rfl, p1, p2⟩ := hp
  have d2 := h1.trans h2
  clear h1 h2 M1 hx
  have hsz : (sizeLine : Nat) = 16777216 := sizeLine_eq
  walk_at "run"
  refine ⟨by omega, by rw [rngD_len]; omega, ?_⟩
  refine lc_inv (fun rest acc M' => ∃ ns : List Int, acc = ns.map D.int ∧ (∀ n ∈ ns, 1 ≤ n ∧ n ≤ 2) ∧ ((ns.length : Int) + rest.length = 1 + r) ∧ Dug a M M') (fun z rest acc M' N hN ⟨ns, e, hn, hl, hd⟩ => ?_) (fun acc M' ⟨ns, e, hn, hl, hd⟩ => ?_) _ _ _ ⟨[], rfl, by simp, by rw [rngD_len]; simp; omega, d2⟩
  · walk_at "run"
    refine ⟨a, _, rfl, hd.hoe, by decide, fun y M3 y1 y2 h3 => ?_⟩
    walk_at "run"
    refine hN _ _ ⟨ns ++ [1 + y], by rw [e]; simp, fun n h => ?_, ?_, hd.trans h3⟩
    · rcases List.mem_append.mp h with h | h
      · exact hn n h
      · simp at h; omega
    · simp at hl ⊢; omega
  · subst e
    walk_at "run"
    intro q hq
    have hqa := hd.hoe.ne hq
    have hlen : (ns.length : Int) = 1 + r := by simpa using hl
    have hlen2 : (1 + r).toNat = ns.length := by omega
    walk_at "run"
    refine ⟨by decide, ?_⟩
    refine for_inv (fun rest sd M' => ∃ x6 x8, sd = [some (.ref a), some (.int m), some (.int (1 + r)), some (.int p), some (.tup (ns.map D.int)), some (.ref q), x6, none, x8] ∧ ∃ ps : List (List (Int × Int)), (∀ l ∈ ps, l.Sublist (kindsZ ns.length)) ∧ M' q = some (.lst (ps.map fun l => .tup (l.map pD))) ∧ ps.length + rest.length = 2 ∧ Dig a M M') (fun z rest sd M1 N hN ⟨x6, x8, e, ps, hps, hMq, hl2, hdg⟩ => ?_) (fun sd M1 ⟨x6, x8, e, ps, hps, hMq, hl2, hdg⟩ => ?_) _ _ _ ⟨_, _, rfl, [], by simp, put_same, by rw [rngD_len]; simp, (hd.dig).new hq⟩
    · subst e
      walk_at "run"
      refine ⟨_, rfl, by omega, ?_⟩
      walk_at "run"
      refine lc_inv (fun rest acc M3 => ∃ us vs : List (Int × Int), acc = us.map pD ∧ rest = vs.map pD ∧ (us ++ vs).Sublist (kindsZ ns.length) ∧ Dig a M M3 ∧ M3 q = M1 q) (fun z' rest' acc M3 N2 hN2 h => ?_) (fun acc M3 h => ?_) _ _ _ ⟨[], kindsZ ns.length, rfl, by rw [hlen2], List.Sublist.refl _, hdg, rfl⟩
      · obtain ⟨us, vs, e1, e2, hs, hd3, hq3⟩ := h
        cases vs with
        | nil => cases e2
        | cons v vs =>
          rw [List.map_cons] at e2
          obtain ⟨rfl, rfl⟩ := List.cons.inj e2
          walk_at "run"
          refine ⟨a, p, rfl, hd3.1, by omega, fun y M4 y1 y2 h4 => ?_⟩
          walk_at "run"
          have hq4 : M4 q = M1 q := by rw [h4.ne hqa, hq3]
          refine sel_dec (fun h => ?_) fun h => ?_
          · walk_at "run"
            exact hN2 _ _ ⟨us ++ [v], vs, by rw [e1]; simp, rfl, by simpa using hs, hd3.dug h4, hq4⟩
          · exact hN2 _ _ ⟨us, vs, e1, rfl, (List.Sublist.append_left (List.sublist_cons_self v vs) us).trans hs, hd3.dug h4, hq4⟩
      · obtain ⟨us, vs, e1, e2, hs, hd3, hq3⟩ := h
        have e3 : vs = [] := by cases vs with | nil => rfl | cons _ _ => cases e2
        subst e1 e3
        rw [List.append_nil] at hs
        rw [← hq3] at hMq
        walk_at "run"
        refine ⟨by rw [List.length_map]; simp at hl2; omega, ?_⟩
        walk_at "run"
        refine hN _ _ ⟨_, _, rfl, ps ++ [us], fun l hl => ?_, by rw [put_same]; simp, by simp at hl2 ⊢; omega, hd3.put hqa (hd.dig.none hq)⟩
        rcases List.mem_append.mp hl with h | h
        · exact hps l h
        · simp at h; rw [h]; exact hs
    · subst e
      obtain ⟨x, y, rfl⟩ := len2 (l := ps) (by simpa using hl2)
      walk_at "run"
      obtain ⟨M0, hd0, hle⟩ := hdg.out
      have h12 : ns.length = 1 ∨ ns.length = 2 := by omega
      have hkz : (kindsZ ns.length).length ≤ 8 := by rcases h12 with e | e <;> rw [e] <;> decide
      refine ⟨M0, hle, hk ⟨ns, x, y⟩ ?_ (by simp; omega) (by simp; omega) hn (Nat.le_trans (hps _ (by simp)).length_le hkz) (Nat.le_trans (hps _ (by simp)).length_le hkz) _ hd0⟩
      exact isRuleD_mk (by simp; omega) (by simp; omega) hn (kinds_pairs h12 (hps _ (by simp))) (kinds_pairs h12 (hps _ (by simp)))
end

section
variable {P : Program} {w : World} {K : PySem.W.Frag} {mg : Str → Option Value} {base : Heap} {cl : String → Addr}
theorem ok__law_int {f : Addr} {fd : FuncData} (F : Fun K "_law_int" "_law_int" st__law_int f fd) (T : Txt K mg cl) (U : Txw P w K mg base cl)  : FnOk P w K mg base (L2.CX P w) 1 f fd ["_law_value", "_law_low", "_law_high"] (toSp K sp__law_int) := by
  refine fn_okD (n := 3) F sc__law_int rfl (fun ds M k kx h => by obtain ⟨_, _, _, rfl, _⟩ := h; rfl) fun cdv A outer s H E hr => ⟨_, (ss_one (s_ret (e_and (e_isi isi_int (by rfl) T.z_isinstance (by rfl) T.z_int bt_int (ev 0)) (e_and (e_not (e_isi isi_bool (by rfl) T.z_isinstance (by rfl) T.z_bool bt_bool (ev 0))) (e_and1 (e_chain o_le o_le (ev 1) (ev 0) (ev 2))))))), ?_⟩
  intro ds M k kx h
  obtain ⟨v, lo, hi, rfl, hv, hk⟩ := h
  cases v with
  | int i =>
    walk_at "run"
    refine sel_dec (fun h => ?_) fun h => ?_
    · walk_at "run"
      exact ⟨_, .refl _, by simpa [isNum, h] using hk⟩
    · walk_at "run"
      exact ⟨_, .refl _, by simpa [isNum, h] using hk⟩
  | bl b => walk_at "run"; exact ⟨_, .refl _, hk⟩
  | ref a => simp [laid] at hv
  | ty a => simp [laid] at hv
  | exc _ _ _ _ => simp [laid] at hv
  | lam _ _ _ => simp [laid] at hv
  | _ => walk_at "run"; exact ⟨_, .refl _, hk⟩
end

section
variable {P : Program} {w : World} {K : PySem.W.Frag} {mg : Str → Option Value} {base : Heap} {cl : String → Addr}
theorem ok__law_are_pairs {f : Addr} {fd : FuncData} (F : Fun K "_law_are_pairs" "_law_are_pairs" st__law_are_pairs f fd) (T : Txt K mg cl) (U : Txw P w K mg base cl) (C__law_int : Callee P w K mg base "_law_int" 1 sp__law_int) : FnOk P w K mg base (L2.CX P w) 2 f fd ["_law_many", "_law_value"] (toSp K sp__law_are_pairs) := by
  refine fn_okD (n := 3) F sc__law_are_pairs rfl (fun ds M k kx h => by obtain ⟨_, _, rfl, _⟩ := h; rfl) fun cdv A outer s H E hr => ⟨_, (ss_cons (s_if (t_not (t_val (e_isi isi_tup (by rfl) T.z_isinstance (by rfl) T.z_tuple bt_tuple (ev 1)))) (ss_one (s_ret e_bl)) ss_nil)
      (ss_cons (s_for (t := (.one 2)) (passes_of rfl) rfl (i_seq (ev 1)) (pg_name (i := 2) sc__law_are_pairs.nd rfl (by first | exact Or.inl rfl | exact Or.inr rfl)) (ss_cons (s_if (t_bool (b_or (t_not (t_val (e_isi isi_tup (by rfl) T.z_isinstance (by rfl) T.z_tuple bt_tuple (ev 2)))) (b_or (t_cmp (o_ne hr) (e_callB c_len (by rfl) T.z_len bt_len (a_cons (ev 2) a_nil)) e_int (nomark _)) (b_or1 (t_cmp (o_eq hr) (ev 2) (e_tup (a_cons (e_neg e_int) (a_cons (e_neg e_int) a_nil))) (nomark _)))))) (ss_one (s_ret e_bl)) ss_nil)
      (ss_one (s_if (t_bool (b_or (t_not (t_val (e_call C__law_int (hr.mono (by omega)) (by rfl) (a_cons (e_ix (fun _ _ => rfl) (ev 2) e_int) (a_cons (e_neg e_int) (a_cons (e_op o_sub (ev 0) e_int) a_nil)))))) (b_or1 (t_not (t_val (e_call C__law_int (hr.mono (by omega)) (by rfl) (a_cons (e_ix (fun _ _ => rfl) (ev 2) e_int) (a_cons (e_neg e_int) (a_cons (e_op o_sub (ev 0) e_int) a_nil))))))))) (ss_one (s_ret e_bl)) ss_nil))))
      (ss_one (s_ret (e_cmp (o_eq hr) (e_callTy c_listF (by rfl) T.z_list bt_list (a_cons (ev 1) a_nil)) (e_sset hr rfl (by rfl) T.z_sorted (by rfl) T.z_set (ev 1)) (nomark _)))))), ?_⟩
  intro ds M k kx h
  obtain ⟨m, v, rfl, hv, hlen, hk⟩ := h
  cases v with
  | tup l =>
    have hl64 := hlen l rfl
    rw [laid_tup] at hv
    walk_at "run"
    have bad : ∀ x, x ∈ l → isPairD m x = false → arePairsD m (.tup l) = false := fun x hx hb => by
      simp only [arePairsD]
      have : l.all (isPairD m) = false := by
        rw [List.all_eq_false]
        exact ⟨x, hx, by rw [hb]; exact Bool.false_ne_true⟩
      rw [this]; rfl
    refine for_inv (fun rest sd M' => ∃ x2, sd = [some (.int m), some (.tup l), x2] ∧ M' = M ∧ ∃ d, l = d ++ rest ∧ d.all (isPairD m) = true) (fun x rest sd M1 N hN h => ?_) (fun sd M1 h => ?_) _ _ _ ⟨_, rfl, rfl, [], rfl, rfl⟩
    · obtain ⟨x2, rfl, rfl, d, e, hd⟩ := h
      have hx : x ∈ l := by rw [e]; simp
      have lx := laidL_mem hv x hx
      have no : isPairD m x = false → k (.bl false) M1 := fun hb => by rw [bad x hx hb] at hk; exact hk
      have yes : isPairD m x = true → N [some (.int m), some (.tup l), some x] M1 := fun hb => hN _ _ ⟨_, rfl, rfl, d ++ [x], by rw [e]; simp, by simp [hd, hb]⟩
      cases x with
      | tup y =>
        walk_at "run"
        refine sel_dec (fun h2 => ?_) fun h2 => ?_
        · obtain ⟨a, b, rfl⟩ := len2i h2
          simp only [laid_tup, laidL_cons, laidL_nil, Bool.and_eq_true, and_true] at lx
          walk_at "run"
          refine ⟨⟨by simp [laid, laidL, lx.1, lx.2], rfl, by simp [dep, depL]⟩, ?_⟩
          walk_at "run"
          refine sel_by (fun h3 => ?_) fun h3 => ?_
          · walk_at "run"
            have h3' : eqv (.tup [a, b]) (.tup [.int (-1), .int (-1)]) = true := h3
            exact ⟨_, .refl _, no (by simp [isPairD, h3'])⟩
          · have h3' : eqv (.tup [a, b]) (.tup [.int (-1), .int (-1)]) = false := h3
            walk_at "run"
            refine ⟨_, _, _, rfl, lx.1, ?_⟩
            walk_at "run"
            refine sel_by (fun h4 => ?_) fun h4 => ?_
            · walk_at "run"
              refine ⟨_, _, _, rfl, lx.2, ?_⟩
              walk_at "run"
              refine sel_by (fun h5 => ?_) fun h5 => ?_
              · walk_at "run"
                exact yes (by simp [isPairD, h3', h4, h5])
              · walk_at "run"
                exact ⟨_, .refl _, no (by simp [isPairD, h5])⟩
            · walk_at "run"
              exact ⟨_, .refl _, no (by simp [isPairD, h4])⟩
        · walk_at "run"
          exact ⟨_, .refl _, no (isPairD_len (by omega))⟩
      | ref a => simp [laid] at lx
      | ty a => simp [laid] at lx
      | exc _ _ _ _ => simp [laid] at lx
      | lam _ _ _ => simp [laid] at lx
      | _ => walk_at "run"; exact ⟨_, .refl _, no rfl⟩
    · obtain ⟨x2, rfl, rfl, d, e, hd⟩ := h
      rw [List.append_nil] at e
      subst e
      obtain ⟨ps, rfl⟩ := isPairs_shape hd
      walk_at "run"
      refine ⟨ps, rfl, by simpa using hl64, fun L hm hp => ?_⟩
      walk_at "run"
      have eL : L.map qD = L.map pD := rfl
      rw [eL]
      have d1 := depL_pDs ps
      refine ⟨⟨by rw [laid_lst]; exact laidL_pDs ps, by rw [laid_lst]; exact laidL_pDs L, by simp only [dep]; omega⟩, ⟨_, .refl _, ?_⟩⟩
      have e1 : eqv (.lst (ps.map pD)) (.lst (L.map pD)) = ascD (ps.map pD) := by
        simp only [eqv]
        rw [eqvL_pDs_iff]
        by_cases h : ascD (ps.map pD) = true
        · rw [h, decide_eq_true_eq]
          exact asc_uniq (ascD_iff.mp h) hp fun z => (hm z).symm
        · rw [Bool.not_eq_true] at h
          rw [h, decide_eq_false_iff_not]
          intro e
          subst e
          rw [ascD_iff.mpr hp] at h
          cases h
      rw [e1]
      have e2 : arePairsD m (.tup (ps.map pD)) = ascD (ps.map pD) := by simp only [arePairsD, hd, Bool.true_and]
      rw [e2] at hk
      exact hk
  | ref a => simp [laid] at hv
  | ty a => simp [laid] at hv
  | exc _ _ _ _ => simp [laid] at hv
  | lam _ _ _ => simp [laid] at hv
  | _ => walk_at "run"; exact ⟨_, .refl _, hk⟩
end

section
variable {P : Program} {w : World} {K : PySem.W.Frag} {mg : Str → Option Value} {base : Heap} {cl : String → Addr}
theorem ok__law_is_rule {f : Addr} {fd : FuncData} (F : Fun K "_law_is_rule" "_law_is_rule" st__law_is_rule f fd) (T : Txt K mg cl) (U : Txw P w K mg base cl) (C__law_int : Callee P w K mg base "_law_int" 1 sp__law_int) (C__law_are_pairs : Callee P w K mg base "_law_are_pairs" 2 sp__law_are_pairs) : FnOk P w K mg base (L2.CX P w) 3 f fd ["_law_value"] (toSp K sp__law_is_rule) := by
  refine fn_okD (n := 2) F sc__law_is_rule rfl (fun ds M k kx h => by obtain ⟨_, rfl, _⟩ := h; rfl) fun cdv A outer s H E hr => ⟨_, (ss_cons (s_if (t_bool (b_or (t_not (t_val (e_isi isi_tup (by rfl) T.z_isinstance (by rfl) T.z_tuple bt_tuple (ev 0)))) (b_or (t_cmp (o_ne hr) (e_callB c_len (by rfl) T.z_len bt_len (a_cons (ev 0) a_nil)) e_int (nomark _)) (b_or1 (t_not (t_val (e_isi isi_tup (by rfl) T.z_isinstance (by rfl) T.z_tuple bt_tuple (e_ix (fun _ _ => rfl) (ev 0) e_int)))))))) (ss_one (s_ret e_bl)) ss_nil)
      (ss_cons (s_if (t_bool (b_or (t_not (t_chain o_le o_le e_int (e_callB c_len (by rfl) T.z_len bt_len (a_cons (e_ix (fun _ _ => rfl) (ev 0) e_int) a_nil)) e_int)) (b_or1 (t_cmp (o_ne hr) (e_lc (t := (.one 1)) (vs := [1]) rfl sc__law_is_rule.nd (i_seq (e_ix (fun _ _ => rfl) (ev 0) e_int)) (blkOk_by (own := [("_law_size", 1)]) (N := ["_law_value", "_law_size"]) (sc := defScope st__law_is_rule) (by decide +kernel)) (fun _ _ _ _ _ => (pg_name (i := 1) sc__law_is_rule.nd rfl (by first | exact Or.inl rfl | exact Or.inr rfl))) (fun _ _ _ _ _ => (n_one (t_not (t_val (e_call C__law_int (hr.mono (by omega)) (by rfl) (a_cons (ev 1) (a_cons e_int (a_cons e_int a_nil)))))))) (fun _ _ _ _ _ => (ev 1)) (by decide)) (e_lstF a_nil) (nomark _))))) (ss_one (s_ret e_bl)) ss_nil)
      (ss_one (s_ret (e_and (e_call C__law_are_pairs (hr.mono (by omega)) (by rfl) (a_cons (e_callB c_len (by rfl) T.z_len bt_len (a_cons (e_ix (fun _ _ => rfl) (ev 0) e_int) a_nil)) (a_cons (e_ix (fun _ _ => rfl) (ev 0) e_int) a_nil))) (e_and1 (e_call C__law_are_pairs (hr.mono (by omega)) (by rfl) (a_cons (e_callB c_len (by rfl) T.z_len bt_len (a_cons (e_ix (fun _ _ => rfl) (ev 0) e_int) a_nil)) (a_cons (e_ix (fun _ _ => rfl) (ev 0) e_int) a_nil))))))))), ?_⟩
  intro ds M k kx h
  obtain ⟨v, rfl, hv, hw, hk⟩ := h
  cases v with
  | tup l =>
    rw [laid_tup] at hv
    walk_at "run"
    refine sel_dec (fun h => ?_) fun h => ?_
    · obtain ⟨a, b, c, rfl⟩ := len3i h
      simp only [laidL_cons, laidL_nil, Bool.and_eq_true, and_true] at hv
      have wb := wid_mem hw b (by simp)
      have wc := wid_mem hw c (by simp)
      walk_at "run"
      have la := hv.1
      cases a with
      | tup s =>
        rw [laid_tup] at la
        walk_at "run"
        refine sel_dec (fun h1 => ?_) fun h1 => ?_
        · walk_at "run"
          refine sel_dec (fun h2 => ?_) fun h2 => ?_
          · walk_at "run"
            refine lc_fm (fun x => !isNum x 1 2) (fun x => x) (fun x hx K1 K2 k1 k2 => ?_) ?_
            · walk_at "run"
              refine ⟨_, _, _, rfl, laidL_mem la x hx, ?_⟩
              walk_at "run"
              refine sel_by (fun h => ?_) fun h => ?_
              · exact k2 (by simp [h])
              · walk_at "run"
                exact k1 (by simp [h])
            · walk_at "run"
              rw [List.nil_append, List.map_id']
              have lf : laidL (s.filter fun x => !isNum x 1 2) = true := laidL_of fun x hx => laidL_mem la x (List.mem_filter.mp hx).1
              refine ⟨⟨by rw [laid_lst]; exact lf, rfl, by simp [dep, depL]⟩, ?_⟩
              have n1 : 1 ≤ s.length := by omega
              have n2 : s.length ≤ 2 := by omega
              have ee : eqv (.lst (s.filter fun x => !isNum x 1 2)) (.lst []) = s.all fun z => isNum z 1 2 := by
                cases hq : s.all fun z => isNum z 1 2 with
                | true => rw [filter_nil_all.mpr hq]; simp [eqv, eqvL]
                | false =>
                  cases hf : s.filter fun x => !isNum x 1 2 with
                  | nil => rw [filter_nil_all.mp hf] at hq; cases hq
                  | cons _ _ => simp [eqv, eqvL]
              rw [ee]
              walk_at "run"
              refine sel_by (fun h3 => ?_) fun h3 => ?_
              · walk_at "run"
                refine ⟨_, _, rfl, hv.2.1, fun l e => by subst e; exact wid_len wb, ?_⟩
                walk_at "run"
                refine sel_by (fun h4 => ?_) fun h4 => ?_
                · walk_at "run"
                  refine ⟨_, _, rfl, hv.2.2, fun l e => by subst e; exact wid_len wc, ?_⟩
                  exact ⟨_, .refl _, by simpa [isRuleD, isRule3, n1, n2, h3, h4] using hk⟩
                · exact ⟨_, .refl _, by simpa [isRuleD, isRule3, n1, n2, h3, h4] using hk⟩
              · walk_at "run"
                exact ⟨_, .refl _, by simpa [isRuleD, isRule3, n1, n2, h3] using hk⟩
          · walk_at "run"
            exact ⟨_, .refl _, by (have e2 : ¬ s.length ≤ 2 := by omega
                                   simpa [isRuleD, isRule3, e2] using hk)⟩
        · walk_at "run"
          exact ⟨_, .refl _, by (have e2 : ¬ 1 ≤ s.length := by omega
                                 simpa [isRuleD, isRule3, e2] using hk)⟩
      | ref a => simp [laid] at la
      | ty a => simp [laid] at la
      | exc _ _ _ _ => simp [laid] at la
      | lam _ _ _ => simp [laid] at la
      | _ => walk_at "run"; exact ⟨_, .refl _, hk⟩
    · walk_at "run"
      exact ⟨_, .refl _, by rw [isRuleD_len (by omega)] at hk; exact hk⟩
  | ref a => simp [laid] at hv
  | ty a => simp [laid] at hv
  | exc _ _ _ _ => simp [laid] at hv
  | lam _ _ _ => simp [laid] at hv
  | _ => walk_at "run"; exact ⟨_, .refl _, hk⟩
end

section
variable {P : Program} {w : World} {K : PySem.W.Frag} {mg : Str → Option Value} {base : Heap} {cl : String → Addr}
theorem ok__law_odd {f : Addr} {fd : FuncData} (F : Fun K "_law_odd" "_law_odd" st__law_odd f fd) (T : Txt K mg cl) (U : Txw P w K mg base cl) (C__law_pick : Callee P w K mg base "_law_pick" 2 sp__law_pick) : FnOk P w K mg base (L2.CX P w) 3 f fd ["_law_hoe_here"] (toSp K sp__law_odd) := by
  refine fn_okD (n := 2) F sc__law_odd rfl (fun ds M k kx h => by obtain ⟨_, rfl, _⟩ := h; rfl) fun cdv A outer s H E hr => ⟨_, (ss_cons (s_set (i := 1) sc__law_odd.nd rfl (by first | exact Or.inl rfl | exact Or.inr rfl) (e_lstF (a_cons e_non (a_cons e_bl (a_cons e_bl (a_cons e_int (a_cons e_int (a_cons e_int (a_cons e_int (a_cons (e_neg e_int) (a_cons (e_neg e_int) (a_cons (e_op o_pow e_int e_int) (a_cons e_str (a_cons e_str (a_cons e_str (a_cons (e_tup a_nil) (a_cons (e_lstF a_nil) (a_cons (e_tup (a_cons e_int a_nil)) (a_cons (e_tup (a_cons e_int (a_cons e_int a_nil))) (a_cons (e_tup (a_cons e_int (a_cons e_int a_nil))) (a_cons (e_tup (a_cons (e_neg e_int) (a_cons e_int a_nil))) a_nil)))))))))))))))))))))
      (ss_cons (s_set (i := 1) sc__law_odd.nd rfl (by first | exact Or.inl rfl | exact Or.inr rfl) (e_op o_add (ev 1) (e_lstF (a_cons (e_tup (a_cons (e_neg e_int) (a_cons (e_neg e_int) a_nil))) (a_cons (e_tup (a_cons (e_tup (a_cons e_int (a_cons e_int a_nil))) a_nil)) (a_cons (e_tup (a_cons e_int (a_cons (e_neg e_int) (a_cons e_int a_nil)))) (a_cons (e_tup (a_cons (e_tup (a_cons e_int a_nil)) (a_cons (e_tup a_nil) (a_cons (e_tup a_nil) a_nil)))) a_nil)))))))
      (ss_one (s_ret (e_call C__law_pick (hr.mono (by omega)) (by rfl) (a_cons (ev 0) (a_cons (e_op o_add (ev 1) (e_lstF (a_cons (e_tup (a_cons (e_tup (a_cons e_int (a_cons e_int (a_cons e_int (a_cons e_int a_nil))))) a_nil)) (a_cons (e_tup (a_cons (e_tup (a_cons (e_neg e_int) (a_cons e_int a_nil))) (a_cons (e_tup (a_cons e_int (a_cons (e_neg e_int) a_nil))) a_nil))) a_nil)))) a_nil))))))), ?_⟩
  intro ds M k kx h
  obtain ⟨a, rfl, hh, hk⟩ := h
  walk_at "run"
  refine ⟨a, _, rfl, _, rfl, hh, by simp, by simp, fun x hx M1 h1 => ?_⟩
  obtain ⟨z1, z2, z3, z4⟩ := odd_ok (by decide +kernel) hx
  exact ⟨_, .refl _, hk x z1 z2 z3 z4 _ h1⟩
end

section
variable {P : Program} {w : World} {K : PySem.W.Frag} {mg : Str → Option Value} {base : Heap} {cl : String → Addr}
theorem ok__law_bent {f : Addr} {fd : FuncData} (F : Fun K "_law_bent" "_law_bent" st__law_bent f fd) (T : Txt K mg cl) (U : Txw P w K mg base cl) {d : Nat} (C__law_bent : Callee P w K mg base "_law_bent" (3 + d) (sp__law_bent d)) (C__law_dig : Callee P w K mg base "_law_dig" 1 sp__law_dig) (C__law_pick : Callee P w K mg base "_law_pick" 2 sp__law_pick) (C__law_odd : Callee P w K mg base "_law_odd" 3 sp__law_odd) : FnOk P w K mg base (L2.CX P w) (3 + d + 1) f fd ["_law_hoe_here", "_law_value"] (toSp K (sp__law_bent (d + 1))) := by
  refine fn_okD (n := 4) F sc__law_bent rfl (fun ds M k kx h => by obtain ⟨_, _, rfl, _⟩ := h; rfl) fun cdv A outer s H E hr => ⟨_, (ss_cons (s_if (t_bool (b_or (t_not (t_val (e_isi isi_tup (by rfl) T.z_isinstance (by rfl) T.z_tuple bt_tuple (ev 1)))) (b_or (t_cmp (o_eq hr) (ev 1) (e_tup a_nil) (nomark _)) (b_or1 (t_cmp (o_eq hr) (e_call C__law_dig (hr.mono (by omega)) (by rfl) (a_cons (ev 0) (a_cons e_int a_nil))) e_int (nomark _)))))) (ss_cons (s_if (t_bool (b_and (t_val (e_isi isi_int (by rfl) T.z_isinstance (by rfl) T.z_int bt_int (ev 1))) (b_and (t_not (t_val (e_isi isi_bool (by rfl) T.z_isinstance (by rfl) T.z_bool bt_bool (ev 1)))) (b_and1 (t_cmp o_gt (e_call C__law_dig (hr.mono (by omega)) (by rfl) (a_cons (ev 0) (a_cons e_int a_nil))) e_int (nomark _)))))) (ss_one (s_ret (e_op o_add (ev 1) (e_call C__law_pick (hr.mono (by omega)) (by rfl) (a_cons (ev 0) (a_cons (e_lstF (a_cons (e_neg e_int) (a_cons e_int (a_cons e_int (a_cons e_int (a_cons (e_neg e_int) a_nil)))))) a_nil)))))) ss_nil)
      (ss_one (s_ret (e_call C__law_odd (hr.mono (by omega)) (by rfl) (a_cons (ev 0) a_nil))))) ss_nil)
      (ss_cons (s_par (i := 2) (j := 3) rfl sc__law_bent.nd rfl rfl (by decide) rfl rfl (a_cons (e_call C__law_dig (hr.mono (by omega)) (by rfl) (a_cons (ev 0) (a_cons (e_callB c_len (by rfl) T.z_len bt_len (a_cons (ev 1) a_nil)) a_nil))) (a_cons (e_call C__law_dig (hr.mono (by omega)) (by rfl) (a_cons (ev 0) (a_cons e_int a_nil))) a_nil)) (by rfl))
      (ss_cons (s_if (t_cmp (o_eq hr) (ev 3) e_int (nomark _)) (ss_one (s_ret (e_op o_add (e_sl (ev 1) so_none (so_some (ev 2))) (e_sl (ev 1) (so_some (e_op o_add (ev 2) e_int)) so_none)))) ss_nil)
      (ss_cons (s_if (t_cmp (o_eq hr) (ev 3) e_int (nomark _)) (ss_one (s_ret (e_op o_add (e_sl (ev 1) so_none (so_some (e_op o_add (ev 2) e_int))) (e_sl (ev 1) (so_some (ev 2)) so_none)))) ss_nil)
      (ss_cons (s_if (t_cmp (o_eq hr) (ev 3) e_int (nomark _)) (ss_one (s_ret (e_op o_add (e_op o_add (e_sl (ev 1) so_none (so_some (ev 2))) (e_tup (a_cons (e_call C__law_odd (hr.mono (by omega)) (by rfl) (a_cons (ev 0) a_nil)) a_nil))) (e_sl (ev 1) (so_some (ev 2)) so_none)))) ss_nil)
      (ss_cons (s_if (t_cmp (o_eq hr) (ev 3) e_int (nomark _)) (ss_one (s_ret (e_callTy c_listF (by rfl) T.z_list bt_list (a_cons (ev 1) a_nil)))) ss_nil)
      (ss_one (s_ret (e_op o_add (e_op o_add (e_sl (ev 1) so_none (so_some (ev 2))) (e_tup (a_cons (e_call C__law_bent (hr.mono (by omega)) (by rfl) (a_cons (ev 0) (a_cons (e_ix (fun _ _ => rfl) (ev 1) (ev 2)) a_nil))) a_nil))) (e_sl (ev 1) (so_some (e_op o_add (ev 2) e_int)) so_none)))))))))), ?_⟩
  intro ds M k kx h
  obtain ⟨a, v, rfl, hv, hd, hs, hh, hk⟩ := h
  have hsz : (sizeLine : Nat) = 16777216 := sizeLine_eq
  have odd : ∀ M1, Dug a M M1 → ∀ x, laid x = true → dep x ≤ 3 → siz x ≤ 20 → wid x ≤ 8 → ∀ M2, Dug a M1 M2 → k x M2 := fun M1 h1 x x1 x2 x3 x4 M2 h2 => hk x ⟨x1, by omega, by omega, by omega⟩ M2 (h1.trans h2)
  have odd0 : ∀ x, laid x = true → dep x ≤ 3 → siz x ≤ 20 → wid x ≤ 8 → ∀ M2, Dug a M M2 → k x M2 := fun x x1 x2 x3 x4 M2 h2 => hk x ⟨x1, by omega, by omega, by omega⟩ M2 h2
  cases v with
  | tup l =>
    rw [laid_tup] at hv
    walk_at "run"
    refine ⟨⟨by rw [laid_tup]; exact hv, rfl, by simp [dep, depL]⟩, ?_⟩
    walk_at "run"
    refine sel_by (fun h0 => ?_) fun h0 => ?_
    · walk_at "run"
      exact ⟨a, rfl, hh, fun x x1 x2 x3 x4 M2 h2 => ⟨_, .refl _, odd0 x x1 x2 x3 x4 M2 h2⟩⟩
    · walk_at "run"
      refine ⟨a, _, rfl, hh, by decide, fun r M1 r1 r2 h1 => ?_⟩
      walk_at "run"
      refine sel_dec (fun h => ?_) fun h => ?_
      · walk_at "run"
        exact ⟨a, rfl, h1.hoe, fun x x1 x2 x3 x4 M2 h2 => ⟨_, .refl _, odd M1 h1 x x1 x2 x3 x4 M2 h2⟩⟩
      · walk_at "run"
        have hl : l ≠ [] := fun e => by subst e; simp [eqv, eqvL] at h0
        have hl0 : 0 < l.length := List.length_pos_iff.mpr hl
        have hll := sizL_len l
        simp only [siz] at hs
        refine ⟨a, _, rfl, h1.hoe, by omega, fun n M2 n1 n2 h2 => ?_⟩
        obtain ⟨n, rfl⟩ := Int.eq_ofNat_of_zero_le n1
        have hn : n < l.length := by omega
        walk_at "run"
        refine ⟨a, _, rfl, h2.hoe, by decide, fun w M3 w1 w2 h3 => ?_⟩
        have d3 := (h1.trans h2).trans h3
        have hln : laid l[n] = true := laidL_mem hv _ (List.getElem_mem hn)
        have edrop : l.drop n = l[n] :: l.drop (n + 1) := List.drop_eq_getElem_cons hn
        have etake : l.take (n + 1) = l.take n ++ [l[n]] := by rw [List.take_succ_eq_append_getElem hn]
        have lt : (l.take n).length ≤ l.length := by simp; omega
        have ld : (l.drop (n + 1)).length ≤ l.length := by simp
        have hdl : depL l = max (depL (l.take n)) (max (dep l[n]) (depL (l.drop (n + 1)))) := by conv => lhs; rw [around hn, depL_append, depL]
        have hsl : sizL l = sizL (l.take n) + (siz l[n] + sizL (l.drop (n + 1))) := by conv => lhs; rw [around hn, sizL_append, sizL]
        walk_at "run"
        refine sel_dec (fun e => ?_) fun e0 => ?_
        · walk_at "run"
          rw [cut_to, cut_from1]
          refine ⟨by omega, ⟨_, .refl _, hk _ ?_ _ d3⟩⟩
          have := bent_at hn hv (x := l.take n) (y := []) (z := l.drop (n + 1)) ⟨_, rfl, rfl, rfl⟩ rfl (by simp [depL]) (by simp [sizL]) (by simp [widL]) (by simp)
          rwa [List.append_nil] at this
        · walk_at "run"
          refine sel_dec (fun e => ?_) fun e1 => ?_
          · walk_at "run"
            rw [cut_to1, cut_from, etake, edrop]
            refine ⟨by simp only [List.length_append, List.length_cons, List.length_nil]; omega, ⟨_, .refl _, hk _ ?_ _ d3⟩⟩
            have := bent_at hn hv (x := l.take n) (y := [l[n], l[n]]) (z := l.drop (n + 1)) ⟨_, rfl, rfl, rfl⟩ (by simp [laidL, hln]) (by simp [depL]) (by simp [sizL]; omega) (by simp [widL]; omega) (by simp)
            rw [List.append_assoc] at this ⊢
            exact this
          · walk_at "run"
            refine sel_dec (fun e => ?_) fun e2 => ?_
            · walk_at "run"
              refine ⟨a, rfl, h3.hoe, fun x x1 x2 x3 x4 M4 h4 => ?_⟩
              walk_at "run"
              rw [cut_to]
              refine ⟨by simp only [List.length_append, List.length_cons, List.length_nil]; omega, ?_⟩
              walk_at "run"
              rw [cut_from, edrop]
              refine ⟨by simp only [List.length_append, List.length_cons, List.length_nil]; omega, ⟨_, .refl _, hk _ ?_ _ (d3.trans h4)⟩⟩
              have := bent_at hn hv (x := l.take n) (y := [x, l[n]]) (z := l.drop (n + 1)) ⟨_, rfl, rfl, rfl⟩ (by simp [laidL, hln, x1]) (by simp [depL]; omega) (by simp [sizL]; omega) (by simp [widL]; omega) (by simp)
              rw [List.append_assoc] at this ⊢
              exact this
            · walk_at "run"
              refine sel_dec (fun e => ?_) fun e3 => ?_
              · walk_at "run"
                exact ⟨_, .refl _, hk _ ⟨by rw [laid_lst]; exact hv, by simp [dep], by simp [siz]; omega, by simp [wid]; omega⟩ _ d3⟩
              · walk_at "run"
                refine onAt_some (atI_nat (List.getElem?_eq_getElem hn)) ?_
                refine ⟨a, _, rfl, hln, by simp only [dep] at hd; omega, by omega, h3.hoe, fun x ⟨x1, x2, x3, x4⟩ M4 h4 => ?_⟩
                walk_at "run"
                rw [cut_to]
                refine ⟨by simp only [List.length_append, List.length_cons, List.length_nil]; omega, ?_⟩
                walk_at "run"
                rw [cut_from1]
                refine ⟨by simp only [List.length_append, List.length_cons, List.length_nil]; omega, ⟨_, .refl _, hk _ ?_ _ (d3.trans h4)⟩⟩
                exact bent_at hn hv (x := l.take n) (y := [x]) (z := l.drop (n + 1)) ⟨_, rfl, rfl, rfl⟩ (by simp [laidL, x1]) (by simp [depL]; omega) (by simp [sizL]; omega) (by simp [widL]; omega) (by simp)
  | ref a => simp [laid] at hv
  | ty a => simp [laid] at hv
  | exc _ _ _ _ => simp [laid] at hv
  | lam _ _ _ => simp [laid] at hv
  | int i =>
    walk_at "run"
    refine ⟨a, _, rfl, hh, by decide, fun r M1 r1 r2 h1 => ?_⟩
    walk_at "run"
    refine sel_dec (fun h => ?_) fun h => ?_
    · walk_at "run"
      refine ⟨a, _, rfl, _, rfl, h1.hoe, by decide, by decide, fun x hx M2 h2 => ?_⟩
      have hx2 : ∃ j, x = .int j := by
        simp only [List.mem_cons, List.not_mem_nil, or_false] at hx
        rcases hx with rfl | rfl | rfl | rfl | rfl <;> exact ⟨_, rfl⟩
      obtain ⟨j, rfl⟩ := hx2
      walk_at "run"
      exact ⟨_, .refl _, hk _ ⟨rfl, by simp [dep], by simp [siz], by simp [wid]⟩ _ (h1.trans h2)⟩
    · walk_at "run"
      exact ⟨a, rfl, h1.hoe, fun x x1 x2 x3 x4 M2 h2 => ⟨_, .refl _, odd M1 h1 x x1 x2 x3 x4 M2 h2⟩⟩
  | _ =>
    walk_at "run"
    exact ⟨a, rfl, hh, fun x x1 x2 x3 x4 M2 h2 => ⟨_, .refl _, odd0 x x1 x2 x3 x4 M2 h2⟩⟩
end

section
variable {P : Program} {w : World} {K : PySem.W.Frag} {mg : Str → Option Value} {base : Heap} {cl : String → Addr}
theorem ok__law_grow {f : Addr} {fd : FuncData} (F : Fun K "_law_grow" "_law_grow" st__law_grow f fd) (T : Txt K mg cl) (U : Txw P w K mg base cl) (C_Hedge___iadd__ : MethD P w K mg base (cl "Hedge") "__iadd__" 6 (sp_Hedge___iadd__ cl)) : FnOk P w K mg base (L2.CX P w) 7 f fd ["_law_hedge", "_law_some"] (toSp K (sp__law_grow cl)) := by
  refine fn_okD (n := 2) F sc__law_grow rfl (fun ds M k kx h => by obtain ⟨_, _, rfl, _⟩ := h; rfl) fun cdv A outer s H E hr => ⟨_, (ss_cons (s_iadd (i := 0) T.k_Hedge C_Hedge___iadd__ T.sf_Hedge (hr.mono (by omega)) sc__law_grow.nd rfl (by first | exact Or.inl rfl | exact Or.inr rfl) (ev 1))
      (ss_one (s_ret (ev 0)))), ?_⟩
  intro ds M k kx h
  obtain ⟨_, v, rfl, a, r, n, s, rfl, hA, ho, lv, h1, h2⟩ := h
  walk_at "run"
  refine ⟨_, _, rfl, a, r, n, s, rfl, hA, ho, lv, fun h => ⟨_, .refl _, h1 h⟩, fun l e => ⟨(h2 l e).1, ?_⟩⟩
  have h3 := (h2 l e).2
  cases q : addM r n s l with
  | ok s' =>
    rw [q] at h3
    unfold resW
    walk_at "run"
    exact ⟨_, .refl _, h3⟩
  | bad => rw [q] at h3; exact ⟨_, .refl _, h3⟩
  | many => rw [q] at h3; exact ⟨_, .refl _, h3⟩
end

section
variable {P : Program} {w : World} {K : PySem.W.Frag} {mg : Str → Option Value} {base : Heap} {cl : String → Addr}
theorem ok__law_full_right {f : Addr} {fd : FuncData} {cc PP : Addr} (F : FunC K "_law_full_right" "_law_full_right" st__law_full_right f fd cc) (TB : LamX.TabB base mg cc PP) (hmT : (PP, lamQual "_law_full_right") ∈ TL.T) (hu : ∀ p ∈ TL.T, p.1 = PP → p.2 = lamQual "_law_full_right") (T : Txt K mg cl) (U : Txw P w K mg base cl) (C_Hedge___init__ : MakeD P w K mg base "Hedge" (cl "Hedge") 6 (sp_Hedge___init__ cl)) (C__law_grow : Callee P w K mg base "_law_grow" 7 (sp__law_grow cl)) (C_Hedge___len__ : MethD P w K mg base (cl "Hedge") "__len__" 1 (sp_Hedge___len__ cl)) (C_Hedge_plant : MethD P w K mg base (cl "Hedge") "plant" 5 (sp_Hedge_plant cl)) (C_Hedge_undo : MethD P w K mg base (cl "Hedge") "undo" 1 (sp_Hedge_undo cl)) (W__law_word : ∃ f fd, Fun K "_law_word" "_law_word" st__law_word f fd ∧ mg "_law_word" = some (.ref f)) : FnOk P w K mg base (L2.CX P w) 10 f fd [] (toSp K (sp__law_full_right cl)) := by
  refine fn_okDC (n := 3) F sc__law_full_right rfl (fun ds M k kx h => by obtain ⟨rfl, _⟩ := h; rfl) fun A outer s H E hr => ⟨_, (ss_cons (s_set (i := 0) sc__law_full_right.nd rfl (by first | exact Or.inl rfl | exact Or.inr rfl) (e_tup (a_cons (e_tup (a_cons (e_neg e_int) (a_cons e_int a_nil))) (a_cons (e_tup (a_cons e_int (a_cons (e_neg e_int) a_nil))) (a_cons (e_tup (a_cons e_int (a_cons e_int a_nil))) a_nil)))))
      (ss_cons (s_set (i := 1) sc__law_full_right.nd rfl (by first | exact Or.inl rfl | exact Or.inr rfl) (e_make C_Hedge___init__ (hr.mono (by omega)) (by rfl) (a_cons (e_tup (a_cons (e_tup (a_cons e_int a_nil)) (a_cons (ev 0) (a_cons (ev 0) a_nil)))) (a_cons e_int a_nil))))
      (ss_cons (s_expr (e_call C__law_grow (hr.mono (by omega)) (by rfl) (a_cons (ev 1) (a_cons (e_callTy c_tuple (by rfl) T.z_tuple bt_tuple (a_cons (e_lc (t := (.one 2)) (vs := [2]) rfl sc__law_full_right.nd (i_rg1 (by rfl) T.z_range (a_cons e_int a_nil)) (blkOk_by (own := [("_law_at", 2)]) (N := ["_law_every", "_law_hedge", "_law_at"]) (sc := defScope st__law_full_right) (by decide +kernel)) (fun _ _ _ _ _ => (pg_name (i := 2) sc__law_full_right.nd rfl (by first | exact Or.inl rfl | exact Or.inr rfl))) (fun _ _ _ _ _ => n_nil) (fun _ _ _ _ _ => (e_tup (a_cons e_int (a_cons (e_op o_mul e_int (ev 2)) a_nil)))) (by decide)) a_nil)) a_nil))))
      (ss_cons (s_if (t_bool (b_or (t_cmp (o_ne hr) (e__law_word (k := 7) T W__law_word rfl TB rfl hmT hu (hr.mono (by omega)) (show LamX.LamS (defScope st__law_full_right) _ from LamX.lamS_by (by decide +kernel)) rfl (fun _ _ _ _ _ => rfl) (fun A outer s H E f c1 hr => (e_call C__law_grow (hr.mono (by omega)) (by rfl) (a_cons (ev 1) (a_cons (e_tup (a_cons (e_tup (a_cons e_int (a_cons e_int a_nil))) (a_cons (e_tup (a_cons e_int (a_cons e_int a_nil))) a_nil))) a_nil))))) e_int (nomark _)) (b_or1 (t_cmp (o_ne hr) (e_callB (c_lenI T.k_Hedge C_Hedge___len__ (hr.mono (by omega))) (by rfl) T.z_len bt_len (a_cons (ev 1) a_nil)) e_int (nomark _))))) (ss_one (s_ret e_bl)) ss_nil)
      (ss_cons (s_if (t_bool (b_or (t_cmp (o_ne hr) (e__law_word (k := 7) T W__law_word rfl TB rfl hmT hu (hr.mono (by omega)) (show LamX.LamS (defScope st__law_full_right) _ from LamX.lamS_by (by decide +kernel)) rfl (fun _ _ _ _ _ => rfl) (fun A outer s H E f c1 hr => (e_call C__law_grow (hr.mono (by omega)) (by rfl) (a_cons (ev 1) (a_cons (e_tup (a_cons (e_tup (a_cons e_int (a_cons e_int a_nil))) (a_cons (e_tup (a_cons e_int (a_cons e_int a_nil))) a_nil))) a_nil))))) e_str (nomark _)) (b_or1 (t_cmp (o_ne hr) (e_callB (c_lenI T.k_Hedge C_Hedge___len__ (hr.mono (by omega))) (by rfl) T.z_len bt_len (a_cons (ev 1) a_nil)) e_int (nomark _))))) (ss_one (s_ret e_bl)) ss_nil)
      (ss_cons (s_if (t_bool (b_or (t_cmp (o_ne hr) (e_meth T.k_Hedge C_Hedge_plant (hr.mono (by omega)) (ev 1) (a_cons e_int (a_cons e_int a_nil))) (e_op o_add e_int e_int) (nomark _)) (b_or1 (t_cmp (o_ne hr) (e__law_word (k := 5) T W__law_word rfl TB rfl hmT hu (hr.mono (by omega)) (show LamX.LamS (defScope st__law_full_right) _ from LamX.lamS_by (by decide +kernel)) rfl (fun _ _ _ _ _ => rfl) (fun A outer s H E f c1 hr => (e_meth T.k_Hedge C_Hedge_plant (hr.mono (by omega)) (ev 1) (a_cons e_int (a_cons e_int a_nil))))) e_int (nomark _))))) (ss_one (s_ret e_bl)) ss_nil)
      (ss_cons (s_if (t_cmp (o_ne hr) (e__law_word (k := 5) T W__law_word rfl TB rfl hmT hu (hr.mono (by omega)) (show LamX.LamS (defScope st__law_full_right) _ from LamX.lamS_by (by decide +kernel)) rfl (fun _ _ _ _ _ => rfl) (fun A outer s H E f c1 hr => (e_meth T.k_Hedge C_Hedge_plant (hr.mono (by omega)) (ev 1) (a_cons e_int (a_cons e_int a_nil))))) e_str (nomark _)) (ss_one (s_ret e_bl)) ss_nil)
      (ss_cons (s_if (t_cmp (o_ne hr) (e__law_word (k := 5) T W__law_word rfl TB rfl hmT hu (hr.mono (by omega)) (show LamX.LamS (defScope st__law_full_right) _ from LamX.lamS_by (by decide +kernel)) rfl (fun _ _ _ _ _ => rfl) (fun A outer s H E f c1 hr => (e_meth T.k_Hedge C_Hedge_plant (hr.mono (by omega)) (ev 1) (a_cons e_int (a_cons e_int a_nil))))) e_str (nomark _)) (ss_one (s_ret e_bl)) ss_nil)
      (ss_cons (s_if (t_bool (b_or (t_cmp (o_ne hr) (e_callB (c_lenI T.k_Hedge C_Hedge___len__ (hr.mono (by omega))) (by rfl) T.z_len bt_len (a_cons (e_call C__law_grow (hr.mono (by omega)) (by rfl) (a_cons (ev 1) (a_cons (e_tup a_nil) a_nil))) a_nil)) e_int (nomark _)) (b_or (t_cmp o_isNot (e_meth0 T.k_Hedge C_Hedge_undo (hr.mono (by omega)) (ev 1)) e_non (nomark _)) (b_or1 (t_cmp (o_ne hr) (e_con T.n_Hedge_MOST (e_gref (by rfl) T.g_Hedge)) e_int (nomark _)))))) (ss_one (s_ret e_bl)) ss_nil)
      (ss_one (s_ret (e_cmp (o_eq hr) (e_meth T.k_Hedge C_Hedge_plant (hr.mono (by omega)) (ev 1) (a_cons e_int (a_cons e_int a_nil))) e_int (nomark _))))))))))))), ?_⟩
  intro ds M k kx h
  obtain ⟨rfl, hk⟩ := h
  walk_at "run"
  intro x hx
  refine ⟨_, _, _, rfl, x, rfl, put_same, by decide +kernel, rfl, fun h => absurd h (by decide +kernel), fun _ h => absurd h (by decide +kernel), fun _ r n er en _ _ => ?_⟩
  have er : r = evR := RuD_inj (er.symm.trans (show _ = evR.D from rfl))
  cases en
  subst er
  rw [put_put]
  refine ⟨rfl, ?_⟩
  walk_at "run"
  refine ⟨by decide, le_line (by decide +kernel), ?_⟩
  refine lc_map evF (fun y hy K1 h => ?_) ?_
  · simp only [rngD] at hy
    obtain ⟨q, hq, rfl⟩ := List.mem_map.mp hy
    walk_at "run"
    exact h
  rw [show ∀ l : List D, [] ++ l = l from fun _ => rfl]
  walk_at "run"
  refine ⟨_, _, rfl, x, evR, 60, h0, rfl, put_same, ev0_h, by decide +kernel, fun h => absurd rfl (h _), fun l e => ?_⟩
  have e : evM = l := D.tup.inj e
  subst e
  refine ⟨by decide +kernel, ?_⟩
  rw [ev29_ok]
  refine resW_ok ?_
  rw [put_put]
  walk_at "run"
  refine ⟨_, _, rfl, x, evR, 60, ev29, rfl, put_same, ev29_h, by decide +kernel, fun h => absurd rfl (h _), fun l e => ?_⟩
  cases e
  refine ⟨by decide +kernel, ?_⟩
  rw [ev29_m]
  refine resW_many (hd_w0 T.m_TooMany_InvalidMove (hd_w0 T.m_TooMany_InvalidIndex (hd_w0 T.m_TooMany_InvalidRule (hd_w0 T.m_TooMany_InvalidNumber (hd_f1 T.m_TooMany_TooMany rfl ?_)))))
  walk_at "run"
  refine ⟨_, rfl, x, evR, 60, ev29, rfl, put_same, ?_⟩
  rw [ev29_len]
  refine ⟨by decide, ?_⟩
  walk_at "run"
  refine ⟨_, _, rfl, x, evR, 60, ev29, rfl, put_same, ev29_h, by decide +kernel, fun h => absurd rfl (h _), fun l e => ?_⟩
  cases e
  refine ⟨by decide +kernel, ?_⟩
  rw [ev29_b]
  refine resW_bad (hd_w1 T.m_InvalidMove_InvalidMove ?_)
  walk_at "run"
  refine ⟨_, rfl, x, evR, 60, ev29, rfl, put_same, ?_⟩
  rw [ev29_len]
  refine ⟨by decide, ?_⟩
  walk_at "run"
  refine ⟨_, _, _, rfl, x, evR, 60, ev29, rfl, put_same, ev29_h, rfl, rfl, ?_⟩
  rw [ev30_ok]
  refine resW_ok ?_
  rw [put_put, ev30_open]
  walk_at "run"
  refine ⟨_, _, _, rfl, x, evR, 60, ev30, rfl, put_same, ev30_h, rfl, rfl, ?_⟩
  rw [ev30_m]
  refine resW_many (hd_w0 T.m_TooMany_InvalidMove (hd_w0 T.m_TooMany_InvalidIndex (hd_w0 T.m_TooMany_InvalidRule (hd_w0 T.m_TooMany_InvalidNumber (hd_f1 T.m_TooMany_TooMany rfl ?_)))))
  walk_at "run"
  refine ⟨_, _, _, rfl, x, evR, 60, ev30, rfl, put_same, ev30_h, rfl, rfl, ?_⟩
  rw [ev30_b]
  refine resW_bad (hd_w1 T.m_InvalidMove_InvalidMove ?_)
  walk_at "run"
  refine ⟨_, _, _, rfl, x, evR, 60, ev30, rfl, put_same, ev30_h, rfl, rfl, ?_⟩
  rw [ev30_b1]
  refine resW_bad (hd_w1 T.m_InvalidMove_InvalidMove ?_)
  walk_at "run"
  refine ⟨_, _, rfl, x, evR, 60, ev30, rfl, put_same, ev30_h, by decide +kernel, fun h => absurd rfl (h _), fun l e => ?_⟩
  cases e
  refine ⟨by decide +kernel, ?_⟩
  refine resW_ok ?_
  rw [put_put]
  walk_at "run"
  refine ⟨_, rfl, x, evR, 60, ev30, rfl, put_same, ?_⟩
  rw [ev30_len]
  refine ⟨by decide, ?_⟩
  walk_at "run"
  refine ⟨_, rfl, x, evR, 60, ev30, rfl, put_same, ev30_h.sp, by have := ev30_h.la; have := ev30_h.lw; omega, fun h => absurd h (by decide +kernel), fun l pl wd e => ?_⟩
  obtain ⟨e1, e2⟩ := List.append_inj' (ev30_pa.symm.trans e) rfl
  cases e2
  subst e1
  rw [put_put]
  walk_at "run"
  refine ⟨rfl, ?_⟩
  walk_at "run"
  refine ⟨_, _, _, rfl, x, evR, 60, ev29, rfl, put_same, ev29_h, rfl, rfl, ?_⟩
  rw [ev30'_ok]
  refine resW_ok ?_
  rw [put_put, ev30'_open]
  walk_at "run"
  exact ⟨_, .refl _, hk _⟩
end

section
variable {P : Program} {w : World} {K : PySem.W.Frag} {mg : Str → Option Value} {base : Heap} {cl : String → Addr}
theorem ok_law {f : Addr} {fd : FuncData} {cc PP : Addr} (F : FunC K "law" "law" st_law f fd cc) (TB : LamX.TabB base mg cc PP) (hmT : (PP, lamQual "law") ∈ TL.T) (hu : ∀ p ∈ TL.T, p.1 = PP → p.2 = lamQual "law") (T : Txt K mg cl) (U : Txw P w K mg base cl) (C__law_hoe : Callee P w K mg base "_law_hoe" 1 sp__law_hoe) (C__law_rule : Callee P w K mg base "_law_rule" 3 sp__law_rule) (C__law_dig : Callee P w K mg base "_law_dig" 1 sp__law_dig) (C_Hedge___init__ : MakeD P w K mg base "Hedge" (cl "Hedge") 6 (sp_Hedge___init__ cl)) (C_Hedge_plant : MethD P w K mg base (cl "Hedge") "plant" 5 (sp_Hedge_plant cl)) (C_Hedge___getitem__ : MethD P w K mg base (cl "Hedge") "__getitem__" 2 (sp_Hedge___getitem__ cl)) (C__law_grow : Callee P w K mg base "_law_grow" 7 (sp__law_grow cl)) (C_Hedge_log : GenD P w K mg base (cl "Hedge") "log" 1 (sp_Hedge_log cl)) (C_Hedge___len__ : MethD P w K mg base (cl "Hedge") "__len__" 1 (sp_Hedge___len__ cl)) (C_Hedge_plants : PropD P w K mg base (cl "Hedge") "plants" 1 (sp_Hedge_plants cl)) (C__law_bent : Callee P w K mg base "_law_bent" 23 (sp__law_bent 20)) (C__law_is_rule : Callee P w K mg base "_law_is_rule" 3 sp__law_is_rule) (C__law_full_right : Callee P w K mg base "_law_full_right" 10 (sp__law_full_right cl)) (W__law_word : ∃ f fd, Fun K "_law_word" "_law_word" st__law_word f fd ∧ mg "_law_word" = some (.ref f)) : FnOk P w K mg base (L2.CX P w) 26 f fd ["_law_script"] (toSp K (sp_law cl)) := by
  refine fn_okDC (n := 8) F sc_law rfl (fun ds M k kx h => by obtain ⟨_, rfl, _⟩ := h; rfl) fun A outer s H E hr => ⟨_, (ss_cons (s_for (t := (.one 1)) (passes_of rfl) rfl (i_seq (e_sl (e_op o_add (e_lstF (a_cons e_int a_nil)) (ev 0)) so_none (so_some e_int))) (pg_name (i := 1) sc_law.nd rfl (by first | exact Or.inl rfl | exact Or.inr rfl)) (ss_cons (s_set (i := 2) sc_law.nd rfl (by first | exact Or.inl rfl | exact Or.inr rfl) (e_call C__law_hoe (hr.mono (by omega)) (by rfl) (a_cons (ev 1) (a_cons e_int a_nil))))
      (ss_cons (s_asg (t := (.many [3, 4])) (e_tup (a_cons (e_call C__law_rule (hr.mono (by omega)) (by rfl) (a_cons (ev 2) (a_cons e_int a_nil))) (a_cons (e_call C__law_dig (hr.mono (by omega)) (by rfl) (a_cons (ev 2) (a_cons e_int a_nil))) a_nil))) (pg_tup rfl (pgs_cons (pg_name (i := 3) sc_law.nd rfl (by first | exact Or.inl rfl | exact Or.inr rfl)) (pgs_cons (pg_name (i := 4) sc_law.nd rfl (by first | exact Or.inl rfl | exact Or.inr rfl)) pgs_nil))))
      (ss_cons (s_set (i := 5) sc_law.nd rfl (by first | exact Or.inl rfl | exact Or.inr rfl) (e_make C_Hedge___init__ (hr.mono (by omega)) (by rfl) (a_cons (ev 3) (a_cons (ev 4) a_nil))))
      (ss_cons (s_for (t := (.one 6)) (passes_of rfl) rfl (i_seq (e_tup (a_cons e_non (a_cons (e_neg e_int) (a_cons (e_callB c_len (by rfl) T.z_len bt_len (a_cons (e_ix (fun _ _ => rfl) (ev 3) e_int) a_nil)) (a_cons e_bl (a_cons e_str a_nil))))))) (pg_name (i := 6) sc_law.nd rfl (by first | exact Or.inl rfl | exact Or.inr rfl)) (ss_one (s_if (t_cmp (o_ne hr) (e__law_word (k := 5) T W__law_word rfl TB rfl hmT hu (hr.mono (by omega)) (show LamX.LamS (defScope st_law) _ from LamX.lamS_by (by decide +kernel)) rfl (fun _ _ _ _ _ => rfl) (fun A outer s H E f c1 hr => (e_meth T.k_Hedge C_Hedge_plant (hr.mono (by omega)) (ev 5) (a_cons (ev 6) (a_cons e_int a_nil))))) e_str (nomark _)) (ss_one (s_ret e_bl)) ss_nil)))
      (ss_cons (s_for (t := (.one 6)) (passes_of rfl) rfl (i_seq (e_tup (a_cons e_non (a_cons (e_neg e_int) (a_cons (ev 4) (a_cons e_bl (a_cons e_str (a_cons (e_op o_add (ev 4) e_int) a_nil)))))))) (pg_name (i := 6) sc_law.nd rfl (by first | exact Or.inl rfl | exact Or.inr rfl)) (ss_cons (s_if (t_cmp (o_ne hr) (e__law_word (k := 5) T W__law_word rfl TB rfl hmT hu (hr.mono (by omega)) (show LamX.LamS (defScope st_law) _ from LamX.lamS_by (by decide +kernel)) rfl (fun _ _ _ _ _ => rfl) (fun A outer s H E f c1 hr => (e_meth T.k_Hedge C_Hedge_plant (hr.mono (by omega)) (ev 5) (a_cons e_int (a_cons (ev 6) a_nil))))) e_str (nomark _)) (ss_one (s_ret e_bl)) ss_nil)
      (ss_one (s_if (t_cmp (o_ne hr) (e__law_word (k := 3) T W__law_word rfl TB rfl hmT hu (hr.mono (by omega)) (show LamX.LamS (defScope st_law) _ from LamX.lamS_by (by decide +kernel)) rfl (fun _ _ _ _ _ => rfl) (fun A outer s H E f c1 hr => (e_subI T.k_Hedge C_Hedge___getitem__ (hr.mono (by omega)) (ev 5) (ev 6)))) e_str (nomark _)) (ss_one (s_ret e_bl)) ss_nil))))
      (ss_cons (s_for (t := (.one 6)) (passes_of rfl) rfl (i_seq (e_tup (a_cons e_non (a_cons (e_lstF a_nil) (a_cons e_int (a_cons (e_tup (a_cons (e_tup (a_cons e_int a_nil)) a_nil)) (a_cons (e_tup (a_cons e_int (a_cons e_int a_nil))) (a_cons (e_tup (a_cons (e_tup (a_cons e_int (a_cons e_int (a_cons e_int a_nil)))) a_nil)) (a_cons (e_tup (a_cons (e_lstF (a_cons e_int (a_cons e_int a_nil))) a_nil)) (a_cons (e_tup (a_cons e_non a_nil)) a_nil)))))))))) (pg_name (i := 6) sc_law.nd rfl (by first | exact Or.inl rfl | exact Or.inr rfl)) (ss_one (s_if (t_cmp (o_ne hr) (e__law_word (k := 7) T W__law_word rfl TB rfl hmT hu (hr.mono (by omega)) (show LamX.LamS (defScope st_law) _ from LamX.lamS_by (by decide +kernel)) rfl (fun _ _ _ _ _ => rfl) (fun A outer s H E f c1 hr => (e_call C__law_grow (hr.mono (by omega)) (by rfl) (a_cons (ev 5) (a_cons (ev 6) a_nil))))) e_str (nomark _)) (ss_one (s_ret e_bl)) ss_nil)))
      (ss_cons (s_if (t_bool (b_or (t_cmp (o_ne hr) (e_prop T.k_Hedge C_Hedge_plants (hr.mono (by omega)) (ev 5)) (e_tup a_nil) (nomark _)) (b_or (t_cmp (o_ne hr) (e_callB (c_lenI T.k_Hedge C_Hedge___len__ (hr.mono (by omega))) (by rfl) T.z_len bt_len (a_cons (ev 5) a_nil)) e_int (nomark _)) (b_or1 (t_cmp (o_ne hr) (e_listG T.k_Hedge C_Hedge_log (hr.mono (by omega)) (by rfl) T.z_list (ev 5)) (e_lstF a_nil) (nomark _)))))) (ss_one (s_ret e_bl)) ss_nil)
      (ss_cons (s_set (i := 7) sc_law.nd rfl (by first | exact Or.inl rfl | exact Or.inr rfl) (e_call C__law_bent (hr.mono (by omega)) (by rfl) (a_cons (ev 2) (a_cons (ev 3) a_nil))))
      (ss_cons (s_if (t_bool (b_and (t_not (t_val (e_call C__law_is_rule (hr.mono (by omega)) (by rfl) (a_cons (ev 7) a_nil)))) (b_and1 (t_cmp (o_ne hr) (e__law_word (k := 7) T W__law_word rfl TB rfl hmT hu (hr.mono (by omega)) (show LamX.LamS (defScope st_law) _ from LamX.lamS_by (by decide +kernel)) rfl (fun _ _ _ _ _ => rfl) (fun A outer s H E f c1 hr => (e_make C_Hedge___init__ (hr.mono (by omega)) (by rfl) (a_cons (ev 7) (a_cons e_non a_nil))))) e_str (nomark _))))) (ss_one (s_ret e_bl)) ss_nil)
      (ss_one (s_for (t := (.one 6)) (passes_of rfl) rfl (i_seq (e_tup (a_cons e_non (a_cons (e_neg e_int) (a_cons e_int (a_cons e_bl (a_cons e_str a_nil))))))) (pg_name (i := 6) sc_law.nd rfl (by first | exact Or.inl rfl | exact Or.inr rfl)) (ss_one (s_if (t_cmp (o_ne hr) (e__law_word (k := 7) T W__law_word rfl TB rfl hmT hu (hr.mono (by omega)) (show LamX.LamS (defScope st_law) _ from LamX.lamS_by (by decide +kernel)) rfl (fun _ _ _ _ _ => rfl) (fun A outer s H E f c1 hr => (e_make C_Hedge___init__ (hr.mono (by omega)) (by rfl) (a_cons (ev 3) (a_cons (ev 6) a_nil))))) e_str (nomark _)) (ss_one (s_ret e_bl)) ss_nil))))))))))))))
      (ss_one (s_ret (e_call0 C__law_full_right (hr.mono (by omega)) (by rfl))))), ?_⟩
  intro ds M k kx h
  obtain ⟨d, rfl, ns, hn, hd, hk⟩ := h
  have hsz : (sizeLine : Nat) = 16777216 := sizeLine_eq
  rcases hd with rfl | ⟨a, rfl, ha⟩
  all_goals
    walk_at "run"
    refine ⟨by simp only [List.length_map, List.length_cons, List.length_nil]; omega, ?_⟩
    walk_at "run"
    refine for_inv (fun rest sd M' => (∃ zs : List Int, rest = zs.map D.int) ∧ ∃ x0 x1 x2 x3 x4 x5 x6 x7, sd = [x0, x1, x2, x3, x4, x5, x6, x7]) (fun z rest sd M1 N hN ⟨⟨zs, e⟩, x0, x1, x2, x3, x4, x5, x6, x7, e2⟩ => ?_) (fun sd M1 ⟨_, x0, x1, x2, x3, x4, x5, x6, x7, e2⟩ => ?_) _ _ _ ⟨⟨cutD (0 :: ns) none (some 8), by simp [cutD, HT.sIx]⟩, _, _, _, _, _, _, _, _, rfl⟩
    · subst e2
      cases zs with
      | nil => cases e
      | cons c zs =>
        rw [List.map_cons] at e
        obtain ⟨rfl, rfl⟩ := List.cons.inj e
        walk_at "run"
        refine ⟨_, _, rfl, by decide, fun q hq g t g1 g2 => ?_⟩
        walk_at "run"
        refine ⟨q, _, rfl, ⟨g, t, put_same, g1, g2⟩, .inr rfl, fun r r1 r2 r3 r4 r5 r6 M2 h2 => ?_⟩
        have r2 : r.sz.length ≤ 2 := by omega
        have ro : RuOk r := ⟨r1, r3, r2, r4⟩
        walk_at "run"
        refine ⟨q, _, rfl, h2.hoe, by decide, fun n M3 n0 n1 h3 => ?_⟩
        walk_at "run"
        intro x hx
        have hxq : q ≠ x := fun e => by
          obtain ⟨g, t, hg, _⟩ := h3.hoe
          rw [← e, hg] at hx
          cases hx
        refine ⟨_, _, _, rfl, x, rfl, put_same, laid_RuD r, rfl, fun h => absurd (r1.symm.trans h) (by decide), fun _ h => absurd ((isNum_pos.mpr ⟨n0, by omega⟩).symm.trans h) (by decide), fun _ r' n' er en _ _ => ?_⟩
        have er := RuD_inj er
        subst er
        cases en
        rw [put_put]
        refine ⟨rfl, ?_⟩
        have hh : HOk r n h0 := HOk.bare n0 (by omega) r2 r4
        walk_at "run"
        refine for_inv (fun rest sd M' => M' = put M3 x (hO (cl "Hedge") r n h0) ∧ (∀ y ∈ rest, laid y = true ∧ isNum y 0 ((r.sz.length : Int) - 1) = false) ∧ ∃ x6 x7, sd = [x0, some (.int c), some (.ref q), some r.D, some (.int n), some (.ref x), x6, x7]) (fun y rest sd M4 N2 hN2 ⟨e1, hy, x6, x7, e2⟩ => ?_) (fun sd M4 ⟨e1, _, x6, x7, e2⟩ => ?_) _ _ _ ⟨rfl, ?_, _, _, rfl⟩
        rotate_left
        rotate_left
        · intro y hy
          simp only [List.length_map, List.mem_cons, List.not_mem_nil, or_false] at hy
          rcases hy with rfl | rfl | rfl | rfl | rfl
          · exact ⟨rfl, rfl⟩
          · exact ⟨rfl, by simp [isNum]⟩
          · exact ⟨rfl, by simp [isNum]; omega⟩
          · exact ⟨rfl, rfl⟩
          · exact ⟨by decide +kernel, rfl⟩
        · subst e1 e2
          obtain ⟨hy1, hy2⟩ := List.forall_mem_cons.mp hy
          walk_at "run"
          refine ⟨_, _, _, rfl, x, r, n, h0, rfl, put_same, hh, hy1.1, rfl, ?_⟩
          rw [movP_bad1 hy1.2]
          refine resW_bad (hd_w1 T.m_InvalidMove_InvalidMove ?_)
          walk_at "run"
          exact hN2 _ _ ⟨rfl, hy2, _, _, rfl⟩
        subst e1 e2
        walk_at "run"
        refine for_inv (fun rest sd M' => M' = put M3 x (hO (cl "Hedge") r n h0) ∧ (∀ y ∈ rest, laid y = true ∧ isNum y 0 (n - 1) = false) ∧ ∃ x6 x7, sd = [x0, some (.int c), some (.ref q), some r.D, some (.int n), some (.ref x), x6, x7]) (fun y rest sd M4 N2 hN2 ⟨e1, hy, x6, x7, e2⟩ => ?_) (fun sd M4 ⟨e1, _, x6, x7, e2⟩ => ?_) _ _ _ ⟨rfl, ?_, _, _, rfl⟩
        rotate_left
        rotate_left
        · intro y hy
          simp only [List.mem_cons, List.not_mem_nil, or_false] at hy
          rcases hy with rfl | rfl | rfl | rfl | rfl | rfl
          · exact ⟨rfl, rfl⟩
          · exact ⟨rfl, by simp [isNum]⟩
          · exact ⟨rfl, by simp [isNum]; omega⟩
          · exact ⟨rfl, rfl⟩
          · exact ⟨by decide +kernel, rfl⟩
          · exact ⟨rfl, by simp [isNum]; omega⟩
        · subst e1 e2
          obtain ⟨hy1, hy2⟩ := List.forall_mem_cons.mp hy
          walk_at "run"
          refine ⟨_, _, _, rfl, x, r, n, h0, rfl, put_same, hh, rfl, hy1.1, ?_⟩
          rw [movP_bad2 hy1.2]
          refine resW_bad (hd_w1 T.m_InvalidMove_InvalidMove ?_)
          walk_at "run"
          refine ⟨_, _, rfl, x, r, n, h0, rfl, put_same, hy1.1, hy1.2, ?_⟩
          refine hd_w0 T.m_InvalidIndex_InvalidMove (hd_w1 T.m_InvalidIndex_InvalidIndex ?_)
          walk_at "run"
          exact hN2 _ _ ⟨rfl, hy2, _, _, rfl⟩
        subst e1 e2
        walk_at "run"
        refine for_inv (fun rest sd M' => M' = put M3 x (hO (cl "Hedge") r n h0) ∧ (∀ y ∈ rest, laid y = true ∧ ∀ l, y = .tup l → l.length ≤ 100 ∧ addM r n h0 l = .bad) ∧ ∃ x6 x7, sd = [x0, some (.int c), some (.ref q), some r.D, some (.int n), some (.ref x), x6, x7]) (fun y rest sd M4 N2 hN2 ⟨e1, hy, x6, x7, e2⟩ => ?_) (fun sd M4 ⟨e1, _, x6, x7, e2⟩ => ?_) _ _ _ ⟨rfl, ?_, _, _, rfl⟩
        rotate_left
        rotate_left
        · intro y hy
          simp only [List.mem_cons, List.not_mem_nil, or_false] at hy
          rcases hy with rfl | rfl | rfl | rfl | rfl | rfl | rfl | rfl
          all_goals refine ⟨by decide +kernel, fun l e => ?_⟩
          all_goals cases e
          all_goals exact ⟨by decide +kernel, rfl⟩
        · subst e1 e2
          obtain ⟨hy1, hy2⟩ := List.forall_mem_cons.mp hy
          walk_at "run"
          refine ⟨_, _, rfl, x, r, n, h0, rfl, put_same, hh, hy1.1, fun h => ?_, fun l e => ⟨(hy1.2 l e).1, ?_⟩⟩
          rotate_left
          rw [(hy1.2 l e).2]
          refine resW_bad ?_
          all_goals
            refine hd_w1 T.m_InvalidMove_InvalidMove ?_
            walk_at "run"
            exact hN2 _ _ ⟨rfl, hy2, _, _, rfl⟩
        subst e1 e2
        walk_at "run"
        refine ⟨_, rfl, x, r, n, h0, rfl, put_same, ?_⟩
        walk_at "run"
        refine ⟨_, rfl, x, r, n, h0, rfl, put_same, ?_⟩
        refine ⟨by decide, ?_⟩
        walk_at "run"
        refine ⟨_, rfl, x, r, n, h0, rfl, put_same, rfl, ?_⟩
        walk_at "run"
        have m0 : Mod r.D 0 := Mod.ru r2 r5 r6
        refine ⟨q, _, rfl, m0.l, by have := m0.d; omega, by have := m0.s; omega, ?_, fun v hb M5 h5 => ?_⟩
        · obtain ⟨g, t, hg, h⟩ := h3.hoe
          exact ⟨g, t, (put_ne hxq).trans hg, h⟩
        walk_at "run"
        refine ⟨_, rfl, hb.1, by have := hb.2.2.2; have := m0.w; omega, ?_⟩
        refine sel_by (fun h7 => ?_) fun h7 => ?_
        have h7 : isRuleD v = false := by
          cases q : isRuleD v with
          | false => rfl
          | true => rw [q] at h7; cases h7
        walk_at "run"
        intro x2 hx2
        refine ⟨_, _, _, rfl, x2, rfl, put_same, hb.1, rfl, fun _ => ?_, fun h => absurd (h7.symm.trans h) (by decide), fun h => absurd (h7.symm.trans h) (by decide)⟩
        refine hd_w0 T.m_InvalidRule_InvalidMove (hd_w0 T.m_InvalidRule_InvalidIndex (hd_w1 T.m_InvalidRule_InvalidRule ?_))
        all_goals
          walk_at "run"
          refine for_inv (fun rest sd M' => (∀ y ∈ rest, laid y = true ∧ isNum y 0 60 = false) ∧ ∃ x6 x7, sd = [x0, some (.int c), some (.ref q), some r.D, some (.int n), some (.ref x), x6, x7]) (fun y rest sd M4 N2 hN2 ⟨hy, x6, x7, e2⟩ => ?_) (fun sd M4 ⟨_, x6, x7, e2⟩ => ?_) _ _ _ ⟨?_, _, _, rfl⟩
          rotate_left
          rotate_left
          · intro y hy
            simp only [List.mem_cons, List.not_mem_nil, or_false] at hy
            rcases hy with rfl | rfl | rfl | rfl | rfl
            all_goals exact ⟨by decide +kernel, by decide +kernel⟩
          · subst e2
            obtain ⟨hy1, hy2⟩ := List.forall_mem_cons.mp hy
            walk_at "run"
            intro x2 hx2
            refine ⟨_, _, _, rfl, x2, rfl, put_same, laid_RuD r, hy1.1, fun h => absurd (r1.symm.trans h) (by decide), fun _ _ => ?_, fun _ r n er en e1 e2 => absurd ((isNum_iff.mpr ⟨n, en, e1, e2⟩).symm.trans hy1.2) (by decide)⟩
            refine hd_w0 T.m_InvalidNumber_InvalidMove (hd_w0 T.m_InvalidNumber_InvalidIndex (hd_w0 T.m_InvalidNumber_InvalidRule (hd_w1 T.m_InvalidNumber_InvalidNumber ?_)))
            walk_at "run"
            exact hN2 _ _ ⟨hy2, _, _, rfl⟩
          subst e2
          exact hN _ _ ⟨⟨zs, rfl⟩, _, _, _, _, _, _, _, _, rfl⟩
    · subst e2
      walk_at "run"
      refine ⟨rfl, fun M' => ?_⟩
      walk_at "run"
      exact ⟨_, .refl _, hk _⟩
end

end DL
namespace DL
open PySem PySem.Spec PyProof.Rows L2
@[reducible] def tlX (K : PySem.W.Frag) : TabList := ⟨tabsOf K tfL⟩
theorem facts {w : World} {K : PySem.W.Frag} {h : Heap} {mg : Str → Option Value} {f : Addr} (X : K.In h) (G : h.Ns mainGlobals mg) (hfa : mg ("law" : Str) = some (.ref f)) (c : He.SaysX faL fnL tsL tfL exB w h K) (cg : gnL.map (fun d => fnWa K (gA K d.1 d.2.1)) = gnL.map fun d => d.2.2.val) : LamX.LawAtS PySem.Challenge.rw_hedgeworths_k16_refused_at_hedges w K (L2.CX PySem.Challenge.rw_hedgeworths_k16_refused_at_hedges.prog w) 26 63 "_law_script" mg f h := by
  letI TLi : TabList := tlX K
  have cd : He.SaysD faL fnL K := c.t.d
  have more : exB K = true := c.more
  unfold exB at more
  simp only [Bool.and_eq_true] at more
  obtain ⟨nd, xi_TooMany, xcin, xf_TooMany, sf_Trial, sf_Hedge, xc_Hedge_MOST, xp_Hedge_plants, xo_Hedge_plants⟩ := more
  have T : Txt K mg (fun x : String => He.ga K x) := {
    z_isinstance := He.free_ok X G (cd.fact 44 (f := .free "isinstance") rfl)
    z_bool := He.free_ok X G (cd.fact 45 (f := .free "bool") rfl)
    z_int := He.free_ok X G (cd.fact 46 (f := .free "int") rfl)
    z_len := He.free_ok X G (cd.fact 47 (f := .free "len") rfl)
    z_tuple := He.free_ok X G (cd.fact 48 (f := .free "tuple") rfl)
    c_END := He.int_ok X G (cd.fact 49 (f := .int "END" (-1)) rfl)
    z_all := He.free_ok X G (cd.fact 50 (f := .free "all") rfl)
    z_zip := He.free_ok X G (cd.fact 51 (f := .free "zip") rfl)
    x_InvalidRule := exc_of X G (cd.fact 52 (f := .glo "InvalidRule") rfl) (cd.fact 53 (f := .exc "InvalidRule") rfl)
    x_InvalidNumber := exc_of X G (cd.fact 54 (f := .glo "InvalidNumber") rfl) (cd.fact 55 (f := .exc "InvalidNumber") rfl)
    z_range := He.free_ok X G (cd.fact 56 (f := .free "range") rfl)
    k_Trial := ⟨He.cls_ok (cd.fact 37 (f := .cls "Trial") rfl), List.forall_mem_cons.mpr ⟨He.noat_ok (cd.fact 38 (f := .noat "Trial" "hedge") rfl), List.forall_mem_cons.mpr ⟨He.noat_ok (cd.fact 39 (f := .noat "Trial" "old") rfl), fun _ h => nomatch h⟩⟩⟩
    g_Trial := He.glo_ok X G (cd.fact 36 (f := .glo "Trial") rfl)
    sf_Trial := sf_Trial
    k_Hedge := ⟨He.cls_ok (cd.fact 41 (f := .cls "Hedge") rfl), List.forall_mem_cons.mpr ⟨He.noat_ok (cd.fact 42 (f := .noat "Hedge" "base") rfl), List.forall_mem_cons.mpr ⟨He.noat_ok (cd.fact 43 (f := .noat "Hedge" "now") rfl), fun _ h => nomatch h⟩⟩⟩
    g_Hedge := He.glo_ok X G (cd.fact 40 (f := .glo "Hedge") rfl)
    sf_Hedge := sf_Hedge
    c_FEW := He.int_ok X G (cd.fact 57 (f := .int "FEW" (60)) rfl)
    c_MOST_HEIGHT := He.int_ok X G (cd.fact 58 (f := .int "MOST_HEIGHT" (30)) rfl)
    f_TooMany := xfB_ok xf_TooMany
    g_TooMany := He.glo_ok X G (cd.fact 59 (f := .glo "TooMany") rfl)
    x_InvalidMove := exc_of X G (cd.fact 60 (f := .glo "InvalidMove") rfl) (cd.fact 61 (f := .exc "InvalidMove") rfl)
    z_any := He.free_ok X G (cd.fact 62 (f := .free "any") rfl)
    z_sorted := He.free_ok X G (cd.fact 63 (f := .free "sorted") rfl)
    x_NothingToUndo := exc_of X G (cd.fact 64 (f := .glo "NothingToUndo") rfl) (cd.fact 65 (f := .exc "NothingToUndo") rfl)
    z_enumerate := He.free_ok X G (cd.fact 66 (f := .free "enumerate") rfl)
    x_InvalidIndex := exc_of X G (cd.fact 67 (f := .glo "InvalidIndex") rfl) (cd.fact 68 (f := .exc "InvalidIndex") rfl)
    z_list := He.free_ok X G (cd.fact 69 (f := .free "list") rfl)
    z_set := He.free_ok X G (cd.fact 70 (f := .free "set") rfl)
    x_HedgeError := exc_of X G (cd.fact 71 (f := .glo "HedgeError") rfl) (cd.fact 72 (f := .exc "HedgeError") rfl)
    n_Hedge_MOST := conIB_ok xc_Hedge_MOST
    n_TooMany := exi_no xi_TooMany
    m_InvalidRule_InvalidMove := He.exm_ok (cd.fact 73 (f := .exm "InvalidRule" "InvalidMove" false) rfl)
    m_InvalidNumber_InvalidMove := He.exm_ok (cd.fact 74 (f := .exm "InvalidNumber" "InvalidMove" false) rfl)
    m_TooMany_InvalidMove := He.exm_ok (cd.fact 75 (f := .exm "TooMany" "InvalidMove" false) rfl)
    m_InvalidMove_InvalidMove := He.exm_ok (cd.fact 76 (f := .exm "InvalidMove" "InvalidMove" true) rfl)
    m_NothingToUndo_InvalidMove := He.exm_ok (cd.fact 77 (f := .exm "NothingToUndo" "InvalidMove" false) rfl)
    m_InvalidIndex_InvalidMove := He.exm_ok (cd.fact 78 (f := .exm "InvalidIndex" "InvalidMove" false) rfl)
    m_HedgeError_InvalidMove := He.exm_ok (cd.fact 79 (f := .exm "HedgeError" "InvalidMove" false) rfl)
    m_InvalidRule_InvalidIndex := He.exm_ok (cd.fact 80 (f := .exm "InvalidRule" "InvalidIndex" false) rfl)
    m_InvalidNumber_InvalidIndex := He.exm_ok (cd.fact 81 (f := .exm "InvalidNumber" "InvalidIndex" false) rfl)
    m_TooMany_InvalidIndex := He.exm_ok (cd.fact 82 (f := .exm "TooMany" "InvalidIndex" false) rfl)
    m_InvalidMove_InvalidIndex := He.exm_ok (cd.fact 83 (f := .exm "InvalidMove" "InvalidIndex" false) rfl)
    m_NothingToUndo_InvalidIndex := He.exm_ok (cd.fact 84 (f := .exm "NothingToUndo" "InvalidIndex" false) rfl)
    m_InvalidIndex_InvalidIndex := He.exm_ok (cd.fact 85 (f := .exm "InvalidIndex" "InvalidIndex" true) rfl)
    m_HedgeError_InvalidIndex := He.exm_ok (cd.fact 86 (f := .exm "HedgeError" "InvalidIndex" false) rfl)
    m_InvalidRule_InvalidRule := He.exm_ok (cd.fact 87 (f := .exm "InvalidRule" "InvalidRule" true) rfl)
    m_InvalidNumber_InvalidRule := He.exm_ok (cd.fact 88 (f := .exm "InvalidNumber" "InvalidRule" false) rfl)
    m_TooMany_InvalidRule := He.exm_ok (cd.fact 89 (f := .exm "TooMany" "InvalidRule" false) rfl)
    m_InvalidMove_InvalidRule := He.exm_ok (cd.fact 90 (f := .exm "InvalidMove" "InvalidRule" false) rfl)
    m_NothingToUndo_InvalidRule := He.exm_ok (cd.fact 91 (f := .exm "NothingToUndo" "InvalidRule" false) rfl)
    m_InvalidIndex_InvalidRule := He.exm_ok (cd.fact 92 (f := .exm "InvalidIndex" "InvalidRule" false) rfl)
    m_HedgeError_InvalidRule := He.exm_ok (cd.fact 93 (f := .exm "HedgeError" "InvalidRule" false) rfl)
    m_InvalidRule_InvalidNumber := He.exm_ok (cd.fact 94 (f := .exm "InvalidRule" "InvalidNumber" false) rfl)
    m_InvalidNumber_InvalidNumber := He.exm_ok (cd.fact 95 (f := .exm "InvalidNumber" "InvalidNumber" true) rfl)
    m_TooMany_InvalidNumber := He.exm_ok (cd.fact 96 (f := .exm "TooMany" "InvalidNumber" false) rfl)
    m_InvalidMove_InvalidNumber := He.exm_ok (cd.fact 97 (f := .exm "InvalidMove" "InvalidNumber" false) rfl)
    m_NothingToUndo_InvalidNumber := He.exm_ok (cd.fact 98 (f := .exm "NothingToUndo" "InvalidNumber" false) rfl)
    m_InvalidIndex_InvalidNumber := He.exm_ok (cd.fact 99 (f := .exm "InvalidIndex" "InvalidNumber" false) rfl)
    m_HedgeError_InvalidNumber := He.exm_ok (cd.fact 100 (f := .exm "HedgeError" "InvalidNumber" false) rfl)
    m_InvalidRule_TooMany := He.exm_ok (cd.fact 101 (f := .exm "InvalidRule" "TooMany" false) rfl)
    m_InvalidNumber_TooMany := He.exm_ok (cd.fact 102 (f := .exm "InvalidNumber" "TooMany" false) rfl)
    m_TooMany_TooMany := He.exm_ok (cd.fact 103 (f := .exm "TooMany" "TooMany" true) rfl)
    m_InvalidMove_TooMany := He.exm_ok (cd.fact 104 (f := .exm "InvalidMove" "TooMany" false) rfl)
    m_NothingToUndo_TooMany := He.exm_ok (cd.fact 105 (f := .exm "NothingToUndo" "TooMany" false) rfl)
    m_InvalidIndex_TooMany := He.exm_ok (cd.fact 106 (f := .exm "InvalidIndex" "TooMany" false) rfl)
    m_HedgeError_TooMany := He.exm_ok (cd.fact 107 (f := .exm "HedgeError" "TooMany" false) rfl)
    m_InvalidRule_HedgeError := He.exm_ok (cd.fact 108 (f := .exm "InvalidRule" "HedgeError" true) rfl)
    m_InvalidNumber_HedgeError := He.exm_ok (cd.fact 109 (f := .exm "InvalidNumber" "HedgeError" true) rfl)
    m_TooMany_HedgeError := He.exm_ok (cd.fact 110 (f := .exm "TooMany" "HedgeError" true) rfl)
    m_InvalidMove_HedgeError := He.exm_ok (cd.fact 111 (f := .exm "InvalidMove" "HedgeError" true) rfl)
    m_NothingToUndo_HedgeError := He.exm_ok (cd.fact 112 (f := .exm "NothingToUndo" "HedgeError" true) rfl)
    m_InvalidIndex_HedgeError := He.exm_ok (cd.fact 113 (f := .exm "InvalidIndex" "HedgeError" true) rfl)
    m_HedgeError_HedgeError := He.exm_ok (cd.fact 114 (f := .exm "HedgeError" "HedgeError" true) rfl) }
  obtain ⟨fd_Hedge_plants, F_Hedge_plants⟩ : ∃ fd, FunD K "plants" "Hedge.plants" (defArgs st_Hedge_plants) (defBody st_Hedge_plants) (defScope st_Hedge_plants) [] [] (gA K "Hedge" "plants") fd := funD_at (get_at cg 0 (d := ("Hedge", "plants", ⟨("Hedge", none), "plants", "Hedge.plants", defArgs st_Hedge_plants, defBody st_Hedge_plants, defScope st_Hedge_plants, [], []⟩)) rfl) xo_Hedge_plants
  obtain ⟨fd_Trial___init__, F_Trial___init__⟩ : ∃ fd, FunD K "__init__" "Trial.__init__" (defArgs st_Trial___init__) (defBody st_Trial___init__) (defScope st_Trial___init__) [] [] (He.ma K (He.ga K "Trial") "__init__") fd := cd.def_ 9 (d := dmOf "Trial" "__init__" "Trial.__init__" st_Trial___init__) rfl
  obtain ⟨fd_Trial___enter__, F_Trial___enter__⟩ : ∃ fd, FunD K "__enter__" "Trial.__enter__" (defArgs st_Trial___enter__) (defBody st_Trial___enter__) (defScope st_Trial___enter__) [] [] (He.ma K (He.ga K "Trial") "__enter__") fd := cd.def_ 10 (d := dmOf "Trial" "__enter__" "Trial.__enter__" st_Trial___enter__) rfl
  obtain ⟨fd_Trial___exit__, F_Trial___exit__⟩ : ∃ fd, FunD K "__exit__" "Trial.__exit__" (defArgs st_Trial___exit__) (defBody st_Trial___exit__) (defScope st_Trial___exit__) [] [] (He.ma K (He.ga K "Trial") "__exit__") fd := cd.def_ 11 (d := dmOf "Trial" "__exit__" "Trial.__exit__" st_Trial___exit__) rfl
  obtain ⟨fd_Hedge___init__, F_Hedge___init__⟩ : ∃ fd, FunD K "__init__" "Hedge.__init__" (defArgs st_Hedge___init__) (defBody st_Hedge___init__) (defScope st_Hedge___init__) [] [] (He.ma K (He.ga K "Hedge") "__init__") fd := cd.def_ 12 (d := dmOf "Hedge" "__init__" "Hedge.__init__" st_Hedge___init__) rfl
  obtain ⟨fd_Hedge_turn_to, F_Hedge_turn_to⟩ : ∃ fd, FunD K "turn_to" "Hedge.turn_to" (defArgs st_Hedge_turn_to) (defBody st_Hedge_turn_to) (defScope st_Hedge_turn_to) [] [] (He.ma K (He.ga K "Hedge") "turn_to") fd := cd.def_ 13 (d := dmOf "Hedge" "turn_to" "Hedge.turn_to" st_Hedge_turn_to) rfl
  obtain ⟨fd_Hedge_plant, F_Hedge_plant⟩ : ∃ fd, FunD K "plant" "Hedge.plant" (defArgs st_Hedge_plant) (defBody st_Hedge_plant) (defScope st_Hedge_plant) [] [] (He.ma K (He.ga K "Hedge") "plant") fd := cd.def_ 14 (d := dmOf "Hedge" "plant" "Hedge.plant" st_Hedge_plant) rfl
  obtain ⟨fd_Hedge___iadd__, F_Hedge___iadd__⟩ : ∃ fd, FunD K "__iadd__" "Hedge.__iadd__" (defArgs st_Hedge___iadd__) (defBody st_Hedge___iadd__) (defScope st_Hedge___iadd__) [] [] (He.ma K (He.ga K "Hedge") "__iadd__") fd := cd.def_ 15 (d := dmOf "Hedge" "__iadd__" "Hedge.__iadd__" st_Hedge___iadd__) rfl
  obtain ⟨fd_Hedge_undo, F_Hedge_undo⟩ : ∃ fd, FunD K "undo" "Hedge.undo" (defArgs st_Hedge_undo) (defBody st_Hedge_undo) (defScope st_Hedge_undo) [] [] (He.ma K (He.ga K "Hedge") "undo") fd := cd.def_ 16 (d := dmOf "Hedge" "undo" "Hedge.undo" st_Hedge_undo) rfl
  obtain ⟨fd_Hedge_log, F_Hedge_log⟩ : ∃ fd, FunD K "log" "Hedge.log" (defArgs st_Hedge_log) (defBody st_Hedge_log) (defScope st_Hedge_log) [] [] (He.ma K (He.ga K "Hedge") "log") fd := cd.def_ 17 (d := dmOf "Hedge" "log" "Hedge.log" st_Hedge_log) rfl
  obtain ⟨fd_Hedge___getitem__, F_Hedge___getitem__⟩ : ∃ fd, FunD K "__getitem__" "Hedge.__getitem__" (defArgs st_Hedge___getitem__) (defBody st_Hedge___getitem__) (defScope st_Hedge___getitem__) [] [] (He.ma K (He.ga K "Hedge") "__getitem__") fd := cd.def_ 18 (d := dmOf "Hedge" "__getitem__" "Hedge.__getitem__" st_Hedge___getitem__) rfl
  obtain ⟨fd_Hedge___len__, F_Hedge___len__⟩ : ∃ fd, FunD K "__len__" "Hedge.__len__" (defArgs st_Hedge___len__) (defBody st_Hedge___len__) (defScope st_Hedge___len__) [] [] (He.ma K (He.ga K "Hedge") "__len__") fd := cd.def_ 19 (d := dmOf "Hedge" "__len__" "Hedge.__len__" st_Hedge___len__) rfl
  have f_Trial___init__ := fun_ofM F_Trial___init__
  have b_Trial___init__ : Binds K fd_Trial___init__ ["self", "hedge"] [] := Fun.binds f_Trial___init__ fun _ _ _ _ _ _ us hl => match us, hl with | [_, _], _ => rfl
  have f_Trial___enter__ := fun_ofM F_Trial___enter__
  have b_Trial___enter__ : Binds K fd_Trial___enter__ ["self"] [] := Fun.binds f_Trial___enter__ fun _ _ _ _ _ _ us hl => match us, hl with | [_], _ => rfl
  have f_Trial___exit__ := fun_ofM F_Trial___exit__
  have b_Trial___exit__ : Binds K fd_Trial___exit__ ["self", "kind", "value", "trace"] [] := Fun.binds f_Trial___exit__ fun _ _ _ _ _ _ us hl => match us, hl with | [_, _, _, _], _ => rfl
  have f_Hedge___init__ := fun_ofM F_Hedge___init__
  have b_Hedge___init__ : Binds K fd_Hedge___init__ ["self", "rule", "n"] [] := Fun.binds f_Hedge___init__ fun _ _ _ _ _ _ us hl => match us, hl with | [_, _, _], _ => rfl
  have f_Hedge_turn_to := fun_ofM F_Hedge_turn_to
  have b_Hedge_turn_to : Binds K fd_Hedge_turn_to ["self", "plants", "words"] [] := Fun.binds f_Hedge_turn_to fun _ _ _ _ _ _ us hl => match us, hl with | [_, _, _], _ => rfl
  have f_Hedge_plant := fun_ofM F_Hedge_plant
  have b_Hedge_plant : Binds K fd_Hedge_plant ["self", "kind", "place"] [] := Fun.binds f_Hedge_plant fun _ _ _ _ _ _ us hl => match us, hl with | [_, _, _], _ => rfl
  have f_Hedge___iadd__ := fun_ofM F_Hedge___iadd__
  have b_Hedge___iadd__ : Binds K fd_Hedge___iadd__ ["self", "some"] [] := Fun.binds f_Hedge___iadd__ fun _ _ _ _ _ _ us hl => match us, hl with | [_, _], _ => rfl
  have f_Hedge_plants := fun_ofM F_Hedge_plants
  have b_Hedge_plants : Binds K fd_Hedge_plants ["self"] [] := Fun.binds f_Hedge_plants fun _ _ _ _ _ _ us hl => match us, hl with | [_], _ => rfl
  have f_Hedge_undo := fun_ofM F_Hedge_undo
  have b_Hedge_undo : Binds K fd_Hedge_undo ["self"] [] := Fun.binds f_Hedge_undo fun _ _ _ _ _ _ us hl => match us, hl with | [_], _ => rfl
  have f_Hedge_log := fun_ofM F_Hedge_log
  have b_Hedge_log : Binds K fd_Hedge_log ["self"] [] := Fun.binds f_Hedge_log fun _ _ _ _ _ _ us hl => match us, hl with | [_], _ => rfl
  have f_Hedge___getitem__ := fun_ofM F_Hedge___getitem__
  have b_Hedge___getitem__ : Binds K fd_Hedge___getitem__ ["self", "place"] [] := Fun.binds f_Hedge___getitem__ fun _ _ _ _ _ _ us hl => match us, hl with | [_, _], _ => rfl
  have f_Hedge___len__ := fun_ofM F_Hedge___len__
  have b_Hedge___len__ : Binds K fd_Hedge___len__ ["self"] [] := Fun.binds f_Hedge___len__ fun _ _ _ _ _ _ us hl => match us, hl with | [_], _ => rfl
  obtain ⟨fd_is_number, F_is_number⟩ : ∃ fd, FunZ K "is_number" st_is_number fd := cd.def_ 0 (d := ddOf "is_number" st_is_number) rfl
  have f_is_number := fun_of F_is_number
  have g_is_number := He.glo_ok X G (cd.fact 0 (f := .glo "is_number") rfl)
  have b_is_number : Binds K fd_is_number ["value", "low", "high"] [] := Fun.binds f_is_number fun _ _ _ _ _ _ us hl => match us, hl with | [_, _, _], _ => rfl
  obtain ⟨fd_is_pair, F_is_pair⟩ : ∃ fd, FunZ K "is_pair" st_is_pair fd := cd.def_ 1 (d := ddOf "is_pair" st_is_pair) rfl
  have f_is_pair := fun_of F_is_pair
  have g_is_pair := He.glo_ok X G (cd.fact 1 (f := .glo "is_pair") rfl)
  have b_is_pair : Binds K fd_is_pair ["many", "value"] [] := Fun.binds f_is_pair fun _ _ _ _ _ _ us hl => match us, hl with | [_, _], _ => rfl
  obtain ⟨fd_are_pairs, F_are_pairs⟩ : ∃ fd, FunZ K "are_pairs" st_are_pairs fd := cd.def_ 2 (d := ddOf "are_pairs" st_are_pairs) rfl
  have f_are_pairs := fun_of F_are_pairs
  have g_are_pairs := He.glo_ok X G (cd.fact 2 (f := .glo "are_pairs") rfl)
  have b_are_pairs : Binds K fd_are_pairs ["many", "value"] [] := Fun.binds f_are_pairs fun _ _ _ _ _ _ us hl => match us, hl with | [_, _], _ => rfl
  obtain ⟨fd_is_rule_of, F_is_rule_of⟩ : ∃ fd, FunZ K "is_rule_of" st_is_rule_of fd := cd.def_ 3 (d := ddOf "is_rule_of" st_is_rule_of) rfl
  have f_is_rule_of := fun_of F_is_rule_of
  have g_is_rule_of := He.glo_ok X G (cd.fact 3 (f := .glo "is_rule_of") rfl)
  have b_is_rule_of : Binds K fd_is_rule_of ["value"] [] := Fun.binds f_is_rule_of fun _ _ _ _ _ _ us hl => match us, hl with | [_], _ => rfl
  obtain ⟨fd_need_rule, F_need_rule⟩ : ∃ fd, FunZ K "need_rule" st_need_rule fd := cd.def_ 4 (d := ddOf "need_rule" st_need_rule) rfl
  have f_need_rule := fun_of F_need_rule
  have g_need_rule := He.glo_ok X G (cd.fact 4 (f := .glo "need_rule") rfl)
  have b_need_rule : Binds K fd_need_rule ["rule"] [] := Fun.binds f_need_rule fun _ _ _ _ _ _ us hl => match us, hl with | [_], _ => rfl
  obtain ⟨fd_need_number, F_need_number⟩ : ∃ fd, FunZ K "need_number" st_need_number fd := cd.def_ 5 (d := ddOf "need_number" st_need_number) rfl
  have f_need_number := fun_of F_need_number
  have g_need_number := He.glo_ok X G (cd.fact 5 (f := .glo "need_number") rfl)
  have b_need_number : Binds K fd_need_number ["value", "low", "high"] [] := Fun.binds f_need_number fun _ _ _ _ _ _ us hl => match us, hl with | [_, _, _], _ => rfl
  obtain ⟨fd_may_touch, F_may_touch⟩ : ∃ fd, FunZ K "may_touch" st_may_touch fd := cd.def_ 6 (d := ddOf "may_touch" st_may_touch) rfl
  have f_may_touch := fun_of F_may_touch
  have g_may_touch := He.glo_ok X G (cd.fact 6 (f := .glo "may_touch") rfl)
  have b_may_touch : Binds K fd_may_touch ["rule", "places", "left", "right"] [] := Fun.binds f_may_touch fun _ _ _ _ _ _ us hl => match us, hl with | [_, _, _, _], _ => rfl
  obtain ⟨fd_can_stand, F_can_stand⟩ : ∃ fd, FunZ K "can_stand" st_can_stand fd := cd.def_ 7 (d := ddOf "can_stand" st_can_stand) rfl
  have f_can_stand := fun_of F_can_stand
  have g_can_stand := He.glo_ok X G (cd.fact 7 (f := .glo "can_stand") rfl)
  have b_can_stand : Binds K fd_can_stand ["rule", "gap", "kind", "place"] [] := Fun.binds f_can_stand fun _ _ _ _ _ _ us hl => match us, hl with | [_, _, _, _], _ => rfl
  obtain ⟨fd_moves_in, F_moves_in⟩ : ∃ fd, FunZ K "moves_in" st_moves_in fd := cd.def_ 8 (d := ddOf "moves_in" st_moves_in) rfl
  have f_moves_in := fun_of F_moves_in
  have g_moves_in := He.glo_ok X G (cd.fact 8 (f := .glo "moves_in") rfl)
  have b_moves_in : Binds K fd_moves_in ["rule", "gap"] [] := Fun.binds f_moves_in fun _ _ _ _ _ _ us hl => match us, hl with | [_, _], _ => rfl
  obtain ⟨fd_gaps_of, F_gaps_of⟩ : ∃ fd, FunZ K "gaps_of" st_gaps_of fd := cd.def_ 20 (d := ddOf "gaps_of" st_gaps_of) rfl
  have f_gaps_of := fun_of F_gaps_of
  have g_gaps_of := He.glo_ok X G (cd.fact 20 (f := .glo "gaps_of") rfl)
  have b_gaps_of : Binds K fd_gaps_of ["rule", "n", "plants"] [] := Fun.binds f_gaps_of fun _ _ _ _ _ _ us hl => match us, hl with | [_, _, _], _ => rfl
  obtain ⟨fd_open_gaps, F_open_gaps⟩ : ∃ fd, FunZ K "open_gaps" st_open_gaps fd := cd.def_ 21 (d := ddOf "open_gaps" st_open_gaps) rfl
  have f_open_gaps := fun_of F_open_gaps
  have g_open_gaps := He.glo_ok X G (cd.fact 21 (f := .glo "open_gaps") rfl)
  have b_open_gaps : Binds K fd_open_gaps ["rule", "gaps"] [] := Fun.binds f_open_gaps fun _ _ _ _ _ _ us hl => match us, hl with | [_, _], _ => rfl
  obtain ⟨fd__law_hoe, F__law_hoe⟩ : ∃ fd, FunZ K "_law_hoe" st__law_hoe fd := cd.def_ 22 (d := ddOf "_law_hoe" st__law_hoe) rfl
  have f__law_hoe := fun_of F__law_hoe
  have g__law_hoe := He.glo_ok X G (cd.fact 22 (f := .glo "_law_hoe") rfl)
  have b__law_hoe : Binds K fd__law_hoe ["_law_cell", "_law_salt"] [] := Fun.binds f__law_hoe fun _ _ _ _ _ _ us hl => match us, hl with | [_, _], _ => rfl
  obtain ⟨fd__law_dig, F__law_dig⟩ : ∃ fd, FunZ K "_law_dig" st__law_dig fd := cd.def_ 23 (d := ddOf "_law_dig" st__law_dig) rfl
  have f__law_dig := fun_of F__law_dig
  have g__law_dig := He.glo_ok X G (cd.fact 23 (f := .glo "_law_dig") rfl)
  have b__law_dig : Binds K fd__law_dig ["_law_hoe_here", "_law_many"] [] := Fun.binds f__law_dig fun _ _ _ _ _ _ us hl => match us, hl with | [_, _], _ => rfl
  obtain ⟨fd__law_pick, F__law_pick⟩ : ∃ fd, FunZ K "_law_pick" st__law_pick fd := cd.def_ 24 (d := ddOf "_law_pick" st__law_pick) rfl
  have f__law_pick := fun_of F__law_pick
  have g__law_pick := He.glo_ok X G (cd.fact 24 (f := .glo "_law_pick") rfl)
  have b__law_pick : Binds K fd__law_pick ["_law_hoe_here", "_law_things"] [] := Fun.binds f__law_pick fun _ _ _ _ _ _ us hl => match us, hl with | [_, _], _ => rfl
  obtain ⟨fd__law_kinds, F__law_kinds⟩ : ∃ fd, FunZ K "_law_kinds" st__law_kinds fd := cd.def_ 25 (d := ddOf "_law_kinds" st__law_kinds) rfl
  have f__law_kinds := fun_of F__law_kinds
  have g__law_kinds := He.glo_ok X G (cd.fact 25 (f := .glo "_law_kinds") rfl)
  have b__law_kinds : Binds K fd__law_kinds ["_law_many"] [] := Fun.binds f__law_kinds fun _ _ _ _ _ _ us hl => match us, hl with | [_], _ => rfl
  obtain ⟨fd__law_rule, F__law_rule⟩ : ∃ fd, FunZ K "_law_rule" st__law_rule fd := cd.def_ 26 (d := ddOf "_law_rule" st__law_rule) rfl
  have f__law_rule := fun_of F__law_rule
  have g__law_rule := He.glo_ok X G (cd.fact 26 (f := .glo "_law_rule") rfl)
  have b__law_rule : Binds K fd__law_rule ["_law_hoe_here", "_law_most"] [] := Fun.binds f__law_rule fun _ _ _ _ _ _ us hl => match us, hl with | [_, _], _ => rfl
  obtain ⟨fd__law_int, F__law_int⟩ : ∃ fd, FunZ K "_law_int" st__law_int fd := cd.def_ 27 (d := ddOf "_law_int" st__law_int) rfl
  have f__law_int := fun_of F__law_int
  have g__law_int := He.glo_ok X G (cd.fact 27 (f := .glo "_law_int") rfl)
  have b__law_int : Binds K fd__law_int ["_law_value", "_law_low", "_law_high"] [] := Fun.binds f__law_int fun _ _ _ _ _ _ us hl => match us, hl with | [_, _, _], _ => rfl
  obtain ⟨fd__law_are_pairs, F__law_are_pairs⟩ : ∃ fd, FunZ K "_law_are_pairs" st__law_are_pairs fd := cd.def_ 28 (d := ddOf "_law_are_pairs" st__law_are_pairs) rfl
  have f__law_are_pairs := fun_of F__law_are_pairs
  have g__law_are_pairs := He.glo_ok X G (cd.fact 28 (f := .glo "_law_are_pairs") rfl)
  have b__law_are_pairs : Binds K fd__law_are_pairs ["_law_many", "_law_value"] [] := Fun.binds f__law_are_pairs fun _ _ _ _ _ _ us hl => match us, hl with | [_, _], _ => rfl
  obtain ⟨fd__law_is_rule, F__law_is_rule⟩ : ∃ fd, FunZ K "_law_is_rule" st__law_is_rule fd := cd.def_ 29 (d := ddOf "_law_is_rule" st__law_is_rule) rfl
  have f__law_is_rule := fun_of F__law_is_rule
  have g__law_is_rule := He.glo_ok X G (cd.fact 29 (f := .glo "_law_is_rule") rfl)
  have b__law_is_rule : Binds K fd__law_is_rule ["_law_value"] [] := Fun.binds f__law_is_rule fun _ _ _ _ _ _ us hl => match us, hl with | [_], _ => rfl
  obtain ⟨fd__law_odd, F__law_odd⟩ : ∃ fd, FunZ K "_law_odd" st__law_odd fd := cd.def_ 30 (d := ddOf "_law_odd" st__law_odd) rfl
  have f__law_odd := fun_of F__law_odd
  have g__law_odd := He.glo_ok X G (cd.fact 30 (f := .glo "_law_odd") rfl)
  have b__law_odd : Binds K fd__law_odd ["_law_hoe_here"] [] := Fun.binds f__law_odd fun _ _ _ _ _ _ us hl => match us, hl with | [_], _ => rfl
  obtain ⟨fd__law_bent, F__law_bent⟩ : ∃ fd, FunZ K "_law_bent" st__law_bent fd := cd.def_ 31 (d := ddOf "_law_bent" st__law_bent) rfl
  have f__law_bent := fun_of F__law_bent
  have g__law_bent := He.glo_ok X G (cd.fact 31 (f := .glo "_law_bent") rfl)
  have b__law_bent : Binds K fd__law_bent ["_law_hoe_here", "_law_value"] [] := Fun.binds f__law_bent fun _ _ _ _ _ _ us hl => match us, hl with | [_, _], _ => rfl
  obtain ⟨fd__law_word, F__law_word⟩ : ∃ fd, FunZ K "_law_word" st__law_word fd := cd.def_ 32 (d := ddOf "_law_word" st__law_word) rfl
  have f__law_word := fun_of F__law_word
  have g__law_word := He.glo_ok X G (cd.fact 32 (f := .glo "_law_word") rfl)
  obtain ⟨fd__law_grow, F__law_grow⟩ : ∃ fd, FunZ K "_law_grow" st__law_grow fd := cd.def_ 33 (d := ddOf "_law_grow" st__law_grow) rfl
  have f__law_grow := fun_of F__law_grow
  have g__law_grow := He.glo_ok X G (cd.fact 33 (f := .glo "_law_grow") rfl)
  have b__law_grow : Binds K fd__law_grow ["_law_hedge", "_law_some"] [] := Fun.binds f__law_grow fun _ _ _ _ _ _ us hl => match us, hl with | [_, _], _ => rfl
  obtain ⟨fd__law_full_right, F__law_full_right⟩ : ∃ fd, FunZ K "_law_full_right" st__law_full_right fd := cd.def_ 34 (d := ddOf "_law_full_right" st__law_full_right) rfl
  have f__law_full_right := fun_of F__law_full_right
  have g__law_full_right := He.glo_ok X G (cd.fact 34 (f := .glo "_law_full_right") rfl)
  have b__law_full_right : Binds K fd__law_full_right [] [] := Fun.binds f__law_full_right fun _ _ _ _ _ _ us hl => match us, hl with | [], _ => rfl
  obtain ⟨fd_law, F_law⟩ : ∃ fd, FunZ K "law" st_law fd := cd.def_ 35 (d := ddOf "law" st_law) rfl
  have f_law := fun_of F_law
  have W__law_word : ∃ f fd, Fun K "_law_word" "_law_word" st__law_word f fd ∧ mg "_law_word" = some (.ref f) := ⟨_, _, f__law_word, g__law_word⟩
  have hf : f = He.ga K "law" := by
    have e := hfa.symm.trans (He.glo_ok X G (cd.fact 35 (f := .glo "law") rfl))
    cases e
    rfl
  subst hf
  refine ⟨fd_law, tfL.map (He.cT K), toSp K (sp_law (fun x : String => He.ga K x)), fun p hp => ?_, fun p hp => ?_, fun p hp => ?_, fun s v => FunD.bindsA (ps := ["_law_script"]) F_law (fun _ _ _ _ _ _ us hl => match us, hl with | [_], _ => rfl) s [v] rfl, ?_, ?_⟩
  · obtain ⟨q, hq, rfl⟩ := List.mem_map.mp hp
    exact c.empty q hq
  · obtain ⟨q, hq, rfl⟩ := List.mem_map.mp hp
    exact c.out q hq
  · obtain ⟨q, hq, rfl⟩ := List.mem_map.mp hp
    exact PySem.W.codeHd_of_K X (c.hd q hq)
  · intro H a ns hl _ hH hS
    exact law_start (tabs_start hH) hS fun d M hd => ⟨d, rfl, ns, hl, hd, fun _ => rfl⟩
  · intro base _ _ hTB
    obtain ⟨fdi_TooMany, Fi_TooMany⟩ : ∃ fd, FunD K "__init__" "TooMany.__init__" (defArgs st_TooMany) (defBody st_TooMany) (defScope st_TooMany) [] [] (He.fAd K ("TooMany", some "__init__")) fd := cd.def_ 36 (d := dmOf "TooMany" "__init__" "TooMany.__init__" st_TooMany) rfl
    have fi_TooMany := fun_ofM Fi_TooMany
    have U : Txw PySem.Challenge.rw_hedgeworths_k16_refused_at_hedges.prog w K mg base (fun x : String => He.ga K x) := {
      i_TooMany := exi_of (He.glo_ok X G (cd.fact 59 (f := .glo "TooMany") rfl)) xi_TooMany (ini_TooMany fi_TooMany (cin_of (He.glo_ok X G (cd.fact 71 (f := .glo "HedgeError") rfl)) xcin)) (Fun.binds fi_TooMany fun _ _ _ _ _ _ us hl => match us, hl with | [_, _], _ => rfl) }
    have C_is_number : Callee PySem.Challenge.rw_hedgeworths_k16_refused_at_hedges.prog w K mg base "is_number" 1 sp_is_number := callee_of f_is_number g_is_number b_is_number (ok_is_number (P := PySem.Challenge.rw_hedgeworths_k16_refused_at_hedges.prog) (w := w) (base := base) f_is_number T U )
    have C_is_pair : Callee PySem.Challenge.rw_hedgeworths_k16_refused_at_hedges.prog w K mg base "is_pair" 2 sp_is_pair := callee_of f_is_pair g_is_pair b_is_pair (ok_is_pair (P := PySem.Challenge.rw_hedgeworths_k16_refused_at_hedges.prog) (w := w) (base := base) f_is_pair T U C_is_number)
    have C_are_pairs : Callee PySem.Challenge.rw_hedgeworths_k16_refused_at_hedges.prog w K mg base "are_pairs" 3 sp_are_pairs := callee_of f_are_pairs g_are_pairs b_are_pairs (ok_are_pairs (P := PySem.Challenge.rw_hedgeworths_k16_refused_at_hedges.prog) (w := w) (base := base) f_are_pairs T U C_is_pair)
    have C_is_rule_of : Callee PySem.Challenge.rw_hedgeworths_k16_refused_at_hedges.prog w K mg base "is_rule_of" 4 sp_is_rule_of := callee_of f_is_rule_of g_is_rule_of b_is_rule_of (ok_is_rule_of (P := PySem.Challenge.rw_hedgeworths_k16_refused_at_hedges.prog) (w := w) (base := base) f_is_rule_of T U C_is_number C_are_pairs)
    have C_need_rule : Callee PySem.Challenge.rw_hedgeworths_k16_refused_at_hedges.prog w K mg base "need_rule" 5 (sp_need_rule (fun x : String => He.ga K x)) := callee_of f_need_rule g_need_rule b_need_rule (ok_need_rule (P := PySem.Challenge.rw_hedgeworths_k16_refused_at_hedges.prog) (w := w) (base := base) f_need_rule T U C_is_rule_of)
    have C_need_number : Callee PySem.Challenge.rw_hedgeworths_k16_refused_at_hedges.prog w K mg base "need_number" 2 (sp_need_number (fun x : String => He.ga K x)) := callee_of f_need_number g_need_number b_need_number (ok_need_number (P := PySem.Challenge.rw_hedgeworths_k16_refused_at_hedges.prog) (w := w) (base := base) f_need_number T U C_is_number)
    have C_may_touch : Callee PySem.Challenge.rw_hedgeworths_k16_refused_at_hedges.prog w K mg base "may_touch" 1 sp_may_touch := callee_of f_may_touch g_may_touch b_may_touch (ok_may_touch (P := PySem.Challenge.rw_hedgeworths_k16_refused_at_hedges.prog) (w := w) (base := base) f_may_touch T U )
    have C_can_stand : Callee PySem.Challenge.rw_hedgeworths_k16_refused_at_hedges.prog w K mg base "can_stand" 2 sp_can_stand := callee_of f_can_stand g_can_stand b_can_stand (ok_can_stand (P := PySem.Challenge.rw_hedgeworths_k16_refused_at_hedges.prog) (w := w) (base := base) f_can_stand T U C_may_touch)
    have C_moves_in : Callee PySem.Challenge.rw_hedgeworths_k16_refused_at_hedges.prog w K mg base "moves_in" 3 sp_moves_in := callee_of f_moves_in g_moves_in b_moves_in (ok_moves_in (P := PySem.Challenge.rw_hedgeworths_k16_refused_at_hedges.prog) (w := w) (base := base) f_moves_in T U C_can_stand)
    have C_Trial___init__ : MakeD PySem.Challenge.rw_hedgeworths_k16_refused_at_hedges.prog w K mg base "Trial" (He.ga K "Trial") 1 (sp_Trial___init__ (fun x : String => He.ga K x)) := ⟨⟨_, _, _, (ok_Trial___init__ (P := PySem.Challenge.rw_hedgeworths_k16_refused_at_hedges.prog) (w := w) (base := base) f_Trial___init__ T U ), He.mkr_ok (cd.fact 9 (f := .mkr "Trial") rfl), b_Trial___init__⟩, He.glo_ok X G (cd.fact 36 (f := .glo "Trial") rfl)⟩
    have C_Trial___enter__ : MethD PySem.Challenge.rw_hedgeworths_k16_refused_at_hedges.prog w K mg base (He.ga K "Trial") "__enter__" 1 (sp_Trial___enter__ (fun x : String => He.ga K x)) := ⟨⟨_, _, _, (ok_Trial___enter__ (P := PySem.Challenge.rw_hedgeworths_k16_refused_at_hedges.prog) (w := w) (base := base) f_Trial___enter__ T U ), He.meth_ok (cd.fact 10 (f := .meth "Trial" "__enter__") rfl), fn_in f_Trial___enter__, b_Trial___enter__⟩⟩
    have C_Trial___exit__ : MethD PySem.Challenge.rw_hedgeworths_k16_refused_at_hedges.prog w K mg base (He.ga K "Trial") "__exit__" 1 (sp_Trial___exit__ (fun x : String => He.ga K x)) := ⟨⟨_, _, _, (ok_Trial___exit__ (P := PySem.Challenge.rw_hedgeworths_k16_refused_at_hedges.prog) (w := w) (base := base) f_Trial___exit__ T U ), He.meth_ok (cd.fact 11 (f := .meth "Trial" "__exit__") rfl), fn_in f_Trial___exit__, b_Trial___exit__⟩⟩
    have C_Hedge___init__ : MakeD PySem.Challenge.rw_hedgeworths_k16_refused_at_hedges.prog w K mg base "Hedge" (He.ga K "Hedge") 6 (sp_Hedge___init__ (fun x : String => He.ga K x)) := ⟨⟨_, _, _, (ok_Hedge___init__ (P := PySem.Challenge.rw_hedgeworths_k16_refused_at_hedges.prog) (w := w) (base := base) f_Hedge___init__ T U C_need_rule C_need_number), He.mkr_ok (cd.fact 12 (f := .mkr "Hedge") rfl), b_Hedge___init__⟩, He.glo_ok X G (cd.fact 40 (f := .glo "Hedge") rfl)⟩
    have C_Hedge_turn_to : MethD PySem.Challenge.rw_hedgeworths_k16_refused_at_hedges.prog w K mg base (He.ga K "Hedge") "turn_to" 3 (sp_Hedge_turn_to (fun x : String => He.ga K x)) := ⟨⟨_, _, _, (ok_Hedge_turn_to (P := PySem.Challenge.rw_hedgeworths_k16_refused_at_hedges.prog) (w := w) (base := base) f_Hedge_turn_to T U ), He.meth_ok (cd.fact 13 (f := .meth "Hedge" "turn_to") rfl), fn_in f_Hedge_turn_to, b_Hedge_turn_to⟩⟩
    have C_gaps_of : Callee PySem.Challenge.rw_hedgeworths_k16_refused_at_hedges.prog w K mg base "gaps_of" 1 sp_gaps_of := callee_of f_gaps_of g_gaps_of b_gaps_of (ok_gaps_of (P := PySem.Challenge.rw_hedgeworths_k16_refused_at_hedges.prog) (w := w) (base := base) f_gaps_of T U )
    have C_open_gaps : Callee PySem.Challenge.rw_hedgeworths_k16_refused_at_hedges.prog w K mg base "open_gaps" 4 sp_open_gaps := callee_of f_open_gaps g_open_gaps b_open_gaps (ok_open_gaps (P := PySem.Challenge.rw_hedgeworths_k16_refused_at_hedges.prog) (w := w) (base := base) f_open_gaps T U C_moves_in)
    have C_Hedge_plant : MethD PySem.Challenge.rw_hedgeworths_k16_refused_at_hedges.prog w K mg base (He.ga K "Hedge") "plant" 5 (sp_Hedge_plant (fun x : String => He.ga K x)) := ⟨⟨_, _, _, (ok_Hedge_plant (P := PySem.Challenge.rw_hedgeworths_k16_refused_at_hedges.prog) (w := w) (base := base) f_Hedge_plant T U C_is_number C_gaps_of C_can_stand C_Hedge_turn_to C_open_gaps), He.meth_ok (cd.fact 14 (f := .meth "Hedge" "plant") rfl), fn_in f_Hedge_plant, b_Hedge_plant⟩⟩
    have C_Trial_with : WithD PySem.Challenge.rw_hedgeworths_k16_refused_at_hedges.prog w K mg base (He.ga K "Trial") 1 (sp_Trial___enter__ (fun x : String => He.ga K x)) (sp_Trial___exit__ (fun x : String => He.ga K x)) := ⟨⟨_, _, _, _, _, _, He.meth_ok (cd.fact 10 (f := .meth "Trial" "__enter__") rfl), He.meth_ok (cd.fact 11 (f := .meth "Trial" "__exit__") rfl), FnOk.mono (ok_Trial___enter__ (P := PySem.Challenge.rw_hedgeworths_k16_refused_at_hedges.prog) (w := w) (base := base) f_Trial___enter__ T U ) (by decide), FnOk.mono (ok_Trial___exit__ (P := PySem.Challenge.rw_hedgeworths_k16_refused_at_hedges.prog) (w := w) (base := base) f_Trial___exit__ T U ) (by decide), FnM.mono (okM_Trial___exit__ (P := PySem.Challenge.rw_hedgeworths_k16_refused_at_hedges.prog) (w := w) (base := base) f_Trial___exit__ T U ) (by decide), b_Trial___enter__, b_Trial___exit__⟩⟩
    have C_Hedge___iadd__ : MethD PySem.Challenge.rw_hedgeworths_k16_refused_at_hedges.prog w K mg base (He.ga K "Hedge") "__iadd__" 6 (sp_Hedge___iadd__ (fun x : String => He.ga K x)) := ⟨⟨_, _, _, (ok_Hedge___iadd__ (P := PySem.Challenge.rw_hedgeworths_k16_refused_at_hedges.prog) (w := w) (base := base) f_Hedge___iadd__ T U C_Trial_with C_Trial___init__ C_Hedge_plant), He.meth_ok (cd.fact 15 (f := .meth "Hedge" "__iadd__") rfl), fn_in f_Hedge___iadd__, b_Hedge___iadd__⟩⟩
    have C_Hedge_plants : PropD PySem.Challenge.rw_hedgeworths_k16_refused_at_hedges.prog w K mg base (He.ga K "Hedge") "plants" 1 (sp_Hedge_plants (fun x : String => He.ga K x)) := ⟨⟨_, _, _, _, propB_ok xp_Hedge_plants, (ok_Hedge_plants (P := PySem.Challenge.rw_hedgeworths_k16_refused_at_hedges.prog) (w := w) (base := base) f_Hedge_plants T U ), b_Hedge_plants⟩⟩
    have C_Hedge_undo : MethD PySem.Challenge.rw_hedgeworths_k16_refused_at_hedges.prog w K mg base (He.ga K "Hedge") "undo" 1 (sp_Hedge_undo (fun x : String => He.ga K x)) := ⟨⟨_, _, _, (ok_Hedge_undo (P := PySem.Challenge.rw_hedgeworths_k16_refused_at_hedges.prog) (w := w) (base := base) f_Hedge_undo T U ), He.meth_ok (cd.fact 16 (f := .meth "Hedge" "undo") rfl), fn_in f_Hedge_undo, b_Hedge_undo⟩⟩
    have C_Hedge_log : GenD PySem.Challenge.rw_hedgeworths_k16_refused_at_hedges.prog w K mg base (He.ga K "Hedge") "log" 1 (sp_Hedge_log (fun x : String => He.ga K x)) := ⟨⟨_, _, _, (ok_Hedge_log (P := PySem.Challenge.rw_hedgeworths_k16_refused_at_hedges.prog) (w := w) (base := base) f_Hedge_log T U ), He.meth_ok (cd.fact 17 (f := .meth "Hedge" "log") rfl), b_Hedge_log⟩⟩
    have C_Hedge___getitem__ : MethD PySem.Challenge.rw_hedgeworths_k16_refused_at_hedges.prog w K mg base (He.ga K "Hedge") "__getitem__" 2 (sp_Hedge___getitem__ (fun x : String => He.ga K x)) := ⟨⟨_, _, _, (ok_Hedge___getitem__ (P := PySem.Challenge.rw_hedgeworths_k16_refused_at_hedges.prog) (w := w) (base := base) f_Hedge___getitem__ T U C_is_number), He.meth_ok (cd.fact 18 (f := .meth "Hedge" "__getitem__") rfl), fn_in f_Hedge___getitem__, b_Hedge___getitem__⟩⟩
    have C_Hedge___len__ : MethD PySem.Challenge.rw_hedgeworths_k16_refused_at_hedges.prog w K mg base (He.ga K "Hedge") "__len__" 1 (sp_Hedge___len__ (fun x : String => He.ga K x)) := ⟨⟨_, _, _, (ok_Hedge___len__ (P := PySem.Challenge.rw_hedgeworths_k16_refused_at_hedges.prog) (w := w) (base := base) f_Hedge___len__ T U ), He.meth_ok (cd.fact 19 (f := .meth "Hedge" "__len__") rfl), fn_in f_Hedge___len__, b_Hedge___len__⟩⟩
    have C__law_hoe : Callee PySem.Challenge.rw_hedgeworths_k16_refused_at_hedges.prog w K mg base "_law_hoe" 1 sp__law_hoe := callee_of f__law_hoe g__law_hoe b__law_hoe (ok__law_hoe (P := PySem.Challenge.rw_hedgeworths_k16_refused_at_hedges.prog) (w := w) (base := base) f__law_hoe T U )
    have C__law_dig : Callee PySem.Challenge.rw_hedgeworths_k16_refused_at_hedges.prog w K mg base "_law_dig" 1 sp__law_dig := callee_of f__law_dig g__law_dig b__law_dig (ok__law_dig (P := PySem.Challenge.rw_hedgeworths_k16_refused_at_hedges.prog) (w := w) (base := base) f__law_dig T U )
    have C__law_pick : Callee PySem.Challenge.rw_hedgeworths_k16_refused_at_hedges.prog w K mg base "_law_pick" 2 sp__law_pick := callee_of f__law_pick g__law_pick b__law_pick (ok__law_pick (P := PySem.Challenge.rw_hedgeworths_k16_refused_at_hedges.prog) (w := w) (base := base) f__law_pick T U C__law_dig)
    have C__law_kinds : Callee PySem.Challenge.rw_hedgeworths_k16_refused_at_hedges.prog w K mg base "_law_kinds" 1 sp__law_kinds := callee_of f__law_kinds g__law_kinds b__law_kinds (ok__law_kinds (P := PySem.Challenge.rw_hedgeworths_k16_refused_at_hedges.prog) (w := w) (base := base) f__law_kinds T U )
    have C__law_rule : Callee PySem.Challenge.rw_hedgeworths_k16_refused_at_hedges.prog w K mg base "_law_rule" 3 sp__law_rule := callee_of f__law_rule g__law_rule b__law_rule (ok__law_rule (P := PySem.Challenge.rw_hedgeworths_k16_refused_at_hedges.prog) (w := w) (base := base) f__law_rule T U C__law_dig C__law_pick C__law_kinds)
    have C__law_int : Callee PySem.Challenge.rw_hedgeworths_k16_refused_at_hedges.prog w K mg base "_law_int" 1 sp__law_int := callee_of f__law_int g__law_int b__law_int (ok__law_int (P := PySem.Challenge.rw_hedgeworths_k16_refused_at_hedges.prog) (w := w) (base := base) f__law_int T U )
    have C__law_are_pairs : Callee PySem.Challenge.rw_hedgeworths_k16_refused_at_hedges.prog w K mg base "_law_are_pairs" 2 sp__law_are_pairs := callee_of f__law_are_pairs g__law_are_pairs b__law_are_pairs (ok__law_are_pairs (P := PySem.Challenge.rw_hedgeworths_k16_refused_at_hedges.prog) (w := w) (base := base) f__law_are_pairs T U C__law_int)
    have C__law_is_rule : Callee PySem.Challenge.rw_hedgeworths_k16_refused_at_hedges.prog w K mg base "_law_is_rule" 3 sp__law_is_rule := callee_of f__law_is_rule g__law_is_rule b__law_is_rule (ok__law_is_rule (P := PySem.Challenge.rw_hedgeworths_k16_refused_at_hedges.prog) (w := w) (base := base) f__law_is_rule T U C__law_int C__law_are_pairs)
    have C__law_odd : Callee PySem.Challenge.rw_hedgeworths_k16_refused_at_hedges.prog w K mg base "_law_odd" 3 sp__law_odd := callee_of f__law_odd g__law_odd b__law_odd (ok__law_odd (P := PySem.Challenge.rw_hedgeworths_k16_refused_at_hedges.prog) (w := w) (base := base) f__law_odd T U C__law_pick)
    have C__law_bent : ∀ d, Callee PySem.Challenge.rw_hedgeworths_k16_refused_at_hedges.prog w K mg base "_law_bent" (3 + d) (sp__law_bent d) := fun d => by
      induction d with
      | zero =>
        refine callee_no f__law_bent g__law_bent b__law_bent fun ds M k kx h => ?_
        obtain ⟨a, v, rfl, hv, hd, _⟩ := h; omega
      | succ d ih => exact callee_of f__law_bent g__law_bent b__law_bent (ok__law_bent (P := PySem.Challenge.rw_hedgeworths_k16_refused_at_hedges.prog) (w := w) (base := base) f__law_bent T U ih C__law_dig C__law_pick C__law_odd)
    have C__law_grow : Callee PySem.Challenge.rw_hedgeworths_k16_refused_at_hedges.prog w K mg base "_law_grow" 7 (sp__law_grow (fun x : String => He.ga K x)) := callee_of f__law_grow g__law_grow b__law_grow (ok__law_grow (P := PySem.Challenge.rw_hedgeworths_k16_refused_at_hedges.prog) (w := w) (base := base) f__law_grow T U C_Hedge___iadd__)
    have C__law_full_right : Callee PySem.Challenge.rw_hedgeworths_k16_refused_at_hedges.prog w K mg base "_law_full_right" 10 (sp__law_full_right (fun x : String => He.ga K x)) := callee_of f__law_full_right g__law_full_right b__law_full_right (ok__law_full_right (P := PySem.Challenge.rw_hedgeworths_k16_refused_at_hedges.prog) (w := w) (base := base) (funC_of F__law_full_right) (hTB _ (List.mem_map.mpr ⟨_, (show (("_law_full_right", none) : He.Defn) ∈ tfL from .head _), rfl⟩)) (mem_tabs (show (("_law_full_right", none) : He.Defn) ∈ tfL from .head _)) (tabs_one nd (show (("_law_full_right", none) : He.Defn) ∈ tfL from .head _)) T U C_Hedge___init__ C__law_grow C_Hedge___len__ C_Hedge_plant C_Hedge_undo W__law_word)
    exact (ok_law (P := PySem.Challenge.rw_hedgeworths_k16_refused_at_hedges.prog) (w := w) (base := base) (funC_of F_law) (hTB _ (List.mem_map.mpr ⟨_, (show (("law", none) : He.Defn) ∈ tfL from .tail _ (.head _)), rfl⟩)) (mem_tabs (show (("law", none) : He.Defn) ∈ tfL from .tail _ (.head _))) (tabs_one nd (show (("law", none) : He.Defn) ∈ tfL from .tail _ (.head _))) T U C__law_hoe C__law_rule C__law_dig C_Hedge___init__ C_Hedge_plant C_Hedge___getitem__ C__law_grow C_Hedge_log C_Hedge___len__ C_Hedge_plants (C__law_bent 20) C__law_is_rule C__law_full_right W__law_word)
end DL
open PySem PySem.W PySem.Calls PyProof.Rows
theorem PySem.Challenge.cw_hedgeworths_k16_refused_at_hedges_holds : PySem.Challenge.rw_hedgeworths_k16_refused_at_hedges.Holds := by
  w_on; o_law
  refine HandSHeadRun.head_any (r := OpenLaw.row PySem.Challenge.rw_hedgeworths_k16_refused_at_hedges) (q := view (OpenLaw.row PySem.Challenge.rw_hedgeworths_k16_refused_at_hedges).prog [43]) (H := DL.hkX) (ob := DL.obX) (M := 9000) (loose := DL.looseL) (d := HandSHeadRun.topDef (OpenLaw.row PySem.Challenge.rw_hedgeworths_k16_refused_at_hedges).prog 43) (kwd := []) DL.obX_eq
    (by kernel_rfl) (fun s => by kernel_rfl) DL.runX (by kernel_rfl) (by kernel_rfl) (by kernel_rfl) (by rfl) (by first | assumption | decide +kernel) (by decide +kernel) ⟨rfl, rfl, rfl, rfl, rfl, by decide +kernel⟩ ?hw ?hc
  case hw => w_witness2
  case hc =>
    refine LamX.walk_ofTsE (l := PySem.Challenge.rw_hedgeworths_k16_refused_at_hedges) (n := 63) (k := 26) (x := "_law_script") (CX := fun w => L2.CX PySem.Challenge.rw_hedgeworths_k16_refused_at_hedges.prog w) rfl (by decide) (by kernel_rfl) ⟨rfl, by decide, by decide⟩ ?F (fun w H s e s' z => by haveI : DL.TabList := ⟨[]⟩; exact DL.cx_no _ w H s e s' z)
    intro w mg fa h Y G hmg0
    obtain ⟨K, KX, c, cg⟩ := Y
    have hmg : mg ("law" : PySem.Str) = some (.ref fa) := by
      have e : (HandSHeadRun.topDef (OpenLaw.row PySem.Challenge.rw_hedgeworths_k16_refused_at_hedges).prog 43).name = ("law" : PySem.Str) := by kernel_rfl
      rw [← e]
      exact hmg0
    exact ⟨K, KX, DL.facts KX G hmg c cg⟩

