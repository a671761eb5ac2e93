
import PyProof.Rows.All
import Wide.All
import OpenK.AllK
import Wide.FinOn
import HandS.ForMost
import HandS.Exc
import HandS.TryOnly
import HandS.ExcOwn
import HandS.ExcInit
import HandS.ExcField
import HandS.ExcIs
import HandS.CallSlots
import HandS.WordsExc
import HandS.IsInst
import HandS.Lambda
import HandS.EndTab
import KE.KNest
import HandS.Style
import HandS.TupAny
import HandS.TupMul
import HandS.Wide
import HandS.Deep
import HandS.SortInts
import HandS.Conv
import HandS.Strs
import HandS.SetFor
import HandS.Zip
import KE.GoesEnum
import HandS.Walk
import HandS.ExcCtx
import HandS.ExcInitHot
import HandS.Small
import KE.KExcIs
import HandS.SuiteRaise
import PyProof.EqAt
import PyProof.EqKinds
import PyProof.TupleCall
import PyProof.WalkInts
import KE.KRevSl
import HandS.RaiseMore
import KE.SortData
import HandS.OwnEq
import PyProof.InstEq
import HandS.Text
import HandS.Flt
import HandS.HotCalls
import HandS.Iter
import HandS.More
import KE.KDictCopyH
import KE.KDictDisplayH
import HandS.Defaults
import KE.KeyNested
import KE.KDictKeyed
import KE.SortKeyHeap
import KE.KDictList
import HandS.SortKw
import HandS.ExcValue
import KE.DataCmp
import PyProof.NeKinds
import PyProof.StrOps2
import HandS.HeadHook3
import PySem.Challenge.RW_chordswaps_k04_whole_texts_of_books
set_option Elab.async false
set_option linter.all false
section
set_option maxRecDepth 100000
set_option maxHeartbeats 4000000
namespace DL
open PySem PySem.Spec L2

/-! ## data as trees; what is changed stands in a small heap of its own -/
inductive D where
  | non | bl (b : Bool) | int (i : Int) | str (x : Str) | ty (n : String)
  | tup (xs : List D) | lst (xs : List D) | scr (xs : List D)
  /-- a tuple of which it is known that its object has no dict -/
  | tupx (xs : List D)
  | dic (ks : List Key) (xs : List D)
  | obj (c : String) (ns : List String) (xs : List D)
  | ref (n : Nat)
  | glb (x : String)
  | exc (a : Addr) (cls : Value) (d : Option Addr) (nm : String) (ns : List String) (fs : List D)
  | lam (f c : Addr) (q : Str) (vs : List V) (xs : List D)
inductive O where
  | dead | lst (xs : List D) | dk (ks : List Key) (xs : List D)
  | ins (c : String) (ns : List String) (xs : List D)
  /-- a dict that is walked -/
  | dkl (o : Obj) (ks : List Key) (vs : List V) (xs : List D)
  /-- a dict whose keys are fillings -/
  | df (ks : List (List (Option Int))) (xs : List D)
  /-- a dict whose keys are pairs of tuples of numbers -/
  | dn (ks : List (List Int × List Int)) (xs : List D)
/-- a person's post, or None -/
def oI : Option Int → D
  | none => .non
  | some i => .int i
/-- a filling as a value -/
def filD (f : List (Option Int)) : D := .tup (f.map oI)
def oV : Option Int → V
  | none => .non
  | some i => .int i
/-- the object at a is just this one -/
def DFo (a : Addr) (ob : Obj) : HO := .ext fun h => h.get? a = some ob
def hO : Option Int → Int
  | none => reduceHash 0xFCA86420
  | some i => hashInt i
def thO (ks : List (Option Int)) : Int := reduceHash (Builtin.Tuple.tupleHashOf (ks.map hO))
def entF (x : List (Option Int) × Addr × Value) : DictEntry := ⟨thO x.1, .ref x.2.1, x.2.2⟩
/-- a pair of tuples of numbers as a key -/
abbrev K2 := List Int × List Int
def hN1 (P : List Int) : Int := reduceHash (Builtin.Tuple.tupleHashOf (P.map hashInt))
def thN (k : K2) : Int := reduceHash (Builtin.Tuple.tupleHashOf [hN1 k.1, hN1 k.2])
def entN (x : K2 × Addr × Value) : DictEntry := ⟨thN x.1, .ref x.2.1, x.2.2⟩
theorem dfo_code {a c : Addr} {ob : Obj} {es : Array DictEntry} {ep : Nat} {q : Str} (hd : ob.data = .dict es ep) : DFo a ob ≠ LamX.CodeO c q := fun e => by
  unfold DFo LamX.CodeO at e
  injection e with e
  have h1 : ({ objs := Array.replicate (a + 1) ob } : Heap).get? a = some ob := by
    unfold Heap.get?
    have : (Array.replicate (a + 1) ob)[a]? = some ob := by simp
    simp only [this]
    obtain ⟨c1, c2, c3, c4⟩ := ob
    simp only at hd
    subst hd
    rfl
  have h2 := (congrFun e { objs := Array.replicate (a + 1) ob }).mp h1
  obtain ⟨oc, vs, t, h3, h4, _⟩ := h2
  unfold Heap.get? at h3
  by_cases hc : c < a + 1
  · have : (Array.replicate (a + 1) ob)[c]? = some ob := by simp [hc]
    simp only [this] at h3
    have : oc = ob := by
      split at h3
      · cases h3
      · exact (Option.some.inj h3).symm
    rw [this, hd] at h4
    cases h4
  · have : (Array.replicate (a + 1) ob)[c]? = none := Array.getElem?_eq_none (by rw [Array.size_replicate]; exact Nat.le_of_not_lt hc)
    simp only [this] at h3
    cases h3
abbrev DH := List O
abbrev Sg := List (Option D)
abbrev VD := D → DH → Prop
abbrev LD := List D → DH → Prop
abbrev ED := String → List String → List D → DH → Prop
abbrev EF : ED := fun _ _ _ _ => False
abbrev TED := Sg → DH → VD → ED → Prop
abbrev TAD := Sg → DH → LD → ED → Prop
abbrev TTD := Sg → DH → (Bool → DH → Prop) → ED → Prop
/-- what follows a statement -/
structure KD where
  nx : Sg → DH → Prop
  rt : VD
  bk : Sg → DH → Prop := fun _ _ => False
  ct : Sg → DH → Prop := fun _ _ => False
  er : String → List String → List D → Sg → DH → Prop := fun _ _ _ _ _ => False
abbrev TSD := KD → Sg → DH → Prop
abbrev SpD := List D → DH → VD → ED → Prop

/-! ## worlds: the frozen part, the places of the refs -/
section
variable (K : PySem.W.Frag) (mg : Str → Option Value)
/-- a tuple stands at a: tracked, or written with the module -/
def TupAt (F : Hp) (a : Addr) (xs : List V) : Prop :=
  (F a = some (.tup xs) ∨ ∃ o, F a = some (.frz o (.tup xs)) ∧ ∀ n, V.ty n ∉ xs) ∨
    ∃ (o : Obj) (its : Array Value) (n : Nat), K.lookup a = some o ∧ o.cls = .type "tuple" ∧ o.data = .seq its n ∧ its.size ≤ sizeLine ∧ Vals xs its.toList
/-- a pair of tuples of numbers stands at b -/
def PairAt (F : Hp) (b : Addr) (k : K2) : Prop := ∃ a1 a2, TupAt K F b [V.ref a1, V.ref a2] ∧ TupAt K F a1 (k.1.map .int) ∧ TupAt K F a2 (k.2.map .int)
inductive Rp (F : Hp) (m : List Addr) : V → D → Prop
  | non : Rp F m .non .non
  | bl (b : Bool) : Rp F m (.bl b) (.bl b)
  | int (i : Int) : Rp F m (.int i) (.int i)
  | str (x : Str) : Rp F m (.str x) (.str x)
  | ty (n : String) : Rp F m (.ty n) (.ty n)
  | tup {a : Addr} {vs : List V} {ds : List D} : TupAt K F a vs → Paired (Rp F m) vs ds → Rp F m (.ref a) (.tup ds)
  | tupx {a : Addr} {o : Obj} {vs : List V} {ds : List D} : F a = some (.frz o (.tup vs)) → o.cls = .type "tuple" → o.dict = none → Paired (Rp F m) vs ds → Rp F m (.ref a) (.tupx ds)
  | lst {a : Addr} {vs : List V} {ds : List D} : F a = some (.lst vs) → Paired (Rp F m) vs ds → Rp F m (.ref a) (.lst ds)
  | scr {a : Addr} {vs : List V} {ds : List D} : SqL K F a vs → Paired (Rp F m) vs ds → Rp F m (.ref a) (.scr ds)
  | dic {a : Addr} {ks : List Key} {vs : List V} {ds : List D} : ks.length = vs.length → F a = some (.dK (ks.zip vs)) → Paired (Rp F m) vs ds → Rp F m (.ref a) (.dic ks ds)
  | obj {a C dx : Addr} {c : String} {ns : List String} {vs : List V} {ds : List D} : ns.length = vs.length → F a = some (.ins C dx ((ns.map Str.ofString).zip vs)) → mg (Str.ofString c) = some (.ref C) → Paired (Rp F m) vs ds → Rp F m (.ref a) (.obj c ns ds)
  | ref {a : Addr} {n : Nat} : m[n]? = some a → Rp F m (.ref a) (.ref n)
  | glb {a : Addr} {x : String} : mg (Str.ofString x) = some (.ref a) → Rp F m (.ref a) (.glb x)
  | exc0 {a C : Addr} {nm : String} : mg (Str.ofString nm) = some (.ref C) → Rp F m (.ref a) (.exc a (.ref C) none nm [] [])
  | exc1 {a C d : Addr} {nm : String} {ns : List String} {vs : List V} {fs : List D} : mg (Str.ofString nm) = some (.ref C) → ns.length = vs.length → F d = some (.xd ((ns.map Str.ofString).zip vs)) → Paired (Rp F m) vs fs → Rp F m (.ref a) (.exc a (.ref C) (some d) nm ns fs)
  | lam {f c : Addr} {q : Str} {vs : List V} {ds : List D} : F c = some (LamX.CodeO c q) → Paired (Rp F m) vs ds → Rp F m (.ref f) (.lam f c q vs ds)
abbrev Rps (F : Hp) (m : List Addr) : List V → List D → Prop := Paired (Rp K mg F m)
/-- an object of the small heap -/
inductive Ro (F : Hp) (m : List Addr) : Addr → Option HO → O → Prop
  | dead {a : Addr} (o : Option HO) : Ro F m a o .dead
  | lst {a : Addr} {vs : List V} {ds : List D} : Rps K mg F m vs ds → Ro F m a (some (.lst vs)) (.lst ds)
  | dk {a : Addr} {ks : List Key} {vs : List V} {ds : List D} : ks.length = vs.length → Rps K mg F m vs ds → Ro F m a (some (.dK (ks.zip vs))) (.dk ks ds)
  | dkl {a : Addr} {od : Obj} {ks : List Key} {vs : List V} {ds : List D} : ks.length = vs.length → Rps K mg F m vs ds → Ro F m a (some (.frz od (.dK (ks.zip vs)))) (.dkl od ks vs ds)
  | ins {a : Addr} {C dx : Addr} {c : String} {ns : List String} {vs : List V} {ds : List D} : ns.length = vs.length → mg (Str.ofString c) = some (.ref C) → Rps K mg F m vs ds → Ro F m a (some (.ins C dx ((ns.map Str.ofString).zip vs))) (.ins c ns ds)
  | df {a : Addr} {ob : Obj} {es : Array DictEntry} {ep : Nat} {zs : List (List (Option Int) × Addr × Value)} {vs : List V} {ds : List D} : (a == sysModules) = false → ob.ExactDict → ob.data = .dict es ep → es.toList = zs.map entF → (zs.map (·.1)).Nodup → zs.length ≤ sizeLine →
      (∀ z ∈ zs, TupAt K F z.2.1 (z.1.map oV)) → Vals vs (zs.map (·.2.2)) → Rps K mg F m vs ds → Ro F m a (some (DFo a ob)) (.df (zs.map (·.1)) ds)
  | dn {a : Addr} {ob : Obj} {es : Array DictEntry} {ep : Nat} {zs : List (K2 × Addr × Value)} {vs : List V} {ds : List D} : (a == sysModules) = false → ob.ExactDict → ob.data = .dict es ep → es.toList = zs.map entN → (zs.map (·.1)).Nodup → zs.length ≤ sizeLine →
      (∀ z ∈ zs, PairAt K F z.2.1 z.1) → Vals vs (zs.map (·.2.2)) → Rps K mg F m vs ds → Ro F m a (some (DFo a ob)) (.dn (zs.map (·.1)) ds)
/-- the defs in which lambdas are made -/
class TB where
  T : List Str
def lamQ (x : Str) : Str := x ++ ".<locals>." ++ "<lambda>"
structure WLe (F : Hp) (m : List Addr) (F' : Hp) (m' : List Addr) : Prop where
  f : Same F F'
  m : ∃ k, m' = m ++ k
/-- the tables of code objects -/
structure TbOk [TB] (F H : Hp) : Prop where
  nf : ∀ a ps, F a ≠ some (.tbl ps)
  tb : ∀ x ∈ TB.T, ∀ c P, PySem.W.tabIn K x = some (c, P) → LamX.TabS H P (lamQ x)
structure Rel [TB] (G F : Hp) (m : List Addr) (h : DH) (H : Hp) : Prop where
  sg : Same G H
  gk : ∀ a o, G a = some o → ∃ xs, o = .lst xs
  gf : ∀ a o, G a = some o → F a = none
  gl : ∀ (n : Nat) (a : Addr) (o : O), m[n]? = some a → h[n]? = some o → o ≠ .dead → G a = none
  sf : Same F H
  ln : m.length = h.length
  lv : ∀ (n : Nat) (o : O), h[n]? = some o → o ≠ .dead → ∃ a, m[n]? = some a ∧ F a = none ∧ Ro K mg F m a (H a) o
  ij : ∀ (i j : Nat) (a : Addr) (o u : O), m[i]? = some a → m[j]? = some a → h[i]? = some o → h[j]? = some u → o ≠ .dead → u ≠ .dead → i = j
  tb : TbOk K F H
def SlR (F : Hp) (m : List Addr) : Option V → Option D → Prop
  | _, none => True
  | some v, some d => Rp K mg F m v d
  | none, some _ => False
abbrev SRel (F : Hp) (m : List Addr) : L2.St → Sg → Prop := Paired (SlR K mg F m)
/-- an exception: its class's name, its fields -/
def ExR (F : Hp) (m : List Addr) (H : Hp) (cls : Value) (dx : Option Addr) (nm : String) (ns : List String) (fs : List D) : Prop :=
  ∃ C, mg (Str.ofString nm) = some (.ref C) ∧ cls = .ref C ∧ ((ns = [] ∧ fs = [] ∧ dx = none) ∨
    ∃ a vs, ns.length = vs.length ∧ dx = some a ∧ H a = some (.xd ((ns.map Str.ofString).zip vs)) ∧ Rps K mg F m vs fs)
end
section
variable {K : PySem.W.Frag} {mg : Str → Option Value} {F F' F'' : Hp} {m m' m'' : List Addr} {h h' : DH} {H H' : Hp} {v : V} {d : D}
theorem WLe.refl : WLe F m F m := ⟨Same.refl F, [], by simp⟩
theorem WLe.trans (a : WLe F m F' m') (b : WLe F' m' F'' m'') : WLe F m F'' m'' := by
  obtain ⟨k, rfl⟩ := a.m
  obtain ⟨k', rfl⟩ := b.m
  exact ⟨a.f.trans b.f, k ++ k', by simp⟩
theorem WLe.get (a : WLe F m F' m') {n : Nat} {x : Addr} (e : m[n]? = some x) : m'[n]? = some x := by
  obtain ⟨k, rfl⟩ := a.m
  rw [List.getElem?_append_left (List.getElem?_eq_some_iff.mp e).1]; exact e
theorem tupAt_mono {a : Addr} {xs : List V} (e : Same F F') (x : TupAt K F a xs) : TupAt K F' a xs := x.elim (fun h => .inl (h.elim (fun h => .inl (e _ _ h)) fun ⟨o, h, z⟩ => .inr ⟨o, e _ _ h, z⟩)) .inr
theorem sqT_mono {a : Addr} {xs : List V} (e : Same F F') (x : TupAt K F a xs) : SqT K F' a xs := x.elim (fun h => .inl (h.elim (fun h => .inl (e _ _ h)) fun ⟨o, h, _⟩ => .inr ⟨o, e _ _ h⟩)) .inr
theorem sqL_mono {a : Addr} {xs : List V} (e : Same F F') (x : SqL K F a xs) : SqL K F' a xs := e.seq x
mutual
theorem Rp.mono (le : WLe F m F' m') : ∀ {v : V} {d : D}, Rp K mg F m v d → Rp K mg F' m' v d
  | _, _, .non => .non
  | _, _, .bl b => .bl b
  | _, _, .int i => .int i
  | _, _, .str x => .str x
  | _, _, .ty n => .ty n
  | _, _, .tup s p => .tup (tupAt_mono le.f s) (Rps.mono le p)
  | _, _, .tupx s c d p => .tupx (le.f _ _ s) c d (Rps.mono le p)
  | _, _, .lst s p => .lst (le.f _ _ s) (Rps.mono le p)
  | _, _, .scr s p => .scr (sqL_mono le.f s) (Rps.mono le p)
  | _, _, .dic e f p => .dic e (le.f _ _ f) (Rps.mono le p)
  | _, _, .obj e f g p => .obj e (le.f _ _ f) g (Rps.mono le p)
  | _, _, .ref e => .ref (le.get e)
  | _, _, .glb e => .glb e
  | _, _, .exc0 g => .exc0 g
  | _, _, .exc1 g e f p => .exc1 g e (le.f _ _ f) (Rps.mono le p)
  | _, _, .lam e p => .lam (le.f _ _ e) (Rps.mono le p)
theorem Rps.mono (le : WLe F m F' m') : ∀ {vs : List V} {ds : List D}, Paired (Rp K mg F m) vs ds → Paired (Rp K mg F' m') vs ds
  | _, _, .nil => .nil
  | _, _, .cons p r => .cons (Rp.mono le p) (Rps.mono le r)
end
theorem SlR.mono (le : WLe F m F' m') : ∀ {x : Option V} {d : Option D}, SlR K mg F m x d → SlR K mg F' m' x d
  | none, none, _ => True.intro
  | some _, none, _ => True.intro
  | some _, some _, h => Rp.mono le h
  | none, some _, h => h.elim
theorem SRel.mono (le : WLe F m F' m') : ∀ {σ : L2.St} {sd : Sg}, SRel K mg F m σ sd → SRel K mg F' m' σ sd
  | _, _, .nil => .nil
  | _, _, .cons p r => .cons (SlR.mono le p) (SRel.mono le r)
theorem pairAt_mono {a : Addr} {k : K2} (e : Same F F') (x : PairAt K F a k) : PairAt K F' a k := by
  obtain ⟨a1, a2, h1, h2, h3⟩ := x
  exact ⟨a1, a2, tupAt_mono e h1, tupAt_mono e h2, tupAt_mono e h3⟩
theorem Ro.mono (le : WLe F m F' m') {a : Addr} {x : Option HO} {o : O} (r : Ro K mg F m a x o) : Ro K mg F' m' a x o := by
  cases r with
  | dead => exact .dead _
  | lst p => exact .lst (Rps.mono le p)
  | dk e p => exact .dk e (Rps.mono le p)
  | dkl e p => exact .dkl e (Rps.mono le p)
  | ins e g p => exact .ins e g (Rps.mono le p)
  | df h1 h2 h3 h4 h5 h6 h7 h8 p => exact .df h1 h2 h3 h4 h5 h6 (fun z hz => tupAt_mono le.f (h7 z hz)) h8 (Rps.mono le p)
  | dn h1 h2 h3 h4 h5 h6 h7 h8 p => exact .dn h1 h2 h3 h4 h5 h6 (fun z hz => pairAt_mono le.f (h7 z hz)) h8 (Rps.mono le p)
theorem ExR.mono {cls dx nm ns fs} (le : WLe F m F' m') (x : ExR K mg F m H cls dx nm ns fs) : ExR K mg F' m' H cls dx nm ns fs := by
  obtain ⟨C, a, b, c⟩ := x
  refine ⟨C, a, b, ?_⟩
  rcases c with c | ⟨x, vs, e1, e2, e3, p⟩
  · exact .inl c
  · exact .inr ⟨x, vs, e1, e2, e3, Rps.mono le p⟩
theorem SRel.get : ∀ {σ : L2.St} {sd : Sg} {i : Nat} {d : D}, SRel K mg F m σ sd → sd[i]? = some (some d) → ∃ v, σ[i]? = some (some v) ∧ Rp K mg F m v d
  | _, _, 0, d, .cons (a := x) (b := y) p r, e => by
    have e' : y = some d := by simpa using e
    subst e'
    cases x with
    | none => exact p.elim
    | some v => exact ⟨v, rfl, p⟩
  | _, _, i + 1, d, .cons p r, e => by
    obtain ⟨v, a, b⟩ := SRel.get (i := i) (d := d) r (by simpa using e)
    exact ⟨v, by simpa using a, b⟩
  | _, _, i, d, .nil, e => by simp at e
theorem SRel.set {v : V} {d : D} (p : Rp K mg F m v d) : ∀ {σ : L2.St} {sd : Sg} (i : Nat), SRel K mg F m σ sd → SRel K mg F m (σ.set i (some v)) (sd.set i (some d))
  | _, _, _, .nil => .nil
  | _, _, 0, .cons _ r => .cons p r
  | _, _, i + 1, .cons q r => .cons q (SRel.set p i r)
theorem SRel.setN (x : Option V) : ∀ {σ : L2.St} {sd : Sg} (i : Nat), SRel K mg F m σ sd → SRel K mg F m (σ.set i x) (sd.set i none)
  | _, _, _, .nil => .nil
  | _, _, 0, .cons p r => .cons (by cases x <;> exact True.intro) r
  | _, _, i + 1, .cons q r => .cons q (SRel.setN x i r)
end
section
variable {K : PySem.W.Frag} {F F' H H' : Hp} {a P : Addr} {o u : HO} {q : Str} [TB]
theorem TabS.put (t : LamX.TabS H P q) (hu : H a = some u) (h1 : ∀ ps, u ≠ .tbl ps) (h2 : ∀ c q, u ≠ LamX.CodeO c q) : LamX.TabS (upd H a o) P q := by
  obtain ⟨ps, e1, e2, e3⟩ := t
  refine ⟨ps, ?_, e2, fun pos cv hc => ?_⟩
  · rw [upd_ne (fun z => h1 ps (by rw [z, hu] at e1; exact Option.some.inj e1))]; exact e1
  · obtain ⟨c, e4, e5⟩ := e3 pos cv hc
    refine ⟨c, e4, ?_⟩
    rw [upd_ne (fun z => h2 c q (by subst z; rw [hu] at e5; exact Option.some.inj e5))]; exact e5
theorem TbOk.ext (t : TbOk K F H) (e : ∀ b o, H b = some o → H' b = some o) : TbOk K F H' := ⟨t.nf, fun x hx c P h => (t.tb x hx c P h).ext e⟩
theorem TbOk.new (t : TbOk K F H) (hp : H a = none) : TbOk K F (upd H a o) := t.ext fun b u e => by rw [upd_ne (ne_of_none e hp)]; exact e
theorem TbOk.addF (t : TbOk K F H) (ho : ∀ ps, o ≠ .tbl ps) : TbOk K (upd F a o) H := ⟨fun b ps e => by
  by_cases hb : b = a
  · rw [hb, upd_same] at e
    exact ho ps (Option.some.inj e)
  · rw [upd_ne hb] at e
    exact t.nf b ps e, t.tb⟩
theorem TbOk.put (t : TbOk K F H) (hu : H a = some u) (h1 : ∀ ps, u ≠ .tbl ps) (h2 : ∀ c q, u ≠ LamX.CodeO c q) : TbOk K F (upd H a o) := ⟨t.nf, fun x hx c P h => TabS.put (t.tb x hx c P h) hu h1 h2⟩
end
end DL
end

section
set_option maxRecDepth 100000
set_option maxHeartbeats 4000000
namespace DL
open PySem PySem.Spec L2
variable [TB]
/-! ## what is wanted, said in worlds -/
section
variable (K : PySem.W.Frag) (mg : Str → Option Value) (G : Hp)
def QV (F : Hp) (m : List Addr) (Q : VD) : VK := fun v H' => ∃ F' m' h' d, WLe F m F' m' ∧ Rel K mg G F' m' h' H' ∧ Rp K mg F' m' v d ∧ Q d h'
def QL (F : Hp) (m : List Addr) (Q : LD) : List V → Hp → Prop := fun vs H' => ∃ F' m' h' ds, WLe F m F' m' ∧ Rel K mg G F' m' h' H' ∧ Rps K mg F' m' vs ds ∧ Q ds h'
def QB (F : Hp) (m : List Addr) (Q : Bool → DH → Prop) : Bool → Hp → Prop := fun b H' => ∃ F' m' h', WLe F m F' m' ∧ Rel K mg G F' m' h' H' ∧ Q b h'
def QE (F : Hp) (m : List Addr) (E : ED) : XK := fun cls dx H' => ∃ F' m' h' nm ns fs, WLe F m F' m' ∧ Rel K mg G F' m' h' H' ∧ ExR K mg F' m' H' cls dx nm ns fs ∧ E nm ns fs h'
def QS (F : Hp) (m : List Addr) (p : Sg → DH → Prop) : L2.St → Hp → Prop := fun σ' H' => ∃ F' m' sd' h', WLe F m F' m' ∧ Rel K mg G F' m' h' H' ∧ SRel K mg F' m' σ' sd' ∧ p sd' h'
def QX (F : Hp) (m : List Addr) (er : String → List String → List D → Sg → DH → Prop) : WX := fun cls dx σ' H' => ∃ F' m' sd' h' nm ns fs, WLe F m F' m' ∧ Rel K mg G F' m' h' H' ∧ SRel K mg F' m' σ' sd' ∧ ExR K mg F' m' H' cls dx nm ns fs ∧ er nm ns fs sd' h'
/-- where one stands -/
structure At (W : WX) (F : Hp) (m : List Addr) (sd : Sg) (h : DH) (σ : L2.St) (H : Hp) (E : ED) : Prop where
  R : Rel K mg G F m h H
  S : SRel K mg F m σ sd
  E : ∀ cls dx H', QE K mg G F m E cls dx H' → W cls dx σ H'
end
section
variable (K : PySem.W.Frag) (mg : Str → Option Value)
def LE (W : WX) (t : TED) : TE := fun σ H Q => ∃ G F m sd h QD E, At K mg G W F m sd h σ H E ∧ t sd h QD E ∧ ∀ v H', QV K mg G F m QD v H' → Q v H'
def LT (W : WX) (t : TTD) : TT := fun σ H Q => ∃ G F m sd h QD E, At K mg G W F m sd h σ H E ∧ t sd h QD E ∧ ∀ v H', QB K mg G F m QD v H' → Q v H'
def LA (W : WX) (n : Nat) (t : TAD) : TA := fun σ H Q => ∃ G F m sd h QD E, At K mg G W F m sd h σ H E ∧ t sd h QD E ∧ ∀ v H', v.length = n → QL K mg G F m QD v H' → Q v H'
structure AtS (G : Hp) (W : WX) (k : KD) (D : Ends) (F : Hp) (m : List Addr) : Prop where
  nx : ∀ σ' H', QS K mg G F m k.nx σ' H' → D.nx σ' H'
  rt : ∀ v H', QV K mg G F m k.rt v H' → D.rt v H'
  bk : ∀ σ' H', QS K mg G F m k.bk σ' H' → D.bk σ' H'
  ct : ∀ σ' H', QS K mg G F m k.ct σ' H' → D.ct σ' H'
  er : ∀ cls dx σ' H', QX K mg G F m k.er cls dx σ' H' → W cls dx σ' H'
def LS (W : WX) (t : TSD) : TS := fun D σ H => ∃ G F m sd h k, Rel K mg G F m h H ∧ SRel K mg F m σ sd ∧ t k sd h ∧ AtS K mg G W k D F m
end
section
variable {K : PySem.W.Frag} {mg : Str → Option Value} {G F F' F'' : Hp} {m m' m'' : List Addr} {h h' : DH} {H H' : Hp} {v : V} {d : D} {sd : Sg} {σ : L2.St} {W : WX}
theorem QV.mono {Q : VD} (le : WLe F m F' m') (q : QV K mg G F' m' Q v H) : QV K mg G F m Q v H := by
  obtain ⟨F1, m1, h1, d, l, a⟩ := q; exact ⟨F1, m1, h1, d, le.trans l, a⟩
theorem QL.mono {Q : LD} {vs} (le : WLe F m F' m') (q : QL K mg G F' m' Q vs H) : QL K mg G F m Q vs H := by
  obtain ⟨F1, m1, h1, d, l, a⟩ := q; exact ⟨F1, m1, h1, d, le.trans l, a⟩
theorem QB.mono {Q b} (le : WLe F m F' m') (q : QB K mg G F' m' Q b H) : QB K mg G F m Q b H := by
  obtain ⟨F1, m1, h1, l, a⟩ := q; exact ⟨F1, m1, h1, le.trans l, a⟩
theorem QE.mono {E cls dx} (le : WLe F m F' m') (q : QE K mg G F' m' E cls dx H) : QE K mg G F m E cls dx H := by
  obtain ⟨F1, m1, h1, a, b, c, l, r⟩ := q; exact ⟨F1, m1, h1, a, b, c, le.trans l, r⟩
theorem QS.mono {p} (le : WLe F m F' m') (q : QS K mg G F' m' p σ H) : QS K mg G F m p σ H := by
  obtain ⟨F1, m1, s1, h1, l, a⟩ := q; exact ⟨F1, m1, s1, h1, le.trans l, a⟩
theorem QX.mono {E cls dx} (le : WLe F m F' m') (q : QX K mg G F' m' E cls dx σ H) : QX K mg G F m E cls dx σ H := by
  obtain ⟨F1, m1, s1, h1, a, b, c, l, r⟩ := q; exact ⟨F1, m1, s1, h1, a, b, c, le.trans l, r⟩
theorem At.mv {E : ED} (a : At K mg G W F m sd h σ H E) (le : WLe F m F' m') (R : Rel K mg G F' m' h' H') : At K mg G W F' m' sd h' σ H' E :=
  ⟨R, a.S.mono le, fun c dx H' q => a.E c dx H' (q.mono le)⟩
theorem AtS.mv {k : KD} {D : Ends} (a : AtS K mg G W k D F m) (le : WLe F m F' m') : AtS K mg G W k D F' m' :=
  ⟨fun s H q => a.nx s H (q.mono le), fun s H q => a.rt s H (q.mono le), fun s H q => a.bk s H (q.mono le), fun s H q => a.ct s H (q.mono le), fun c d s H q => a.er c d s H (q.mono le)⟩
/-- the first part, then the rest -/
theorem LE.step {t : TED} {QD : VD} {E : ED} {Q : VK} (a : At K mg G W F m sd h σ H E) (ht : t sd h QD E)
    (k : ∀ F' m' h' H' v d, WLe F m F' m' → At K mg G W F' m' sd h' σ H' E → Rp K mg F' m' v d → QD d h' → Q v H') : LE K mg W t σ H Q :=
  ⟨G, F, m, sd, h, QD, E, a, ht, fun v H' ⟨F', m', h', d, le, R, rp, q⟩ => k F' m' h' H' v d le (a.mv le R) rp q⟩
theorem LA.step {n : Nat} {t : TAD} {QD : LD} {E : ED} {Q : List V → Hp → Prop} (a : At K mg G W F m sd h σ H E) (ht : t sd h QD E)
    (k : ∀ F' m' h' H' v d, v.length = n → WLe F m F' m' → At K mg G W F' m' sd h' σ H' E → Rps K mg F' m' v d → QD d h' → Q v H') : LA K mg W n t σ H Q :=
  ⟨G, F, m, sd, h, QD, E, a, ht, fun v H' hn ⟨F', m', h', d, le, R, rp, q⟩ => k F' m' h' H' v d hn le (a.mv le R) rp q⟩
theorem LT.step {t : TTD} {QD : Bool → DH → Prop} {E : ED} {Q : Bool → Hp → Prop} (a : At K mg G W F m sd h σ H E) (ht : t sd h QD E)
    (k : ∀ F' m' h' H' b, WLe F m F' m' → At K mg G W F' m' sd h' σ H' E → QD b h' → Q b H') : LT K mg W t σ H Q :=
  ⟨G, F, m, sd, h, QD, E, a, ht, fun v H' ⟨F', m', h', le, R, q⟩ => k F' m' h' H' v le (a.mv le R) q⟩
/-- a new frozen object -/
theorem Rel.newF {a : Addr} {o : HO} (R : Rel K mg G F m h H) (hp : H a = none) (ho : ∀ ps, o ≠ .tbl ps := by exact fun _ q => nomatch q) : WLe F m (upd F a o) m ∧ Rel K mg G (upd F a o) m h (upd H a o) := by
  have fa : F a = none := by
    cases e : F a with
    | none => rfl
    | some u => exact absurd (R.sf _ _ e) (by rw [hp]; exact fun q => nomatch q)
  have le : WLe F m (upd F a o) m := ⟨fun b u e => by rw [upd_ne (ne_of_none e fa)]; exact e, [], by simp⟩
  refine ⟨le, ⟨fun b u e => ?_, R.gk, fun b u e => ?_, R.gl, fun b u e => ?_, R.ln, fun n u e ne => ?_, R.ij, (R.tb.new hp).addF ho⟩⟩
  · rw [upd_ne (ne_of_none (R.sg _ _ e) hp)]; exact R.sg _ _ e
  · rw [upd_ne (ne_of_none (R.sg _ _ e) hp)]; exact R.gf _ _ e
  · by_cases hb : b = a
    · subst hb; rw [upd_same] at e ⊢; exact e
    · rw [upd_ne hb] at e ⊢; exact R.sf _ _ e
  · obtain ⟨x, e1, e2, r⟩ := R.lv n u e ne
    have hx : x ≠ a := by
      rintro rfl
      rw [hp] at r
      cases r; exact ne rfl
    exact ⟨x, e1, by rw [upd_ne hx]; exact e2, by rw [upd_ne hx]; exact r.mono le⟩
/-- a new object of the small heap -/
theorem Rel.newR {a : Addr} {o : HO} {u : O} (R : Rel K mg G F m h H) (hp : H a = none) (r : Ro K mg F m a (some o) u) (hu : u ≠ .dead) : WLe F m F (m ++ [a]) ∧ Rel K mg G F (m ++ [a]) (h ++ [u]) (upd H a o) := by
  have fa : F a = none := by
    cases e : F a with
    | none => rfl
    | some u => exact absurd (R.sf _ _ e) (by rw [hp]; exact fun q => nomatch q)
  have le : WLe F m F (m ++ [a]) := ⟨Same.refl F, [a], rfl⟩
  have old : ∀ {n : Nat} {x : O}, h[n]? = some x → x ≠ .dead → ∃ y, m[n]? = some y ∧ y ≠ a := fun {n x} e ne => by
    obtain ⟨y, e1, e2, r0⟩ := R.lv n x e ne
    refine ⟨y, e1, ?_⟩
    rintro rfl
    rw [hp] at r0
    cases r0; exact ne rfl
  have sp : ∀ {n : Nat} {x : O}, (h ++ [u])[n]? = some x → h[n]? = some x ∨ (n = h.length ∧ x = u) := fun {n x} e => by
    by_cases hn : n < h.length
    · rw [List.getElem?_append_left hn] at e; exact .inl e
    · have hn' : h.length ≤ n := Nat.le_of_not_lt hn
      rw [List.getElem?_append_right hn'] at e
      have z := (List.getElem?_eq_some_iff.mp e).1
      simp only [List.length_singleton] at z
      have n0 : n - h.length = 0 := by omega
      rw [n0] at e
      exact .inr ⟨by omega, (by simpa using e : u = x).symm⟩
  have ga : G a = none := by
    cases e : G a with
    | none => rfl
    | some u => exact absurd (R.sg _ _ e) (by rw [hp]; exact fun q => nomatch q)
  refine ⟨le, ⟨fun b z e => ?_, R.gk, R.gf, fun n y x e1 e2 ne => ?_, fun b z e => ?_, by simp [R.ln], fun n x e ne => ?_, fun i j y o1 o2 e1 e2 g1 g2 n1 n2 => ?_, R.tb.new hp⟩⟩
  · rw [upd_ne (ne_of_none (R.sg _ _ e) hp)]; exact R.sg _ _ e
  · rcases sp e2 with e2 | ⟨rfl, rfl⟩
    · obtain ⟨y', e1', _⟩ := old e2 ne
      rw [le.get e1'] at e1; cases e1
      exact R.gl _ _ _ e1' e2 ne
    · rw [← R.ln] at e1
      have : (m ++ [a])[m.length]? = some a := by simp
      rw [this] at e1; cases e1; exact ga
  · rw [upd_ne (ne_of_none e fa)]; exact R.sf _ _ e
  · rcases sp e with e | ⟨rfl, rfl⟩
    · obtain ⟨y, e1, e2, r⟩ := R.lv n x e ne
      obtain ⟨y', e1', hy⟩ := old e ne
      rw [e1] at e1'; cases e1'
      exact ⟨y, le.get e1, e2, by rw [upd_ne hy]; exact r.mono le⟩
    · refine ⟨a, ?_, fa, by rw [upd_same]; exact r.mono le⟩
      rw [← R.ln]; simp
  · have fn : ∀ {k : Nat}, k = h.length → (m ++ [a])[k]? = some a := fun {k} hk => by rw [hk, ← R.ln]; simp
    rcases sp g1 with g1 | ⟨rfl, rfl⟩
    · obtain ⟨y1, a1, b1⟩ := old g1 n1
      rw [le.get a1] at e1; cases e1
      rcases sp g2 with g2 | ⟨rfl, rfl⟩
      · obtain ⟨y2, a2, b2⟩ := old g2 n2
        rw [le.get a2] at e2; cases e2
        exact R.ij i j _ _ _ a1 a2 g1 g2 n1 n2
      · rw [fn rfl] at e2; cases e2; exact absurd rfl b1
    · rw [fn rfl] at e1; cases e1
      rcases sp g2 with g2 | ⟨rfl, rfl⟩
      · obtain ⟨y2, a2, b2⟩ := old g2 n2
        rw [le.get a2] at e2; cases e2; exact absurd rfl b2
      · rfl
/-- an object of the small heap is written -/
theorem Rel.put {n : Nat} {a : Addr} {o : HO} {x u : O} (R : Rel K mg G F m h H) (hn : h[n]? = some x) (hx : x ≠ .dead) (ha : m[n]? = some a) (r : Ro K mg F m a (some o) u) : Rel K mg G F m (h.set n u) (upd H a o) := by
  obtain ⟨a', e1, fa, rOld⟩ := R.lv n x hn hx
  rw [ha] at e1; cases e1
  have tbn : TbOk K F (upd H a o) := by
    generalize eo : H a = ho at rOld
    cases rOld with
    | dead => exact absurd rfl hx
    | df _ _ hd => exact R.tb.put eo (fun _ q => nomatch q) (fun _ _ => dfo_code hd)
    | dn _ _ hd => exact R.tb.put eo (fun _ q => nomatch q) (fun _ _ => dfo_code hd)
    | _ => exact R.tb.put eo (fun _ q => nomatch q) (fun _ _ q => by unfold LamX.CodeO at q; exact nomatch q)
  have hl := (List.getElem?_eq_some_iff.mp hn).1
  have sp : ∀ {k : Nat} {y : O}, (h.set n u)[k]? = some y → (k = n ∧ y = u) ∨ (k ≠ n ∧ h[k]? = some y) := fun {k y} e => by
    by_cases hk : k = n
    · subst hk; rw [List.getElem?_set_self hl] at e; exact .inl ⟨rfl, (Option.some.inj e).symm⟩
    · rw [List.getElem?_set_ne (Ne.symm hk)] at e; exact .inr ⟨hk, e⟩
  have q : ∀ {k : Nat} {y : O}, (h.set n u)[k]? = some y → y ≠ .dead → ∃ z, h[k]? = some z ∧ z ≠ .dead := fun {k y} e ne => by
    rcases sp e with ⟨rfl, rfl⟩ | ⟨_, e⟩
    · exact ⟨x, hn, hx⟩
    · exact ⟨y, e, ne⟩
  have ga := R.gl n a x ha hn hx
  refine ⟨fun b z e => ?_, R.gk, R.gf, fun k y z e1 e2 ne => ?_, fun b z e => ?_, by simp [R.ln], fun k y e ne => ?_, fun i j y o1 o2 e1 e2 g1 g2 n1 n2 => ?_, tbn⟩
  · rw [upd_ne (ne_of_none e ga)]; exact R.sg _ _ e
  · obtain ⟨z', p, r⟩ := q e2 ne
    exact R.gl k y z' e1 p r
  · rw [upd_ne (ne_of_none e fa)]; exact R.sf _ _ e
  · rcases sp e with ⟨rfl, rfl⟩ | ⟨hk, e⟩
    · exact ⟨a, ha, fa, by rw [upd_same]; exact r⟩
    · obtain ⟨y', e1, e2, r'⟩ := R.lv k y e ne
      have hy : y' ≠ a := by
        rintro rfl
        exact hk (R.ij k n _ _ _ e1 ha e hn ne hx)
      exact ⟨y', e1, e2, by rw [upd_ne hy]; exact r'⟩
  · obtain ⟨z1, p1, q1⟩ := q g1 n1
    obtain ⟨z2, p2, q2⟩ := q g2 n2
    exact R.ij i j _ _ _ e1 e2 p1 p2 q1 q2
/-- a list of the small heap is frozen -/
theorem Rel.freeze {n : Nat} {xs : List D} (R : Rel K mg G F m h H) (hn : h[n]? = some (.lst xs)) : ∃ a vs, m[n]? = some a ∧ Rps K mg F m vs xs ∧ WLe F m (upd F a (.lst vs)) m ∧ Rel K mg G (upd F a (.lst vs)) m (h.set n .dead) H ∧ Rp K mg (upd F a (.lst vs)) m (.ref a) (.lst xs) := by
  obtain ⟨a, ha, fa, r⟩ := R.lv n _ hn (fun q => nomatch q)
  generalize e : H a = o at r
  cases r with
  | lst p =>
    rename_i vs
    have le : WLe F m (upd F a (.lst vs)) m := ⟨fun b u e => by rw [upd_ne (ne_of_none e fa)]; exact e, [], by simp⟩
    have ga := R.gl n a _ ha hn (fun q => nomatch q)
    have hl := (List.getElem?_eq_some_iff.mp hn).1
    have old : ∀ {k : Nat} {y : O}, (h.set n .dead)[k]? = some y → y ≠ .dead → h[k]? = some y := fun {k y} g ne => by
      by_cases hk : k = n
      · subst hk; rw [List.getElem?_set_self hl] at g; exact absurd (Option.some.inj g).symm ne
      · rw [List.getElem?_set_ne (Ne.symm hk)] at g; exact g
    refine ⟨a, vs, ha, p, le, ⟨R.sg, R.gk, fun b u q => ?_, fun k y z e1 e2 ne => R.gl k y z e1 (old e2 ne) ne, fun b u q => ?_, by simp [R.ln], fun k y g ne => ?_, fun i j y o1 o2 e1 e2 g1 g2 n1 n2 => ?_, R.tb.addF (fun _ q => nomatch q)⟩, .lst upd_same (Rps.mono le p)⟩
    · rw [upd_ne (ne_of_none q ga)]; exact R.gf _ _ q
    · by_cases hb : b = a
      · subst hb; rw [upd_same] at q; rw [e]; exact q
      · rw [upd_ne hb] at q; exact R.sf _ _ q
    · by_cases hk : k = n
      · subst hk; rw [List.getElem?_set_self hl] at g; exact absurd (Option.some.inj g).symm ne
      · rw [List.getElem?_set_ne (Ne.symm hk)] at g
        obtain ⟨y', e1, e2, r'⟩ := R.lv k y g ne
        have hy : y' ≠ a := by
          rintro rfl
          exact hk (R.ij k n _ _ _ e1 ha g hn ne (fun q => nomatch q))
        exact ⟨y', e1, by rw [upd_ne hy]; exact e2, r'.mono le⟩
    · exact R.ij i j _ _ _ e1 e2 (old g1 n1) (old g2 n2) n1 n2
end
/-! ## the judgements -/
section
variable (X : Cx) (W : WX)
def DE (e : Expr) (t : TED) : Prop := PE X e (LE X.K X.mg W t)
def DT (e : Expr) (t : TTD) : Prop := PT X e (LT X.K X.mg W t)
def DW (e : Expr) (t : TTD) : Prop := PW X e (LT X.K X.mg W t)
def DA (es : List Expr) (t : TAD) : Prop := PA X es (LA X.K X.mg W es.length t)
def DS (s : Stmt) (t : TSD) : Prop := PS X s (LS X.K X.mg W t)
def DSs (s : List Stmt) (t : TSD) : Prop := PSs X s (LS X.K X.mg W t)
end
theorem PE.imp {X : Cx} {e : Expr} {t t' : TE} (p : PE X e t) (h : ∀ σ H Q, t' σ H Q → t σ H Q) : PE X e t' := ⟨fun pins s σ H Q I q => p.run pins s σ H Q I (h σ H Q q)⟩
theorem PT.imp {X : Cx} {e : Expr} {t t' : TT} (p : PT X e t) (h : ∀ σ H Q, t' σ H Q → t σ H Q) : PT X e t' := ⟨fun pins s σ H Q I q => p.run pins s σ H Q I (h σ H Q q)⟩
theorem PW.imp {X : Cx} {e : Expr} {t t' : TT} (p : PW X e t) (h : ∀ σ H Q, t' σ H Q → t σ H Q) : PW X e t' := ⟨fun wh pins s σ H Q I q => p.run wh pins s σ H Q I (h σ H Q q)⟩
theorem PA.imp {X : Cx} {e : List Expr} {t t' : TA} (p : PA X e t) (h : ∀ σ H Q, t' σ H Q → t σ H Q) : PA X e t' := ⟨fun pos pins s σ H Q I q => p.run pos pins s σ H Q I (h σ H Q q)⟩
theorem PS.imp {X : Cx} {e : Stmt} {t t' : TS} (p : PS X e t) (h : ∀ D σ H, t' D σ H → t D σ H) : PS X e t' := ⟨fun pins s σ H D I q => p.run pins s σ H D I (h D σ H q)⟩
theorem PSs.imp {X : Cx} {e : List Stmt} {t t' : TS} (p : PSs X e t) (h : ∀ D σ H, t' D σ H → t D σ H) : PSs X e t' := ⟨fun pins s σ H D I q => p.run pins s σ H D I (h D σ H q)⟩
end DL
end

section
set_option maxRecDepth 100000
set_option maxHeartbeats 4000000
namespace DL
open PySem PySem.Spec L2
variable [TB]
/-! ## names, constants -/
def eVar (i : Nat) : TED := fun sd h Q _ => match sd[i]? with | some (some d) => Q d h | _ => False
def eC (d : D) : TED := fun _ h Q _ => Q d h
section
variable {X : Cx} {W : WX}
theorem At.out {K mg} {G F F' : Hp} {m m' : List Addr} {h' : DH} {H' : Hp} {QD : VD} {Q : VK} {v : V} {d : D} (hQ : ∀ v H', QV K mg G F m QD v H' → Q v H') (le : WLe F m F' m') (R : Rel K mg G F' m' h' H') (rp : Rp K mg F' m' v d) (q : QD d h') : Q v H' :=
  hQ _ _ ⟨F', m', h', d, le, R, rp, q⟩
theorem de_const {e : Expr} {v : V} {d : D} (p : PE X e (tC v)) (r : ∀ F m, Rp X.K X.mg F m v d) : DE X W e (eC d) := PE.imp p fun σ H Q ⟨G, F, m, sd, h, QD, E, a, t, hQ⟩ =>
  hQ _ _ ⟨F, m, h, d, WLe.refl, a.R, r F m, t⟩
theorem de_var {i : Nat} {x : Str} {pos : Pos} (hN : X.N[i]? = some x) (hv : Vis X.env.scope x) (hd : (x == ("__debug__" : Str)) = false := by decide) (hcd : (x == ("__classdict__" : Str)) = false := by decide) : DE X W (.Name x pos) (eVar i) :=
  PE.imp (pe_var hN hv hd hcd) fun σ H Q ⟨G, F, m, sd, h, QD, E, a, t, hQ⟩ => by
    unfold eVar at t
    split at t
    · rename_i d e
      obtain ⟨v, e1, rp⟩ := a.S.get e
      exact ⟨v, e1, hQ _ _ ⟨F, m, h, d, WLe.refl, a.R, rp, t⟩⟩
    · exact t.elim
/-- the name that stands in the i-th slot -/
theorem dv (i : Nat) {x : Str} {pos : Pos} (hN : X.N[i]? = some x := by rfl) (hv : Vis X.env.scope x := by first | exact Or.inl rfl | exact Or.inr (Or.inl rfl) | exact Or.inr (Or.inr rfl)) (hd : (x == ("__debug__" : Str)) = false := by decide)
    (hcd : (x == ("__classdict__" : Str)) = false := by decide) : DE X W (.Name x pos) (eVar i) := de_var hN hv hd hcd
theorem de_int {i j pos} : DE X W (.Constant (.int i) j pos) (eC (.int i)) := de_const pe_int fun _ _ => .int _
theorem de_bl {b j pos} : DE X W (.Constant (.bool b) j pos) (eC (.bl b)) := de_const pe_bl fun _ _ => .bl _
theorem de_non {j pos} : DE X W (.Constant .none j pos) (eC .non) := de_const pe_non fun _ _ => .non
theorem de_str {x j pos} : DE X W (.Constant (.str x) j pos) (eC (.str x)) := de_const pe_str fun _ _ => .str _
/-- a module's constant, a class, a function, as a value -/
theorem de_glob {x : Str} {v : V} {u : Value} {d : D} {pos : Pos} (hg : Gl X x) (hm : X.mg x = some u) (r : RelV v u) (rd : ∀ F m, Rp X.K X.mg F m v d) (hd : (x == ("__debug__" : Str)) = false := by decide) : DE X W (.Name x pos) (eC d) :=
  de_const (pe_glob hg hm r hd) rd
theorem de_ty {x : Str} {n : String} {pos : Pos} (hg : Gl X x) (hm : X.mg x = none) (hv : bootBuiltins x = some (.type n)) (hn : x ≠ "__name__" := by decide) (hd : (x == ("__debug__" : Str)) = false := by decide) : DE X W (.Name x pos) (eC (.ty n)) :=
  de_const (pe_bltn (v := .ty n) hg hm hv rfl hn hd) fun _ _ => .ty n
end
/-! ## operations on two values -/
def eOp2 (f : D → D → DH → VD → Prop) (ta tb : TED) : TED := fun sd h Q E => ta sd h (fun x h1 => tb sd h1 (fun y h2 => f x y h2 Q) E) E
def eOp1 (f : D → DH → VD → Prop) (ta : TED) : TED := fun sd h Q E => ta sd h (fun x h1 => f x h1 Q) E
abbrev F2 := D → D → DH → VD → Prop
section
variable (X : Cx)
def OpD (r : R2) (f : F2) : Prop := ∀ (G F : Hp) (m : List Addr) (h : DH) (H : Hp) (x y : V) (d e : D) (QD : VD) (Q : VK), Rel X.K X.mg G F m h H → Rp X.K X.mg F m x d → Rp X.K X.mg F m y e → f d e h QD → (∀ v H', QV X.K X.mg G F m QD v H' → Q v H') → r x y H Q
def OpDD (g : Value → Value → Sem Value) (f : F2) : Prop := ∃ r, OpR X g r ∧ OpD X r f
end
section
variable {X : Cx} {W : WX} {a b c : Expr} {ta tb tc : TED} {pos : Pos} {f g : F2}
theorem LE.two {K mg} {W : WX} {R : V → V → Hp → Prop} {G F m sd h σ H E} {QD : VD} (at_ : At K mg G W F m sd h σ H E) (ht : ta sd h (fun x h1 => tb sd h1 (fun y h2 => f x y h2 QD) E) E)
    (k : ∀ F' m' h' H' x y d e, WLe F m F' m' → At K mg G W F' m' sd h' σ H' E → Rp K mg F' m' x d → Rp K mg F' m' y e → f d e h' QD → R x y H') :
    LE K mg W ta σ H fun x H1 => LE K mg W tb σ H1 fun y H2 => R x y H2 :=
  LE.step at_ ht fun F1 m1 h1 H1 x d le1 a1 rp1 t1 => LE.step a1 t1 fun F2 m2 h2 H2 y e le2 a2 rp2 t2 => k F2 m2 h2 H2 x y d e (le1.trans le2) a2 (rp1.mono le2) rp2 t2
theorem de_op2 {op : Operator} (o : OpDD X (binaryOp op) f) (ha : DE X W a ta) (hb : DE X W b tb) : DE X W (.BinOp a op b pos) (eOp2 f ta tb) := by
  obtain ⟨r, ho, hf⟩ := o
  exact PE.imp (pe_op ho ha hb) fun σ H Q ⟨G, F, m, sd, h, QD, E, at_, t, hQ⟩ => LE.two at_ t fun F' m' h' H' x y d e le a' rx ry q => hf _ _ _ _ _ _ _ _ _ _ _ a'.R rx ry q fun v H' qv => hQ _ _ (qv.mono le)
theorem de_cmp {op : CmpOp} (o : OpDD X (compareOp op) f) (ha : DE X W a ta) (hb : DE X W b tb) (hm : behindInMarks op b = false := by first | exact nomark _ | rfl | with_unfolding_all rfl) : DE X W (.Compare a [op] [b] pos) (eOp2 f ta tb) := by
  obtain ⟨r, ho, hf⟩ := o
  exact PE.imp (pe_cmpR ho ha hb hm) fun σ H Q ⟨G, F, m, sd, h, QD, E, at_, t, hQ⟩ => LE.two at_ t fun F' m' h' H' x y d e le a' rx ry q => hf _ _ _ _ _ _ _ _ _ _ _ a'.R rx ry q fun v H' qv => hQ _ _ (qv.mono le)
/-- a op b op' c -/
def eChain (f g : F2) (ta tb tc : TED) : TED := fun sd h Q E => ta sd h (fun x h1 => tb sd h1 (fun y h2 => f x y h2 fun z h3 => match z with
  | .bl true => tc sd h3 (fun w h4 => g y w h4 Q) E
  | .bl false => Q (.bl false) h3
  | _ => False) E) E
theorem de_chain {op op' : CmpOp} (o : OpDD X (compareOp op) f) (o' : OpDD X (compareOp op') g) (ha : DE X W a ta) (hb : DE X W b tb) (hc : DE X W c tc) (hm : lastMarks [op, op'] [b, c] = false := by with_unfolding_all rfl) :
    DE X W (.Compare a [op, op'] [b, c] pos) (eChain f g ta tb tc) := by
  obtain ⟨r, ho, hf⟩ := o
  obtain ⟨r', ho', hf'⟩ := o'
  refine PE.imp (pe_chain ho ho' ha hb hc hm) fun σ H Q ⟨G, F, m, sd, h, QD, E, at_, t, hQ⟩ => ?_
  refine LE.step at_ t fun F1 m1 h1 H1 x d le1 a1 rp1 t1 => LE.step a1 t1 fun F2 m2 h2 H2 y e le2 a2 rp2 t2 => ?_
  refine hf _ _ _ _ _ _ _ _ _ _ _ a2.R (rp1.mono le2) rp2 t2 fun v H' ⟨F3, m3, h3, z, le3, R3, rz, q⟩ => ?_
  cases rz with
  | bl k =>
    refine ⟨k, rfl, ?_⟩
    cases k with
    | true =>
      rw [if_pos rfl]
      exact LE.step (a2.mv le3 R3) q fun F4 m4 h4 H4 w' u le4 a4 rp4 t4 => hf' _ _ _ _ _ _ _ _ _ _ _ a4.R (rp2.mono (le3.trans le4)) rp4 t4 fun v H' qv => hQ _ _ (qv.mono (le1.trans (le2.trans (le3.trans le4))))
    | false =>
      rw [if_neg Bool.false_ne_true]
      exact hQ _ _ ⟨F3, m3, h3, _, le1.trans (le2.trans le3), R3, .bl false, q⟩
  | _ => exact q.elim
end
/-! ## the items of a list or tuple -/
def itemsOf (d : D) (h : DH) : Option (List D) := match d with
  | .tup xs => some xs
  | .lst xs => some xs
  | .scr xs => some xs
  | .ref n => match h[n]? with
    | some (.lst xs) => some xs
    | _ => none
  | _ => none
section
variable {K : PySem.W.Frag} {mg : Str → Option Value} {G F : Hp} {m : List Addr} {h : DH} {H : Hp} {v : V} {d : D}
theorem Rel.lst (R : Rel K mg G F m h H) {n : Nat} {xs : List D} (e : h[n]? = some (.lst xs)) : ∃ a vs, m[n]? = some a ∧ F a = none ∧ H a = some (.lst vs) ∧ Rps K mg F m vs xs := by
  obtain ⟨a, e1, e2, r⟩ := R.lv n _ e (fun q => nomatch q)
  generalize z : H a = o at r
  cases r with
  | lst p => exact ⟨a, _, e1, e2, z, p⟩
theorem Rel.items (R : Rel K mg G F m h H) (r : Rp K mg F m v d) {xs : List D} (e : itemsOf d h = some xs) : ∃ a vs, v = .ref a ∧ (SqL K H a vs ∨ SqT K H a vs) ∧ Rps K mg F m vs xs := by
  cases r with
  | tup s p => cases e; exact ⟨_, _, rfl, .inr (sqT_mono R.sf s), p⟩
  | lst s p => cases e; exact ⟨_, _, rfl, .inl (.inl (.inl (R.sf _ _ s))), p⟩
  | scr s p => cases e; exact ⟨_, _, rfl, .inl (sqL_mono R.sf s), p⟩
  | ref hn =>
    simp only [itemsOf] at e
    split at e
    · rename_i n ys q
      cases e
      obtain ⟨a', vs, e1, _, e3, p⟩ := R.lst q
      rw [hn] at e1; cases e1
      exact ⟨_, vs, rfl, .inl (.inl (.inl e3)), p⟩
    · exact nomatch e
  | _ => exact nomatch e
theorem Paired.len {α β : Type} {G : α → β → Prop} {l₁ : List α} {l₂ : List β} (p : Paired G l₁ l₂) : l₁.length = l₂.length := Paired.length p
theorem Rps.get : ∀ {vs : List V} {ds : List D} {i : Nat} {d : D}, Rps K mg F m vs ds → ds[i]? = some d → ∃ v, vs[i]? = some v ∧ Rp K mg F m v d
  | _, _, 0, d, .cons p r, e => by cases e; exact ⟨_, rfl, p⟩
  | _, _, i + 1, d, .cons p r, e => by
    obtain ⟨v, a, b⟩ := Rps.get (i := i) r (by simpa using e)
    exact ⟨v, by simpa using a, b⟩
  | _, _, i, d, .nil, e => by simp at e
theorem Rps.getV : ∀ {vs : List V} {ds : List D} {i : Nat} {v : V}, Rps K mg F m vs ds → vs[i]? = some v → ∃ d, ds[i]? = some d ∧ Rp K mg F m v d
  | _, _, 0, d, .cons p r, e => by cases e; exact ⟨_, rfl, p⟩
  | _, _, i + 1, d, .cons p r, e => by
    obtain ⟨v, a, b⟩ := Rps.getV (i := i) r (by simpa using e)
    exact ⟨v, by simpa using a, b⟩
  | _, _, i, d, .nil, e => by simp at e
theorem Rps.app : ∀ {vs ws : List V} {ds es : List D}, Rps K mg F m vs ds → Rps K mg F m ws es → Rps K mg F m (vs ++ ws) (ds ++ es)
  | _, _, _, _, .nil, s => s
  | _, _, _, _, .cons p r, s => .cons p (Rps.app r s)
theorem Rps.take : ∀ {vs : List V} {ds : List D} (n : Nat), Rps K mg F m vs ds → Rps K mg F m (vs.take n) (ds.take n)
  | _, _, 0, _ => .nil
  | _, _, _ + 1, .nil => .nil
  | _, _, n + 1, .cons p r => .cons p (Rps.take n r)
theorem Rps.drop : ∀ {vs : List V} {ds : List D} (n : Nat), Rps K mg F m vs ds → Rps K mg F m (vs.drop n) (ds.drop n)
  | _, _, 0, r => r
  | _, _, _ + 1, .nil => .nil
  | _, _, n + 1, .cons p r => Rps.drop n r
theorem Rps.set {v : V} {d : D} (p : Rp K mg F m v d) : ∀ {vs : List V} {ds : List D} (n : Nat), Rps K mg F m vs ds → Rps K mg F m (vs.set n v) (ds.set n d)
  | _, _, _, .nil => .nil
  | _, _, 0, .cons _ r => .cons p r
  | _, _, n + 1, .cons q r => .cons q (Rps.set p n r)
theorem Rps.dropLast : ∀ {vs : List V} {ds : List D}, Rps K mg F m vs ds → Rps K mg F m vs.dropLast ds.dropLast
  | _, _, .nil => .nil
  | _, _, .cons p .nil => .nil
  | _, _, .cons p (.cons q r) => .cons p (Rps.dropLast (.cons q r))
theorem Rps.eraseIdx : ∀ {vs : List V} {ds : List D} (n : Nat), Rps K mg F m vs ds → Rps K mg F m (vs.eraseIdx n) (ds.eraseIdx n)
  | _, _, _, .nil => .nil
  | _, _, 0, .cons _ r => r
  | _, _, n + 1, .cons q r => .cons q (Rps.eraseIdx n r)
theorem Rps.snoc {v : V} {d : D} {vs : List V} {ds : List D} (r : Rps K mg F m vs ds) (p : Rp K mg F m v d) : Rps K mg F m (vs ++ [v]) (ds ++ [d]) := r.app (.cons p .nil)
theorem Rps.reverse : ∀ {vs : List V} {ds : List D}, Rps K mg F m vs ds → Rps K mg F m vs.reverse ds.reverse
  | _, _, .nil => .nil
  | _, _, .cons q r => by rw [List.reverse_cons, List.reverse_cons]; exact (Rps.reverse r).snoc q
theorem Rps.rep {vs : List V} {ds : List D} (r : Rps K mg F m vs ds) : ∀ k : Nat, Rps K mg F m (List.replicate k vs).flatten (List.replicate k ds).flatten
  | 0 => .nil
  | k + 1 => by simpa [List.replicate_succ] using r.app (Rps.rep r k)
theorem Rps.ints : ∀ {vs : List V} {ns : List Int}, Rps K mg F m vs (ns.map D.int) → vs = ns.map V.int
  | _, [], .nil => rfl
  | _, _ :: _, .cons p r => by cases p; rw [Rps.ints r]; rfl
theorem Rps.bls : ∀ {vs : List V} {ns : List Bool}, Rps K mg F m vs (ns.map D.bl) → vs = ns.map V.bl
  | _, [], .nil => rfl
  | _, _ :: _, .cons p r => by cases p; rw [Rps.bls r]; rfl
theorem Rps.of_ints : ∀ ns : List Int, Rps K mg F m (ns.map V.int) (ns.map D.int)
  | [] => .nil
  | _ :: r => .cons (.int _) (Rps.of_ints r)
theorem Rps.strs : ∀ {vs : List V} {ns : List Str}, Rps K mg F m vs (ns.map D.str) → vs = ns.map V.str
  | _, [], .nil => rfl
  | _, _ :: _, .cons p r => by cases p; rw [Rps.strs r]; rfl
theorem Rps.of_strs : ∀ ns : List Str, Rps K mg F m (ns.map V.str) (ns.map D.str)
  | [] => .nil
  | _ :: r => .cons (.str _) (Rps.of_strs r)
/-- a new tuple, a new list -/
theorem Rel.tupN {p : Addr} {vs : List V} {ds : List D} (R : Rel K mg G F m h H) (hp : H p = none) (r : Rps K mg F m vs ds) : ∃ F', WLe F m F' m ∧ Rel K mg G F' m h (upd H p (.tup vs)) ∧ Rp K mg F' m (.ref p) (.tup ds) := by
  obtain ⟨le, R'⟩ := R.newF (o := .tup vs) hp
  exact ⟨_, le, R', .tup (.inl (.inl upd_same)) (Rps.mono le r)⟩
theorem Rel.lstN {p : Addr} {vs : List V} {ds : List D} (R : Rel K mg G F m h H) (hp : H p = none) (r : Rps K mg F m vs ds) : ∃ F', WLe F m F' m ∧ Rel K mg G F' m h (upd H p (.lst vs)) ∧ Rp K mg F' m (.ref p) (.lst ds) := by
  obtain ⟨le, R'⟩ := R.newF (o := .lst vs) hp
  exact ⟨_, le, R', .lst upd_same (Rps.mono le r)⟩
theorem Rel.refN {p : Addr} {vs : List V} {ds : List D} (R : Rel K mg G F m h H) (hp : H p = none) (r : Rps K mg F m vs ds) : ∃ m', WLe F m F m' ∧ Rel K mg G F m' (h ++ [.lst ds]) (upd H p (.lst vs)) ∧ Rp K mg F m' (.ref p) (.ref h.length) := by
  obtain ⟨le, R'⟩ := R.newR (o := .lst vs) (u := .lst ds) hp (.lst r) (fun q => nomatch q)
  exact ⟨_, le, R', .ref (by rw [← R.ln]; simp)⟩
end
/-! ## arithmetic -/
def catD (xs ys : List D) (h : DH) (k : List D → DH → Prop) : Prop := xs.length + ys.length ≤ sizeLine ∧ k (xs ++ ys) h
/-- the items of a list (no tuple) -/
def lstOf (d : D) (h : DH) : Option (List D) := match d with
  | .lst xs => some xs
  | .ref n => match h[n]? with
    | some (.lst xs) => some xs
    | _ => none
  | _ => none
def dAdd : F2 := fun x y h Q => match x, y with
  | .int i, .int j => Q (.int (i + j)) h
  | .str i, .str j => i.length + j.length ≤ sizeLine ∧ Q (.str (i ++ j)) h
  | .tup xs, .tup ys => xs.length + ys.length ≤ sizeLine ∧ Q (.tup (xs ++ ys)) h
  | x, y => match lstOf x h, lstOf y h with
    | some xs, some ys => xs.length + ys.length ≤ sizeLine ∧ Q (.lst (xs ++ ys)) h
    | _, _ => False
def dInt (f : Int → Int → Int) : F2 := fun x y h Q => match x, y with
  | .int i, .int j => Q (.int (f i j)) h
  | _, _ => False
def dIntC (C : Int → Int → Prop) (f : Int → Int → Int) : F2 := fun x y h Q => match x, y with
  | .int i, .int j => C i j ∧ Q (.int (f i j)) h
  | _, _ => False
def dIntB (f : Int → Int → Bool) : F2 := fun x y h Q => match x, y with
  | .int i, .int j => Q (.bl (f i j)) h
  | _, _ => False
def dSub : F2 := dInt fun i j => i - j
def dFdiv : F2 := dIntC CDivN Int.fdiv
def dMod : F2 := dIntC (fun _ j => j ≠ 0) Int.fmod
def dPow : F2 := dIntC CPow fun i j => i ^ j.toNat
def dAnd : F2 := dInt Builtin.bitAnd
def dOr : F2 := dInt Builtin.bitOr
def dLt : F2 := dIntB fun i j => decide (i < j)
def dLe : F2 := dIntB fun i j => decide (i ≤ j)
def dGt : F2 := dIntB fun i j => decide (j < i)
def dGe : F2 := dIntB fun i j => decide (j ≤ i)
def dMul : F2 := fun x y h Q => match x, y with
  | .int i, .int j => CMul i j ∧ Q (.int (i * j)) h
  | x, .int k => match lstOf x h with
    | some xs => k < 2 ^ 20 ∧ -(2 ^ 20) < k ∧ xs.length * k.toNat ≤ sizeLine ∧ Q (.lst (List.replicate k.toNat xs).flatten) h
    | none => False
  | _, _ => False
section
variable {X : Cx}
theorem Rel.lstOf {K mg G F m h H v d} {xs : List D} (R : Rel K mg G F m h H) (r : Rp K mg F m v d) (e : DL.lstOf d h = some xs) : ∃ a vs, v = .ref a ∧ H a = some (.lst vs) ∧ Rps K mg F m vs xs := by
  cases r with
  | lst s p => cases e; exact ⟨_, _, rfl, R.sf _ _ s, p⟩
  | ref hn =>
    simp only [DL.lstOf] at e
    split at e
    · rename_i n ys q
      cases e
      obtain ⟨a', vs, e1, _, e3, p⟩ := R.lst q
      rw [hn] at e1; cases e1
      exact ⟨_, vs, rfl, e3, p⟩
    · exact nomatch e
  | _ => exact nomatch e
theorem do_int {g : Value → Value → Sem Value} {f : Int → Int → Int} (o : OpR X g (rI0 fun i j => .int (f i j))) : OpDD X g (dInt f) := ⟨_, o, fun G F m h H x y d e QD Q R rx ry q hQ => by
  unfold dInt at q
  split at q
  · cases rx; cases ry; exact ⟨_, _, rfl, rfl, hQ _ _ ⟨F, m, h, _, WLe.refl, R, .int _, q⟩⟩
  · exact q.elim⟩
theorem do_intB {g : Value → Value → Sem Value} {f : Int → Int → Bool} (o : OpR X g (rI0 fun i j => .bl (f i j))) : OpDD X g (dIntB f) := ⟨_, o, fun G F m h H x y d e QD Q R rx ry q hQ => by
  unfold dIntB at q
  split at q
  · cases rx; cases ry; exact ⟨_, _, rfl, rfl, hQ _ _ ⟨F, m, h, _, WLe.refl, R, .bl _, q⟩⟩
  · exact q.elim⟩
theorem do_intC {g : Value → Value → Sem Value} {C : Int → Int → Prop} {f : Int → Int → Int} (o : OpR X g (rI C fun i j => .int (f i j))) : OpDD X g (dIntC C f) := ⟨_, o, fun G F m h H x y d e QD Q R rx ry q hQ => by
  unfold dIntC at q
  split at q
  · cases rx; cases ry; exact ⟨_, _, rfl, rfl, q.1, hQ _ _ ⟨F, m, h, _, WLe.refl, R, .int _, q.2⟩⟩
  · exact q.elim⟩
theorem do_sub : OpDD X (binaryOp .Sub) dSub := do_int op_sub
theorem do_fdiv : OpDD X (binaryOp .FloorDiv) dFdiv := do_intC op_fdivN
theorem do_mod : OpDD X (binaryOp .Mod) dMod := do_intC op_modN
theorem do_pow : OpDD X (binaryOp .Pow) dPow := do_intC op_pow
theorem do_lt : OpDD X (compareOp .Lt) dLt := do_intB op_lt
theorem do_le : OpDD X (compareOp .LtE) dLe := do_intB op_le
theorem do_gt : OpDD X (compareOp .Gt) dGt := do_intB op_gt
theorem do_ge : OpDD X (compareOp .GtE) dGe := do_intB op_ge
end
end DL
end

section
set_option maxRecDepth 100000
set_option maxHeartbeats 4000000
namespace DL
open PySem PySem.Spec L2
variable [TB]
section
variable {X : Cx}
theorem OpDD.of {g : Value → Value → Sem Value} {f : F2} (r : R2) (o : OpR X g r) (h : OpD X r f) : OpDD X g f := ⟨r, o, h⟩
theorem do_add : OpDD X (binaryOp .Add) dAdd := by
  refine .of _ (OpR.or (op_add (X := X)) (OpR.or op_add_str (OpR.or op_catA op_cat))) fun G F m h H x y d e QD Q R rx ry q hQ => ?_
  unfold dAdd at q
  split at q
  · cases rx; cases ry; exact .inl ⟨_, _, rfl, rfl, hQ _ _ ⟨F, m, h, _, WLe.refl, R, .int _, q⟩⟩
  · cases rx; cases ry; exact .inr (.inl ⟨_, _, rfl, rfl, q.1, hQ _ _ ⟨F, m, h, _, WLe.refl, R, .str _, q.2⟩⟩)
  · refine .inr (.inr (.inl ?_))
    cases rx with
    | tup s1 p1 =>
      cases ry with
      | tup s2 p2 =>
        have l1 := Paired.len p1
        have l2 := Paired.len p2
        refine ⟨_, _, _, _, rfl, rfl, sqT_mono R.sf s1, sqT_mono R.sf s2, by rw [l1, l2]; exact q.1, fun e => ?_, fun _ e => ?_, fun _ _ p hp => ?_⟩
        · subst e
          cases p1
          exact hQ _ _ ⟨F, m, h, _, WLe.refl, R, .tup s2 p2, q.2⟩
        · subst e
          cases p2
          rw [List.append_nil] at q
          exact hQ _ _ ⟨F, m, h, _, WLe.refl, R, .tup s1 p1, q.2⟩
        · obtain ⟨F', le, R', rp⟩ := R.tupN hp (Rps.app p1 p2)
          exact hQ _ _ ⟨F', m, h, _, le, R', rp, q.2⟩
  · split at q
    · rename_i xs ys e1 e2
      obtain ⟨a, vs, rfl, h1, p1⟩ := R.lstOf rx e1
      obtain ⟨b, ws, rfl, h2, p2⟩ := R.lstOf ry e2
      refine .inr (.inr (.inr ⟨_, _, _, _, rfl, rfl, h1, h2, by rw [Paired.len p1, Paired.len p2]; exact q.1, fun p hp => ?_⟩))
      obtain ⟨F', le, R', rp⟩ := R.lstN hp (Rps.app p1 p2)
      exact hQ _ _ ⟨F', m, h, _, le, R', rp, q.2⟩
    · exact q.elim
theorem do_mul : OpDD X (binaryOp .Mult) dMul := by
  refine .of _ (OpR.or (op_mul (X := X)) op_rep) fun G F m h H x y d e QD Q R rx ry q hQ => ?_
  unfold dMul at q
  split at q
  · cases rx; cases ry; exact .inl ⟨_, _, rfl, rfl, q.1, hQ _ _ ⟨F, m, h, _, WLe.refl, R, .int _, q.2⟩⟩
  · split at q
    · rename_i xs e1
      obtain ⟨a, vs, rfl, h1, p1⟩ := R.lstOf rx e1
      cases ry
      refine .inr ⟨_, _, _, rfl, rfl, h1, by omega, by omega, by rw [Paired.len p1]; exact q.2.2.1, fun p hp => ?_⟩
      obtain ⟨F', le, R', rp⟩ := R.lstN hp (Rps.rep p1 _)
      exact hQ _ _ ⟨F', m, h, _, le, R', rp, q.2.2.2⟩
    · exact q.elim
  · exact q.elim
end
/-! ## == of data -/
mutual
def pyOf : D → Option PyData
  | .non => some .none
  | .bl b => some (.bool b)
  | .int i => some (.int i)
  | .str x => some (.str x)
  | .tup xs => (pysOf xs).map .tuple
  | .lst xs => (pysOf xs).map .list
  | _ => none
def pysOf : List D → Option (List PyData)
  | [] => some []
  | x :: r => (pyOf x).bind fun a => (pysOf r).map fun b => a :: b
end
def pyTop (h : DH) (d : D) : Option PyData := match d with
  | .ref n => match h[n]? with
    | some (.lst xs) => (pysOf xs).map .list
    | _ => none
  | d => pyOf d
def dEq : F2 := fun x y h Q => match pyTop h x, pyTop h y with
  | some a, some b => SeqAt.shaped a = true ∧ SeqAt.shaped b = true ∧ Q (.bl (PyData.eqv a b)) h
  | _, _ => False
def dNe : F2 := fun x y h Q => match pyTop h x, pyTop h y with
  | some a, some b => SeqAt.shaped a = true ∧ SeqAt.shaped b = true ∧ Q (.bl (!PyData.eqv a b)) h
  | _, _ => False
section
variable {K : PySem.W.Frag} {mg : Str → Option Value} {G F : Hp} {m : List Addr} {h : DH} {H : Hp}
mutual
theorem Rp.dp (sf : Same F H) : ∀ {v : V} {d : D} {p : PyData}, Rp K mg F m v d → pyOf d = some p → Dp K H v p
  | _, _, _, .non, e => by simp only [pyOf] at e; cases e; exact .non
  | _, _, _, .bl _, e => by simp only [pyOf] at e; cases e; exact .bl _
  | _, _, _, .int _, e => by simp only [pyOf] at e; cases e; exact .int _
  | _, _, _, .str _, e => by simp only [pyOf] at e; cases e; exact .str _
  | _, .tup ds, _, .tup s r, e => by
    simp only [pyOf, Option.map_eq_some_iff] at e
    obtain ⟨ps, e1, rfl⟩ := e
    exact .tup (sqT_mono sf s) (Rps.dp sf r e1)
  | _, .lst ds, _, .lst s r, e => by
    simp only [pyOf, Option.map_eq_some_iff] at e
    obtain ⟨ps, e1, rfl⟩ := e
    exact .lst (.inl (.inl (sf _ _ s))) (Rps.dp sf r e1)
  | _, _, _, .ty _, e => by simp only [pyOf] at e; cases e
  | _, _, _, .tupx _ _ _ _, e => by simp only [pyOf] at e; cases e
  | _, _, _, .scr _ _, e => by simp only [pyOf] at e; cases e
  | _, _, _, .dic _ _ _, e => by simp only [pyOf] at e; cases e
  | _, _, _, .obj _ _ _ _, e => by simp only [pyOf] at e; cases e
  | _, _, _, .ref _, e => by simp only [pyOf] at e; cases e
  | _, _, _, .glb _, e => by simp only [pyOf] at e; cases e
  | _, _, _, .exc0 _, e => by simp only [pyOf] at e; cases e
  | _, _, _, .exc1 _ _ _ _, e => by simp only [pyOf] at e; cases e
  | _, _, _, .lam _ _, e => by simp only [pyOf] at e; cases e
theorem Rps.dp (sf : Same F H) : ∀ {vs : List V} {ds : List D} {ps : List PyData}, Paired (Rp K mg F m) vs ds → pysOf ds = some ps → DpAll K H vs ps
  | _, _, _, .nil, e => by simp only [pysOf] at e; cases e; exact .nil
  | _, _ :: _, _, .cons p r, e => by
    simp only [pysOf, Option.bind_eq_some_iff, Option.map_eq_some_iff] at e
    obtain ⟨a, e1, b, e2, rfl⟩ := e
    exact .cons (Rp.dp sf p e1) (Rps.dp sf r e2)
end
theorem Rel.dp {v : V} {d : D} {p : PyData} (R : Rel K mg G F m h H) (r : Rp K mg F m v d) (e : pyTop h d = some p) : Dp K H v p := by
  unfold pyTop at e
  split at e
  · rename_i n
    split at e
    · rename_i xs q
      cases r with
      | ref hn =>
        obtain ⟨a', vs, e1, _, e3, p⟩ := R.lst q
        rw [hn] at e1; cases e1
        rw [Option.map_eq_some_iff] at e
        obtain ⟨ps, e1, rfl⟩ := e
        exact .lst (.inl (.inl e3)) (Rps.dp R.sf p e1)
    · cases e
  · exact Rp.dp R.sf r e
end
section
variable {X : Cx}
theorem do_eq (hu : X.A.units + 64 < cLine) : OpDD X (compareOp .Eq) dEq := .of _ (op_eqD hu) fun G F m h H x y d e QD Q R rx ry q hQ => by
  unfold dEq at q
  split at q
  · rename_i a b e1 e2
    exact ⟨a, b, R.dp rx e1, R.dp ry e2, q.1, q.2.1, hQ _ _ ⟨F, m, h, _, WLe.refl, R, .bl _, q.2.2⟩⟩
  · exact q.elim
theorem do_ne (hu : X.A.units + 64 < cLine) : OpDD X (compareOp .NotEq) dNe := .of _ (op_neD hu) fun G F m h H x y d e QD Q R rx ry q hQ => by
  unfold dNe at q
  split at q
  · rename_i a b e1 e2
    exact ⟨a, b, R.dp rx e1, R.dp ry e2, q.1, q.2.1, hQ _ _ ⟨F, m, h, _, WLe.refl, R, .bl _, q.2.2⟩⟩
  · exact q.elim
end
/-! ## is -/
def isNon : D → Bool
  | .non => true
  | _ => false
def dIs (neg : Bool) : F2 := fun x y h Q => match y with
  | .non => Q (.bl (if neg then !isNon x else isNon x)) h
  | .bl b => match x with
    | .bl a => Q (.bl (if neg then !decide (a = b) else decide (a = b))) h
    | _ => False
  | _ => False
section
variable {X : Cx}
theorem Rp.isNon {K mg} {F : Hp} {m : List Addr} {v : V} {d : D} (r : Rp K mg F m v d) : decide (v = .non) = DL.isNon d := by
  cases r <;> first | rfl | exact decide_eq_false (fun q => nomatch q)
theorem do_is : OpDD X (compareOp .Is) (dIs false) := .of _ (OpR.or op_isN op_isBl) fun G F m h H x y d e QD Q R rx ry q hQ => by
  unfold dIs at q
  split at q
  · cases ry
    refine .inl ⟨rfl, ?_⟩
    rw [rx.isNon]
    exact hQ _ _ ⟨F, m, h, _, WLe.refl, R, .bl _, q⟩
  · split at q
    · cases rx; cases ry; exact .inr ⟨_, _, rfl, rfl, hQ _ _ ⟨F, m, h, _, WLe.refl, R, .bl _, q⟩⟩
    · exact q.elim
  · exact q.elim
theorem do_isnot : OpDD X (compareOp .IsNot) (dIs true) := .of _ (OpR.or op_notN op_notBl) fun G F m h H x y d e QD Q R rx ry q hQ => by
  unfold dIs at q
  split at q
  · cases ry
    refine .inl ⟨rfl, ?_⟩
    rw [rx.isNon]
    exact hQ _ _ ⟨F, m, h, _, WLe.refl, R, .bl _, q⟩
  · split at q
    · cases rx; cases ry; exact .inr ⟨_, _, rfl, rfl, hQ _ _ ⟨F, m, h, _, WLe.refl, R, .bl _, q⟩⟩
    · exact q.elim
  · exact q.elim
end
/-! ## in -/
def flatD : D → Bool
  | .non => true
  | .bl _ => true
  | .int _ => true
  | .str _ => true
  | _ => false
def eqF : D → D → Bool
  | .non, .non => true
  | .bl a, .bl b => a == b
  | .bl a, .int b => (if a then 1 else 0) == b
  | .int a, .bl b => a == (if b then 1 else 0)
  | .int a, .int b => a == b
  | .str a, .str b => a == b
  | _, _ => false
def toKey : D → Option Key
  | .int i => some (.inl i)
  | .str x => some (.inr x)
  | _ => none
def dkOf (d : D) (h : DH) : Option (List Key × List D) := match d with
  | .dic ks xs => some (ks, xs)
  | .ref n => match h[n]? with
    | some (.dk ks xs) => some (ks, xs)
    | some (.dkl _ ks _ xs) => some (ks, xs)
    | _ => none
  | _ => none
/-- what a dict holds -/
def dget {κ : Type} [DecidableEq κ] : List κ → List D → κ → Option D
  | k :: ks, x :: xs, j => if k = j then some x else dget ks xs j
  | _, _, _ => none
def hasK {κ : Type} [DecidableEq κ] (ks : List κ) (k : κ) : Bool := ks.any fun j => decide (j = k)
theorem hasK_iff {κ : Type} [DecidableEq κ] {ks : List κ} {k : κ} : hasK ks k = true ↔ k ∈ ks := by
  unfold hasK
  rw [List.any_eq_true]
  exact ⟨fun ⟨x, a, b⟩ => (of_decide_eq_true b) ▸ a, fun q => ⟨k, q, decide_eq_true rfl⟩⟩
def dIn (neg : Bool) : F2 := fun x y h Q => match itemsOf y h with
  | some xs => flatD x = true ∧ xs.all flatD = true ∧ Q (.bl (if neg then !xs.any fun z => eqF z x else xs.any fun z => eqF z x)) h
  | none => match dkOf y h, toKey x with
    | some (ks, _), some k => Q (.bl (if neg then !hasK ks k else hasK ks k)) h
    | _, _ => match x, y with
      | .str i, .str j => Q (.bl (if neg then (Builtin.Str.occurrences j i 0 j.length 1).isEmpty else !(Builtin.Str.occurrences j i 0 j.length 1).isEmpty)) h
      | _, _ => False
section
variable {K : PySem.W.Frag} {mg : Str → Option Value} {G F : Hp} {m : List Addr} {h : DH} {H : Hp}
theorem Rp.flat {v : V} {d : D} (r : Rp K mg F m v d) : flatV v = flatD d := by cases r <;> rfl
theorem Rps.flat : ∀ {vs : List V} {ds : List D}, Rps K mg F m vs ds → vs.all flatV = ds.all flatD
  | _, _, .nil => rfl
  | _, _, .cons p r => by rw [List.all_cons, List.all_cons, p.flat, Rps.flat r]
theorem Rp.eqF {v w : V} {d e : D} (r : Rp K mg F m v d) (s : Rp K mg F m w e) : eqV v w = DL.eqF d e := by
  cases r <;> cases s <;> rfl
theorem Rps.inV {v : V} {d : D} (s : Rp K mg F m v d) : ∀ {vs : List V} {ds : List D}, Rps K mg F m vs ds → inV v vs = ds.any fun z => DL.eqF z d
  | _, _, .nil => rfl
  | _, _, .cons p r => by
    have := Rps.inV s r
    unfold L2.inV at this ⊢
    rw [List.any_cons, List.any_cons, p.eqF s, this]
theorem Rp.key {v : V} {d : D} {k : Key} (r : Rp K mg F m v d) (e : toKey d = some k) : v = kV k := by
  cases r <;> first | (cases e; rfl) | cases e
theorem valV_zip {κ : Type} [DecidableEq κ] : ∀ {ks : List κ} {vs : List V} {ds : List D} (k : κ), ks.length = vs.length → Rps K mg F m vs ds →
    (k ∈ ks → ∃ v d, valV (ks.zip vs) k = some v ∧ dget ks ds k = some d ∧ Rp K mg F m v d) ∧ (k ∉ ks → valV (ks.zip vs) k = none ∧ dget ks ds k = none)
  | [], [], _, k, _, .nil => ⟨fun q => (by cases q), fun _ => ⟨rfl, rfl⟩⟩
  | j :: ks, v :: vs, _, k, e, .cons (b := d) (l₂ := ds) p r => by
    have ih := valV_zip (ks := ks) k (by simpa using e) r
    by_cases hk : j = k
    · subst hk
      refine ⟨fun _ => ⟨v, d, ?_, ?_, p⟩, fun q => absurd List.mem_cons_self q⟩
      · simp [valV]
      · simp [dget]
    · have hv : valV ((j, v) :: ks.zip vs) k = valV (ks.zip vs) k := by simp [valV, hk]
      have hd : dget (j :: ks) (d :: ds) k = dget ks ds k := by simp [dget, hk]
      have e1 : (j :: ks).zip (v :: vs) = (j, v) :: ks.zip vs := rfl
      rw [e1, hv, hd]
      refine ⟨fun q => ih.1 ((List.mem_cons.mp q).resolve_left (Ne.symm hk)), fun q => ih.2 (fun z => q (List.mem_cons_of_mem _ z))⟩
theorem Rel.dk (R : Rel K mg G F m h H) {v : V} {d : D} {ks : List Key} {xs : List D} (r : Rp K mg F m v d) (e : dkOf d h = some (ks, xs)) : ∃ a vs, v = .ref a ∧ Rd H a (.dK (ks.zip vs)) ∧ ks.length = vs.length ∧ Rps K mg F m vs xs := by
  cases r with
  | dic a b c => cases e; exact ⟨_, _, rfl, .inl (R.sf _ _ b), a, c⟩
  | ref hn =>
    simp only [dkOf] at e
    split at e
    · rename_i n ks' ys q
      cases e
      obtain ⟨a, e1, e2, r⟩ := R.lv _ _ q (fun q => nomatch q)
      rw [hn] at e1; cases e1
      generalize z : H _ = o at r
      cases r with
      | dk a b => exact ⟨_, _, rfl, .inl z, a, b⟩
    · rename_i n od ks' ws ys q
      cases e
      obtain ⟨a, e1, e2, r⟩ := R.lv _ _ q (fun q => nomatch q)
      rw [hn] at e1; cases e1
      generalize z : H _ = o at r
      cases r with
      | dkl a b => exact ⟨_, _, rfl, .inr ⟨_, z⟩, a, b⟩
    · cases e
  | _ => cases e
end
section
variable {X : Cx}
theorem op_in_dict (hu : X.A.units + 1 < cLine) : OpR X (compareOp .In) (fun x y H Q => ∃ a o, y = .ref a ∧ DGet H a x o ∧ Q (.bl o.isSome) H) := fun pins s σ H x y v u Q I rx ry ⟨a, o, e, g, q⟩ => by
  subst e
  cases (show u = Value.ref a from ry)
  exact d_in hu I g rx fun s' I' => ⟨.bl o.isSome, H, I', rfl, q⟩
theorem op_notin_dict (hu : X.A.units + 1 < cLine) : OpR X (compareOp .NotIn) (fun x y H Q => ∃ a o, y = .ref a ∧ DGet H a x o ∧ Q (.bl (!o.isSome)) H) := fun pins s σ H x y v u Q I rx ry ⟨a, o, e, g, q⟩ => by
  subst e
  cases (show u = Value.ref a from ry)
  exact d_notIn hu I g rx fun s' I' => ⟨.bl (!o.isSome), H, I', rfl, q⟩
theorem isSome_dget {K mg} {F : Hp} {m : List Addr} {ks : List Key} {vs : List V} {ds : List D} (k : Key) (e : ks.length = vs.length) (r : Rps K mg F m vs ds) : (valV (ks.zip vs) k).isSome = hasK ks k := by
  obtain ⟨h1, h2⟩ := valV_zip (K := K) (mg := mg) (F := F) (m := m) k e r
  by_cases hk : k ∈ ks
  · obtain ⟨v, d, e1, _⟩ := h1 hk
    rw [e1, hasK_iff.mpr hk]; rfl
  · rw [(h2 hk).1, Bool.eq_false_iff.mpr (fun q => hk (hasK_iff.mp q))]; rfl
theorem do_in (hu : X.A.units + 64 < cLine) : OpDD X (compareOp .In) (dIn false) := .of _ (OpR.or op_in_seq (OpR.or (op_in_dict (by omega)) op_in_str)) fun G F m h H x y d e QD Q R rx ry q hQ => by
  unfold dIn at q
  split at q
  · rename_i xs e1
    obtain ⟨a, vs, rfl, hs, p⟩ := R.items ry e1
    refine .inl ⟨a, vs, rfl, hs, by rw [rx.flat]; exact q.1, by rw [Rps.flat p]; exact q.2.1, ?_⟩
    show Q (.bl (L2.inV x vs)) H
    rw [Rps.inV rx p]
    exact hQ _ _ ⟨F, m, h, _, WLe.refl, R, .bl _, q.2.2⟩
  · split at q
    · rename_i ks xs k e1 e2
      obtain ⟨a, vs, rfl, hs, el, p⟩ := R.dk ry e1
      refine .inr (.inl ⟨a, _, rfl, .inl ⟨_, k, hs, rx.key e2, rfl⟩, ?_⟩)
      rw [isSome_dget k el p]
      exact hQ _ _ ⟨F, m, h, _, WLe.refl, R, .bl _, q⟩
    · split at q
      · cases rx; cases ry; exact .inr (.inr ⟨_, _, rfl, rfl, hQ _ _ ⟨F, m, h, _, WLe.refl, R, .bl _, q⟩⟩)
      · exact q.elim
theorem do_notin (hu : X.A.units + 64 < cLine) : OpDD X (compareOp .NotIn) (dIn true) := .of _ (OpR.or op_notIn_seq (OpR.or (op_notin_dict (by omega)) op_notin_str)) fun G F m h H x y d e QD Q R rx ry q hQ => by
  unfold dIn at q
  split at q
  · rename_i xs e1
    obtain ⟨a, vs, rfl, hs, p⟩ := R.items ry e1
    refine .inl ⟨a, vs, rfl, hs, by rw [rx.flat]; exact q.1, by rw [Rps.flat p]; exact q.2.1, ?_⟩
    show Q (.bl (!L2.inV x vs)) H
    rw [Rps.inV rx p]
    exact hQ _ _ ⟨F, m, h, _, WLe.refl, R, .bl _, q.2.2⟩
  · split at q
    · rename_i ks xs k e1 e2
      obtain ⟨a, vs, rfl, hs, el, p⟩ := R.dk ry e1
      refine .inr (.inl ⟨a, _, rfl, .inl ⟨_, k, hs, rx.key e2, rfl⟩, ?_⟩)
      rw [isSome_dget k el p]
      exact hQ _ _ ⟨F, m, h, _, WLe.refl, R, .bl _, q⟩
    · split at q
      · cases rx; cases ry
        refine .inr (.inr ⟨_, _, rfl, rfl, hQ _ _ ⟨F, m, h, _, WLe.refl, R, .bl _, ?_⟩⟩)
        rw [Bool.not_not]; exact q
      · exact q.elim
end
end DL
end

section
set_option maxRecDepth 100000
set_option maxHeartbeats 4000000
namespace DL
open PySem PySem.Spec L2
variable [TB]
/-! ## tests -/
def tTst (t : TED) : TTD := fun sd h Q E => t sd h (fun d h' => match d with | .bl b => Q b h' | _ => False) E
def tNotD (t : TTD) : TTD := fun sd h Q E => t sd h (fun b h' => Q (!b) h') E
def tAndD (t u : TTD) : TTD := fun sd h Q E => t sd h (fun b h' => if b = true then u sd h' Q E else Q false h') E
def tOrD (t u : TTD) : TTD := fun sd h Q E => t sd h (fun b h' => if b = true then Q true h' else u sd h' Q E) E
def eNotV (t : TED) : TED := fun sd h Q E => t sd h (fun d h' => match d with | .bl b => Q (.bl (!b)) h' | _ => False) E
def eAndV (t u : TED) : TED := fun sd h Q E => t sd h (fun d h' => match d with | .bl true => u sd h' Q E | .bl false => Q (.bl false) h' | _ => False) E
def eOrV (t u : TED) : TED := fun sd h Q E => t sd h (fun d h' => match d with | .bl true => Q (.bl true) h' | .bl false => u sd h' Q E | _ => False) E
def eIf (c : TTD) (t u : TED) : TED := fun sd h Q E => c sd h (fun b h' => if b = true then t sd h' Q E else u sd h' Q E) E
section
variable {X : Cx} {W : WX} {a b c : Expr} {rest : List Expr} {ta tb tc : TED} {tA tB : TTD} {pos : Pos}
theorem QV.bl {K mg} {G F : Hp} {m : List Addr} {Q : Bool → DH → Prop} {v : V} {H : Hp} (q : QV K mg G F m (fun d h' => match d with | .bl b => Q b h' | _ => False) v H) : ∃ k, v = .bl k ∧ QB K mg G F m Q k H := by
  obtain ⟨F', m', h', d, le, R, rp, q⟩ := q
  cases rp with
  | bl k => exact ⟨k, rfl, F', m', h', le, R, q⟩
  | _ => exact q.elim
theorem dt_val (h : DE X W a ta) (he : ∀ whole, isTrue a X.env whole = (do let v ← whole; standAt a.pos; holding [v] (truthy v)) := by intro _; rfl) : DT X W a (tTst ta) :=
  PT.imp (pt_val h he) fun σ H Q ⟨G, F, m, sd, h, QD, E, at_, t, hQ⟩ => ⟨G, F, m, sd, h, _, E, at_, t, fun v H' q => by
    obtain ⟨k, rfl, z⟩ := q.bl
    exact ⟨k, rfl, hQ _ _ z⟩⟩
theorem dt_not (h : DT X W a tA) : DT X W (.UnaryOp .Not a pos) (tNotD tA) :=
  PT.imp (pt_not h) fun σ H Q ⟨G, F, m, sd, h, QD, E, at_, t, hQ⟩ => LT.step at_ t fun F' m' h' H' b le a' q => hQ _ _ ⟨F', m', h', le, a'.R, q⟩
theorem dw_and1 (h : DT X W a tA) : DW X W (.BoolOp .And [a] pos) tA := pw_and1 h
theorem dw_or1 (h : DT X W a tA) : DW X W (.BoolOp .Or [a] pos) tA := pw_or1 h
theorem dw_and (ha : DT X W a tA) (hb : DW X W (.BoolOp .And (b :: rest) pos) tB) : DW X W (.BoolOp .And (a :: b :: rest) pos) (tAndD tA tB) :=
  PW.imp (pw_and ha hb) fun σ H Q ⟨G, F, m, sd, h, QD, E, at_, t, hQ⟩ => LT.step at_ t fun F' m' h' H' b le a' q => by
    cases b with
    | true => rw [if_pos rfl] at q ⊢; exact ⟨G, F', m', sd, h', QD, E, a', q, fun v H'' z => hQ _ _ (z.mono le)⟩
    | false => rw [if_neg Bool.false_ne_true] at q ⊢; exact hQ _ _ ⟨F', m', h', le, a'.R, q⟩
theorem dw_or (ha : DT X W a tA) (hb : DW X W (.BoolOp .Or (b :: rest) pos) tB) : DW X W (.BoolOp .Or (a :: b :: rest) pos) (tOrD tA tB) :=
  PW.imp (pw_or ha hb) fun σ H Q ⟨G, F, m, sd, h, QD, E, at_, t, hQ⟩ => LT.step at_ t fun F' m' h' H' b le a' q => by
    cases b with
    | true => rw [if_pos rfl] at q ⊢; exact hQ _ _ ⟨F', m', h', le, a'.R, q⟩
    | false => rw [if_neg Bool.false_ne_true] at q ⊢; exact ⟨G, F', m', sd, h', QD, E, a', q, fun v H'' z => hQ _ _ (z.mono le)⟩
theorem dt_w (h : DW X W a tA) : DT X W a tA := PW.pt h
theorem de_not (h : DE X W a ta) : DE X W (.UnaryOp .Not a pos) (eNotV ta) :=
  PE.imp (pe_not h) fun σ H Q ⟨G, F, m, sd, h, QD, E, at_, t, hQ⟩ => LE.step at_ t fun F' m' h' H' v d le a' rp q => by
    cases rp with
    | bl k => exact ⟨k, rfl, hQ _ _ ⟨F', m', h', _, le, a'.R, .bl _, q⟩⟩
    | _ => exact q.elim
theorem de_one {op : BoolOp} (h : DE X W a ta) : DE X W (.BoolOp op [a] pos) ta := pe_one h
theorem de_and (ha : DE X W a ta) (hb : DE X W (.BoolOp .And (b :: rest) pos) tb) : DE X W (.BoolOp .And (a :: b :: rest) pos) (eAndV ta tb) :=
  PE.imp (pe_and ha hb) fun σ H Q ⟨G, F, m, sd, h, QD, E, at_, t, hQ⟩ => LE.step at_ t fun F' m' h' H' v d le a' rp q => by
    cases rp with
    | bl k =>
      refine ⟨k, rfl, ?_⟩
      cases k with
      | true => rw [if_pos rfl]; exact ⟨G, F', m', sd, h', QD, E, a', q, fun v H'' z => hQ _ _ (z.mono le)⟩
      | false => rw [if_neg Bool.false_ne_true]; exact hQ _ _ ⟨F', m', h', _, le, a'.R, .bl _, q⟩
    | _ => exact q.elim
theorem de_or (ha : DE X W a ta) (hb : DE X W (.BoolOp .Or (b :: rest) pos) tb) : DE X W (.BoolOp .Or (a :: b :: rest) pos) (eOrV ta tb) :=
  PE.imp (pe_or ha hb) fun σ H Q ⟨G, F, m, sd, h, QD, E, at_, t, hQ⟩ => LE.step at_ t fun F' m' h' H' v d le a' rp q => by
    cases rp with
    | bl k =>
      refine ⟨k, rfl, ?_⟩
      cases k with
      | true => rw [if_pos rfl]; exact hQ _ _ ⟨F', m', h', _, le, a'.R, .bl _, q⟩
      | false => rw [if_neg Bool.false_ne_true]; exact ⟨G, F', m', sd, h', QD, E, a', q, fun v H'' z => hQ _ _ (z.mono le)⟩
    | _ => exact q.elim
theorem de_if (hc : DT X W c tA) (ha : DE X W a ta) (hb : DE X W b tb) : DE X W (.IfExp c a b pos) (eIf tA ta tb) :=
  PE.imp (pe_ifExp hc ha hb) fun σ H Q ⟨G, F, m, sd, h, QD, E, at_, t, hQ⟩ => LT.step at_ t fun F' m' h' H' b le a' q => by
    cases b with
    | true => rw [if_pos rfl] at q ⊢; exact ⟨G, F', m', sd, h', QD, E, a', q, fun v H'' z => hQ _ _ (z.mono le)⟩
    | false => rw [if_neg Bool.false_ne_true] at q ⊢; exact ⟨G, F', m', sd, h', QD, E, a', q, fun v H'' z => hQ _ _ (z.mono le)⟩
end
/-! ## argument lists, displays -/
def eNil : TAD := fun _ h Q _ => Q [] h
def eCons (t : TED) (u : TAD) : TAD := fun sd h Q E => t sd h (fun d h1 => u sd h1 (fun ds h2 => Q (d :: ds) h2) E) E
def eTup (t : TAD) : TED := fun sd h Q E => t sd h (fun ds h1 => Q (.tup ds) h1) E
/-- a list that is never changed; one that is -/
def eLst (t : TAD) : TED := fun sd h Q E => t sd h (fun ds h1 => Q (.lst ds) h1) E
def eRef (t : TAD) : TED := fun sd h Q E => t sd h (fun ds h1 => Q (.ref h1.length) (h1 ++ [.lst ds])) E
/-- a list of the small heap is never changed from now on -/
def eFrz (t : TED) : TED := fun sd h Q E => t sd h (fun d h1 => match d with
  | .ref n => match h1[n]? with
    | some (.lst xs) => Q (.lst xs) (h1.set n .dead)
    | _ => False
  | _ => False) E
section
variable {X : Cx} {W : WX} {e : Expr} {es : List Expr} {te : TED} {t : TAD} {pos : Pos}
theorem da_nil : DA X W [] eNil := PA.imp pa_nil fun σ H Q ⟨G, F, m, sd, h, QD, E, at_, t, hQ⟩ => hQ _ _ rfl ⟨F, m, h, [], WLe.refl, at_.R, .nil, t⟩
theorem da_cons (ha : DE X W e te) (hr : DA X W es t) (hs : starEach (e :: es) X.env = (false, eval e X.env) :: starEach es X.env := by rfl) : DA X W (e :: es) (eCons te t) :=
  PA.imp (pa_cons ha hr hs) fun σ H Q ⟨G, F, m, sd, h, QD, E, at_, t, hQ⟩ => LE.step at_ t fun F1 m1 h1 H1 v d le1 a1 rp t1 => LA.step a1 t1 fun F2 m2 h2 H2 vs ds hn le2 a2 rps q =>
    hQ _ _ (by rw [List.length_cons, List.length_cons, hn]) ⟨F2, m2, h2, _, le1.trans le2, a2.R, .cons (rp.mono le2) rps, q⟩
theorem de_tup {x1} (h : DA X W es t) (hl : es.length ≤ 1000 := by show _ ≤ _; decide) : DE X W (.Tuple es x1 pos) (eTup t) :=
  PE.imp (pe_tup h) fun σ H Q ⟨G, F, m, sd, h, QD, E, at_, t, hQ⟩ => LA.step at_ t fun F1 m1 h1 H1 vs ds hn le1 a1 rp t1 => by
    refine ⟨by rw [hn]; exact Nat.le_trans hl (by decide), fun p hp => ?_⟩
    obtain ⟨F', le, R', rq⟩ := a1.R.tupN hp rp
    exact hQ _ _ ⟨F', m1, h1, _, le1.trans le, R', rq, t1⟩
theorem de_lst (h : DA X W es t) (hl : es.length ≤ 1000 := by show _ ≤ _; decide) : DE X W (.List es pos) (eLst t) :=
  PE.imp (pe_lst h) fun σ H Q ⟨G, F, m, sd, h, QD, E, at_, t, hQ⟩ => LA.step at_ t fun F1 m1 h1 H1 vs ds hn le1 a1 rp t1 => by
    refine ⟨by rw [hn]; exact Nat.le_trans hl (by decide), fun p hp => ?_⟩
    obtain ⟨F', le, R', rq⟩ := a1.R.lstN hp rp
    exact hQ _ _ ⟨F', m1, h1, _, le1.trans le, R', rq, t1⟩
theorem de_ref (h : DA X W es t) (hl : es.length ≤ 1000 := by show _ ≤ _; decide) : DE X W (.List es pos) (eRef t) :=
  PE.imp (pe_lst h) fun σ H Q ⟨G, F, m, sd, h, QD, E, at_, t, hQ⟩ => LA.step at_ t fun F1 m1 h1 H1 vs ds hn le1 a1 rp t1 => by
    refine ⟨by rw [hn]; exact Nat.le_trans hl (by decide), fun p hp => ?_⟩
    obtain ⟨m', le, R', rq⟩ := a1.R.refN hp rp
    exact hQ _ _ ⟨F1, m', _, _, le1.trans le, R', rq, t1⟩
end
/-! ## calls of built-in functions -/
def eCall (f : List D → DH → VD → Prop) (t : TAD) : TED := fun sd h Q E => t sd h (fun ds h1 => f ds h1 Q) E
abbrev FC := List D → DH → VD → Prop
section
variable (X : Cx)
def CallDD (fv : Value) (f : FC) : Prop := ∃ r, CallR X fv r ∧ ∀ (G F : Hp) (m : List Addr) (h : DH) (H : Hp) (vs : List V) (ds : List D) (QD : VD) (Q : VK), Rel X.K X.mg G F m h H → Rps X.K X.mg F m vs ds → f ds h QD → (∀ v H', QV X.K X.mg G F m QD v H' → Q v H') → r vs H Q
end
section
variable {X : Cx} {W : WX} {e : Expr} {es : List Expr} {t : TAD} {p pos : Pos} {x : Str} {id : String} {f : FC}
theorem de_callB (hc : CallDD X (.builtin id) f) (hg : Gl X x) (hm : X.mg x = none) (hv : bootBuiltins x = some (.builtin id)) (ha : DA X W (e :: es) t) (hn : x ≠ "__name__" := by decide) (hdb : (x == ("__debug__" : Str)) = false := by decide)
    (he : starEach (e :: es) X.env = (false, eval e X.env) :: starEach es X.env := by rfl) (hpl : (backTo pos (starEach es X.env)).any (·.1) = false := by rfl) : DE X W (.Call (.Name x p) (e :: es) [] pos) (eCall f t) := by
  obtain ⟨r, hr, hf⟩ := hc
  exact PE.imp (pe_callB hr hg hm hv ha hn hdb he hpl) fun σ H Q ⟨G, F, m, sd, h, QD, E, at_, t, hQ⟩ => LA.step at_ t fun F1 m1 h1 H1 vs ds _ le a1 rp t1 => hf _ _ _ _ _ _ _ _ _ a1.R rp t1 fun v H' q => hQ _ _ (q.mono le)
theorem de_callTy (hc : CallDD X (.type id) f) (hg : Gl X x) (hm : X.mg x = none) (hv : bootBuiltins x = some (.type id)) (ha : DA X W (e :: es) t) (hn : x ≠ "__name__" := by decide) (hdb : (x == ("__debug__" : Str)) = false := by decide)
    (he : starEach (e :: es) X.env = (false, eval e X.env) :: starEach es X.env := by rfl) (hpl : (backTo pos (starEach es X.env)).any (·.1) = false := by rfl) : DE X W (.Call (.Name x p) (e :: es) [] pos) (eCall f t) := by
  obtain ⟨r, hr, hf⟩ := hc
  exact PE.imp (pe_callTy hr hg hm hv ha hn hdb he hpl) fun σ H Q ⟨G, F, m, sd, h, QD, E, at_, t, hQ⟩ => LA.step at_ t fun F1 m1 h1 H1 vs ds _ le a1 rp t1 => hf _ _ _ _ _ _ _ _ _ a1.R rp t1 fun v H' q => hQ _ _ (q.mono le)
theorem CallR.or {fv : Value} {r r' : List V → Hp → VK → Prop} (h : CallR X fv r) (h' : CallR X fv r') : CallR X fv (fun xs H Q => r xs H Q ∨ r' xs H Q) := fun pins s σ H xs us Q I rv q => q.elim (h pins s σ H xs us Q I rv) (h' pins s σ H xs us Q I rv)
end
def fLen : FC := fun ds h Q => match ds with
  | [x] => match itemsOf x h with
    | some xs => Q (.int xs.length) h
    | none => match x with
      | .str y => y.length ≤ sizeLine ∧ Q (.int y.length) h
      | _ => False
  | _ => False
def fAbs : FC := fun ds h Q => match ds with
  | [.int i] => Q (.int (if i < 0 then -i else i)) h
  | _ => False
def fInt : FC := fun ds h Q => match ds with
  | [.int i] => Q (.int i) h
  | [.bl b] => Q (.int (if b then 1 else 0)) h
  | _ => False
def fStr : FC := fun ds h Q => match ds with
  | [.int i] => i.natAbs.log2 < 1920 ∧ Q (.str (toString i)) h
  | _ => False
def fMax2 : FC := fun ds h Q => match ds with
  | [.int i, .int j] => Q (.int (if j > i then j else i)) h
  | _ => False
def fMin2 : FC := fun ds h Q => match ds with
  | [.int i, .int j] => Q (.int (if j < i then j else i)) h
  | _ => False
def blsOf : List D → Option (List Bool)
  | [] => some []
  | .bl b :: r => (blsOf r).map fun bs => b :: bs
  | _ :: _ => none
def intsOf : List D → Option (List Int)
  | [] => some []
  | .int b :: r => (intsOf r).map fun bs => b :: bs
  | _ :: _ => none
theorem blsOf_some : ∀ {ds : List D} {bs : List Bool}, blsOf ds = some bs → ds = bs.map D.bl
  | [], _, e => by cases e; rfl
  | d :: r, bs, e => by
    cases d with
    | bl b =>
      simp only [blsOf, Option.map_eq_some_iff] at e
      obtain ⟨bs', e1, rfl⟩ := e
      rw [blsOf_some e1]; rfl
    | _ => simp only [blsOf] at e; cases e
theorem intsOf_some : ∀ {ds : List D} {bs : List Int}, intsOf ds = some bs → ds = bs.map D.int
  | [], _, e => by cases e; rfl
  | d :: r, bs, e => by
    cases d with
    | int b =>
      simp only [intsOf, Option.map_eq_some_iff] at e
      obtain ⟨bs', e1, rfl⟩ := e
      rw [intsOf_some e1]; rfl
    | _ => simp only [intsOf] at e; cases e
theorem intsOf_map : ∀ bs : List Int, intsOf (bs.map D.int) = some bs
  | [] => rfl
  | b :: r => by simp [intsOf, intsOf_map r]
/-- all, any of a list -/
def fAll (f : List Bool → Bool) : FC := fun ds h Q => match ds with
  | [x] => match lstOf x h with
    | some xs => match blsOf xs with
      | some bs => Q (.bl (f bs)) h
      | none => False
    | none => False
  | _ => False
def maxL : List Int → Int
  | [] => 0
  | [a] => a
  | a :: b :: r => max a (maxL (b :: r))
def minL : List Int → Int
  | [] => 0
  | [a] => a
  | a :: b :: r => min a (minL (b :: r))
theorem minL_spec : ∀ {ns : List Int}, 0 < ns.length → minL ns ∈ ns ∧ ∀ y ∈ ns, minL ns ≤ y
  | [], h => by simp at h
  | [a], _ => by simp [minL]
  | a :: b :: r, _ => by
    have ih := minL_spec (ns := b :: r) (by simp)
    simp only [minL]
    constructor
    · rcases Int.le_total a (minL (b :: r)) with h | h
      · rw [Int.min_eq_left h]; exact List.mem_cons_self
      · rw [Int.min_eq_right h]; exact List.mem_cons_of_mem _ ih.1
    · intro y hy
      rcases List.mem_cons.mp hy with rfl | hy
      · exact Int.min_le_left _ _
      · exact Int.le_trans (Int.min_le_right _ _) (ih.2 y hy)
/-- ints of a list -/
def fInts (f : List Int → Int) (C : List Int → Prop) : FC := fun ds h Q => match ds with
  | [x] => match lstOf x h with
    | some xs => match intsOf xs with
      | some ns => C ns ∧ Q (.int (f ns)) h
      | none => False
    | none => False
  | _ => False
/-- the sorted ints -/
def insI (x : Int) : List Int → List Int
  | [] => [x]
  | y :: r => if x ≤ y then x :: y :: r else y :: insI x r
def sortI : List Int → List Int
  | [] => []
  | x :: r => insI x (sortI r)
theorem insI_perm (x : Int) : ∀ l, (insI x l).Perm (x :: l)
  | [] => .refl _
  | y :: r => by
    unfold insI
    split
    · exact .refl _
    · exact ((insI_perm x r).cons y).trans (.swap x y r)
theorem sortI_perm : ∀ l, (sortI l).Perm l
  | [] => .refl _
  | x :: r => (insI_perm x _).trans ((sortI_perm r).cons x)
theorem insI_sorted (x : Int) : ∀ {l : List Int}, l.Pairwise (· ≤ ·) → (insI x l).Pairwise (· ≤ ·)
  | [], _ => by simp [insI]
  | y :: r, h => by
    unfold insI
    rw [List.pairwise_cons] at h
    split
    · rename_i hxy
      rw [List.pairwise_cons, List.pairwise_cons]
      exact ⟨fun z hz => (List.mem_cons.mp hz).elim (fun e => e ▸ hxy) fun hz => Int.le_trans hxy (h.1 z hz), h⟩
    · rename_i hxy
      rw [List.pairwise_cons]
      refine ⟨fun z hz => ?_, insI_sorted x h.2⟩
      rcases List.mem_cons.mp ((insI_perm x r).mem_iff.mp hz) with rfl | hz
      · omega
      · exact h.1 z hz
theorem sortI_sorted : ∀ l, (sortI l).Pairwise (· ≤ ·)
  | [] => .nil
  | x :: r => insI_sorted x (sortI_sorted r)
theorem sortI_unique {a b : List Int} (p : a.Perm b) (s : a.Pairwise (· ≤ ·)) : a = sortI b := PySem.W.ksm_same (p.trans (sortI_perm b).symm) s (sortI_sorted b)
/-- sorted(a list of ints): never changed; or changed later -/
def fSorted : FC := fun ds h Q => match ds with
  | [x] => match lstOf x h with
    | some xs => match intsOf xs with
      | some ns => Q (.lst ((sortI ns).map .int)) h
      | none => False
    | none => False
  | _ => False
def fSortedR : FC := fun ds h Q => match ds with
  | [x] => match lstOf x h with
    | some xs => match intsOf xs with
      | some ns => Q (.ref h.length) (h ++ [.lst ((sortI ns).map .int)])
      | none => False
    | none => False
  | _ => False
def fTuple : FC := fun ds h Q => match ds with
  | [x] => match x with
    | .tup xs => Q (.tup xs) h
    | x => match lstOf x h with
      | some xs => Q (.tup xs) h
      | none => False
  | _ => False
def fList : FC := fun ds h Q => match ds with
  | [x] => match itemsOf x h with
    | some xs => Q (.lst xs) h
    | none => False
  | _ => False
def fListR : FC := fun ds h Q => match ds with
  | [x] => match itemsOf x h with
    | some xs => Q (.ref h.length) (h ++ [.lst xs])
    | none => False
  | _ => False
section
variable {X : Cx}
theorem Rps.one {K mg} {F : Hp} {m : List Addr} {vs : List V} {d : D} (r : Rps K mg F m vs [d]) : ∃ v, vs = [v] ∧ Rp K mg F m v d := by
  cases r with
  | cons p q => cases q; exact ⟨_, rfl, p⟩
theorem Rps.two {K mg} {F : Hp} {m : List Addr} {vs : List V} {d e : D} (r : Rps K mg F m vs [d, e]) : ∃ v w, vs = [v, w] ∧ Rp K mg F m v d ∧ Rp K mg F m w e := by
  cases r with
  | cons p q => obtain ⟨w, rfl, p2⟩ := Rps.one q; exact ⟨_, w, rfl, p, p2⟩
theorem dc_len : CallDD X (.builtin "len") fLen := ⟨_, call_len, fun G F m h H vs ds QD Q R rp q hQ => by
  unfold fLen at q
  split at q
  · rename_i x
    obtain ⟨v, rfl, r⟩ := Rps.one rp
    split at q
    · rename_i xs e
      obtain ⟨a, ws, rfl, hs, p⟩ := R.items r e
      refine ⟨_, ws.length, rfl, ?_, by rw [Paired.len p]; exact hQ _ _ ⟨F, m, h, _, WLe.refl, R, .int _, q⟩⟩
      rcases hs with hs | hs
      · exact .inl ⟨ws, hs, rfl⟩
      · exact .inr ⟨ws, hs, rfl⟩
    · split at q
      · cases r
        exact ⟨_, _, rfl, ⟨q.1, rfl⟩, hQ _ _ ⟨F, m, h, _, WLe.refl, R, .int _, q.2⟩⟩
      · exact q.elim
  · exact q.elim⟩
theorem dc_abs : CallDD X (.builtin "abs") fAbs := ⟨_, call_abs, fun G F m h H vs ds QD Q R rp q hQ => by
  unfold fAbs at q
  split at q
  · obtain ⟨v, rfl, r⟩ := Rps.one rp
    cases r
    exact ⟨_, rfl, hQ _ _ ⟨F, m, h, _, WLe.refl, R, .int _, q⟩⟩
  · exact q.elim⟩
theorem dc_int : CallDD X (.type "int") fInt := ⟨_, call_int1, fun G F m h H vs ds QD Q R rp q hQ => by
  unfold fInt at q
  split at q
  · obtain ⟨v, rfl, r⟩ := Rps.one rp
    cases r
    exact .inl ⟨_, rfl, hQ _ _ ⟨F, m, h, _, WLe.refl, R, .int _, q⟩⟩
  · obtain ⟨v, rfl, r⟩ := Rps.one rp
    cases r
    exact .inr ⟨_, rfl, hQ _ _ ⟨F, m, h, _, WLe.refl, R, .int _, q⟩⟩
  · exact q.elim⟩
theorem dc_str : CallDD X (.type "str") fStr := ⟨_, call_str_int, fun G F m h H vs ds QD Q R rp q hQ => by
  unfold fStr at q
  split at q
  · obtain ⟨v, rfl, r⟩ := Rps.one rp
    cases r
    exact ⟨_, rfl, q.1, hQ _ _ ⟨F, m, h, _, WLe.refl, R, .str _, q.2⟩⟩
  · exact q.elim⟩
theorem dc_max2 (hc : X.calm = true) : CallDD X (.builtin "max") fMax2 := ⟨_, call_max2 hc, fun G F m h H vs ds QD Q R rp q hQ => by
  unfold fMax2 at q
  split at q
  · obtain ⟨v, w, rfl, r, r2⟩ := Rps.two rp
    cases r; cases r2
    exact ⟨_, _, rfl, hQ _ _ ⟨F, m, h, _, WLe.refl, R, .int _, q⟩⟩
  · exact q.elim⟩
theorem dc_min2 (hc : X.calm = true) : CallDD X (.builtin "min") fMin2 := ⟨_, call_min2 hc, fun G F m h H vs ds QD Q R rp q hQ => by
  unfold fMin2 at q
  split at q
  · obtain ⟨v, w, rfl, r, r2⟩ := Rps.two rp
    cases r; cases r2
    exact ⟨_, _, rfl, hQ _ _ ⟨F, m, h, _, WLe.refl, R, .int _, q⟩⟩
  · exact q.elim⟩
theorem dc_all (hc : X.calm = true) : CallDD X (.builtin "all") (fAll fun bs => bs.all id) := ⟨_, cr_all hc, fun G F m h H vs ds QD Q R rp q hQ => by
  unfold fAll at q
  split at q
  · obtain ⟨v, rfl, r⟩ := Rps.one rp
    split at q
    · rename_i xs e
      obtain ⟨a, ws, rfl, hs, p⟩ := R.lstOf r e
      split at q
      · rename_i bs e2
        rw [blsOf_some e2] at p
        rw [Rps.bls p] at hs
        exact ⟨a, bs, rfl, .inl (.inl hs), hQ _ _ ⟨F, m, h, _, WLe.refl, R, .bl _, q⟩⟩
      · exact q.elim
    · exact q.elim
  · exact q.elim⟩
theorem dc_any (hc : X.calm = true) : CallDD X (.builtin "any") (fAll fun bs => bs.any id) := ⟨_, cr_any hc, fun G F m h H vs ds QD Q R rp q hQ => by
  unfold fAll at q
  split at q
  · obtain ⟨v, rfl, r⟩ := Rps.one rp
    split at q
    · rename_i xs e
      obtain ⟨a, ws, rfl, hs, p⟩ := R.lstOf r e
      split at q
      · rename_i bs e2
        rw [blsOf_some e2] at p
        rw [Rps.bls p] at hs
        exact ⟨a, bs, rfl, .inl (.inl hs), hQ _ _ ⟨F, m, h, _, WLe.refl, R, .bl _, q⟩⟩
      · exact q.elim
    · exact q.elim
  · exact q.elim⟩
theorem dc_tuple : CallDD X (.type "tuple") fTuple := ⟨_, call_tuple_of, fun G F m h H vs ds QD Q R rp q hQ => by
  unfold fTuple at q
  split at q
  · obtain ⟨v, rfl, r⟩ := Rps.one rp
    split at q
    · cases r with
      | tup s p' => exact ⟨_, _, rfl, .inr ⟨sqT_mono R.sf s, hQ _ _ ⟨F, m, h, _, WLe.refl, R, .tup s p', q⟩⟩⟩
    · split at q
      · rename_i xs e
        obtain ⟨a, ws, rfl, hs, p⟩ := R.lstOf r e
        refine ⟨a, ws, rfl, .inl ⟨.inl (.inl hs), fun l hl => ?_⟩⟩
        obtain ⟨F', le, R', rq⟩ := R.tupN hl p
        exact hQ _ _ ⟨F', m, h, _, le, R', rq, q⟩
      · exact q.elim
  · exact q.elim⟩
theorem dc_listR : CallDD X (.type "list") fListR := ⟨_, call_list_of, fun G F m h H vs ds QD Q R rp q hQ => by
  unfold fListR at q
  split at q
  · obtain ⟨v, rfl, r⟩ := Rps.one rp
    split at q
    · rename_i xs e
      obtain ⟨a, ws, rfl, hs, p⟩ := R.items r e
      refine ⟨a, ws, rfl, hs, fun l hl => ?_⟩
      obtain ⟨m', le, R', rq⟩ := R.refN hl p
      exact hQ _ _ ⟨F, m', _, _, le, R', rq, q⟩
    · exact q.elim
  · exact q.elim⟩
end
end DL
end

section
set_option maxRecDepth 100000
set_option maxHeartbeats 4000000
namespace DL
open PySem PySem.Spec L2
variable [TB]
/-! ## a[b] -/
open PyProof.Rows in
theorem subscriptTail_gen {prog : Program} {w : World} {A : Around} {E : Value → Shared → Prop} {s : Shared} {value slice : Expr} {o i : Value} {T id : String} {Q : Value → Shared → Prop} (hT : s.TypeIs o T)
    (hl : typeLookup (.type T) "__getitem__" = pure (some (.builtin id))) (h : wpAny (model prog w) A (getItem o i) Q E s)
    (hs : subscripted slice false o i = operate [o, i] (getItem o i)) :
    wpAny (model prog w) A (PyProof.Rows.subscriptTail value slice o i) Q E s := by
  unfold PyProof.Rows.subscriptTail
  refine wpAny_bind ?_
  rw [getitemInPython_of_ne hT.not_modules]
  refine wpAny_bind (wpAny_specialOf hT hl ?_)
  have fin : wpAny (model prog w) A (subscripted slice false o i) (fun r s₃ => wpAny (model prog w) A (letTemporaryGo value o r >>= fun _ => pure r) Q E s₃) E s := by
    rw [hs]
    exact wpAny_operating (wpAny_mono h (fun r s₃ h₃ => wpAny_bind (wpAny_letTemporaryGo (wpAny_pure h₃))) fun _ _ x => x)
  first
    | exact wpAny_pure (wpAny_bind fin)
    | exact wpAny_bind (wpAny_pure (wpAny_bind fin))
    | exact wpAny_bind fin
def dIx : F2 := fun x y h Q => match itemsOf x h with
  | some xs => match y with
    | .int i => match atI xs i with
      | some d => Q d h
      | none => False
    | _ => False
  | none => match dkOf x h, toKey y with
    | some (ks, xs), some k => match dget ks xs k with
      | some d => Q d h
      | none => False
    | _, _ => match x, y with
      | .str z, .int i => match atI z.cps.toList i with
        | some c => z.length ≤ sizeLine ∧ Q (.str ⟨#[c]⟩) h
        | none => False
      | _, _ => False
theorem atI_rps {K mg} {F : Hp} {m : List Addr} {vs : List V} {ds : List D} {i : Int} {d : D} (r : Rps K mg F m vs ds) (e : atI ds i = some d) : ∃ v, atI vs i = some v ∧ Rp K mg F m v d := by
  unfold atI at e ⊢
  rw [Paired.len r]
  cases z : ixN ds.length i with
  | none => rw [z] at e; cases e
  | some j =>
    rw [z] at e
    obtain ⟨v, e1, p⟩ := Rps.get r (show ds[j]? = some d from e)
    exact ⟨v, e1, p⟩
section
variable {X : Cx} {W : WX} {a b : Expr} {ta tb : TED} {pos : Pos}
theorem ix_dict (hu : X.A.units + 1 < cLine) : IxR X (fun x y H Q => ∃ a v, x = .ref a ∧ DGet H a y (some v) ∧ Q v H) := fun value slice pins s σ H x y v u Q I rx ry ⟨a, w, ex, g, q⟩ hs => by
  subst ex
  cases (show v = Value.ref a from rx)
  exact subscriptTail_gen (dict_typeIs I g) PySem.F.slot_dict_getitem.lookup (d_getItem hu I g ry fun w' s3 I3 rw' => ⟨w, H, I3, rw', q⟩) hs
theorem de_ix (hu : X.A.units + 64 < cLine) (ha : DE X W a ta) (hb : DE X W b tb) (hs : PlainIx b := by exact fun _ _ => rfl) : DE X W (.Subscript a b pos) (eOp2 dIx ta tb) :=
  PE.imp (pe_ix (IxR.or ix_seq (ix_dict (by omega))) ha hb hs) fun σ H Q ⟨G, F, m, sd, h, QD, E, at_, t, hQ⟩ => LE.two at_ t fun F' m' h' H' x y d e le a' rx ry q => by
    unfold dIx at q
    split at q
    · rename_i xs e1
      obtain ⟨p, vs, rfl, hv, rp⟩ := a'.R.items rx e1
      split at q
      · cases ry
        split at q
        · rename_i d' e2
          obtain ⟨v, e3, rv⟩ := atI_rps rp e2
          have fin := hQ v H' ⟨F', m', h', d', le, a'.R, rv, q⟩
          rcases hv with hv | hv
          · exact .inl (.inl ⟨p, vs, _, v, rfl, rfl, hv, e3, fin⟩)
          · exact .inl (.inr (.inl ⟨p, vs, _, v, rfl, rfl, hv, e3, fin⟩))
        · exact q.elim
      · exact q.elim
    · split at q
      · rename_i ks xs k e1 e2
        obtain ⟨p, vs, rfl, hv, el, rp⟩ := a'.R.dk rx e1
        split at q
        · rename_i d' e3
          have hk : k ∈ ks := Classical.byContradiction fun hk => by
            have := ((valV_zip (K := X.K) (mg := X.mg) (F := F') (m := m') k el rp).2 hk).2
            rw [this] at e3; cases e3
          obtain ⟨v, d2, f1, f2, f3⟩ := (valV_zip k el rp).1 hk
          rw [f2] at e3; cases e3
          exact .inr ⟨p, v, rfl, .inl ⟨_, k, hv, ry.key e2, f1.symm⟩, hQ v H' ⟨F', m', h', _, le, a'.R, f3, q⟩⟩
        · exact q.elim
      · split at q
        · cases rx; cases ry
          split at q
          · rename_i c e3
            exact .inl (.inr (.inr ⟨_, _, c, rfl, rfl, q.1, e3, hQ _ _ ⟨F', m', h', _, le, a'.R, .str _, q.2⟩⟩))
          · exact q.elim
        · exact q.elim
end
/-! ## a[lo:hi] -/
abbrev TOD := Sg → DH → (Option Int → DH → Prop) → ED → Prop
def oNone : TOD := fun _ h Q _ => Q none h
def oSome (t : TED) : TOD := fun sd h Q E => t sd h (fun d h1 => match d with | .int i => Q (some i) h1 | _ => False) E
def LO (K : PySem.W.Frag) (mg : Str → Option Value) (W : WX) (t : TOD) : TO := fun σ H Q => ∃ G F m sd h QD E, At K mg G W F m sd h σ H E ∧ t sd h QD E ∧ ∀ o H', (∃ F' m' h', WLe F m F' m' ∧ Rel K mg G F' m' h' H' ∧ QD o h') → Q o H'
def DO (X : Cx) (W : WX) (e : Option Expr) (t : TOD) : Prop := PO X e (LO X.K X.mg W t)
theorem PO.imp {X : Cx} {e : Option Expr} {t t' : TO} (p : PO X e t) (h : ∀ σ H Q, t' σ H Q → t σ H Q) : PO X e t' := ⟨fun pins s σ H Q I q => p.run pins s σ H Q I (h σ H Q q)⟩
theorem LO.step {K mg G W F m sd h σ H} {t : TOD} {QD : Option Int → DH → Prop} {E : ED} {Q : Option Int → Hp → Prop} (a : At K mg G W F m sd h σ H E) (ht : t sd h QD E)
    (k : ∀ F' m' h' H' o, WLe F m F' m' → At K mg G W F' m' sd h' σ H' E → QD o h' → Q o H') : LO K mg W t σ H Q :=
  ⟨G, F, m, sd, h, QD, E, a, ht, fun v H' ⟨F', m', h', le, R, q⟩ => k F' m' h' H' v le (a.mv le R) q⟩
/-- the items of xs[lo:hi] -/
def cutD (xs : List D) (lo hi : Option Int) : List D := (xs.drop (HT.sIx xs.length 0 lo)).take (HT.sIx xs.length xs.length hi - HT.sIx xs.length 0 lo)
/-- the items of a list (no tuple), the script too -/
def listOf (d : D) (h : DH) : Option (List D) := match d with
  | .lst xs => some xs
  | .scr xs => some xs
  | .ref n => match h[n]? with
    | some (.lst xs) => some xs
    | _ => none
  | _ => none
theorem Rel.listOf {K mg G F m h H v d} {xs : List D} (R : Rel K mg G F m h H) (r : Rp K mg F m v d) (e : DL.listOf d h = some xs) : ∃ a vs, v = .ref a ∧ SqL K H a vs ∧ Rps K mg F m vs xs := by
  cases r with
  | lst s p => cases e; exact ⟨_, _, rfl, .inl (.inl (R.sf _ _ s)), p⟩
  | scr s p => cases e; exact ⟨_, _, rfl, sqL_mono R.sf s, p⟩
  | ref hn =>
    simp only [DL.listOf] at e
    split at e
    · rename_i n ys q
      cases e
      obtain ⟨a', vs, e1, _, e3, p⟩ := R.lst q
      rw [hn] at e1; cases e1
      exact ⟨_, vs, rfl, .inl (.inl e3), p⟩
    · exact nomatch e
  | _ => exact nomatch e
def eSl (t : TED) (lo hi : TOD) : TED := fun sd h Q E => t sd h (fun x h1 => lo sd h1 (fun l h2 => hi sd h2 (fun u h3 => match x with
  | .tup xs => Q (.tup (cutD xs l u)) h3
  | .str z => z.length ≤ sizeLine ∧ Q (.str (cutS z l u)) h3
  | x => match listOf x h3 with
    | some xs => Q (.lst (cutD xs l u)) h3
    | none => False) E) E) E
theorem Rps.cut {K mg} {F : Hp} {m : List Addr} {vs : List V} {ds : List D} (r : Rps K mg F m vs ds) (lo hi : Option Int) : Rps K mg F m (cutV vs lo hi) (cutD ds lo hi) := by
  unfold cutV cutD
  rw [Paired.len r]
  exact Rps.take _ (Rps.drop _ r)
section
variable {X : Cx} {W : WX} {e : Expr} {te : TED} {lo hi : Option Expr} {tl th : TOD} {pos p2 : Pos}
theorem do_none : DO X W none oNone := PO.imp po_none fun σ H Q ⟨G, F, m, sd, h, QD, E, at_, t, hQ⟩ => hQ _ _ ⟨F, m, h, WLe.refl, at_.R, t⟩
theorem do_some (h : DE X W e te) : DO X W (some e) (oSome te) := PO.imp (po_some h) fun σ H Q ⟨G, F, m, sd, h, QD, E, at_, t, hQ⟩ => LE.step at_ t fun F' m' h' H' v d le a' rp q => by
  cases rp with
  | int i => exact ⟨i, rfl, hQ _ _ ⟨F', m', h', le, a'.R, q⟩⟩
  | _ => exact q.elim
theorem cut_whole {α : Type} (xs : List α) {lo hi : Option Int} (h : HT.sIx xs.length 0 lo = 0 ∧ HT.sIx xs.length xs.length hi = xs.length) : (xs.drop (HT.sIx xs.length 0 lo)).take (HT.sIx xs.length xs.length hi - HT.sIx xs.length 0 lo) = xs := by
  rw [h.1, h.2, List.drop_zero, Nat.sub_zero, List.take_length]
theorem de_sl (he : DE X W e te) (hl : DO X W lo tl) (hu : DO X W hi th) : DE X W (.Subscript e (.Slice lo hi none p2) pos) (eSl te tl th) :=
  PE.imp (pe_slice (SlR.or sl_tupA (SlR.or sl_list sl_str)) he hl hu) fun σ H Q ⟨G, F, m, sd, h, QD, E, at_, t, hQ⟩ =>
    LE.step at_ t fun F1 m1 h1 H1 v d le1 a1 rp q1 => LO.step a1 q1 fun F2 m2 h2 H2 l le2 a2 q2 => LO.step a2 q2 fun F3 m3 h3 H3 u le3 a3 q3 => by
      have rp3 := rp.mono (le2.trans le3)
      have le := le1.trans (le2.trans le3)
      split at q3
      · rename_i xs
        cases rp3 with
        | tup s p =>
          rename_i a vs
          refine .inl ⟨a, vs, rfl, sqT_mono a3.R.sf s, fun wh => ?_, fun _ p' hp' => ?_⟩
          · have ew : cutD xs l u = xs := by
              rw [Paired.len p] at wh
              exact cut_whole xs wh
            rw [ew] at q3
            exact hQ _ _ ⟨F3, m3, h3, _, le, a3.R, .tup s p, q3⟩
          · obtain ⟨F', le', R', rq⟩ := a3.R.tupN hp' (Rps.cut p l u)
            exact hQ _ _ ⟨F', m3, h3, _, le.trans le', R', rq, q3⟩
      · cases rp3
        exact .inr (.inr ⟨_, rfl, q3.1, hQ _ _ ⟨F3, m3, h3, _, le, a3.R, .str _, q3.2⟩⟩)
      · split at q3
        · rename_i xs e1
          obtain ⟨a, vs, rfl, hv, p⟩ := a3.R.listOf rp3 e1
          refine .inr (.inl ⟨a, vs, rfl, hv, fun p' hp' => ?_⟩)
          obtain ⟨F', le', R', rq⟩ := a3.R.lstN hp' (Rps.cut p l u)
          exact hQ _ _ ⟨F', m3, h3, _, le.trans le', R', rq, q3⟩
        · exact q3.elim
end
end DL
end

section
set_option maxRecDepth 100000
set_option maxHeartbeats 4000000
namespace DL
open PySem PySem.Spec L2
variable [TB]
/-! ## statements -/
section
variable {K : PySem.W.Frag} {mg : Str → Option Value} {W : WX} {G F : Hp} {m : List Addr} {sd : Sg} {h : DH} {σ : L2.St} {H : Hp} {k : KD} {D : Ends}
abbrev KD.E (k : KD) (sd : Sg) : ED := fun nm ns fs h => k.er nm ns fs sd h
theorem AtS.at (a : AtS K mg G W k D F m) (R : Rel K mg G F m h H) (S : SRel K mg F m σ sd) : At K mg G W F m sd h σ H (k.E sd) :=
  ⟨R, S, fun cls dx H' ⟨F', m', h', nm, ns, fs, le, R', x, q⟩ => a.er _ _ _ _ ⟨F', m', sd, h', nm, ns, fs, le, R', S.mono le, x, q⟩⟩
end
def sNext : TSD := fun k sd h => k.nx sd h
def sSeq (t u : TSD) : TSD := fun k sd h => t { k with nx := u k } sd h
def sBreak : TSD := fun k sd h => k.bk sd h
def sCont : TSD := fun k sd h => k.ct sd h
def sDrop (t : TED) : TSD := fun k sd h => t sd h (fun _ h' => k.nx sd h') (k.E sd)
def sRet (t : TED) : TSD := fun k sd h => t sd h k.rt (k.E sd)
def sRetN : TSD := fun k sd h => k.rt .non h
def sIf (c : TTD) (t u : TSD) : TSD := fun k sd h => c sd h (fun b h' => if b = true then t k sd h' else u k sd h') (k.E sd)
def sSet (i : Nat) (t : TED) : TSD := fun k sd h => t sd h (fun d h' => k.nx (sd.set i (some d)) h') (k.E sd)
def sPar (is : List Nat) (t : TAD) : TSD := fun k sd h => t sd h (fun ds h' => k.nx ((is.zip ds).foldl (fun s p => s.set p.1 (some p.2)) sd) h') (k.E sd)
section
variable {X : Cx} {W : WX} {s : Stmt} {rest : List Stmt} {e : Expr} {t u : TSD} {te : TED} {pos : Pos}
theorem dss_nil : DSs X W [] sNext := PSs.imp pss_nil fun D σ H ⟨G, F, m, sd, h, k, R, S, t, a⟩ => a.nx _ _ ⟨F, m, sd, h, WLe.refl, R, S, t⟩
theorem dss_cons (h1 : DS X W s t) (h2 : DSs X W rest u) : DSs X W (s :: rest) (sSeq t u) := PSs.imp (pss_cons h1 h2) fun D σ H ⟨G, F, m, sd, h, k, R, S, t, a⟩ =>
  ⟨G, F, m, sd, h, { k with nx := u k }, R, S, t, ⟨fun σ' H' ⟨F', m', sd', h', le, R', S', q⟩ => ⟨G, F', m', sd', h', k, R', S', q, a.mv le⟩, a.rt, a.bk, a.ct, a.er⟩⟩
theorem dss_one (h1 : DS X W s t) : DSs X W [s] t := pss_one h1
theorem ds_expr (he : DE X W e te) (hs : swapsWith e none pos.line X.env = pure false := by rfl) : DS X W (.Expr e pos) (sDrop te) :=
  PS.imp (ps_expr he hs) fun D σ H ⟨G, F, m, sd, h, k, R, S, t, a⟩ => LE.step (a.at R S) t fun F' m' h' H' v d le a' rp q => a.nx _ _ ⟨F', m', sd, h', le, a'.R, a'.S, q⟩
theorem ds_ret (he : DE X W e te) : DS X W (.Return (some e) pos) (sRet te) :=
  PS.imp (ps_ret he) fun D σ H ⟨G, F, m, sd, h, k, R, S, t, a⟩ => LE.step (a.at R S) t fun F' m' h' H' v d le a' rp q => a.rt _ _ ⟨F', m', h', d, le, a'.R, rp, q⟩
theorem ds_if {c : Expr} {x y : List Stmt} {tc : TTD} (hc : DT X W c tc) (hx : DSs X W x t) (hy : DSs X W y u) : DS X W (.If c x y pos) (sIf tc t u) :=
  PS.imp (ps_if hc hx hy) fun D σ H ⟨G, F, m, sd, h, k, R, S, t, a⟩ => LT.step (a.at R S) t fun F' m' h' H' b le a' q => by
    cases b with
    | true => rw [if_pos rfl] at q ⊢; exact ⟨G, F', m', sd, h', k, a'.R, a'.S, q, a.mv le⟩
    | false => rw [if_neg Bool.false_ne_true] at q ⊢; exact ⟨G, F', m', sd, h', k, a'.R, a'.S, q, a.mv le⟩
theorem ds_set {i : Nat} {x : Str} {pos' : Pos} (he : DE X W e te) (hN : X.N.Nodup) (hi : X.N[i]? = some x := by rfl) (hx : Loc X.env.scope x := by first | exact Or.inl rfl | exact Or.inr rfl) (hs : swapsWith e (some (.Name x pos')) pos.line X.env = pure false := by rfl)
    (hf : X.fn x = true ∨ X.env.scope.names.lookup x = some .local := by first | exact .inl rfl | exact .inr rfl) : DS X W (.Assign [.Name x pos'] e pos) (sSet i te) :=
  PS.imp (ps_set hN hi hx he hs hf) fun D σ H ⟨G, F, m, sd, h, k, R, S, t, a⟩ => LE.step (a.at R S) t fun F' m' h' H' v d le a' rp q => a.nx _ _ ⟨F', m', _, h', le, a'.R, SRel.set rp i a'.S, q⟩
/-- a, b = x, y -/
theorem ds_par {i j : Nat} {x y : Str} {a b : Expr} {ta : TAD} {px py pt : Pos} {kt k2 pt2} (ha : DA X W [a, b] ta) (hN : X.N.Nodup) (hc : X.calm = true := by rfl) (hi : X.N[i]? = some x := by rfl) (hj : X.N[j]? = some y := by rfl) (hij : i ≠ j := by decide)
    (hx : X.env.scope.names.lookup x = some .local := by rfl) (hy : X.env.scope.names.lookup y = some .local := by rfl)
    (hw : swappedStores [.Tuple [.Name x px, .Name y py] kt pt] (.Tuple [a, b] k2 pt2) X.env = pure (some [x, y]) := by rfl)
    (hs : swapsWithSole [.Tuple [.Name x px, .Name y py] kt pt] (.Tuple [a, b] k2 pt2) pos.line X.env = pure false := by rfl) :
    DS X W (.Assign [.Tuple [.Name x px, .Name y py] kt pt] (.Tuple [a, b] k2 pt2) pos) (sPar [i, j] ta) :=
  PS.imp (ps_par hc hN hi hj hij hx hy ha hw hs) fun D σ H ⟨G, F, m, sd, h, k, R, S, t, a⟩ => LA.step (a.at R S) t fun F' m' h' H' vs ds hn le a' rp q => by
    cases rp with
    | nil => simp at hn
    | cons p1 r =>
      cases r with
      | nil => simp at hn
      | cons p2 r =>
        cases r with
        | cons _ _ => simp at hn
        | nil => exact ⟨_, _, rfl, a.nx _ _ ⟨F', m', _, h', le, a'.R, SRel.set p2 j (SRel.set p1 i a'.S), q⟩⟩
theorem ds_par3 {i j l : Nat} {x y z : Str} {a b c : Expr} {ta : TAD} {px py pz pt : Pos} {kt k2 pt2} (ha : DA X W [a, b, c] ta) (hN : X.N.Nodup) (hc : X.calm = true := by rfl) (hi : X.N[i]? = some x := by rfl) (hj : X.N[j]? = some y := by rfl) (hl : X.N[l]? = some z := by rfl)
    (hij : i ≠ j := by decide) (hil : i ≠ l := by decide) (hjl : j ≠ l := by decide)
    (hx : X.env.scope.names.lookup x = some .local := by rfl) (hy : X.env.scope.names.lookup y = some .local := by rfl) (hz : X.env.scope.names.lookup z = some .local := by rfl)
    (hw : swappedStores [.Tuple [.Name x px, .Name y py, .Name z pz] kt pt] (.Tuple [a, b, c] k2 pt2) X.env = pure (some [x, y, z]) := by rfl)
    (hs : swapsWithSole [.Tuple [.Name x px, .Name y py, .Name z pz] kt pt] (.Tuple [a, b, c] k2 pt2) pos.line X.env = pure false := by rfl) :
    DS X W (.Assign [.Tuple [.Name x px, .Name y py, .Name z pz] kt pt] (.Tuple [a, b, c] k2 pt2) pos) (sPar [i, j, l] ta) :=
  PS.imp (ps_par3 hc hN hi hj hl hij hil hjl hx hy hz ha hw hs) fun D σ H ⟨G, F, m, sd, h, k, R, S, t, a⟩ => LA.step (a.at R S) t fun F' m' h' H' vs ds hn le a' rp q => by
    cases rp with
    | nil => simp at hn
    | cons p1 r =>
      cases r with
      | nil => simp at hn
      | cons p2 r =>
        cases r with
        | nil => simp at hn
        | cons p3 r =>
          cases r with
          | cons _ _ => simp at hn
          | nil => exact ⟨_, _, _, rfl, a.nx _ _ ⟨F', m', _, h', le, a'.R, SRel.set p3 l (SRel.set p2 j (SRel.set p1 i a'.S)), q⟩⟩
end
/-! ## targets -/
abbrev TGD := D → Sg → DH → (Sg → DH → Prop) → Prop
abbrev TGDs := List D → Sg → DH → (Sg → DH → Prop) → Prop
/-- a target whose slots are among vs -/
def LG (K : PySem.W.Frag) (mg : Str → Option Value) (vs : List Nat) (t : TGD) : TG := fun v σ H Q => ∃ G F m sd h QD d, Rel K mg G F m h H ∧ SRel K mg F m σ sd ∧ Rp K mg F m v d ∧ t d sd h QD ∧ ∀ σ' H', wipe σ' vs = wipe σ vs → QS K mg G F m QD σ' H' → Q σ' H'
def LGs (K : PySem.W.Frag) (mg : Str → Option Value) (vs : List Nat) (t : TGDs) : TGs := fun v σ H Q => ∃ G F m sd h QD d, Rel K mg G F m h H ∧ SRel K mg F m σ sd ∧ Rps K mg F m v d ∧ t d sd h QD ∧ ∀ σ' H', wipe σ' vs = wipe σ vs → QS K mg G F m QD σ' H' → Q σ' H'
def DG (X : Cx) (vs : List Nat) (tg : Expr) (t : TGD) : Prop := PG X tg (LG X.K X.mg vs t)
def DGs (X : Cx) (vs : List Nat) (tg : List Expr) (t : TGDs) : Prop := PGs X tg (LGs X.K X.mg vs t)
theorem PG.imp {X : Cx} {e : Expr} {t t' : TG} (p : PG X e t) (h : ∀ v σ H Q, t' v σ H Q → t v σ H Q) : PG X e t' := ⟨fun pins s σ H v u Q I r q => p.run pins s σ H v u Q I r (h v σ H Q q)⟩
theorem PGs.imp {X : Cx} {e : List Expr} {t t' : TGs} (p : PGs X e t) (h : ∀ v σ H Q, t' v σ H Q → t v σ H Q) : PGs X e t' := ⟨fun pins s σ H v u Q I r q => p.run pins s σ H v u Q I r (h v σ H Q q)⟩
theorem PG.or {X : Cx} {e : Expr} {t t' : TG} (p : PG X e t) (p' : PG X e t') : PG X e (fun v σ H Q => t v σ H Q ∨ t' v σ H Q) := ⟨fun pins s σ H v u Q I r q => q.elim (p.run pins s σ H v u Q I r) (p'.run pins s σ H v u Q I r)⟩
theorem wipe_set {σ : L2.St} {i : Nat} {x : Option V} : ∀ {vs : List Nat}, i ∈ vs → wipe (σ.set i x) vs = wipe σ vs
  | v :: vs, h => by
    unfold wipe
    rcases List.mem_cons.mp h with e | h
    · subst e
      have : ∀ (vs : List Nat) (τ : L2.St), (wipe (τ.set i x) vs).set i none = (wipe τ vs).set i none := by
        intro vs
        induction vs with
        | nil => intro τ; unfold wipe; rw [List.set_set]
        | cons w ws ih =>
          intro τ
          unfold wipe
          by_cases hw : w = i
          · subst hw; rw [List.set_set, List.set_set]; exact ih τ
          · rw [List.set_comm _ _ hw, ih τ, List.set_comm _ _ (Ne.symm hw)]
      exact this vs σ
    · rw [wipe_set h]
def gN (i : Nat) : TGD := fun d sd h Q => Q (sd.set i (some d)) h
def gTnil : TGDs := fun ds sd h Q => match ds with
  | [] => Q sd h
  | _ => False
def gTcons (t : TGD) (u : TGDs) : TGDs := fun ds sd h Q => match ds with
  | d :: r => t d sd h fun sd' h' => u r sd' h' Q
  | [] => False
/-- (a, b, ..) = a tuple or list of that length -/
def gT (n : Nat) (t : TGDs) : TGD := fun d sd h Q => match itemsOf d h with
  | some ds => ds.length = n ∧ t ds sd h Q
  | none => False
section
variable {X : Cx} {W : WX} {vs : List Nat} {pos : Pos}
theorem dg_name {i : Nat} {x : Str} (hN : X.N.Nodup) (hv : i ∈ vs := by decide) (hi : X.N[i]? = some x := by rfl) (hx : Loc X.env.scope x := by first | exact Or.inl rfl | exact Or.inr rfl) (hf : X.fn x = true ∨ X.env.scope.names.lookup x = some .local := by first | exact .inl rfl | exact .inr rfl) : DG X vs (.Name x pos) (gN i) :=
  PG.imp (pg_name hN hi hx hf) fun v σ H Q ⟨G, F, m, sd, h, QD, d, R, S, rp, t, hQ⟩ => hQ _ _ (wipe_set hv) ⟨F, m, _, h, WLe.refl, R, SRel.set rp i S, t⟩
theorem dgs_nil : DGs X vs [] gTnil := PGs.imp pgs_nil fun v σ H Q ⟨G, F, m, sd, h, QD, d, R, S, rp, t, hQ⟩ => by
  cases rp with
  | nil => exact ⟨rfl, hQ _ _ rfl ⟨F, m, _, h, WLe.refl, R, S, t⟩⟩
  | cons _ _ => exact t.elim
theorem dgs_cons {e : Expr} {es : List Expr} {t : TGD} {u : TGDs} (h1 : DG X vs e t) (h2 : DGs X vs es u) (hs : (assignEach (e :: es) X.env).map (·.2) = assign e X.env :: (assignEach es X.env).map (·.2) := by rfl) : DGs X vs (e :: es) (gTcons t u) :=
  PGs.imp (pgs_cons h1 h2 hs) fun v σ H Q ⟨G, F, m, sd, h, QD, d, R, S, rp, t, hQ⟩ => by
    cases rp with
    | nil => exact t.elim
    | cons p r => exact ⟨_, _, rfl, G, F, m, sd, h, _, _, R, S, p, t, fun σ' H' w ⟨F', m', sd', h', le, R', S', q⟩ => ⟨G, F', m', sd', h', _, _, R', S', Rps.mono le r, q, fun σ2 H2 w2 z => hQ _ _ (w2.trans w) (z.mono le)⟩⟩
theorem dg_tup {es : List Expr} {k : Nat} {t : TGDs} {n : Nat} (h : DGs X vs es t) (hc : X.calm = true := by rfl) (hn : (assignEach es X.env).length = n := by rfl) (hst : (assignEach es X.env).findIdx? (·.1) = none := by rfl) : DG X vs (.Tuple es k pos) (gT n t) :=
  PG.imp (PG.or (pg_tup hc h hn hst) (pg_lst hc h hn hst)) fun v σ H Q ⟨G, F, m, sd, h, QD, d, R, S, rp, t, hQ⟩ => by
    unfold gT at t
    split at t
    · rename_i ds e
      obtain ⟨a, ws, rfl, hv, p⟩ := R.items rp e
      have fin : LGs X.K X.mg vs _ ws σ H Q := ⟨G, F, m, sd, h, QD, ds, R, S, p, t.2, hQ⟩
      rcases hv with hv | hv
      · exact .inr ⟨a, ws, rfl, hv, (Paired.len p).trans t.1, fin⟩
      · exact .inl ⟨a, ws, rfl, hv, (Paired.len p).trans t.1, fin⟩
    · exact t.elim
end
/-- target = value -/
def sAsg (g : TGD) (t : TED) : TSD := fun k sd h => t sd h (fun d h' => g d sd h' k.nx) (k.E sd)
def put (x : O) (i d : D) (k : O → Prop) : Prop := match x, i with
  | .lst xs, .int i => match ixN xs.length i with
    | some j => k (.lst (xs.set j d))
    | none => False
  | .dk ks xs, i => match toKey i with
    | some q => ks.length < sizeLine ∧ if hasK ks q = true then k (.dk ks ((ks.zip xs).map fun p => if p.1 = q then d else p.2)) else k (.dk (ks ++ [q]) (xs ++ [d]))
    | none => False
  | _, _ => False
/-- o[i] = e -/
def sSub (to ti te : TED) : TSD := fun k sd h => te sd h (fun d h1 => to sd h1 (fun o h2 => ti sd h2 (fun i h3 => match o with
  | .ref n => match h3[n]? with
    | some x => put x i d fun y => k.nx sd (h3.set n y)
    | none => False
  | _ => False) (k.E sd)) (k.E sd)) (k.E sd)
theorem any_zip {κ : Type} [DecidableEq κ] (q : κ) : ∀ {ks : List κ} {vs : List V}, ks.length = vs.length → ((ks.zip vs).any fun kv => decide (kv.1 = q)) = hasK ks q
  | [], [], _ => rfl
  | k :: ks, v :: vs, e => by
    have ih := any_zip q (ks := ks) (vs := vs) (by simpa using e)
    unfold hasK at ih ⊢
    rw [List.zip_cons_cons, List.any_cons, List.any_cons, ih]
theorem map_zip {κ : Type} [DecidableEq κ] (q : κ) (v : V) : ∀ {ks : List κ} {vs : List V}, ks.length = vs.length → (ks.zip vs).map (fun kv => if kv.1 = q then (kv.1, v) else kv) = ks.zip ((ks.zip vs).map fun p => if p.1 = q then v else p.2)
  | [], [], _ => rfl
  | k :: ks, w :: vs, e => by
    have ih := map_zip q v (ks := ks) (vs := vs) (by simpa using e)
    rw [List.zip_cons_cons, List.map_cons, List.map_cons, List.zip_cons_cons, ih]
    by_cases hk : k = q <;> simp [hk]
theorem putK_zip {κ : Type} [DecidableEq κ] (q : κ) (v : V) {ks : List κ} {vs : List V} (e : ks.length = vs.length) :
    putK (ks.zip vs) q v = if hasK ks q = true then ks.zip ((ks.zip vs).map fun p => if p.1 = q then v else p.2) else (ks ++ [q]).zip (vs ++ [v]) := by
  unfold putK
  rw [any_zip q e, map_zip q v e]
  split
  · rfl
  · rw [List.zip_append e]; rfl
theorem Rps.mapz {K mg} {F : Hp} {m : List Addr} {κ : Type} [DecidableEq κ] (q : κ) {v : V} {d : D} (p : Rp K mg F m v d) : ∀ {ks : List κ} {vs : List V} {ds : List D}, Rps K mg F m vs ds → Rps K mg F m ((ks.zip vs).map fun p => if p.1 = q then v else p.2) ((ks.zip ds).map fun p => if p.1 = q then d else p.2)
  | [], _, _, _ => .nil
  | _ :: _, _, _, .nil => .nil
  | k :: ks, _, _, .cons r rs => by
    rw [List.zip_cons_cons, List.zip_cons_cons, List.map_cons, List.map_cons]
    refine .cons ?_ (Rps.mapz q p rs)
    by_cases hk : k = q
    · simp [hk]; exact p
    · simp [hk]; exact r
theorem PSet.or {X : Cx} {t t' : TSet} (h : PSet X t) (h' : PSet X t') : PSet X (fun o i v H Q => t o i v H Q ∨ t' o i v H Q) := fun pins s σ H o i v ov iv u Q I r1 r2 r3 q => q.elim (h pins s σ H o i v ov iv u Q I r1 r2 r3) (h' pins s σ H o i v ov iv u Q I r1 r2 r3)
def rSetDD : TSet := fun o i v H Q => ∃ a H', o = .ref a ∧ DPut H a i v H' ∧ Q H'
theorem set_dictD {X : Cx} (hu : X.A.units + 1 < cLine) : PSet X rSetDD := fun pins s σ H o i v ov iv u Q I ro ri rv ⟨a, H', eo, g, q⟩ => by
  subst eo
  cases (show ov = Value.ref a from ro)
  exact d_setItem hu I g ri rv fun s' I' => ⟨H', I', q⟩
section
variable {X : Cx} {W : WX} {e o i : Expr} {te to ti : TED} {g : TGD} {tg : Expr} {vs : List Nat} {pos tpos : Pos}
theorem ds_asg (he : DE X W e te) (hg : DG X vs tg g) (hs : swapsWithSole [tg] e pos.line X.env = pure false := by rfl) (hw : swappedStores [tg] e X.env = pure none := by rfl)
    (h1 : (assignEach [tg] X.env).map (·.2) = [assign tg X.env] := by rfl) : DS X W (.Assign [tg] e pos) (sAsg g te) :=
  PS.imp (ps_asg he hg hs hw h1) fun D σ H ⟨G, F, m, sd, h, k, R, S, t, a⟩ => LE.step (a.at R S) t fun F' m' h' H' v d le a' rp q =>
    ⟨G, F', m', sd, h', _, d, a'.R, a'.S, rp, q, fun σ' H'' _ z => a.nx _ _ (z.mono le)⟩
theorem ds_sub (ho : DE X W o to) (hi : DE X W i ti) (he : DE X W e te) (hu : X.A.units + 64 < cLine) (hs : swapsWithSole [.Subscript o i tpos] e pos.line X.env = pure false := by rfl) (hw : swappedStores [.Subscript o i tpos] e X.env = pure none := by rfl)
    (h1 : (assignEach [.Subscript o i tpos] X.env).map (·.2) = [assign (.Subscript o i tpos) X.env] := by rfl)
    (ha : ∀ v, assign (.Subscript o i tpos) X.env v = (do
      let ov ← holding [v] (eval o X.env)
      let iv ← holding [v, ov] (eval i X.env)
      standAt tpos
      holding [v, ov, iv] (setItem ov iv v)
      release [v, ov, iv] []) := by intro _; rfl) : DS X W (.Assign [.Subscript o i tpos] e pos) (sSub to ti te) :=
  PS.imp (ps_asg he (pg_sub ho hi (PSet.or set_list (set_dictD (by omega))) ha) hs hw h1) fun D σ H ⟨G, F, m, sd, h, k, R, S, t, a⟩ =>
    LE.step (a.at R S) t fun F1 m1 h1 H1 v d le1 a1 rv q1 => LE.step a1 q1 fun F2 m2 h2 H2 ov od le2 a2 ro q2 => LE.step a2 q2 fun F3 m3 h3 H3 iv id le3 a3 ri q3 => by
      have le := le1.trans (le2.trans le3)
      have ro' := ro.mono le3
      have rv' := rv.mono (le2.trans le3)
      split at q3
      · rename_i n
        split at q3
        · rename_i x hx
          unfold put at q3
          split at q3
          · rename_i xs j
            cases ri
            cases ro' with
            | ref hn =>
            split at q3
            · rename_i z hz
              obtain ⟨b, ws, e1, e2, e3, p⟩ := a3.R.lst hx
              rw [hn] at e1; cases e1
              refine .inl ⟨_, ws, _, z, rfl, rfl, e3, by rw [Paired.len p]; exact hz, a.nx _ _ ⟨F3, m3, sd, _, le, a3.R.put hx (fun q => nomatch q) hn (.lst (Rps.set rv' z p)), a3.S, q3⟩⟩
            · exact q3.elim
          · rename_i ks xs
            cases ro' with
            | ref hn =>
            split at q3
            · rename_i q hq
              obtain ⟨b, e1, e2, r⟩ := a3.R.lv n _ hx (fun q => nomatch q)
              rw [hn] at e1; cases e1
              generalize z : H3 _ = oo at r
              cases r with
              | dk el p =>
                rename_i ws
                have ez : (ks.zip ws).length = ks.length := by rw [List.length_zip, el]; simp
                refine .inr ⟨_, _, rfl, .inl ⟨_, q, z, ri.key hq, by rw [ez]; exact q3.1, rfl⟩, ?_⟩
                rw [putK_zip q v el]
                have q4 := q3.2
                by_cases hk : hasK ks q = true
                · rw [if_pos hk] at q4 ⊢
                  have p' := Rps.mapz q rv' (ks := ks) p
                  exact a.nx _ _ ⟨F3, m3, sd, _, le, a3.R.put hx (fun q => nomatch q) hn (.dk (by simp [el]) p'), a3.S, q4⟩
                · rw [if_neg hk] at q4 ⊢
                  have p' : Rps X.K X.mg F3 m3 (ws ++ [v]) (xs ++ [d]) := p.snoc rv'
                  exact a.nx _ _ ⟨F3, m3, sd, _, le, a3.R.put hx (fun q => nomatch q) hn (.dk (by simp [el]) p'), a3.S, q4⟩
            · exact q3.elim
          · exact q3.elim
        · exact q3.elim
      · exact q3.elim
end
end DL
end

section
set_option maxRecDepth 100000
set_option maxHeartbeats 4000000
/-! enumerate of a tuple -/
namespace PySem
open Sem (wp)
theorem dl_enumerate_newB {v : Value} {o : Obj} {H : Heap → Prop} (B : Begins v o H) :
    Meets (Builtin.«enumerate.__new__» ⟨[.type "enumerate", v], []⟩) (fun _ R s => H s.heap ∧
      R (.ok (.ret (.ref (s.heap.push o).objs.size))) { s with heap := (s.heap.push o).push { cls := .type "enumerate", data := .fields #[.none, .bool false, .ref s.heap.objs.size, rawInt 0, .none, .none] } }) :=
  .of_wp fun prog w A R s h => by
    obtain ⟨hp, g, d, tk, os⟩ := s; obtain ⟨h1, h⟩ := h
    have hsub := sub_enumerate
    have q1 : ∀ {A' : Around} {E : Value → Shared → Prop} {Q : Value → Shared → Prop}, Q (.ref hp.objs.size) ⟨hp.push o, g, d, tk, os⟩ → wpAny (model prog w) A' (pyIter v) Q E ⟨hp, g, d, tk, os⟩ :=
      fun q => B.iter prog w _ _ ⟨hp, g, d, tk, os⟩ _ h1 q
    wp_walk using q1
    refine wpAny_stack_any fun st => wpAny_pure ?_
    split
    · rename_i c _ _ _ _ _
      cases (c == Value.type "enumerate")
      · wp_walk using q1
        exact ⟨_, rfl, h⟩
      · wp_walk using q1
        exact ⟨_, rfl, h⟩
    · wp_walk using q1
      exact ⟨_, rfl, h⟩
section
variable {prog : Program} {w : World} {A : Around} {E : Value → Shared → Prop} {s : Shared}
theorem dl_enum_begins {v : Value} {o : Obj} {H : Heap → Prop} {Q : Value → Shared → Prop} (B : Begins v o H) (h1 : H s.heap)
    (h : ∀ h', IsEnum h' (s.heap.objs.size + 1) s.heap.objs.size 0 .none → h'.get? s.heap.objs.size = some o → h'.objs.size = s.heap.objs.size + 2 →
      (∀ b o, s.heap.get? b = some o → h'.get? b = some o) → Q (.ref (s.heap.objs.size + 1)) { s with heap := h' }) :
    wpAny (model prog w) A (call (.type "enumerate") [v]) Q E s := by
  refine callType_new F.called_enumerate (by decide) (F.typeCall_enumerate_1 _) (F.newCall_enumerate_1 _) (fun obj => F.args_object_init_2 obj _) F.entry_enumerate_new
    (dl_enumerate_newB B) ⟨h1, ?_⟩
  have hz : (s.heap.push o).objs.size = s.heap.objs.size + 1 := Heap.size_push ..
  show _ ∧ _
  rw [hz]
  have he : IsEnum ((s.heap.push o).push { cls := .type "enumerate", data := .fields #[.none, .bool false, .ref s.heap.objs.size, rawInt 0, .none, .none] }) (s.heap.objs.size + 1) s.heap.objs.size 0 .none := by
    have := Heap.get?_push_size (s.heap.push o) (o := { cls := .type "enumerate", data := .fields #[.none, .bool false, .ref s.heap.objs.size, rawInt 0, .none, .none] }) rfl
    rw [hz] at this; exact this
  refine ⟨⟨_, he, rfl⟩, h _ he (Heap.get?_push_of_some _ (Heap.get?_push_size _ B.free)) (by rw [Heap.size_push, hz]) fun b o x => Heap.get?_push_of_some _ (Heap.get?_push_of_some _ x)⟩
end
end PySem
namespace L2
open PySem PySem.Spec PyProof.Rows
def IteT (K : PySem.W.Frag) (a : Addr) : It :=
  ⟨fun i H => ∃ (xs : List V) (x : V), SqT K H a xs ∧ xs[i]? = some x, fun i H v H' => ∃ T x, v = .ref T ∧ H T = none ∧ H' = upd H T (.tup [.int (i : Nat), x]) ∧ ∀ xs, SqT K H a xs → xs[i]? = some x, fun i H => ∃ xs : List V, SqT K H a xs ∧ xs.length = i⟩
theorem tup_ne_iter {h : Heap} {a it : Addr} {its : Array Value} {i : Nat} {t : Addr} (p : IsTup h a its) (q : h.IsTupleIter it t i) : a ≠ it := by
  rintro rfl
  obtain ⟨o, e, c, _⟩ := p
  obtain ⟨o', e', c', _⟩ := q
  rw [e] at e'; cases e'
  rw [c] at c'
  exact absurd c' (by decide)
theorem tup_ne_enum {h : Heap} {a e it : Addr} {its : Array Value} {i : Int} {old : Value} (p : IsTup h a its) (q : IsEnum h e it i old) : a ≠ e := by
  rintro rfl
  obtain ⟨o, e1, c, _⟩ := p
  have q' := e1.symm.trans q
  cases q'
  exact absurd (show Value.type "enumerate" = Value.type "tuple" from c) (by decide)
theorem turn_enumT {P : Program} {w : World} {K : PySem.W.Frag} {elts : List Expr} {kk : Nat} {tpos : Pos} (a e it : Addr) :
    Turn P w K (.Tuple elts kk tpos) (IteT K a) [e, it] e (fun i h => (∃ old, IsEnum h e it ((i : Nat) : Int) old) ∧ h.IsTupleIter it a i ∧ e ≠ it) where
  mem := by simp
  obj := fun i h st b hb => by
    obtain ⟨⟨old, he⟩, ⟨o, ho, hc, hd⟩, _⟩ := st
    have e' : b = e ∨ b = it := by simpa using hb
    rcases e' with z | z
    · rw [z]; exact ⟨_, he, fun v q => nomatch q⟩
    · rw [z]; exact ⟨o, ho, fun v q => by rw [hd] at q; cases q⟩
  keep := fun i h h' st k => let ⟨⟨old, he⟩, hi, hne⟩ := st; ⟨⟨old, k e (by simp) _ he⟩, hi.at fun o q => k it (by simp) o q, hne⟩
  item := by
    intro X hP hw hK hc i pins s σ H E I hf st hg
    subst hP hw hK
    obtain ⟨⟨old, he⟩, hit, hne⟩ := st
    obtain ⟨xs, x, hq, hx⟩ := hg
    obtain ⟨its, rv, p, hz⟩ := I.tuple hq
    obtain ⟨u, hu, ru⟩ := rv.get hx
    have hel : e < s.heap.objs.size := Heap.lt_size he
    have hil : it < s.heap.objs.size := by obtain ⟨_, q, _⟩ := hit; exact Heap.lt_size q
    have ha : a ≠ it := tup_ne_iter p hit
    have hae : a ≠ e := tup_ne_enum p he
    have hil' : i < its.toArray.size := by
      have := (List.getElem?_eq_some_iff.mp hu).1
      simpa using this
    refine wpAny_pyNext_enum_itemD (Draws.tuple (prog := X.prog) (w := X.w) (A := X.A.in1) (I.ok.hd hc) it a ha its.toArray) he ⟨hit, p⟩ hil' hne (by simp [Ne.symm hae, hne]) fun y h' tk hP ho hst' hT hsz hk => ?_
    have ey : y = u := by
      have h1 : its.toArray[i]? = some y := hP
      rw [List.getElem?_toArray, hu] at h1
      exact (Option.some.inj h1).symm
    subst ey
    refine ⟨_, rfl, wpAny_letOwnedTupleGo_enum (s := { s with heap := h', toks := tk + 1 }) ho fun h'' he' sb => ?_⟩
    have hT2 : h''.get? s.heap.objs.size = some { cls := .type "tuple", data := .seq #[.int i tk, y] } := (sb.2 _ (Nat.ne_of_gt hel)).trans hT
    have new : ObjOk X.prog X.w (upd H s.heap.objs.size (.tup [.int (i : Nat), x])) h'' s.heap.objs.size (.tup [.int (i : Nat), x]) :=
      ⟨by show 2 ≤ sizeLine; decide, [.int i tk, y], .cons ⟨_, rfl⟩ (.cons ru .nil), ⟨_, hT2, rfl, _, rfl⟩⟩
    have I1 : Inv X pins σ (upd H s.heap.objs.size (.tup [.int (i : Nat), x])) { s with heap := h'', toks := tk + 1 } :=
      I.turnedNew (ch := [e, it]) (fun b ob hb q => (sb.2 b (fun z => hb (by simp [z]))).trans (hk b ob (fun z => hb (by simp [z])) (fun z => hb (by simp [z])) q)) hf (Nat.le_refl _) new
    refine ⟨.ref s.heap.objs.size, _, I1, rfl, ⟨_, x, rfl, I.hok.fresh (Nat.le_refl _), rfl, fun ys hy => by rw [I.tuple_inj hy hq]; exact hx⟩, ⟨⟨y, ?_⟩, hst'.1.at fun o q => (sb.2 it (Ne.symm hne)).trans q, hne⟩, fun b hb => ?_⟩
    · have e1 : ((i + 1 : Nat) : Int) = (i : Int) + 1 := by omega
      rw [e1]; exact he'
    · have hb' : b < s.heap.objs.size := by
        have e' : b = e ∨ b = it := by simpa using hb
        rcases e' with z | z
        · rw [z]; exact hel
        · rw [z]; exact hil
      rw [upd_ne (Nat.ne_of_lt hb')]
      exact (hf b hb).1
  done := by
    intro X hP hw hK hc i pins s σ H E I hf st hg
    subst hP hw hK
    obtain ⟨⟨old, he⟩, hit, hne⟩ := st
    obtain ⟨xs, hq, hx⟩ := hg
    obtain ⟨its, rv, p, hz⟩ := I.tuple hq
    obtain ⟨f0, f1, f2, f3, f4, f5⟩ := hf it (by simp)
    have hl := rv.length
    have ha : a ≠ it := tup_ne_iter p hit
    have es : i = its.toArray.size := by rw [List.size_toArray, ← hl, hx]
    subst es
    exact wpAny_pyNext_enum_endD (Draws.tuple (prog := X.prog) (w := X.w) (A := X.A.in1) (I.ok.hd hc) it a ha its.toArray) he ⟨hit, p⟩ fun h' eb => ⟨rfl, I.turned (t' := s.toks) (fun b o hb q => eb b o hb q) f0 f1 f3 f4 f5⟩
  self := fun A i s Q E st h => let ⟨⟨_, he⟩, _⟩ := st; wpAny_pyIter_enum he h
/-- enumerate of a list or a tuple -/
def iEnumA (K : PySem.W.Frag) (ta : TA) : TI := fun σ H R => ta σ H fun vs H1 => ∃ a xs, vs = [.ref a] ∧ xs.length ≤ xs.length ∧ ((SqL K H1 a xs ∧ (xs.length ≤ sizeLine → R (Ite K a) H1)) ∨ (SqT K H1 a xs ∧ (xs.length ≤ sizeLine → R (IteT K a) H1)))
theorem pi_enumA {X : Cx} {e : Expr} {ta : TA} {p pos tpos : Pos} {elts : List Expr} {kk : Nat} (hg : Gl X "enumerate") (hm : X.mg "enumerate" = none) (ha : PA X [e] ta) (hs : starEach [e] X.env = [(false, eval e X.env)] := by rfl) :
    PI X (.Tuple elts kk tpos) (.Call (.Name "enumerate" p) [e] [] pos) (iEnumA X.K ta) := by
  refine ⟨fun pins s σ H R I h => ?_⟩
  refine Call_ (ld_blt I hg hm boot_enumerate (PyProof.Rows.callWith_type1 (thn (ha.run pos pins s σ H _ I h) fun us s1 ⟨vs, H1, I1, r1, q1⟩ => ?_) hs rfl))
  obtain ⟨a, xs, ex, _, q⟩ := q1
  subst ex
  cases r1 with
  | cons r rr =>
    cases rr
    cases r
    have fin : ∀ b ∈ [s1.heap.objs.size + 1, s1.heap.objs.size], FpOk X pins H1 b := fun b hb => by
      have e' : b = s1.heap.objs.size + 1 ∨ b = s1.heap.objs.size := by simpa using hb
      have hle : s1.heap.objs.size ≤ b := by
        rcases e' with z | z
        · rw [z]; exact Nat.le_add_right _ _
        · rw [z]; exact Nat.le_refl _
      exact I1.fpOk hle (I1.hok.fresh hle)
    rcases q with ⟨hq, q⟩ | ⟨hq, q⟩
    · obtain ⟨its, rv, p', hz⟩ := I1.list hq
      refine call_enumerate_list p'.isList fun h' he hit hsz hk => wpAny_pyIter_enum he ?_
      have I2 : Inv X pins σ H1 { s1 with heap := h' } := I1.kept (t' := s1.toks) hk
      exact ⟨s1.heap.objs.size + 1, [s1.heap.objs.size + 1, s1.heap.objs.size], _, _, H1, rfl, I2, turn_enum a (s1.heap.objs.size + 1) s1.heap.objs.size, ⟨⟨.none, he⟩, hit, Nat.succ_ne_self _⟩, fin, q hz⟩
    · obtain ⟨its, rv, p', hz⟩ := I1.tuple hq
      refine dl_enum_begins (begins_tuple a its.toArray) (show s1.heap.IsTuple a its.toArray from p') fun h' he hit hsz hk => wpAny_pyIter_enum he ?_
      have I2 : Inv X pins σ H1 { s1 with heap := h' } := I1.kept (t' := s1.toks) hk
      exact ⟨s1.heap.objs.size + 1, [s1.heap.objs.size + 1, s1.heap.objs.size], _, _, H1, rfl, I2, turn_enumT a (s1.heap.objs.size + 1) s1.heap.objs.size, ⟨⟨.none, he⟩, ⟨_, hit, rfl, rfl⟩, Nat.succ_ne_self _⟩, fin, q hz⟩
/-- a list or a tuple walked -/
def iSeqA (K : PySem.W.Frag) (tl : TE) : TI := fun σ H R => tl σ H fun x H1 => ∃ a xs, x = .ref a ∧ ((SqL K H1 a xs ∧ (xs.length ≤ sizeLine → R (Itl K a) H1)) ∨ (SqT K H1 a xs ∧ (xs.length ≤ sizeLine → R (Itt K a) H1)))
theorem pi_seqA {X : Cx} {tg l : Expr} {tl : TE} (hl : PE X l tl) : PI X tg l (iSeqA X.K tl) := by
  refine ⟨fun pins s σ H R I h => ?_⟩
  refine thn (hl.run pins s σ H _ I h) fun v s1 ⟨x, H1, I1, r1, q1⟩ => ?_
  obtain ⟨a, xs, e, q⟩ := q1
  subst e
  cases r1
  have fin : ∀ b ∈ [s1.heap.objs.size], FpOk X pins H1 b := fun b hb => by
    have e : b = s1.heap.objs.size := by simpa using hb
    subst e
    exact I1.fpOk (Nat.le_refl _) (I1.hok.fresh (Nat.le_refl _))
  rcases q with ⟨hq, q⟩ | ⟨hq, q⟩
  · obtain ⟨its, rv, p, hz⟩ := I1.list hq
    refine wpAny_pyIter_list p.isList ?_
    exact ⟨s1.heap.objs.size, [s1.heap.objs.size], _, _, H1, rfl, I1.kept (t' := s1.toks) fun b o e => Heap.get?_push_of_some _ e, turn_list a _, ⟨_, Heap.get?_push_size _ rfl, rfl, rfl⟩, fin, q hz⟩
  · obtain ⟨its, rv, p, hz⟩ := I1.tuple hq
    refine wpAny_pyIter_tuple (show s1.heap.IsTuple a its.toArray from p) ?_
    exact ⟨s1.heap.objs.size, [s1.heap.objs.size], _, _, H1, rfl, I1.kept (t' := s1.toks) fun b o e => Heap.get?_push_of_some _ e, turn_tuple a _, ⟨_, Heap.get?_push_size _ rfl, rfl, rfl⟩, fin, q hz⟩
end L2
end

section
set_option maxRecDepth 100000
set_option maxHeartbeats 4000000
namespace DL
open PySem PySem.Spec L2
variable [TB]
/-! ## while -/
def sWhile (c : TTD) (tb : TSD) : TSD := fun k sd h => ∃ I : Nat → Sg → DH → Prop, (∃ n, I n sd h) ∧ ∀ n sd h, I n sd h →
  c sd h (fun b h1 => if b = true then tb { k with nx := fun s h => ∃ j, j < n ∧ I j s h, ct := fun s h => ∃ j, j < n ∧ I j s h, bk := k.nx } sd h1 else k.nx sd h1) (k.E sd)
section
variable {X : Cx} {W : WX} {pos : Pos}
theorem ds_while {c : Expr} {body : List Stmt} {tc : TTD} {tb : TSD} (hp : PassesOwn (model X.prog X.w) X.A X.env X.xe) (hc : DT X W c tc) (hb : DSs X W body tb) : DS X W (.While c body [] pos) (sWhile tc tb) :=
  PS.imp (ps_while hp hc hb) fun D σ H ⟨G, F, m, sd, h, k, R, S, ⟨I, ⟨n0, i0⟩, step⟩, a⟩ => by
    refine ⟨fun n σ H => ∃ F' m' sd' h', WLe F m F' m' ∧ Rel X.K X.mg G F' m' h' H ∧ SRel X.K X.mg F' m' σ sd' ∧ I n sd' h', ⟨n0, F, m, sd, h, WLe.refl, R, S, i0⟩, ?_⟩
    rintro n σ' H' ⟨F', m', sd', h', le, R', S', i'⟩
    refine LT.step ((a.mv le).at R' S') (step n sd' h' i') fun F2 m2 h2 H2 b le2 a2 q => ?_
    cases b with
    | false => rw [if_neg Bool.false_ne_true] at q ⊢; exact a.nx _ _ ⟨F2, m2, sd', h2, le.trans le2, a2.R, a2.S, q⟩
    | true =>
      rw [if_pos rfl] at q ⊢
      have lt := le.trans le2
      refine ⟨fun σ' H' => ∃ j, j < n ∧ ∃ F' m' sd' h', WLe F m F' m' ∧ Rel X.K X.mg G F' m' h' H' ∧ SRel X.K X.mg F' m' σ' sd' ∧ I j sd' h', fun σ' H' z => z, ?_⟩
      refine ⟨G, F2, m2, sd', h2, _, a2.R, a2.S, q, ?_, fun v H q => a.rt _ _ (q.mono lt), fun s H q => a.nx _ _ (q.mono lt), ?_, fun c d s H q => a.er _ _ _ _ (q.mono lt)⟩
      · rintro σ3 H3 ⟨F3, m3, sd3, h3, le3, R3, S3, j, hj, i3⟩
        exact ⟨j, hj, F3, m3, sd3, h3, lt.trans le3, R3, S3, i3⟩
      · rintro σ3 H3 ⟨F3, m3, sd3, h3, le3, R3, S3, j, hj, i3⟩
        exact ⟨j, hj, F3, m3, sd3, h3, lt.trans le3, R3, S3, i3⟩
end
/-! ## what is walked -/
abbrev QIt := List D → (DH → Prop) → DH → Prop
abbrev TID := Sg → DH → QIt → ED → Prop
/-- the iterator J gives the items, while keep holds of the small heap -/
def Yields (K : PySem.W.Frag) (mg : Str → Option Value) (G F : Hp) (m : List Addr) (items : List D) (keep : DH → Prop) (J : It) : Prop :=
  items.length ≤ sizeLine ∧ ∀ (G2 F2 : Hp) (m2 : List Addr) (h2 : DH) (H2 : Hp) (i : Nat), WLe F m F2 m2 → True → Rel K mg G2 F2 m2 h2 H2 → keep h2 →
    (i < items.length → J.go i H2 ∧ ∀ x H3, J.yld i H2 x H3 → ∃ F3 d, WLe F2 m2 F3 m2 ∧ Rel K mg G2 F3 m2 h2 H3 ∧ items[i]? = some d ∧ Rp K mg F3 m2 x d) ∧ (items.length ≤ i → i ≤ items.length → J.stop i H2)
def QI (K : PySem.W.Frag) (mg : Str → Option Value) (G F : Hp) (m : List Addr) (Q : QIt) : It → Hp → Prop := fun J H' => ∃ F' m' h' items keep, WLe F m F' m' ∧ Rel K mg G F' m' h' H' ∧ Yields K mg G F' m' items keep J ∧ Q items keep h'
def LI (K : PySem.W.Frag) (mg : Str → Option Value) (W : WX) (t : TID) : TI := fun σ H R => ∃ G F m sd h QD E, At K mg G W F m sd h σ H E ∧ t sd h QD E ∧ ∀ J H', QI K mg G F m QD J H' → R J H'
def DI (X : Cx) (W : WX) (tg iter : Expr) (t : TID) : Prop := PI X tg iter (LI X.K X.mg W t)
theorem PI.imp {X : Cx} {tg iter : Expr} {t t' : TI} (p : PI X tg iter t) (h : ∀ σ H R, t' σ H R → t σ H R) : PI X tg iter t' := ⟨fun pins s σ H R I q => p.run pins s σ H R I (h σ H R q)⟩
theorem PI.or {X : Cx} {tg iter : Expr} {t t' : TI} (p : PI X tg iter t) (p' : PI X tg iter t') : PI X tg iter (fun σ H R => t σ H R ∨ t' σ H R) := ⟨fun pins s σ H R I q => q.elim (p.run pins s σ H R I) (p'.run pins s σ H R I)⟩
/-- the list or tuple stands as it is -/
def keepOf (d : D) (xs : List D) : DH → Prop := match d with
  | .ref _ => fun h => itemsOf d h = some xs
  | _ => fun _ => True
/-- a list, a tuple -/
def iSeq (t : TED) : TID := fun sd h Q E => t sd h (fun d h1 => match itemsOf d h1 with
  | some xs => Q xs (keepOf d xs) h1
  | none => False) E
def rngL (lo : Int) (n : Nat) : List D := (List.range n).map fun i => D.int (lo + (i : Nat))
/-- enumerate(..), range(..), zip(..) -/
def iCall (f : List D → DH → QIt → Prop) (t : TAD) : TID := fun sd h Q E => t sd h (fun ds h1 => f ds h1 Q) E
def wRange1 : List D → DH → QIt → Prop := fun ds h Q => match ds with
  | [.int j] => (-1000000 ≤ j ∧ j ≤ 1000000) ∧ Q (rngL 0 j.toNat) (fun _ => True) h
  | _ => False
def wRange2 : List D → DH → QIt → Prop := fun ds h Q => match ds with
  | [.int i, .int j] => (-1000000 ≤ i ∧ i ≤ 1000000 ∧ -1000000 ≤ j ∧ j ≤ 1000000) ∧ Q (rngL i (j - i).toNat) (fun _ => True) h
  | _ => False
section
variable {K : PySem.W.Frag} {mg : Str → Option Value} {G F : Hp} {m : List Addr} {h : DH} {H : Hp}
/-- a list that stands in the small heap, or is never changed -/
theorem yields_lst {v : V} {d : D} {xs : List D} (r : Rp K mg F m v d) (e : listOf d h = some xs) (R : Rel K mg G F m h H) (hz : xs.length ≤ sizeLine) : ∃ a, v = .ref a ∧ Yields K mg G F m xs (keepOf d xs) (Itl K a) := by
  obtain ⟨a, vs, rfl, _, _⟩ := R.listOf r e
  refine ⟨a, rfl, hz, fun G2 F2 m2 h2 H2 i le sg R2 kp => ?_⟩
  have e2 : listOf d h2 = some xs := by
    cases d <;> first
      | exact e
      | (simp only [keepOf, itemsOf] at kp; simp only [listOf]; exact kp)
  obtain ⟨a', ws, ea, hw, p⟩ := R2.listOf (r.mono le) e2
  cases ea
  refine ⟨fun hi => ?_, fun hi _ => ⟨ws, hw, by rw [Paired.len p]; exact hi⟩⟩
  have hx : xs[i]? = some xs[i] := List.getElem?_eq_getElem hi
  obtain ⟨y, ey, rp⟩ := Rps.get p hx
  refine ⟨⟨ws, y, hw, ey⟩, ?_⟩
  rintro x H3 ⟨rfl, hy⟩
  have := hy ws hw
  rw [ey] at this; cases this
  exact ⟨F2, _, WLe.refl, R2, hx, rp⟩
theorem yields_tup {xs : List D} {a : Addr} {vs : List V} (s : TupAt K F a vs) (p : Rps K mg F m vs xs) (hz : xs.length ≤ sizeLine) : Yields K mg G F m xs (fun _ => True) (Itt K a) := by
  refine ⟨hz, fun G2 F2 m2 h2 H2 i le sg R2 kp => ?_⟩
  have hw : SqT K H2 a vs := sqT_mono (le.f.trans R2.sf) s
  have p2 := Rps.mono le p
  refine ⟨fun hi => ?_, fun hi _ => ⟨vs, hw, by rw [Paired.len p]; exact hi⟩⟩
  have hx : xs[i]? = some xs[i] := List.getElem?_eq_getElem hi
  obtain ⟨y, ey, rp⟩ := Rps.get p2 hx
  refine ⟨⟨vs, y, hw, ey⟩, ?_⟩
  rintro x H3 ⟨rfl, hy⟩
  have := hy vs hw
  rw [ey] at this; cases this
  exact ⟨F2, _, WLe.refl, R2, hx, rp⟩
theorem rngL_get {lo : Int} {n i : Nat} (h : i < n) : (rngL lo n)[i]? = some (.int (lo + (i : Nat))) := by
  unfold rngL
  rw [List.getElem?_map, List.getElem?_range h]; rfl
theorem yields_range (lo : Int) (n : Nat) (hz : n ≤ sizeLine) : Yields K mg G F m (rngL lo n) (fun _ => True) (Itr lo n) := by
  have hl : (rngL lo n).length = n := by unfold rngL; rw [List.length_map, List.length_range]
  refine ⟨by rw [hl]; exact hz, fun G2 F2 m2 h2 H2 i le sg R2 kp => ⟨fun hi => ⟨by rw [hl] at hi; exact hi, ?_⟩, fun hi _ => by rw [hl] at hi; exact hi⟩⟩
  rintro x H3 ⟨rfl, rfl⟩
  exact ⟨F2, _, WLe.refl, R2, rngL_get (by rw [hl] at hi; exact hi), .int _⟩
theorem Yields.mono {items : List D} {keep keep' : DH → Prop} {J : It} (y : Yields K mg G F m items keep J) (h : ∀ x, keep' x → keep x) : Yields K mg G F m items keep' J :=
  ⟨y.1, fun G2 F2 m2 h2 H2 i le sg R2 kp => y.2 G2 F2 m2 h2 H2 i le sg R2 (h _ kp)⟩
def enumL (xs : List D) : List D := (List.range xs.length).zipWith (fun i x => D.tup [.int (i : Nat), x]) xs
theorem enumL_length (xs : List D) : (enumL xs).length = xs.length := by unfold enumL; simp
theorem enumL_get {xs : List D} {i : Nat} {x : D} (h : xs[i]? = some x) : (enumL xs)[i]? = some (.tup [.int (i : Nat), x]) := by
  have hi := (List.getElem?_eq_some_iff.mp h).1
  unfold enumL
  rw [List.getElem?_zipWith, List.getElem?_range hi, h]
theorem rp_pair {F : Hp} {m : List Addr} {T : Addr} {x y : V} {d e : D} (R : Rel K mg G F m h H) (hT : H T = none) (p : Rp K mg F m x d) (q : Rp K mg F m y e) :
    ∃ F', WLe F m F' m ∧ Rel K mg G F' m h (upd H T (.tup [x, y])) ∧ Rp K mg F' m (.ref T) (.tup [d, e]) := R.tupN hT (.cons p (.cons q .nil))
theorem yields_enumL {v : V} {d : D} {xs : List D} (r : Rp K mg F m v d) (e : listOf d h = some xs) (R : Rel K mg G F m h H) (hz : xs.length ≤ sizeLine) : ∃ a, v = .ref a ∧ Yields K mg G F m (enumL xs) (keepOf d xs) (Ite K a) := by
  obtain ⟨a, vs, rfl, _, _⟩ := R.listOf r e
  refine ⟨a, rfl, by rw [enumL_length]; exact hz, fun G2 F2 m2 h2 H2 i le sg R2 kp => ?_⟩
  have e2 : listOf d h2 = some xs := by
    cases d <;> first
      | exact e
      | (simp only [keepOf, itemsOf] at kp; simp only [listOf]; exact kp)
  obtain ⟨a', ws, ea, hw, p⟩ := R2.listOf (r.mono le) e2
  cases ea
  rw [enumL_length]
  refine ⟨fun hi => ?_, fun hi _ => ⟨ws, hw, by rw [Paired.len p]; exact hi⟩⟩
  have hx : xs[i]? = some xs[i] := List.getElem?_eq_getElem hi
  obtain ⟨y, ey, rp⟩ := Rps.get p hx
  refine ⟨⟨ws, y, hw, ey⟩, ?_⟩
  rintro x H3 ⟨T, z, rfl, hT, rfl, hy⟩
  have := hy ws hw
  rw [ey] at this; cases this
  obtain ⟨F', l1, R', q⟩ := rp_pair R2 hT (.int (i : Nat)) rp
  exact ⟨F', _, l1, R', enumL_get hx, q⟩
theorem yields_enumT {a : Addr} {vs : List V} {xs : List D} (s : TupAt K F a vs) (p : Rps K mg F m vs xs) (hz : xs.length ≤ sizeLine) : Yields K mg G F m (enumL xs) (fun _ => True) (IteT K a) := by
  refine ⟨by rw [enumL_length]; exact hz, fun G2 F2 m2 h2 H2 i le sg R2 kp => ?_⟩
  have hw : SqT K H2 a vs := sqT_mono (le.f.trans R2.sf) s
  have p2 := Rps.mono le p
  rw [enumL_length]
  refine ⟨fun hi => ?_, fun hi hi2 => ⟨vs, hw, by rw [Paired.len p]; omega⟩⟩
  have hx : xs[i]? = some xs[i] := List.getElem?_eq_getElem hi
  obtain ⟨y, ey, rp⟩ := Rps.get p2 hx
  refine ⟨⟨vs, y, hw, ey⟩, ?_⟩
  rintro x H3 ⟨T, z, rfl, hT, rfl, hy⟩
  have := hy vs hw
  rw [ey] at this; cases this
  obtain ⟨F', l1, R', q⟩ := rp_pair R2 hT (.int (i : Nat)) rp
  exact ⟨F', _, l1, R', enumL_get hx, q⟩
def zipL (xs ys : List D) : List D := xs.zipWith (fun x y => D.tup [x, y]) ys
theorem zipL_length (xs ys : List D) : (zipL xs ys).length = min xs.length ys.length := by unfold zipL; simp
theorem zipL_get {xs ys : List D} {i : Nat} {x y : D} (h : xs[i]? = some x) (h' : ys[i]? = some y) : (zipL xs ys)[i]? = some (.tup [x, y]) := by
  unfold zipL
  rw [List.getElem?_zipWith, h, h']
theorem yields_zipL {v w : V} {d e : D} {xs ys : List D} (r : Rp K mg F m v d) (r' : Rp K mg F m w e) (ex : listOf d h = some xs) (ey : listOf e h = some ys) (R : Rel K mg G F m h H) (hz : xs.length ≤ sizeLine) :
    ∃ a b, v = .ref a ∧ w = .ref b ∧ Yields K mg G F m (zipL xs ys) (fun h => keepOf d xs h ∧ keepOf e ys h) (Itz K a b) := by
  obtain ⟨a, vs, rfl, _, _⟩ := R.listOf r ex
  obtain ⟨b, ws, rfl, _, _⟩ := R.listOf r' ey
  refine ⟨a, b, rfl, rfl, by rw [zipL_length]; omega, fun G2 F2 m2 h2 H2 i le sg R2 kp => ?_⟩
  have keepL : ∀ {d : D} {xs : List D}, listOf d h = some xs → keepOf d xs h2 → listOf d h2 = some xs := fun {d xs} e kp => by
    cases d <;> first
      | exact e
      | (simp only [keepOf, itemsOf] at kp; simp only [listOf]; exact kp)
  obtain ⟨a', vs, ea, hv, p⟩ := R2.listOf (r.mono le) (keepL ex kp.1)
  cases ea
  obtain ⟨b', ws, eb, hw, q⟩ := R2.listOf (r'.mono le) (keepL ey kp.2)
  cases eb
  rw [zipL_length]
  refine ⟨fun hi => ?_, fun hi _ => ⟨vs, ws, hv, hw, by rw [Paired.len p, Paired.len q]; omega⟩⟩
  have hx : xs[i]? = some (xs[i]'(by omega)) := List.getElem?_eq_getElem _
  have hy : ys[i]? = some (ys[i]'(by omega)) := List.getElem?_eq_getElem _
  obtain ⟨x1, e1, rp⟩ := Rps.get p hx
  obtain ⟨y1, e2, rq⟩ := Rps.get q hy
  refine ⟨⟨vs, ws, x1, y1, hv, hw, e1, e2⟩, ?_⟩
  rintro x H3 ⟨T, z1, z2, rfl, hT, rfl, g1, g2⟩
  have := g1 vs hv
  rw [e1] at this; cases this
  have := g2 ws hw
  rw [e2] at this; cases this
  obtain ⟨F', l1, R', q⟩ := rp_pair R2 hT rp rq
  exact ⟨F', _, l1, R', zipL_get hx hy, q⟩
theorem yields_zipT {a b : Addr} {vs ws : List V} {xs ys : List D} (s : TupAt K F a vs) (s' : TupAt K F b ws) (p : Rps K mg F m vs xs) (q : Rps K mg F m ws ys) (hz : xs.length ≤ sizeLine) : Yields K mg G F m (zipL xs ys) (fun _ => True) (RZ.ItzT K a b) := by
  refine ⟨by rw [zipL_length]; omega, fun G2 F2 m2 h2 H2 i le sg R2 kp => ?_⟩
  have hv : SqT K H2 a vs := sqT_mono (le.f.trans R2.sf) s
  have hw : SqT K H2 b ws := sqT_mono (le.f.trans R2.sf) s'
  have p2 := Rps.mono le p
  have q2 := Rps.mono le q
  rw [zipL_length]
  refine ⟨fun hi => ?_, fun hi _ => ⟨vs, ws, hv, hw, by rw [Paired.len p, Paired.len q]; omega⟩⟩
  have hx : xs[i]? = some (xs[i]'(by omega)) := List.getElem?_eq_getElem _
  have hy : ys[i]? = some (ys[i]'(by omega)) := List.getElem?_eq_getElem _
  obtain ⟨x1, e1, rp⟩ := Rps.get p2 hx
  obtain ⟨y1, e2, rq⟩ := Rps.get q2 hy
  refine ⟨⟨vs, ws, x1, y1, hv, hw, e1, e2⟩, ?_⟩
  rintro x H3 ⟨T, z1, z2, rfl, hT, rfl, g1, g2⟩
  have := g1 vs hv
  rw [e1] at this; cases this
  have := g2 ws hw
  rw [e2] at this; cases this
  obtain ⟨F', l1, R', q⟩ := rp_pair R2 hT rp rq
  exact ⟨F', _, l1, R', zipL_get hx hy, q⟩
end
/-- the tuple, or the list -/
def tupOf (d : D) : Option (List D) := match d with
  | .tup xs => some xs
  | _ => none
theorem itemsOf_cases {d : D} {h : DH} {xs : List D} (e : itemsOf d h = some xs) : d = .tup xs ∨ listOf d h = some xs := by
  cases d <;> first
    | exact .inr e
    | (cases e; exact .inl rfl)
    | cases e
section
variable {X : Cx} {W : WX} {tg e e2 : Expr} {te tu : TED} {ta : TAD} {p pos tpos : Pos} {elts : List Expr} {kk : Nat}
theorem di_seq (he : DE X W e te) : DI X W tg e (iSeq te) :=
  PI.imp (pi_seqA he) fun σ H R ⟨G, F, m, sd, h, QD, E, at_, t, hQ⟩ => LE.step at_ t fun F' m' h' H' v d le a' rp q => by
    split at q
    · rename_i xs ei
      rcases itemsOf_cases ei with rfl | el
      · cases rp with
        | tup s p =>
          rename_i a vs
          refine ⟨a, vs, rfl, .inr ⟨sqT_mono a'.R.sf s, fun hz => hQ _ _ ⟨F', m', h', xs, _, le, a'.R, yields_tup s p (by rw [← Paired.len p]; exact hz), q⟩⟩⟩
      · obtain ⟨a, vs, rfl, hv, p⟩ := a'.R.listOf rp el
        refine ⟨a, vs, rfl, .inl ⟨hv, fun hz => ?_⟩⟩
        obtain ⟨a2, e2, y⟩ := yields_lst rp el a'.R (by rw [← Paired.len p]; exact hz)
        cases e2
        exact hQ _ _ ⟨F', m', h', xs, _, le, a'.R, y, q⟩
    · exact q.elim
end
theorem PA.sz {X : Cx} {es : List Expr} {t : TA} (p : PA X es t) : PA X es (fun σ H Q => t σ H fun vs H1 => (∀ a xs, (SqL X.K H1 a xs ∨ SqT X.K H1 a xs) → xs.length ≤ sizeLine) → Q vs H1) :=
  ⟨fun pos pins s σ H Q I q => thn (p.run pos pins s σ H _ I q) fun u s' ⟨v, H', I', r, z⟩ => ⟨v, H', I', r, z fun a xs hv => by
    rcases hv with hv | hv
    · obtain ⟨_, _, _, z⟩ := I'.list hv; exact z
    · obtain ⟨_, _, _, z⟩ := I'.tuple hv; exact z⟩⟩
def wEnum : List D → DH → QIt → Prop := fun ds h Q => match ds with
  | [d] => match itemsOf d h with
    | some xs => Q (enumL xs) (keepOf d xs) h
    | none => False
  | _ => False
def wZip : List D → DH → QIt → Prop := fun ds h Q => match ds with
  | [d, e] => match d, e with
    | .tup xs, .tup ys => Q (zipL xs ys) (fun _ => True) h
    | d, e => match listOf d h, listOf e h with
      | some xs, some ys => Q (zipL xs ys) (fun h => keepOf d xs h ∧ keepOf e ys h) h
      | _, _ => False
  | _ => False
section
variable {X : Cx} {W : WX} {tg a b : Expr} {ta : TAD} {p pos tpos : Pos} {elts : List Expr} {kk : Nat}
theorem di_enum (ha : DA X W [a] ta) (hg : Gl X "enumerate") (hm : X.mg "enumerate" = none) (hs : starEach [a] X.env = [(false, eval a X.env)] := by rfl) :
    DI X W (.Tuple elts kk tpos) (.Call (.Name "enumerate" p) [a] [] pos) (iCall wEnum ta) :=
  PI.imp (pi_enumA hg hm ha hs) fun σ H R ⟨G, F, m, sd, h, QD, E, at_, t, hQ⟩ => LA.step at_ t fun F' m' h' H' vs ds hn le a' rp q => by
    unfold wEnum at q
    split at q
    · rename_i d
      obtain ⟨v, rfl, rp1⟩ := Rps.one rp
      split at q
      · rename_i xs ei
        rcases itemsOf_cases ei with rfl | el
        · cases rp1 with
          | tup s p =>
            rename_i a vs
            exact ⟨a, vs, rfl, Nat.le_refl _, .inr ⟨sqT_mono a'.R.sf s, fun hz => hQ _ _ ⟨F', m', h', _, _, le, a'.R, yields_enumT s p (by rw [← Paired.len p]; exact hz), q⟩⟩⟩
        · obtain ⟨a, vs, rfl, hv, p⟩ := a'.R.listOf rp1 el
          refine ⟨a, vs, rfl, Nat.le_refl _, .inl ⟨hv, fun hz => ?_⟩⟩
          obtain ⟨a2, e2, y⟩ := yields_enumL rp1 el a'.R (by rw [← Paired.len p]; exact hz)
          cases e2
          exact hQ _ _ ⟨F', m', h', _, _, le, a'.R, y, q⟩
      · exact q.elim
    · exact q.elim
theorem di_range1 (ha : DA X W [a] ta) (hg : Gl X "range") (hm : X.mg "range" = none) (hs : starEach [a] X.env = [(false, eval a X.env)] := by rfl) : DI X W tg (.Call (.Name "range" p) [a] [] pos) (iCall wRange1 ta) :=
  PI.imp (pi_range1 hg hm ha hs) fun σ H R ⟨G, F, m, sd, h, QD, E, at_, t, hQ⟩ => LA.step at_ t fun F' m' h' H' vs ds hn le a' rp q => by
    unfold wRange1 at q
    split at q
    · rename_i j
      obtain ⟨v, rfl, rp1⟩ := Rps.one rp
      cases rp1
      exact ⟨_, rfl, by omega, by omega, hQ _ _ ⟨F', m', h', _, _, le, a'.R, yields_range 0 j.toNat (by rw [sizeLine_eq]; omega), q.2⟩⟩
    · exact q.elim
theorem di_zip (ha : DA X W [a, b] ta) (hg : Gl X "zip") (hm : X.mg "zip" = none) (hs : starEach [a, b] X.env = (false, eval a X.env) :: starEach [b] X.env := by rfl) (hpl : (backTo pos (starEach [b] X.env)).any (·.1) = false := by rfl) :
    DI X W (.Tuple elts kk tpos) (.Call (.Name "zip" p) [a, b] [] pos) (iCall wZip ta) :=
  PI.imp (RZ.pi_zipA hg hm (PA.sz ha) hs hpl) fun σ H R ⟨G, F, m, sd, h, QD, E, at_, t, hQ⟩ => LA.step at_ t fun F' m' h' H' vs ds hn le a' rp q sz => by
    unfold wZip at q
    split at q
    · rename_i d e
      obtain ⟨v, w, rfl, rp1, rq⟩ := Rps.two rp
      split at q
      · cases rp1 with
        | tup s1 p1 =>
          cases rq with
          | tup s2 p2 =>
            rename_i a1 vs1 a2 vs2
            exact ⟨a1, a2, vs1, vs2, rfl, .inr ⟨sqT_mono a'.R.sf s1, sqT_mono a'.R.sf s2, hQ _ _ ⟨F', m', h', _, _, le, a'.R, yields_zipT s1 s2 p1 p2 (by rw [← Paired.len p1]; exact sz a1 vs1 (.inr (sqT_mono a'.R.sf s1))), q⟩⟩⟩
      · split at q
        · rename_i xs ys e1 e2
          obtain ⟨a1, vs1, rfl, hv1, p1⟩ := a'.R.listOf rp1 e1
          obtain ⟨a2, vs2, rfl, hv2, p2⟩ := a'.R.listOf rq e2
          obtain ⟨b1, b2, f1, f2, y⟩ := yields_zipL rp1 rq e1 e2 a'.R (by rw [← Paired.len p1]; exact sz a1 vs1 (.inl hv1))
          cases f1; cases f2
          exact ⟨a1, a2, vs1, vs2, rfl, .inl ⟨hv1, hv2, hQ _ _ ⟨F', m', h', _, _, le, a'.R, y, q⟩⟩⟩
        · exact q.elim
    · exact q.elim
end
end DL
end

section
set_option maxRecDepth 100000
set_option maxHeartbeats 4000000
namespace DL
open PySem PySem.Spec L2
variable [TB]
/-! ## for -/
def forL (keep : DH → Prop) (g : TGD) (tb : TSD) (k : KD) : List D → Sg → DH → Prop
  | [], sd, h => keep h ∧ k.nx sd h
  | x :: r, sd, h => keep h ∧ g x sd h fun sd' h' => tb { k with nx := forL keep g tb k r, ct := forL keep g tb k r, bk := k.nx } sd' h'
def sFor (ti : TID) (g : TGD) (tb : TSD) : TSD := fun k sd h => ti sd h (fun items keep h1 => forL keep g tb k items sd h1) (k.E sd)
section
variable {X : Cx} {W : WX} {pos : Pos}
theorem ds_for {tg iter : Expr} {body : List Stmt} {vs : List Nat} {ti : TID} {g : TGD} {tb : TSD} (hp : PassesOwn (model X.prog X.w) X.A X.env X.xe) (hi : DI X W tg iter ti) (hg : DG X vs tg g) (hb : DSs X W body tb) (hc : X.calm = true := by rfl)
    (hs : ∀ x, foldedSetIterable iter X.env x = pure x := by intro _; rfl) : DS X W (.For tg iter body [] pos) (sFor ti g tb) :=
  PS.imp (ps_for hp hc hi hg hb hs) fun D σ H ⟨G, F, m, sd, h, k, R, S, t, a⟩ => by
    refine ⟨G, F, m, sd, h, _, _, a.at R S, t, ?_⟩
    rintro J H1 ⟨F1, m1, h1, items, keep, le1, R1, Y, q⟩
    refine ⟨fun i n σ H => i + n = items.length ∧ ∃ F2 m2 sd2 h2, WLe F1 m1 F2 m2 ∧ Rel X.K X.mg G F2 m2 h2 H ∧ SRel X.K X.mg F2 m2 σ sd2 ∧ forL keep g tb k (items.drop i) sd2 h2, ⟨items.length, by omega, F1, m1, sd, h1, WLe.refl, R1, S.mono le1, q⟩, ?_⟩
    rintro i n σ2 H2 ⟨hin, F2, m2, sd2, h2, le2, R2, S2, q2⟩
    have le12 := le1.trans le2
    cases hr : items.drop i with
    | nil =>
      rw [hr] at q2
      have hlen : items.length ≤ i := List.drop_eq_nil_iff.mp hr
      exact .inl ⟨(Y.2 G F2 m2 h2 H2 i le2 trivial R2 q2.1).2 hlen (by omega), a.nx _ _ ⟨F2, m2, sd2, h2, le12, R2, S2, q2.2⟩⟩
    | cons x r =>
      rw [hr] at q2
      have hi : i < items.length := by
        have := congrArg List.length hr
        rw [List.length_drop, List.length_cons] at this
        omega
      have hx : items[i]? = some x := by
        have := congrArg (fun l => l[0]?) hr
        simpa using this
      have hr' : items.drop (i + 1) = r := by
        have := congrArg List.tail hr
        simpa using this
      obtain ⟨go, yl⟩ := (Y.2 G F2 m2 h2 H2 i le2 trivial R2 q2.1).1 hi
      refine .inr ⟨go, fun σ' H' => ∃ F3 m3 sd3 h3, WLe F2 m2 F3 m3 ∧ Rel X.K X.mg G F3 m3 h3 H' ∧ SRel X.K X.mg F3 m3 σ' sd3 ∧ forL keep g tb k r sd3 h3, ?_, ?_⟩
      · rintro σ' H' ⟨F3, m3, sd3, h3, le3, R3, S3, q3⟩
        exact ⟨n - 1, by omega, by omega, F3, m3, sd3, h3, le2.trans le3, R3, S3, by rw [hr']; exact q3⟩
      · intro y H' hy
        obtain ⟨F3, d, le3, R3, ed, rp⟩ := yl y H' hy
        rw [hx] at ed; cases ed
        refine ⟨G, F3, m2, sd2, h2, _, x, R3, S2.mono le3, rp, q2.2, ?_⟩
        rintro σ4 H4 _ ⟨F4, m4, sd4, h4, le4, R4, S4, q4⟩
        have le14 := le12.trans (le3.trans le4)
        refine ⟨G, F4, m4, sd4, h4, _, R4, S4, q4, ?_, fun v H q => a.rt _ _ (q.mono le14), fun s H q => a.nx _ _ (q.mono le14), ?_, fun c d s H q => a.er _ _ _ _ (q.mono le14)⟩
        · rintro σ' H' ⟨F5, m5, sd5, h5, le5, R5, S5, q5⟩
          exact ⟨F5, m5, sd5, h5, (le3.trans le4).trans le5, R5, S5, q5⟩
        · rintro σ' H' ⟨F5, m5, sd5, h5, le5, R5, S5, q5⟩
          exact ⟨F5, m5, sd5, h5, (le3.trans le4).trans le5, R5, S5, q5⟩
end
/-! ## list comprehensions -/
def wipeD (sd : Sg) : List Nat → Sg
  | [] => sd
  | v :: vs => (wipeD sd vs).set v none
section
variable {K : PySem.W.Frag} {mg : Str → Option Value} {G F : Hp} {m : List Addr} {h : DH} {H : Hp}
theorem SRel.wipe {σ : L2.St} {sd : Sg} (S : SRel K mg F m σ sd) : ∀ vs : List Nat, SRel K mg F m (L2.wipe σ vs) (wipeD sd vs)
  | [] => S
  | v :: vs => SRel.setN none v (SRel.wipe S vs)
theorem wipe_wipe_set (τ : L2.St) (i : Nat) : ∀ vs : List Nat, wipe (τ.set i none) vs = (wipe τ vs).set i none
  | [] => rfl
  | v :: vs => by
    unfold L2.wipe
    rw [wipe_wipe_set τ i vs]
    by_cases hv : v = i
    · subst hv; rfl
    · rw [List.set_comm _ _ hv]
theorem wipe_idem (τ : L2.St) : ∀ vs : List Nat, wipe (wipe τ vs) vs = wipe τ vs
  | [] => rfl
  | v :: vs => by
    show (wipe ((wipe τ vs).set v none) vs).set v none = (wipe τ vs).set v none
    rw [wipe_wipe_set, wipe_idem τ vs, List.set_set]
theorem Rel.own {p : Addr} {vs : List V} (R : Rel K mg G F m h H) (hp : H p = none) : Rel K mg (upd G p (.lst vs)) F m h (upd H p (.lst vs)) := by
  have fa : F p = none := by
    cases e : F p with
    | none => rfl
    | some u => exact absurd (R.sf _ _ e) (by rw [hp]; exact fun q => nomatch q)
  refine ⟨fun b u e => ?_, fun b u e => ?_, fun b u e => ?_, fun n a o e1 e2 ne => ?_, fun b u e => ?_, R.ln, fun n o e ne => ?_, R.ij, R.tb.new hp⟩
  · by_cases hb : b = p
    · subst hb; rw [upd_same] at e ⊢; exact e
    · rw [upd_ne hb] at e ⊢; exact R.sg _ _ e
  · by_cases hb : b = p
    · subst hb; rw [upd_same] at e; cases e; exact ⟨vs, rfl⟩
    · rw [upd_ne hb] at e; exact R.gk _ _ e
  · by_cases hb : b = p
    · subst hb; exact fa
    · rw [upd_ne hb] at e; exact R.gf _ _ e
  · obtain ⟨a', f1, f2, r⟩ := R.lv n o e2 ne
    rw [e1] at f1; cases f1
    have ha : a ≠ p := by
      rintro rfl
      rw [hp] at r
      cases r; exact ne rfl
    rw [upd_ne ha]; exact R.gl n a o e1 e2 ne
  · rw [upd_ne (ne_of_none (R.sf _ _ e) hp)]; exact R.sf _ _ e
  · obtain ⟨a, f1, f2, r⟩ := R.lv n o e ne
    have ha : a ≠ p := by
      rintro rfl
      rw [hp] at r
      cases r; exact ne rfl
    exact ⟨a, f1, f2, by rw [upd_ne ha]; exact r⟩
theorem Rel.ownSet {p : Addr} {o : HO} {vs : List V} (R : Rel K mg (upd G p o) F m h H) : Rel K mg (upd G p (.lst vs)) F m h (upd H p (.lst vs)) := by
  have fa : F p = none := R.gf p o upd_same
  have tbn : TbOk K F (upd H p (.lst vs)) := by
    obtain ⟨xs, rfl⟩ := R.gk p o upd_same
    exact R.tb.put (R.sg p _ upd_same) (fun _ q => nomatch q) (fun _ _ q => by unfold LamX.CodeO at q; exact nomatch q)
  refine ⟨fun b u e => ?_, fun b u e => ?_, fun b u e => ?_, fun n a x e1 e2 ne => ?_, fun b u e => ?_, R.ln, fun n x e ne => ?_, R.ij, tbn⟩
  · by_cases hb : b = p
    · subst hb; rw [upd_same] at e ⊢; exact e
    · rw [upd_ne hb] at e ⊢; exact R.sg _ _ (by rw [upd_ne hb]; exact e)
  · by_cases hb : b = p
    · subst hb; rw [upd_same] at e; cases e; exact ⟨vs, rfl⟩
    · rw [upd_ne hb] at e; exact R.gk _ u (by rw [upd_ne hb]; exact e)
  · by_cases hb : b = p
    · subst hb; exact fa
    · rw [upd_ne hb] at e; exact R.gf _ u (by rw [upd_ne hb]; exact e)
  · have z := R.gl n a x e1 e2 ne
    have ha : a ≠ p := by
      rintro rfl
      rw [upd_same] at z; cases z
    rw [upd_ne ha] at z ⊢; exact z
  · have hb : b ≠ p := by
      rintro rfl
      rw [fa] at e; cases e
    rw [upd_ne hb]; exact R.sf _ _ e
  · obtain ⟨a, f1, f2, r⟩ := R.lv n x e ne
    have z := R.gl n a x f1 e ne
    have ha : a ≠ p := by
      rintro rfl
      rw [upd_same] at z; cases z
    exact ⟨a, f1, f2, by rw [upd_ne ha]; exact r⟩
theorem Rel.ownOut {p : Addr} {o : HO} (R : Rel K mg (upd G p o) F m h H) (gp : G p = none) : WLe F m (upd F p o) m ∧ Rel K mg G (upd F p o) m h H ∧ H p = some o ∧ F p = none ∧ Rel K mg G F m h H := by
  have fa : F p = none := R.gf p o upd_same
  have hp : H p = some o := R.sg p o upd_same
  have le : WLe F m (upd F p o) m := ⟨fun b u e => by rw [upd_ne (ne_of_none e fa)]; exact e, [], by simp⟩
  have sub : ∀ b u, G b = some u → (upd G p o) b = some u := fun b u e => by rw [upd_ne (ne_of_none e gp)]; exact e
  have live : ∀ (n : Nat) (a : Addr) (x : O), m[n]? = some a → h[n]? = some x → x ≠ .dead → a ≠ p ∧ G a = none := fun n a x e1 e2 ne => by
    have z := R.gl n a x e1 e2 ne
    have ha : a ≠ p := by
      rintro rfl
      rw [upd_same] at z; cases z
    rw [upd_ne ha] at z
    exact ⟨ha, z⟩
  refine ⟨le, ⟨fun b u e => R.sg b u (sub b u e), fun b u e => R.gk b u (sub b u e), fun b u e => ?_, fun n a x e1 e2 ne => (live n a x e1 e2 ne).2, fun b u e => ?_, R.ln, fun n x e ne => ?_, R.ij, R.tb.addF fun ps q => by
    obtain ⟨xs, e⟩ := R.gk p o upd_same
    rw [e] at q; cases q⟩, hp, fa, ⟨fun b u e => R.sg b u (sub b u e), fun b u e => R.gk b u (sub b u e), fun b u e => R.gf b u (sub b u e), fun n a x e1 e2 ne => (live n a x e1 e2 ne).2, R.sf, R.ln, R.lv, R.ij, R.tb⟩⟩
  · rw [upd_ne (ne_of_none e gp)]; exact R.gf b u (sub b u e)
  · by_cases hb : b = p
    · subst hb; rw [upd_same] at e; rw [hp]; exact e
    · rw [upd_ne hb] at e; exact R.sf _ _ e
  · obtain ⟨a, f1, f2, r⟩ := R.lv n x e ne
    exact ⟨a, f1, by rw [upd_ne (live n a x f1 e ne).1]; exact f2, r.mono le⟩
end
end DL
end

section
set_option maxRecDepth 100000
set_option maxHeartbeats 4000000
/-! promises of defs where no container is being shown (guards are known to be none) -/
namespace DL
open PySem PySem.Spec L2 PyProof.Rows
variable [TB]
structure RoomG (k : Nat) (A : Around) : Prop where
  r : Room k A
  g : A.guards = some []
theorem RoomG.mono {j k : Nat} {A : Around} (x : RoomG k A) (h : j ≤ k) : RoomG j A := ⟨x.r.mono h, x.g⟩
theorem RoomG.un {k : Nat} {A : Around} (x : RoomG k A) : A.units + 16 * k + 200 < cLine := x.r.un
theorem RoomG.units {k : Nat} {A : Around} (x : RoomG k A) : A.units + 64 < cLine := by have := x.r.un; omega
theorem RoomG.deeper {k : Nat} {A : Around} (x : RoomG (k + 1) A) (env : Env) : RoomG k (A.deeper env) := ⟨x.r.deeper env, x.g⟩
theorem RoomG.make {k : Nat} {A : Around} (x : RoomG (k + 1) A) (C : Addr) (us : List Value) (kw : List (Str × Value)) : RoomG k (A.under (.builtin "type.__call__" ⟨.ref C :: us, kw⟩)) :=
  ⟨x.r.make C us kw, by
    show pushGuards (Code.guards (.builtin "type.__call__" ⟨.ref C :: us, kw⟩)) A.guards = some []
    rw [x.g]; rfl⟩
structure FnG (P : Program) (w : World) (K : PySem.W.Frag) (mg : Str → Option Value) (base : Heap) (CX : CXT) (k : Nat) (f : Addr) (fd : FuncData) (ps : List Str) (sp : Sp) : Prop where
  ln : ∀ vs H Q E, sp vs H Q E → vs.length = ps.length
  go : ∀ (A : Around) (outer : List Env) (s : Shared) (H : Hp) (args : Args) (us : List Value) (vs : List V) (Q : VK) (E : XK), RoomG k A → Env0 P w K mg base A outer s H → BindsTo s fd args (ps.zip us) → Vals vs us → sp vs H Q E →
    codeAny (model P w) A (.call (.ref f) args) (CR CX outer P w H s Q E) s
section
variable {P : Program} {w : World} {K : PySem.W.Frag} {mg : Str → Option Value} {base : Heap} {CX : CXT} {k : Nat} {f : Addr} {fd : FuncData} {ps : List Str} {sp sp' : Sp}
theorem FnG.mono {j : Nat} (F : FnG P w K mg base CX j f fd ps sp) (h : j ≤ k) : FnG P w K mg base CX k f fd ps sp := ⟨F.ln, fun A o s H as us vs Q E x => F.go A o s H as us vs Q E (x.mono h)⟩
theorem FnG.imp (F : FnG P w K mg base CX k f fd ps sp) (h : ∀ vs H Q E, sp' vs H Q E → sp vs H Q E) : FnG P w K mg base CX k f fd ps sp' :=
  ⟨fun vs H Q E z => F.ln vs H Q E (h _ _ _ _ z), fun A o s H as us vs Q E x e b v z => F.go A o s H as us vs Q E x e b v (h _ _ _ _ z)⟩
/-- a def by its body, where no guard stands -/
theorem fnG_ofC {x qual : Str} {st : Stmt} {N : List Str} (F : Fun K x qual st f fd) (S : FnScope N ps (defScope st)) (ln : ∀ vs H Q E, sp vs H Q E → vs.length = ps.length)
    (hb : ∀ (cdv : Value) (A : Around) (outer : List Env) (s : Shared) (H : Hp) (vs : List V) (Q : VK) (E : XK), fd.code = cdv → RoomG k (A.deeper (envOfC qual (defScope st) s.heap.objs.size f cdv)) → sp vs H Q E →
      ∃ t, PSs (cxOf CX P w K mg base N qual (defScope st) f cdv A outer s H E) (defBody st) t ∧ t { nx := fun _ H' => Q .non H', rt := Q } (L2.start N vs) H) : FnG P w K mg base CX (k + 1) f fd ps sp := by
  obtain ⟨oc, od, kV, doc, pm, an, cdv, ct, osl, rfl, lk, hcd⟩ := F.ex
  refine ⟨ln, fun A outer s H args us vs Q E hr e0 bb rv hsp => ?_⟩
  have KX : K.In s.heap := e0.mod.kin.keeps (fun _ _ z => (e0.bs _ _ z).1)
  have nl : s.heap.NoLimit := e0.mod.nolimit.keeps (fun _ _ z => (e0.bs _ _ z).1)
  have kinds : ∀ y ∈ ps.zip us, (defScope st).names.lookup y.1 = some .local ∨ ((defScope st).names.lookup y.1 = some .cell ∧ ((cellsFrom (s.heap.objs.size + 1) (defScope st).names []).lookup y.1).isSome = true) := by
    rintro ⟨n, v⟩ hy
    rcases S.par n (List.of_mem_zip hy).1 with z | z
    · exact Or.inl z
    · exact Or.inr ⟨z, PySem.W.cellsFrom_some _ _ _ (Or.inl z)⟩
  refine codeAny_call_function hr.r.depth (KX _ _ lk) rfl S.co S.gen rfl (PySem.W.codeRec_of KX hcd) (bb _ _ _ _ ?_)
  refine wpAny_newFunctionEnv_cells S.kind kinds ?_
  rintro env he s1 xx
  subst he
  refine ⟨nl.keeps xx.toInCall.keep, codeAny_func ?_⟩
  obtain ⟨t, ht, hq⟩ := hb cdv A outer s H vs Q E rfl (hr.deeper _) hsp
  have I := inv_start (CX := CX) (P := P) (w := w) (K := K) (mg := mg) (base := base) (E := E) S hr.r.hd e0 (ln _ _ _ _ hsp) rv xx
  have fin : ∀ {σ' : L2.St} {H' : Hp} {v : V} {u : Value} {s' : Shared}, Inv (cxOf CX P w K mg base N qual (defScope st) f cdv A outer s H E) [] σ' H' s' → RelV v u → Q v H' → CE outer P w H s Q u s' := by
    intro σ' H' v u s' J rv q
    exact ⟨v, H', J.os, J.bare, J.base, J.hok, rv, q⟩
  refine wpAny_mono (ht.run [] s1 _ H _ I hq) ?_ (fun _ _ z => z)
  intro fl s' hs
  match fl, hs with
  | .ret u, ⟨v, σ', H', J, rv, q⟩ => exact fin J rv q
  | .next, ⟨σ', H', J, q⟩ => exact fin (v := .non) (u := .none) J rfl q
  | .brk, ⟨_, _, _, q⟩ => exact q.elim
  | .cont, ⟨_, _, _, q⟩ => exact q.elim
theorem fnG_of {x qual : Str} {st : Stmt} {N : List Str} (F : Fun K x qual st f fd) (S : FnScope N ps (defScope st)) (ln : ∀ vs H Q E, sp vs H Q E → vs.length = ps.length)
    (hb : ∀ (cdv : Value) (A : Around) (outer : List Env) (s : Shared) (H : Hp) (vs : List V) (Q : VK) (E : XK), RoomG k (A.deeper (envOfC qual (defScope st) s.heap.objs.size f cdv)) → sp vs H Q E →
      ∃ t, PSs (cxOf CX P w K mg base N qual (defScope st) f cdv A outer s H E) (defBody st) t ∧ t { nx := fun _ H' => Q .non H', rt := Q } (L2.start N vs) H) : FnG P w K mg base CX (k + 1) f fd ps sp :=
  fnG_ofC F S ln fun cdv A outer s H vs Q E _ => hb cdv A outer s H vs Q E
end
section
variable {X : Cx} {CX : CXT} {k : Nat} {f : Addr} {fd : FuncData} {ps : List Str} {sp : Sp} {E : L2.St → XK} {x : Str} {p pos : Pos} {e : Expr} {es : List Expr} {t : TA}
theorem run_fnG {pins : List (Addr × Obj)} {σ : L2.St} {H : Hp} {s : Shared} {Q : VK} {us : List Value} {vs : List V} {E : XK} (F : FnG X.prog X.w X.K X.mg X.base CX k f fd ps sp) (hr : RoomG k X.A) (bb : Binds X.K fd ps []) (hx : PassesAt CX X σ E)
    (I : Inv X pins σ H s) (r : Vals vs us) (h : sp vs H Q E) : wpAny (model X.prog X.w) X.A (call (.ref f) us) (EP X pins σ Q) X.xe s := by
  have hl : us.length = ps.length := by rw [← r.length]; exact F.ln _ _ _ _ h
  have b2 := bb s us I.kIn (by rw [List.append_nil]; exact hl)
  rw [List.append_nil] at b2
  refine wpAny_call (codeAny_mono (F.go X.A X.stack s H ⟨us, []⟩ us vs Q E hr I.env0 b2 r h) ?_)
  intro rr s' hq
  match rr, hq with
  | .error z, hq => exact hx pins H s z s' I hq
  | .ok (.ret u), hq => exact I.after hq
  | .ok .next, hq => exact hq.elim
  | .ok .brk, hq => exact hq.elim
  | .ok .cont, hq => exact hq.elim
def tCallG (sp : Sp) (E : L2.St → XK) (t : TA) : TE := fun σ H Q => t σ H fun vs H1 => sp vs H1 Q (E σ)
theorem pe_callG (F : FnG X.prog X.w X.K X.mg X.base CX k f fd ps sp) (hr : RoomG k X.A) (hg : Gl X x) (hm : X.mg x = some (.ref f)) (hk : PySem.W.keepIn X.K (.ref f) = true) (bb : Binds X.K fd ps []) (hx : ∀ σ, PassesAt CX X σ (E σ))
    (ha : PA X (e :: es) t) (hdb : (x == ("__debug__" : Str)) = false := by decide) (he : starEach (e :: es) X.env = (false, eval e X.env) :: starEach es X.env := by rfl) (hpl : (backTo pos (starEach es X.env)).any (·.1) = false := by rfl) :
    PE X (.Call (.Name x p) (e :: es) [] pos) (tCallG sp E t) := by
  constructor
  intro pins s σ H Q I h
  refine wpAny_Call_Name_kw (ld_glob I hg hm ?_ hdb)
  refine PySem.W.callWith_K (h₀ := X.base) I.ok.mod.kin hk (L2.thn (ha.run pos pins s σ H _ I h) ?_) he hpl
  rintro us s1 ⟨vs, H1, I1, r, q⟩
  exact ⟨I1.kIn, run_fnG F hr bb (hx σ) I1 r q⟩
/-- x(e, ..), x a name of this def that holds the def at f -/
def tCallGL (i : Nat) (f : Addr) (sp : Sp) (E : L2.St → XK) (t : TA) : TE := fun σ H Q => σ[i]? = some (some (.ref f)) ∧ t σ H fun vs H1 => sp vs H1 Q (E σ)
end
/-- the law's promise, at the heap behind the text's top -/
theorem law_callG {P : Program} {w : World} {K : PySem.W.Frag} {mg mb : Str → Option Value} {CX : CXT} {k : Nat} {fa a : Addr} {fd : FuncData} {x : Str} {sp : Sp} {s₁ : Shared} {vs : List Value} {ns : List Int}
    (KX : K.In s₁.heap) (hns : s₁.heap.Ns mainGlobals mg) (hb : s₁.heap.Ns builtinsNs mb) (hbb : ∀ x : Str, x ≠ "__name__" → mb x = bootBuiltins x) (hlim : s₁.heap.NoLimit) (hg : s₁.gens = #[])
    (ha : s₁.heap.get? a = some { cls := .type "list", data := .seq vs.toArray }) (hi : IntsAre vs ns) (hl : ns.length ≤ sizeLine) (hr : Room k callerA)
    (hsy : ∃ mm, s₁.heap.Ns sysModules mm) (F : ∀ bs : Heap, K.In bs → bs.Ns mainGlobals mg → (∃ mm, bs.Ns sysModules mm) → FnG P w K mg bs CX k fa fd [x] sp) (hbind : ∀ (s : Shared) (u : Value), BindsTo s fd ⟨[u], []⟩ [(x, u)])
    (hsp : ∀ H : Hp, Only H → SqL K H a (ns.map V.int) → sp [.ref a] H (fun v _ => v = .bl true) fun _ _ _ => False)
    (hCX : ∀ H e s', CX [] H s₁ (fun _ _ _ => False) e s' → False) :
    codeAny (model P w) callerA (.call (.ref fa) ⟨[.ref a], []⟩) (fun r s' => r = .ok (.ret (.bool true)) ∧ OldK s₁.heap s'.heap ∧ s'.os = s₁.os ∧ AllBare s'.gens) s₁ := by
  have hrG : RoomG k callerA := ⟨hr, rfl⟩
  have main : ∀ H : Hp, Only H → SqL K H a (ns.map V.int) → HOk P w H s₁.heap → (∀ b, H b ≠ none → b = a) → (H a ≠ none → K.lookup a = none) →
      codeAny (model P w) callerA (.call (.ref fa) ⟨[.ref a], []⟩) (fun r s' => r = .ok (.ret (.bool true)) ∧ OldK s₁.heap s'.heap ∧ s'.os = s₁.os ∧ AllBare s'.gens) s₁ := by
    intro H hO hS ok hA hK
    have un : ∀ {b : Addr} {o : Obj} {es : Array DictEntry} {ep : Nat}, s₁.heap.get? b = some o → o.data = .dict es ep → H b = none := by
      intro b o es ep eo d
      refine Classical.byContradiction fun z => ?_
      have eb := hA b z
      subst eb
      rw [ha] at eo
      cases eo
      exact nomatch (show Data.seq vs.toArray _ = Data.dict es ep from d)
    have nsK : ∀ {b : Addr} {m : Str → Option Value}, s₁.heap.Ns b m → (hidT s₁.heap H).Ns b m := by
      rintro b m ⟨o, es, ep, eo, d, rest⟩
      exact ⟨o, es, ep, hidT_get eo (un eo d), d, rest⟩
    have kb : K.In (hidT s₁.heap H) := by
      intro b o eo
      refine hidT_get (KX b o eo) (Classical.byContradiction fun z => ?_)
      have eb := hA b z
      subst eb
      rw [hK z] at eo
      cases eo
    have md : Mod K mg (hidT s₁.heap H) := ⟨kb, nsK hns, ⟨mb, nsK hb, hbb⟩, by
      obtain ⟨mc, z1, z2⟩ := hlim
      exact ⟨mc, nsK z1, z2⟩⟩
    have e0 : Env0 P w K mg (hidT s₁.heap H) callerA [] s₁ H := ⟨rfl, md, fun _ _ z => of_hidT z, Nat.le_of_eq (hidT_size _ _), trivial, fun b z => absurd (show b ∈ ([] : List Addr) from z) (by simp), ok, .of_eq hg⟩
    refine codeAny_mono ((F _ kb (nsK hns) (hsy.imp fun _ z => nsK z)).go callerA [] s₁ H ⟨[.ref a], []⟩ [.ref a] [.ref a] _ _ hrG e0 (hbind s₁ (.ref a)) (.cons rfl .nil) (hsp H hO hS)) ?_
    intro rr s' hh
    match rr, hh with
    | .error z, hh => exact (hCX H z s' hh).elim
    | .ok .next, hh => exact hh.elim
    | .ok .brk, hh => exact hh.elim
    | .ok .cont, hh => exact hh.elim
    | .ok (.ret u), ⟨v, H', os, bare, und, ok', rv, q⟩ =>
      obtain rfl : v = .bl true := q
      obtain rfl : u = Value.bool true := rv
      refine ⟨rfl, OldK.of_keep (fun b o eo => ?_), os, bare⟩
      cases q : H b with
      | none => exact und.keep b o eo q (fun z => absurd (show b ∈ ([] : List Addr) from z) (by simp)) (by simp)
      | some hob =>
        rcases hO b with z | ⟨ob, xs, z⟩
        · exact nomatch (q.symm.trans z)
        · obtain ⟨e1, _⟩ := ok b _ z
          obtain ⟨e2, _⟩ := ok' b _ (und.frzs b ob _ z)
          rw [eo] at e1
          cases e1
          exact e2
  have lenV := hi.length
  have rv := vals_ints hi
  cases hk : K.lookup a with
  | some o =>
    have eo := KX a o hk
    rw [ha] at eo
    cases eo
    exact main (fun _ => none) (fun _ => Or.inl rfl) (Or.inr ⟨_, vs.toArray, _, hk, rfl, rfl, rfl, by rw [List.size_toArray, lenV]; exact hl, by simpa using rv⟩) (fun b u z => nomatch (show (none : Option HO) = some u from z)) (fun b z => absurd rfl z) fun z => absurd rfl z
  | none =>
    let Hs : Hp := fun b => if b = a then some (.frz { cls := .type "list", data := .seq vs.toArray } (.lst (ns.map V.int))) else none
    have Ha : Hs a = some (.frz { cls := .type "list", data := .seq vs.toArray } (.lst (ns.map V.int))) := if_pos rfl
    have Hn : ∀ b, b ≠ a → Hs b = none := fun b z => if_neg z
    refine main Hs (fun b => ?_) (Or.inl (Or.inr ⟨_, Ha⟩)) (fun b u z => ?_) (fun b z => Classical.byContradiction fun ne => z (Hn b ne)) fun _ => hk
    · by_cases ne : b = a
      · subst ne; exact Or.inr ⟨_, _, Ha⟩
      · exact Or.inl (Hn b ne)
    · by_cases ne : b = a
      · subst ne
        have z2 := Ha.symm.trans z
        cases z2
        exact ⟨ha, by rw [List.length_map]; exact hl, vs, _, rv, ha⟩
      · exact nomatch ((Hn b ne).symm.trans z)
theorem walkG_of {l : PySem.W.OpenLaw} {n k : Nat} {q : Program} {loose : List Str} {XP : (Str → Option Value) → Heap → Prop} {YP : World → Heap → Prop} {d : DefRec} {K : Params → PySem.W.Frag} {CX : World → CXT} {sp : World → Sp} {x : Str}
    (hn : l.most = some n) (hn2 : n ≤ sizeLine) (hdf : d.params.defaults = []) (hr : Room k callerA) (hni : importsNone q = true) (hY : ∀ (w : World) (h : Heap), YP w h → (K w.params).In h)
    (F : ∀ (w : World) (mg : Str → Option Value) (fa : Addr) (h : Heap), (K w.params).In h → h.Ns mainGlobals mg → mg d.name = some (.ref fa) →
      ∃ fd : FuncData, (∀ (s : Shared) (u : Value), BindsTo s fd ⟨[u], []⟩ [(x, u)]) ∧ ∀ bs : Heap, (K w.params).In bs → bs.Ns mainGlobals mg → (∃ mm, bs.Ns sysModules mm) → FnG l.prog w (K w.params) mg bs (CX w) k fa fd [x] (sp w))
    (hsp : ∀ (w : World) (H : Hp) (a : Addr) (ns : List Int), ns.length ≤ n → Only H → SqL (K w.params) H a (ns.map V.int) → sp w [.ref a] H (fun v _ => v = .bl true) fun _ _ _ => False)
    (hCX : ∀ (w : World) (H : Hp) (s : Shared) (e : Value) (s' : Shared), CX w [] H s (fun _ _ _ => False) e s' → False) : PySem.W.WalkO q loose XP YP l.row.toRowW d [] (fun f vs => PySem.call f vs) := by
  refine Att.attach_call hn hdf ?_
  intro w s₀ s₁ mg mb fa o pm cd doc a vs ns G Y ho hd hcd hmg hobj hints hlen hg
  obtain ⟨fd, hb, hF⟩ := F w mg fa _ (hY w _ Y) G.T.g hmg
  exact law_callG (hY w _ Y) G.T.g G.T.b G.T.builtins G.T.nolimit hg hobj hints (Nat.le_trans hlen hn2) hr ((G.T.seer hni).mods.imp fun _ z => z.1) hF hb (fun H hO hS => hsp w H a ns hlen hO hS) fun H e s' => hCX w H s₁ e s'
end DL
end

section
set_option maxRecDepth 100000
set_option maxHeartbeats 4000000
namespace DL
open PySem PySem.Spec L2
variable [TB]
abbrev W0 : WX := fun _ _ _ _ => False
def DTs (X : Cx) (ifs : List Expr) (t : TTD) : Prop := PTs X ifs (LT X.K X.mg W0 t)
def tYesD : TTD := fun _ h Q _ => Q true h
theorem PTs.imp {X : Cx} {ifs : List Expr} {t t' : TT} (p : PTs X ifs t) (h : ∀ σ H Q, t' σ H Q → t σ H Q) : PTs X ifs t' := ⟨fun pins s σ H Q I q => p.run pins s σ H Q I (h σ H Q q)⟩
theorem dts_nil {X : Cx} : DTs X [] tYesD := PTs.imp pts_nil fun σ H Q ⟨G, F, m, sd, h, QD, E, at_, t, hQ⟩ => hQ _ _ ⟨F, m, h, WLe.refl, at_.R, t⟩
theorem dts_one {X : Cx} {c : Expr} {t : TTD} (h : DT X W0 c t) : DTs X [c] t := pts_one h
def compL (keep : DH → Prop) (g : TGD) (tt : TTD) (te : TED) (sd : Sg) : List D → List D → DH → LD → Prop
  | [], acc, h, Q => keep h ∧ Q acc h
  | x :: r, acc, h, Q => keep h ∧ g x sd h fun sd' h1 => tt sd' h1 (fun b h2 => if b = true then te sd' h2 (fun d h3 => compL keep g tt te sd r (acc ++ [d]) h3 Q) EF else compL keep g tt te sd r acc h2 Q) EF
/-- a comprehension: its list is never changed; or changed later -/
def eComp (ti : TID) (g : TGD) (tt : TTD) (te : TED) (vs : List Nat) : TED := fun sd h Q E => ti sd h (fun items keep h1 => compL keep g tt te (wipeD sd vs) items [] h1 fun acc h2 => Q (.lst acc) h2) E
def eCompR (ti : TID) (g : TGD) (tt : TTD) (te : TED) (vs : List Nat) : TED := fun sd h Q E => ti sd h (fun items keep h1 => compL keep g tt te (wipeD sd vs) items [] h1 fun acc h2 => Q (.ref h2.length) (h2 ++ [.lst acc])) E
section
variable {X : Cx} {W : WX}
/-- the reading of a comprehension, whatever becomes of its list -/
theorem lc_read {ti : TID} {g : TGD} {tt : TTD} {te : TED} {vs : List Nat} {σ : L2.St} {H : Hp} {Q : VK} {G F : Hp} {m : List Addr} {sd : Sg} {h : DH} {E : ED} (QL' : LD) (at_ : At X.K X.mg G W F m sd h σ H E)
    (t : ti sd h (fun items keep h1 => compL keep g tt te (wipeD sd vs) items [] h1 QL') E)
    (fin : ∀ F' m' h' H' p vacc acc, WLe F m F' m' → G p = none → Rel X.K X.mg (upd G p (.lst vacc)) F' m' h' H' → Rps X.K X.mg F' m' vacc acc → QL' acc h' → Q (.ref p) H') :
    tLc (LI X.K X.mg W ti) (LG X.K X.mg vs g) (LT X.K X.mg W0 tt) (LE X.K X.mg W0 te) vs σ H Q := by
  refine ⟨G, F, m, sd, h, _, _, at_, t, ?_⟩
  rintro J H1 ⟨F1, m1, h1, items, keep, le1, R1, Y, q⟩
  intro p hp
  have gp : G p = none := by
    cases e : G p with
    | none => rfl
    | some u => exact absurd (R1.sg _ _ e) (by rw [hp]; exact fun q => nomatch q)
  have S1 := at_.S.mono le1
  refine ⟨fun i n H => i + n = items.length ∧ ∃ F2 m2 h2 vacc acc, WLe F1 m1 F2 m2 ∧ Rel X.K X.mg (upd G p (.lst vacc)) F2 m2 h2 H ∧ Rps X.K X.mg F2 m2 vacc acc ∧ acc.length ≤ i ∧ compL keep g tt te (wipeD sd vs) (items.drop i) acc h2 QL',
    ⟨items.length, by omega, F1, m1, h1, [], [], WLe.refl, R1.own hp, .nil, Nat.le_refl _, q⟩, ?_⟩
  rintro i n H2 ⟨hin, F2, m2, h2, vacc, acc, le2, R2, racc, hacc, q2⟩
  have le12 := le1.trans le2
  have sgG : Same G (upd G p (.lst vacc)) := fun b u e => by rw [upd_ne (ne_of_none e gp)]; exact e
  cases hr : items.drop i with
  | nil =>
    rw [hr] at q2
    have hlen : items.length ≤ i := List.drop_eq_nil_iff.mp hr
    exact .inl ⟨(Y.2 _ F2 m2 h2 H2 i le2 trivial R2 q2.1).2 hlen (by omega), fin F2 m2 h2 H2 p vacc acc le12 gp R2 racc q2.2⟩
  | cons x r =>
    rw [hr] at q2
    have hi : i < items.length := by
      have := congrArg List.length hr
      rw [List.length_drop, List.length_cons] at this
      omega
    have hx : items[i]? = some x := by
      have := congrArg (fun l => l[0]?) hr
      simpa using this
    have hr' : items.drop (i + 1) = r := by
      have := congrArg List.tail hr
      simpa using this
    obtain ⟨go, yl⟩ := (Y.2 _ F2 m2 h2 H2 i le2 trivial R2 q2.1).1 hi
    refine .inr ⟨go, fun H' => ∃ F3 m3 h3 vacc acc, WLe F1 m1 F3 m3 ∧ Rel X.K X.mg (upd G p (.lst vacc)) F3 m3 h3 H' ∧ Rps X.K X.mg F3 m3 vacc acc ∧ acc.length ≤ i + 1 ∧ compL keep g tt te (wipeD sd vs) r acc h3 QL', ?_, ?_⟩
    · rintro H' ⟨F3, m3, h3, va, ac, l3, R3, ra, ha, q3⟩
      exact ⟨n - 1, by omega, by omega, F3, m3, h3, va, ac, l3, R3, ra, ha, by rw [hr']; exact q3⟩
    · intro y H' hy
      obtain ⟨F3, d, le3, R3, ed, rp⟩ := yl y H' hy
      rw [hx] at ed; cases ed
      have S3 : SRel X.K X.mg F3 m2 (wipe σ vs) (wipeD sd vs) := (S1.mono (le2.trans le3)).wipe vs
      refine ⟨upd G p (.lst vacc), F3, m2, _, h2, _, x, R3, S3, rp, q2.2, ?_⟩
      rintro σ4 H4 hw ⟨F4, m4, sd4, h4, le4, R4, S4, q4⟩
      refine ⟨by rw [hw, wipe_idem], ?_⟩
      refine LT.step (⟨R4, S4, fun c dx H' ⟨_, _, _, _, _, _, _, _, _, z⟩ => z⟩ : At X.K X.mg (upd G p (.lst vacc)) W0 F4 m4 sd4 h4 σ4 H4 EF) q4 fun F5 m5 h5 H5 b le5 a5 q5 => ?_
      have le35 := le3.trans (le4.trans le5)
      cases b with
      | false =>
        rw [if_neg Bool.false_ne_true] at q5 ⊢
        exact ⟨F5, m5, h5, vacc, acc, le2.trans le35, a5.R, Rps.mono le35 racc, by omega, q5⟩
      | true =>
        rw [if_pos rfl] at q5 ⊢
        refine LE.step a5 q5 fun F6 m6 h6 H6 v d le6 a6 rv q6 => ?_
        have le36 := le35.trans le6
        have ra := Rps.mono le36 racc
        have hD : H6 p = some (.lst vacc) := a6.R.sg p _ upd_same
        exact ⟨vacc, hD, by rw [Paired.len racc]; have := Y.1; omega, F6, m6, h6, vacc ++ [v], acc ++ [d], le2.trans le36, a6.R.ownSet, ra.snoc rv, by rw [List.length_append, List.length_singleton]; omega, q6⟩
variable {elt tg iter : Expr} {ifs : List Expr} {scope : Scope} {own : List (Str × Nat)} {pos : Pos} {ti : TID} {g : TGD} {tt : TTD} {te : TED}
theorem de_lc (hN : X.N.Nodup) (hi : DI X W tg iter ti) (ok : BlkOk X.N X.env.scope scope own)
    (hg : ∀ (s : Shared) (H : Hp) (C : Addr) (cl : List (Str × Addr)) (fp : List Addr), DG (X.blk s H scope (compEnvC scope cl C X.env) fp) (own.map (fun (p : Str × Nat) => p.2)) tg g)
    (ht : ∀ (s : Shared) (H : Hp) (C : Addr) (cl : List (Str × Addr)) (fp : List Addr), DTs (X.blk s H scope (compEnvC scope cl C X.env) fp) ifs tt)
    (he : ∀ (s : Shared) (H : Hp) (C : Addr) (cl : List (Str × Addr)) (fp : List Addr), DE (X.blk s H scope (compEnvC scope cl C X.env) fp) W0 elt te) (hc : X.calm = true := by rfl) (hs : ∀ x, foldedSetIterable iter X.env x = pure x := by intro _; rfl) :
    DE X W (.ListComp elt [⟨tg, iter, ifs, 0⟩] scope pos) (eComp ti g tt te (own.map (fun (p : Str × Nat) => p.2))) :=
  PE.imp (pe_lc (g := LG X.K X.mg (own.map (fun (p : Str × Nat) => p.2)) g) (tt := LT X.K X.mg W0 tt) (te := LE X.K X.mg W0 te) hc hN hi ok hg ht he hs) fun σ H Q ⟨G, F, m, sd, h, QD, E, at_, t, hQ⟩ => lc_read _ at_ t fun F' m' h' H' p vacc acc le gp R r q => by
    obtain ⟨l, R', _, _, _⟩ := R.ownOut gp
    exact hQ _ _ ⟨_, m', h', _, le.trans l, R', .lst upd_same (Rps.mono l r), q⟩
theorem ds_setLc {i : Nat} {y : Str} {py spos : Pos} (hN : X.N.Nodup) (hi : DI X W tg iter ti) (ok : BlkOk X.N X.env.scope scope own)
    (hg : ∀ (s : Shared) (H : Hp) (C : Addr) (cl : List (Str × Addr)) (fp : List Addr), DG (X.blk s H scope (compEnvC scope cl C X.env) fp) (own.map (fun (p : Str × Nat) => p.2)) tg g)
    (ht : ∀ (s : Shared) (H : Hp) (C : Addr) (cl : List (Str × Addr)) (fp : List Addr), DTs (X.blk s H scope (compEnvC scope cl C X.env) fp) ifs tt)
    (he : ∀ (s : Shared) (H : Hp) (C : Addr) (cl : List (Str × Addr)) (fp : List Addr), DE (X.blk s H scope (compEnvC scope cl C X.env) fp) W0 elt te)
    (hsw : swapsWith (.ListComp elt [⟨tg, iter, ifs, 0⟩] scope pos) (some (.Name y py)) spos.line X.env = pure true) (hy : X.N[i]? = some y := by rfl) (hyl : X.env.scope.names.lookup y = some .local := by rfl) (hc : X.calm = true := by rfl) (hs : ∀ x, foldedSetIterable iter X.env x = pure x := by intro _; rfl) :
    DS X W (.Assign [.Name y py] (.ListComp elt [⟨tg, iter, ifs, 0⟩] scope pos) spos) (sSet i (eComp ti g tt te (own.map (fun (p : Str × Nat) => p.2)))) :=
  PS.imp (ps_setLc (g := LG X.K X.mg (own.map (fun (p : Str × Nat) => p.2)) g) (tt := LT X.K X.mg W0 tt) (te := LE X.K X.mg W0 te) hc hN hy hyl hsw hi ok hg ht he hs) fun D σ H ⟨G, F, m, sd, h, k, R, S, t, a⟩ => lc_read _ (a.at R S) t fun F' m' h' H' p vacc acc le gp R r q => by
    obtain ⟨l, R', _, _, _⟩ := R.ownOut gp
    exact a.nx _ _ ⟨_, m', _, h', le.trans l, R', SRel.set (.lst upd_same (Rps.mono l r)) i (S.mono (le.trans l)), q⟩
end
/-! ## a def's promise, its call -/
def LSp (K : PySem.W.Frag) (mg : Str → Option Value) (n : Nat) (f : SpD) : Sp := fun vs H Q E => vs.length = n ∧ ∃ G F m h ds QD ED, Rel K mg G F m h H ∧ Rps K mg F m vs ds ∧ f ds h QD ED ∧ (∀ v H', QV K mg G F m QD v H' → Q v H') ∧ ∀ cls dx H', QE K mg G F m ED cls dx H' → E cls dx H'
/-- the def at its entry -/
def startD (n : Nat) (ds : List D) : Sg := ds.map some ++ List.replicate (n - ds.length) none
def bodyD (n : Nat) (t : TSD) : SpD := fun ds h Q E => t { nx := fun _ h' => Q .non h', rt := Q, er := fun nm ns fs _ h' => E nm ns fs h' } (startD n ds) h
def eFn (f : SpD) (t : TAD) : TED := fun sd h Q E => t sd h (fun ds h1 => f ds h1 Q E) E
section
variable {X : Cx} {W : WX} {k : Nat} {f : Addr} {fd : FuncData} {ps : List Str} {n : Nat} {sp : SpD} {x : Str} {p pos : Pos} {e : Expr} {es : List Expr} {t : TAD}
theorem de_call (F : FnG X.prog X.w X.K X.mg X.base (L2N.CX X.prog X.w) k f fd ps (LSp X.K X.mg n sp)) (hr : RoomG k X.A) (hg : Gl X x) (hm : X.mg x = some (.ref f)) (hk : PySem.W.keepIn X.K (.ref f) = true) (hb : Binds X.K fd ps []) (tk : L2N.Takes X W)
    (ha : DA X W (e :: es) t) (hn : (e :: es).length = n := by rfl) (hdb : (x == ("__debug__" : Str)) = false := by decide) (he : starEach (e :: es) X.env = (false, eval e X.env) :: starEach es X.env := by rfl) (hpl : (backTo pos (starEach es X.env)).any (·.1) = false := by rfl) :
    DE X W (.Call (.Name x p) (e :: es) [] pos) (eFn sp t) :=
  PE.imp (pe_callG F hr hg hm hk hb (fun σ => L2N.passAt tk σ) ha hdb he hpl) fun σ H Q ⟨G, F, m, sd, h, QD, E, at_, t, hQ⟩ => LA.step at_ t fun F' m' h' H' vs ds hl le a' rp q =>
    ⟨hl.trans hn, G, F', m', h', ds, QD, E, a'.R, rp, q, fun v H'' z => hQ _ _ (z.mono le), fun cls dx H'' z => a'.E _ _ _ z⟩
end
section
variable {P : Program} {w : World} {K : PySem.W.Frag} {mg : Str → Option Value} {base : Heap}
theorem startD_rel {G F : Hp} {m : List Addr} {N : List Str} {vs : List V} {ds : List D} (r : Rps K mg F m vs ds) : SRel K mg F m (L2.start N vs) (startD N.length ds) := by
  unfold L2.start startD
  rw [Paired.len r]
  have h1 : ∀ {vs : List V} {ds : List D}, Rps K mg F m vs ds → SRel K mg F m (vs.map some) (ds.map some) := by
    intro vs ds r
    induction r with
    | nil => exact .nil
    | cons p _ ih => exact .cons p ih
  have h2 : ∀ k : Nat, SRel K mg F m (List.replicate k none) (List.replicate k none) := fun k => by
    induction k with
    | zero => exact .nil
    | succ k ih => rw [List.replicate_succ, List.replicate_succ]; exact .cons True.intro ih
  have h3 : ∀ {a b : L2.St} {c d : Sg}, SRel K mg F m a c → SRel K mg F m b d → SRel K mg F m (a ++ b) (c ++ d) := by
    intro a b c d r s
    induction r with
    | nil => exact s
    | cons p _ ih => exact .cons p ih
  exact h3 (h1 r) (h2 _)
/-- a def by its body -/
theorem fn_ok {x qual : Str} {st : Stmt} {f : Addr} {fd : FuncData} {N ps : List Str} {k : Nat} {t : TSD} (F : Fun K x qual st f fd) (S : FnScope N ps (defScope st))
    (hbody : ∀ (cdv : Value) (A : Around) (outer : List Env) (s : Shared) (H : Hp) (E : XK), RoomG k (A.deeper (PyProof.Rows.envOfC qual (defScope st) s.heap.objs.size f cdv)) →
      DSs (cxOf (L2N.CX P w) P w K mg base N qual (defScope st) f cdv A outer s H E) (fun cls d _ H' => E cls d H') (defBody st) t) : FnG P w K mg base (L2N.CX P w) (k + 1) f fd ps (LSp K mg ps.length (bodyD N.length t)) := by
  refine fnG_of F S (fun vs H Q E h => h.1) (fun cdv A outer s H vs Q E hr h => ?_)
  obtain ⟨hl, G, F, m, h, ds, QD, ED, R, rp, q, hQ, hE⟩ := h
  refine ⟨_, hbody cdv A outer s H E hr, G, F, m, _, h, _, R, startD_rel (G := G) rp, q, ?_⟩
  refine ⟨?_, fun v H' z => hQ _ _ z, fun σ' H' z => ?_, fun σ' H' z => ?_, fun cls dx σ' H' z => ?_⟩
  · rintro σ' H' ⟨F', m', sd', h', le, R', S', q'⟩
    exact hQ _ _ ⟨F', m', h', .non, le, R', .non, q'⟩
  · obtain ⟨_, _, _, _, _, _, _, z⟩ := z; exact z.elim
  · obtain ⟨_, _, _, _, _, _, _, z⟩ := z; exact z.elim
  · obtain ⟨F', m', sd', h', nm, ns, fs, le, R', S', x, q'⟩ := z
    exact hE _ _ _ ⟨F', m', h', nm, ns, fs, le, R', x, q'⟩
/-- a promise that says less -/
theorem fn_imp {f : Addr} {fd : FuncData} {ps : List Str} {k n : Nat} {sp sp' : SpD} (F : FnG P w K mg base (L2N.CX P w) k f fd ps (LSp K mg n sp)) (h : ∀ ds h Q E, ds.length = n → sp' ds h Q E → sp ds h Q E) : FnG P w K mg base (L2N.CX P w) k f fd ps (LSp K mg n sp') :=
  F.imp fun vs H Q E ⟨hl, G, F, m, h', ds, QD, ED, R, rp, q, hQ, hE⟩ => ⟨hl, G, F, m, h', ds, QD, ED, R, rp, h _ _ _ _ ((Paired.len rp).symm.trans hl) q, hQ, hE⟩
end
end DL
end

section
set_option maxRecDepth 100000
set_option maxHeartbeats 4000000
namespace DL
open PySem PySem.Spec L2
variable [TB]
/-! ## letting go of the small heap's end -/
mutual
/-- no refs from n on -/
def nrD (n : Nat) : D → Bool
  | .ref k => decide (k < n)
  | .tup xs => nrDs n xs
  | .tupx xs => nrDs n xs
  | .lst xs => nrDs n xs
  | .scr xs => nrDs n xs
  | .dic _ xs => nrDs n xs
  | .obj _ _ xs => nrDs n xs
  | .exc _ _ _ _ _ xs => nrDs n xs
  | .lam _ _ _ _ xs => nrDs n xs
  | _ => true
def nrDs (n : Nat) : List D → Bool
  | [] => true
  | x :: r => nrD n x && nrDs n r
end
def nrO (n : Nat) : O → Bool
  | .dead => true
  | .lst xs => nrDs n xs
  | .dk _ xs => nrDs n xs
  | .dkl _ _ _ xs => nrDs n xs
  | .ins _ _ xs => nrDs n xs
  | .df _ xs => nrDs n xs
  | .dn _ xs => nrDs n xs
def popQ (n : Nat) (Q : VD) : VD := fun d h => nrD n d = true ∧ (h.take n).all (nrO n) = true ∧ n ≤ h.length ∧ Q d (h.take n)
def popE (n : Nat) (E : ED) : ED := fun nm ns fs h => nrDs n fs = true ∧ (h.take n).all (nrO n) = true ∧ n ≤ h.length ∧ E nm ns fs (h.take n)
def popF (f : SpD) : SpD := fun ds h Q E => f ds h (popQ h.length Q) (popE h.length E)
section
variable {K : PySem.W.Frag} {mg : Str → Option Value} {G F : Hp} {m : List Addr} {h : DH} {H : Hp}
mutual
theorem Rp.shrink (n : Nat) : ∀ {v : V} {d : D}, Rp K mg F m v d → nrD n d = true → Rp K mg F (m.take n) v d
  | _, _, .non, _ => .non
  | _, _, .bl b, _ => .bl b
  | _, _, .int i, _ => .int i
  | _, _, .str x, _ => .str x
  | _, _, .ty x, _ => .ty x
  | _, .tup _, .tup s p, e => .tup s (Rps.shrink n p (by simpa only [nrD] using e))
  | _, .tupx _, .tupx s c d p, e => .tupx s c d (Rps.shrink n p (by simpa only [nrD] using e))
  | _, .lst _, .lst s p, e => .lst s (Rps.shrink n p (by simpa only [nrD] using e))
  | _, .scr _, .scr s p, e => .scr s (Rps.shrink n p (by simpa only [nrD] using e))
  | _, .dic _ _, .dic a b p, e => .dic a b (Rps.shrink n p (by simpa only [nrD] using e))
  | _, .obj _ _ _, .obj a b c p, e => .obj a b c (Rps.shrink n p (by simpa only [nrD] using e))
  | _, .ref k, .ref e, h => .ref (by
      have hk : k < n := by simpa only [nrD, decide_eq_true_eq] using h
      rw [List.getElem?_take_of_lt hk]; exact e)
  | _, _, .glb e, _ => .glb e
  | _, _, .exc0 g, _ => .exc0 g
  | _, .lam _ _ _ _ _, .lam e p, h => .lam e (Rps.shrink n p (by simpa only [nrD] using h))
  | _, .exc _ _ _ _ _ _, .exc1 g e f p, h => .exc1 g e f (Rps.shrink n p (by simpa only [nrD] using h))
theorem Rps.shrink (n : Nat) : ∀ {vs : List V} {ds : List D}, Paired (Rp K mg F m) vs ds → nrDs n ds = true → Paired (Rp K mg F (m.take n)) vs ds
  | _, _, .nil, _ => .nil
  | _, x :: r', .cons p r, e => by
    have e' : nrD n x = true ∧ nrDs n r' = true := by simpa only [nrDs, Bool.and_eq_true] using e
    exact .cons (Rp.shrink n p e'.1) (Rps.shrink n r e'.2)
end
theorem Ro.shrink (n : Nat) {a : Addr} {x : Option HO} {o : O} (r : Ro K mg F m a x o) (e : nrO n o = true) : Ro K mg F (m.take n) a x o := by
  cases r with
  | dead => exact .dead _
  | lst p => exact .lst (Rps.shrink n p e)
  | dk a p => exact .dk a (Rps.shrink n p e)
  | dkl a p => exact .dkl a (Rps.shrink n p e)
  | ins a b p => exact .ins a b (Rps.shrink n p e)
  | df h1 h2 h3 h4 h5 h6 h7 h8 p => exact .df h1 h2 h3 h4 h5 h6 h7 h8 (Rps.shrink n p e)
  | dn h1 h2 h3 h4 h5 h6 h7 h8 p => exact .dn h1 h2 h3 h4 h5 h6 h7 h8 (Rps.shrink n p e)
theorem Rel.shrink (R : Rel K mg G F m h H) (n : Nat) (e : (h.take n).all (nrO n) = true) : Rel K mg G F (m.take n) (h.take n) H := by
  have tk : ∀ {α : Type} {l : List α} {i : Nat} {x : α}, (l.take n)[i]? = some x → l[i]? = some x ∧ i < n := fun {α l i x} q => by
    have hi := (List.getElem?_eq_some_iff.mp q).1
    rw [List.length_take] at hi
    rw [List.getElem?_take_of_lt (by omega)] at q
    exact ⟨q, by omega⟩
  refine ⟨R.sg, R.gk, R.gf, fun i a o e1 e2 ne => R.gl i a o (tk e1).1 (tk e2).1 ne, R.sf, by rw [List.length_take, List.length_take, R.ln], fun i o e1 ne => ?_, fun i j a o u e1 e2 g1 g2 n1 n2 => R.ij i j a o u (tk e1).1 (tk e2).1 (tk g1).1 (tk g2).1 n1 n2, R.tb⟩
  obtain ⟨a, f1, f2, r⟩ := R.lv i o (tk e1).1 ne
  refine ⟨a, by rw [List.getElem?_take_of_lt (tk e1).2]; exact f1, f2, r.shrink n ?_⟩
  exact List.all_eq_true.mp e o (List.mem_of_getElem? e1)
theorem WLe.shrink {F' : Hp} {m' : List Addr} {h : DH} (R : m.length = h.length) (le : WLe F m F' m') : WLe F m F' (m'.take h.length) := by
  obtain ⟨k, rfl⟩ := le.m
  exact ⟨le.f, [], by rw [← R]; simp⟩
theorem QV.pop {Q : VD} {v : V} {H' : Hp} (R : m.length = h.length) (q : QV K mg G F m (popQ h.length Q) v H') : QV K mg G F m Q v H' := by
  obtain ⟨F', m', h', d, le, R', rp, q1, q2, q3, q4⟩ := q
  exact ⟨F', _, _, d, le.shrink R, R'.shrink _ q2, rp.shrink _ q1, q4⟩
theorem QE.pop {E : ED} {c : Value} {dx : Option Addr} {H' : Hp} (R : m.length = h.length) (q : QE K mg G F m (popE h.length E) c dx H') : QE K mg G F m E c dx H' := by
  obtain ⟨F', m', h', nm, ns, fs, le, R', x, q1, q2, q3, q4⟩ := q
  refine ⟨F', _, _, nm, ns, fs, le.shrink R, R'.shrink _ q2, ?_, q4⟩
  obtain ⟨C, a, b, c⟩ := x
  refine ⟨C, a, b, ?_⟩
  rcases c with c | ⟨x, vs, e1, e2, e3, p⟩
  · exact .inl c
  · exact .inr ⟨x, vs, e1, e2, e3, Rps.shrink _ p q1⟩
end
section
variable {P : Program} {w : World} {K : PySem.W.Frag} {mg : Str → Option Value} {base : Heap}
theorem fn_pop {f : Addr} {fd : FuncData} {ps : List Str} {k n : Nat} {sp : SpD} (F : FnG P w K mg base (L2N.CX P w) k f fd ps (LSp K mg n sp)) : FnG P w K mg base (L2N.CX P w) k f fd ps (LSp K mg n (popF sp)) :=
  F.imp fun vs H Q E ⟨hl, G, F, m, h', ds, QD, ED, R, rp, q, hQ, hE⟩ => ⟨hl, G, F, m, h', ds, _, _, R, rp, q, fun v H' z => hQ _ _ (z.pop R.ln), fun c dx H' z => hE _ _ _ (z.pop R.ln)⟩
end
/-! ## fields -/
theorem ofString_inj {a b : String} (h : Str.ofString a = Str.ofString b) : a = b := by
  rw [Str.ofString_eq_toList, Str.ofString_eq_toList] at h
  have h1 : (a.toList.map Char.toNat) = (b.toList.map Char.toNat) := by
    injection h with h
    simpa using h
  have inj : ∀ {l r : List Char}, l.map Char.toNat = r.map Char.toNat → l = r := by
    intro l
    induction l with
    | nil => intro r e; cases r with
      | nil => rfl
      | cons _ _ => cases e
    | cons x l ih => intro r e; cases r with
      | nil => cases e
      | cons y r =>
        rw [List.map_cons, List.map_cons] at e
        injection e with e1 e2
        rw [ih e2, Char.toNat_inj.mp e1]
  exact String.toList_inj.mp (inj h1)
def fget : List String → List D → String → Option D
  | k :: ks, x :: xs, f => if k = f then some x else fget ks xs f
  | _, _, _ => none
def fput : List String → List D → String → D → List String × List D
  | k :: ks, x :: xs, f, d => if k = f then (k :: ks, d :: xs) else ((k :: (fput ks xs f d).1), (x :: (fput ks xs f d).2))
  | _, _, f, d => ([f], [d])
section
variable {K : PySem.W.Frag} {mg : Str → Option Value} {G F : Hp} {m : List Addr} {h : DH} {H : Hp}
theorem fget_lk {f : String} {d : D} : ∀ {ns : List String} {vs : List V} {ds : List D}, ns.length = vs.length → Rps K mg F m vs ds → fget ns ds f = some d → ∃ v, ((ns.map Str.ofString).zip vs).lookup (Str.ofString f) = some v ∧ Rp K mg F m v d
  | [], _, _, _, _, e => by simp [fget] at e
  | _ :: _, _, [], _, _, e => by simp [fget] at e
  | _ :: _, [], _ :: _, el, _, e => by simp at el
  | k :: ks, v :: vs, x :: xs, el, .cons p r, e => by
    unfold fget at e
    have e1 : (((k :: ks).map Str.ofString).zip (v :: vs)) = (Str.ofString k, v) :: (ks.map Str.ofString).zip vs := rfl
    rw [e1, List.lookup_cons]
    by_cases hk : k = f
    · subst hk
      rw [if_pos rfl] at e; cases e
      refine ⟨v, ?_, p⟩
      rw [beq_self_eq_true]
    · rw [if_neg hk] at e
      have : (Str.ofString f == Str.ofString k) = false := beq_eq_false_iff_ne.mpr fun q => hk (ofString_inj q).symm
      rw [this]
      exact fget_lk (by simpa using el) r e
theorem fput_put {f : String} {v : V} {d : D} (q : Rp K mg F m v d) : ∀ {ns : List String} {vs : List V} {ds : List D}, ns.length = vs.length → Rps K mg F m vs ds →
    ∃ vs', (fput ns ds f d).1.length = vs'.length ∧ putF (Str.ofString f) v ((ns.map Str.ofString).zip vs) = ((fput ns ds f d).1.map Str.ofString).zip vs' ∧ Rps K mg F m vs' (fput ns ds f d).2
  | [], [], _, _, .nil => ⟨[v], rfl, rfl, .cons q .nil⟩
  | k :: ks, w :: ws, x :: xs, e, .cons p r => by
    unfold fput
    have e1 : (((k :: ks).map Str.ofString).zip (w :: ws)) = (Str.ofString k, w) :: (ks.map Str.ofString).zip ws := rfl
    rw [e1]
    by_cases hk : k = f
    · subst hk
      rw [if_pos rfl]
      refine ⟨v :: ws, by simpa using e, ?_, .cons q r⟩
      unfold putF
      rw [if_pos rfl]; rfl
    · rw [if_neg hk]
      obtain ⟨vs', a, b, c⟩ := fput_put (f := f) q (ns := ks) (by simpa using e) r
      refine ⟨w :: vs', by simpa using a, ?_, .cons p c⟩
      unfold putF
      rw [if_neg (fun z => hk (ofString_inj z)), b]; rfl
/-- class, fields' names and values of an instance -/
def insOf (d : D) (h : DH) : Option (String × List String × List D) := match d with
  | .obj c ns xs => some (c, ns, xs)
  | .ref n => match h[n]? with
    | some (.ins c ns xs) => some (c, ns, xs)
    | _ => none
  | _ => none
theorem Rel.ins (R : Rel K mg G F m h H) {v : V} {d : D} {c : String} {ns : List String} {xs : List D} (r : Rp K mg F m v d) (e : insOf d h = some (c, ns, xs)) :
    ∃ a C dx vs, v = .ref a ∧ H a = some (.ins C dx ((ns.map Str.ofString).zip vs)) ∧ mg (Str.ofString c) = some (.ref C) ∧ ns.length = vs.length ∧ Rps K mg F m vs xs := by
  cases r with
  | obj a b c p => cases e; exact ⟨_, _, _, _, rfl, R.sf _ _ b, c, a, p⟩
  | ref hn =>
    simp only [insOf] at e
    split at e
    · rename_i n c' ns' ys q
      cases e
      obtain ⟨a, e1, e2, r⟩ := R.lv _ _ q (fun q => nomatch q)
      rw [hn] at e1; cases e1
      generalize z : H _ = o at r
      cases r with
      | ins a b p => exact ⟨_, _, _, _, rfl, z, b, a, p⟩
    · cases e
  | _ => cases e
end
/-- what the text says of a class's field -/
structure FldT (K : PySem.W.Frag) (mg : Str → Option Value) (c f : String) : Prop where
  cl : ∀ C, mg (Str.ofString c) = some (.ref C) → Cls K C
  no : ∀ C, mg (Str.ofString c) = some (.ref C) → NoAttr K C (Str.ofString f)
/-- e.f, e of a class among cs -/
def eFld (cs : List String) (f : String) (t : TED) : TED := fun sd h Q E => t sd h (fun d h1 => match insOf d h1 with
  | some (c, ns, xs) => c ∈ cs ∧ (match fget ns xs f with
    | some y => Q y h1
    | none => False)
  | none => False) E
/-- e.f = v -/
def sFldD (cs : List String) (f : String) (t u : TED) : TSD := fun k sd h => u sd h (fun y h1 => t sd h1 (fun d h2 => match d with
  | .ref n => match h2[n]? with
    | some (.ins c ns xs) => c ∈ cs ∧ ns.length < 1000 ∧ k.nx sd (h2.set n (.ins c (fput ns xs f y).1 (fput ns xs f y).2))
    | _ => False
  | _ => False) (k.E sd)) (k.E sd)
section
variable {X : Cx} {W : WX} {o e : Expr} {to te : TED} {f : String} {cs : List String} {pos pos' : Pos}
theorem de_fld (T : ∀ c ∈ cs, FldT X.K X.mg c f) (he : DE X W e te) (hb : attributeBase e (Str.ofString f) X.env (eval e X.env) = eval e X.env := by rfl) : DE X W (.Attribute e (Str.ofString f) pos) (eFld cs f te) :=
  PE.imp (pe_fld he hb) fun σ H Q ⟨G, F, m, sd, h, QD, E, at_, t, hQ⟩ => LE.step at_ t fun F' m' h' H' v d le a' rp q => by
    split at q
    · rename_i c ns xs ei
      obtain ⟨a, C, dx, vs, rfl, hH, hC, hl, p⟩ := a'.R.ins rp ei
      obtain ⟨hc, q⟩ := q
      split at q
      · rename_i y ey
        obtain ⟨w, l, rw'⟩ := fget_lk hl p ey
        exact ⟨a, C, dx, _, w, rfl, hH, (T c hc).cl C hC, (T c hc).no C hC, l, hQ _ _ ⟨F', m', h', y, le, a'.R, rw', q⟩⟩
      · exact q.elim
    · exact q.elim
theorem ds_fld (T : ∀ c ∈ cs, FldT X.K X.mg c f) (ho : DE X W o to) (he : DE X W e te) (hs : swapsWith e (some (.Attribute o (Str.ofString f) pos')) pos.line X.env = pure false := by rfl) : DS X W (.Assign [.Attribute o (Str.ofString f) pos'] e pos) (sFldD cs f to te) :=
  PS.imp (ps_fld ho he hs) fun D σ H ⟨G, F, m, sd, h, k, R, S, t, a⟩ => LE.step (a.at R S) t fun F1 m1 h1 H1 v d le1 a1 rv q1 => LE.step a1 q1 fun F2 m2 h2 H2 ov od le2 a2 ro q2 => by
    split at q2
    · rename_i n
      split at q2
      · rename_i c ns xs hn
        obtain ⟨hc, hl, q3⟩ := q2
        cases ro with
        | ref hm =>
        obtain ⟨b, e1, e2, r⟩ := a2.R.lv n _ hn (fun q => nomatch q)
        rw [hm] at e1; cases e1
        generalize z : H2 _ = oo at r
        cases r with
        | ins el hC p =>
        rename_i C dx ws
        obtain ⟨vs', g1, g2, g3⟩ := fput_put (f := f) (rv.mono le2) el p
        refine ⟨_, C, dx, _, rfl, z, (T c hc).cl C hC, (T c hc).no C hC, ?_, ?_⟩
        · rw [List.length_zip, List.length_map, ← el, Nat.min_self]; exact hl
        · rw [g2]
          exact a.nx _ _ ⟨F2, m2, sd, _, le1.trans le2, a2.R.put hn (fun q => nomatch q) hm (.ins g1 hC g3), a2.S, q3⟩
      · exact q2.elim
    · exact q2.elim
end
end DL
end

section
set_option maxRecDepth 100000
set_option maxHeartbeats 4000000
namespace DL
open PySem PySem.Spec L2
variable [TB]
/-! ## isinstance -/
def tyNs : List String := ["int", "bool", "tuple", "list", "str", "dict"]
def tyB (d : D) (h : DH) : Option String := match d with
  | .non => some "NoneType"
  | .bl _ => some "bool"
  | .int _ => some "int"
  | .str _ => some "str"
  | .tup _ => some "tuple"
  | .lst _ => some "list"
  | .dic _ _ => some "dict"
  | .ref n => match h[n]? with
    | some (.lst _) => some "list"
    | some (.dk _ _) => some "dict"
    | _ => none
  | _ => none
def tyIs (a b : String) : Bool := a == b || (a == "bool" && b == "int")
def ownB (d : D) (h : DH) : Option String := (insOf d h).map (·.1)
structure OwnT (K : PySem.W.Frag) (mg : Str → Option Value) (cs : List String) : Prop where
  cl : ∀ c ∈ cs, ∀ C, mg (Str.ofString c) = some (.ref C) → Cls K C
  ha : ∀ c ∈ cs, ∀ C, mg (Str.ofString c) = some (.ref C) → PySem.W.findIn K (.ref C) "__class__" = some (some (.builtin "object.__class__"))
  hm : ∀ c ∈ cs, ∀ C, mg (Str.ofString c) = some (.ref C) → PySem.W.mroIn K C (.type "object") = some true
  hn : PySem.W.specialIn K (.builtin "object.__class__") "__get__" = some (some (.builtin "getset_descriptor.__get__"))
  ht : PySem.W.takesIn K (.builtin "object.__class__") = some true
  ob : ∀ c ∈ cs, ∀ C, mg (Str.ofString c) = some (.ref C) → ∀ n ∈ tyNs, PySem.W.kitOne K (.ref C) (.type n) = some false
  bo : ∀ c ∈ cs, ∀ C, mg (Str.ofString c) = some (.ref C) → ∀ n ∈ "NoneType" :: tyNs, PySem.W.kitOne K (.type n) (.ref C) = some false
  oo : ∀ c ∈ cs, ∀ C, mg (Str.ofString c) = some (.ref C) → ∀ c' ∈ cs, ∀ C', mg (Str.ofString c') = some (.ref C') → PySem.W.kitOne K (.ref C') (.ref C) = some (decide (c' = c))
  ex : ∀ c ∈ cs, ∃ C, mg (Str.ofString c) = some (.ref C)
def fIsi (cs : List String) : FC := fun ds h Q => match ds with
  | [x, .ty n] => n ∈ tyNs ∧ (match tyB x h with
    | some t => Q (.bl (tyIs t n)) h
    | none => match ownB x h with
      | some c => c ∈ cs ∧ Q (.bl false) h
      | none => False)
  | [x, .glb c] => c ∈ cs ∧ (match tyB x h with
    | some _ => Q (.bl false) h
    | none => match ownB x h with
      | some c' => c' ∈ cs ∧ Q (.bl (decide (c' = c))) h
      | none => False)
  | _ => False
theorem kitB_tab : (("NoneType" :: tyNs).all fun a => tyNs.all fun b => kitB a b == some (tyIs a b)) = true := by decide +kernel
theorem kitB_of {a b : String} (ha : a ∈ "NoneType" :: tyNs) (hb : b ∈ tyNs) : kitB a b = some (tyIs a b) := by
  have h := List.all_eq_true.mp (List.all_eq_true.mp kitB_tab a ha) b hb
  exact beq_iff_eq.mp h
section
variable {K : PySem.W.Frag} {mg : Str → Option Value} {G F : Hp} {m : List Addr} {h : DH} {H : Hp}
theorem Rel.tyB (R : Rel K mg G F m h H) {v : V} {d : D} {t : String} (r : Rp K mg F m v d) (e : DL.tyB d h = some t) : TyX K H v (.type t) ∧ t ∈ "NoneType" :: tyNs := by
  cases r with
  | non => cases e; exact ⟨.base .non, by decide⟩
  | bl b => cases e; exact ⟨.base (.bl b), by decide⟩
  | int b => cases e; exact ⟨.base (.int b), by decide⟩
  | str b => cases e; exact ⟨.base (.str b), by decide⟩
  | tup s p =>
    cases e
    refine ⟨?_, by decide⟩
    rcases s with (s | ⟨o, s, _⟩) | ⟨o, its, n, e1, e2, _⟩
    · exact .base (.tup (R.sf _ _ s))
    · exact .fTuple (R.sf _ _ s)
    · exact .kTuple e1 e2
  | lst s p => cases e; exact ⟨.base (.lst (R.sf _ _ s)), by decide⟩
  | dic a b c => cases e; exact ⟨.base (.dK (R.sf _ _ b)), by decide⟩
  | ref hn =>
    simp only [DL.tyB] at e
    split at e
    · rename_i n xs q
      cases e
      obtain ⟨a', vs, e1, _, e3, p⟩ := R.lst q
      rw [hn] at e1; cases e1
      exact ⟨.base (.lst e3), by decide⟩
    · rename_i n ks xs q
      cases e
      obtain ⟨a, e1, e2, r⟩ := R.lv _ _ q (fun q => nomatch q)
      rw [hn] at e1; cases e1
      generalize z : H _ = o at r
      cases r with
      | dk a b => exact ⟨.base (.dK z), by decide⟩
    · cases e
  | _ => cases e
theorem Rel.ownB {cs : List String} (T : OwnT K mg cs) (R : Rel K mg G F m h H) {v : V} {d : D} {c : String} (r : Rp K mg F m v d) (e : DL.ownB d h = some c) (hc : c ∈ cs) : ∃ C, mg (Str.ofString c) = some (.ref C) ∧ TyX K H v (.ref C) := by
  unfold DL.ownB at e
  rw [Option.map_eq_some_iff] at e
  obtain ⟨⟨c', ns, xs⟩, e1, rfl⟩ := e
  obtain ⟨a, C, dx, vs, rfl, hH, hC, hl, p⟩ := R.ins r e1
  exact ⟨C, hC, .base (.ins hH (T.cl _ hc C hC) (T.ha _ hc C hC) T.hn T.ht (T.hm _ hc C hC))⟩
end
section
variable {X : Cx}
theorem dc_isi {cs : List String} (T : OwnT X.K X.mg cs) : CallDD X (.builtin "isinstance") (fIsi cs) := ⟨_, call_isi, fun G F m h H vs ds QD Q R rp q hQ => by
  unfold fIsi at q
  split at q
  · rename_i x n
    obtain ⟨v, w, rfl, r1, r2⟩ := Rps.two rp
    cases r2
    obtain ⟨hn, q⟩ := q
    split at q
    · rename_i t et
      obtain ⟨ty, ht⟩ := R.tyB r1 et
      exact ⟨v, .ty n, _, .type n, _, rfl, .ty n, ty, kit_ty (kitB_of ht hn), hQ _ _ ⟨F, m, h, _, WLe.refl, R, .bl _, q⟩⟩
    · split at q
      · rename_i c ec
        obtain ⟨hc, q⟩ := q
        obtain ⟨C, hC, ty⟩ := R.ownB T r1 ec hc
        exact ⟨v, .ty n, _, .type n, _, rfl, .ty n, ty, T.ob c hc C hC n hn, hQ _ _ ⟨F, m, h, _, WLe.refl, R, .bl _, q⟩⟩
      · exact q.elim
  · rename_i x c
    obtain ⟨v, w, rfl, r1, r2⟩ := Rps.two rp
    cases r2 with
    | glb hg =>
    rename_i A
    obtain ⟨hc, q⟩ := q
    split at q
    · rename_i t et
      obtain ⟨ty, ht⟩ := R.tyB r1 et
      exact ⟨v, .ref A, _, .ref A, _, rfl, .own A, ty, T.bo c hc A hg t ht, hQ _ _ ⟨F, m, h, _, WLe.refl, R, .bl _, q⟩⟩
    · split at q
      · rename_i c' ec
        obtain ⟨hc', q⟩ := q
        obtain ⟨C, hC, ty⟩ := R.ownB T r1 ec hc'
        exact ⟨v, .ref A, _, .ref A, _, rfl, .own A, ty, T.oo c hc A hg c' hc' C hC, hQ _ _ ⟨F, m, h, _, WLe.refl, R, .bl _, q⟩⟩
      · exact q.elim
  · exact q.elim⟩
/-- isinstance(x, (T, ..)), built-in types alone -/
def tysOf : List D → Option (List String)
  | [] => some []
  | .ty n :: r => (tysOf r).map fun l => n :: l
  | _ :: _ => none
def fIsiT (cs : List String) : FC := fun ds h Q => match ds with
  | [x, .tup (t0 :: ts)] => match tysOf (t0 :: ts) with
    | some ns => (∀ n ∈ ns, n ∈ tyNs) ∧ (match tyB x h with
      | some t => Q (.bl (ns.any fun n => tyIs t n)) h
      | none => match ownB x h with
        | some c => c ∈ cs ∧ Q (.bl false) h
        | none => False)
    | none => False
  | _ => False
theorem kitAny_of {K : PySem.W.Frag} {t : Value} {f : String → Bool} : ∀ {ns : List String}, (∀ n ∈ ns, PySem.W.kitOne K t (.type n) = some (f n)) → PySem.W.kitAny K t (ns.map Value.type) = some (ns.any f)
  | [], _ => rfl
  | n :: r, h => by
    have h1 := h n List.mem_cons_self
    have h2 := kitAny_of (ns := r) fun x hx => h x (List.mem_cons_of_mem _ hx)
    show PySem.W.kitAny K t (.type n :: r.map Value.type) = _
    unfold PySem.W.kitAny
    rw [h1, List.any_cons]
    cases f n with
    | true => rfl
    | false => simpa using h2
theorem tysOf_some : ∀ {ts : List D} {ns : List String}, tysOf ts = some ns → ts = ns.map D.ty
  | [], _, e => by cases e; rfl
  | d :: r, ns, e => by
    cases d with
    | ty n =>
      simp only [tysOf, Option.map_eq_some_iff] at e
      obtain ⟨l, e1, rfl⟩ := e
      rw [tysOf_some e1]; rfl
    | _ => simp only [tysOf] at e; cases e
theorem Rps.tys {K mg} {F : Hp} {m : List Addr} : ∀ {vs : List V} {ns : List String}, Rps K mg F m vs (ns.map D.ty) → vs = ns.map V.ty
  | _, [], .nil => rfl
  | _, _ :: _, .cons p r => by cases p; rw [Rps.tys r]; rfl
theorem clsV_tys : ∀ ns : List String, Paired ClsV (ns.map V.ty) (ns.map Value.type)
  | [] => .nil
  | n :: r => .cons (.ty n) (clsV_tys r)
theorem dc_isiT {cs : List String} (T : OwnT X.K X.mg cs) : CallDD X (.builtin "isinstance") (fIsiT cs) := ⟨_, CallR.or call_isiT call_isiK, fun G F m h H vs ds QD Q R rp q hQ => by
  unfold fIsiT at q
  split at q
  · rename_i x t0 ts
    obtain ⟨v, w, rfl, r1, r2⟩ := Rps.two rp
    cases r2 with
    | tup s p =>
    rename_i A ws
    split at q
    · rename_i ns e
      have hne0 : ns ≠ [] := fun z => by
        have := tysOf_some e
        rw [z] at this
        cases this
      rw [tysOf_some e] at p
      have ew := Rps.tys p
      subst ew
      have hne : ns.map V.ty ≠ [] := fun z => hne0 (List.map_eq_nil_iff.mp z)
      obtain ⟨hn, q⟩ := q
      have go : ∀ (t : Value) (b : Bool), TyX X.K H v t → PySem.W.kitAny X.K t (ns.map Value.type) = some b → Q (.bl b) H → rIsiT X.K [v, .ref A] H Q ∨ rIsiK X.K [v, .ref A] H Q := fun t b ty k z => by
        rcases s with (s | ⟨o, _, hty⟩) | ⟨o, its, n, e1, e2, e3, e4, e5⟩
        · exact .inl ⟨v, A, _, t, _, b, rfl, R.sf _ _ s, clsV_tys ns, ty, k, z⟩
        · exact absurd (show V.ty ((ns.map V.ty).head hne |> fun | .ty n => n | _ => "") ∈ ns.map V.ty from by
            cases ns with
            | nil => exact absurd rfl hne
            | cons a r => exact List.mem_cons_self) (hty _)
        · have ev := ClsV.all (clsV_tys ns) e5
          obtain ⟨c0, d0, dt0, sl0⟩ := o
          cases (show c0 = .type "tuple" from e2)
          cases (show dt0 = .seq its n from e3)
          exact .inr ⟨v, A, d0, ns.map Value.type, n, sl0, t, b, rfl, by rw [← ev]; exact e1, ty, k, z⟩
      split at q
      · rename_i t et
        obtain ⟨ty, ht⟩ := R.tyB r1 et
        exact go _ _ ty (kitAny_of fun n h' => kit_ty (kitB_of ht (hn n h'))) (hQ _ _ ⟨F, m, h, _, WLe.refl, R, .bl _, q⟩)
      · split at q
        · rename_i c ec
          obtain ⟨hc, q⟩ := q
          obtain ⟨C, hC, ty⟩ := R.ownB T r1 ec hc
          refine go _ false ty ?_ (hQ _ _ ⟨F, m, h, _, WLe.refl, R, .bl _, q⟩)
          rw [kitAny_of (f := fun _ => false) fun n h' => T.ob c hc C hC n (hn n h')]
          simp
        · exact q.elim
    · exact q.elim
  · exact q.elim⟩
end
end DL
end

section
set_option maxRecDepth 100000
set_option maxHeartbeats 4000000
namespace DL
open PySem PySem.Spec L2
variable [TB]
/-! ## C(..), C a class of the text with its __init__ -/
section
variable {K : PySem.W.Frag} {mg : Str → Option Value} {G F : Hp} {m : List Addr} {h : DH} {H : Hp}
/-- something new that no world tells of -/
theorem Rel.skip {p : Addr} {o : HO} (R : Rel K mg G F m h H) (hp : H p = none) : Rel K mg G F m h (upd H p o) := by
  refine ⟨fun b u e => ?_, R.gk, R.gf, R.gl, fun b u e => ?_, R.ln, fun n x e ne => ?_, R.ij, R.tb.new hp⟩
  · rw [upd_ne (ne_of_none (R.sg _ _ e) hp)]; exact R.sg _ _ e
  · rw [upd_ne (ne_of_none (R.sf _ _ e) hp)]; exact R.sf _ _ e
  · obtain ⟨a, f1, f2, r⟩ := R.lv n x e ne
    have ha : a ≠ p := by
      rintro rfl
      rw [hp] at r
      cases r; exact ne rfl
    exact ⟨a, f1, f2, by rw [upd_ne ha]; exact r⟩
end
section
variable {X : Cx} {CX : CXT} {k : Nat} {f C : Addr} {fd : FuncData} {ps : List Str} {sp : Sp} {E : St → XK} {x : Str} {p pos : Pos} {e : Expr} {es : List Expr} {t : TA}
theorem run_makeS {pins : List (Addr × Obj)} {σ : L2.St} {H : Hp} {s : Shared} {Q : VK} {us : List Value} {vs : List V} {E : XK} (M : Mk X.K C f) (F : FnG X.prog X.w X.K X.mg X.base CX k f fd ps sp) (hr : RoomG (k + 1) X.A) (hb : Binds X.K fd ps [])
    (hx : PassesAt CX X σ E) (I : Inv X pins σ H s) (r : Vals vs us)
    (h : ∀ x dx, H x = none → H dx = none → dx ≠ x → sp (.ref x :: vs) (upd (upd H dx (.own x)) x (.ins C dx [])) (fun v H2 => v = .non ∧ Q (.ref x) H2) E) :
    wpAny (model X.prog X.w) X.A (call (.ref C) us) (EP X pins σ Q) X.xe s := by
  have hq := h (s.heap.objs.size + 1) s.heap.objs.size (I.hok.fresh (Nat.le_succ _)) (I.hok.fresh (Nat.le_refl _)) (Nat.ne_of_lt (Nat.lt_succ_self _))
  have I2 := Inv.made (C := C) I
  have r2 : Vals (V.ref (s.heap.objs.size + 1) :: vs) (Value.ref (s.heap.objs.size + 1) :: us) := .cons rfl r
  have hl : (Value.ref (s.heap.objs.size + 1) :: us ++ []).length = ps.length := by
    have e := r2.length
    rw [F.ln _ _ _ _ hq] at e
    rw [List.append_nil]
    exact e.symm
  have bb := hb _ (Value.ref (s.heap.objs.size + 1) :: us) I2.kIn hl
  rw [List.append_nil] at bb
  refine wpAny_call (make_map (f := f) I.kIn M.makes M.init (beq_iff_eq.mp M.fn) (codeAny_mono (F.go _ X.stack _ _ ⟨Value.ref (s.heap.objs.size + 1) :: us, []⟩ (Value.ref (s.heap.objs.size + 1) :: us) _ _ E (hr.make C us [])
    (I2.env0.make C us []) bb r2 hq) fun r s' hq' => ?_))
  cases r with
  | error e => exact hx pins _ _ e s' I2 hq'
  | ok fl =>
    cases fl with
    | ret u =>
      obtain ⟨v, H', I3, rv, ev, q3⟩ := I2.after hq'
      subst ev
      exact ⟨rv, ⟨V.ref (s.heap.objs.size + 1), H', I3, rfl, q3⟩⟩
    | next => exact False.elim hq'
    | brk => exact False.elim hq'
    | cont => exact False.elim hq'
def tMakeS (C : Addr) (sp : Sp) (E : St → XK) (t : TA) : TE := fun σ H Q => t σ H fun vs H1 => ∀ x dx, H1 x = none → H1 dx = none → dx ≠ x →
  sp (.ref x :: vs) (upd (upd H1 dx (.own x)) x (.ins C dx [])) (fun v H2 => v = .non ∧ Q (.ref x) H2) (E σ)
theorem pe_makeS (M : Mk X.K C f) (F : FnG X.prog X.w X.K X.mg X.base CX k f fd ps sp) (hr : RoomG (k + 1) X.A) (hg : Gl X x) (hm : X.mg x = some (.ref C)) (hb : Binds X.K fd ps []) (hx : ∀ σ, PassesAt CX X σ (E σ))
    (ha : PA X (e :: es) t) (hdb : (x == ("__debug__" : Str)) = false := by decide) (he : starEach (e :: es) X.env = (false, eval e X.env) :: starEach es X.env := by rfl) (hpl : (backTo pos (starEach es X.env)).any (·.1) = false := by rfl) :
    PE X (.Call (.Name x p) (e :: es) [] pos) (tMakeS C sp E t) := by
  refine ⟨fun pins s σ H Q I h => ?_⟩
  refine wpAny_Call_Name_kw (ld_glob I hg hm ?_ hdb)
  refine PySem.W.callWith_K (h₀ := X.base) I.ok.mod.kin M.kp (L2.thn (ha.run pos pins s σ H _ I h) fun us s1 hh => ?_) he hpl
  obtain ⟨vs, H1, I1, r, q⟩ := hh
  refine ⟨I1.kIn, ?_⟩
  exact run_makeS M F hr hb (hx σ) I1 r q
end
/-- C(..): an object of the small heap -/
def eMk (c : String) (sp : SpD) (t : TAD) : TED := fun sd h Q E => t sd h (fun ds h1 => sp (.ref h1.length :: ds) (h1 ++ [.ins c [] []]) (fun d h2 => match d with
  | .non => Q (.ref h1.length) h2
  | _ => False) E) E
/-- .. that is never changed from now on, and let go of in the small heap -/
def eMkV (c : String) (sp : SpD) (t : TAD) : TED := fun sd h Q E => t sd h (fun ds h1 => sp (.ref h1.length :: ds) (h1 ++ [.ins c [] []]) (fun d h2 => match d with
  | .non => match h2[h1.length]? with
    | some (.ins c' ns xs) => nrDs h1.length xs = true ∧ (h2.take h1.length).all (nrO h1.length) = true ∧ Q (.obj c' ns xs) (h2.take h1.length)
    | _ => False
  | _ => False) (popE h1.length E)) E
section
variable {X : Cx} {W : WX} {k : Nat} {f C : Addr} {fd : FuncData} {ps : List Str} {n : Nat} {sp : SpD} {c : String} {p pos : Pos} {e : Expr} {es : List Expr} {t : TAD}
theorem Rel.freezeI {K mg} {G F : Hp} {m : List Addr} {h : DH} {H : Hp} {n : Nat} {c : String} {ns : List String} {xs : List D} (R : Rel K mg G F m h H) (hn : h[n]? = some (.ins c ns xs)) :
    ∃ a F', m[n]? = some a ∧ WLe F m F' m ∧ Rel K mg G F' m (h.set n .dead) H ∧ ∃ C dx vs, ns.length = vs.length ∧ F' a = some (.ins C dx ((ns.map Str.ofString).zip vs)) ∧ mg (Str.ofString c) = some (.ref C) ∧ Rps K mg F' m vs xs := by
  obtain ⟨a, ha, fa, r⟩ := R.lv n _ hn (fun q => nomatch q)
  generalize e : H a = o at r
  cases r with
  | ins el hC p =>
    rename_i C dx vs
    have le : WLe F m (upd F a (.ins C dx ((ns.map Str.ofString).zip vs))) m := ⟨fun b u e => by rw [upd_ne (ne_of_none e fa)]; exact e, [], by simp⟩
    have ga := R.gl n a _ ha hn (fun q => nomatch q)
    have hl := (List.getElem?_eq_some_iff.mp hn).1
    have old : ∀ {k : Nat} {y : O}, (h.set n .dead)[k]? = some y → y ≠ .dead → h[k]? = some y := fun {k y} g ne => by
      by_cases hk : k = n
      · subst hk; rw [List.getElem?_set_self hl] at g; exact absurd (Option.some.inj g).symm ne
      · rw [List.getElem?_set_ne (Ne.symm hk)] at g; exact g
    refine ⟨a, _, ha, le, ⟨R.sg, R.gk, fun b u q => ?_, fun k y z e1 e2 ne => R.gl k y z e1 (old e2 ne) ne, fun b u q => ?_, by simp [R.ln], fun k y g ne => ?_, fun i j y o1 o2 e1 e2 g1 g2 n1 n2 => ?_, R.tb.addF (fun _ q => nomatch q)⟩, C, dx, vs, el, upd_same, hC, Rps.mono le p⟩
    · rw [upd_ne (ne_of_none q ga)]; exact R.gf _ _ q
    · by_cases hb : b = a
      · subst hb; rw [upd_same] at q; rw [e]; exact q
      · rw [upd_ne hb] at q; exact R.sf _ _ q
    · by_cases hk : k = n
      · subst hk; rw [List.getElem?_set_self hl] at g; exact absurd (Option.some.inj g).symm ne
      · rw [List.getElem?_set_ne (Ne.symm hk)] at g
        obtain ⟨y', e1, e2, r'⟩ := R.lv k y g ne
        have hy : y' ≠ a := by
          rintro rfl
          exact hk (R.ij k n _ _ _ e1 ha g hn ne (fun q => nomatch q))
        exact ⟨y', e1, by rw [upd_ne hy]; exact e2, r'.mono le⟩
    · exact R.ij i j _ _ _ e1 e2 (old g1 n1) (old g2 n2) n1 n2
theorem Rel.newIns {K mg} {G F : Hp} {m : List Addr} {h : DH} {H : Hp} {x dx C : Addr} (R : Rel K mg G F m h H) (hx : H x = none) (hd : H dx = none) (ne : dx ≠ x) (hC : mg (Str.ofString c) = some (.ref C)) :
    WLe F m F (m ++ [x]) ∧ Rel K mg G F (m ++ [x]) (h ++ [.ins c [] []]) (upd (upd H dx (.own x)) x (.ins C dx [])) ∧ Rp K mg F (m ++ [x]) (.ref x) (.ref h.length) := by
  have R1 := R.skip (o := .own x) hd
  obtain ⟨le, R2⟩ := R1.newR (a := x) (o := .ins C dx []) (u := .ins c [] []) (by rw [upd_ne (Ne.symm ne)]; exact hx) (by have := Ro.ins (K := K) (mg := mg) (F := F) (m := m) (a := x) (C := C) (dx := dx) (c := c) (ns := []) (vs := []) (ds := []) rfl hC .nil; exact this) (fun q => nomatch q)
  exact ⟨le, R2, .ref (by rw [← R.ln]; simp)⟩
theorem de_mk (F : FnG X.prog X.w X.K X.mg X.base (L2N.CX X.prog X.w) k f fd ps (LSp X.K X.mg n sp)) (M : Mk X.K C f) (hr : RoomG (k + 1) X.A) (hg : Gl X (Str.ofString c)) (hm : X.mg (Str.ofString c) = some (.ref C)) (hb : Binds X.K fd ps []) (tk : L2N.Takes X W)
    (ha : DA X W (e :: es) t) (hn : (e :: es).length + 1 = n := by rfl) (hdb : ((Str.ofString c) == ("__debug__" : Str)) = false := by decide) (he : starEach (e :: es) X.env = (false, eval e X.env) :: starEach es X.env := by rfl) (hpl : (backTo pos (starEach es X.env)).any (·.1) = false := by rfl) :
    DE X W (.Call (.Name (Str.ofString c) p) (e :: es) [] pos) (eMk c sp t) :=
  PE.imp (pe_makeS M F hr hg hm hb (fun σ => L2N.passAt tk σ) ha hdb he hpl) fun σ H Q ⟨G, F, m, sd, h, QD, E, at_, t, hQ⟩ => LA.step at_ t fun F' m' h' H' vs ds hl le a' rp q => by
    intro x dx hx hd ne
    obtain ⟨l, R2, rx⟩ := a'.R.newIns hx hd ne hm
    refine ⟨by rw [List.length_cons, hl]; exact hn, G, F', _, _, _, _, E, R2, .cons rx (Rps.mono l rp), q, ?_, fun cls dx H'' z => a'.E _ _ _ (z.mono l)⟩
    rintro v H'' ⟨F3, m3, h3, d, le3, R3, rv, q3⟩
    split at q3
    · cases rv
      exact ⟨rfl, hQ _ _ ⟨F3, m3, h3, _, le.trans (l.trans le3), R3, rx.mono le3, q3⟩⟩
    · exact q3.elim
theorem de_mkV (F : FnG X.prog X.w X.K X.mg X.base (L2N.CX X.prog X.w) k f fd ps (LSp X.K X.mg n sp)) (M : Mk X.K C f) (hr : RoomG (k + 1) X.A) (hg : Gl X (Str.ofString c)) (hm : X.mg (Str.ofString c) = some (.ref C)) (hb : Binds X.K fd ps []) (tk : L2N.Takes X W)
    (ha : DA X W (e :: es) t) (hn : (e :: es).length + 1 = n := by rfl) (hdb : ((Str.ofString c) == ("__debug__" : Str)) = false := by decide) (he : starEach (e :: es) X.env = (false, eval e X.env) :: starEach es X.env := by rfl) (hpl : (backTo pos (starEach es X.env)).any (·.1) = false := by rfl) :
    DE X W (.Call (.Name (Str.ofString c) p) (e :: es) [] pos) (eMkV c sp t) :=
  PE.imp (pe_makeS M F hr hg hm hb (fun σ => L2N.passAt tk σ) ha hdb he hpl) fun σ H Q ⟨G, F, m, sd, h, QD, E, at_, t, hQ⟩ => LA.step at_ t fun F' m' h' H' vs ds hl le a' rp q => by
    intro x dx hx hd ne
    obtain ⟨l, R2, rx⟩ := a'.R.newIns hx hd ne hm
    have ln' := a'.R.ln
    have mt : ∀ {F3 : Hp} {m3 : List Addr}, WLe F' (m' ++ [x]) F3 m3 → WLe F' m' F3 (m3.take h'.length) := fun {F3 m3} le3 => WLe.shrink ln' (l.trans le3)
    refine ⟨by rw [List.length_cons, hl]; exact hn, G, F', _, _, _, _, popE h'.length E, R2, .cons rx (Rps.mono l rp), q, ?_, fun cls dx H'' z => a'.E _ _ _ ((z.mono l).pop ln')⟩
    rintro v H'' ⟨F3, m3, h3, d, le3, R3, rv, q3⟩
    split at q3
    · cases rv
      refine ⟨rfl, ?_⟩
      split at q3
      · rename_i c' ns xs hh
        obtain ⟨q1, q2, q3⟩ := q3
        obtain ⟨a, F4, e1, le4, R4, C', dx', vs', el, f1, hC, rps⟩ := R3.freezeI hh
        have ea : a = x := by
          have z : m3[h'.length]? = some x := le3.get (by rw [← ln']; simp)
          rw [z] at e1; cases e1; rfl
        subst ea
        have tk0 : (h3.set h'.length O.dead).take h'.length = h3.take h'.length := by rw [List.take_set_of_le (Nat.le_refl _)]
        have R5 := R4.shrink h'.length (by rw [tk0]; exact q2)
        rw [tk0] at R5
        have le5 : WLe F' m' F4 (m3.take h'.length) := ⟨(l.trans le3).f.trans le4.f, (mt le3).m⟩
        exact hQ _ _ ⟨F4, _, _, _, le.trans le5, R5, .obj el f1 hC (Rps.shrink _ rps q1), q3⟩
      · exact q3.elim
    · exact q3.elim
end
end DL
end

section
set_option maxRecDepth 100000
set_option maxHeartbeats 4000000
namespace L2
open PySem PySem.Spec PyProof.Rows
theorem passLN {X : Cx} : Passes (L2N.CX X.prog X.w) X (fun _ _ _ => False) := fun _ _ _ _ _ _ _ h => by
  obtain ⟨_, _, _, _, _, _, _, _, _, _, _, _, z⟩ := h
  exact z.elim
section
variable {P : Program} {w : World} {K : PySem.W.Frag} {mg : Str → Option Value} {base : Heap}
theorem Fun.okXN {x qual : Str} {st : Stmt} {f : Addr} {fd : FuncData} {N ps : List Str} {k : Nat} {sp : Sp} (F : Fun K x qual st f fd) (S : FnScope N ps (defScope st)) (len : ∀ vs H Q E, sp vs H Q E → vs.length = ps.length)
    (hbody : ∀ (cdv : Value) (A : Around) (outer : List Env) (s : Shared) (H : Hp) (vs : List V) (Q : VK) (E : XK), Room k (A.deeper (envOfC qual (defScope st) s.heap.objs.size f cdv)) → sp vs H Q E →
      ∃ t, PSs (cxOf (L2N.CX P w) P w K mg base N qual (defScope st) f cdv A outer s H E) (defBody st) t ∧ t { nx := fun _ H' => Q .non H', rt := Q } (start N vs) H) : FnOk P w K mg base (L2N.CX P w) (k + 1) f fd ps sp := by
  obtain ⟨_, _, _, _, _, _, cdv, _, _, rfl, lk, hcd⟩ := F.ex
  exact fn_of lk hcd S len fun A outer s H vs Q E hr hsp => hbody cdv A outer s H vs Q E hr hsp
end
/-- C(e, ..), C an own exception class with __init__: its context is None -/
theorem pmk_oexN {X : Cx} {CX : CXT} {x : Str} {e : Expr} {es : List Expr} {ta : TA} {p pos : Pos} {C fI : Addr} {k : Nat} {fd : FuncData} {ps : List Str} {sp : Sp} (T : OexC X.K C) (iC : PySem.W.findIn X.K (.ref C) "__init__" = some (some (.ref fI))) (tI : PySem.W.typeIn X.K (.ref fI) = some (.type "function"))
    (F1 : FnOk X.prog X.w X.K X.mg X.base CX k fI fd ps sp) (hr : Room (k + 1) X.A) (hb : Binds X.K fd ps []) (hx : Passes CX X (fun _ _ _ => False)) (hg : Gl X x) (hm : X.mg x = some (.ref C)) (ha : PA X (e :: es) ta)
    (hdb : (x == ("__debug__" : Str)) = false := by decide) (he : starEach (e :: es) X.env = (false, eval e X.env) :: starEach es X.env := by rfl) (hpl : (backTo pos (starEach es X.env)).any (·.1) = false := by rfl) :
    L2N.PMk X (.Call (.Name x p) (e :: es) [] pos) (tMkO C sp [] ta) := by
  intro pins s σ H Q I h
  obtain ⟨nm, q, N, bs, bm, sn, sub, ab, col, dd, k0, k1, k2, k3, k5, hC, hbm⟩ := T.cls
  refine wpAny_Call_Name_kw (ld_glob I hg hm ?_ hdb)
  refine PySem.W.callWith_K (h₀ := X.base) I.ok.mod.kin T.kC (thn (ha.run pos pins s σ H _ I h) fun us s1 ⟨vs, H1, I1, r1, hz, q1⟩ => ⟨I1.kIn, ?_⟩) he hpl
  show wpAny _ _ (call (.ref C) us) _ _ _
  obtain ⟨hp, g, dr, tk, os⟩ := s1
  have up : hp.objs.size ≤ hp.objs.size + 1 := Nat.le_succ _
  have free : H1 (hp.objs.size + 1) = none := I1.hok.fresh up
  have hq := q1 _ free
  rw [List.append_nil] at hq
  have keep : ∀ b o, hp.get? b = some o → ((hp.push (PySem.W.kdv_tup us)).push (PySem.HandSPX.excO C hp.objs.size)).get? b = some o := fun b o e => Heap.get?_push_of_some _ (Heap.get?_push_of_some _ e)
  have there : ((hp.push (PySem.W.kdv_tup us)).push (PySem.HandSPX.excO C hp.objs.size)).get? (hp.objs.size + 1) = some (PySem.HandSPX.excO C hp.objs.size) := by heap_get
  have I2 := I1.laid (t' := tk) (o := exo (hp.objs.size + 1) C none) keep up (exo_ok there)
  have args : Vals (V.ref (hp.objs.size + 1) :: vs) (Value.ref (hp.objs.size + 1) :: us) := .cons rfl r1
  have ln : (Value.ref (hp.objs.size + 1) :: us ++ []).length = ps.length := by
    have e := args.length
    rw [F1.len _ _ _ _ hq] at e
    rw [List.append_nil]
    exact e.symm
  have bnd := hb _ (Value.ref (hp.objs.size + 1) :: us) I2.kIn ln
  rw [List.append_nil] at bnd
  have small : us.length ≤ sizeLine := by
    rw [← Paired.length r1, sizeLine_eq]
    omega
  refine wpAny_call (PySem.HandSPX.call_own F.excBase_ValueError (fun Y => PySem.HandSPX.refsVE_contains Y bm hbm) (I1.kIn _ _ hC) (PySem.W.looks_findIn I1.kIn iC) (fun self => PySem.W.bind_fn I1.kIn self tI) small
    (codeAny_mono (F1.run _ X.stack _ _ ⟨Value.ref (hp.objs.size + 1) :: us, []⟩ (Value.ref (hp.objs.size + 1) :: us) _ _ (fun _ _ _ => False) (hr.make C us []) (I2.env0.make C us []) bnd args hq) fun r s' hr' => ?_))
  cases r with
  | error er => exact hx pins σ _ _ er s' I2 hr'
  | ok fl =>
    cases fl with
    | ret u =>
      obtain ⟨v, H2, os2, bare2, un2, hok2, rv, ev, d, fs, ea, ed, hd1, q2⟩ := hr'
      subst ev
      obtain ⟨h2, g2, d2, t2, os'⟩ := s'
      obtain ⟨t0, G, J, kG, ge, hoe, na⟩ := mk_end0 (d2 := d2) (t2 := t2) I1 up keep un2 hok2 os2 bare2 ea ed hd1
      exact ⟨rv, hp.objs.size + 1, _, _, ⟨G, g2, d2, t2, os'⟩, _, .ref C, some d, rfl, J, kG, ge, hoe, ⟨rfl, rfl, fun vs hv => by cases hv; rfl⟩, rfl, rfl, na, rfl, bare2, raises_own T.exC T.tyC, q2⟩
    | next => exact False.elim hr'
    | brk => exact False.elim hr'
    | cont => exact False.elim hr'
/-- X(), X an own exception class without own __init__ -/
theorem pmk_own0 {X : Cx} {C : Addr} {bmB : List Value} {B newId initId : String} {x : Str} {p pos : Pos} (F : ExcBaseFacts B newId initId bmB) (q : PySem.W.excIn X.K C bmB newId = true) (gC : X.mg x = some (.ref C))
    (kC : PySem.W.keepIn X.K (.ref C) = true) (r : Raises X (.ref C)) (hg : Gl X x) (hdb : (x == ("__debug__" : Str)) = false := by decide) :
    L2N.PMk X (.Call (.Name x p) [] [] pos) (fun σ H Q => Q (.ref C) none H) := by
  intro pins s σ H Q I h
  refine wpAny_Call_Name_kw (ld_glob I hg gC ?_ hdb)
  refine PySem.W.callWith_K0 I.kIn kC ?_
  obtain ⟨bm, N, nm, qn, bs, hdct, sn, sub, ab, col, dd, k0, k1, k2, k3, k5, mN, hC, hN, hni, T⟩ := exc_obj I.kIn q
  refine wpAny_call_exc_subT F T hC hN hni (fun h' e hm => ?_) (by show 0 ≤ sizeLine; exact Nat.zero_le _)
  exact L2N.mk_of I hm r h (I.hok.gone hm.new)
/-- isinstance(e, c), e the exception that the suite holds, with or without a dict -/
def rIsX (K : PySem.W.Frag) (cls : Value) (d : Option Addr) (a : Addr) : List V → Hp → VK → Prop := fun xs H Q => ∃ (c : V) (cv : Value) (b : Bool) (D : Addr), xs = [.ref a, c] ∧ cls = .ref D ∧ (∀ dd, d = some dd → ∃ fs, H dd = some (.xd fs)) ∧ ClsV c cv ∧ PySem.W.kitOne K (.ref D) cv = some b ∧ ExcC K D ∧ Q (.bl b) H
/-! ### an own exception class whose __init__ stores one or two fields -/
def spX1 (K : PySem.W.Frag) (f1 : Str) : Sp := fun vs H Q _ => ∃ (a C : Addr) (v1 : V), vs = [.ref a, v1] ∧ OexC K C ∧ PySem.W.findIn K (.ref C) f1 = some none ∧ H a = some (exo a C none) ∧
  ∀ dx, H dx = none → dx ≠ a → Q .non (upd (upd H dx (exd dx [(f1, v1)])) a (exo a C (some dx)))
def spX2 (K : PySem.W.Frag) (f1 f2 : Str) : Sp := fun vs H Q _ => ∃ (a C : Addr) (v1 v2 : V), vs = [.ref a, v1, v2] ∧ OexC K C ∧ PySem.W.findIn K (.ref C) f1 = some none ∧ PySem.W.findIn K (.ref C) f2 = some none ∧ H a = some (exo a C none) ∧
  ∀ dx, H dx = none → dx ≠ a → Q .non (upd (upd (upd H dx (exd dx [(f1, v1)])) a (exo a C (some dx))) dx (exd dx [(f2, v2), (f1, v1)]))
section
variable {P : Program} {w : World} {K : PySem.W.Frag} {mg : Str → Option Value} {base : Heap}
theorem ok_x1 {x qual : Str} {st : Stmt} {f : Addr} {fd : FuncData} {N : List Str} {f1 : Str} (F : Fun K x qual st f fd) (S : FnScope N N (defScope st)) (hN : N.length = 2)
    (hb : ∀ (cdv : Value) (A : Around) (outer : List Env) (s : Shared) (H : Hp) (E : XK), PSs (cxOf (L2N.CX P w) P w K mg base N qual (defScope st) f cdv A outer s H E) (defBody st) (tOst K f1 (tVar 0) (tVar 1))) : FnOk P w K mg base (L2N.CX P w) 1 f fd N (spX1 K f1) := by
  refine F.okXN S (fun vs H Q E h => ?_) (fun cdv A outer s H vs Q E hr h => ⟨_, hb cdv A outer s H E, ?_⟩)
  · obtain ⟨a, C, v1, rfl, _⟩ := h; rw [hN]; rfl
  · obtain ⟨a, C, v1, rfl, T, n1, ha, k⟩ := h
    have e : L2.start N [V.ref a, v1] = [some (.ref a), some v1] := by unfold L2.start; rw [hN]; rfl
    rw [e]
    exact ⟨v1, rfl, _, rfl, a, C, rfl, T, n1, .inl ⟨ha, k⟩⟩
theorem ok_x2 {x qual : Str} {st : Stmt} {f : Addr} {fd : FuncData} {N : List Str} {f1 f2 : Str} (F : Fun K x qual st f fd) (S : FnScope N N (defScope st)) (hN : N.length = 3)
    (hb : ∀ (cdv : Value) (A : Around) (outer : List Env) (s : Shared) (H : Hp) (E : XK), PSs (cxOf (L2N.CX P w) P w K mg base N qual (defScope st) f cdv A outer s H E) (defBody st) (tSeq (tOst K f1 (tVar 0) (tVar 1)) (tOst K f2 (tVar 0) (tVar 2)))) : FnOk P w K mg base (L2N.CX P w) 1 f fd N (spX2 K f1 f2) := by
  refine F.okXN S (fun vs H Q E h => ?_) (fun cdv A outer s H vs Q E hr h => ⟨_, hb cdv A outer s H E, ?_⟩)
  · obtain ⟨a, C, v1, v2, rfl, _⟩ := h; rw [hN]; rfl
  · obtain ⟨a, C, v1, v2, rfl, T, n1, n2, ha, k⟩ := h
    have e : L2.start N [V.ref a, v1, v2] = [some (.ref a), some v1, some v2] := by unfold L2.start; rw [hN]; rfl
    rw [e]
    refine ⟨v1, rfl, _, rfl, a, C, rfl, T, n1, .inl ⟨ha, fun dx hd ne => ?_⟩⟩
    refine ⟨v2, rfl, _, rfl, a, C, rfl, T, n2, .inr ⟨dx, [(f1, v1)], upd_same, by rw [upd_ne ne, upd_same], by show 1 ≤ 900; decide, ?_⟩⟩
    exact k dx hd ne
end
end L2
namespace DL
open PySem PySem.Spec L2
variable [TB]
/-! ## raise -/
def sRaise (nm : String) : TSD := fun k sd h => k.er nm [] [] sd h
/-- what the text says of an exception class without fields -/
structure ExT0 (K : PySem.W.Frag) (mg : Str → Option Value) (nm : String) (C : Addr) : Prop where
  gC : mg (Str.ofString nm) = some (.ref C)
  xC : PySem.W.excIn K C [.type "ValueError", .type "Exception", .type "BaseException", .type "object"] "ValueError.__new__" = true
  kC : PySem.W.keepIn K (.ref C) = true
  bC : PySem.W.subIn K (.ref C) (.type "BaseException") = some true
  tC : PySem.W.typeIn K (.ref C) = some (.type "type")
theorem ds_raise0 {X : Cx} {W : WX} {nm : String} {C : Addr} {p pos pos2 : Pos} (T : ExT0 X.K X.mg nm C) (tk : L2N.Takes X W) (hg : Gl X (Str.ofString nm) := by rfl) (hdb : ((Str.ofString nm) == ("__debug__" : Str)) = false := by decide) (hc : X.calm = true := by rfl) :
    DS X W (.Raise (some (.Call (.Name (Str.ofString nm) p) [] [] pos)) none pos2) (sRaise nm) :=
  PS.imp (L2N.ps_raise hc tk (pmk_own0 PySem.F.excBase_ValueError T.xC T.gC T.kC (raises_own T.bC T.tC) hg hdb)) fun D σ H ⟨G, F, m, sd, h, k, R, S, t, a⟩ =>
    a.er _ _ _ _ ⟨F, m, sd, h, nm, [], [], WLe.refl, R, S, ⟨C, T.gC, rfl, .inl ⟨rfl, rfl, rfl⟩⟩, t⟩
/-- raise X(e, ..): the fields' names, the last first -/
def sRaiseF (nm : String) (ns : List String) (t : TAD) : TSD := fun k sd h => t sd h (fun ds h' => k.er nm ns ds.reverse sd h') (k.E sd)
structure ExT (K : PySem.W.Frag) (mg : Str → Option Value) (nm : String) (fs : List String) (C fI : Addr) : Prop where
  gC : mg (Str.ofString nm) = some (.ref C)
  oe : OexC K C
  iC : PySem.W.findIn K (.ref C) "__init__" = some (some (.ref fI))
  tI : PySem.W.typeIn K (.ref fI) = some (.type "function")
  no : ∀ f ∈ fs, PySem.W.findIn K (.ref C) (Str.ofString f) = some none
theorem Rel.agree {K mg} {G F : Hp} {m : List Addr} {h : DH} {H H' : Hp} (R : Rel K mg G F m h H) (e : ∀ a o, H a = some o → H' a = some o) : Rel K mg G F m h H' := by
  refine ⟨fun b u x => e _ _ (R.sg _ _ x), R.gk, R.gf, R.gl, fun b u x => e _ _ (R.sf _ _ x), R.ln, fun n o x ne => ?_, R.ij, R.tb.ext e⟩
  obtain ⟨a, f1, f2, r⟩ := R.lv n o x ne
  refine ⟨a, f1, f2, ?_⟩
  cases z : H a with
  | none => rw [z] at r; cases r; exact absurd rfl ne
  | some u => rw [e _ _ z, ← z]; exact r
theorem ds_raise1 {X : Cx} {W : WX} {nm f1 : String} {C fI : Addr} {fd : FuncData} {ps : List Str} {e : Expr} {te : TAD} {p pos pos2 : Pos} (T : ExT X.K X.mg nm [f1] C fI) (F1 : FnOk X.prog X.w X.K X.mg X.base (L2N.CX X.prog X.w) 1 fI fd ps (spX1 X.K (Str.ofString f1))) (hb : Binds X.K fd ps []) (hr : Room 2 X.A) (tk : L2N.Takes X W) (ha : DA X W [e] te) (hg : Gl X (Str.ofString nm) := by rfl) (hc : X.calm = true := by rfl) (hdb : ((Str.ofString nm) == ("__debug__" : Str)) = false := by decide)
    (he : starEach [e] X.env = (false, eval e X.env) :: starEach [] X.env := by rfl) (hpl : (backTo pos (starEach [] X.env)).any (·.1) = false := by rfl)
    (hx : Passes (L2N.CX X.prog X.w) X (fun _ _ _ => False) := by exact passLN) : DS X W (.Raise (some (.Call (.Name (Str.ofString nm) p) [e] [] pos)) none pos2) (sRaiseF nm [f1] te) :=
  PS.imp (L2N.ps_raise hc tk (pmk_oexN T.oe T.iC T.tI F1 hr hb hx hg T.gC ha hdb he hpl)) fun D σ H ⟨G, F, m, sd, h, k, R, S, t, a⟩ => LA.step (a.at R S) t fun F' m' h' H' vs ds hl le a' rp q => by
    have hl' : vs.length = 1 := hl
    cases rp with
    | nil => simp at hl'
    | cons rv r =>
    cases r with
    | cons _ _ => simp at hl'
    | nil =>
    rename_i v d
    refine ⟨by show 1 ≤ 1000; decide, fun b hb => ⟨b, C, v, rfl, T.oe, T.no f1 (by simp), upd_same, fun dx hd ne => ⟨rfl, dx, _, upd_same, by rw [upd_ne ne, upd_same], ?_, ?_⟩⟩⟩
    · rw [upd_ne ne] at hd; exact hd
    · rw [upd_ne ne] at hd
      refine a.er _ _ _ _ ⟨F', m', sd, h', nm, [f1], [d], le, a'.R.agree fun c o z => ?_, a'.S, ⟨C, T.gC, rfl, .inr ⟨dx, [v], rfl, rfl, upd_same, .cons rv .nil⟩⟩, q⟩
      have c1 : c ≠ dx := ne_of_none z hd
      have c2 : c ≠ b := ne_of_none z hb
      rw [upd_ne c1, del_ne c2, upd_ne c2, upd_ne c1, upd_ne c2]; exact z
theorem ds_raise2 {X : Cx} {W : WX} {nm f1 f2 : String} {C fI : Addr} {fd : FuncData} {ps : List Str} {e e2 : Expr} {te : TAD} {p pos pos2 : Pos} (T : ExT X.K X.mg nm [f1, f2] C fI) (F1 : FnOk X.prog X.w X.K X.mg X.base (L2N.CX X.prog X.w) 1 fI fd ps (spX2 X.K (Str.ofString f1) (Str.ofString f2))) (hb : Binds X.K fd ps []) (hr : Room 2 X.A) (tk : L2N.Takes X W) (ha : DA X W [e, e2] te) (hg : Gl X (Str.ofString nm) := by rfl) (hc : X.calm = true := by rfl) (hdb : ((Str.ofString nm) == ("__debug__" : Str)) = false := by decide)
    (he : starEach [e, e2] X.env = (false, eval e X.env) :: starEach [e2] X.env := by rfl) (hpl : (backTo pos (starEach [e2] X.env)).any (·.1) = false := by rfl)
    (hx : Passes (L2N.CX X.prog X.w) X (fun _ _ _ => False) := by exact passLN) : DS X W (.Raise (some (.Call (.Name (Str.ofString nm) p) [e, e2] [] pos)) none pos2) (sRaiseF nm [f2, f1] te) :=
  PS.imp (L2N.ps_raise hc tk (pmk_oexN T.oe T.iC T.tI F1 hr hb hx hg T.gC ha hdb he hpl)) fun D σ H ⟨G, F, m, sd, h, k, R, S, t, a⟩ => LA.step (a.at R S) t fun F' m' h' H' vs ds hl le a' rp q => by
    have hl' : vs.length = 2 := hl
    cases rp with
    | nil => simp at hl'
    | cons rv r =>
    cases r with
    | nil => simp at hl'
    | cons rw_ r =>
    cases r with
    | cons _ _ => simp at hl'
    | nil =>
    rename_i v d v2 d2
    refine ⟨by show 2 ≤ 1000; decide, fun b hb => ⟨b, C, v, v2, rfl, T.oe, T.no f1 (by simp), T.no f2 (by simp), upd_same, fun dx hd ne => ⟨rfl, dx, _, by rw [upd_ne (Ne.symm ne), upd_same], upd_same, ?_, ?_⟩⟩⟩
    · rw [upd_ne ne] at hd; exact hd
    · rw [upd_ne ne] at hd
      refine a.er _ _ _ _ ⟨F', m', sd, h', nm, [f2, f1], [d2, d], le, a'.R.agree fun c o z => ?_, a'.S, ⟨C, T.gC, rfl, .inr ⟨dx, [v2, v], rfl, rfl, upd_same, .cons rw_ (.cons rv .nil)⟩⟩, q⟩
      have c1 : c ≠ dx := ne_of_none z hd
      have c2 : c ≠ b := ne_of_none z hb
      rw [upd_ne c1, del_ne c2, upd_ne c1, upd_ne c2, upd_ne c1, upd_ne c2]; exact z
end DL
end

section
set_option maxRecDepth 100000
set_option maxHeartbeats 4000000
namespace DL
open PySem PySem.Spec L2
variable [TB]
/-! ## try -/
def isErr (nm c : String) : Bool := nm == c || c == "PostFault"
/-- which of the errors nms a clause of the class c takes -/
structure ErrT (K : PySem.W.Frag) (mg : Str → Option Value) (nms : List String) (c : String) : Prop where
  gc : ∃ C, mg (Str.ofString c) = some (.ref C)
  ex : ∀ nm ∈ nms, ∀ D C, mg (Str.ofString nm) = some (.ref D) → mg (Str.ofString c) = some (.ref C) → PySem.W.exmOne K (.ref D) (.ref C) = some (isErr nm c)
abbrev TXD := Addr → Value → Option Addr → String → List String → List D → TSD
/-- try: body except c: suite -/
def sTry (nms : List String) (c : String) (tb : TSD) (ts : TSD) : TSD := fun k sd h => tb { k with er := fun nm ns fs sd' h' => nm ∈ nms ∧ (if isErr nm c = true then ts { k with er := fun _ _ _ _ _ => False } sd' h' else k.er nm ns fs sd' h') } sd h
/-- try: body except c as n: suite, n in slot i -/
def sTryAs (nms : List String) (c : String) (i : Nat) (tb : TSD) (ts : TXD) : TSD := fun k sd h => tb { k with er := fun nm ns fs sd' h' => nm ∈ nms ∧ (if isErr nm c = true then ∀ a cls d, ts a cls d nm ns fs { nx := fun s h => k.nx (s.set i none) h, rt := k.rt, bk := fun s h => k.bk (s.set i none) h, ct := fun s h => k.ct (s.set i none) h, er := fun _ _ _ _ _ => False } (sd'.set i (some (.exc a cls d nm ns fs))) h' else k.er nm ns fs sd' h') } sd h
section
variable {X : Cx} {W : WX} {c : String} {body suite : List Stmt} {b₀ : Stmt} {np pos pos' : Pos} {tb : TSD} {nms : List String}
end
/-! ## within a suite: e.f, isinstance(e, C) -/
/-- what the text says of the classes nms, whose instances are asked -/
structure ExcT (K : PySem.W.Frag) (mg : Str → Option Value) (nms : List String) (cls : List String) : Prop where
  ec : ∀ nm ∈ nms, ∀ D, mg (Str.ofString nm) = some (.ref D) → ExcC K D
  ko : ∀ nm ∈ nms, ∀ D, mg (Str.ofString nm) = some (.ref D) → ∀ c ∈ cls, ∀ C, mg (Str.ofString c) = some (.ref C) → PySem.W.kitOne K (.ref D) (.ref C) = some (isErr nm c)
  kv : ∀ nm ∈ nms, ∀ D, mg (Str.ofString nm) = some (.ref D) → PySem.W.kitOne K (.ref D) (.type "ValueError") = some true
def fIsX (nms cs : List String) (a : Addr) (cls : Value) (d : Option Addr) : FC := fun ds h Q => match ds with
  | [.exc a' cls' d' nm _ _, .glb c] => (a' = a ∧ cls' = cls ∧ d' = d) ∧ nm ∈ nms ∧ c ∈ cs ∧ Q (.bl (isErr nm c)) h
  | [.exc a' cls' d' nm _ _, .ty n] => (a' = a ∧ cls' = cls ∧ d' = d) ∧ nm ∈ nms ∧ n = "ValueError" ∧ Q (.bl true) h
  | _ => False
/-- e.f, the class of e among nms -/
def eXf (nms : List String) (a : Addr) (cls : Value) (d : Option Addr) (f : String) (t : TED) : TED := fun sd h Q E => t sd h (fun x h1 => match x with
  | .exc a' cls' d' nm ns fs => (a' = a ∧ cls' = cls ∧ d' = d) ∧ nm ∈ nms ∧ (match fget ns fs f with
    | some y => Q y h1
    | none => False)
  | _ => False) E
structure XfT (K : PySem.W.Frag) (mg : Str → Option Value) (nms : List String) (f : String) : Prop where
  xf : ∀ nm ∈ nms, ∀ D, mg (Str.ofString nm) = some (.ref D) → XfC K D
  no : ∀ nm ∈ nms, ∀ D, mg (Str.ofString nm) = some (.ref D) → PySem.W.findIn K (.ref D) (Str.ofString f) = some none
end DL
end

section
set_option maxRecDepth 100000
set_option maxHeartbeats 4000000
namespace DL
open PySem PySem.Spec L2
variable [TB]
/-! ## o.m(..) of built-in types -/
abbrev FM := D → List D → DH → VD → Prop
def isList (d : D) (h : DH) : Bool := match d with
  | .lst _ => true
  | .scr _ => true
  | .ref n => match h[n]? with
    | some (.lst _) => true
    | _ => false
  | _ => false
def isStr (d : D) : Bool := match d with
  | .str _ => true
  | _ => false
def eM (ty : D → DH → Bool) (f : FM) (to : TED) (t : TAD) : TED := fun sd h Q E => to sd h (fun o h1 => ty o h1 = true ∧ t sd h1 (fun ds h2 => f o ds h2 Q) E) E
section
variable (X : Cx)
def MtDD (T : String) (ty : D → DH → Bool) (id : String) (f : FM) : Prop := (∀ (G F : Hp) (m : List Addr) (h : DH) (H : Hp) (v : V) (d : D), Rel X.K X.mg G F m h H → Rp X.K X.mg F m v d → ty d h = true → tyV X.K T v H) ∧
  ∃ r, MtR X id r ∧ ∀ (G F : Hp) (m : List Addr) (h : DH) (H : Hp) (v : V) (d : D) (vs : List V) (ds : List D) (QD : VD) (Q : VK), Rel X.K X.mg G F m h H → Rp X.K X.mg F m v d → Rps X.K X.mg F m vs ds → f d ds h QD → (∀ v H', QV X.K X.mg G F m QD v H' → Q v H') → r v vs H Q
end
section
variable {X : Cx} {W : WX} {o e : Expr} {es : List Expr} {to : TED} {t : TAD} {name : Str} {apos cpos : Pos} {T id : String} {ty : D → DH → Bool} {f : FM}
theorem de_m (pa : PlainAttrs T) (slot : Slot T name id) (hty : typeOf (.builtin id) = pure (.type "method_descriptor")) (hm : MtDD X T ty id f) (ho : DE X W o to) (ha : DA X W (e :: es) t)
    (hbase : attributeBase o name X.env (eval o X.env) = eval o X.env := by rfl)
    (hfew : ((backTo cpos (starEach (e :: es) X.env)).all (fun x => !x.1) && (backToKw cpos (keywordEach [] X.env)).all (fun x => x.1.isSome)
      && decide ((e :: es).length + ([] : List Keyword).length + (if ([] : List Keyword).isEmpty then 0 else 1) < 30)) = true := by rfl)
    (hline : (apos.endLine == cpos.line) = true := by rfl) (hs : starEach (e :: es) X.env = (false, eval e X.env) :: starEach es X.env := by rfl) (hplain : (backTo cpos (starEach es X.env)).any (·.1) = false := by rfl) :
    DE X W (.Call (.Attribute o name apos) (e :: es) [] cpos) (eM ty f to t) := by
  obtain ⟨h1, r, hr, hf⟩ := hm
  exact PE.imp (pe_bm pa slot hty hr ho ha hbase hfew hline hs hplain) fun σ H Q ⟨G, F, m, sd, h, QD, E, at_, t, hQ⟩ => LE.step at_ t fun F1 m1 h1' H1 v d le1 a1 rp q => ⟨h1 _ _ _ _ _ _ _ a1.R rp q.1, LA.step a1 q.2 fun F2 m2 h2 H2 vs ds hl le2 a2 rps q2 =>
    hf _ _ _ _ _ _ _ _ _ _ _ a2.R (rp.mono le2) rps q2 fun v H' z => hQ _ _ (z.mono (le1.trans le2))⟩
theorem de_m0 (pa : PlainAttrs T) (slot : Slot T name id) (hty : typeOf (.builtin id) = pure (.type "method_descriptor")) (hm : MtDD X T ty id f) (ho : DE X W o to)
    (hbase : attributeBase o name X.env (eval o X.env) = eval o X.env := by rfl) (hline : (apos.endLine == cpos.line) = true := by rfl) : DE X W (.Call (.Attribute o name apos) [] [] cpos) (eM ty f to eNil) := by
  obtain ⟨h1, r, hr, hf⟩ := hm
  exact PE.imp (pe_bm0 pa slot hty hr ho hbase hline) fun σ H Q ⟨G, F, m, sd, h, QD, E, at_, t, hQ⟩ => LE.step at_ t fun F1 m1 h1' H1 v d le1 a1 rp q => ⟨h1 _ _ _ _ _ _ _ a1.R rp q.1, hf _ _ _ _ _ _ _ _ _ _ _ a1.R rp .nil q.2 fun v H' z => hQ _ _ (z.mono le1)⟩
theorem ty_list (G F : Hp) (m : List Addr) (h : DH) (H : Hp) (v : V) (d : D) (R : Rel X.K X.mg G F m h H) (r : Rp X.K X.mg F m v d) (e : isList d h = true) : tyV X.K "list" v H := by
  cases r with
  | lst s p => exact .inl ⟨rfl, _, .inl (.inl (R.sf _ _ s))⟩
  | scr s p => exact .inl ⟨rfl, _, sqL_mono R.sf s⟩
  | ref hn =>
    simp only [isList] at e
    split at e
    · rename_i n xs q
      obtain ⟨a', vs, e1, _, e3, p⟩ := R.lst q
      rw [hn] at e1; cases e1
      exact .inl ⟨rfl, _, .inl (.inl e3)⟩
    · cases e
  | _ => cases e
end
def mAppend : FM := fun o ds h Q => match o, ds with
  | .ref n, [d] => match h[n]? with
    | some (.lst xs) => xs.length < sizeLine ∧ Q .non (h.set n (.lst (xs ++ [d])))
    | _ => False
  | _, _ => False
/-- ys: a list that is never changed, or another one of the small heap -/
def mExtend : FM := fun o ds h Q => match o, ds with
  | .ref n, [d] => match h[n]?, lstOf d h with
    | some (.lst xs), some ys => xs.length + ys.length ≤ sizeLine ∧ Q .non (h.set n (.lst (xs ++ ys)))
    | _, _ => False
  | _, _ => False
def mPop : FM := fun o ds h Q => match o, ds with
  | .ref n, [] => match h[n]? with
    | some (.lst xs) => match xs[xs.length - 1]? with
      | some y => Q y (h.set n (.lst xs.dropLast))
      | none => False
    | _ => False
  | _, _ => False
def mPopAt : FM := fun o ds h Q => match o, ds with
  | .ref n, [.int i] => match h[n]? with
    | some (.lst xs) => xs.length ≤ sizeLine ∧ match ixN xs.length i with
      | some k => match xs[k]? with
        | some y => Q y (h.set n (.lst (xs.eraseIdx k)))
        | none => False
      | none => False
    | _ => False
  | _, _ => False
def mReverse : FM := fun o ds h Q => match o, ds with
  | .ref n, [] => match h[n]? with
    | some (.lst xs) => Q .non (h.set n (.lst xs.reverse))
    | _ => False
  | _, _ => False
/-- the first place of x -/
def idxD (x : D) : List D → Option Nat
  | [] => none
  | y :: r => if eqF y x = true then some 0 else (idxD x r).map (· + 1)
def mIndex : FM := fun o ds h Q => match ds with
  | [d] => match listOf o h with
    | some xs => flatD d = true ∧ xs.all flatD = true ∧ (match idxD d xs with
      | some j => Q (.int (j : Nat)) h
      | none => False)
    | none => False
  | _ => False
theorem idxD_spec {x : D} : ∀ {xs : List D} {j : Nat}, idxD x xs = some j → ∃ y, xs[j]? = some y ∧ eqF y x = true ∧ ∀ m z, m < j → xs[m]? = some z → eqF z x = false
  | [], _, e => by simp [idxD] at e
  | y :: r, j, e => by
    unfold idxD at e
    by_cases h : eqF y x = true
    · rw [if_pos h] at e; cases e
      exact ⟨y, rfl, h, fun m z hm => absurd hm (Nat.not_lt_zero _)⟩
    · rw [if_neg h, Option.map_eq_some_iff] at e
      obtain ⟨i, e1, rfl⟩ := e
      obtain ⟨z, h1, h2, h3⟩ := idxD_spec e1
      refine ⟨z, by simpa using h1, h2, fun m w hm hw => ?_⟩
      cases m with
      | zero => simp at hw; subst hw; exact Bool.eq_false_iff.mpr h
      | succ m => exact h3 m w (by omega) (by simpa using hw)
section
variable {X : Cx}
theorem dm_append : MtDD X "list" isList "list.append" mAppend := ⟨ty_list, _, mt_append, fun G F m h H v d vs ds QD Q R r rs q hQ => by
  unfold mAppend at q
  split at q
  · rename_i n e
    split at q
    · rename_i xs hn
      cases r with
      | ref hm =>
      obtain ⟨w, rfl, rw_⟩ := Rps.one rs
      obtain ⟨a, ws, e1, _, e3, p⟩ := R.lst hn
      rw [hm] at e1; cases e1
      exact ⟨_, ws, w, rfl, rfl, e3, by rw [Paired.len p]; exact q.1, hQ _ _ ⟨F, m, _, _, WLe.refl, R.put hn (fun q => nomatch q) hm (.lst (Rps.snoc p rw_)), .non, q.2⟩⟩
    · exact q.elim
  · exact q.elim⟩
theorem dm_pop : MtDD X "list" isList "list.pop" mPop := ⟨ty_list, _, mt_pop, fun G F m h H v d vs ds QD Q R r rs q hQ => by
  unfold mPop at q
  split at q
  · rename_i n
    split at q
    · rename_i xs hn
      cases r with
      | ref hm =>
      cases rs
      obtain ⟨a, ws, e1, _, e3, p⟩ := R.lst hn
      rw [hm] at e1; cases e1
      split at q
      · rename_i y ey
        obtain ⟨w, ew, rw_⟩ := Rps.get p ey
        exact ⟨_, ws, w, rfl, rfl, e3, by rw [Paired.len p]; exact ew, hQ _ _ ⟨F, m, _, _, WLe.refl, R.put hn (fun q => nomatch q) hm (.lst (Rps.dropLast p)), rw_, q⟩⟩
      · exact q.elim
    · exact q.elim
  · exact q.elim⟩
theorem dm_popAt : MtDD X "list" isList "list.pop" mPopAt := ⟨ty_list, _, mt_popAt, fun G F m h H v d vs ds QD Q R r rs q hQ => by
  unfold mPopAt at q
  split at q
  · rename_i n i
    split at q
    · rename_i xs hn
      cases r with
      | ref hm =>
      obtain ⟨w, rfl, ri⟩ := Rps.one rs
      cases ri
      obtain ⟨a, ws, e1, _, e3, p⟩ := R.lst hn
      rw [hm] at e1; cases e1
      obtain ⟨hz, q⟩ := q
      split at q
      · rename_i k hk
        split at q
        · rename_i y ey
          obtain ⟨w, ew, rw_⟩ := Rps.get p ey
          obtain ⟨s1, s2, s3, s4⟩ := ixN_seq hk
          have hz2 : (xs.length : Int) ≤ 16777216 := by
            have := hz
            simp only [sizeLine] at this
            omega
          exact ⟨_, ws, i, k, w, rfl, rfl, e3, by omega, by omega, by rw [Paired.len p]; exact s1, ew, hQ _ _ ⟨F, m, _, _, WLe.refl, R.put hn (fun q => nomatch q) hm (.lst (Rps.eraseIdx k p)), rw_, q⟩⟩
        · exact q.elim
      · exact q.elim
    · exact q.elim
  · exact q.elim⟩
theorem dm_index : MtDD X "list" isList "list.index" mIndex := ⟨ty_list, _, mt_index, fun G F m h H v d vs ds QD Q R r rs q hQ => by
  unfold mIndex at q
  split at q
  · split at q
    · rename_i xs hx
      obtain ⟨w, rfl, ri⟩ := Rps.one rs
      obtain ⟨a, ws, rfl, hv, p⟩ := R.listOf r hx
      obtain ⟨q1, q2, q3⟩ := q
      split at q3
      · rename_i j ej
        obtain ⟨y, h1, h2, h3⟩ := idxD_spec ej
        obtain ⟨z, ez, rz⟩ := Rps.get p h1
        exact ⟨a, ws, w, j, z, rfl, rfl, hv, by rw [ri.flat]; exact q1, by rw [Rps.flat p]; exact q2, ez, by rw [rz.eqF ri]; exact h2, fun m z' hm hz => by
          obtain ⟨d', e', r'⟩ := Rps.getV p hz
          rw [r'.eqF ri]; exact h3 m d' hm e', hQ _ _ ⟨F, m, _, _, WLe.refl, R, .int _, q3⟩⟩
      · exact q3.elim
    · exact q.elim
  · exact q.elim⟩
end
end DL
end

section
set_option maxRecDepth 100000
set_option maxHeartbeats 4000000
namespace L2
open PySem PySem.Spec PyProof.Rows
/-! set(xs) of ints, a list or a tuple -/
section
variable {P : Program} {w : World} {A : Around} {E : Value → Shared → Prop} {s : Shared}
theorem call_set_listI {l : Addr} {items : Array Value} (ns : List Int) {Q : Value → Shared → Prop} (hh : A.handled = none) (hl : s.heap.IsList l items) (hit : IntsAre items.toList ns) (hb : ns.length + 1 < scanBound)
    (h : ∀ (h' : Heap) (tk c : Nat), SetR w h' s.heap.objs.size (fun j => decide (j ∈ ns)) c → c ≤ ns.length → (∀ b o, s.heap.get? b = some o → h'.get? b = some o) → Q (.ref s.heap.objs.size) { s with heap := h', toks := tk }) :
    wpAny (model P w) A (call (.type "set") [.ref l]) Q E s := by
  have hisz : items.size = ns.length := by
    have q := IntsAre.length hit
    rw [Array.length_toList] at q
    exact q
  obtain ⟨c, tl, hmro⟩ := F.called_set.mro
  have hmade := F.called_set.made
  have hsub := F.called_set.sub
  refine wpAny_call (codeAny_of_tree ?_)
  show wpAny _ _ (callAny (.type "set") _) _ _ _
  refine wpAny_pure ⟨Code.quiet_builtin _ (by decide +kernel), codeAny_builtin F.entry_type_call ?_⟩
  rw [Around.under_plain (weight_type_call_type "set" [.ref l] []) rfl]
  have h1 := F.called_set.notType
  have h2 := F.called_set.canCreate
  have hct := F.typeCall_set_1 (.ref l)
  repeat (any_goals (first | assumption | wp_step))

  refine codeAny_mono (code_set_led1 (.ref l) (E := E) (Q₁ := fun obj s₁ => obj = .ref s.heap.objs.size ∧ s₁ = { s with heap := s.heap.push { cls := .type "set", dict := none, data := .set #[] 0 (.fresh 0 0 (!w.params.followText "set-order")) } }) ⟨rfl, rfl⟩) fun r s₁ hr => ?_
  cases r with
  | error e => exact hr
  | ok fl =>
    cases fl with
    | ret obj =>
      obtain ⟨rfl, rfl⟩ := hr
      have hS : (s.heap.push { cls := .type "set", dict := none, data := .set #[] 0 (.fresh 0 0 (!w.params.followText "set-order")) }).get? s.heap.objs.size = some { cls := .type "set", dict := none, data := .set #[] 0 (.fresh 0 0 (!w.params.followText "set-order")) } := Heap.get?_push_size _ rfl
      have hT : Shared.TypeIs { s with heap := s.heap.push { cls := .type "set", dict := none, data := .set #[] 0 (.fresh 0 0 (!w.params.followText "set-order")) } } (.ref s.heap.objs.size) "set" := ⟨_, hS, rfl⟩
      have hli := F.called_set.init.lookup
      have hbi := F.called_set.init.bind (.ref s.heap.objs.size)
      repeat (any_goals (first | assumption | wp_step))

      refine codeAny_mono (codeAny_call_builtin (R := wants (fun r s₂ => r = .none ∧ ∃ h' tk c, s₂ = { s with heap := h', toks := tk } ∧ SetR w h' s.heap.objs.size (fun j => decide (j ∈ ns)) c ∧ c ≤ ns.length ∧
          (∀ b o, s.heap.get? b = some o → h'.get? b = some o)) E) F.called_set.init.plain F.entry_set_init (check_set_init_1 hT ?_)) fun r₂ s₂ hr₂ => ?_
      · obtain ⟨ol, hol, hcl, nl, hdl⟩ := hl
        obtain ⟨ocls, odict, odata, oslots⟩ := ol
        simp only at hcl hdl
        subst hcl; subst hdl
        have hol' : (s.heap.push { cls := .type "set", dict := none, data := .set #[] 0 (.fresh 0 0 (!w.params.followText "set-order")) }).get? l = some { cls := .type "list", dict := odict, data := .seq items nl, slots := oslots } := Heap.get?_push_of_some _ hol
        have hsls := F.sub_list_set
        have hslf := F.sub_list_frozenset
        have hne : (Value.type "list" == Value.type "dict") = false := by decide
        have hl1 : (s.heap.push { cls := .type "set", dict := none, data := .set #[] 0 (.fresh 0 0 (!w.params.followText "set-order")) }).IsList l items := ⟨_, hol', rfl, nl, rfl⟩
        unfold Builtin.«set.__init__» noKeywords Builtin.Frozenset.updateFrom
        generalize hPI : pyIter = PI
        wp_walk
        subst hPI

        refine wpAny_pyIter_list hl1 ?_
        refine wpAny_bind (wpAny_runValue ?_)
        have hlS : l < s.heap.objs.size := Heap.lt_size hol
        have hh3 : A.in1.in1.in1.handled = none := by simp [hh]
        have hz1 : (s.heap.push { cls := .type "set", dict := none, data := .set #[] 0 (.fresh 0 0 (!w.params.followText "set-order")) }).objs.size = s.heap.objs.size + 1 := Heap.size_push ..
        have hneI : l ≠ (s.heap.push { cls := .type "set", dict := none, data := .set #[] 0 (.fresh 0 0 (!w.params.followText "set-order")) }).objs.size := by
          rw [Heap.size_push]; exact Nat.ne_of_lt (Nat.lt_succ_of_lt hlS)
        have hSf : s.heap.objs.size ∉ [(s.heap.push { cls := .type "set", dict := none, data := .set #[] 0 (.fresh 0 0 (!w.params.followText "set-order")) }).objs.size, l] := by
          rw [Heap.size_push]; simp only [List.mem_cons, List.mem_singleton, List.not_mem_nil, or_false, not_or]
          exact ⟨Nat.ne_of_lt (Nat.lt_succ_self _), Nat.ne_of_gt hlS⟩
        have hval : ∀ (i : Nat) (v : Value), items[i]? = some v → ∃ k t, ns[i]? = some k ∧ v = .int k t := fun i v hv => by
          have hi : i < ns.length := by rw [← hisz]; exact (Array.getElem?_eq_some_iff.mp hv).1
          obtain ⟨t, e⟩ := PyProof.Rows.IntsAre.int_at hit i v (by rw [Array.getElem?_toList]; exact hv)
          refine ⟨ns[i], t, List.getElem?_eq_getElem hi, ?_⟩
          rw [e, List.getD_eq_getElem?_getD, List.getElem?_eq_getElem hi] <;> rfl
        refine set_update_ints ((Walks.list hh3 _ l hneI items).toS) s.heap.objs.size
          hSf ns hisz hb hval (items.size - 0) 0 _ (by omega) (Nat.zero_le _)
          ⟨⟨_, Heap.get?_push_size _ rfl, rfl, rfl⟩, (hl1.push _)⟩ ?hS0 ?hR
        case hS0 =>
          have hget : ((s.heap.push { cls := .type "set", dict := none, data := .set #[] 0 (.fresh 0 0 (!w.params.followText "set-order")) }).push { cls := .type "list_iterator", data := .fields #[.ref l, .int 0 0] }).get? s.heap.objs.size
              = some { cls := .type "set", dict := none, data := .set #[] 0 (.fresh 0 0 (!w.params.followText "set-order")) } := Heap.get?_push_of_some _ hS
          exact ⟨0, Nat.le_refl 0, setR_new_at hget⟩
        case hR =>
          intro s' c' hm hc' hS'
          obtain ⟨h', g2, d', tk', os'⟩ := s'
          have eg : g2 = s.gens := hm.gens
          have ed : d' = s.drawn := hm.drawn
          have eo : os' = s.os := hm.os
          subst eg; subst ed; subst eo
          show wpAny _ _ _ _ _ _
          refine wpAny_pure ?_
          show wpAny _ _ (ret Value.none) _ _ _
          rw [hisz] at hc'
          refine wpAny_pure ⟨rfl, h', tk', c', rfl, hS', hc', fun b o e => ?_⟩
          have hb0 : b < s.heap.objs.size := Heap.lt_size e
          have hb1 : b ≠ s.heap.objs.size := Nat.ne_of_lt hb0
          have hb2 : b ≠ (s.heap.push { cls := .type "set", dict := none, data := .set #[] 0 (.fresh 0 0 (!w.params.followText "set-order")) }).objs.size := by
            rw [Heap.size_push]; exact Nat.ne_of_lt (Nat.lt_succ_of_lt hb0)
          exact hm.heap b o (by simp only [List.mem_cons, List.mem_singleton, List.not_mem_nil, or_false, not_or]; exact ⟨hb1, hb2⟩) (Heap.get?_push_of_some _ (Heap.get?_push_of_some _ e))

      · cases r₂ with
        | error e => exact hr₂
        | ok fl₂ =>
          cases fl₂ with
          | ret r =>
            obtain ⟨rfl, h', tk, c', rfl, hS', hc', hk'⟩ := hr₂
            repeat (any_goals (first | assumption | wp_step))
            exact h _ _ _ hS' hc' hk'
          | _ => exact hr₂.elim
    | _ => exact hr.elim
end
/-- so many unlike ones -/
def CntOf (ns : List Int) (c : Nat) : Prop := ∃ l : List Int, l.Nodup ∧ (∀ k, k ∈ l ↔ k ∈ ns) ∧ l.length = c
theorem setR_cnt {w : World} {h : Heap} {a : Addr} {ns : List Int} {c : Nat} (R : SetR w h a (fun j => decide (j ∈ ns)) c) : CntOf ns c := by
  obtain ⟨o, es, ep, t, ho, hex, hd, g, nd, hm, hb, hf, hn, hr, hl⟩ := R
  refine ⟨_, nd, fun k => ?_, ?_⟩
  · rw [← hm k, decide_eq_true_eq]
  · rw [List.length_map, Array.length_toList]; exact hn
section
variable {X : Cx}
def rSetI (K : PySem.W.Frag) (w : World) : List V → Hp → VK → Prop := fun xs H Q => ∃ (l : Addr) (ns : List Int), xs = [V.ref l] ∧ (SqL K H l (ns.map V.int) ∨ SqT K H l (ns.map V.int)) ∧ ns.length ≤ 1000 ∧
  ∀ p c, H p = none → CntOf ns c → Q (.ref p) (upd H p (SetO w p (fun j => decide (j ∈ ns)) c))
theorem cr_setI (hc : X.calm = true) : CallR X (.type "set") (rSetI X.K X.w) := by
  intro pins s σ H xs us Q I r h
  obtain ⟨l, ns, rfl, hq, hl, q⟩ := h
  rw [Vals.ref1 r]
  have fin : ∀ (h' : Heap) (tk c : Nat), SetR X.w h' s.heap.objs.size (fun j => decide (j ∈ ns)) c → c ≤ ns.length → (∀ b o, s.heap.get? b = some o → h'.get? b = some o) →
      ∃ v H', Inv X pins σ H' { s with heap := h', toks := tk } ∧ RelV v (.ref s.heap.objs.size) ∧ Q v H' := fun h' tk c R _ k =>
    ⟨.ref _, upd H s.heap.objs.size (SetO X.w s.heap.objs.size (fun j => decide (j ∈ ns)) c), I.laid (t' := tk) k (Nat.le_refl _) (setO_new R), rfl, q _ c (I.hok.fresh (Nat.le_refl _)) (setR_cnt R)⟩
  rcases hq with hq | hq
  · obtain ⟨its, rv, pt, hz⟩ := I.list hq
    exact call_set_listI ns (I.ok.hd hc) pt.isList (ints_of_vals rv) (by unfold scanBound; omega) fin
  · obtain ⟨its, rv, pt, hz⟩ := I.tuple hq
    exact call_set_tupI ns (I.ok.hd hc) (show s.heap.IsTuple l its.toArray from pt) (ints_of_vals rv) (by unfold scanBound; omega) fin
theorem cr_lenSet : CallR X (.builtin "len") (fun xs H Q => ∃ (a : Addr) (S : Int → Bool) (n : Nat), xs = [V.ref a] ∧ H a = some (SetO X.w a S n) ∧ Q (.int n) H) := by
  intro pins s σ H xs us Q I r h
  obtain ⟨a, S, n, rfl, ha, q⟩ := h
  rw [Vals.ref1 r]
  obtain ⟨o, es, ep, t, ho, hex, hd, _, _, _, hb, hf, hn, _, _⟩ := setO_get I ha
  exact call_len_set ho hex hd hf (by unfold scanBound at hb; omega) ⟨.int n, H, I.tok _, ⟨_, by rw [hn]⟩, q⟩
end
end L2
end

section
set_option maxRecDepth 100000
set_option maxHeartbeats 4000000
namespace L2
open PySem PySem.Spec PyProof.Rows
section
variable {prog : Program} {w : World} {A : Around} {E : Value → Shared → Prop} {s : Shared} {l : Addr} {xs : Array (Int × Tok)}
theorem old_keptT {h' : Heap} (hk : ∀ b o, b ∉ [s.heap.objs.size] → (s.heap.push { cls := .type "tuple_iterator", data := .fields #[.ref l, .int 0 0] }).get? b = some o → h'.get? b = some o) :
    ∀ b o, s.heap.get? b = some o → h'.get? b = some o := fun b o e =>
  hk b o (fun hm => absurd (List.mem_singleton.mp hm ▸ Heap.lt_size e) (Nat.lt_irrefl _)) (Heap.get?_push_of_some _ e)
theorem min_intTup {Q : Value → Shared → Prop} (hh : A.handled = none) (hl : s.heap.IsTuple l (intItems xs)) (hne : 0 < xs.size)
    (h : ∀ v h' tk, (intItems xs)[argBest (fun i j => decide (numAt xs i < numAt xs j)) (xs.size - 1)]? = some v → (∀ b o, s.heap.get? b = some o → h'.get? b = some o) → Q v { s with heap := h', toks := tk }) :
    wpAny (model prog w) A (call (.builtin "min") [.ref l]) Q E s := by
  have hlt : l < s.heap.objs.size := by obtain ⟨_, e, _⟩ := hl; exact Heap.lt_size e
  refine call_min_walk (wpAny_pyIter_tuple hl ?_)
  refine ⟨_, [_, l], [_], _, _, _, _, rfl, Walks.tuple (A := A.in1) hh _ l (Nat.ne_of_lt hlt) (intItems xs), ⟨⟨_, Heap.get?_push_size _ rfl, rfl, rfl⟩, hl.push _⟩, fun b hb => ?_, by simpa [intItems] using hne, CmpOf.ints_lt (numAt xs) (fun _ _ => intItems_at), fun v h' tk hP hk => ?_⟩
  · show b < (s.heap.push _).objs.size
    rw [Heap.size_push]
    rcases List.mem_cons.mp hb with rfl | hb
    · exact Nat.lt_succ_self _
    · obtain rfl := List.mem_singleton.mp hb
      exact Nat.lt_succ_of_lt hlt
  · exact h v h' tk (by simpa [intItems] using hP) (old_keptT hk)
end
section
variable {prog : Program} {w : World} {A : Around} {E : Value → Shared → Prop} {s : Shared} {l : Addr} {its : List Value} {ns : List Int} {Q : Value → Shared → Prop}
theorem min_rawT (hh : A.handled = none) (hl : s.heap.IsTuple l its.toArray) (hi : IntsAre its ns) (hne : 0 < ns.length)
    (h : ∀ h' tk M t', (∀ b o, s.heap.get? b = some o → h'.get? b = some o) → M ∈ ns → (∀ a, a ∈ ns → M ≤ a) → Q (.int M t') { s with heap := h', toks := tk }) : wpAny (model prog w) A (call (.builtin "min") [.ref l]) Q E s := by
  obtain ⟨xs, e⟩ := hi.allInts.items
  have hn : numsOf (intItems xs).toList = ns := by rw [← e]; exact hi.numsOf
  rw [nums_intItems] at hn
  subst hn
  rw [e] at hl
  have hsz : 0 < xs.size := by simpa using hne
  refine min_intTup hh hl hsz fun v h' tk hv hk => ?_
  obtain ⟨t, rfl⟩ := intItems_at hv
  obtain ⟨h1, h2⟩ := argBest_lt (numAt xs) (xs.size - 1)
  refine h h' tk _ t hk ?_ fun a ha => ?_
  · rw [numAt_eq]; exact PySem.getD_mem (by rw [List.length_map, Array.length_toList]; omega)
  · obtain ⟨j, hj, rfl⟩ := mem_getD ha
    rw [List.length_map, Array.length_toList] at hj
    rw [← numAt_eq]; exact h2 j (by omega)
end
section
variable {X : Cx}
def rMaxT (K : PySem.W.Frag) : List V → Hp → VK → Prop := fun vs H Q => ∃ (a : Addr) (ns : List Int), vs = [V.ref a] ∧ SqT K H a (ns.map V.int) ∧ 0 < ns.length ∧ ∀ m, m ∈ ns → (∀ y, y ∈ ns → y ≤ m) → Q (.int m) H
def rMinT (K : PySem.W.Frag) : List V → Hp → VK → Prop := fun vs H Q => ∃ (a : Addr) (ns : List Int), vs = [V.ref a] ∧ SqT K H a (ns.map V.int) ∧ 0 < ns.length ∧ ∀ m, m ∈ ns → (∀ y, y ∈ ns → m ≤ y) → Q (.int m) H
theorem cr_minT (hc : X.calm = true) : CallR X (.builtin "min") (rMinT X.K) := by
  intro pins s σ H vs us Q I r h
  obtain ⟨a, ns, rfl, hs, hne, q⟩ := h
  obtain ⟨its, rv, hl, _⟩ := I.tuple hs
  rw [Vals.ref1 r]
  exact min_rawT (I.ok.hd hc) hl rv.ints hne fun h' tk m t' hk h1 h2 => ⟨.int _, H, I.kept hk, ⟨_, rfl⟩, q m h1 h2⟩
end
end L2
end

section
set_option maxRecDepth 100000
set_option maxHeartbeats 4000000
namespace DL
open PySem PySem.Spec L2
variable [TB]
/-! ## len(set(..)), sorted(set(..)) of ints -/
def dedI : List Int → List Int
  | [] => []
  | x :: r => if x ∈ r then dedI r else x :: dedI r
theorem mem_dedI {k : Int} : ∀ {l : List Int}, k ∈ dedI l ↔ k ∈ l
  | [] => Iff.rfl
  | x :: r => by
    unfold dedI
    have ih := mem_dedI (k := k) (l := r)
    split
    · rename_i hx
      rw [ih]
      constructor
      · exact fun h => List.mem_cons_of_mem _ h
      · intro h
        rcases List.mem_cons.mp h with rfl | h
        · exact hx
        · exact h
    · rw [List.mem_cons, List.mem_cons, ih]
theorem nodup_dedI : ∀ l : List Int, (dedI l).Nodup
  | [] => List.nodup_nil
  | x :: r => by
    unfold dedI
    split
    · exact nodup_dedI r
    · rename_i hx
      exact List.nodup_cons.mpr ⟨fun h => hx (mem_dedI.mp h), nodup_dedI r⟩
theorem dedI_of_nodup : ∀ {l : List Int}, l.Nodup → dedI l = l
  | [], _ => rfl
  | x :: r, h => by
    obtain ⟨h1, h2⟩ := List.nodup_cons.mp h
    unfold dedI
    rw [if_neg h1, dedI_of_nodup h2]
theorem dedI_le : ∀ l : List Int, (dedI l).length ≤ l.length
  | [] => Nat.le_refl _
  | x :: r => by
    have ih := dedI_le r
    unfold dedI
    split
    · rw [List.length_cons]; omega
    · rw [List.length_cons, List.length_cons]; omega
theorem dedI_len : ∀ {l : List Int}, (dedI l).length = l.length ↔ l.Nodup
  | [] => ⟨fun _ => List.nodup_nil, fun _ => rfl⟩
  | x :: r => by
    have ih := dedI_len (l := r)
    have le := dedI_le r
    rw [List.nodup_cons]
    unfold dedI
    split
    · rename_i hx
      constructor
      · intro h; rw [List.length_cons] at h; omega
      · exact fun h => absurd hx h.1
    · rename_i hx
      rw [List.length_cons, List.length_cons]
      constructor
      · exact fun h => ⟨hx, ih.mp (by omega)⟩
      · intro h; rw [ih.mpr h.2]
theorem perm_of_mem {a b : List Int} (h1 : a.Nodup) (h2 : b.Nodup) (h : ∀ x, x ∈ a ↔ x ∈ b) : a.Perm b := (List.perm_ext_iff_of_nodup h1 h2).mpr h
theorem cntOf {ns : List Int} {c : Nat} (h : CntOf ns c) : c = (dedI ns).length := by
  obtain ⟨l, h1, h2, h3⟩ := h
  rw [← h3]
  exact (perm_of_mem h1 (nodup_dedI ns) fun x => (h2 x).trans mem_dedI.symm).length_eq
/-- the ints of a list or tuple -/
def intsIn (d : D) (h : DH) : Option (List Int) := (itemsOf d h).bind intsOf
def eLenSet (t : TED) : TED := fun sd h Q E => t sd h (fun d h1 => match intsIn d h1 with
  | some ns => ns.length ≤ 1000 ∧ Q (.int (dedI ns).length) h1
  | none => False) E
def eSortedSet (t : TED) : TED := fun sd h Q E => t sd h (fun d h1 => match intsIn d h1 with
  | some ns => ns.length ≤ 1000 ∧ (dedI ns).length < 64 ∧ Q (.lst ((sortI (dedI ns)).map .int)) h1
  | none => False) E
section
variable {X : Cx} {W : WX} {e : Expr} {te : TED} {p p2 q pos : Pos}
theorem Rel.intsIn {K mg G F m h H v d} {ns : List Int} (R : Rel K mg G F m h H) (r : Rp K mg F m v d) (e : DL.intsIn d h = some ns) : ∃ a, v = .ref a ∧ (SqL K H a (ns.map V.int) ∨ SqT K H a (ns.map V.int)) := by
  unfold DL.intsIn at e
  cases e1 : itemsOf d h with
  | none => rw [e1] at e; cases e
  | some xs =>
    rw [e1] at e
    have e2 : intsOf xs = some ns := e
    obtain ⟨a, vs, rfl, hs, p⟩ := R.items r e1
    rw [intsOf_some e2] at p
    rw [Rps.ints p] at hs
    exact ⟨a, rfl, hs⟩
theorem de_lenSet (hl : Gl X "len") (ml : X.mg "len" = none) (hs : Gl X "set") (ms : X.mg "set" = none) (he : DE X W e te) (hc : X.calm = true := by rfl)
    (h1 : starEach [e] X.env = (false, eval e X.env) :: starEach [] X.env := by rfl)
    (h2 : starEach [.Call (.Name "set" p2) [e] [] q] X.env = (false, eval (.Call (.Name "set" p2) [e] [] q) X.env) :: starEach [] X.env := by rfl)
    (h3 : (backTo q (starEach [] X.env)).any (·.1) = false := by rfl) (h4 : (backTo pos (starEach [] X.env)).any (·.1) = false := by rfl) :
    DE X W (.Call (.Name "len" p) [.Call (.Name "set" p2) [e] [] q] [] pos) (eLenSet te) :=
  PE.imp (pe_callB cr_lenSet hl ml PySem.boot_len (pa_cons (pe_callTy (cr_setI hc) hs ms PyProof.Rows.boot_set (pa_cons he pa_nil h1) (by decide) (by decide) h1 h3) pa_nil h2) (by decide) (by decide) h2 h4) fun σ H Q ⟨G, F, m, sd, h, QD, E, at_, t, hQ⟩ => LE.step at_ t fun F1 m1 h1 H1 v d le a1 rp t1 => by
    revert t1
    cases e1 : intsIn d h1 with
    | none => exact fun t1 => t1.elim
    | some ns =>
      rintro ⟨hz, t1⟩
      obtain ⟨a, rfl, hs⟩ := a1.R.intsIn rp e1
      refine ⟨a, ns, rfl, hs, hz, fun p c hp hcn => ⟨p, _, c, rfl, upd_same, ?_⟩⟩
      rw [cntOf hcn]
      exact hQ _ _ ⟨F1, m1, h1, _, le, a1.R.skip hp, .int _, t1⟩
theorem de_sortedSet (hl : Gl X "sorted") (ml : X.mg "sorted" = none) (hs : Gl X "set") (ms : X.mg "set" = none) (he : DE X W e te) (hc : X.calm = true := by rfl)
    (h1 : starEach [e] X.env = (false, eval e X.env) :: starEach [] X.env := by rfl)
    (h2 : starEach [.Call (.Name "set" p2) [e] [] q] X.env = (false, eval (.Call (.Name "set" p2) [e] [] q) X.env) :: starEach [] X.env := by rfl)
    (h3 : (backTo q (starEach [] X.env)).any (·.1) = false := by rfl) (h4 : (backTo pos (starEach [] X.env)).any (·.1) = false := by rfl) :
    DE X W (.Call (.Name "sorted" p) [.Call (.Name "set" p2) [e] [] q] [] pos) (eSortedSet te) :=
  PE.imp (pe_callB (cr_sortedSet hc) hl ml PyProof.Rows.boot_sorted (pa_cons (pe_callTy (cr_setI hc) hs ms PyProof.Rows.boot_set (pa_cons he pa_nil h1) (by decide) (by decide) h1 h3) pa_nil h2) (by decide) (by decide) h2 h4) fun σ H Q ⟨G, F, m, sd, h, QD, E, at_, t, hQ⟩ => LE.step at_ t fun F1 m1 h1 H1 v d le a1 rp t1 => by
    revert t1
    cases e1 : intsIn d h1 with
    | none => exact fun t1 => t1.elim
    | some ns =>
      rintro ⟨hz, h64, t1⟩
      obtain ⟨a, rfl, hs⟩ := a1.R.intsIn rp e1
      refine ⟨a, ns, rfl, hs, hz, fun p c hp hcn => ⟨p, _, c, rfl, upd_same, by rw [cntOf hcn]; exact h64, fun ns' p' so mem hl' hp' => ?_⟩⟩
      have nd : ns'.Nodup := so.imp (fun h => Int.ne_of_lt h)
      have e2 : ns' = sortI (dedI ns) := sortI_unique (perm_of_mem nd (nodup_dedI ns) fun x => by rw [mem x, decide_eq_true_eq, mem_dedI]) (so.imp fun h => Int.le_of_lt h)
      rw [e2]
      have R2 := a1.R.skip (o := SetO X.w p (fun j => decide (j ∈ ns)) c) hp
      obtain ⟨F', le', R', rq⟩ := R2.lstN hp' (Rps.of_ints (K := X.K) (mg := X.mg) (F := F1) (m := m1) (sortI (dedI ns)))
      exact hQ _ _ ⟨F', m1, h1, _, le.trans le', R', rq, t1⟩
end
/-! ## min, max of a tuple too -/
def fIntsI (f : List Int → Int) : FC := fun ds h Q => match ds with
  | [x] => match intsIn x h with
    | some ns => 0 < ns.length ∧ Q (.int (f ns)) h
    | none => False
  | _ => False
section
variable {X : Cx}
theorem dc_minI (hc : X.calm = true) : CallDD X (.builtin "min") (fIntsI minL) := ⟨_, CallR.or (cr_min hc) (cr_minT hc), fun G F m h H vs ds QD Q R rp q hQ => by
  unfold fIntsI at q
  split at q
  · obtain ⟨v, rfl, r⟩ := Rps.one rp
    split at q
    · rename_i ns e
      obtain ⟨a, rfl, hs⟩ := R.intsIn r e
      have key : ∀ z, z ∈ ns → (∀ y, y ∈ ns → z ≤ y) → Q (.int z) H := fun z h1 h2 => by
        have s := minL_spec q.1
        have ez : z = minL ns := Int.le_antisymm (h2 _ s.1) (s.2 z h1)
        rw [ez]
        exact hQ _ _ ⟨F, m, h, _, WLe.refl, R, .int _, q.2⟩
      rcases hs with hs | hs
      · exact .inl ⟨a, ns, rfl, hs, q.1, key⟩
      · exact .inr ⟨a, ns, rfl, hs, q.1, key⟩
    · exact q.elim
  · exact q.elim⟩
end
/-! ## list * k as an object of the small heap, tuple * k -/
def dMulR : F2 := fun x y h Q => match lstOf x h, y with
  | some xs, .int k => k < 2 ^ 20 ∧ -(2 ^ 20) < k ∧ xs.length * k.toNat ≤ sizeLine ∧ Q (.ref h.length) (h ++ [.lst (List.replicate k.toNat xs).flatten])
  | _, _ => False
def dMulT : F2 := fun x y h Q => match x, y with
  | .tup xs, .int k => 0 < xs.length ∧ 2 ≤ k ∧ k ≤ 1000 ∧ xs.length ≤ 1000 ∧ Q (.tup (List.replicate k.toNat xs).flatten) h
  | _, _ => False
section
variable {X : Cx}
theorem do_mulR : OpDD X (binaryOp .Mult) dMulR := by
  refine .of _ op_rep fun G F m h H x y d e QD Q R rx ry q hQ => ?_
  unfold dMulR at q
  split at q
  · rename_i xs k e1
    obtain ⟨a, vs, rfl, h1, p1⟩ := R.lstOf rx e1
    cases ry
    refine ⟨_, _, _, rfl, rfl, h1, by omega, by omega, by rw [Paired.len p1]; exact q.2.2.1, fun p hp => ?_⟩
    obtain ⟨m', le, R', rp⟩ := R.refN hp (Rps.rep p1 _)
    exact hQ _ _ ⟨F, m', _, _, le, R', rp, q.2.2.2⟩
  · exact q.elim
end
/-! ## list(range(..)), tuple(range(..)) -/
abbrev TRD := Sg → DH → (Int → Int → DH → Prop) → ED → Prop
def rg1 (t : TED) : TRD := fun sd h Q E => t sd h (fun d h1 => match d with | .int n => Q 0 n h1 | _ => False) E
def rg2 (t u : TED) : TRD := fun sd h Q E => t sd h (fun d h1 => u sd h1 (fun e h2 => match d, e with | .int i, .int j => Q i j h2 | _, _ => False) E) E
def eTupRg (t : TRD) : TED := fun sd h Q E => t sd h (fun a b h1 => RgOk a b ∧ Q (.tup (rngL a (b - a).toNat)) h1) E
def eLstRg (t : TRD) : TED := fun sd h Q E => t sd h (fun a b h1 => RgOk a b ∧ Q (.lst (rngL a (b - a).toNat)) h1) E
def eRefRg (t : TRD) : TED := fun sd h Q E => t sd h (fun a b h1 => RgOk a b ∧ Q (.ref h1.length) (h1 ++ [.lst (rngL a (b - a).toNat)])) E
def LR (K : PySem.W.Frag) (mg : Str → Option Value) (W : WX) (t : TRD) : St → Hp → (Int → Int → Hp → Prop) → Prop := fun σ H Q => ∃ G F m sd h QD E, At K mg G W F m sd h σ H E ∧ t sd h QD E ∧ ∀ a b H', (∃ F' m' h', WLe F m F' m' ∧ Rel K mg G F' m' h' H' ∧ QD a b h') → Q a b H'
def DR (X : Cx) (W : WX) (e : Expr) (t : TRD) : Prop := PRg X e (LR X.K X.mg W t)
section
variable {X : Cx} {W : WX} {a b e : Expr} {ta tb : TED} {t : TRD} {p pos : Pos}
theorem PRg.imp {t t' : St → Hp → (Int → Int → Hp → Prop) → Prop} (p : PRg X e t) (h : ∀ σ H Q, t' σ H Q → t σ H Q) : PRg X e t' := fun pins s σ H Q I k => p pins s σ H Q I (h _ _ _ k)
theorem LR.step {K mg G F m sd h σ H} {QD : Int → Int → DH → Prop} {E : ED} {Q : Int → Int → Hp → Prop} (at_ : At K mg G W F m sd h σ H E) (ht : t sd h QD E)
    (k : ∀ F' m' h' H' a b, WLe F m F' m' → At K mg G W F' m' sd h' σ H' E → QD a b h' → Q a b H') : LR K mg W t σ H Q :=
  ⟨G, F, m, sd, h, QD, E, at_, ht, fun a b H' ⟨F', m', h', le, R, q⟩ => k F' m' h' H' a b le (at_.mv le R) q⟩
theorem dr_1 (hg : Gl X "range") (hm : X.mg "range" = none) (ha : DE X W a ta) (na : starEach [a] X.env = (false, eval a X.env) :: starEach [] X.env := by rfl) : DR X W (.Call (.Name "range" p) [a] [] pos) (rg1 ta) :=
  PRg.imp (prg_1 hg hm ha na) fun σ H Q ⟨G, F, m, sd, h, QD, E, at_, t, hQ⟩ => LE.step at_ t fun F1 m1 h1 H1 v d le a1 rp t1 => by
    revert t1
    split
    · intro t1; cases rp; exact ⟨_, rfl, hQ _ _ _ ⟨F1, m1, h1, le, a1.R, t1⟩⟩
    · exact fun t1 => t1.elim
theorem rps_rg {K mg} {F : Hp} {m : List Addr} (a b : Int) : Rps K mg F m (rgV a b) (rngL a (b - a).toNat) := by
  unfold rgV rngL
  induction List.range (b - a).toNat with
  | nil => exact .nil
  | cons x r ih => exact .cons (.int _) ih
theorem de_tupRg (hg : Gl X "tuple") (hm : X.mg "tuple" = none) (he : DR X W e t) (hc : X.calm = true := by rfl) (na : starEach [e] X.env = (false, eval e X.env) :: starEach [] X.env := by rfl) : DE X W (.Call (.Name "tuple" p) [e] [] pos) (eTupRg t) :=
  PE.imp (pe_tupRg hc hg hm he na) fun σ H Q ⟨G, F, m, sd, h, QD, E, at_, t, hQ⟩ => LR.step at_ t fun F1 m1 h1 H1 a b le a1 t1 => ⟨t1.1, fun q hq => by
    obtain ⟨F', le', R', rp⟩ := a1.R.tupN hq (rps_rg a b)
    exact hQ _ _ ⟨F', m1, h1, _, le.trans le', R', rp, t1.2⟩⟩
theorem de_lstRg (hg : Gl X "list") (hm : X.mg "list" = none) (he : DR X W e t) (hc : X.calm = true := by rfl) (na : starEach [e] X.env = (false, eval e X.env) :: starEach [] X.env := by rfl) : DE X W (.Call (.Name "list" p) [e] [] pos) (eLstRg t) :=
  PE.imp (pe_listRg hc hg hm he na) fun σ H Q ⟨G, F, m, sd, h, QD, E, at_, t, hQ⟩ => LR.step at_ t fun F1 m1 h1 H1 a b le a1 t1 => ⟨t1.1, fun q hq => by
    obtain ⟨F', le', R', rp⟩ := a1.R.lstN hq (rps_rg a b)
    exact hQ _ _ ⟨F', m1, h1, _, le.trans le', R', rp, t1.2⟩⟩
end
/-! ## x in a list of data -/
def dInD (neg : Bool) : F2 := fun x y h Q => match pyTop h x, pyTop h y with
  | some d, some (.list ds) => SeqAt.shaped d = true ∧ SeqAt.shaped (.list ds) = true ∧ Q (.bl (if neg then !ds.any fun z => PyData.eqv z d else ds.any fun z => PyData.eqv z d)) h
  | _, _ => False
section
variable {X : Cx}
end
end DL
end

section
set_option maxRecDepth 100000
set_option maxHeartbeats 4000000
namespace DL
open PySem PySem.Spec L2
variable [TB]
/-! ## comprehensions of two clauses -/
def compB (keep : DH → Prop) (g : TGD) (tt : TTD) (te : TED) (sd : Sg) : List D → List D → DH → LD → Prop
  | [], acc, h, Q => keep h ∧ Q acc h
  | x :: r, acc, h, Q => keep h ∧ g x sd h fun sd' h1 => tt sd' h1 (fun b h2 => if b = true then te sd' h2 (fun d h3 => acc.length < sizeLine ∧ compB keep g tt te sd r (acc ++ [d]) h3 Q) EF else compB keep g tt te sd r acc h2 Q) EF
def comp2 (keep : DH → Prop) (g : TGD) (tt : TTD) (ti1 : TID) (g1 : TGD) (tt1 : TTD) (te : TED) (vs1 : List Nat) (sd : Sg) : List D → List D → DH → LD → Prop
  | [], acc, h, Q => keep h ∧ Q acc h
  | x :: r, acc, h, Q => keep h ∧ g x sd h fun sd' h1 => tt sd' h1 (fun b h2 => if b = true then ti1 sd' h2 (fun items1 keep1 h3 => compB keep1 g1 tt1 te (wipeD sd' vs1) items1 acc h3 fun acc' h4 => comp2 keep g tt ti1 g1 tt1 te vs1 sd r acc' h4 Q) EF
      else comp2 keep g tt ti1 g1 tt1 te vs1 sd r acc h2 Q) EF
def eComp2 (ti : TID) (g : TGD) (tt : TTD) (ti1 : TID) (g1 : TGD) (tt1 : TTD) (te : TED) (vs vs1 : List Nat) : TED := fun sd h Q E => ti sd h (fun items keep h1 => comp2 keep g tt ti1 g1 tt1 te vs1 (wipeD sd vs) items [] h1 fun acc h2 => Q (.lst acc) h2) E
def eComp2R (ti : TID) (g : TGD) (tt : TTD) (ti1 : TID) (g1 : TGD) (tt1 : TTD) (te : TED) (vs vs1 : List Nat) : TED := fun sd h Q E => ti sd h (fun items keep h1 => comp2 keep g tt ti1 g1 tt1 te vs1 (wipeD sd vs) items [] h1 fun acc h2 => Q (.ref h2.length) (h2 ++ [.lst acc])) E
section
variable {X : Cx} {W : WX}
variable {elt tg iter tg1 iter1 : Expr} {ifs ifs1 : List Expr} {scope : Scope} {own : List (Str × Nat)} {vs1 : List Nat} {pos : Pos} {ti ti1 : TID} {g g1 : TGD} {tt tt1 : TTD} {te : TED}
end
/-! ## letting go of the small heap's end but one list, that is told -/
def popRQ (n : Nat) (Q : VD) : VD := fun d h => match d with
  | .ref j => match h[j]? with
    | some o => n ≤ j ∧ o ≠ .dead ∧ nrO n o = true ∧ (h.take n).all (nrO n) = true ∧ Q (.ref n) (h.take n ++ [o])
    | none => False
  | .non => (h.take n).all (nrO n) = true ∧ n ≤ h.length ∧ Q .non (h.take n)
  | _ => False
def popFR (f : SpD) : SpD := fun ds h Q E => f ds h (popRQ h.length Q) (popE h.length E)
section
variable {K : PySem.W.Frag} {mg : Str → Option Value} {G F : Hp} {m : List Addr} {h : DH} {H : Hp}
theorem QV.popR {Q : VD} {v : V} {H' : Hp} (R : m.length = h.length) (q : QV K mg G F m (popRQ h.length Q) v H') : QV K mg G F m Q v H' := by
  obtain ⟨F', m', h', d, le, R', rp, q⟩ := q
  unfold popRQ at q
  split at q
  · rename_i j
    split at q
    · rename_i o ho
      obtain ⟨hj, hd, hn, ha, q⟩ := q
      cases rp with
      | ref hm =>
      rename_i a
      obtain ⟨a', e1, e2, e3⟩ := R'.lv j o ho hd
      rw [hm] at e1; cases e1
      have Rs := R'.shrink h.length ha
      have eo := Ro.shrink h.length e3 hn
      have lm : (m'.take h.length).length = h.length := by
        have := R'.ln
        have h1 : j < h'.length := (List.getElem?_eq_some_iff.mp ho).1
        rw [List.length_take]; omega
      have lh : (h'.take h.length).length = h.length := by
        have h1 : j < h'.length := (List.getElem?_eq_some_iff.mp ho).1
        rw [List.length_take]; omega
      have l0 := WLe.shrink R le
      have lek : WLe F' (m'.take h.length) F' (m'.take h.length ++ [a]) := ⟨Same.refl _, _, rfl⟩
      have notold : ∀ (i : Nat) (b : Addr) (u : O), (m'.take h.length)[i]? = some b → (h'.take h.length)[i]? = some u → u ≠ .dead → b ≠ a := by
        intro i b u h1 h2 h3 e
        have hi : i < h.length := by
          have := (List.getElem?_eq_some_iff.mp h2).1
          omega
        rw [List.getElem?_take_of_lt hi] at h1 h2
        subst e
        have := R'.ij i j b u o h1 hm h2 ho h3 hd
        omega
      refine ⟨F', m'.take h.length ++ [a], h'.take h.length ++ [o], .ref h.length, l0.trans lek, ?_, .ref (by rw [List.getElem?_append_right (by omega), lm, Nat.sub_self] <;> rfl), q⟩
      refine ⟨Rs.sg, Rs.gk, Rs.gf, fun n b u h1 h2 h3 => ?_, Rs.sf, by rw [List.length_append, List.length_append, lm, lh] <;> rfl, fun n u h2 h3 => ?_, fun i k b u w h1 h2 h3 h4 h5 h6 => ?_, Rs.tb⟩
      · by_cases hn' : n < h.length
        · rw [List.getElem?_append_left (by omega)] at h1 h2
          exact Rs.gl n b u h1 h2 h3
        · by_cases he : n = h.length
          · subst he
            rw [List.getElem?_append_right (by omega), lm, Nat.sub_self] at h1
            have : b = a := by simpa using h1.symm
            rw [this]
            exact R'.gl j a o hm ho hd
          · have := (List.getElem?_eq_some_iff.mp h1).1
            rw [List.length_append, lm, List.length_singleton] at this
            omega
      · by_cases hn' : n < h.length
        · rw [List.getElem?_append_left (by omega)] at h2
          obtain ⟨b, q1, q2, q3⟩ := Rs.lv n u h2 h3
          exact ⟨b, by rw [List.getElem?_append_left (by omega)]; exact q1, q2, q3.mono lek⟩
        · by_cases he : n = h.length
          · subst he
            rw [List.getElem?_append_right (by omega), lh, Nat.sub_self] at h2
            have : u = o := by simpa using h2.symm
            subst this
            exact ⟨a, by rw [List.getElem?_append_right (by omega), lm, Nat.sub_self] <;> rfl, e2, eo.mono lek⟩
          · have := (List.getElem?_eq_some_iff.mp h2).1
            rw [List.length_append, lh, List.length_singleton] at this
            omega
      · by_cases hi : i < h.length
        · rw [List.getElem?_append_left (by omega)] at h1 h3
          by_cases hk : k < h.length
          · rw [List.getElem?_append_left (by omega)] at h2 h4
            exact Rs.ij i k b u w h1 h2 h3 h4 h5 h6
          · have hk2 : k = h.length := by
              have := (List.getElem?_eq_some_iff.mp h2).1
              rw [List.length_append, lm, List.length_singleton] at this
              omega
            subst hk2
            rw [List.getElem?_append_right (by omega), lm, Nat.sub_self] at h2
            have : b = a := by simpa using h2.symm
            exact absurd this (notold i b u h1 h3 h5)
        · have hi2 : i = h.length := by
            have := (List.getElem?_eq_some_iff.mp h1).1
            rw [List.length_append, lm, List.length_singleton] at this
            omega
          subst hi2
          by_cases hk : k < h.length
          · rw [List.getElem?_append_left (by omega)] at h2 h4
            rw [List.getElem?_append_right (by omega), lm, Nat.sub_self] at h1
            have : b = a := by simpa using h1.symm
            exact absurd this (notold k b w h2 h4 h6)
          · have := (List.getElem?_eq_some_iff.mp h2).1
            rw [List.length_append, lm, List.length_singleton] at this
            omega
    · exact q.elim
  · obtain ⟨q2, q3, q4⟩ := q
    exact ⟨F', _, _, .non, le.shrink R, R'.shrink _ q2, rp.shrink _ (by rfl), q4⟩
  · exact q.elim
end
section
variable {P : Program} {w : World} {K : PySem.W.Frag} {mg : Str → Option Value} {base : Heap}
theorem fn_popR {f : Addr} {fd : FuncData} {ps : List Str} {k n : Nat} {sp : SpD} (F : FnG P w K mg base (L2N.CX P w) k f fd ps (LSp K mg n sp)) : FnG P w K mg base (L2N.CX P w) k f fd ps (LSp K mg n (popFR sp)) :=
  F.imp fun vs H Q E ⟨hl, G, F, m, h', ds, QD, ED, R, rp, q, hQ, hE⟩ => ⟨hl, G, F, m, h', ds, _, _, R, rp, q, fun v H' z => hQ _ _ (z.popR R.ln), fun c dx H' z => hE _ _ _ (z.pop R.ln)⟩
end
end DL
end

section
set_option maxRecDepth 100000
set_option maxHeartbeats 4000000
namespace DL
open PySem PySem.Spec L2
variable [TB]
/-! ## what the text gives, in one word each -/
section
variable (P : Program) (w : World) (K : PySem.W.Frag) (mg : Str → Option Value) (base : Heap)
/-- a def of the text that may be called by its name -/
def Def (k : Nat) (x : Str) (ps : List Str) (sp : SpD) : Prop :=
  ∃ f fd, FnG P w K mg base (L2N.CX P w) k f fd ps (LSp K mg ps.length sp) ∧ mg x = some (.ref f) ∧ PySem.W.keepIn K (.ref f) = true ∧ Binds K fd ps []
/-- a class of the text that may be made -/
def Ctor (k : Nat) (c : String) (ps : List Str) (sp : SpD) : Prop :=
  ∃ f C fd, FnG P w K mg base (L2N.CX P w) k f fd ps (LSp K mg ps.length sp) ∧ Mk K C f ∧ mg (Str.ofString c) = some (.ref C) ∧ Binds K fd ps []
def Xc0 (nm : String) : Prop := ∃ C, ExT0 K mg nm C
def Xc1 (nm f1 : String) : Prop := ∃ C fI fd ps, ExT K mg nm [f1] C fI ∧ FnOk P w K mg base (L2N.CX P w) 1 fI fd ps (spX1 K (Str.ofString f1)) ∧ Binds K fd ps []
def Xc2 (nm f1 f2 : String) : Prop := ∃ C fI fd ps, ExT K mg nm [f1, f2] C fI ∧ FnOk P w K mg base (L2N.CX P w) 1 fI fd ps (spX2 K (Str.ofString f1) (Str.ofString f2)) ∧ Binds K fd ps []
end
theorem Def.imp {P w K mg base k x ps} {sp sp' : SpD} (c : Def P w K mg base k x ps sp) (h : ∀ ds h Q E, ds.length = ps.length → sp' ds h Q E → sp ds h Q E) : Def P w K mg base k x ps sp' := by
  obtain ⟨f, fd, F, a, b, d⟩ := c
  exact ⟨f, fd, fn_imp F h, a, b, d⟩
theorem Def.pop {P w K mg base k x ps} {sp : SpD} (c : Def P w K mg base k x ps sp) : Def P w K mg base k x ps (popF sp) := by
  obtain ⟨f, fd, F, a, b, d⟩ := c
  exact ⟨f, fd, fn_pop F, a, b, d⟩
theorem Def.popR {P w K mg base k x ps} {sp : SpD} (c : Def P w K mg base k x ps sp) : Def P w K mg base k x ps (popFR sp) := by
  obtain ⟨f, fd, F, a, b, d⟩ := c
  exact ⟨f, fd, fn_popR F, a, b, d⟩
theorem Ctor.imp {P w K mg base k x ps} {sp sp' : SpD} (c : Ctor P w K mg base k x ps sp) (h : ∀ ds h Q E, ds.length = ps.length → sp' ds h Q E → sp ds h Q E) : Ctor P w K mg base k x ps sp' := by
  obtain ⟨f, C, fd, F, a, b, d⟩ := c
  exact ⟨f, C, fd, fn_imp F h, a, b, d⟩
section
variable {P : Program} {w : World} {K : PySem.W.Frag} {mg : Str → Option Value} {base : Heap}
theorem tkC {N : List Str} {qual : Str} {scope : Scope} {f : Addr} {cd : Value} {A : Around} {outer : List Env} {s : Shared} {H : Hp} {E : XK} : L2N.Takes (cxOf (L2N.CX P w) P w K mg base N qual scope f cd A outer s H E) (fun cls d _ H' => E cls d H') := L2N.takes_of rfl rfl rfl rfl
theorem poC {N : List Str} {qual : Str} {scope : Scope} {f : Addr} {cd : Value} {A : Around} {outer : List Env} {s : Shared} {H : Hp} {E : XK} : PassesOwn (model P w) (cxOf (L2N.CX P w) P w K mg base N qual scope f cd A outer s H E).A (cxOf (L2N.CX P w) P w K mg base N qual scope f cd A outer s H E).env (cxOf (L2N.CX P w) P w K mg base N qual scope f cd A outer s H E).xe := passes_of (E₁ := fun e' s'' => L2N.CX P w outer H s E e' s'') rfl
theorem def_mk {x qual : Str} {st : Stmt} {f : Addr} {fd : FuncData} {N ps : List Str} {k : Nat} {t : TSD} (F : Fun K x qual st f fd) (S : FnScope N ps (defScope st)) (hm : mg x = some (.ref f)) (hb : Binds K fd ps [])
    (hbody : ∀ (cdv : Value) (A : Around) (outer : List Env) (s : Shared) (H : Hp) (E : XK), RoomG k (A.deeper (PyProof.Rows.envOfC qual (defScope st) s.heap.objs.size f cdv)) →
      DSs (cxOf (L2N.CX P w) P w K mg base N qual (defScope st) f cdv A outer s H E) (fun cls d _ H' => E cls d H') (defBody st) t) : Def P w K mg base (k + 1) x ps (bodyD N.length t) := ⟨f, fd, fn_ok F S hbody, hm, F.kp, hb⟩
theorem ctor_mk {x qual : Str} {c : String} {C : Addr} {st : Stmt} {f : Addr} {fd : FuncData} {N ps : List Str} {k : Nat} {t : TSD} (F : Fun K x qual st f fd) (S : FnScope N ps (defScope st)) (hm : mg (Str.ofString c) = some (.ref C)) (M : Mk K C f) (hb : Binds K fd ps [])
    (hbody : ∀ (cdv : Value) (A : Around) (outer : List Env) (s : Shared) (H : Hp) (E : XK), RoomG k (A.deeper (PyProof.Rows.envOfC qual (defScope st) s.heap.objs.size f cdv)) →
      DSs (cxOf (L2N.CX P w) P w K mg base N qual (defScope st) f cdv A outer s H E) (fun cls d _ H' => E cls d H') (defBody st) t) : Ctor P w K mg base (k + 1) c ps (bodyD N.length t) := ⟨f, C, fd, fn_ok F S hbody, M, hm, hb⟩
end
section
variable {X : Cx} {W : WX} {k j : Nat} {ps : List Str} {sp : SpD} {x : Str} {p pos pos2 : Pos} {e : Expr} {es : List Expr} {t : TAD}
theorem de_callD (c : Def X.prog X.w X.K X.mg X.base j x ps sp) (hr : RoomG k X.A) (tk : L2N.Takes X W) (ha : DA X W (e :: es) t) (hj : j ≤ k := by first | decide | omega) (hg : Gl X x := by rfl) (hn : (e :: es).length = ps.length := by rfl)
    (hdb : (x == ("__debug__" : Str)) = false := by decide) (he : starEach (e :: es) X.env = (false, eval e X.env) :: starEach es X.env := by rfl) (hpl : (backTo pos (starEach es X.env)).any (·.1) = false := by rfl) :
    DE X W (.Call (.Name x p) (e :: es) [] pos) (eFn sp t) := by
  obtain ⟨f, fd, F, a, b, d⟩ := c
  exact de_call F (hr.mono hj) hg a b d tk ha hn hdb he hpl
theorem de_mkVD {c : String} (C : Ctor X.prog X.w X.K X.mg X.base j c ps sp) (hr : RoomG k X.A) (tk : L2N.Takes X W) (ha : DA X W (e :: es) t) (hj : j + 1 ≤ k := by first | decide | omega) (hg : Gl X (Str.ofString c) := by rfl) (hn : (e :: es).length + 1 = ps.length := by rfl)
    (hdb : ((Str.ofString c) == ("__debug__" : Str)) = false := by decide) (he : starEach (e :: es) X.env = (false, eval e X.env) :: starEach es X.env := by rfl) (hpl : (backTo pos (starEach es X.env)).any (·.1) = false := by rfl) :
    DE X W (.Call (.Name (Str.ofString c) p) (e :: es) [] pos) (eMkV c sp t) := by
  obtain ⟨f, C, fd, F, M, a, b⟩ := C
  exact de_mkV F M (hr.mono hj) hg a b tk ha hn hdb he hpl
theorem de_mkD {c : String} (C : Ctor X.prog X.w X.K X.mg X.base j c ps sp) (hr : RoomG k X.A) (tk : L2N.Takes X W) (ha : DA X W (e :: es) t) (hj : j + 1 ≤ k := by first | decide | omega) (hg : Gl X (Str.ofString c) := by rfl) (hn : (e :: es).length + 1 = ps.length := by rfl)
    (hdb : ((Str.ofString c) == ("__debug__" : Str)) = false := by decide) (he : starEach (e :: es) X.env = (false, eval e X.env) :: starEach es X.env := by rfl) (hpl : (backTo pos (starEach es X.env)).any (·.1) = false := by rfl) :
    DE X W (.Call (.Name (Str.ofString c) p) (e :: es) [] pos) (eMk c sp t) := by
  obtain ⟨f, C, fd, F, M, a, b⟩ := C
  exact de_mk F M (hr.mono hj) hg a b tk ha hn hdb he hpl
theorem ds_raise0D {nm : String} (T : Xc0 X.K X.mg nm) (tk : L2N.Takes X W) (hg : Gl X (Str.ofString nm) := by rfl) (hdb : ((Str.ofString nm) == ("__debug__" : Str)) = false := by decide) (hc : X.calm = true := by rfl) :
    DS X W (.Raise (some (.Call (.Name (Str.ofString nm) p) [] [] pos)) none pos2) (sRaise nm) := by
  obtain ⟨C, T⟩ := T
  exact ds_raise0 T tk hg hdb hc
theorem ds_raise1D {nm f1 : String} (T : Xc1 X.prog X.w X.K X.mg X.base nm f1) (hr : RoomG k X.A) (tk : L2N.Takes X W) (ha : DA X W [e] t) (hk : 2 ≤ k := by first | decide | omega) (hg : Gl X (Str.ofString nm) := by rfl) (hc : X.calm = true := by rfl) (hdb : ((Str.ofString nm) == ("__debug__" : Str)) = false := by decide)
    (he : starEach [e] X.env = (false, eval e X.env) :: starEach [] X.env := by rfl) (hpl : (backTo pos (starEach [] X.env)).any (·.1) = false := by rfl)
    (hx : Passes (L2N.CX X.prog X.w) X (fun _ _ _ => False) := by exact passLN) : DS X W (.Raise (some (.Call (.Name (Str.ofString nm) p) [e] [] pos)) none pos2) (sRaiseF nm [f1] t) := by
  obtain ⟨C, fI, fd, ps, T, F, b⟩ := T
  exact ds_raise1 T F b (hr.mono hk).r tk ha hg hc hdb he hpl hx
theorem ds_raise2D {e2 : Expr} {nm f1 f2 : String} (T : Xc2 X.prog X.w X.K X.mg X.base nm f1 f2) (hr : RoomG k X.A) (tk : L2N.Takes X W) (ha : DA X W [e, e2] t) (hk : 2 ≤ k := by first | decide | omega) (hg : Gl X (Str.ofString nm) := by rfl) (hc : X.calm = true := by rfl) (hdb : ((Str.ofString nm) == ("__debug__" : Str)) = false := by decide)
    (he : starEach [e, e2] X.env = (false, eval e X.env) :: starEach [e2] X.env := by rfl) (hpl : (backTo pos (starEach [e2] X.env)).any (·.1) = false := by rfl)
    (hx : Passes (L2N.CX X.prog X.w) X (fun _ _ _ => False) := by exact passLN) : DS X W (.Raise (some (.Call (.Name (Str.ofString nm) p) [e, e2] [] pos)) none pos2) (sRaiseF nm [f2, f1] t) := by
  obtain ⟨C, fI, fd, ps, T, F, b⟩ := T
  exact ds_raise2 T F b (hr.mono hk).r tk ha hg hc hdb he hpl hx
/-- a module's number; a class or def as a value -/
theorem de_gint {i : Int} (hm : ∃ t, X.mg x = some (.int i t)) (hg : Gl X x := by rfl) (hd : (x == ("__debug__" : Str)) = false := by decide) : DE X W (.Name x p) (eC (.int i)) := by
  obtain ⟨t, hm⟩ := hm
  exact de_glob (v := .int i) hg hm ⟨t, rfl⟩ (fun _ _ => .int i) hd
theorem de_gcls {c : String} (hm : ∃ C, X.mg (Str.ofString c) = some (.ref C)) (hg : Gl X (Str.ofString c) := by rfl) (hd : ((Str.ofString c) == ("__debug__" : Str)) = false := by decide) : DE X W (.Name (Str.ofString c) p) (eC (.glb c)) := by
  obtain ⟨C, hm⟩ := hm
  exact de_glob (v := .ref C) hg hm rfl (fun _ _ => .glb hm) hd
theorem de_negc {i : Int} {j : Nat} {pp : Pos} : DE X W (.UnaryOp .USub (.Constant (.int i) j pp) pos) (eC (.int (-i))) :=
  de_const (v := .int (-i)) (PE.imp (pe_un un_neg pe_int) fun σ H Q q => ⟨i, rfl, q⟩) fun _ _ => .int _
/-- f(..) of built-in functions and types -/
theorem de_B {id : String} {f : FC} (hc : CallDD X (.builtin id) f) (hm : X.mg x = none) (hv : bootBuiltins x = some (.builtin id)) (ha : DA X W (e :: es) t) (hg : Gl X x := by rfl) (hn : x ≠ "__name__" := by decide) (hdb : (x == ("__debug__" : Str)) = false := by decide)
    (he : starEach (e :: es) X.env = (false, eval e X.env) :: starEach es X.env := by rfl) (hpl : (backTo pos (starEach es X.env)).any (·.1) = false := by rfl) : DE X W (.Call (.Name x p) (e :: es) [] pos) (eCall f t) := de_callB hc hg hm hv ha hn hdb he hpl
theorem de_T {id : String} {f : FC} (hc : CallDD X (.type id) f) (hm : X.mg x = none) (hv : bootBuiltins x = some (.type id)) (ha : DA X W (e :: es) t) (hg : Gl X x := by rfl) (hn : x ≠ "__name__" := by decide) (hdb : (x == ("__debug__" : Str)) = false := by decide)
    (he : starEach (e :: es) X.env = (false, eval e X.env) :: starEach es X.env := by rfl) (hpl : (backTo pos (starEach es X.env)).any (·.1) = false := by rfl) : DE X W (.Call (.Name x p) (e :: es) [] pos) (eCall f t) := de_callTy hc hg hm hv ha hn hdb he hpl
end
end DL
end

section
set_option maxRecDepth 100000
set_option maxHeartbeats 4000000
namespace DL
open PySem PySem.Spec L2
variable [TB]
theorem b_len : bootBuiltins "len" = some (.builtin "len") := by first | exact PySem.boot_len | exact PyProof.Rows.boot_len | decide +kernel
theorem b_abs : bootBuiltins "abs" = some (.builtin "abs") := by first | exact PySem.boot_abs | exact PyProof.Rows.boot_abs | decide +kernel
theorem b_max : bootBuiltins "max" = some (.builtin "max") := by first | exact PySem.boot_max | exact PyProof.Rows.boot_max | decide +kernel
theorem b_min : bootBuiltins "min" = some (.builtin "min") := by first | exact PySem.boot_min | exact PyProof.Rows.boot_min | decide +kernel
theorem b_all : bootBuiltins "all" = some (.builtin "all") := by first | exact PySem.boot_all | exact PyProof.Rows.boot_all | decide +kernel
theorem b_any : bootBuiltins "any" = some (.builtin "any") := by first | exact PySem.boot_any | exact PyProof.Rows.boot_any | decide +kernel
theorem b_isinstance : bootBuiltins "isinstance" = some (.builtin "isinstance") := by first | exact PySem.boot_isinstance | exact PyProof.Rows.boot_isinstance | decide +kernel
theorem b_list : bootBuiltins "list" = some (.type "list") := by first | exact PySem.boot_list | exact PyProof.Rows.boot_list | decide +kernel
theorem b_tuple : bootBuiltins "tuple" = some (.type "tuple") := by first | exact PySem.boot_tuple | exact PyProof.Rows.boot_tuple | decide +kernel
theorem b_int : bootBuiltins "int" = some (.type "int") := by first | exact PySem.boot_int | exact PyProof.Rows.boot_int | decide +kernel
theorem b_bool : bootBuiltins "bool" = some (.type "bool") := by first | exact PySem.boot_bool | exact PyProof.Rows.boot_bool | decide +kernel
theorem b_str : bootBuiltins "str" = some (.type "str") := by first | exact PySem.boot_str | exact PyProof.Rows.boot_str | decide +kernel
section
variable {X : Cx} {W : WX} {a b c : Expr} {ta tb tc : TED} {tA : TTD} {pos : Pos} {f g : F2}
theorem dt_cmp {op : CmpOp} (o : OpDD X (compareOp op) f) (ha : DE X W a ta) (hb : DE X W b tb) (hm : behindInMarks op b = false := by first | exact nomark _ | rfl | with_unfolding_all rfl) : DT X W (.Compare a [op] [b] pos) (tTst (eOp2 f ta tb)) := by
  obtain ⟨r, ho, hf⟩ := o
  exact PT.imp (pt_cmpR ho ha hb hm) fun σ H Q ⟨G, F, m, sd, h, QD, E, at_, t, hQ⟩ => LE.two at_ t fun F' m' h' H' x y d e le a' rx ry q => hf _ _ _ _ _ _ _ _ _ _ _ a'.R rx ry q fun v H' qv => by
    obtain ⟨k, rfl, z⟩ := (qv.mono le).bl
    exact ⟨k, rfl, hQ _ _ z⟩
theorem dt_chain {op op' : CmpOp} (o : OpDD X (compareOp op) f) (o' : OpDD X (compareOp op') g) (ha : DE X W a ta) (hb : DE X W b tb) (hc : DE X W c tc) (hm : lastMarks [op, op'] [b, c] = false := by with_unfolding_all rfl) :
    DT X W (.Compare a [op, op'] [b, c] pos) (tTst (eChain f g ta tb tc)) := by
  obtain ⟨r, ho, hf⟩ := o
  obtain ⟨r', ho', hf'⟩ := o'
  refine PT.imp (pt_chain ho ho' ha hb hc hm) fun σ H Q ⟨G, F, m, sd, h, QD, E, at_, t, hQ⟩ => ?_
  refine LE.step at_ t fun F1 m1 h1 H1 x d le1 a1 rp1 t1 => LE.step a1 t1 fun F2 m2 h2 H2 y e le2 a2 rp2 t2 => ?_
  refine hf _ _ _ _ _ _ _ _ _ _ _ a2.R (rp1.mono le2) rp2 t2 fun v H' ⟨F3, m3, h3, z, le3, R3, rz, q⟩ => ?_
  cases rz with
  | bl k =>
    refine ⟨k, rfl, ?_⟩
    cases k with
    | true =>
      rw [if_pos rfl]
      exact LE.step (a2.mv le3 R3) q fun F4 m4 h4 H4 w' u le4 a4 rp4 t4 => hf' _ _ _ _ _ _ _ _ _ _ _ a4.R (rp2.mono (le3.trans le4)) rp4 t4 fun v H' qv => by
        obtain ⟨k, rfl, z⟩ := (qv.mono (le1.trans (le2.trans (le3.trans le4)))).bl
        exact ⟨k, rfl, hQ _ _ z⟩
    | false =>
      rw [if_neg Bool.false_ne_true]
      exact ⟨false, rfl, hQ _ _ ⟨F3, m3, h3, le1.trans (le2.trans le3), R3, q⟩⟩
  | _ => exact q.elim
end
end DL
end

section
set_option maxRecDepth 100000
set_option maxHeartbeats 4000000
namespace DL
open PySem PySem.Spec L2
variable [TB]
/-! ## walks read by an invariant -/
theorem forL_ind {keep : DH → Prop} {g : TGD} {tb : TSD} {k : KD} (I : List D → Sg → DH → Prop) (h0 : ∀ sd h, I [] sd h → keep h ∧ k.nx sd h)
    (hs : ∀ (x : D) (r : List D) (sd : Sg) (h : DH) (N : Sg → DH → Prop), I (x :: r) sd h → (∀ sd h, I r sd h → N sd h) → keep h ∧ g x sd h fun sd' h' => tb { k with nx := N, ct := N, bk := k.nx } sd' h') :
    ∀ (items : List D) (sd : Sg) (h : DH), I items sd h → forL keep g tb k items sd h
  | [], sd, h, i => h0 sd h i
  | x :: r, sd, h, i => hs x r sd h _ i fun sd h j => forL_ind I h0 hs r sd h j
theorem compL_ind {keep : DH → Prop} {g : TGD} {tt : TTD} {te : TED} {sd : Sg} {Q : LD} (I : List D → List D → DH → Prop) (h0 : ∀ acc h, I [] acc h → keep h ∧ Q acc h)
    (hs : ∀ (x : D) (r acc : List D) (h : DH) (N : List D → DH → Prop), I (x :: r) acc h → (∀ acc h, I r acc h → N acc h) →
      keep h ∧ g x sd h fun sd' h1 => tt sd' h1 (fun b h2 => if b = true then te sd' h2 (fun d h3 => N (acc ++ [d]) h3) EF else N acc h2) EF) :
    ∀ (items acc : List D) (h : DH), I items acc h → compL keep g tt te sd items acc h Q
  | [], acc, h, i => h0 acc h i
  | x :: r, acc, h, i => hs x r acc h (fun acc h => compL keep g tt te sd r acc h Q) i fun acc h j => compL_ind I h0 hs r acc h j
/-- the same, where the items are the values of a list by f -/
theorem compL_map {α : Type} {keep : DH → Prop} {g : TGD} {tt : TTD} {te : TED} {sd : Sg} {Q : LD} {h : DH} (f : α → D) (fo : α → Option D) {xs : List α} {acc : List D} (hk : keep h) (q : Q (acc ++ xs.filterMap fo) h)
    (hs : ∀ x ∈ xs, ∀ (N : List D → DH → Prop) (acc : List D), (match fo x with | some y => N (acc ++ [y]) h | none => N acc h) → g (f x) sd h fun sd' h1 => tt sd' h1 (fun b h2 => if b = true then te sd' h2 (fun d h3 => N (acc ++ [d]) h3) EF else N acc h2) EF) :
    compL keep g tt te sd (xs.map f) acc h Q := by
  induction xs generalizing acc with
  | nil => exact ⟨hk, by simpa using q⟩
  | cons x r ih =>
    refine ⟨hk, ?_⟩
    refine hs x List.mem_cons_self (fun acc h => compL keep g tt te sd (r.map f) acc h Q) acc ?_
    rw [List.filterMap_cons] at q
    cases e : fo x with
    | none =>
      rw [e] at q
      exact ih q fun z hz => hs z (List.mem_cons_of_mem _ hz)
    | some y =>
      rw [e] at q
      exact ih (by simpa using q) fun z hz => hs z (List.mem_cons_of_mem _ hz)
theorem rngL_eq (lo : Int) (n : Nat) : rngL lo n = (List.range n).map fun i => D.int (lo + (i : Nat)) := rfl
theorem size_le {n : Nat} (h : n ≤ 16777216) : n ≤ sizeLine := by rw [sizeLine_eq]; exact h
theorem size_lt {n : Nat} (h : n < 16777216) : n < sizeLine := by rw [sizeLine_eq]; exact h
end DL
namespace DL
open PySem PySem.Spec L2
/-! ## one statement after the other -/
theorem sSeq_i {t u : TSD} {k : KD} {sd : Sg} {h : DH} (q : ∀ N : Sg → DH → Prop, (∀ sd h, u k sd h → N sd h) → t { k with nx := N } sd h) : sSeq t u k sd h := q (u k) fun _ _ x => x
theorem sSeq_inv {t u : TSD} {k : KD} {sd : Sg} {h : DH} (I : Sg → DH → Prop) (q : ∀ N : Sg → DH → Prop, (∀ sd h, I sd h → N sd h) → t { k with nx := N } sd h) (r : ∀ sd h, I sd h → u k sd h) : sSeq t u k sd h := q (u k) r
def brB (b : Bool) (A B : Prop) : Prop := if b = true then A else B
theorem brB_t {A B : Prop} : brB true A B = A := if_pos rfl
theorem brB_f {A B : Prop} : brB false A B = B := if_neg Bool.false_ne_true
theorem brB_i {b : Bool} {A B : Prop} (x : b = true → A) (y : b = false → B) : brB b A B := by
  cases b with
  | true => rw [brB_t]; exact x rfl
  | false => rw [brB_f]; exact y rfl
theorem sIf_i {c : TTD} {t u : TSD} {k : KD} {sd : Sg} {h : DH} (q : ∀ A B : DH → Prop, (∀ h, t k sd h → A h) → (∀ h, u k sd h → B h) → c sd h (fun b h' => brB b (A h') (B h')) (k.E sd)) : sIf c t u k sd h := q (t k sd) (u k sd) (fun _ x => x) fun _ x => x
theorem sFor_i {ti : TID} {g : TGD} {tb : TSD} {k : KD} {sd : Sg} {h : DH} (q : ∀ L : List D → (DH → Prop) → DH → Prop, (∀ items keep h, forL keep g tb k items sd h → L items keep h) → ti sd h L (k.E sd)) : sFor ti g tb k sd h := q _ fun _ _ _ x => x
/-! ## == of ints, truths -/
section
variable {h : DH} {Q : VD}
theorem eqv_int (a b : Int) : PyData.eqv (.int a) (.int b) = (a == b) := by
  unfold PyData.eqv; first | rfl | simp
theorem eqv_bool (a b : Bool) : PyData.eqv (.bool a) (.bool b) = (a == b) := by
  unfold PyData.eqv; first | rfl | (cases a <;> cases b <;> rfl)
theorem shaped_int (a : Int) : SeqAt.shaped (.int a) = true := by rfl
theorem shaped_bool (a : Bool) : SeqAt.shaped (.bool a) = true := by rfl
theorem dEq_int (a b : Int) : dEq (.int a) (.int b) h Q = Q (.bl (a == b)) h := by
  show (SeqAt.shaped (.int a) = true ∧ SeqAt.shaped (.int b) = true ∧ Q (.bl (PyData.eqv (.int a) (.int b))) h) = _
  rw [eqv_int, shaped_int, shaped_int]; simp
theorem dNe_int (a b : Int) : dNe (.int a) (.int b) h Q = Q (.bl (!(a == b))) h := by
  show (SeqAt.shaped (.int a) = true ∧ SeqAt.shaped (.int b) = true ∧ Q (.bl (!PyData.eqv (.int a) (.int b))) h) = _
  rw [eqv_int, shaped_int, shaped_int]; simp
theorem dEq_bl (a b : Bool) : dEq (.bl a) (.bl b) h Q = Q (.bl (a == b)) h := by
  show (SeqAt.shaped (.bool a) = true ∧ SeqAt.shaped (.bool b) = true ∧ Q (.bl (PyData.eqv (.bool a) (.bool b))) h) = _
  rw [eqv_bool, shaped_bool, shaped_bool]; simp
theorem dNe_bl (a b : Bool) : dNe (.bl a) (.bl b) h Q = Q (.bl (!(a == b))) h := by
  show (SeqAt.shaped (.bool a) = true ∧ SeqAt.shaped (.bool b) = true ∧ Q (.bl (!PyData.eqv (.bool a) (.bool b))) h) = _
  rw [eqv_bool, shaped_bool, shaped_bool]; simp
end
end DL
end

section
set_option maxRecDepth 100000
set_option maxHeartbeats 4000000
namespace DL
open PySem PySem.Spec L2
variable [TB]
/-! ## what is told stands: no ref from the heap's end on -/
section
variable {K : PySem.W.Frag} {mg : Str → Option Value} {G F : Hp} {m : List Addr} {h : DH} {H : Hp}
mutual
theorem Rp.nr : ∀ {v : V} {d : D}, Rp K mg F m v d → nrD m.length d = true
  | _, _, .non => rfl
  | _, _, .bl _ => rfl
  | _, _, .int _ => rfl
  | _, _, .str _ => rfl
  | _, _, .ty _ => rfl
  | _, .tup _, .tup _ p => by simpa only [nrD] using Rps.nr p
  | _, .tupx _, .tupx _ _ _ p => by simpa only [nrD] using Rps.nr p
  | _, .lst _, .lst _ p => by simpa only [nrD] using Rps.nr p
  | _, .scr _, .scr _ p => by simpa only [nrD] using Rps.nr p
  | _, .dic _ _, .dic _ _ p => by simpa only [nrD] using Rps.nr p
  | _, .obj _ _ _, .obj _ _ _ p => by simpa only [nrD] using Rps.nr p
  | _, .ref _, .ref e => by
    simp only [nrD, decide_eq_true_eq]
    exact (List.getElem?_eq_some_iff.mp e).1
  | _, _, .glb _ => rfl
  | _, _, .exc0 _ => rfl
  | _, .lam _ _ _ _ _, .lam _ p => by simpa only [nrD] using Rps.nr p
  | _, .exc _ _ _ _ _ _, .exc1 _ _ _ p => by simpa only [nrD] using Rps.nr p
theorem Rps.nr : ∀ {vs : List V} {ds : List D}, Paired (Rp K mg F m) vs ds → nrDs m.length ds = true
  | _, _, .nil => rfl
  | _, _ :: _, .cons p r => by
    simp only [nrDs, Bool.and_eq_true]
    exact ⟨Rp.nr p, Rps.nr r⟩
end
theorem Ro.nr {a : Addr} {x : Option HO} {o : O} (r : Ro K mg F m a x o) : nrO m.length o = true := by
  cases r with
  | dead => rfl
  | lst p => exact Rps.nr p
  | dk a p => exact Rps.nr p
  | dkl a p => exact Rps.nr p
  | ins a b p => exact Rps.nr p
  | df _ _ _ _ _ _ _ _ p => exact Rps.nr p
  | dn _ _ _ _ _ _ _ _ p => exact Rps.nr p
abbrev WF (h : DH) : Prop := ∀ o ∈ h, nrO h.length o = true
theorem Rel.wf (R : Rel K mg G F m h H) : WF h := fun o ho => by
  obtain ⟨n, hn⟩ := List.getElem?_of_mem ho
  cases e : o with
  | dead => rfl
  | _ =>
    obtain ⟨a, _, _, r⟩ := R.lv n o hn (by rw [e]; exact fun q => nomatch q)
    rw [← e, ← R.ln]
    exact r.nr
end
mutual
theorem nrD_mono {n k : Nat} (hk : n ≤ k) : ∀ {d : D}, nrD n d = true → nrD k d = true
  | .ref j, e => by
    simp only [nrD, decide_eq_true_eq] at e ⊢
    omega
  | .tup xs, e => nrDs_mono (ds := xs) hk e
  | .tupx xs, e => nrDs_mono (ds := xs) hk e
  | .lst xs, e => nrDs_mono (ds := xs) hk e
  | .scr xs, e => nrDs_mono (ds := xs) hk e
  | .dic _ xs, e => nrDs_mono (ds := xs) hk e
  | .obj _ _ xs, e => nrDs_mono (ds := xs) hk e
  | .exc _ _ _ _ _ xs, e => nrDs_mono (ds := xs) hk e
  | .lam _ _ _ _ xs, e => nrDs_mono (ds := xs) hk e
  | .non, _ => rfl
  | .bl _, _ => rfl
  | .int _, _ => rfl
  | .str _, _ => rfl
  | .ty _, _ => rfl
  | .glb _, _ => rfl
theorem nrDs_mono {n k : Nat} (hk : n ≤ k) : ∀ {ds : List D}, nrDs n ds = true → nrDs k ds = true
  | [], _ => rfl
  | x :: r, e => by
    simp only [nrDs, Bool.and_eq_true] at e ⊢
    exact ⟨nrD_mono hk e.1, nrDs_mono hk e.2⟩
end
theorem nrO_mono {n k : Nat} (hk : n ≤ k) {o : O} (e : nrO n o = true) : nrO k o = true := by
  cases o <;> first | rfl | exact nrDs_mono hk e
theorem nrDs_iff {n : Nat} : ∀ {ds : List D}, nrDs n ds = true ↔ ∀ d ∈ ds, nrD n d = true
  | [] => by simp [nrDs]
  | x :: r => by simp [nrDs, nrDs_iff (n := n) (ds := r)]
/-- a promise whose entry is known to be whole, and that lets go of what it made -/
def popW (f : SpD) : SpD := fun ds h Q E => nrDs h.length ds = true → WF h → popF f ds h Q E
def popWR (f : SpD) : SpD := fun ds h Q E => nrDs h.length ds = true → WF h → popFR f ds h Q E
section
variable {P : Program} {w : World} {K : PySem.W.Frag} {mg : Str → Option Value} {base : Heap}
theorem fn_wf {f : Addr} {fd : FuncData} {ps : List Str} {k n : Nat} {sp : SpD} (F : FnG P w K mg base (L2N.CX P w) k f fd ps (LSp K mg n sp)) : FnG P w K mg base (L2N.CX P w) k f fd ps (LSp K mg n (fun ds h Q E => nrDs h.length ds = true → WF h → sp ds h Q E)) :=
  F.imp fun vs H Q E ⟨hl, G, F, m, h', ds, QD, ED, R, rp, q, hQ, hE⟩ => ⟨hl, G, F, m, h', ds, _, _, R, rp, q (by rw [← R.ln]; exact Rps.nr rp) R.wf, hQ, hE⟩
theorem Def.popW {base k x ps} {sp : SpD} (c : Def P w K mg base k x ps sp) : Def P w K mg base k x ps (DL.popW sp) := by
  obtain ⟨f, fd, F, a, b, d⟩ := c
  exact ⟨f, fd, fn_wf (fn_pop F), a, b, d⟩
theorem Def.popWR {base k x ps} {sp : SpD} (c : Def P w K mg base k x ps sp) : Def P w K mg base k x ps (DL.popWR sp) := by
  obtain ⟨f, fd, F, a, b, d⟩ := c
  exact ⟨f, fd, fn_wf (fn_popR F), a, b, d⟩
end
end DL
end

section
set_option maxRecDepth 100000
set_option maxHeartbeats 4000000
namespace DL
open PySem PySem.Spec L2
variable [TB]
/-! ## the end's parts -/
section
variable {P : Program} {w : World} {K : PySem.W.Frag} {mg : Str → Option Value} {base : Heap}
/-- a def that promises nothing yet -/
theorem Def.zero {x qual : Str} {st : Stmt} {f : Addr} {fd : FuncData} {ps : List Str} (k : Nat) (F : Fun K x qual st f fd) (hm : mg x = some (.ref f)) (hb : Binds K fd ps []) : Def P w K mg base k x ps (fun _ _ _ _ => False) :=
  ⟨f, fd, ⟨fun _ _ _ _ ⟨h, _⟩ => h, fun _ _ _ _ _ _ _ _ _ _ _ _ _ ⟨_, _, _, _, _, _, _, _, _, _, z, _⟩ => z.elim⟩, hm, F.kp, hb⟩
theorem mem1 {α : Type} {p : α → Prop} {a : α} (h : p a) : ∀ x ∈ [a], p x := fun x hx => by rw [List.mem_singleton.mp hx]; exact h
theorem kit_own {C : Addr} {t : String} {b : Bool} (hm : PySem.W.kitMeta t = true) (h : PySem.W.subIn K (.ref C) (.type t) = some b) : PySem.W.kitOne K (.ref C) (.type t) = some b := by
  unfold PySem.W.kitOne
  have e : (Value.ref C == Value.type t) = false := beq_eq_false_iff_ne.mpr (fun q => by cases q)
  rw [e, if_neg Bool.false_ne_true]
  unfold PySem.W.kitCls
  simp only [hm, if_true]
  exact h
theorem kit_blt {C : Addr} {t : String} {b : Bool} (hc : PySem.W.isClsIn K C = true) (ht : PySem.W.typeIn K (.ref C) = some (.type "type")) (h : PySem.W.subIn K (.type t) (.ref C) = some b) : PySem.W.kitOne K (.type t) (.ref C) = some b := by
  unfold PySem.W.kitOne
  have e : (Value.type t == Value.ref C) = false := beq_eq_false_iff_ne.mpr (fun q => by cases q)
  rw [e, if_neg Bool.false_ne_true]
  unfold PySem.W.kitCls
  have e2 : ((PySem.W.clsIn K C).isSome && PySem.W.typeIn K (.ref C) == some (.type "type")) = true := by
    have h2 : (PySem.W.clsIn K C).isSome = true := hc
    rw [h2, ht]; rfl
  simp only [e2, if_true]
  exact h
theorem kit_self {C : Addr} : PySem.W.kitOne K (.ref C) (.ref C) = some true := by
  unfold PySem.W.kitOne
  rw [if_pos (beq_self_eq_true _)]
theorem ownT1 {c : String} {C : Addr} (gC : mg (Str.ofString c) = some (.ref C)) (cl : Cls K C) (ha : PySem.W.findIn K (.ref C) "__class__" = some (some (.builtin "object.__class__"))) (hm : PySem.W.mroIn K C (.type "object") = some true)
    (hn : PySem.W.specialIn K (.builtin "object.__class__") "__get__" = some (some (.builtin "getset_descriptor.__get__"))) (ht : PySem.W.takesIn K (.builtin "object.__class__") = some true) (hic : PySem.W.isClsIn K C = true) (hty : PySem.W.typeIn K (.ref C) = some (.type "type"))
    (o1 : PySem.W.subIn K (.ref C) (.type "int") = some false) (o2 : PySem.W.subIn K (.ref C) (.type "bool") = some false) (o3 : PySem.W.subIn K (.ref C) (.type "tuple") = some false) (o4 : PySem.W.subIn K (.ref C) (.type "list") = some false) (o5 : PySem.W.subIn K (.ref C) (.type "str") = some false) (o6 : PySem.W.subIn K (.ref C) (.type "dict") = some false)
    (b0 : PySem.W.subIn K (.type "NoneType") (.ref C) = some false) (b1 : PySem.W.subIn K (.type "int") (.ref C) = some false) (b2 : PySem.W.subIn K (.type "bool") (.ref C) = some false) (b3 : PySem.W.subIn K (.type "tuple") (.ref C) = some false) (b4 : PySem.W.subIn K (.type "list") (.ref C) = some false) (b5 : PySem.W.subIn K (.type "str") (.ref C) = some false) (b6 : PySem.W.subIn K (.type "dict") (.ref C) = some false) : OwnT K mg [c] := by
  have un : ∀ c' ∈ [c], ∀ C', mg (Str.ofString c') = some (.ref C') → c' = c ∧ C' = C := fun c' hc C' h => by
    obtain rfl := List.mem_singleton.mp hc
    rw [gC] at h
    cases h
    exact ⟨rfl, rfl⟩
  refine ⟨fun c' hc C' h => ?_, fun c' hc C' h => ?_, fun c' hc C' h => ?_, hn, ht, fun c' hc C' h n hn => ?_, fun c' hc C' h n hn => ?_, fun c' hc C' h c'' hc' C'' h' => ?_, mem1 ⟨C, gC⟩⟩
  · rw [(un c' hc C' h).2]; exact cl
  · rw [(un c' hc C' h).2]; exact ha
  · rw [(un c' hc C' h).2]; exact hm
  · rw [(un c' hc C' h).2]
    simp only [tyNs, List.mem_cons, List.not_mem_nil, or_false] at hn
    rcases hn with rfl | rfl | rfl | rfl | rfl | rfl <;> exact kit_own (by decide +kernel) (by assumption)
  · rw [(un c' hc C' h).2]
    simp only [tyNs, List.mem_cons, List.not_mem_nil, or_false] at hn
    rcases hn with rfl | rfl | rfl | rfl | rfl | rfl | rfl <;> exact kit_blt hic hty (by assumption)
  · rw [(un c' hc C' h).2, (un c'' hc' C'' h').2, (un c' hc C' h).1, (un c'' hc' C'' h').1, kit_self]
    simp
theorem fldT {c f : String} {C : Addr} (gC : mg (Str.ofString c) = some (.ref C)) (cl : Cls K C) (no : NoAttr K C (Str.ofString f)) : FldT K mg c f := by
  refine ⟨fun C' h => ?_, fun C' h => ?_⟩ <;> (rw [gC] at h; cases h; assumption)
/-- the law's own promise, with no small heap in sight -/
def noT (H : Hp) : Hp := fun b => match H b with
  | some (.tbl _) => none
  | x => x
theorem noT_of {H : Hp} {b : Addr} {o : HO} (h : H b = some o) (n : ∀ ps, o ≠ .tbl ps) : noT H b = some o := by
  unfold noT
  rw [h]
  cases o <;> first | rfl | exact absurd rfl (n _)
theorem noT_sub {H : Hp} {b : Addr} {o : HO} (h : noT H b = some o) : H b = some o := by
  unfold noT at h
  split at h
  · cases h
  · exact h
theorem noT_nt {H : Hp} {b : Addr} {ps : Array Value} : noT H b ≠ some (.tbl ps) := fun h => by
  have e := noT_sub h
  unfold noT at h
  rw [e] at h
  cases h
theorem noT_seq {K : PySem.W.Frag} {H : Hp} {a : Addr} {xs : List V} (h : SqL K H a xs) : SqL K (noT H) a xs := by
  rcases h with (h | ⟨o, h⟩) | h
  · exact .inl (.inl (noT_of h (fun _ q => nomatch q)))
  · exact .inl (.inr ⟨o, noT_of h (fun _ q => nomatch q)⟩)
  · exact .inr h
/-- the tables stand empty -/
def TbS (K : PySem.W.Frag) (H : Hp) : Prop := ∀ x ∈ TB.T, ∀ c P, PySem.W.tabIn K x = some (c, P) → H P = some (.tbl #[])
def spLaw (K : PySem.W.Frag) : Sp := fun vs H Q _ => ∃ (a : Addr) (ns : List Int), vs = [.ref a] ∧ SqL K H a (ns.map V.int) ∧ ns.length ≤ 63 ∧ TbS K H ∧ ∀ H', Q (.bl true) H'
def spLawD : SpD := fun ds h Q _ => ∃ ns : List Int, ds = [.scr (ns.map .int)] ∧ ns.length ≤ 63 ∧ h = [] ∧ ∀ h', Q (.bl true) h'
theorem law_end {f : Addr} {fd : FuncData} {ps : List Str} {k : Nat} {sp : SpD} (F : FnG P w K mg base (L2N.CX P w) k f fd ps (LSp K mg 1 sp)) (h : ∀ ds h Q E, spLawD ds h Q E → sp ds h Q E) : FnG P w K mg base (L2N.CX P w) k f fd ps (spLaw K) := by
  refine F.imp fun vs H Q E ⟨a, ns, e, hs, hl, ht, q⟩ => ?_
  subst e
  refine ⟨rfl, fun _ => none, noT H, [], [], [.scr (ns.map .int)], fun d _ => d = .bl true, fun _ _ _ _ => False, ?_, .cons (.scr (noT_seq hs) (Rps.of_ints ns)) .nil, h _ _ _ _ ⟨ns, rfl, hl, rfl, fun _ => rfl⟩, ?_, ?_⟩
  · exact ⟨(fun _ _ e => by cases e), (fun _ _ e => by cases e), (fun _ _ e => by cases e), (fun _ _ _ e => by cases e), (fun _ _ e => noT_sub e), rfl, (fun _ _ e => by cases e), (fun _ _ _ _ _ e => by cases e), ⟨fun _ _ => noT_nt, fun x hx c P e => LamX.TabS.nil (ht x hx c P e)⟩⟩
  · rintro v H' ⟨F', m', h', d, _, _, r, rfl⟩
    cases r
    exact q H'
  · rintro cls dx H' ⟨_, _, _, _, _, _, _, _, _, z⟩
    exact z.elim
end
theorem walkD {l : PySem.W.OpenLaw} {k : Nat} {q : Program} {loose : List Str} {XP : (Str → Option Value) → Heap → Prop} {YP : World → Heap → Prop} {d : DefRec} {K : Params → PySem.W.Frag} (hn : l.most = some 63) (hdf : d.params.defaults = []) (hr : Room k callerA) (hni : PyProof.Rows.importsNone q = true) (hT : TB.T = [])
    (hY : ∀ (w : World) (h : Heap), YP w h → (K w.params).In h)
    (F : ∀ (w : World) (mg : Str → Option Value) (fa : Addr) (h : Heap), (K w.params).In h → h.Ns mainGlobals mg → mg d.name = some (.ref fa) →
      ∃ fd : FuncData, (∀ (s : Shared) (u : Value), BindsTo s fd ⟨[u], []⟩ [("script", u)]) ∧ ∀ base : Heap, (K w.params).In base → base.Ns mainGlobals mg → (∃ mm, base.Ns sysModules mm) → FnG l.prog w (K w.params) mg base (L2N.CX l.prog w) k fa fd ["script"] (spLaw (K w.params))) :
    PySem.W.WalkO q loose XP YP l.row.toRowW d [] (fun f vs => PySem.call f vs) :=
  walkG_of (n := 63) (k := k) (x := "script") (CX := fun w => L2N.CX l.prog w) (sp := fun w => spLaw (K w.params)) hn (by decide) hdf hr hni hY F (fun _ _ a ns hl _ hS => ⟨a, ns, rfl, hS, hl, (fun x hx => by rw [hT] at hx; cases hx), fun _ => rfl⟩) fun _ _ _ _ _ z => by
    obtain ⟨_, _, _, _, _, _, _, _, _, _, _, _, z⟩ := z
    exact z
end DL
end

section
set_option maxRecDepth 100000
set_option maxHeartbeats 4000000
/-! slices backward -/
namespace HT
open PySem PySem.Spec PyProof.Rows
section
variable {prog : Program} {w : World} {A : Around} {E : Value → Shared → Prop} {s : Shared}
end
end HT
namespace DL
open PySem PySem.Spec L2 PyProof.Rows HT
variable [TB]
section
variable {X : Cx}
def rBk (K : PySem.W.Frag) : V → Hp → VK → Prop := fun x H Q => ∃ a xs, x = .ref a ∧ ((SqL K H a xs ∧ ∀ p, H p = none → Q (.ref p) (upd H p (.lst xs.reverse))) ∨ (SqT K H a xs ∧ ∀ p, H p = none → Q (.ref p) (upd H p (.tup xs.reverse))))
variable {e st : Expr} {te : TE} {p2 pos : Pos}
end
/-- e[::-1]: its list is never changed; or changed later -/
def eRev (t : TED) : TED := fun sd h Q E => t sd h (fun x h1 => match x with
  | .tup xs => Q (.tup xs.reverse) h1
  | x => match listOf x h1 with
    | some xs => Q (.lst xs.reverse) h1
    | none => False) E
def eRevR (t : TED) : TED := fun sd h Q E => t sd h (fun x h1 => match listOf x h1 with
    | some xs => Q (.ref h1.length) (h1 ++ [.lst xs.reverse])
    | none => False) E
section
variable {X : Cx} {W : WX} {e : Expr} {te : TED} {pos p2 p3 p4 : Pos} {k : Nat}
end
theorem takes0 {X : Cx} : L2N.Takes X W0 := fun u s' ⟨_, _, _, _, _, _, _, _, _, _, _, _, _, _, _, _, w⟩ => w.elim
section
variable {K : PySem.W.Frag}
theorem kit_two {C D : Addr} {b b' : Bool} (hc : PySem.W.isClsIn K C = true) (ht : PySem.W.typeIn K (.ref C) = some (.type "type")) (h : PySem.W.subIn K (.ref D) (.ref C) = some b) (e : b = b') (hs : D = C → b = true := by intro _; first | rfl | assumption) : PySem.W.kitOne K (.ref D) (.ref C) = some b' := by
  subst e
  unfold PySem.W.kitOne
  split
  · rename_i q
    have q : D = C := Value.ref.inj (beq_iff_eq.mp q)
    rw [hs q]
  · unfold PySem.W.kitCls
    have e2 : ((PySem.W.clsIn K C).isSome && PySem.W.typeIn K (.ref C) == some (.type "type")) = true := by
      have h2 : (PySem.W.clsIn K C).isSome = true := hc
      rw [h2, ht]; rfl
    simp only [e2, if_true]
    exact h
end
end DL
end

section
set_option maxRecDepth 100000
set_option maxHeartbeats 4000000
namespace DL
open PySem PySem.Spec L2 PyProof.Rows
variable [TB]
/-! ## {}: a dict that is never changed; that is changed later, of ints and texts, of tuples -/
def eDicV : TED := fun _ h Q _ => Q (.dic [] []) h
def eDicR : TED := fun _ h Q _ => Q (.ref h.length) (h ++ [.dk [] []])
section
variable {X : Cx} {W : WX} {pos : Pos}
end
/-! ## {k: x}, k written, x a name: never changed -/
def eDic1 (k : Key) (i : Nat) : TED := fun sd h Q _ => match sd[i]? with
  | some (some d) => Q (.dic [k] [d]) h
  | _ => False
def eDicC (k : Key) (d : D) : TED := fun _ h Q _ => Q (.dic [k] [d]) h
section
variable {X : Cx} {W : WX} {pos p2 : Pos} {ke ve : Expr}
end
/-! ## d.get(k, x) -/
def eGet2 (to ti tx : TED) : TED := fun sd h Q E => to sd h (fun o h1 => (dkOf o h1).isSome = true ∧ ti sd h1 (fun i h2 => tx sd h2 (fun x h3 => match dkOf o h3, toKey i with
  | some (ks, xs), some k => Q ((dget ks xs k).getD x) h3
  | _, _ => False) E) E) E
section
variable {X : Cx} {W : WX} {o e f : Expr} {to te tf : TED} {apos cpos : Pos}
end
/-! ## a def as a value; the call of a name that holds one of several defs -/
def eCallV (specs : List (String × SpD)) (i : Nat) (t : TAD) : TED := fun sd h Q E => match sd[i]? with
  | some (some (.glb x)) => match specs.lookup x with
    | some sp => t sd h (fun ds h1 => sp ds h1 Q E) E
    | none => False
  | _ => False
section
variable {X : Cx} {W : WX} {k j i : Nat} {x : Str} {p pos : Pos} {e : Expr} {es : List Expr} {t : TAD}
/-- what is known of the defs that may be called so -/
def Defs (P : Program) (w : World) (K : PySem.W.Frag) (mg : Str → Option Value) (base : Heap) (k n : Nat) (specs : List (String × SpD)) : Prop :=
  ∀ c sp, specs.lookup c = some sp → ∃ j ps, j ≤ k ∧ ps.length = n ∧ Def P w K mg base j (Str.ofString c) ps sp
end
/-! ## repr -/
mutual
def pyX : D → Option PyData
  | .non => some .none
  | .bl b => some (.bool b)
  | .int i => some (.int i)
  | .str x => some (.str x)
  | .tup xs => (pyXs xs).map .tuple
  | .lst xs => (pyXs xs).map .list
  | .dic [] [] => some (.dict [])
  | .dic [.inl i] [x] => (pyX x).map fun p => .dict [(.int i, p)]
  | _ => none
def pyXs : List D → Option (List PyData)
  | [] => some []
  | x :: r => (pyX x).bind fun a => (pyXs r).map fun b => a :: b
end
def pyXT (h : DH) (d : D) : Option PyData := match d with
  | .ref n => match h[n]? with
    | some (.lst xs) => (pyXs xs).map .list
    | _ => none
  | d => pyX d
def fRepr : FC := fun ds h Q => match ds with
  | [x] => match pyXT h x with
    | some p => p.showable = true ∧ p.depth ≤ 64 ∧ p.shown.length ≤ sizeLine ∧ Q (.str p.shown) h
    | none => False
  | _ => False
/-- what the heap behind the text's top says of the modules' dict -/
def SysB (base : Heap) : Prop := ∃ mm, base.Ns sysModules mm
section
variable {X : Cx} {pins : List (Addr × Obj)} {σ : L2.St} {s : Shared} {F : Hp} {m : List Addr} {H : Hp}
theorem list_ne_sys (hs : SysB X.base) (I : Inv X pins σ H s) {a : Addr} {o : Obj} {vs : Array Value} {n : Nat} (e : s.heap.get? a = some o) (d : o.data = .seq vs n) : a ≠ sysModules := by
  rintro rfl
  obtain ⟨mm, ob, es, ep, e1, e2, _⟩ := hs
  have e3 := (I.env0.bs _ _ e1).1
  rw [e] at e3
  cases e3
  rw [d] at e2
  cases e2
mutual
theorem Rp.reads (hs : SysB X.base) (I : Inv X pins σ H s) (sf : Same F H) : ∀ {v : V} {d : D} {p : PyData} {u : Value}, Rp X.K X.mg F m v d → pyX d = some p → RelV v u → ∃ as, Reads s.heap u p as ∧ sysModules ∉ as
  | _, _, p, u, .non, e, r => by cases e; cases r; exact ⟨_, Reads.none, by simp⟩
  | _, _, p, u, .bl b, e, r => by cases e; cases r; exact ⟨_, Reads.bool b, by simp⟩
  | _, _, p, u, .int i, e, r => by cases e; obtain ⟨t, rfl⟩ := r; exact ⟨_, Reads.int i t, by simp⟩
  | _, _, p, u, .str x, e, r => by cases e; obtain ⟨t, rfl⟩ := r; exact ⟨_, Reads.str x t, by simp⟩
  | _, _, p, u, .tup (ds := ds) st pp, e, r => by
    rw [pyX] at e
    obtain ⟨ps, e1, rfl⟩ := Option.map_eq_some_iff.mp e
    cases r
    obtain ⟨its, rv, ⟨o, ho, hc, n, hd⟩, _⟩ := I.tuple (sqT_mono sf st)
    obtain ⟨as, hr, hn⟩ := Rps.reads hs I sf pp e1 rv
    exact ⟨_, Reads.tuple ho hc hd hr, hn⟩
  | _, _, p, u, .lst (ds := ds) st pp, e, r => by
    rw [pyX] at e
    obtain ⟨ps, e1, rfl⟩ := Option.map_eq_some_iff.mp e
    cases r
    obtain ⟨its, rv, ⟨o, n, ho, hc, _, hd⟩, _⟩ := I.list (.inl (.inl (sf _ _ st)))
    obtain ⟨as, hr, hn⟩ := Rps.reads hs I sf pp e1 rv
    refine ⟨_, Reads.list ho hc hd hr, ?_⟩
    rw [List.mem_cons]
    rintro (z | z)
    · exact list_ne_sys hs I ho hd z.symm
    · exact hn z
  | _, _, p, u, .dic (ks := ks) (vs := vs) (ds := ds) el st pp, e, r => by
    cases ks with
    | nil =>
      cases ds with
      | nil =>
        rw [pyX] at e
        cases e
        cases r
        obtain ⟨_, hne, ws, kv, o, es, ep, ho, hx, hd, _, pr, _⟩ := dk_of I.hok (sf _ _ st)
        cases vs with
        | cons _ _ => cases el
        | nil =>
          cases kv
          have hes : es.toList = [] := by
            generalize es.toList = l at pr
            cases pr
            rfl
          exact ⟨_, Reads.dict (kvs := []) ho hx.1 hd (by rw [hes]; exact .nil) (by rw [hes]; exact .nil), by
            simp only [List.append_nil, List.mem_cons, List.not_mem_nil, or_false]
            intro z
            rw [← z] at hne
            simp at hne⟩
      | cons _ _ => cases e
    | cons k ks =>
      cases k with
      | inr _ => cases e
      | inl i =>
        cases ks with
        | cons _ _ => cases e
        | nil =>
          match ds, pp, e with
          | [], _, e => cases e
          | _ :: _ :: _, _, e => cases e
          | [x], .cons (b := _) (l₁ := _) p1 .nil, e =>
            rw [pyX] at e
            obtain ⟨px, e1, rfl⟩ := Option.map_eq_some_iff.mp e
            cases r
            obtain ⟨_, hne, ws, kv, o, es, ep, ho, hx, hd, _, pr, _⟩ := dk_of I.hok (sf _ _ st)
            match ws, kv, pr with
            | [(wk, wu)], .cons ⟨k1, k2⟩ .nil, pr =>
              subst k1
              have hes : ∃ e0 : DictEntry, es.toList = [e0] ∧ (∃ t, e0.key = .int i t) ∧ e0.val = wu := by
                generalize es.toList = l at pr
                cases pr with
                | cons c1 c2 c3 =>
                  cases c3
                  refine ⟨_, rfl, ?_, c2⟩
                  have c1 : keyIs (.inl i) _ = true := c1
                  rcases keyIs_shape c1 with ⟨j, t, ek, ev⟩ | ⟨y, t, ek, _⟩
                  · cases ek
                    exact ⟨t, ev⟩
                  · cases ek
              obtain ⟨e0, he, ⟨t, hk⟩, hv⟩ := hes
              obtain ⟨as, hr, hn⟩ := Rp.reads hs I sf p1 e1 k2
              refine ⟨_, Reads.dict (kvs := [(.int i, px)]) ho hx.1 hd (by rw [he]; refine .cons (?_ : Reads s.heap e0.key (.int i) []) .nil; rw [hk]; exact .int i t) (by rw [he]; refine .cons (?_ : Reads s.heap e0.val px as) .nil; rw [hv]; exact hr), ?_⟩
              simp only [List.append_nil, List.nil_append, List.cons_append, List.mem_cons, not_or]
              refine ⟨fun z => ?_, hn⟩
              rw [← z] at hne
              simp at hne
  | _, _, p, u, .scr st pp, e, r => by cases e
  | _, _, p, u, .tupx s1 s2 s3 s4, e, r => by cases e
  | _, _, p, u, .ty n, e, r => by cases e
  | _, _, p, u, .obj a b c d, e, r => by cases e
  | _, _, p, u, .ref z, e, r => by cases e
  | _, _, p, u, .glb z, e, r => by cases e
  | _, _, p, u, .exc0 z, e, r => by cases e
  | _, _, p, u, .lam z w, e, r => by cases e
  | _, _, p, u, .exc1 a b c d, e, r => by cases e
theorem Rps.reads (hs : SysB X.base) (I : Inv X pins σ H s) (sf : Same F H) : ∀ {vs : List V} {ds : List D} {ps : List PyData} {us : List Value}, Paired (Rp X.K X.mg F m) vs ds → pyXs ds = some ps → Vals vs us → ∃ as, ReadsAll s.heap us ps as ∧ sysModules ∉ as
  | _, _, ps, us, .nil, e, r => by cases e; cases r; exact ⟨_, .nil, by simp⟩
  | _, _, ps, us, .cons p q, e, r => by
    rw [pyXs] at e
    obtain ⟨a, e1, e2⟩ := Option.bind_eq_some_iff.mp e
    obtain ⟨b, e3, rfl⟩ := Option.map_eq_some_iff.mp e2
    cases r with
    | cons r1 r2 =>
      obtain ⟨as, h1, n1⟩ := Rp.reads hs I sf p e1 r1
      obtain ⟨bs, h2, n2⟩ := Rps.reads hs I sf q e3 r2
      exact ⟨_, .cons h1 h2, by rw [List.mem_append]; rintro (z | z); exact n1 z; exact n2 z⟩
end
theorem Rel.reads {G : Hp} {h : DH} (hs : SysB X.base) (I : Inv X pins σ H s) (R : Rel X.K X.mg G F m h H) {v : V} {d : D} {p : PyData} {u : Value} (r : Rp X.K X.mg F m v d) (e : pyXT h d = some p) (rv : RelV v u) : ∃ as, Reads s.heap u p as ∧ sysModules ∉ as := by
  cases d with
  | ref n0 =>
    cases r with
    | ref hn =>
      simp only [pyXT] at e
      split at e
      · rename_i n xs q
        obtain ⟨ps, e1, rfl⟩ := Option.map_eq_some_iff.mp e
        obtain ⟨a', vs, f1, _, f3, pp⟩ := R.lst q
        rw [hn] at f1
        cases f1
        cases rv
        obtain ⟨its, rv, ⟨o, n, ho, hc, _, hd⟩, _⟩ := I.list (.inl (.inl f3))
        obtain ⟨as, hr, hno⟩ := Rps.reads hs I R.sf pp e1 rv
        refine ⟨_, Reads.list ho hc hd hr, ?_⟩
        rw [List.mem_cons]
        rintro (z | z)
        · exact list_ne_sys hs I ho hd z.symm
        · exact hno z
      · cases e
  | _ => exact Rp.reads hs I R.sf r e rv
end
section
variable {X : Cx}
end
end DL
end

section
set_option maxRecDepth 100000
set_option maxHeartbeats 4000000
namespace DL
open PySem PySem.Spec L2 PyProof.Rows
variable [TB]
/-! ## == of two texts, whatever their signs -/
def dEqS : F2 := fun x y h Q => match x, y with
  | .str a, .str b => Q (.bl (a == b)) h
  | _, _ => False
def dNeS : F2 := fun x y h Q => match x, y with
  | .str a, .str b => Q (.bl (!(a == b))) h
  | _, _ => False
section
variable {X : Cx}
theorem do_eqS : OpDD X (compareOp .Eq) dEqS := .of _ op_eq fun G F m h H x y d e QD Q R rx ry q hQ => by
  unfold dEqS at q
  split at q
  · cases rx; cases ry
    exact ⟨rfl, hQ _ _ ⟨F, m, h, _, WLe.refl, R, .bl _, by rw [dec_str]; exact q⟩⟩
  · exact q.elim
theorem do_neS : OpDD X (compareOp .NotEq) dNeS := .of _ op_ne fun G F m h H x y d e QD Q R rx ry q hQ => by
  unfold dNeS at q
  split at q
  · cases rx; cases ry
    exact ⟨rfl, hQ _ _ ⟨F, m, h, _, WLe.refl, R, .bl _, by rw [dec_str]; exact q⟩⟩
  · exact q.elim
end
/-! ## one part after the other: what follows is hidden behind a name -/
section
variable {t u : TED} {ts us : TAD} {sd : Sg} {h : DH} {Q : VD} {QL : LD} {E : ED} {k : KD} {f : F2}
end
end DL
end

section
set_option maxRecDepth 100000
set_option maxHeartbeats 4000000
namespace HT
open PySem PySem.Spec PyProof.Rows
end HT
namespace DL
open PySem PySem.Spec L2 PyProof.Rows HT
variable [TB]
section
variable {X : Cx}
/-! ## xs[:0:-1] of a list -/
def rBk0 (K : PySem.W.Frag) : V → Hp → VK → Prop := fun x H Q => ∃ a xs, x = .ref a ∧ SqL K H a xs ∧ ∀ p, H p = none → Q (.ref p) (upd H p (.lst (xs.drop 1).reverse))
variable {e st hi : Expr} {te : TE} {p2 pos : Pos}
end
/-- e[:0:-1] of a list: never changed -/
def eRevT (t : TED) : TED := fun sd h Q E => t sd h (fun x h1 => match listOf x h1 with
    | some xs => Q (.lst (xs.drop 1).reverse) h1
    | none => False) E
section
variable {X : Cx} {W : WX} {e : Expr} {te : TED} {pos p2 p3 p4 p5 : Pos} {k k2 : Nat}
end
/-! ## {x: c}, x a name, c written: never changed -/
def eDicN (i : Nat) (d : D) : TED := fun sd h Q _ => match sd[i]? with
  | some (some x) => (match toKey x with
    | some k => Q (.dic [k] [d]) h
    | none => False)
  | _ => False
section
variable {X : Cx} {W : WX} {pos p2 : Pos} {ke ve : Expr}
theorem Rp.toKey {K mg} {F : Hp} {m : List Addr} {v : V} {d : D} {k : Key} (r : Rp K mg F m v d) (e : DL.toKey d = some k) : v = kV k := by
  cases r <;> first | (cases e; rfl) | exact nomatch e
end
/-! ## a list of lists of the small heap, never changed from now on -/
def frzAll : List D → DH → Option (List D × DH)
  | [], h => some ([], h)
  | d :: r, h => match d with
    | .ref k => (match h[k]? with
      | some (.lst xs) => (frzAll r (h.set k .dead)).map fun p => (.lst xs :: p.1, p.2)
      | _ => none)
    | d => (frzAll r h).map fun p => (d :: p.1, p.2)
def eFrzD (t : TED) : TED := fun sd h Q E => t sd h (fun d h1 => match d with
  | .ref n => (match h1[n]? with
    | some (.lst xs) => (match frzAll xs (h1.set n .dead) with
      | some p => Q (.lst p.1) p.2
      | none => False)
    | _ => False)
  | _ => False) E
/-- a + b: a new list of the small heap -/
def dAddR : F2 := fun x y h Q => match lstOf x h, lstOf y h with
  | some xs, some ys => xs.length + ys.length ≤ sizeLine ∧ Q (.ref h.length) (h ++ [.lst (xs ++ ys)])
  | _, _ => False
section
variable {K : PySem.W.Frag} {mg : Str → Option Value} {G : Hp}
theorem Rel.frzAll : ∀ {xs : List D} {vs : List V} {F : Hp} {m : List Addr} {h : DH} {H : Hp} {p : List D × DH}, Rel K mg G F m h H → Rps K mg F m vs xs → DL.frzAll xs h = some p →
    ∃ F', WLe F m F' m ∧ Rel K mg G F' m p.2 H ∧ Rps K mg F' m vs p.1
  | [], _, F, m, h, H, p, R, .nil, e => by
    cases e
    exact ⟨F, WLe.refl, R, .nil⟩
  | d :: r, _, F, m, h, H, p, R, .cons (a := v) (l₁ := vs) rv rs, e => by
    have plain : ∀ {q : List D × DH}, DL.frzAll r h = some q → ∃ F', WLe F m F' m ∧ Rel K mg G F' m q.2 H ∧ Rps K mg F' m (v :: vs) (d :: q.1) := fun e => by
      obtain ⟨F', le, R', rs'⟩ := Rel.frzAll R rs e
      exact ⟨F', le, R', .cons (rv.mono le) rs'⟩
    have fin : (DL.frzAll r h).map (fun p => (d :: p.1, p.2)) = some p → ∃ F', WLe F m F' m ∧ Rel K mg G F' m p.2 H ∧ Rps K mg F' m (v :: vs) p.1 := fun e => by
      obtain ⟨q, e1, rfl⟩ := Option.map_eq_some_iff.mp e
      exact plain e1
    cases d with
    | ref k =>
      simp only [DL.frzAll] at e
      split at e
      · rename_i xs hk
        obtain ⟨q, e1, rfl⟩ := Option.map_eq_some_iff.mp e
        obtain ⟨a, ws, ha, _, le, R', rq⟩ := R.freeze hk
        obtain ⟨F', le', R2, rs'⟩ := Rel.frzAll R' (Rps.mono le rs) e1
        cases rv with
        | ref hm =>
          rw [ha] at hm; cases hm
          exact ⟨F', le.trans le', R2, .cons (rq.mono le') rs'⟩
      · cases e
    | _ => exact fin e
end
section
variable {X : Cx} {W : WX} {e : Expr} {te : TED}
end
end DL
end

section
set_option maxRecDepth 100000
set_option maxHeartbeats 4000000
/-! sorted(a tuple of ints) -/
namespace HT
open PySem PySem.Spec PyProof.Rows Srt SrtO
section
variable {prog : Program} {w : World} {A : Around} {E : Value → Shared → Prop} {s : Shared}
end
end HT
namespace DL
open PySem PySem.Spec L2 PyProof.Rows HT
variable [TB]
/-- sorted(xs), xs a tuple of ints -/
def rSortedIT (K : PySem.W.Frag) : List V → Hp → VK → Prop := fun vs H Q => ∃ (a : Addr) (ns : List Int), vs = [V.ref a] ∧ SqT K H a (ns.map V.int) ∧
  ∀ (ns' : List Int) (p : Addr), ns'.Perm ns → ns'.Pairwise (· ≤ ·) → H p = none → Q (.ref p) (upd H p (.lst (ns'.map V.int)))
def fSortedT : FC := fun ds h Q => match ds with
  | [.tup xs] => (match intsOf xs with
    | some ns => Q (.lst ((sortI ns).map .int)) h
    | none => False)
  | _ => False
section
variable {X : Cx}
end
end DL
end

section
set_option maxRecDepth 100000
set_option maxHeartbeats 4000000
/-! a call with no arguments -/
namespace DL
open PySem PySem.Spec L2
variable [TB]
section
variable {X : Cx} {CX : CXT} {k : Nat} {f : Addr} {fd : FuncData} {ps : List Str} {sp : Sp} {E : L2.St → XK} {x : Str} {p pos : Pos}
end
section
variable {X : Cx} {W : WX} {j k : Nat} {ps : List Str} {sp : SpD} {x : Str} {p pos : Pos}
end
end DL
end

section
set_option maxRecDepth 100000
set_option maxHeartbeats 4000000
/-! o[i] as a target among others; sorted(a list of data) as some order of it -/
namespace DL
open PySem PySem.Spec L2 PyProof.Rows
variable [TB]
def gS (to ti : TED) : TGD := fun v sd h Q => to sd h (fun o h1 => ti sd h1 (fun i h2 => match o with
  | .ref n => (match i with
    | .int j => (match h2[n]? with
      | some (.lst xs) => (match ixN xs.length j with
        | some z => Q sd (h2.set n (.lst (xs.set z v)))
        | none => False)
      | _ => False)
    | _ => False)
  | _ => False) EF) EF
section
variable {X : Cx} {W : WX} {vs : List Nat} {o i : Expr} {to ti : TED} {pos : Pos}
end
def rSortedX (K : PySem.W.Frag) : List V → Hp → VK → Prop := fun vs H Q => ∃ (a : Addr) (xs : List V) (ds : List PyData), vs = [V.ref a] ∧ SqL K H a xs ∧ DpAll K H xs ds ∧ PySem.W.AllAlike ds ∧ PySem.W.Sortable ds ∧ (∀ d ∈ ds, d.depth ≤ 30) ∧
  ∀ (ys : List V) (p : Addr), ys.Perm xs → H p = none → Q (.ref p) (upd H p (.lst ys))
/-- sorted(xs), xs a list of data that are alike: the same in some order -/
def fSortedX : FC := fun ds h Q => match ds with
  | [x] => (match lstOf x h with
    | some xs => (match pysOf xs with
      | some ps => PySem.W.AllAlike ps ∧ PySem.W.Sortable ps ∧ (∀ d ∈ ps, d.depth ≤ 30) ∧ ∀ ys : List D, ys.Perm xs → Q (.lst ys) h
      | none => False)
    | none => False)
  | _ => False
section
variable {X : Cx}
end
end DL
end

section
set_option maxRecDepth 100000
set_option maxHeartbeats 4000000
/-! x == b and x != b, x an instance of a class of the text with an own __eq__ and no own __ne__ -/
namespace DL
open PySem PySem.Spec L2 PyProof.Rows
variable [TB]
section
variable {prog : Program} {w : World} {A : Around} {E : Value → Shared → Prop} {s : Shared} {K : PySem.W.Frag} {x C L f : Addr} {h₀ : Heap} {m : Str → Option Value} {ox : Obj} {od : Option Obj} {b tb : Value}
theorem neB {Q : Fin → Shared → Prop} (X : K.In s.heap) (I : PySem.W.InstAt s.heap x ox C od) (hu : A.units < cLine) (hs : PySem.W.findIn K (.ref C) "__eq__" = some (some (.ref f))) (hf : PySem.W.isFn K (.ref f) = true)
    (h : wpAny (model prog w) A (call (.ref f) [.ref x, b]) (fun v s' => ∃ z, v = .bool z ∧ Q (.done (.ret (.bool (!z)))) s') E s) :
    wpAny (model prog w) A (Builtin.«object.__ne__» ⟨[.ref x, b], []⟩) Q E s := by
  unfold Builtin.«object.__ne__»
  have sp : ∀ {R : Option Value → Shared → Prop}, (∀ z s', Q (.done (.ret (.bool (!z)))) s' → R (some (.bool z)) s') → wpAny (model prog w) A (callSpecialIfBound? (.ref x) "__eq__" [b]) R E s := fun hr =>
    PySem.W.ifBound_K X I hs hf (wpAny_mono h (fun v s' ⟨z, e, q⟩ => by subst e; exact hr z s' q) fun _ _ e => e)
  repeat (first | with_reducible refine wpAny_cRoomFor hu ?_ | with_reducible refine sp fun z s' hq => ?_ | wp_step)
  exact hq
theorem ne_K {Q : Value → Shared → Prop} (hu : A.units + 1 < cLine) (F : PyProof.Rows.Fr h₀ L s.heap m) (X₀ : K.In h₀) (I : PySem.W.InstAt s.heap x ox C od) (hb : PySem.W.Looks (model prog w) s.heap (typeOf b) tb) (hn : PySem.W.notFirst K C tb = true)
    (hne : PySem.W.findIn K (.ref C) "__ne__" = some (some (.builtin "object.__ne__"))) (hob : PySem.W.subIn K (.ref C) (.type "object") = some true)
    (hs : PySem.W.findIn K (.ref C) "__eq__" = some (some (.ref f))) (hf : PySem.W.isFn K (.ref f) = true)
    (h : wpAny (model prog w) A.in1 (call (.ref f) [.ref x, b]) (fun v s' => ∃ z, v = .bool z ∧ Q (.bool (!z)) s') E s) : wpAny (model prog w) A (richCompare .NotEq (.ref x) b) Q E s := by
  have X := X₀.keeps F.keep
  have S := PySem.F.cmp_object.ne
  have one : wpAny (model prog w) A (tryCompare (.ref x) (cmpInfo .NotEq).2.1 b) (fun r s' => ∃ v, r = some v ∧ Q v s') E s := by
    unfold tryCompare
    have hcall : wpAny (model prog w) A (call (.builtin "object.__ne__") [.ref x, b]) (fun v s' => ∃ z : Bool, v = .bool z ∧ Q v s') E s := by
      refine wpAny_call (codeAny_call_builtin S.plain PySem.F.cmpEntry_ne (PySem.W.check_slot PySem.F.cmpKind_ne PySem.F.cmpSplit_ne (I.type.andThen (PySem.W.looks_subIn X hob)) (PySem.F.cmpArgs_ne _ _) ?_))
      exact neB (A := A.in1) X I hu hs hf (wpAny_mono h (fun v s' ⟨z, e, q⟩ => ⟨z, e, _, rfl, q⟩) fun _ _ e => e)
    refine wpAny_bind ?_
    simp only [callSpecialIfBound?, bindSpecialIfBound?]
    refine wpAny_holding (wpAny_bind (wpAny_bind (wpAny_bind (I.type.here ((PySem.W.looks_findIn X hne).here ?_)))))
    simp only [S.bind]
    refine wpAny_bind (wpAny_askSetting (wpAny_ite ?_))
    have fin : wpAny (model prog w) A (call (.builtin "object.__ne__") ([.ref x] ++ [b]) >>= fun v => pure (some v)) (fun r s' => ∃ z : Bool, r = some (.bool z) ∧ Q (.bool z) s') E s :=
      wpAny_bind (wpAny_mono hcall (fun v s' ⟨z, e, q⟩ => wpAny_pure (by subst e; exact ⟨z, rfl, q⟩)) fun _ _ h' => h')
    have fin2 := wpAny_mono (Q' := fun r s' => wpAny (model prog w) A (match r with | some .notImplemented | none => pure none | some v => pure (some v)) (fun r s' => ∃ v, r = some v ∧ Q v s') E s') fin (fun r s' ⟨z, e, q⟩ => by subst e; exact wpAny_pure ⟨_, rfl, q⟩) fun _ _ h' => h'
    split
    · exact wpAny_bind (wpAny_pure (wpAny_pure (by exact fin2)))
    · exact wpAny_tryCatch (wpAny_bind (wpAny_pure (wpAny_pure (by exact fin2))))
  have hu0 : A.units < cLine := Nat.lt_of_succ_lt hu
  unfold richCompare
  simp only [oneThing_ref]
  refine wpAny_holding (wpAny_bind (wpAny_cRoomFor hu0 ?_))
  refine wpAny_bind (I.type.here (wpAny_bind (hb.here ?_)))
  split
  · rename_i q
    have e : PySem.W.subIn K tb (.ref C) = some false := by
      rcases Bool.or_eq_true_iff.mp hn with e | e
      · rw [beq_iff_eq.mp e] at q; simp at q
      · exact beq_iff_eq.mp e
    refine wpAny_bind ((PySem.W.looks_subIn X e).here ?_)
    simp only [Bool.false_eq_true, if_false]
    refine wpAny_bind (wpAny_mono one (fun r s' z => ?_) fun _ _ e => e)
    obtain ⟨v, rfl, hq⟩ := z
    exact wpAny_pure hq
  · refine wpAny_bind (wpAny_pure ?_)
    simp only [Bool.false_eq_true, if_false]
    refine wpAny_bind (wpAny_mono one (fun r s' z => ?_) fun _ _ e => e)
    obtain ⟨v, rfl, hq⟩ := z
    exact wpAny_pure hq
end
section
variable {X : Cx} {k : Nat} {f C : Addr} {fd : FuncData} {ps : List Str} {sp : Sp}
/-- a call by the object, below the running body -/
theorem run_own {A : Around} (hA : A.frames = X.A.frames) {pins : List (Addr × Obj)} {σ : L2.St} {H : Hp} {s : Shared} {Q : VK} {us : List Value} {vs : List V} (F : FnG X.prog X.w X.K X.mg X.base (L2N.CX X.prog X.w) k f fd ps sp) (hr : RoomG k A) (bb : Binds X.K fd ps [])
    (I : Inv X pins σ H s) (r : Vals vs us) (h : sp vs H Q (fun _ _ _ => False)) : wpAny (model X.prog X.w) A (call (.ref f) us) (EP X pins σ Q) X.xe s := by
  have hl : us.length = ps.length := by rw [← r.length]; exact F.ln _ _ _ _ h
  have b2 := bb s us I.kIn (by rw [List.append_nil]; exact hl)
  rw [List.append_nil] at b2
  have e0 : Env0 X.prog X.w X.K X.mg X.base A X.stack s H := by
    have e := I.env0
    exact ⟨by rw [hA]; exact e.frames, e.mod, e.bs, e.bsz, e.funs, e.frf, e.hok, e.bare⟩
  have hx : Passes (L2N.CX X.prog X.w) X (fun _ _ _ => False) := passLN
  refine wpAny_call (codeAny_mono (F.go A X.stack s H ⟨us, []⟩ us vs Q _ hr e0 b2 r h) ?_)
  intro rr s' hq
  match rr, hq with
  | .error z, hq => exact hx pins σ H s z s' I hq
  | .ok (.ret u), hq => exact I.after hq
  | .ok .next, hq => exact hq.elim
  | .ok .brk, hq => exact hq.elim
  | .ok .cont, hq => exact hq.elim
/-- what the class at C says of == -/
structure EqC (K : PySem.W.Frag) (C f : Addr) : Prop where
  eq : PySem.W.findIn K (.ref C) "__eq__" = some (some (.ref f))
  fn : PySem.W.isFn K (.ref f) = true
  ne : PySem.W.findIn K (.ref C) "__ne__" = some (some (.builtin "object.__ne__"))
  ob : PySem.W.subIn K (.ref C) (.type "object") = some true
def rEqO (K : PySem.W.Frag) (C : Addr) (sp : Sp) (neg : Bool) : R2 := fun x y H Q => ∃ a dx fs tb, x = .ref a ∧ H a = some (.ins C dx fs) ∧ TyX K H y tb ∧ PySem.W.notFirst K C tb = true ∧ sp [x, y] H (fun v H' => ∃ z, v = .bl z ∧ Q (.bl (neg != z)) H') (fun _ _ _ => False)
theorem op_eqO (T : EqC X.K C f) (F : FnG X.prog X.w X.K X.mg X.base (L2N.CX X.prog X.w) k f fd ps sp) (hr : RoomG k X.A) (bb : Binds X.K fd ps []) : OpR X (compareOp .Eq) (rEqO X.K C sp false) := by
  intro pins s σ H x y v u Q I rx ry hq
  obtain ⟨a, dx, fs, tb, rfl, ha, ty, hn, q⟩ := hq
  cases rx
  obtain ⟨mA, J, _⟩ := ins_get I.hok ha
  obtain ⟨od, J, _⟩ := J.look
  obtain ⟨P, kx, hP, _⟩ := kit_of I ry ty
  obtain ⟨m, hF⟩ := I.fr
  show wpAny (model X.prog X.w) X.A (richCompare .Eq (.ref a) u) (EP X pins σ Q) X.xe s
  refine PySem.W.cmp_K (op := .Eq) (tb := tb) (Nat.lt_of_le_of_lt (by omega : X.A.units ≤ X.A.units + 64) hr.units) hF I.ok.mod.kin J (kx.ty _ _ I.kIn hP) hn T.eq T.fn ?_
  refine wpAny_mono (run_own (vs := [.ref a, y]) rfl F hr bb I (.cons rfl (.cons ry .nil)) q) (fun w s' z => ?_) fun _ _ e => e
  obtain ⟨v, H', I', rv, b, rfl, q⟩ := z
  cases rv
  exact ⟨.bl b, H', I', rfl, by simpa using q⟩
theorem op_neO (T : EqC X.K C f) (F : FnG X.prog X.w X.K X.mg X.base (L2N.CX X.prog X.w) k f fd ps sp) (hr : RoomG (k + 1) X.A) (bb : Binds X.K fd ps []) : OpR X (compareOp .NotEq) (rEqO X.K C sp true) := by
  intro pins s σ H x y v u Q I rx ry hq
  obtain ⟨a, dx, fs, tb, rfl, ha, ty, hn, q⟩ := hq
  cases rx
  obtain ⟨mA, J, _⟩ := ins_get I.hok ha
  obtain ⟨od, J, _⟩ := J.look
  obtain ⟨P, kx, hP, _⟩ := kit_of I ry ty
  obtain ⟨m, hF⟩ := I.fr
  show wpAny (model X.prog X.w) X.A (richCompare .NotEq (.ref a) u) (EP X pins σ Q) X.xe s
  refine ne_K (tb := tb) (Nat.lt_of_le_of_lt (by omega : X.A.units + 1 ≤ X.A.units + 64) hr.units) hF I.ok.mod.kin J (kx.ty _ _ I.kIn hP) hn T.ne T.ob T.eq T.fn ?_
  refine wpAny_mono (run_own (vs := [.ref a, y]) (A := X.A.in1) rfl F ⟨hr.r.in1, hr.g⟩ bb I (.cons rfl (.cons ry .nil)) q) (fun w s' z => ?_) fun _ _ e => e
  obtain ⟨v, H', I', rv, b, rfl, q⟩ := z
  cases rv
  exact ⟨b, rfl, .bl (!b), H', I', rfl, by simpa using q⟩
end
/-- == (neg: !=) by the own __eq__ of the class c -/
def dEqO (c : String) (sp : SpD) (neg : Bool) : F2 := fun a b h Q => (∃ ns xs, insOf a h = some (c, ns, xs)) ∧ ((∃ t, tyB b h = some t) ∨ ∃ ns xs, insOf b h = some (c, ns, xs)) ∧ sp [a, b] h (fun d h' => match d with | .bl z => Q (.bl (neg != z)) h' | _ => False) (fun _ _ _ _ => False)
section
variable (P : Program) (w : World) (K : PySem.W.Frag) (mg : Str → Option Value) (base : Heap)
/-- the class c's own __eq__ -/
structure EqM (k : Nat) (c : String) (ps : List Str) (sp : SpD) (f C : Addr) (fd : FuncData) : Prop where
  F : FnG P w K mg base (L2N.CX P w) k f fd ps (LSp K mg 2 sp)
  T : EqC K C f
  g : mg (Str.ofString c) = some (.ref C)
  b : Binds K fd ps []
  bo : ∀ t ∈ "NoneType" :: tyNs, PySem.W.subIn K (.type t) (.ref C) = some false
  own : ∃ cs, OwnT K mg cs ∧ c ∈ cs
def EqD (k : Nat) (c : String) (ps : List Str) (sp : SpD) : Prop := ∃ f C fd, EqM P w K mg base k c ps sp f C fd
end
theorem EqD.imp {P w K mg base k c ps} {sp sp' : SpD} (e : EqD P w K mg base k c ps sp) (h : ∀ ds h Q E, ds.length = 2 → sp' ds h Q E → sp ds h Q E) : EqD P w K mg base k c ps sp' := by
  obtain ⟨f, C, fd, ⟨F, T, g, b, bo, own⟩⟩ := e
  exact ⟨f, C, fd, ⟨fn_imp F h, T, g, b, bo, own⟩⟩
section
variable {X : Cx} {k j : Nat} {ps : List Str} {sp : SpD} {c : String}
theorem eqO_rel {f C : Addr} {fd : FuncData} {neg : Bool} (e : EqM X.prog X.w X.K X.mg X.base j c ps sp f C fd) : OpD X (rEqO X.K C (LSp X.K X.mg 2 sp) neg) (dEqO c sp neg) := fun G F m h H x y d e' QD Q R rx ry q hQ => by
  obtain ⟨⟨ns, xs, e1⟩, e2, q⟩ := q
  obtain ⟨a, C1, dx, vs, rfl, hH, hC, hl, p⟩ := R.ins rx e1
  have eC : C1 = C := by
    rw [e.g] at hC
    injection hC with hC
    injection hC with hC
    exact hC.symm
  subst eC
  obtain ⟨cs, T, hc⟩ := e.own
  obtain ⟨tb, ty, hn⟩ : ∃ tb, TyX X.K H y tb ∧ PySem.W.notFirst X.K C1 tb = true := by
    rcases e2 with ⟨t, et⟩ | ⟨ns', xs', e3⟩
    · obtain ⟨ty, ht⟩ := R.tyB ry et
      refine ⟨_, ty, ?_⟩
      unfold PySem.W.notFirst
      rw [e.bo t ht]
      simp
    · obtain ⟨C2, hC2, ty⟩ := R.ownB T ry (by unfold ownB; rw [e3]; rfl) hc
      rw [e.g] at hC2
      injection hC2 with hC2
      injection hC2 with hC2
      subst hC2
      refine ⟨_, ty, ?_⟩
      unfold PySem.W.notFirst
      simp
  refine ⟨a, dx, _, tb, rfl, hH, ty, hn, rfl, G, F, m, h, [d, e'], _, _, R, .cons rx (.cons ry .nil), q, fun v H' ⟨F', m', h', d', le, R', rp, z⟩ => ?_, fun cls dx H' z => ?_⟩
  · cases d' with
    | bl b =>
      cases rp
      exact ⟨b, rfl, hQ _ _ ⟨F', m', h', _, le, R', .bl _, z⟩⟩
    | _ => exact z.elim
  · obtain ⟨_, _, _, _, _, _, _, _, _, z⟩ := z
    exact z.elim
theorem do_eqO (e : EqD X.prog X.w X.K X.mg X.base j c ps sp) (hr : RoomG k X.A) (hj : j + 1 ≤ k := by first | decide | omega) : OpDD X (compareOp .Eq) (dEqO c sp false) := by
  obtain ⟨f, C, fd, e⟩ := e
  exact ⟨_, op_eqO e.T e.F (hr.mono (by omega)) e.b, eqO_rel e⟩
theorem do_neO (e : EqD X.prog X.w X.K X.mg X.base j c ps sp) (hr : RoomG k X.A) (hj : j + 1 ≤ k := by first | decide | omega) : OpDD X (compareOp .NotEq) (dEqO c sp true) := by
  obtain ⟨f, C, fd, e⟩ := e
  exact ⟨_, op_neO e.T e.F (hr.mono hj) e.b, eqO_rel e⟩
end
end DL
end

section
set_option maxRecDepth 100000
set_option maxHeartbeats 4000000
/-! tuple * k for any small k -/
namespace DL
open PySem PySem.Spec L2 PyProof.Rows
variable [TB]
theorem tuple_mul1 (l : Addr) (items : Array Value) (n : Nat) (dd : Option Addr) (sl : Array (Option Value)) (u : Tok) (c1 : (items.isEmpty || (1 : Int) == 1) = true) :
    Meets (Builtin.«tuple.__mul__» ⟨[.ref l, .int 1 u], []⟩) (fun _ R s => s.heap.get? l = some { cls := .type "tuple", dict := dd, data := .seq items n, slots := sl } ∧
      R (.ok (.ret (Value.ref l))) { s with heap := s.heap, toks := s.toks }) :=
  .of_wp fun prog w A R s h => by
    obtain ⟨hp, g, d, tk, os⟩ := s
    obtain ⟨hl, h⟩ := h
    have f1 := AutoSeq1.idx_int
    wp_walk using wpAny_loadPart' hl
    repeat (first
      | (refine wpAny_ite_true (decide_eq_true (by rw [c1])) ?_; wp_walk using wpAny_loadPart' hl)
      | (refine wpAny_ite_true (by rw [c1]) ?_; wp_walk using wpAny_loadPart' hl))
    exact ⟨_, rfl, h⟩
theorem tuple_mul0 (l : Addr) (items : Array Value) (n : Nat) (dd : Option Addr) (sl : Array (Option Value)) (x : Int) (u : Tok) (c0 : (decide (x < -(2 ^ 63)) || decide (x ≥ 2 ^ 63)) = false) (c1 : (items.isEmpty || x == 1) = false) (c2 : (decide (x ≤ 0) || items.isEmpty) = true) :
    Meets (Builtin.«tuple.__mul__» ⟨[.ref l, .int x u], []⟩) (fun _ R s => s.heap.get? l = some { cls := .type "tuple", dict := dd, data := .seq items n, slots := sl } ∧
      R (.ok (.ret (Value.ref s.heap.objs.size))) { s with heap := s.heap.push { cls := Value.type "tuple", data := Data.seq #[] }, toks := s.toks }) :=
  .of_wp fun prog w A R s h => by
    obtain ⟨hp, g, d, tk, os⟩ := s
    obtain ⟨hl, h⟩ := h
    have f1 := AutoSeq1.idx_int
    wp_walk using wpAny_loadPart' hl
    repeat (first
      | (refine wpAny_ite_false (decide_eq_false (by rw [c0]; exact Bool.false_ne_true)) ?_; wp_walk using wpAny_loadPart' hl)
      | (refine wpAny_ite_false (decide_eq_false (by rw [c1]; exact Bool.false_ne_true)) ?_; wp_walk using wpAny_loadPart' hl)
      | (refine wpAny_ite_true (decide_eq_true (by rw [c2])) ?_; wp_walk using wpAny_loadPart' hl)
      | (refine wpAny_ite_true (by rw [c2]) ?_; wp_walk using wpAny_loadPart' hl))
    exact ⟨_, rfl, h⟩
def rRepU (K : PySem.W.Frag) : R2 := fun x y H Q => ∃ l k xs, x = .ref l ∧ y = .int k ∧ SqT K H l xs ∧ xs ≠ [] ∧ -1000 ≤ k ∧ k ≤ 1000 ∧ xs.length ≤ 1000 ∧ (k = 1 → Q (.ref l) H) ∧
  (k ≤ 0 → ∀ p, H p = none → Q (.ref p) (upd H p (.tup []))) ∧ (2 ≤ k → ∀ p, H p = none → Q (.ref p) (upd H p (.tup (List.replicate k.toNat xs).flatten)))
section
variable {X : Cx}
theorem op_repU : OpR X (binaryOp .Mult) (rRepU X.K) := by
  intro pins s σ H x y v u Q I rx ry h
  obtain ⟨l, k, xs, rfl, rfl, hT, hne, h1, h2, hz, q1, q0, q2⟩ := h
  by_cases hk : 2 ≤ k
  · exact op_repT pins s σ H _ _ v u Q I rx ry ⟨l, k, xs, rfl, rfl, hT, hne, hk, h2, hz, q2 hk⟩
  cases rx
  obtain ⟨t, rfl⟩ := ry
  obtain ⟨its, r, ⟨⟨cls, dd, data, sl⟩, ho, hc, n, hd⟩, hs⟩ := I.tuple hT
  simp only at hc hd
  subst hc hd
  have hle : its.length = xs.length := r.length.symm
  have hn : its ≠ [] := fun e => hne (by
    rw [e] at hle
    exact List.eq_nil_of_length_eq_zero hle.symm)
  have hi : its.toArray.isEmpty = false := by
    cases its with
    | nil => exact absurd rfl hn
    | cons a b => rfl
  by_cases hk1 : k = 1
  · subst hk1
    refine wpAny_binaryOp_repeat_ref (T := "tuple") (U := "int") (by decide) ⟨_, ho, rfl⟩ (fun s' => typeIs_int s' 1 t) noFill_tuple_mul F.fills_int_mul F.slot_int_rmul repeat_tuple F.slot_int_index.lookup
      (call_meets F.slot_int_rmul (typeIs_int s 1 t) F.entry_int_rmul (F.args_int_rmul_2 _ _) (int_rmul_tuple 1 t l its.toArray n dd sl)
        ⟨ho, rfl, ⟨_, ho, rfl⟩, call_meets F.slot_tuple_mul ⟨_, ho, rfl⟩ F.entry_tuple_mul (F.args_tuple_mul_2 _ _) (tuple_mul1 l its.toArray n dd sl t (by rw [hi]; rfl)) ⟨ho, ?_⟩⟩)
    exact ⟨.ref l, H, I, rfl, q1 rfl⟩
  · have c0 : (decide (k < -(2 ^ 63)) || decide (k ≥ 2 ^ 63)) = false := by
      rw [decide_eq_false (by omega), decide_eq_false (by omega)] <;> rfl
    have c1 : (its.toArray.isEmpty || k == 1) = false := by
      rw [hi, Bool.false_or]
      exact beq_eq_false_iff_ne.mpr (by omega)
    have c2 : (decide (k ≤ 0) || its.toArray.isEmpty) = true := by
      rw [decide_eq_true (by omega)]; rfl
    refine wpAny_binaryOp_repeat_ref (T := "tuple") (U := "int") (by decide) ⟨_, ho, rfl⟩ (fun s' => typeIs_int s' k t) noFill_tuple_mul F.fills_int_mul F.slot_int_rmul repeat_tuple F.slot_int_index.lookup
      (call_meets F.slot_int_rmul (typeIs_int s k t) F.entry_int_rmul (F.args_int_rmul_2 _ _) (int_rmul_tuple k t l its.toArray n dd sl)
        ⟨ho, rfl, ⟨_, ho, rfl⟩, call_meets F.slot_tuple_mul ⟨_, ho, rfl⟩ F.entry_tuple_mul (F.args_tuple_mul_2 _ _) (tuple_mul0 l its.toArray n dd sl k t c0 c1 c2) ⟨ho, ?_⟩⟩)
    refine ⟨.ref s.heap.objs.size, _, I.laid (t' := s.toks) (o := .tup []) (fun b ob q => Heap.get?_push_of_some _ q) (Nat.le_refl _) ?_, rfl, q0 (by omega) _ (I.hok.fresh (Nat.le_refl _))⟩
    exact ⟨by rw [sizeLine_eq]; exact Nat.zero_le _, [], .nil, IsTup.new _ _⟩
end
def dMulU : F2 := fun x y h Q => match x, y with
  | .tup xs, .int k => 0 < xs.length ∧ -1000 ≤ k ∧ k ≤ 1000 ∧ xs.length ≤ 1000 ∧ Q (.tup (List.replicate k.toNat xs).flatten) h
  | _, _ => False
theorem do_mulU {X : Cx} : OpDD X (binaryOp .Mult) dMulU := by
  refine .of _ op_repU fun G F m h H x y d e QD Q R rx ry q hQ => ?_
  unfold dMulU at q
  split at q
  · rename_i xs k
    cases ry
    have rx0 := rx
    cases rx with
    | tup s p =>
      rename_i a vs
      refine ⟨_, _, _, rfl, rfl, sqT_mono R.sf s, fun hn => ?_, q.2.1, q.2.2.1, by rw [Paired.len p]; exact q.2.2.2.1, fun hk => ?_, fun hk p' hp => ?_, fun _ p' hp => ?_⟩
      · have := Paired.len p
        rw [hn, List.length_nil] at this
        omega
      · subst hk
        have e : (List.replicate (Int.toNat 1) xs).flatten = xs := by
          rw [show Int.toNat 1 = 1 from rfl, List.replicate_one, List.flatten_cons, List.flatten_nil, List.append_nil]
        refine hQ _ _ ⟨F, m, h, _, WLe.refl, R, rx0, ?_⟩
        have := q.2.2.2.2
        rw [e] at this
        exact this
      · have e : (List.replicate k.toNat xs).flatten = [] := by
          rw [show k.toNat = 0 by omega]; rfl
        obtain ⟨F', le, R', rp⟩ := R.tupN hp .nil
        refine hQ _ _ ⟨F', m, h, _, le, R', rp, ?_⟩
        have := q.2.2.2.2
        rw [e] at this
        exact this
      · obtain ⟨F', le, R', rp⟩ := R.tupN hp (Rps.rep p _)
        exact hQ _ _ ⟨F', m, h, _, le, R', rp, q.2.2.2.2⟩
  · exact q.elim
end DL
end

section
set_option maxRecDepth 100000
set_option maxHeartbeats 4000000
/-! sorted of a list of data that are alike, with what is known of the order; the name ValueError -/
namespace DL
open PySem PySem.Spec L2 PyProof.Rows
variable [TB]
def ordP (a b : PyData) : Prop := PySem.W.dataLt b a = false
def rSortedO (K : PySem.W.Frag) : List V → Hp → VK → Prop := fun vs H Q => ∃ (a : Addr) (xs : List V) (ds : List PyData), vs = [V.ref a] ∧ SqL K H a xs ∧ DpAll K H xs ds ∧ PySem.W.AllAlike ds ∧ PySem.W.Sortable ds ∧ (∀ d ∈ ds, d.depth ≤ 30) ∧
  ∀ (zs : List (V × PyData)) (p : Addr), zs.Perm (xs.zip ds) → zs.Pairwise (fun a b => ordP a.2 b.2) → H p = none → Q (.ref p) (upd H p (.lst (zs.map (·.1))))
/-- sorted(xs), xs a list of data that are alike: the same in an order that goes up -/
def fSortedO : FC := fun ds h Q => match ds with
  | [x] => (match lstOf x h with
    | some xs => (match pysOf xs with
      | some ps => PySem.W.AllAlike ps ∧ PySem.W.Sortable ps ∧ (∀ d ∈ ps, d.depth ≤ 30) ∧ ∀ zs : List (D × PyData), zs.Perm (xs.zip ps) → zs.Pairwise (fun a b => ordP a.2 b.2) → Q (.lst (zs.map (·.1))) h
      | none => False)
    | none => False)
  | _ => False
section
variable {X : Cx}
end
end DL
end

section
set_option maxRecDepth 100000
set_option maxHeartbeats 4000000
/-! x = [.. for .. for ..], a list that is changed later -/
namespace DL
open PySem PySem.Spec L2
variable [TB]
section
variable {X : Cx} {W : WX}
variable {elt tg iter tg1 iter1 : Expr} {ifs ifs1 : List Expr} {scope : Scope} {own : List (Str × Nat)} {vs1 : List Nat} {pos : Pos} {ti ti1 : TID} {g g1 : TGD} {tt tt1 : TTD} {te : TED}
end
end DL
end

section
set_option maxRecDepth 100000
set_option maxHeartbeats 4000000
/-! a op b op' c op'' d -/
namespace DL
open PySem PySem.Spec L2 PyProof.Rows
variable [TB]
def tChain3 (r r' r'' : R2) (ta tb tc td : TE) : TE := fun σ H Q => ta σ H fun x H1 => tb σ H1 fun y H2 => r x y H2 fun z H3 => ∃ k, z = .bl k ∧
  (if k = true then tc σ H3 fun w' H4 => r' y w' H4 fun z' H5 => ∃ k', z' = .bl k' ∧ (if k' = true then td σ H5 fun w'' H6 => r'' w' w'' H6 Q else Q (.bl false) H5) else Q (.bl false) H3)
section
variable {X : Cx} {ta tb tc td : TE} {a b c d : Expr} {pos : Pos}
end
def eChain3 (f g k : F2) (ta tb tc td : TED) : TED := fun sd h Q E => ta sd h (fun x h1 => tb sd h1 (fun y h2 => f x y h2 fun z h3 => match z with
  | .bl true => tc sd h3 (fun w h4 => g y w h4 fun z' h5 => match z' with
    | .bl true => td sd h5 (fun w' h6 => k w w' h6 Q) E
    | .bl false => Q (.bl false) h5
    | _ => False) E
  | .bl false => Q (.bl false) h3
  | _ => False) E) E
section
variable {X : Cx} {W : WX} {a b c d : Expr} {ta tb tc td : TED} {pos : Pos} {f g k : F2}
end
end DL
end

section
set_option maxRecDepth 100000
set_option maxHeartbeats 4000000
/-! lambdas without parameters, handed to a def that calls them -/
namespace DL
open PySem PySem.Spec L2 PyProof.Rows
variable [TB]
/-- a lambda, and what its call does -/
structure Lam where
  d : D
  ac : DH → VD → ED → Prop
def eAct (i : Nat) (L : Lam) : TED := fun sd h Q E => sd[i]? = some (some L.d) ∧ L.ac h Q E
def eLam (sp : Lam → SpD) (te : TED) : TED := fun sd h Q E => ∀ d, sp ⟨d, fun h' Q' E' => te sd h' Q' E'⟩ [d] h Q EF
section
variable {K : PySem.W.Frag} {mg : Str → Option Value} {G F : Hp} {m : List Addr} {h : DH} {H H1 : Hp} {c : Addr} {q : Str}
/-- the tables may have grown, a code object is known from now on -/
theorem Rel.lam (R : Rel K mg G F m h H) (eN : LamX.ExtN H H1) (hco : H1 c = some (LamX.CodeO c q)) (tb : ∀ x ∈ TB.T, ∀ c P, PySem.W.tabIn K x = some (c, P) → LamX.TabS H1 P (lamQ x)) :
    WLe F m (upd F c (LamX.CodeO c q)) m ∧ Rel K mg G (upd F c (LamX.CodeO c q)) m h H1 := by
  have nt : ∀ ps, LamX.CodeO c q ≠ .tbl ps := LamX.codeO_ne
  have fk : ∀ b o, F b = some o → H1 b = some o := fun b o e => eN b o (R.sf b o e) fun ps z => R.tb.nf b ps (by rw [e, z])
  have gk : ∀ b o, G b = some o → H1 b = some o ∧ b ≠ c := fun b o e => by
    obtain ⟨xs, rfl⟩ := R.gk b o e
    have h1 := eN b _ (R.sg b _ e) (fun _ z => nomatch z)
    refine ⟨h1, fun z => ?_⟩
    rw [z, hco] at h1
    unfold LamX.CodeO at h1
    cases h1
  have le : WLe F m (upd F c (LamX.CodeO c q)) m := ⟨fun b o e => by
    by_cases hb : b = c
    · subst hb
      rw [upd_same, ← hco]
      exact fk _ _ e
    · rw [upd_ne hb]; exact e, [], by simp⟩
  refine ⟨le, ⟨fun b o e => (gk b o e).1, R.gk, fun b o e => ?_, R.gl, fun b o e => ?_, R.ln, fun n o e ne => ?_, R.ij, ⟨fun b ps e => ?_, tb⟩⟩⟩
  · rw [upd_ne (gk b o e).2]; exact R.gf b o e
  · by_cases hb : b = c
    · subst hb; rw [upd_same] at e; rw [hco]; exact e
    · rw [upd_ne hb] at e; exact fk b o e
  · obtain ⟨a, e1, e2, r⟩ := R.lv n o e ne
    have key : H1 a = H a ∧ a ≠ c := by
      generalize eh : H a = u at r
      have fin : ∀ w, H a = some w → (∀ ps, w ≠ .tbl ps) → (∀ c q, w ≠ LamX.CodeO c q) → H1 a = H a ∧ a ≠ c := fun w ew h1 h2 => by
        have h3 := eN a w ew h1
        refine ⟨h3.trans ew.symm, fun z => ?_⟩
        rw [z, hco] at h3
        exact h2 _ _ (Option.some.inj h3).symm
      rw [← eh]
      cases r with
      | dead => exact absurd rfl ne
      | df _ _ hd => exact fin _ eh (fun _ z => nomatch z) (fun _ _ => dfo_code hd)
      | dn _ _ hd => exact fin _ eh (fun _ z => nomatch z) (fun _ _ => dfo_code hd)
      | _ => exact fin _ eh (fun _ z => nomatch z) (fun _ _ z => by unfold LamX.CodeO at z; exact nomatch z)
    exact ⟨a, e1, by rw [upd_ne key.2]; exact e2, by rw [key.1]; exact r.mono le⟩
  · by_cases hb : b = c
    · subst hb; rw [upd_same] at e; exact nt ps (Option.some.inj e)
    · rw [upd_ne hb] at e; exact R.tb.nf b ps e
end
/-- the context of a lambda's body: what it lets out has no context -/
abbrev lamCxN (X : Cx) (A : Around) (outer : List Env) (s : Shared) (H : Hp) (E : XK) (scope : Scope) (f c' : Addr) : Cx :=
  (LamX.lamCx X A outer s H E scope f c').wish fun e s' => wpAny (model X.prog X.w) (A.deeper (LamX.lamEnv X scope s.heap.objs.size f c')) (leaving (LamX.lamEnv X scope s.heap.objs.size f c') e) (fun _ s'' => L2N.CX X.prog X.w outer H s E e s'') (fun e' s'' => L2N.CX X.prog X.w outer H s E e' s'') s'
section
variable {X : Cx} {pins : List (Addr × Obj)} {σ : L2.St} {H : Hp} {s : Shared}
end
section
variable {K : PySem.W.Frag} {mg : Str → Option Value} {F : Hp} {m : List Addr}
end
section
variable {X : Cx} {scope : Scope} {f c' : Addr} {A : Around} {outer : List Env} {s : Shared} {H : Hp} {E : XK}
end
section
variable {P : Program} {w : World} {K : PySem.W.Frag} {mg : Str → Option Value} {base : Heap} {f : Addr} {fd : FuncData} {ps : List Str}
/-- a def with one parameter, that is called in it -/
def LDef (P : Program) (w : World) (K : PySem.W.Frag) (mg : Str → Option Value) (base : Heap) (k : Nat) (x a : Str) (spL : Lam → SpD) : Prop :=
  ∃ (g : Addr) (fd : FuncData) (st : Stmt) (N : List Str) (t : Lam → TSD), Fun K x x st g fd ∧ mg x = some (.ref g) ∧ PySem.W.keepIn K (.ref g) = true ∧ Binds K fd [a] [] ∧ FnScope N [a] (defScope st) ∧ N[0]? = some a ∧ Vis (defScope st) a ∧
    (∀ (L : Lam) (h : DH) (Q : VD), WF h → nrD h.length L.d = true → spL L [L.d] h Q EF → bodyD N.length (t L) [L.d] h (popQ h.length Q) (popE h.length EF)) ∧
    ∀ (L : Lam) (cdv : Value) (A : Around) (outer : List Env) (s : Shared) (H : Hp), RoomG k (A.deeper (envOfC x (defScope st) s.heap.objs.size g cdv)) →
      (∀ (V : WX) (pn : List (Addr × Obj)) (xe : Value → Shared → Prop) (p1 p2 : Pos), L2N.Takes ((cxOf (L2N.CX P w) P w K mg base N x (defScope st) g cdv A outer s H (fun _ _ _ => False)).tr pn xe) V →
        DE ((cxOf (L2N.CX P w) P w K mg base N x (defScope st) g cdv A outer s H (fun _ _ _ => False)).tr pn xe) V (.Call (.Name a p1) [] [] p2) (eAct 0 L)) →
      DSs (cxOf (L2N.CX P w) P w K mg base N x (defScope st) g cdv A outer s H (fun _ _ _ => False)) (fun _ _ _ _ => False) (defBody st) (t L)
end
/-- the tables as a list -/
def tabL (K : PySem.W.Frag) : List (Addr × Str) := TB.T.filterMap fun x => (PySem.W.tabIn K x).map fun p => (p.2, lamQ x)
/-- the maker's code and table -/
structure MkT (base : Heap) (K : PySem.W.Frag) (mg : Str → Option Value) (x : Str) (c P : Addr) : Prop where
  hx : x ∈ TB.T
  ti : PySem.W.tabIn K x = some (c, P)
  tb : LamX.TabB base mg c P
  un : ∀ y ∈ TB.T, ∀ c', PySem.W.tabIn K y = some (c', P) → y = x
section
variable {X : Cx} {W : WX}
end
end DL
end

section
set_option maxRecDepth 100000
set_option maxHeartbeats 4000000
/-! the end of a law in which lambdas are made -/
namespace DL
open PySem PySem.Spec L2 PyProof.Rows
variable [TB]
/-- the tables' places, as pairs -/
def tabC (K : PySem.W.Frag) : List (Addr × Addr) := TB.T.filterMap fun x => PySem.W.tabIn K x
end DL
end

section
set_option maxRecDepth 100000
set_option maxHeartbeats 4000000
/-! makers of lambdas; xs.count(x); x.join(xs) -/
namespace DL
open PySem PySem.Spec L2 PyProof.Rows
variable [TB]
section
variable {P : Program} {w : World} {K : PySem.W.Frag} {mg : Str → Option Value} {base : Heap}
/-- the maker's code object -/
def CodeAt (K : PySem.W.Frag) (mg : Str → Option Value) (x : Str) (c : Addr) : Prop := ∀ (f : Addr) (o : Obj) (fd : FuncData), mg x = some (.ref f) → K.lookup f = some o → o.data = .func fd → fd.code = .ref c
end
/-! ## xs.count(x) -/
section
variable {X : Cx}
def rCountF (K : PySem.W.Frag) : V → List V → Hp → VK → Prop := fun x xs H Q => ∃ (a : Addr) (ys : List V) (y : V), x = V.ref a ∧ xs = [y] ∧ SqL K H a ys ∧ flatV y = true ∧ ys.all flatV = true ∧ Q (.int (ys.countP (fun z => eqV z y) : Nat)) H
def mCount : FM := fun o ds h Q => match ds with
  | [d] => match listOf o h with
    | some xs => flatD d = true ∧ xs.all flatD = true ∧ Q (.int (xs.countP (fun z => DL.eqF z d) : Nat)) h
    | none => False
  | _ => False
/-! ## x.join(xs) -/
def isStrD (d : D) (_ : DH) : Bool := match d with
  | .str _ => true
  | _ => false
theorem ty_strJ (G F : Hp) (m : List Addr) (h : DH) (H : Hp) (v : V) (d : D) (R : Rel X.K X.mg G F m h H) (r : Rp X.K X.mg F m v d) (e : isStrD d h = true) : tyV X.K "str" v H := by
  cases r with
  | str x => rfl
  | _ => cases e
def strsOf : List D → Option (List Str)
  | [] => some []
  | .str x :: r => (strsOf r).map fun l => x :: l
  | _ => none
theorem strs_rps {K : PySem.W.Frag} {mg : Str → Option Value} {F : Hp} {m : List Addr} : ∀ {vs : List V} {ds : List D} {ys : List Str}, Rps K mg F m vs ds → strsOf ds = some ys → vs = ys.map V.str
  | _, _, _, .nil, e => by cases e; rfl
  | _, d :: ds, ys, .cons p r, e => by
    cases d with
    | str x =>
      rw [strsOf] at e
      obtain ⟨l, e1, rfl⟩ := Option.map_eq_some_iff.mp e
      cases p
      rw [strs_rps r e1]; rfl
    | _ => cases e
theorem strsOf_map : ∀ l : List Str, strsOf (l.map D.str) = some l
  | [] => rfl
  | x :: r => by rw [List.map_cons, strsOf, strsOf_map r]; rfl
def mJoin : FM := fun o ds h Q => match o, ds with
  | .str a, [d] => match listOf d h with
    | some xs => match strsOf xs with
      | some ys => (ys.map (·.length)).sum + ys.length * a.length ≤ 16777216 ∧ Q (.str (Txt.join a ys)) h
      | none => False
    | none => False
  | _, _ => False
theorem dm_join : MtDD X "str" isStrD "str.join" mJoin := ⟨ty_strJ, _, mt_join, fun G F m h H v d vs ds QD Q R r rs q hQ => by
  unfold mJoin at q
  split at q
  · split at q
    · rename_i xs hx
      split at q
      · rename_i ys hy
        obtain ⟨w, rfl, ri⟩ := Rps.one rs
        obtain ⟨a, ws, rfl, hv, p⟩ := R.listOf ri hx
        cases r
        rw [strs_rps p hy] at hv
        exact ⟨_, a, ys, rfl, rfl, .inl hv, q.1, hQ _ _ ⟨F, m, _, _, WLe.refl, R, .str _, q.2⟩⟩
      · exact q.elim
    · exact q.elim
  · exact q.elim⟩
end
end DL
end

section
set_option maxRecDepth 100000
set_option maxHeartbeats 4000000
namespace DL
open PySem PySem.Spec L2
/-! ## a maker's table, read off its code object -/
end DL
end

section
set_option maxRecDepth 100000
set_option maxHeartbeats 4000000
namespace DL
open PySem PySem.Spec L2
variable [TB]
/-! ## min(a, b, c), max(a, b, c) of ints -/
def fMin3 : FC := fun ds h Q => match ds with
  | [.int i, .int j, .int k] => Q (.int (min (min i j) k)) h
  | _ => False
def fMax3 : FC := fun ds h Q => match ds with
  | [.int i, .int j, .int k] => Q (.int (max (max i j) k)) h
  | _ => False
section
variable {X : Cx}
end
end DL
end

section
set_option maxRecDepth 100000
set_option maxHeartbeats 4000000
/-! a list comprehension over a list, within an except suite -/
namespace DL
open PySem PySem.Spec L2 PyProof.Rows HotX
variable [TB]
section
variable {prog : Program} {w : World} {A : Around} {E : Value → Shared → Prop} {s : Shared}
end
/-! the walk of a list there -/
structure PIL (X : Cx) (iter : Expr) (wi : TI) : Prop where
  go : ∀ (pins : List (Addr × Obj)) (s : Shared) (τ : L2.St) (H : Hp) (R : It → Hp → Prop), Inv X pins τ H s → wi τ H R →
    wpAny (model X.prog X.w) X.A (eval iter X.env) (fun v t => wpAny (model X.prog X.w) X.A (pyIter v) (fun u t2 => ∃ (j l : Addr) (H' : Hp), u = .ref j ∧ Inv X pins τ H' t2 ∧ t2.heap.IsListIter j l 0 ∧ FpOk X pins H' j ∧ R (Itl X.K l) H') X.xe t) X.xe s
theorem PIL.imp {X : Cx} {iter : Expr} {t t' : TI} (p : PIL X iter t) (h : ∀ τ H R, t' τ H R → t τ H R) : PIL X iter t' := ⟨fun pins s τ H R I q => p.go pins s τ H R I (h τ H R q)⟩
/-- an error is handled, and it was there when the block began -/
def HotB (X : Cx) : Prop := ∃ p : Addr × Obj, X.A.handled = some (.ref p.1) ∧ (∃ vs : Array Value, p.2.data = .fields vs ∧ vs[2]? = some .none) ∧ X.s_0.heap.get? p.1 = some p.2 ∧ X.H_0 p.1 = none ∧ p.1 ∉ X.fs ∧ p.1 ∉ X.ex
theorem HotB.at {X : Cx} {pins : List (Addr × Obj)} {σ : L2.St} {H : Hp} {s : Shared} (b : HotB X) (I : Inv X pins σ H s) : ∃ x1, HotAt X.A x1 s.heap := by
  obtain ⟨p, h1, ⟨vs, h2, h3⟩, h4, h5, h6, h7⟩ := b
  exact ⟨p.1, h1, p.2, vs, I.base.keep p.1 p.2 h4 h5 h6 h7, h2, h3⟩
/-! .. in data -/
/-- a list that is walked -/
def iSeqL (t : TED) : TID := fun sd h Q E => t sd h (fun d h1 => match listOf d h1 with
  | some xs => xs.length ≤ 1000000 ∧ Q xs (keepOf d xs) h1
  | none => False) E
section
variable {X : Cx} {W : WX} {elt tg iter : Expr} {ifs : List Expr} {scope : Scope} {own : List (Str × Nat)} {pos : Pos} {ti te : TED} {g : TGD} {tt : TTD}
end
end DL
end

section
set_option maxRecDepth 100000
set_option maxHeartbeats 4000000
/-! a, b = a tuple, while an error is handled -/
namespace DL
open PySem PySem.Spec L2 PyProof.Rows HotX
variable [TB]
section
variable {prog : Program} {w : World} {A : Around} {E : Value → Shared → Prop} {s : Shared}
end
section
variable {X : Cx} {pos : Pos} {vs : List Nat}
/-- (a, b, ..) = a tuple of that length -/
def gTH (n : Nat) (t : TGDs) : TGD := fun d sd h Q => match d with
  | .tup ds => ds.length = n ∧ t ds sd h Q
  | _ => False
end
end DL
end

section
set_option maxRecDepth 100000
set_option maxHeartbeats 4000000
/-! t.index(x), t a tuple -/
namespace DL
open PySem PySem.Spec L2 PyProof.Rows
variable [TB]
section
variable {X : Cx}
def rIndexT (K : PySem.W.Frag) : V → List V → Hp → VK → Prop := fun x xs H Q => ∃ (a : Addr) (ys : List V) (y : V) (j : Nat) (z : V), x = V.ref a ∧ xs = [y] ∧ SqT K H a ys ∧ flatV y = true ∧ ys.all flatV = true ∧ ys[j]? = some z ∧ eqV z y = true ∧
  (∀ (m : Nat) (z' : V), m < j → ys[m]? = some z' → eqV z' y = false) ∧ Q (.int (j : Nat)) H
def isTupX (d : D) (_ : DH) : Bool := match d with
  | .tupx _ => true
  | _ => false
def mIndexT : FM := fun o ds h Q => match o, ds with
  | .tupx xs, [d] => flatD d = true ∧ xs.all flatD = true ∧ (match idxD d xs with
    | some j => Q (.int (j : Nat)) h
    | none => False)
  | _, _ => False
/-- known no more -/
def noTy : D → Bool
  | .ty _ => false
  | _ => true
def wkK (d : D) (Q : VD) (h1 : DH) : Prop := match d with
  | .tupx xs => xs.all noTy = true ∧ Q (.tup xs) h1
  | d => Q d h1
def eWk (t : TED) : TED := fun sd h Q E => t sd h (fun d h1 => wkK d Q h1) E
def wkV : D → D
  | .tupx xs => .tup xs
  | d => d
theorem wkK_x {xs : List D} {Q : VD} {h : DH} : wkK (.tupx xs) Q h = (xs.all noTy = true ∧ Q (.tup xs) h) := rfl
theorem Rps.noTy {K mg} {F : Hp} {m : List Addr} : ∀ {vs : List V} {ds : List D}, Rps K mg F m vs ds → ds.all DL.noTy = true → ∀ n, V.ty n ∉ vs
  | _, _, .nil, _, n, h => nomatch h
  | _, _, .cons p r, e, n, h => by
    rw [List.all_cons, Bool.and_eq_true] at e
    rcases List.mem_cons.mp h with h | h
    · subst h
      cases p
      cases e.1
    · exact Rps.noTy r e.2 n h
def fTupleX : FC := fun ds h Q => match ds with
  | [x] => match lstOf x h with
    | some xs => Q (.tupx xs) h
    | none => False
  | _ => False
end
end DL
end

section
set_option maxRecDepth 100000
set_option maxHeartbeats 4000000
/-! tuples known by their object: sums, cuts, displays of such -/
namespace DL
open PySem PySem.Spec L2 PyProof.Rows
variable [TB]
section
variable {X : Cx}
/-- t + u: a new object's dict is none -/
def rCatX (K : PySem.W.Frag) : R2 := fun x y H Q => ∃ a b xs ys, x = .ref a ∧ y = .ref b ∧ SqT K H a xs ∧ SqT K H b ys ∧ xs.length + ys.length ≤ sizeLine ∧
  (xs = [] → Q (.ref b) H) ∧ (xs ≠ [] → ys = [] → Q (.ref a) H) ∧ (xs ≠ [] → ys ≠ [] → ∀ (p : Addr) (o : Obj), H p = none → o.cls = .type "tuple" → o.dict = none → Q (.ref p) (upd H p (.frz o (.tup (xs ++ ys)))))
def dAddX : F2 := fun x y h Q => match x, y with
  | .tupx xs, .tupx ys => xs.length + ys.length ≤ sizeLine ∧ Q (.tupx (xs ++ ys)) h
  | .tupx xs, .tup ys => xs ≠ [] ∧ ys ≠ [] ∧ xs.length + ys.length ≤ sizeLine ∧ Q (.tupx (xs ++ ys)) h
  | _, _ => False
/-- t[lo:hi] -/
def rSlX (K : PySem.W.Frag) : V → Option Int → Option Int → Hp → VK → Prop := fun x lo hi H Q => ∃ a xs, x = .ref a ∧ SqT K H a xs ∧
  (HT.sIx xs.length 0 lo = 0 ∧ HT.sIx xs.length xs.length hi = xs.length → Q (.ref a) H) ∧
  (¬ (HT.sIx xs.length 0 lo = 0 ∧ HT.sIx xs.length xs.length hi = xs.length) → ∀ (p : Addr) (o : Obj), H p = none → o.cls = .type "tuple" → o.dict = none → Q (.ref p) (upd H p (.frz o (.tup (cutV xs lo hi)))))
def eSlX (t : TED) (lo hi : TOD) : TED := fun sd h Q E => t sd h (fun x h1 => lo sd h1 (fun l h2 => hi sd h2 (fun u h3 => match x with
  | .tupx xs => Q (.tupx (cutD xs l u)) h3
  | _ => False) E) E) E
/-- a written tuple -/
def tTupX (t : TA) : TE := fun σ H Q => t σ H fun xs H1 => xs.length ≤ sizeLine ∧ ∀ (p : Addr) (o : Obj), H1 p = none → o.cls = .type "tuple" → o.dict = none → Q (.ref p) (upd H1 p (.frz o (.tup xs)))
def eTupX (t : TAD) : TED := fun sd h Q E => t sd h (fun ds h1 => Q (.tupx ds) h1) E
/-- a list of the small heap whose tuples are known by their objects: known no more -/
def wkOk (d : D) : Bool := match d with
  | .tupx xs => xs.all noTy
  | _ => true
theorem Rp.wk {K mg} {F : Hp} {m : List Addr} {v : V} {d : D} (r : Rp K mg F m v d) (h : wkOk d = true) : Rp K mg F m v (wkV d) := by
  unfold wkV
  split
  · rename_i xs
    unfold wkOk at h
    cases r with
    | tupx sq cl dn p => exact .tup (.inl (.inr ⟨_, sq, Rps.noTy p h⟩)) p
  · exact r
theorem Rps.wk {K mg} {F : Hp} {m : List Addr} : ∀ {vs : List V} {ds : List D}, Rps K mg F m vs ds → ds.all wkOk = true → Rps K mg F m vs (ds.map wkV)
  | _, _, .nil, _ => .nil
  | _, _, .cons p r, h => by
    rw [List.all_cons, Bool.and_eq_true] at h
    exact .cons (p.wk h.1) (Rps.wk r h.2)
def eWkR (t : TED) : TED := fun sd h Q E => t sd h (fun d h1 => match d with
  | .ref n => match h1[n]? with
    | some (.lst xs) => xs.all wkOk = true ∧ Q (.ref n) (h1.set n (.lst (xs.map wkV)))
    | _ => False
  | .lst xs => xs.all wkOk = true ∧ Q (.lst (xs.map wkV)) h1
  | _ => False) E
end
section
variable {K : PySem.W.Frag} {mg : Str → Option Value} {G F : Hp} {m : List Addr} {h : DH} {H : Hp}
end
section
variable {X : Cx}
end
end DL
end

section
set_option maxRecDepth 100000
set_option maxHeartbeats 4000000
/-! for k in d: the dict is locked meanwhile -/
namespace DL
open PySem PySem.Spec L2 PyProof.Rows
variable [TB]
def kyD : Key → D
  | .inl i => .int i
  | .inr x => .str x
/-- the keys of a dict that is walked -/
def iKeysD (t : TED) : TID := fun sd h Q E => t sd h (fun d h1 => match d with
  | .ref n => match h1[n]? with
    | some (.dkl o ks vs xs) => ks.length ≤ sizeLine ∧ Q (ks.map kyD) (fun h2 => h2[n]? = some (.dkl o ks vs xs)) h1
    | _ => False
  | _ => False) E
/-- what follows, the dict free again -/
def lkK (n : Nat) (o : Obj) (ks : List Key) (vs : List V) (xs : List D) (k : KD) : KD :=
  { nx := fun sd h => h[n]? = some (.dkl o ks vs xs) ∧ k.nx sd (h.set n (.dk ks xs)), rt := fun d h => h[n]? = some (.dkl o ks vs xs) ∧ k.rt d (h.set n (.dk ks xs)),
    bk := fun sd h => h[n]? = some (.dkl o ks vs xs) ∧ k.bk sd (h.set n (.dk ks xs)), ct := fun sd h => h[n]? = some (.dkl o ks vs xs) ∧ k.ct sd (h.set n (.dk ks xs)), er := k.er }
def sLk (t : TSD) : TSD := fun k sd h => ∃ (n : Nat) (ks : List Key) (xs : List D), h[n]? = some (.dk ks xs) ∧ ∀ (o : Obj) (vs : List V), t (lkK n o ks vs xs k) sd (h.set n (.dkl o ks vs xs))
def eLk (t : TED) : TED := fun sd h Q E => ∃ (n : Nat) (ks : List Key) (xs : List D), h[n]? = some (.dk ks xs) ∧ ∀ (o : Obj) (vs : List V), t sd (h.set n (.dkl o ks vs xs)) (fun d h' => h'[n]? = some (.dkl o ks vs xs) ∧ Q d (h'.set n (.dk ks xs))) E
section
variable {K : PySem.W.Frag} {mg : Str → Option Value} {G F F' : Hp} {m m' : List Addr} {h h' : DH} {H H' : Hp} {n : Nat} {ks : List Key} {xs : List D}
end
section
variable {X : Cx} {W : WX} {tg e : Expr} {te : TED} {st : Stmt} {ts : TSD}
end
end DL
end

section
set_option maxRecDepth 100000
set_option maxHeartbeats 4000000
/-! a module's tuple of ints; range(i, j, -1); list(a dict); {k: c} as an object of the small heap -/
namespace DL
open PySem PySem.Spec L2 PyProof.Rows
variable [TB]
/-- the ints of an array of values -/
def arrI (its : Array Value) : List (Option Int) := its.toList.map fun v => match v with
  | .int i _ => some i
  | _ => none
def KTup (K : PySem.W.Frag) (mg : Str → Option Value) (x : Str) (ns : List Int) : Prop := ∃ (a : Addr) (o : Obj) (its : Array Value) (n : Nat), mg x = some (.ref a) ∧ K.lookup a = some o ∧ o.cls = .type "tuple" ∧ o.data = .seq its n ∧ arrI its = ns.map some ∧ ns.length ≤ 1000
section
variable {X : Cx} {W : WX} {pos p : Pos} {a b c : Expr} {ta : TAD} {tg e : Expr} {te : TED}
/-- range(i, j, -1) -/
def dnL (lo : Int) (n : Nat) : List D := (List.range n).map fun k => .int (lo - (k : Nat))
def wRangeD : List D → DH → QIt → Prop := fun ds h Q => match ds with
  | [.int i, .int j, .int c] => (c = -1 ∧ -1000000 ≤ i ∧ i ≤ 1000000 ∧ -1000000 ≤ j ∧ j ≤ 1000000) ∧ Q (dnL i (i - j).toNat) (fun _ => True) h
  | _ => False
/-- list(d): the keys -/
def fListK : FC := fun ds h Q => match ds with
  | [x] => match dkOf x h with
    | some (ks, _) => Q (.lst (ks.map kyD)) h
    | none => False
  | _ => False
/-- {k: c}: changed later -/
def eDicCR (k : Key) (d : D) : TED := fun _ h Q _ => Q (.ref h.length) (h ++ [.dk [k] [d]])
variable {ke ve : Expr}
end
end DL
end

section
set_option maxRecDepth 100000
set_option maxHeartbeats 4000000
/-! dict of a list of one pair, as an object of the small heap -/
namespace DL
open PySem PySem.Spec L2 PyProof.Rows
variable [TB]
section
variable {X : Cx}
/-- dict([(k, v)]) -/
def fDictP : FC := fun ds h Q => match ds with
  | [.lst [.tup [.int k, d]]] => Q (.ref h.length) (h ++ [.dk [.inl k] [d]])
  | _ => False
end
end DL
end

section
set_option maxRecDepth 100000
set_option maxHeartbeats 4000000
/-! dicts whose keys are fillings (tuples of ints and None) -/
namespace DL
open PySem PySem.Spec L2 PyProof.Rows
variable [TB]
def isO : Option Int → Value → Bool
  | none, .none => true
  | some i, .int j _ => decide (j = i)
  | _, _ => false
def lfO : Option Int → Leaf
  | none => .none
  | some i => .num i
theorem lfO_inj {a b : Option Int} (e : lfO a = lfO b) : a = b := by
  cases a with
  | none => cases b with
    | none => rfl
    | some j => cases e
  | some i => cases b with
    | none => cases e
    | some j => injection e with e; rw [e]
section
variable {prog : Program} {w : World}
theorem isO_leaf {k : Option Int} {v : Value} (h : isO k v = true) : (leafKind prog w).is (lfO k) v = true := by
  cases k with
  | none => cases v <;> first | rfl | exact absurd h Bool.false_ne_true
  | some i => cases v <;> first | exact h | exact absurd h Bool.false_ne_true
theorem hash_leaf (k : Option Int) : (leafKind prog w).hash (lfO k) = hO k := by cases k <;> rfl
def optKind (prog : Program) (w : World) : KeyKind prog w (Option Int) where
  is := isO
  hash := hO
  inj := fun v a b ha hb => lfO_inj ((leafKind prog w).inj v _ _ (isO_leaf ha) (isO_leaf hb))
  byValue := fun k v h => (leafKind prog w).byValue _ _ (isO_leaf h)
  pyHash := fun h q => (leafKind prog w).pyHash (isO_leaf h) (by rw [hash_leaf]; exact q)
  eqBool := fun {A E s a b u v Q} hu hv h => (leafKind prog w).eqBool (isO_leaf hu) (isO_leaf hv) (by
    have e : decide (lfO a = lfO b) = decide (a = b) := by
      by_cases q : a = b
      · rw [decide_eq_true q, decide_eq_true (congrArg lfO q)]
      · rw [decide_eq_false q, decide_eq_false fun r => q (lfO_inj r)]
    rw [e]; exact h)
  «strs» := fun k x t v h => by cases k <;> exact absurd h Bool.false_ne_true
abbrev filKind (prog : Program) (w : World) : HeapKind prog w (List (Option Int)) := tupleKind (optKind prog w)
end
/-- at d stands the dict of these pairs -/
structure DfAt (K : PySem.W.Frag) (H : Hp) (d : Addr) (ob : Obj) (zs : List (List (Option Int) × Addr × Value)) : Prop where
  hH : H d = some (DFo d ob)
  sm : (d == sysModules) = false
  ex : ob.ExactDict
  dt : ∃ es ep, ob.data = .dict es ep ∧ es.toList = zs.map entF
  nd : (zs.map (·.1)).Nodup
  sz : zs.length ≤ sizeLine
  ks : ∀ z ∈ zs, SqT K H z.2.1 (z.1.map oV)
section
variable {X : Cx} {pins : List (Addr × Obj)} {σ : L2.St} {H : Hp} {s : Shared} {b d : Addr} {f : List (Option Int)} {ob : Obj} {zs : List (List (Option Int) × Addr × Value)}
def rInF (neg : Bool) (X : Cx) : R2 := fun x y H Q => ∃ (d b : Addr) (ob : Obj) (zs : List (List (Option Int) × Addr × Value)) (f : List (Option Int)), x = .ref b ∧ y = .ref d ∧ DfAt X.K H d ob zs ∧ SqT X.K H b (f.map oV) ∧ Q (.bl (xor neg (atKey zs f).isSome)) H
def rIxF (X : Cx) : R2 := fun x y H Q => ∃ (d b : Addr) (ob : Obj) (zs : List (List (Option Int) × Addr × Value)) (f : List (Option Int)) (p : Addr × Value) (v : V), x = .ref d ∧ y = .ref b ∧ DfAt X.K H d ob zs ∧ SqT X.K H b (f.map oV) ∧ atKey zs f = some p ∧ RelV v p.2 ∧ Q v H
def rSetF (X : Cx) : TSet := fun o i v H Q => ∃ (d b : Addr) (ob : Obj) (zs : List (List (Option Int) × Addr × Value)) (f : List (Option Int)), o = .ref d ∧ i = .ref b ∧ DfAt X.K H d ob zs ∧ SqT X.K H b (f.map oV) ∧ atKey zs f = none ∧ zs.length < sizeLine ∧
  ∀ (ob' : Obj) (u : Value), RelV v u → ob'.ExactDict → (∃ es ep, ob'.data = .dict es ep ∧ es.toList = (zs ++ [(f, b, u)]).map entF) → ((zs ++ [(f, b, u)]).map (·.1)).Nodup → Q (upd H d (DFo d ob'))
end
end DL
end

section
set_option maxRecDepth 100000
set_option maxHeartbeats 4000000
/-! dicts whose keys are fillings: the data layer -/
namespace DL
open PySem PySem.Spec L2 PyProof.Rows
variable [TB]
/-! ### the display of one pair -/
section
variable {X : Cx} {ke ve : Expr} {pos : Pos}
def empD : Obj := { cls := .type "dict", data := .dict #[] }
end
/-! ### keys as data -/
def oOf : D → Option (Option Int)
  | .non => some none
  | .int i => some (some i)
  | _ => none
def oOfs : List D → Option (List (Option Int))
  | [] => some []
  | x :: r => match oOf x, oOfs r with
    | some o, some l => some (o :: l)
    | _, _ => none
def fkOf : D → Option (List (Option Int))
  | .tup xs => oOfs xs
  | _ => none
section
variable {K : PySem.W.Frag} {mg : Str → Option Value} {G F : Hp} {m : List Addr} {h : DH} {H : Hp}
theorem rpsF_o : ∀ {vs : List V} {xs : List D} {f : List (Option Int)}, Rps K mg F m vs xs → oOfs xs = some f → vs = f.map oV
  | [], _, f, .nil, e => by cases e; rfl
  | v :: vs, x :: xs, f, .cons r p, e => by
    unfold oOfs at e
    split at e
    · rename_i o l e1 e2
      cases e
      rw [List.map_cons, ← rpsF_o p e2]
      congr 1
      cases x with
      | non => cases e1; cases r; rfl
      | int i => cases e1; cases r; rfl
      | _ => cases e1
    · cases e
theorem Rp.fk {v : V} {d : D} {f : List (Option Int)} (r : Rp K mg F m v d) (e : fkOf d = some f) : ∃ a, v = .ref a ∧ TupAt K F a (f.map oV) := by
  cases d with
  | tup xs =>
    cases r with
    | tup s p =>
      rw [rpsF_o p e] at s
      exact ⟨_, rfl, s⟩
  | _ => cases e
theorem Rel.df (R : Rel K mg G F m h H) {n : Nat} {ks : List (List (Option Int))} {ds : List D} (hn : h[n]? = some (.df ks ds)) : ∃ (a : Addr) (ob : Obj) (zs : List (List (Option Int) × Addr × Value)) (vs : List V), m[n]? = some a ∧ DfAt K H a ob zs ∧ zs.map (·.1) = ks ∧ (∀ z ∈ zs, TupAt K F z.2.1 (z.1.map oV)) ∧ Vals vs (zs.map (·.2.2)) ∧ Rps K mg F m vs ds := by
  obtain ⟨a, e1, e2, r⟩ := R.lv n _ hn (fun q => nomatch q)
  generalize z : H a = o at r
  cases r with
  | df h1 h2 h3 h4 h5 h6 h7 h8 p => exact ⟨a, _, _, _, e1, ⟨z, h1, h2, ⟨_, _, h3, h4⟩, h5, h6, fun y hy => sqT_mono R.sf (h7 y hy)⟩, rfl, h7, h8, p⟩
end
/-- what a table tells -/
def dgetF (ks : List (List (Option Int))) (ds : List D) (f : List (Option Int)) : Option D := ((ks.zip ds).find? fun z => decide (z.1 = f)).map (·.2)
def dInF (neg : Bool) : F2 := fun x y h Q => match y with
  | .ref n => match h[n]?, fkOf x with
    | some (.df ks _), some f => Q (.bl (xor neg (decide (f ∈ ks)))) h
    | _, _ => False
  | _ => False
def dIxF : F2 := fun x y h Q => match x with
  | .ref n => match h[n]?, fkOf y with
    | some (.df ks ds), some f => (match dgetF ks ds f with
      | some d => Q d h
      | none => False)
    | _, _ => False
  | _ => False
section
variable {X : Cx} {W : WX}
variable {a b c : Expr} {ta tb tc : TED} {pos tpos : Pos}
def sSubF (to ti te : TED) : TSD := fun k sd h => te sd h (fun d h1 => to sd h1 (fun o h2 => ti sd h2 (fun i h3 => match o with
  | .ref n => match h3[n]?, fkOf i with
    | some (.df ks ds), some f => f ∉ ks ∧ ks.length < sizeLine ∧ k.nx sd (h3.set n (.df (ks ++ [f]) (ds ++ [d])))
    | _, _ => False
  | _ => False) (k.E sd)) (k.E sd)) (k.E sd)
/-- {x: c}, x a name -/
def eDicF (i : Nat) (c : D) : TED := fun sd h Q _ => match sd[i]? with
  | some (some d) => (match fkOf d with
    | some f => Q (.ref h.length) (h ++ [.df [f] [c]])
    | none => False)
  | _ => False
end
end DL
end

section
set_option maxRecDepth 100000
set_option maxHeartbeats 4000000
/-! list(d), d a dict whose keys are fillings -/
namespace DL
open PySem PySem.Spec L2 PyProof.Rows
variable [TB]
section
variable {X : Cx}
def fListF : FC := fun ds h Q => match ds with
  | [.ref n] => match h[n]? with
    | some (.df ks _) => Q (.lst (ks.map filD)) h
    | _ => False
  | _ => False
end
end DL
end

section
set_option maxRecDepth 100000
set_option maxHeartbeats 4000000
/-! a def with one keyword-only parameter behind n others: called without it, called with it -/
namespace DL
open PySem PySem.Spec L2 PyProof.Rows
variable [TB]
section
variable (P : Program) (w : World) (K : PySem.W.Frag) (mg : Str → Option Value) (base : Heap)
/-- such a def of the text, its default an int -/
def DefK (k : Nat) (x : Str) (ps : List Str) (key : Str) (i : Int) (sp : SpD) : Prop :=
  ∃ f fd, FnG P w K mg base (L2N.CX P w) k f fd ps (LSp K mg ps.length sp) ∧ mg x = some (.ref f) ∧ PySem.W.keepIn K (.ref f) = true ∧ (∃ ds, Vals [V.int i] ds ∧ Binds K fd ps ds) ∧ KBn K fd ps (ps.length - 1) [key] (fun us ws => us ++ ws) (fun vs zs => vs ++ zs)
end
section
variable {X : Cx} {CX : CXT} {k : Nat} {f : Addr} {fd : FuncData} {ps : List Str} {sp : Sp} {E : L2.St → XK} {x : Str} {p pos : Pos} {e : Expr} {es : List Expr} {t : TA}
end
def eFnK (sp : SpD) (i : Int) (t : TAD) : TED := fun sd h Q E => t sd h (fun ds h1 => sp (ds ++ [.int i]) h1 Q E) E
def eFnK1 (sp : SpD) (t : TAD) (tk : TED) : TED := fun sd h Q E => t sd h (fun ds h1 => tk sd h1 (fun d h2 => sp (ds ++ [d]) h2 Q E) E) E
section
variable {X : Cx} {W : WX} {k j : Nat} {ps : List Str} {key : Str} {i : Int} {sp : SpD} {x : Str} {p pos kpos : Pos} {e ke : Expr} {es : List Expr} {t : TAD} {tk : TED}
end
end DL
end

section
set_option maxRecDepth 100000
set_option maxHeartbeats 4000000
/-! a def with one keyword-only parameter: how it comes about -/
namespace DL
open PySem PySem.Spec L2 PyProof.Rows
variable [TB]
section
variable {P : Program} {w : World} {K : PySem.W.Frag} {mg : Str → Option Value} {base : Heap}
/-- what is known of its default, and of how it binds -/
structure KwB (K : PySem.W.Frag) (fd : FuncData) (ps : List Str) (key : Str) (i : Int) : Prop where
  d : ∃ ds, Vals [V.int i] ds ∧ Binds K fd ps ds
  k : KBn K fd ps (ps.length - 1) [key] (fun us ws => us ++ ws) (fun vs zs => vs ++ zs)
theorem DefK.imp {k x ps key i} {sp sp' : SpD} (c : DefK P w K mg base k x ps key i sp) (h : ∀ ds h Q E, ds.length = ps.length → sp' ds h Q E → sp ds h Q E) : DefK P w K mg base k x ps key i sp' := by
  obtain ⟨f, fd, F, a, b, d⟩ := c
  exact ⟨f, fd, fn_imp F h, a, b, d⟩
theorem DefK.popW {k x ps key i} {sp : SpD} (c : DefK P w K mg base k x ps key i sp) : DefK P w K mg base k x ps key i (DL.popW sp) := by
  obtain ⟨f, fd, F, a, b, d⟩ := c
  exact ⟨f, fd, fn_wf (fn_pop F), a, b, d⟩
theorem DefK.popWR {k x ps key i} {sp : SpD} (c : DefK P w K mg base k x ps key i sp) : DefK P w K mg base k x ps key i (DL.popWR sp) := by
  obtain ⟨f, fd, F, a, b, d⟩ := c
  exact ⟨f, fd, fn_wf (fn_popR F), a, b, d⟩
end
end DL
end

section
set_option maxRecDepth 100000
set_option maxHeartbeats 4000000
/-! the call, with its keyword, of a name that holds one of several defs with one keyword-only parameter -/
namespace DL
open PySem PySem.Spec L2 PyProof.Rows
variable [TB]
section
variable {X : Cx} {CX : CXT} {k : Nat} {f : Addr} {fd : FuncData} {ps : List Str} {sp : Sp} {E : L2.St → XK} {x : Str} {p pos : Pos} {e : Expr} {es : List Expr} {t : TA}
end
def eCallVK (specs : List (String × SpD)) (i : Nat) (t : TAD) (tk : TED) : TED := fun sd h Q E => match sd[i]? with
  | some (some (.glb x)) => match specs.lookup x with
    | some sp => t sd h (fun ds h1 => tk sd h1 (fun d h2 => sp (ds ++ [d]) h2 Q E) E) E
    | none => False
  | _ => False
/-- what is known of the defs that may be called so -/
def DefsK (P : Program) (w : World) (K : PySem.W.Frag) (mg : Str → Option Value) (base : Heap) (k n : Nat) (key : Str) (specs : List (String × SpD)) : Prop :=
  ∀ c sp, specs.lookup c = some sp → ∃ j ps d, j ≤ k ∧ ps.length = n + 1 ∧ DefK P w K mg base j (Str.ofString c) ps key d sp
section
variable {X : Cx} {W : WX} {k i n : Nat} {x key : Str} {p pos kpos : Pos} {e ke : Expr} {es : List Expr} {t : TAD} {tk : TED} {specs : List (String × SpD)}
end
end DL
end

section
set_option maxRecDepth 100000
set_option maxHeartbeats 4000000
/-! d.get(k, x) of a dict whose keys are fillings -/
namespace DL
open PySem PySem.Spec L2 PyProof.Rows
variable [TB]
section
variable {X : Cx} {o e f : Expr} {td ty tx : TE} {apos cpos : Pos}
def tGetF (X : Cx) (td ty tx : TE) : TE := fun σ H Q => td σ H fun x H1 => ∃ a ob zs, x = .ref a ∧ DfAt X.K H1 a ob zs ∧ ty σ H1 fun y H2 => tx σ H2 fun z H3 => ∃ (b : Addr) (ob : Obj) (zs : List (List (Option Int) × Addr × Value)) (f : List (Option Int)) (v : V), y = .ref b ∧ DfAt X.K H3 a ob zs ∧ SqT X.K H3 b (f.map oV) ∧
  ((∃ p, atKey zs f = some p ∧ RelV v p.2) ∨ (atKey zs f = none ∧ v = z)) ∧ Q v H3
end
/-- d.get(k, x), d a dict whose keys are fillings -/
def eGetF (to ti tx : TED) : TED := fun sd h Q E => to sd h (fun o h1 => match o with
  | .ref n => (∃ ks ds, h1[n]? = some (.df ks ds)) ∧ ti sd h1 (fun i h2 => tx sd h2 (fun x h3 => match h3[n]?, fkOf i with
    | some (.df ks ds), some f => Q ((dgetF ks ds f).getD x) h3
    | _, _ => False) E) E
  | _ => False) E
section
variable {X : Cx} {W : WX} {o e f : Expr} {to te tf : TED} {apos cpos : Pos}
end
end DL
end

section
set_option maxRecDepth 100000
set_option maxHeartbeats 4000000
/-! dicts whose keys are pairs of tuples of numbers: over the heap -/
namespace DL
open PySem PySem.Spec L2 PyProof.Rows
variable [TB]
def nk1 (P : List Int) : NestedKey := .tup (P.map .num)
def nk (k : K2) : NestedKey := .tup [nk1 k.1, nk1 k.2]
/-- at d stands the dict of these pairs -/
structure DnAt (K : PySem.W.Frag) (H : Hp) (d : Addr) (ob : Obj) (zs : List (K2 × Addr × Value)) : Prop where
  hH : H d = some (DFo d ob)
  sm : (d == sysModules) = false
  ex : ob.ExactDict
  dt : ∃ es ep, ob.data = .dict es ep ∧ es.toList = zs.map entN
  nd : (zs.map (·.1)).Nodup
  sz : zs.length ≤ sizeLine
  ks : ∀ z ∈ zs, ∃ a1 a2, SqT K H z.2.1 [V.ref a1, V.ref a2] ∧ SqT K H a1 (z.1.1.map .int) ∧ SqT K H a2 (z.1.2.map .int)
/-- a pair stands at b -/
def P2At (K : PySem.W.Frag) (H : Hp) (b : Addr) (k : K2) : Prop := ∃ a1 a2, SqT K H b [V.ref a1, V.ref a2] ∧ SqT K H a1 (k.1.map .int) ∧ SqT K H a2 (k.2.map .int)
section
variable {X : Cx} {pins : List (Addr × Obj)} {σ : L2.St} {H : Hp} {s : Shared} {b d : Addr} {k : K2} {ob : Obj} {zs : List (K2 × Addr × Value)}
def nkz (z : K2 × Addr × Value) : NestedKey × Addr × Value := (nk z.1, z.2)
end
/-! ### the empty display -/
section
variable {X : Cx} {pos : Pos}
end
/-! ### d.get(k, x) -/
section
variable {X : Cx} {o e f : Expr} {td ty tx : TE} {apos cpos : Pos}
def getN (zs : List (K2 × Addr × Value)) (k : K2) : Option (Addr × Value) := (zs.find? fun z => decide (z.1 = k)).map (·.2)
def tGetN (X : Cx) (td ty tx : TE) : TE := fun σ H Q => td σ H fun x H1 => ∃ a ob zs, x = .ref a ∧ DnAt X.K H1 a ob zs ∧ ty σ H1 fun y H2 => tx σ H2 fun z H3 => ∃ (b : Addr) (ob : Obj) (zs : List (K2 × Addr × Value)) (k : K2) (v : V), y = .ref b ∧ DnAt X.K H3 a ob zs ∧ P2At X.K H3 b k ∧
  ((∃ p, getN zs k = some p ∧ RelV v p.2) ∨ (getN zs k = none ∧ v = z)) ∧ Q v H3
end
/-! ### d[k] = v -/
def stZ (zs : List (K2 × Addr × Value)) (k : K2) (b : Addr) (u : Value) : List (K2 × Addr × Value) := if (getN zs k).isSome then zs.map (fun z => if z.1 = k then (z.1, z.2.1, u) else z) else zs ++ [(k, b, u)]
section
variable {X : Cx}
def rSetN (X : Cx) : TSet := fun o i v H Q => ∃ (d b : Addr) (ob : Obj) (zs : List (K2 × Addr × Value)) (k : K2), o = .ref d ∧ i = .ref b ∧ DnAt X.K H d ob zs ∧ P2At X.K H b k ∧ zs.length < sizeLine ∧
  ∀ (ob' : Obj) (u : Value), RelV v u → ob'.ExactDict → (∃ es ep, ob'.data = .dict es ep ∧ es.toList = (stZ zs k b u).map entN) → ((stZ zs k b u).map (·.1)).Nodup → Q (upd H d (DFo d ob'))
end
/-! ### list(d.values()) -/
def viewV (d : Addr) : Obj := { cls := .type "dict_values", data := .fields #[.ref d] }
def VWo (p d : Addr) : HO := .ext fun h => h.get? p = some (viewV d)
section
variable {X : Cx} {o : Expr} {to : TE} {apos cpos : Pos}
end
end DL
end

section
set_option maxRecDepth 100000
set_option maxHeartbeats 4000000
/-! dicts whose keys are pairs of tuples of numbers: the data layer -/
namespace DL
open PySem PySem.Spec L2 PyProof.Rows
variable [TB]
def k2Of : D → Option K2
  | .tup [.tup xs, .tup ys] => match intsOf xs, intsOf ys with
    | some P, some S => some (P, S)
    | _, _ => none
  | _ => none
section
variable {K : PySem.W.Frag} {mg : Str → Option Value} {G F : Hp} {m : List Addr} {h : DH} {H : Hp}
theorem rps_intsN : ∀ {vs : List V} {xs : List D} {P : List Int}, Rps K mg F m vs xs → intsOf xs = some P → vs = P.map .int
  | [], _, P, .nil, e => by cases e; rfl
  | v :: vs, x :: xs, P, .cons r p, e => by
    cases x with
    | int i =>
      rw [intsOf] at e
      obtain ⟨bs, e1, rfl⟩ := Option.map_eq_some_iff.mp e
      cases r
      rw [List.map_cons, ← rps_intsN p e1]
    | _ => cases e
theorem Rp.k2 {v : V} {d : D} {k : K2} (r : Rp K mg F m v d) (e : k2Of d = some k) : ∃ b, v = .ref b ∧ PairAt K F b k := by
  unfold k2Of at e
  split at e
  · rename_i xs ys
    split at e
    · rename_i P S e1 e2
      cases e
      cases r with
      | tup s p =>
      cases p with
      | cons r1 p =>
      cases p with
      | cons r2 p =>
      cases p
      cases r1 with
      | tup s1 p1 =>
      cases r2 with
      | tup s2 p2 =>
      rw [rps_intsN p1 e1] at s1
      rw [rps_intsN p2 e2] at s2
      exact ⟨_, rfl, _, _, s, s1, s2⟩
    · cases e
  · cases e
theorem p2_of {b : Addr} {k : K2} (sf : Same F H) (x : PairAt K F b k) : P2At K H b k := by
  obtain ⟨a1, a2, h0, h1, h2⟩ := x
  exact ⟨a1, a2, sqT_mono sf h0, sqT_mono sf h1, sqT_mono sf h2⟩
theorem Rel.dn (R : Rel K mg G F m h H) {n : Nat} {ks : List K2} {ds : List D} (hn : h[n]? = some (.dn ks ds)) : ∃ (a : Addr) (ob : Obj) (zs : List (K2 × Addr × Value)) (vs : List V), m[n]? = some a ∧ DnAt K H a ob zs ∧ zs.map (·.1) = ks ∧ (∀ z ∈ zs, PairAt K F z.2.1 z.1) ∧ Vals vs (zs.map (·.2.2)) ∧ Rps K mg F m vs ds := by
  obtain ⟨a, e1, e2, r⟩ := R.lv n _ hn (fun q => nomatch q)
  generalize z : H a = o at r
  cases r with
  | dn h1 h2 h3 h4 h5 h6 h7 h8 p => exact ⟨a, _, _, _, e1, ⟨z, h1, h2, ⟨_, _, h3, h4⟩, h5, h6, fun y hy => p2_of R.sf (h7 y hy)⟩, rfl, h7, h8, p⟩
end
/-- what a table tells -/
def dgetN (ks : List K2) (ds : List D) (k : K2) : Option D := ((ks.zip ds).find? fun z => decide (z.1 = k)).map (·.2)
/-- d.get(k, x) -/
def eGetN (to ti tx : TED) : TED := fun sd h Q E => to sd h (fun o h1 => match o with
  | .ref n => (∃ ks ds, h1[n]? = some (.dn ks ds)) ∧ ti sd h1 (fun i h2 => tx sd h2 (fun x h3 => match h3[n]?, k2Of i with
    | some (.dn ks ds), some k => Q ((dgetN ks ds k).getD x) h3
    | _, _ => False) E) E
  | _ => False) E
def eDic0N : TED := fun _ h Q _ => Q (.ref h.length) (h ++ [.dn [] []])
def stK (ks : List K2) (k : K2) : List K2 := if k ∈ ks then ks else ks ++ [k]
def stV (ks : List K2) (ds : List D) (k : K2) (d : D) : List D := if k ∈ ks then (ks.zip ds).map (fun z => if z.1 = k then d else z.2) else ds ++ [d]
def sSubN (to ti te : TED) : TSD := fun k sd h => te sd h (fun d h1 => to sd h1 (fun o h2 => ti sd h2 (fun i h3 => match o with
  | .ref n => match h3[n]?, k2Of i with
    | some (.dn ks ds), some q => ks.length < sizeLine ∧ k.nx sd (h3.set n (.dn (stK ks q) (stV ks ds q d)))
    | _, _ => False
  | _ => False) (k.E sd)) (k.E sd)) (k.E sd)
/-- list(d.values()) -/
def eListVN (to : TED) : TED := fun sd h Q E => to sd h (fun o h1 => match o with
  | .ref n => (match h1[n]? with
    | some (.dn _ ds) => Q (.lst ds) h1
    | _ => False)
  | _ => False) E
section
variable {X : Cx} {W : WX} {o e f i : Expr} {to te tf ti : TED} {apos cpos pos tpos p : Pos}
end
end DL
end

section
set_option maxRecDepth 100000
set_option maxHeartbeats 4000000
/-! a law that makes lambdas itself -/
namespace DL
open PySem PySem.Spec L2 PyProof.Rows
variable [TB]
section
variable {P : Program} {w : World} {K : PySem.W.Frag} {mg : Str → Option Value} {base : Heap}
end
end DL
end

section
set_option maxRecDepth 100000
set_option maxHeartbeats 4000000
/-! sorted(xs, key=a def): the end of the sort, exact in the heap -/
namespace DL
open PySem PySem.Calls PySem.W PyProof.Rows
section
variable {prog : Program} {w : World} {A : Around} {E : Value → Shared → Prop} {s : Shared} {a kS : Addr} {vs : List Value} {keys : Array Value} {e e1 : Nat} {P : PySem.Fin → Shared → Prop} {kz : List PyData}
/-- behind the sort: the key store is empty, the list holds the sorted items -/
def sortedUp (h : Heap) (kS a : Addr) (out : List Value) : Heap := (h.update kS (Obj.mapSeq fun _ => (#[] : Array Value))).update a (Obj.mapSeq fun _ => out.toArray)
end
/-! ## what a dict gives to sorted -/
section
variable {prog : Program} {w : World} {A : Around} {E : Value → Shared → Prop} {s : Shared}
end
end DL
end

section
set_option maxRecDepth 100000
set_option maxHeartbeats 4000000
/-! sorted(xs, key=a def): the keys are asked -/
namespace DL
open PySem PySem.Spec L2 PySem.Calls PyProof.Rows
variable [TB]
section
variable {X : Cx} {CX : CXT} {k : Nat} {f : Addr} {fd : FuncData} {ps : List Str} {sp : Sp} {pins : List (Addr × Obj)} {σ : L2.St} {P : PySem.Fin → Shared → Prop} {E : Value → Shared → Prop}
end
end DL
end

section
set_option maxRecDepth 100000
set_option maxHeartbeats 4000000
/-! sorted(xs, key=a def): the whole call -/
namespace DL
open PySem PySem.Spec L2 PySem.Calls PyProof.Rows
variable [TB]
/-- what d gives to a loop: these values -/
def SrcK (X : Cx) (d : Addr) (vs : List V) (H : Hp) : Prop := ∀ (pins : List (Addr × Obj)) (σ : L2.St) (s : Shared), Inv X pins σ H s → ∃ us, Vals vs us ∧ vs.length ≤ sizeLine ∧
  ∀ (A : Around) (E : Value → Shared → Prop) (Q : List Value → Shared → Prop), A.handled = none → (∀ h' tk, (∀ b o, s.heap.get? b = some o → h'.get? b = some o) → s.heap.objs.size ≤ h'.objs.size → Q us { s with heap := h', toks := tk }) → wpAny (model X.prog X.w) A (collect (.ref d)) Q E s
/-- the keys and what they sort -/
def rSortK (X : Cx) (f : Addr) (sp : Sp) : List V → List V → Hp → VK → Prop := fun xs zs H Q => ∃ (d : Addr) (vs : List V) (J : Addr → Nat → Hp → List V → Prop), xs = [V.ref d] ∧ zs = [V.ref f] ∧ SrcK X d vs H ∧
  (∀ p, H p = none → J p 0 (upd H p (.lst [])) []) ∧
  (∀ p (i : Nat) H' ks x, J p i H' ks → H' p = some (.lst ks) → vs[i]? = some x → sp [x] H' (fun v H2 => H2 p = some (.lst ks) ∧ J p (i + 1) (upd H2 p (.lst (ks ++ [v]))) (ks ++ [v])) (fun _ _ _ => False)) ∧
  (∀ p H' ks, J p vs.length H' ks → H' p = some (.lst ks) → ∃ kz, DpAll X.K H' ks kz ∧ PySem.W.AllAlike kz ∧ (2 ≤ vs.length → PySem.W.Sortable kz) ∧ (∀ d ∈ kz, d.depth ≤ 30) ∧
    ∀ (zs : List (V × PyData)) (a : Addr), zs.Perm (vs.zip kz) → zs.Pairwise (fun a b => ordP a.2 b.2) → H' a = none → a ≠ p → Q (.ref a) (upd (upd H' p (.lst [])) a (.lst (zs.map (·.1)))))
section
variable {X : Cx} {CX : CXT} {k : Nat} {f : Addr} {fd : FuncData} {ps : List Str} {sp : Sp}
end
end DL
end

section
set_option maxRecDepth 100000
set_option maxHeartbeats 4000000
/-! sorted(d, key=a def), d a dict whose keys are fillings: a new list of the small heap -/
namespace DL
open PySem PySem.Spec L2 PySem.Calls PyProof.Rows
variable [TB]
/-- the keys' keys: what the def tells of each filling -/
def eSortKF (sp : SpD) (t : TED) : TED := fun sd h Q E => t sd h (fun d h1 => match d with
  | .ref n => (match h1[n]? with
    | some (.df ks _) => ∃ (g : List (Option Int) → D) (kz : List PyData), (∀ f ∈ ks, ∀ (Q' : VD) (E' : ED), Q' (g f) h1 → sp [filD f] h1 Q' E') ∧ pysOf (ks.map g) = some kz ∧ PySem.W.AllAlike kz ∧ (2 ≤ ks.length → PySem.W.Sortable kz) ∧ (∀ d ∈ kz, d.depth ≤ 30) ∧
        ∀ zs : List (D × PyData), zs.Perm ((ks.map filD).zip kz) → zs.Pairwise (fun a b => ordP a.2 b.2) → Q (.ref h1.length) (h1 ++ [.lst (zs.map (·.1))])
    | _ => False)
  | _ => False) E
section
variable {X : Cx}
end
section
variable {X : Cx} {W : WX} {k j : Nat} {ps : List Str} {sp : SpD} {x : Str} {p pos kpos npos : Pos} {e : Expr} {te : TED}
end
end DL
end

section
set_option maxRecDepth 100000
set_option maxHeartbeats 4000000
/-! sorted(a list of data): fewer than two items need no order -/
namespace DL
open PySem PySem.Spec L2 PyProof.Rows
variable [TB]
/-- as fSortedO; an order is wanted of two items and more only -/
def fSortedP : FC := fun ds h Q => match ds with
  | [x] => (match lstOf x h with
    | some xs => if xs.length < 2 then Q (.lst xs) h else fSortedO [x] h Q
    | none => False)
  | _ => False
section
variable {X : Cx}
end
end DL
end

section
set_option maxRecDepth 100000
set_option maxHeartbeats 4000000
/-! x >= y of data that are alike -/
namespace DL
open PySem PySem.Spec L2 PyProof.Rows
variable [TB]
def dGeP : F2 := fun x y h Q => match pyTop h x, pyTop h y with
  | some a, some b => PySem.W.alike a b = true ∧ a ≠ .none ∧ a.depth ≤ 30 ∧ Q (.bl (!PySem.W.dataLt a b)) h
  | _, _ => False
section
variable {X : Cx}
end
end DL
end

section
set_option maxRecDepth 100000
set_option maxHeartbeats 4000000
/-! o.m(..), o an instance of a class of the text; several classes -/
namespace DL
open PySem PySem.Spec L2 PyProof.Rows
variable [TB]
section
variable {X : Cx} {CX : CXT} {k : Nat} {f C : Addr} {fd : FuncData} {ps : List Str} {sp : Sp} {E : L2.St → XK} {m : Str} {pos apos : Pos} {e o : Expr} {es : List Expr} {ta : TE} {t : TA}
def tMethG (C : Addr) (m : Str) (sp : Sp) (E : L2.St → XK) (ta : TE) (t : TA) : TE := fun σ H Q => ta σ H fun x H1 => ∃ a dx fs, x = .ref a ∧ H1 a = some (.ins C dx fs) ∧ fs.lookup m = none ∧ t σ H1 fun vs H2 => sp (x :: vs) H2 Q (E σ)
theorem pe_methG {pl : Sem Bool} (he : PE X o ta) (c : Cls X.K C) (hm : Meth X.K C m f) (F : FnG X.prog X.w X.K X.mg X.base CX k f fd ps sp) (hr : RoomG k X.A) (hb : Binds X.K fd ps []) (hx : ∀ σ, PassesAt CX X σ (E σ)) (ha : PA X (e :: es) t)
    (hst : starEach (e :: es) X.env = (false, eval e X.env) :: starEach es X.env := by rfl) (hpl : (backTo pos (starEach es X.env)).any (·.1) = false := by rfl)
    (ht : eval (.Call (.Attribute o m apos) (e :: es) [] pos) X.env = (do
      let ov ← eval o X.env
      standAt apos.atName
      let (f, first) ← holding [ov] (getMethod ov m pl)
      callWith pos f first (backTo pos (starEach (e :: es) X.env)) (backToKw pos (keywordEach [] X.env))) := by rfl) :
    PE X (.Call (.Attribute o m apos) (e :: es) [] pos) (tMethG C m sp E ta t) := by
  refine ⟨fun pins s σ H Q I h => ?_⟩
  refine PySem.W.methodCall_KW (pl := pl) (L2.thn (he.run pins s σ H _ I h) fun u s1 ⟨x, H1, I1, rx, a, dx, fs, ex, ea, l, q⟩ => ?_) ht
  subst ex
  obtain rfl : u = Value.ref a := rx
  refine getmeth_ok I1 ea c hm l ?_
  refine PySem.W.callWith_K (first := [.ref a]) (h₀ := X.base) I.ok.mod.kin hm.kp (L2.thn (ha.run pos pins s1 σ H1 _ I1 q) fun us s2 ⟨vs, H2, I2, r, q2⟩ => ⟨I2.kIn, ?_⟩) hst hpl
  exact run_fnG (us := .ref a :: us) (vs := .ref a :: vs) F hr hb (hx σ) I2 (.cons rfl r) q2
theorem pe_methG0 {pl : Sem Bool} (he : PE X o ta) (c : Cls X.K C) (hm : Meth X.K C m f) (F : FnG X.prog X.w X.K X.mg X.base CX k f fd ps sp) (hr : RoomG k X.A) (hb : Binds X.K fd ps []) (hx : ∀ σ, PassesAt CX X σ (E σ))
    (ht : eval (.Call (.Attribute o m apos) [] [] pos) X.env = (do
      let ov ← eval o X.env
      standAt apos.atName
      let (f, first) ← holding [ov] (getMethod ov m pl)
      callWith pos f first (backTo pos (starEach [] X.env)) (backToKw pos (keywordEach [] X.env))) := by rfl) :
    PE X (.Call (.Attribute o m apos) [] [] pos) (tMethG C m sp E ta tNil) := by
  refine ⟨fun pins s σ H Q I h => ?_⟩
  refine PySem.W.methodCall_KW (pl := pl) (L2.thn (he.run pins s σ H _ I h) fun u s1 ⟨x, H1, I1, rx, a, dx, fs, ex, ea, l, q⟩ => ?_) ht
  subst ex
  obtain rfl : u = Value.ref a := rx
  refine getmeth_ok I1 ea c hm l ?_
  exact PySem.W.callWith_K0 (first := [.ref a]) I1.kIn hm.kp (run_fnG (us := [.ref a]) (vs := [.ref a]) F hr hb (hx σ) I1 (.cons rfl .nil) q)
end
section
variable (P : Program) (w : World) (K : PySem.W.Frag) (mg : Str → Option Value) (base : Heap)
/-- a method m of the class c -/
def MethD (k : Nat) (c m : String) (ps : List Str) (sp : SpD) : Prop :=
  ∃ f C fd, FnG P w K mg base (L2N.CX P w) k f fd ps (LSp K mg ps.length sp) ∧ mg (Str.ofString c) = some (.ref C) ∧ Cls K C ∧ Meth K C (Str.ofString m) f ∧ Binds K fd ps []
end
theorem MethD.imp {P w K mg base k c m ps} {sp sp' : SpD} (z : MethD P w K mg base k c m ps sp) (h : ∀ ds h Q E, ds.length = ps.length → sp' ds h Q E → sp ds h Q E) : MethD P w K mg base k c m ps sp' := by
  obtain ⟨f, C, fd, F, a⟩ := z
  exact ⟨f, C, fd, fn_imp F h, a⟩
theorem MethD.pop {P w K mg base k c m ps} {sp : SpD} (z : MethD P w K mg base k c m ps sp) : MethD P w K mg base k c m ps (popF sp) := by
  obtain ⟨f, C, fd, F, a⟩ := z
  exact ⟨f, C, fd, fn_pop F, a⟩
theorem MethD.popR {P w K mg base k c m ps} {sp : SpD} (z : MethD P w K mg base k c m ps sp) : MethD P w K mg base k c m ps (popFR sp) := by
  obtain ⟨f, C, fd, F, a⟩ := z
  exact ⟨f, C, fd, fn_popR F, a⟩
theorem MethD.popW {P w K mg base k c m ps} {sp : SpD} (z : MethD P w K mg base k c m ps sp) : MethD P w K mg base k c m ps (DL.popW sp) := by
  obtain ⟨f, C, fd, F, a⟩ := z
  exact ⟨f, C, fd, fn_wf (fn_pop F), a⟩
theorem MethD.popWR {P w K mg base k c m ps} {sp : SpD} (z : MethD P w K mg base k c m ps sp) : MethD P w K mg base k c m ps (DL.popWR sp) := by
  obtain ⟨f, C, fd, F, a⟩ := z
  exact ⟨f, C, fd, fn_wf (fn_popR F), a⟩
/-- o.m(e, ..) -/
def eMeth (c m : String) (sp : SpD) (to : TED) (ta : TAD) : TED := fun sd h Q E => to sd h (fun d h1 => match insOf d h1 with
  | some (c', ns, _) => c' = c ∧ ns.contains m = false ∧ ta sd h1 (fun ds h2 => sp (d :: ds) h2 Q E) E
  | none => False) E
theorem lookup_no {m : String} : ∀ {ns : List String} {vs : List V}, ns.contains m = false → ((ns.map Str.ofString).zip vs).lookup (Str.ofString m) = none
  | [], _, _ => rfl
  | n :: ns, [], _ => rfl
  | n :: ns, v :: vs, h => by
    rw [List.contains_cons, Bool.or_eq_false_iff] at h
    have h1 : ¬ m = n := by simpa using h.1
    rw [List.map_cons, List.zip_cons_cons, List.lookup_cons]
    have e : (Str.ofString m == Str.ofString n) = false := beq_eq_false_iff_ne.mpr fun z => h1 (ofString_inj z)
    rw [e]
    exact lookup_no h.2
section
variable {X : Cx} {W : WX} {k j : Nat} {ps : List Str} {sp : SpD} {c m : String} {pos apos : Pos} {o e : Expr} {es : List Expr} {to : TED} {t : TAD}
theorem de_meth (pl : Sem Bool) (z : MethD X.prog X.w X.K X.mg X.base j c m ps sp) (hr : RoomG k X.A) (tk : L2N.Takes X W) (ho : DE X W o to) (ha : DA X W (e :: es) t) (hj : j ≤ k := by first | decide | omega) (hn : (e :: es).length + 1 = ps.length := by rfl)
    (hst : starEach (e :: es) X.env = (false, eval e X.env) :: starEach es X.env := by rfl) (hpl : (backTo pos (starEach es X.env)).any (·.1) = false := by rfl)
    (ht : eval (.Call (.Attribute o (Str.ofString m) apos) (e :: es) [] pos) X.env = (do
      let ov ← eval o X.env
      standAt apos.atName
      let (f, first) ← holding [ov] (getMethod ov (Str.ofString m) pl)
      callWith pos f first (backTo pos (starEach (e :: es) X.env)) (backToKw pos (keywordEach [] X.env))) := by rfl) :
    DE X W (.Call (.Attribute o (Str.ofString m) apos) (e :: es) [] pos) (eMeth c m sp to t) := by
  obtain ⟨f, C, fd, F, hg, cl, M, b⟩ := z
  refine PE.imp (pe_methG (pl := pl) ho cl M F (hr.mono hj) b (fun σ => L2N.passAt tk σ) ha hst hpl ht) fun σ H Q ⟨G, F0, m0, sd, h, QD, E, at_, t0, hQ⟩ => LE.step at_ t0 fun F' m' h' H' v d le a' rp q => ?_
  split at q
  · rename_i c' ns xs ei
    obtain ⟨a, C1, dx, vs, rfl, hH, hC, hl, p⟩ := a'.R.ins rp ei
    obtain ⟨rfl, nm, q⟩ := q
    have eC : C1 = C := by
      rw [hg] at hC
      injection hC with hC
      injection hC with hC
      exact hC.symm
    subst eC
    refine ⟨a, dx, _, rfl, hH, lookup_no nm, LA.step a' q fun F2 m2 h2 H2 vs2 ds2 hl2 le2 a2 rps q2 => ?_⟩
    exact ⟨by rw [List.length_cons, hl2]; exact hn, G, F2, m2, h2, d :: ds2, _, _, a2.R, .cons (rp.mono le2) rps, q2, fun v H'' z => hQ _ _ (z.mono (le.trans le2)), fun cls dx H'' z => a2.E _ _ _ z⟩
  · exact q.elim
theorem de_meth0 (pl : Sem Bool) (z : MethD X.prog X.w X.K X.mg X.base j c m ps sp) (hr : RoomG k X.A) (tk : L2N.Takes X W) (ho : DE X W o to) (hj : j ≤ k := by first | decide | omega) (hn : 1 = ps.length := by rfl)
    (ht : eval (.Call (.Attribute o (Str.ofString m) apos) [] [] pos) X.env = (do
      let ov ← eval o X.env
      standAt apos.atName
      let (f, first) ← holding [ov] (getMethod ov (Str.ofString m) pl)
      callWith pos f first (backTo pos (starEach [] X.env)) (backToKw pos (keywordEach [] X.env))) := by rfl) :
    DE X W (.Call (.Attribute o (Str.ofString m) apos) [] [] pos) (eMeth c m sp to eNil) := by
  obtain ⟨f, C, fd, F, hg, cl, M, b⟩ := z
  refine PE.imp (pe_methG0 (pl := pl) ho cl M F (hr.mono hj) b (fun σ => L2N.passAt tk σ) ht) fun σ H Q ⟨G, F0, m0, sd, h, QD, E, at_, t0, hQ⟩ => LE.step at_ t0 fun F' m' h' H' v d le a' rp q => ?_
  split at q
  · rename_i c' ns xs ei
    obtain ⟨a, C1, dx, vs, rfl, hH, hC, hl, p⟩ := a'.R.ins rp ei
    obtain ⟨rfl, nm, q⟩ := q
    have eC : C1 = C := by
      rw [hg] at hC
      injection hC with hC
      injection hC with hC
      exact hC.symm
    subst eC
    exact ⟨a, dx, _, rfl, hH, lookup_no nm, hn, G, F', m', h', [d], _, _, a'.R, .cons rp .nil, q, fun v H'' z => hQ _ _ (z.mono le), fun cls dx H'' z => a'.E _ _ _ z⟩
  · exact q.elim
end
/-! ## several classes -/
section
variable {K : PySem.W.Frag} {mg : Str → Option Value}
/-- neither class is under the other -/
def Cross (K : PySem.W.Frag) (mg : Str → Option Value) (c c' : String) : Prop := c ≠ c' ∧ ∀ C C', mg (Str.ofString c) = some (.ref C) → mg (Str.ofString c') = some (.ref C') → PySem.W.kitOne K (.ref C') (.ref C) = some false ∧ PySem.W.kitOne K (.ref C) (.ref C') = some false
theorem ownT_cons {c : String} {cs : List String} (A : OwnT K mg [c]) (B : OwnT K mg cs) (x : ∀ c' ∈ cs, Cross K mg c c') : OwnT K mg (c :: cs) := by
  have hc := List.mem_singleton.mpr (rfl : c = c)
  refine ⟨fun d hd => ?_, fun d hd => ?_, fun d hd => ?_, A.hn, A.ht, fun d hd => ?_, fun d hd => ?_, fun d hd C g d' hd' C' g' => ?_, fun d hd => ?_⟩
  · rcases List.mem_cons.mp hd with rfl | hd <;> first | exact A.cl _ hc | exact B.cl _ hd
  · rcases List.mem_cons.mp hd with rfl | hd <;> first | exact A.ha _ hc | exact B.ha _ hd
  · rcases List.mem_cons.mp hd with rfl | hd <;> first | exact A.hm _ hc | exact B.hm _ hd
  · rcases List.mem_cons.mp hd with rfl | hd <;> first | exact A.ob _ hc | exact B.ob _ hd
  · rcases List.mem_cons.mp hd with rfl | hd <;> first | exact A.bo _ hc | exact B.bo _ hd
  · rcases List.mem_cons.mp hd with rfl | hd1
    · rcases List.mem_cons.mp hd' with rfl | hd2
      · exact A.oo _ hc C g _ hc C' g'
      · have z := x _ hd2
        rw [(z.2 C C' g g').1, decide_eq_false (Ne.symm z.1)]
    · rcases List.mem_cons.mp hd' with rfl | hd2
      · have z := x _ hd1
        rw [(z.2 C' C g' g).2, decide_eq_false z.1]
      · exact B.oo _ hd1 C g _ hd2 C' g'
  · rcases List.mem_cons.mp hd with rfl | hd <;> first | exact A.ex _ hc | exact B.ex _ hd
theorem cross_mk {c c' : String} {C C' : Addr} (g : mg (Str.ofString c) = some (.ref C)) (g' : mg (Str.ofString c') = some (.ref C')) (hic : PySem.W.isClsIn K C = true) (hic' : PySem.W.isClsIn K C' = true) (hty : PySem.W.typeIn K (.ref C) = some (.type "type")) (hty' : PySem.W.typeIn K (.ref C') = some (.type "type"))
    (s : PySem.W.subIn K (.ref C) (.ref C) = some true) (h1 : PySem.W.subIn K (.ref C') (.ref C) = some false) (h2 : PySem.W.subIn K (.ref C) (.ref C') = some false) (ne : c ≠ c') : Cross K mg c c' := by
  have hne : C ≠ C' := fun z => by rw [← z, s] at h1; cases h1
  refine ⟨ne, fun D D' e e' => ?_⟩
  rw [g] at e; cases e
  rw [g'] at e'; cases e'
  exact ⟨kit_two hic hty h1 rfl (fun z => absurd z.symm hne), kit_two hic' hty' h2 rfl (fun z => absurd z hne)⟩
end
/-! ## xs.remove(n) of a list of numbers -/
section
variable {X : Cx}
def mRemove : FM := fun o ds h Q => match o, ds with
  | .ref n, [.int k] => match h[n]? with
    | some (.lst xs) => match intsOf xs with
      | some ns => k ∈ ns ∧ Q .non (h.set n (.lst ((ns.erase k).map .int)))
      | none => False
    | _ => False
  | _, _ => False
end
end DL
end

section
set_option maxRecDepth 100000
set_option maxHeartbeats 4000000
/-! == of data that holds lists of the small heap, a step deep -/
namespace DL
open PySem PySem.Spec L2
variable [TB]
mutual
def pyH (h : DH) : D → Option PyData
  | .non => some .none
  | .bl b => some (.bool b)
  | .int i => some (.int i)
  | .str x => some (.str x)
  | .tup xs => (pysH h xs).map .tuple
  | .lst xs => (pysH h xs).map .list
  | .ref n => match h[n]? with
    | some (.lst xs) => (pysOf xs).map .list
    | _ => none
  | _ => none
def pysH (h : DH) : List D → Option (List PyData)
  | [] => some []
  | x :: r => (pyH h x).bind fun a => (pysH h r).map fun b => a :: b
end
def dEqH (neg : Bool) : F2 := fun x y h Q => match pyH h x, pyH h y with
  | some a, some b => SeqAt.shaped a = true ∧ SeqAt.shaped b = true ∧ Q (.bl (neg != PyData.eqv a b)) h
  | _, _ => False
section
variable {K : PySem.W.Frag} {mg : Str → Option Value} {G F : Hp} {m : List Addr} {h : DH} {H : Hp}
mutual
theorem Rp.dpH (R : Rel K mg G F m h H) : ∀ {v : V} {d : D} {p : PyData}, Rp K mg F m v d → pyH h d = some p → Dp K H v p
  | _, _, _, .non, e => by simp only [pyH] at e; cases e; exact .non
  | _, _, _, .bl _, e => by simp only [pyH] at e; cases e; exact .bl _
  | _, _, _, .int _, e => by simp only [pyH] at e; cases e; exact .int _
  | _, _, _, .str _, e => by simp only [pyH] at e; cases e; exact .str _
  | _, .tup ds, _, .tup s r, e => by
    simp only [pyH, Option.map_eq_some_iff] at e
    obtain ⟨ps, e1, rfl⟩ := e
    exact .tup (sqT_mono R.sf s) (Rps.dpH R r e1)
  | _, .lst ds, _, .lst s r, e => by
    simp only [pyH, Option.map_eq_some_iff] at e
    obtain ⟨ps, e1, rfl⟩ := e
    exact .lst (.inl (.inl (R.sf _ _ s))) (Rps.dpH R r e1)
  | _, .ref n, _, .ref hm, e => by
    simp only [pyH] at e
    exact R.dp (.ref hm) (by unfold pyTop; exact e)
  | _, _, _, .ty _, e => by simp only [pyH] at e; cases e
  | _, _, _, .tupx _ _ _ _, e => by simp only [pyH] at e; cases e
  | _, _, _, .scr _ _, e => by simp only [pyH] at e; cases e
  | _, _, _, .dic _ _ _, e => by simp only [pyH] at e; cases e
  | _, _, _, .obj _ _ _ _, e => by simp only [pyH] at e; cases e
  | _, _, _, .glb _, e => by simp only [pyH] at e; cases e
  | _, _, _, .exc0 _, e => by simp only [pyH] at e; cases e
  | _, _, _, .exc1 _ _ _ _, e => by simp only [pyH] at e; cases e
  | _, _, _, .lam _ _, e => by simp only [pyH] at e; cases e
theorem Rps.dpH (R : Rel K mg G F m h H) : ∀ {vs : List V} {ds : List D} {ps : List PyData}, Paired (Rp K mg F m) vs ds → pysH h ds = some ps → DpAll K H vs ps
  | _, _, _, .nil, e => by simp only [pysH] at e; cases e; exact .nil
  | _, _ :: _, _, .cons p r, e => by
    simp only [pysH, Option.bind_eq_some_iff, Option.map_eq_some_iff] at e
    obtain ⟨a, e1, b, e2, rfl⟩ := e
    exact .cons (Rp.dpH R p e1) (Rps.dpH R r e2)
end
end
section
variable {X : Cx}
end
end DL
end

section
set_option maxRecDepth 100000
set_option maxHeartbeats 4000000
/-! x == y where one of them is an instance with an own __eq__, the other anything -/
namespace DL
open PySem PySem.Spec L2 PyProof.Rows PyProof
variable [TB]
abbrev NotI (b : Addr) (T : String) (s : Shared) : Prop := ∀ prog w, PySem.W.Looks (model prog w) s.heap (isInstance (.ref b) (.type T)) false
/-- a value of a built-in kind -/
inductive BK (s : Shared) : Value → Prop
  | non : BK s .none
  | bl (b : Bool) : BK s (.bool b)
  | int (i : Int) (t : Tok) : BK s (.int i t)
  | str (x : Str) (t : Tok) : BK s (.str x t)
  | tup {a : Addr} {o : Obj} (h : s.heap.get? a = some o) (c : o.cls = .type "tuple") : BK s (.ref a)
  | lst {a : Addr} {o : Obj} (h : s.heap.get? a = some o) (c : o.cls = .type "list") : BK s (.ref a)
  | dic {a : Addr} {o : Obj} (h : s.heap.get? a = some o) (c : o.cls = .type "dict") : BK s (.ref a)
section
variable {X : Cx} {pins : List (Addr × Obj)} {σ : L2.St} {H : Hp} {s : Shared}
end
theorem BK.ty {s : Shared} {u : Value} (b : BK s u) : ∃ t, t ∈ "NoneType" :: tyNs ∧ s.TypeIs u t := by
  cases b with
  | non => exact ⟨"NoneType", by decide, rfl⟩
  | bl i => exact ⟨"bool", by decide, rfl⟩
  | int i t => exact ⟨"int", by decide, typeIs_int _ _ _⟩
  | str i t => exact ⟨"str", by decide, typeIs_str _ _ _⟩
  | tup h c => exact ⟨"tuple", by decide, _, h, c⟩
  | lst h c => exact ⟨"list", by decide, _, h, c⟩
  | dic h c => exact ⟨"dict", by decide, _, h, c⟩
section
variable {X : Cx} {k : Nat} {f C : Addr} {fd : FuncData} {ps : List Str} {sp : Sp}
def rRef (K : PySem.W.Frag) (C : Addr) (sp : Sp) : R2 := fun x y H Q => ∃ b dx fs t, y = .ref b ∧ H b = some (.ins C dx fs) ∧ TyX K H x (.type t) ∧ t ∈ "NoneType" :: tyNs ∧ (∀ t ∈ "NoneType" :: tyNs, PySem.W.subIn K (.ref C) (.type t) = some false) ∧
  sp [y, x] H (fun v H' => ∃ z, v = .bl z ∧ Q (.bl z) H') (fun _ _ _ => False)
end
/-- one class's own __eq__, and the other classes of the text -/
structure EqY (P : Program) (w : World) (K : PySem.W.Frag) (mg : Str → Option Value) (base : Heap) (k : Nat) (cs : List String) (c : String) (sp : SpD) : Prop where
  e : ∃ j ps, j + 1 ≤ k ∧ EqD P w K mg base j c ps sp
  hs : ∀ C, mg (Str.ofString c) = some (.ref C) → ∀ t ∈ "NoneType" :: tyNs, PySem.W.subIn K (.ref C) (.type t) = some false
  ho : ∀ C, mg (Str.ofString c) = some (.ref C) → ∀ c' ∈ cs, ∀ C', mg (Str.ofString c') = some (.ref C') → C' = C ∨ PySem.W.subIn K (.ref C') (.ref C) = some false
/-- == (neg: !=): an instance with an own __eq__ on the left; or (== alone) on the right of a built-in kind -/
def dEqX (cs : List String) (es : List (String × SpD)) (neg : Bool) : F2 := fun a b h Q => match ownB a h with
  | some c => ((∃ t, tyB b h = some t) ∨ ∃ c', ownB b h = some c' ∧ c' ∈ cs) ∧ ∃ sp, (c, sp) ∈ es ∧ sp [a, b] h (fun d h' => match d with | .bl z => Q (.bl (neg != z)) h' | _ => False) (fun _ _ _ _ => False)
  | none => neg = false ∧ (∃ t, tyB a h = some t) ∧ ∃ c, ownB b h = some c ∧ ∃ sp, (c, sp) ∈ es ∧ sp [b, a] h (fun d h' => match d with | .bl z => Q (.bl z) h' | _ => False) (fun _ _ _ _ => False)
/-- all of them -/
def EqYs (P : Program) (w : World) (K : PySem.W.Frag) (mg : Str → Option Value) (base : Heap) (k : Nat) (cs : List String) (es : List (String × SpD)) : Prop := ∀ p ∈ es, EqY P w K mg base k cs p.1 p.2
section
variable {X : Cx} {k : Nat} {cs : List String} {es : List (String × SpD)}
def rEqX (X : Cx) (k : Nat) (es : List (String × SpD)) (neg : Bool) : R2 := fun x y H Q => ∃ c sp ps f C fd j, (c, sp) ∈ es ∧ j + 1 ≤ k ∧ EqM X.prog X.w X.K X.mg X.base j c ps sp f C fd ∧ (rEqO X.K C (LSp X.K X.mg 2 sp) neg x y H Q ∨ neg = false ∧ rRef X.K C (LSp X.K X.mg 2 sp) x y H Q)
end
end DL
end

section
set_option maxRecDepth 100000
set_option maxHeartbeats 4000000
/-! texts: split, isdigit, int(text), one sign in a text, the signs of a text, text * k -/
namespace DL
open PySem PySem.Spec L2 PyProof.Rows PyProof
variable [TB]
section
variable {X : Cx}
def mSplit : FM := fun o ds h Q => match o, ds with
  | .str a, [.str b] => (b.length == 0) = false ∧ a.length + 2 ≤ sizeLine ∧ Q (.lst ((Txt.split a b).map D.str)) h
  | _, _ => False
def mSplitR : FM := fun o ds h Q => match o, ds with
  | .str a, [.str b] => (b.length == 0) = false ∧ a.length + 2 ≤ sizeLine ∧ Q (.ref h.length) (h ++ [.lst ((Txt.split a b).map D.str)])
  | _, _ => False
def mDigit : FM := fun o ds h Q => match o, ds with
  | .str a, [] => Q (.bl (Txt.isdigit a)) h
  | _, _ => False
def fIntS : FC := fun ds h Q => match ds with
  | [.str a] => ∃ n, PySem.intText? a = some n ∧ a.length ≤ 640 ∧ Q (.int n) h
  | _ => False
def dInS (neg : Bool) : F2 := fun x y h Q => match x, y with
  | .str a, .str z => ∃ c, a = ⟨#[c]⟩ ∧ Q (.bl (if neg then !decide (c ∈ z.cps.toList) else decide (c ∈ z.cps.toList))) h
  | _, _ => False
def repS (n : Nat) (x : Str) : Str := ⟨(List.replicate n x.cps).foldl (· ++ ·) #[]⟩
def dMulS : F2 := fun x y h Q => match x, y with
  | .str a, .int k => 2 ≤ k ∧ k ≤ 1000 ∧ 0 < a.length ∧ a.length ≤ 1000 ∧ Q (.str (repS k.toNat a)) h
  | _, _ => False
theorem dm_split : MtDD X "str" isStrD "str.split" mSplit := ⟨ty_strJ, _, mt_split, fun G F m h H v d vs ds QD Q R r rs q hQ => by
  unfold mSplit at q
  split at q
  · rename_i a b
    cases r
    obtain ⟨w, rfl, rw_⟩ := Rps.one rs
    cases rw_
    refine ⟨_, _, rfl, rfl, q.1, q.2.1, fun p hp => ?_⟩
    obtain ⟨F', le', R', rq⟩ := R.lstN hp (Rps.of_strs (K := X.K) (mg := X.mg) (F := F) (m := m) (Txt.split a b))
    exact hQ _ _ ⟨F', m, h, _, le', R', rq, q.2.2⟩
  · exact q.elim⟩
theorem dm_splitR : MtDD X "str" isStrD "str.split" mSplitR := ⟨ty_strJ, _, mt_split, fun G F m h H v d vs ds QD Q R r rs q hQ => by
  unfold mSplitR at q
  split at q
  · rename_i a b
    cases r
    obtain ⟨w, rfl, rw_⟩ := Rps.one rs
    cases rw_
    refine ⟨_, _, rfl, rfl, q.1, q.2.1, fun p hp => ?_⟩
    obtain ⟨m', le', R', rq⟩ := R.refN hp (Rps.of_strs (K := X.K) (mg := X.mg) (F := F) (m := m) (Txt.split a b))
    exact hQ _ _ ⟨F, m', _, _, le', R', rq, q.2.2⟩
  · exact q.elim⟩
theorem dc_intS : CallDD X (.type "int") fIntS := ⟨_, call_int_str, fun G F m h H vs ds QD Q R rp q hQ => by
  unfold fIntS at q
  split at q
  · obtain ⟨v, rfl, r⟩ := Rps.one rp
    cases r
    obtain ⟨n, h1, h2, h3⟩ := q
    exact ⟨_, _, rfl, h1, h2, hQ _ _ ⟨F, m, h, _, WLe.refl, R, .int _, h3⟩⟩
  · exact q.elim⟩
theorem do_notinS : OpDD X (compareOp .NotIn) (dInS true) := .of _ op_notIn_sign fun G F m h H x y d e QD Q R rx ry q hQ => by
  unfold dInS at q
  split at q
  · cases rx; cases ry
    obtain ⟨c, rfl, h⟩ := q
    exact ⟨_, _, rfl, rfl, hQ _ _ ⟨F, m, _, _, WLe.refl, R, .bl _, h⟩⟩
  · exact q.elim
end
/-! ## the signs of a text -/
def sgnL (x : Str) : List D := (TL.tl x).map fun c => D.str ⟨#[c]⟩
def iStrD (t : TED) : TID := fun sd h Q E => t sd h (fun d h1 => match d with
  | .str x => x.length ≤ sizeLine ∧ Q (sgnL x) (fun _ => True) h1
  | _ => False) E
section
variable {K : PySem.W.Frag} {mg : Str → Option Value} {G F : Hp} {m : List Addr}
theorem yields_str (x : Str) (hz : x.length ≤ sizeLine) : Yields K mg G F m (sgnL x) (fun _ => True) (Its x) := by
  have hl : (sgnL x).length = x.cps.size := by unfold sgnL; rw [List.length_map]; simp [TL.tl]
  refine ⟨by rw [hl]; exact hz, fun G2 F2 m2 h2 H2 i le sg R2 kp => ⟨fun hi => ⟨by rw [hl] at hi; exact hi, ?_⟩, fun hi _ => by rw [hl] at hi; exact hi⟩⟩
  rintro v H3 ⟨rfl, c, hc, rfl⟩
  refine ⟨F2, _, WLe.refl, R2, ?_, .str _⟩
  unfold sgnL TL.tl
  rw [List.getElem?_map, Array.getElem?_toList, hc]; rfl
end
section
variable {X : Cx} {W : WX} {tg e : Expr} {te : TED}
theorem di_str (he : DE X W e te) : DI X W tg e (iStrD te) :=
  PI.imp (pi_str he) fun σ H R ⟨G, F, m, sd, h, QD, E, at_, t, hQ⟩ => LE.step at_ t fun F' m' h' H' v d le a' rp q => by
    split at q
    · rename_i x
      cases rp
      exact ⟨x, rfl, hQ _ _ ⟨F', m', h', _, _, le, a'.R, yields_str x q.1, q.2⟩⟩
    · exact q.elim
end
end DL
end

section
set_option maxRecDepth 100000
set_option maxHeartbeats 4000000
/-! a module's text; a module's dict of texts to ints, asked by .get(k, x); what is never run -/
namespace DL
open PySem PySem.Spec L2 PyProof.Rows
variable [TB]
section
variable {X : Cx} {W : WX} {x : Str} {p : Pos}
theorem de_gstr {i : Str} (hm : ∃ t, X.mg x = some (.str i t)) (hg : Gl X x := by rfl) (hd : (x == ("__debug__" : Str)) = false := by decide) : DE X W (.Name x p) (eC (.str i)) := by
  obtain ⟨t, hm⟩ := hm
  exact de_glob (v := .str i) hg hm ⟨t, rfl⟩ (fun _ _ => .str i) hd
/-- never run -/
def sNever : TSD := fun _ _ _ => False
theorem ds_never {s : Stmt} : DS X W s sNever := ⟨fun pins s σ H D I ⟨_, _, _, _, _, _, _, _, z, _⟩ => z.elim⟩
end
/-! ## the dict -/
def keyVal (e : DictEntry) : Option (Str × Int) := match e.key, e.val with
  | .str x _, .int i _ => some (x, i)
  | _, _ => none
def KMap (K : PySem.W.Frag) (w : World) (mg : Str → Option Value) (x : Str) (kvs : List (Str × Int)) : Prop :=
  ∃ (a : Addr) (es : Array DictEntry) (n : Nat), mg x = some (.ref a) ∧ KDict K w a es n ∧ es.toList.map keyVal = kvs.map some
theorem find_kv (k : Str) : ∀ {l : List DictEntry} {kvs : List (Str × Int)}, l.map keyVal = kvs.map some →
    (match l.find? (·.key.isStr k) with
      | some e => ∃ i t, kvs.lookup k = some i ∧ e.val = .int i t
      | none => kvs.lookup k = none ∧ l.any (·.refKey) = false)
  | [], [], _ => ⟨rfl, rfl⟩
  | [], _ :: _, h => by cases h
  | _ :: _, [], h => by cases h
  | e :: r, (y, i) :: kvs, h => by
    rw [List.map_cons, List.map_cons] at h
    injection h with h1 h2
    have ih := find_kv k h2
    have hk : ∃ t u, e.key = .str y t ∧ e.val = .int i u := by
      unfold keyVal at h1
      split at h1
      · rename_i a b c d e1 e2
        cases h1
        exact ⟨_, _, e1, e2⟩
      · cases h1
    obtain ⟨t, u, e1, e2⟩ := hk
    rw [List.find?_cons, e1]
    cases z : Value.isStr (.str y t) k with
    | true =>
      have ey : y = k := beq_iff_eq.mp z
      subst ey
      exact ⟨i, u, by rw [List.lookup_cons, beq_self_eq_true], e2⟩
    | false =>
      have ne : ¬ k = y := fun q => by
        have : (y == k) = false := z
        rw [q] at this
        simp at this
      have hne : (k == y) = false := beq_eq_false_iff_ne.mpr ne
      have rk : e.refKey = false := by unfold DictEntry.refKey; rw [e1]
      simp only [List.lookup_cons, hne, List.any_cons, rk, Bool.false_or]
      exact ih
theorem kmap_find {K : PySem.W.Frag} {w : World} {a : Addr} {es : Array DictEntry} {n : Nat} {kvs : List (Str × Int)} (D : KDict K w a es n) (h : es.toList.map keyVal = kvs.map some) (k : Str) :
    ∃ r, PySem.W.nsIn K a k = some r ∧ (match kvs.lookup k with
      | some i => ∃ t, r = some (.int i t)
      | none => r = none) := by
  have q := find_kv k h
  unfold PySem.W.nsIn
  rw [D.at_]
  cases e : es.toList.find? (·.key.isStr k) with
  | none =>
    rw [e] at q
    obtain ⟨q1, q2⟩ := q
    refine ⟨none, ?_, by rw [q1]⟩
    simp only [e, q2]
    rfl
  | some d =>
    rw [e] at q
    obtain ⟨i, t, q1, q2⟩ := q
    refine ⟨some d.val, ?_, by rw [q1]; exact ⟨t, by rw [q2]⟩⟩
    simp only [e]
def eMGet (kvs : List (Str × Int)) (te tf : TED) : TED := fun sd h Q E => te sd h (fun k h1 => match k with
  | .str z => tf sd h1 (fun d h2 => Q (match kvs.lookup z with
    | some i => .int i
    | none => d) h2) E
  | _ => False) E
section
variable {X : Cx} {W : WX} {x : Str} {p : Pos} {e f : Expr} {te tf : TED} {apos cpos : Pos} {kvs : List (Str × Int)}
def tMGet (K : PySem.W.Frag) (w : World) (a : Addr) (te tf : TE) : TE := fun σ H Q => te σ H fun y H1 => tf σ H1 fun z H2 => ∃ (k : Str) (r : Option Value) (v : V), y = .str k ∧ PySem.W.nsIn K a k = some r ∧ (match r with
  | some u => RelV v u
  | none => v = z) ∧ Q v H2
theorem pe_mget {ty tx : TE} {a : Addr} {es : Array DictEntry} {n : Nat} (hg : Gl X x) (hm : X.mg x = some (.ref a)) (D : KDict X.K X.w a es n) (hd : (x == ("__debug__" : Str)) = false) (he : PE X e ty) (hf : PE X f tx) (m : M2 X (.Name x p) "get" apos e f cpos) : PE X (.Call (.Attribute (.Name x p) "get" apos) [e, f] [] cpos) (tMGet X.K X.w a ty tx) := by
  refine ⟨fun pins s σ H Q I h => ?_⟩
  have ho : PE X (.Name x p) (tC (.ref a)) := pe_glob hg hm rfl hd
  refine wpAny_Call_method m.base m.few m.line PySem.F.plainAttrs_dict PySem.F.slot_dict_get PySem.F.type_dict_get (thn (ho.run pins s σ H (fun v H1 => v = V.ref a ∧ tMGet X.K X.w a ty tx σ H1 Q) I ⟨rfl, h⟩) fun u s1 ⟨y, H1, I1, rx, ex, q1⟩ => ?_)
  subst ex
  obtain rfl : u = Value.ref a := rx
  have hmap := PySem.W.mapOf_K (prog := X.prog) (w := X.w) I1.kIn D.at_ D.lit
  refine ⟨kd_type D I1, fun b eb => by
    cases eb
    exact ⟨_, I1.kIn _ _ D.at_, rfl⟩, ?_⟩
  rw [m.trees]
  refine Calls.callWith_builtin rfl (Calls.evalArgs_plain (Calls.spliced_cons (thn (he.run pins s1 σ H1 _ I1 q1) fun iv s2 ⟨y, H2, I2, ry, q2⟩ =>
    Calls.spliced_cons (thn (hf.run pins s2 σ H2 _ I2 q2) fun fv s3 ⟨z, H3, I3, rz, k, r, v, ey, e1, e2, q3⟩ => Calls.spliced_nil ?_))))
  subst ey
  obtain ⟨t, rfl⟩ := _root_.id ry
  have hmap3 := PySem.W.mapOf_K (prog := X.prog) (w := X.w) I3.kIn D.at_ D.lit
  refine call_meetsIn PySem.F.slot_dict_get hmap3.typeIs PySem.F.entry_dict_get (PySem.F.args_dict_get_3 _ _ _) (meets_dict_get_default (strKind X.prog X.w) a (strKind_is X.prog X.w k t) D.low fv) ⟨_, hmap3, ?_⟩
  rw [PySem.W.find_K D.at_ e1]
  refine ⟨v, H3, I3.tok _, ?_, q3⟩
  cases r with
  | none =>
    have e2 : v = z := e2
    rw [e2]; exact rz
  | some u => exact e2
theorem de_mget (M : KMap X.K X.w X.mg x kvs) (he : DE X W e te) (hf : DE X W f tf) (hg : Gl X x := by rfl) (hd : (x == ("__debug__" : Str)) = false := by decide) (m : M2 X (.Name x p) "get" apos e f cpos := by exact ⟨by rfl, by rfl, by rfl, by rfl⟩) :
    DE X W (.Call (.Attribute (.Name x p) "get" apos) [e, f] [] cpos) (eMGet kvs te tf) := by
  obtain ⟨a, es, n, hm, D, ekv⟩ := M
  refine PE.imp (pe_mget hg hm D hd he hf m) ?_
  rintro σ H Q ⟨G, F, mm, sd, h, QD, E, at_, t, hQ⟩
  refine LE.step at_ t fun F2 m2 h2 H2 y i le2 a2 ry q2 => ?_
  split at q2
  · rename_i z
    cases ry
    refine LE.step a2 q2 fun F3 m3 h3 H3 y3 d le3 a3 rd q3 => ?_
    obtain ⟨r, e1, e2⟩ := kmap_find D ekv z
    cases el : kvs.lookup z with
    | none =>
      rw [el] at e2 q3
      exact ⟨z, r, _, rfl, e1, by rw [e2], hQ _ _ ⟨F3, m3, h3, _, le2.trans le3, a3.R, rd, q3⟩⟩
    | some i =>
      rw [el] at e2 q3
      obtain ⟨t, e2⟩ := e2
      exact ⟨z, r, .int i, rfl, e1, by rw [e2]; exact ⟨t, rfl⟩, hQ _ _ ⟨F3, m3, h3, _, le2.trans le3, a3.R, .int _, q3⟩⟩
  · exact q2.elim
end
end DL
end

section
set_option maxRecDepth 100000
set_option maxHeartbeats 4000000
/-! a list's part as an object of the small heap -/
namespace DL
open PySem PySem.Spec L2 PyProof.Rows
variable [TB]
def eSlR (t : TED) (lo hi : TOD) : TED := fun sd h Q E => t sd h (fun x h1 => lo sd h1 (fun l h2 => hi sd h2 (fun u h3 => match listOf x h3 with
  | some xs => Q (.ref h3.length) (h3 ++ [.lst (cutD xs l u)])
  | none => False) E) E) E
section
variable {X : Cx} {W : WX} {e : Expr} {te : TED} {lo hi : Option Expr} {tl th : TOD} {pos p2 : Pos}
theorem de_slR (he : DE X W e te) (hl : DO X W lo tl) (hu : DO X W hi th) : DE X W (.Subscript e (.Slice lo hi none p2) pos) (eSlR te tl th) :=
  PE.imp (pe_slice sl_list he hl hu) fun σ H Q ⟨G, F, m, sd, h, QD, E, at_, t, hQ⟩ =>
    LE.step at_ t fun F1 m1 h1 H1 v d le1 a1 rp q1 => LO.step a1 q1 fun F2 m2 h2 H2 l le2 a2 q2 => LO.step a2 q2 fun F3 m3 h3 H3 u le3 a3 q3 => by
      have rp3 := rp.mono (le2.trans le3)
      have le := le1.trans (le2.trans le3)
      split at q3
      · rename_i xs e1
        obtain ⟨a, vs, rfl, hv, p⟩ := a3.R.listOf rp3 e1
        refine ⟨a, vs, rfl, hv, fun p' hp' => ?_⟩
        obtain ⟨m', le', R', rq⟩ := a3.R.refN hp' (Rps.cut p l u)
        exact hQ _ _ ⟨F3, m', _, _, le.trans le', R', rq, q3⟩
      · exact q3.elim
end
end DL
end

section
set_option maxRecDepth 100000
set_option maxHeartbeats 4000000
namespace DL
open PySem PySem.Spec L2
instance : TB := ⟨[]⟩
/-! common -/
/-- a thing whose kind the text can ask -/
def Kn (x : D) (h : DH) : Prop := (∃ t, tyB x h = some t) ∨ tyB x h = none ∧ ownB x h = some "Book"
theorem cutD_map {α : Type} (f : α → D) (xs : List α) (lo hi : Option Int) : ∃ a b, cutD (xs.map f) lo hi = ((xs.drop a).take b).map f := by
  refine ⟨HT.sIx (xs.map f).length 0 lo, HT.sIx (xs.map f).length (xs.map f).length hi - HT.sIx (xs.map f).length 0 lo, ?_⟩
  unfold cutD
  rw [← List.map_drop, ← List.map_take]
theorem get_last {α : Type} (h : List α) (o : α) : (h ++ [o])[h.length]? = some o := by simp
theorem fmod_nn (a : Int) {b : Int} (hb : 0 < b) : 0 ≤ Int.fmod a b := Int.fmod_nonneg_of_pos a hb
theorem fmod_lt (a : Int) {b : Int} (hb : 0 < b) : Int.fmod a b < b := Int.fmod_lt_of_pos a hb
theorem get_set_self {α : Type} {h : List α} {n : Nat} {o u : α} (e : h[n]? = some u) : (h.set n o)[n]? = some o := by
  obtain ⟨hn, _⟩ := List.getElem?_eq_some_iff.mp e
  simp [hn]
theorem set_set' {α : Type} (h : List α) (n : Nat) (a b : α) : (h.set n a).set n b = h.set n b := List.set_set ..
theorem atI_0 {α : Type} (x : α) (r : List α) : atI (x :: r) 0 = some x := by
  unfold atI ixN
  simp only [List.length_cons]
  rw [if_pos (by decide), if_pos (by omega)]; rfl
theorem atI_nat {α : Type} {xs : List α} {i : Int} {x : α} (h0 : 0 ≤ i) (e : xs[i.toNat]? = some x) : atI xs i = some x := by
  obtain ⟨hl, _⟩ := List.getElem?_eq_some_iff.mp e
  unfold atI ixN
  rw [if_pos h0, if_pos (by omega)]
  exact e
theorem ixN_nat {n : Nat} {i : Int} (h0 : 0 ≤ i) (h : i < n) : ixN n i = some i.toNat := by
  unfold ixN
  rw [if_pos h0, if_pos h]
theorem sIx_none (n d : Nat) : HT.sIx n d none = d := rfl
theorem sIx_nat (n d k : Nat) : HT.sIx n d (some (k : Int)) = min k n := by
  show (if (k : Int) < 0 then ((k : Int) + (n : Int)).toNat else min (k : Int).toNat n) = min k n
  rw [if_neg (by omega), Int.toNat_natCast]
theorem cutD_from (xs : List D) (k : Nat) : cutD xs (some (k : Int)) none = xs.drop k := by
  unfold cutD
  rw [sIx_none, sIx_nat, List.take_of_length_le (by rw [List.length_drop]; omega)]
  by_cases h : k ≤ xs.length
  · rw [Nat.min_eq_left h]
  · rw [Nat.min_eq_right (by omega), List.drop_eq_nil_of_le (Nat.le_refl _), List.drop_eq_nil_of_le (by omega)]
theorem cutD_upto (xs : List D) (k : Nat) : cutD xs none (some (k : Int)) = xs.take k := by
  unfold cutD
  rw [sIx_none, sIx_nat, List.drop_zero, Nat.sub_zero]
  by_cases h : k ≤ xs.length
  · rw [Nat.min_eq_left h]
  · rw [Nat.min_eq_right (by omega), List.take_of_length_le (Nat.le_refl _), List.take_of_length_le (by omega)]
theorem zipL_map {α β : Type} (f : α → D) (g : β → D) : ∀ (xs : List α) (ys : List β), zipL (xs.map f) (ys.map g) = (xs.zip ys).map fun p => .tup [f p.1, g p.2]
  | [], _ => rfl
  | _ :: _, [] => rfl
  | x :: xs, y :: ys => by
    have ih := zipL_map f g xs ys
    unfold zipL at ih ⊢
    simp only [List.map_cons, List.zipWith_cons_cons, List.zip_cons_cons]
    rw [ih]
theorem wz_tup {xs ys : List D} {h : DH} {Q : QIt} : wZip [.tup xs, .tup ys] h Q = Q (zipL xs ys) (fun _ => True) h := rfl
theorem blsOf_p {α : Type} (p : α → Bool) : ∀ xs : List α, blsOf (xs.map fun x => D.bl (p x)) = some (xs.map p)
  | [] => rfl
  | x :: r => by
    simp only [List.map_cons, blsOf, blsOf_p p r, Option.map_some]
theorem all_bls {α : Type} (p : α → Bool) (xs : List α) {h : DH} {Q : VD} : fAll (fun bs => bs.all id) [.lst (xs.map fun x => D.bl (p x))] h Q = Q (.bl (xs.all p)) h := by
  have e : (List.map p xs).all id = xs.all p := by rw [List.all_map]; rfl
  unfold fAll
  simp only [lstOf, blsOf_p, e]
theorem any_bls {α : Type} (p : α → Bool) (xs : List α) {h : DH} {Q : VD} : fAll (fun bs => bs.any id) [.lst (xs.map fun x => D.bl (p x))] h Q = Q (.bl (xs.any p)) h := by
  have e : (List.map p xs).any id = xs.any p := by rw [List.any_map]; rfl
  unfold fAll
  simp only [lstOf, blsOf_p, e]
theorem fm_some {α β : Type} (f : α → β) (xs : List α) : xs.filterMap (fun x => some (f x)) = xs.map f := by rw [List.filterMap_eq_map']
def enumFrom : Nat → List D → List D
  | _, [] => []
  | i, x :: r => .tup [.int (i : Nat), x] :: enumFrom (i + 1) r
theorem enumL_from (xs : List D) : enumL xs = enumFrom 0 xs := by
  have key : ∀ (xs : List D) (i : Nat), (List.range' i xs.length).zipWith (fun i x => D.tup [.int (i : Nat), x]) xs = enumFrom i xs := by
    intro xs
    induction xs with
    | nil => intro i; rfl
    | cons x r ih =>
      intro i
      simp only [List.length_cons, List.range'_succ, List.zipWith_cons_cons, enumFrom]
      rw [ih]
  unfold enumL
  rw [List.range_eq_range']
  exact key xs 0
def mayD (may : List (List Int)) : D := .tup (may.map fun s => .tup (s.map .int))
/-- a book as a value -/
def bookD (posts : Int) (may : List (List Int)) : D := .obj "Book" ["posts", "may"] [.int posts, mayD may]
theorem ins_book {posts : Int} {may : List (List Int)} {h : DH} : insOf (bookD posts may) h = some ("Book", ["posts", "may"], [.int posts, mayD may]) := rfl
theorem fget_posts {a b : D} : fget ["posts", "may"] [a, b] "posts" = some a := rfl
theorem fget_may {a b : D} : fget ["posts", "may"] [a, b] "may" = some b := rfl
theorem mem_Book : ("Book" ∈ ["Book"]) = True := by simp
theorem it_tup {xs : List D} {h : DH} : itemsOf (.tup xs) h = some xs := rfl
theorem it_lst {xs : List D} {h : DH} : itemsOf (.lst xs) h = some xs := rfl
theorem it_scr {xs : List D} {h : DH} : itemsOf (.scr xs) h = some xs := rfl
theorem it_ref {n : Nat} {h : DH} : itemsOf (.ref n) h = (match h[n]? with | some (.lst xs) => some xs | _ => none) := rfl
theorem it_may {may : List (List Int)} {h : DH} : itemsOf (mayD may) h = some (may.map fun s => .tup (s.map .int)) := rfl
theorem it_int {i : Int} {h : DH} : itemsOf (.int i) h = none := rfl
theorem it_str {i : Str} {h : DH} : itemsOf (.str i) h = none := rfl
theorem lo_lst {xs : List D} {h : DH} : lstOf (.lst xs) h = some xs := rfl
theorem lo_tup {xs : List D} {h : DH} : lstOf (.tup xs) h = none := rfl
theorem lo_int {xs : Int} {h : DH} : lstOf (.int xs) h = none := rfl
theorem lo_ref {n : Nat} {h : DH} : lstOf (.ref n) h = (match h[n]? with | some (.lst xs) => some xs | _ => none) := rfl
theorem li_lst {xs : List D} {h : DH} : listOf (.lst xs) h = some xs := rfl
theorem li_scr {xs : List D} {h : DH} : listOf (.scr xs) h = some xs := rfl
theorem li_tup {xs : List D} {h : DH} : listOf (.tup xs) h = none := rfl
theorem li_ref {n : Nat} {h : DH} : listOf (.ref n) h = (match h[n]? with | some (.lst xs) => some xs | _ => none) := rfl
theorem enumFrom_zip : ∀ (xs : List D) (i : Nat), enumFrom i xs = (xs.zipIdx i).map fun p => .tup [.int (p.2 : Nat), p.1]
  | [], _ => rfl
  | x :: r, i => by rw [enumFrom, List.zipIdx_cons, List.map_cons, enumFrom_zip r (i + 1)]
theorem enumL_zip (xs : List D) : enumL xs = xs.zipIdx.map fun p => .tup [.int (p.2 : Nat), p.1] := by rw [enumL_from, enumFrom_zip]
theorem it_fil {f : List (Option Int)} {h : DH} : itemsOf (filD f) h = some (f.map oI) := rfl
theorem atI_map {α : Type} {f : α → D} {xs : List α} {i : Int} {x : α} (h0 : 0 ≤ i) (e : xs[i.toNat]? = some x) : atI (xs.map f) i = some (f x) := atI_nat h0 (by rw [List.getElem?_map, e]; rfl)
theorem kn_int {i : Int} {h : DH} : Kn (.int i) h := .inl ⟨_, rfl⟩
theorem kn_bl {i : Bool} {h : DH} : Kn (.bl i) h := .inl ⟨_, rfl⟩
theorem kn_non {h : DH} : Kn .non h := .inl ⟨_, rfl⟩
theorem kn_str {i : Str} {h : DH} : Kn (.str i) h := .inl ⟨_, rfl⟩
theorem kn_tup {i : List D} {h : DH} : Kn (.tup i) h := .inl ⟨_, rfl⟩
theorem kn_lst {i : List D} {h : DH} : Kn (.lst i) h := .inl ⟨_, rfl⟩
theorem kn_oI {o : Option Int} {h : DH} : Kn (oI o) h := by cases o; exact kn_non; exact kn_int
theorem kn_book {a : Int} {b : List (List Int)} {h : DH} : Kn (bookD a b) h := .inr ⟨rfl, rfl⟩
theorem kn_ref {n : Nat} {xs : List D} {h : DH} (e : h[n]? = some (.lst xs)) : Kn (.ref n) h := .inl ⟨"list", by unfold tyB; simp only [e]⟩
theorem isNon_oI (o : Option Int) : isNon (oI o) = !o.isSome := by cases o <;> rfl
theorem isNon_non : isNon .non = true := rfl
theorem isNon_int {i : Int} : isNon (.int i) = false := rfl
theorem isNon_bl {i : Bool} : isNon (.bl i) = false := rfl
theorem isNon_str {i : Str} : isNon (.str i) = false := rfl
theorem isNon_ty {i : String} : isNon (.ty i) = false := rfl
theorem isNon_tupx (xs : List D) : isNon (.tupx xs) = false := rfl
theorem isNon_tup {i : List D} : isNon (.tup i) = false := rfl
theorem isNon_lst {i : List D} : isNon (.lst i) = false := rfl
theorem isNon_scr {i : List D} : isNon (.scr i) = false := rfl
theorem isNon_dic {a : List Key} {i : List D} : isNon (.dic a i) = false := rfl
theorem isNon_obj {c : String} {a : List String} {i : List D} : isNon (.obj c a i) = false := rfl
theorem isNon_ref {i : Nat} : isNon (.ref i) = false := rfl
theorem isNon_glb {i : String} : isNon (.glb i) = false := rfl
theorem isNon_exc {a : Addr} {b : Value} {c : Option Addr} {d : String} {e : List String} {f : List D} : isNon (.exc a b c d e f) = false := rfl
theorem isNon_lam {f c : Addr} {q : Str} {vs : List V} {xs : List D} : isNon (.lam f c q vs xs) = false := rfl
theorem isNon_book {a : Int} {b : List (List Int)} : isNon (bookD a b) = false := rfl
theorem put_nat {xs : List D} {i : Int} {d : D} {k : O → Prop} (h0 : 0 ≤ i) (h : i.toNat < xs.length) : put (.lst xs) (.int i) d k = k (.lst (xs.set i.toNat d)) := by
  unfold put
  simp only [ixN_nat h0 (show i < (xs.length : Int) by omega)]
theorem nrDs_oI {n : Nat} : ∀ f : List (Option Int), nrDs n (f.map oI) = true
  | [] => rfl
  | none :: r => by simp only [List.map_cons, oI, nrDs, nrD, Bool.true_and]; exact nrDs_oI r
  | some _ :: r => by simp only [List.map_cons, oI, nrDs, nrD, Bool.true_and]; exact nrDs_oI r
theorem nrD_fil {n : Nat} (f : List (Option Int)) : nrD n (filD f) = true := nrDs_oI f
theorem wf_take {h : DH} (w : WF h) {o : O} : ((h ++ [o]).take h.length).all (nrO h.length) = true := by
  rw [List.take_left]
  exact List.all_eq_true.mpr w
theorem set_last {h : DH} {o u : O} : (h ++ [o]).set h.length u = h ++ [u] := by simp
/-! the heap's end: own objects behind what stood -/
theorem ga {α : Type} {h0 t : List α} {L : Nat} (c : Nat) (e : h0.length = L) : (h0 ++ t)[L + c]? = t[c]? := by
  rw [List.getElem?_append_right (by omega)]
  congr 1
  omega
theorem ga0 {α : Type} {h0 t : List α} {L : Nat} (e : h0.length = L) : (h0 ++ t)[L]? = t[0]? := ga 0 e
theorem gl {α : Type} {h0 t : List α} {n : Nat} (h : n < h0.length) : (h0 ++ t)[n]? = h0[n]? := List.getElem?_append_left h
theorem sa {α : Type} {h0 t : List α} {L : Nat} {o : α} (c : Nat) (e : h0.length = L) : (h0 ++ t).set (L + c) o = h0 ++ t.set c o := by
  rw [List.set_append_right _ _ (by omega)]
  congr 2
  omega
theorem sa0 {α : Type} {h0 t : List α} {L : Nat} {o : α} (e : h0.length = L) : (h0 ++ t).set L o = h0 ++ t.set 0 o := sa 0 e
theorem nrDs_ints {n : Nat} : ∀ l : List Int, nrDs n (l.map D.int) = true
  | [] => rfl
  | i :: r => by simp only [List.map_cons, nrDs, nrD, Bool.true_and]; exact nrDs_ints r
theorem items_nr {d : D} {h : DH} {xs : List D} (w : WF h) (hd : nrD h.length d = true) (e : itemsOf d h = some xs) : nrDs h.length xs = true := by
  unfold itemsOf at e
  cases d with
  | tup ys => cases e; exact hd
  | lst ys => cases e; exact hd
  | scr ys => cases e; exact hd
  | ref n =>
    simp only at e
    cases e1 : h[n]? with
    | none => rw [e1] at e; cases e
    | some o =>
      rw [e1] at e
      have := w o (List.mem_of_getElem? e1)
      cases o <;> first | (cases e; exact this) | cases e
  | _ => cases e
theorem erase_perm {α : Type} {l : List α} {i : Nat} (h : i < l.length) : (l[i] :: l.eraseIdx i).Perm l := by
  have e : l.take i ++ l[i] :: l.drop (i + 1) = l := by rw [List.getElem_cons_drop h, List.take_append_drop]
  rw [List.eraseIdx_eq_take_drop_succ]
  refine List.Perm.trans (List.perm_middle.symm) ?_
  rw [e]
theorem lstOf_cases {x : D} {h : DH} {xs : List D} (e : lstOf x h = some xs) : x = .lst xs ∨ ∃ n, x = .ref n ∧ h[n]? = some (.lst xs) := by
  unfold lstOf at e
  cases x with
  | lst ys => cases e; exact .inl rfl
  | ref n =>
    simp only at e
    cases e1 : h[n]? with
    | none => rw [e1] at e; cases e
    | some o => rw [e1] at e; cases o <;> first | (cases e; exact .inr ⟨n, rfl, e1⟩) | cases e
  | _ => cases e
def fillsD (may : List (List Int)) (person : Nat) (post : D) : Bool := match post with
  | .non => true
  | .int i => decide (i ∈ may.getD person [])
  | _ => false
def isI (x : D) : Option Int := match x with
  | .int i => some i
  | _ => none
/-- whether a thing is a filling -/
def rightD (may : List (List Int)) (thing : D) : Bool := match thing with
  | .tup xs => decide (xs.length = may.length) && xs.zipIdx.all (fun p => fillsD may p.2 p.1) && decide (xs.filterMap isI).Nodup
  | _ => false
theorem mem_zipIdx0 {xs : List D} {p : D × Nat} (h : p ∈ xs.zipIdx) : xs[p.2]? = some p.1 := List.mem_zipIdx_iff_getElem?.mp h
/-- C(..) with these arguments -/
def mkK (c : String) (sp : SpD) (Q : VD) (E : ED) (ds : List D) (h1 : DH) : Prop := sp (.ref h1.length :: ds) (h1 ++ [.ins c [] []]) (fun d h2 => match d with
  | .non => match h2[h1.length]? with
    | some (.ins c' ns xs) => nrDs h1.length xs = true ∧ (h2.take h1.length).all (nrO h1.length) = true ∧ Q (.obj c' ns xs) (h2.take h1.length)
    | _ => False
  | _ => False) (popE h1.length E)
theorem eMkV_eq (c : String) (sp : SpD) (t : TAD) : eMkV c sp t = fun sd h Q E => t sd h (fun ds h1 => mkK c sp Q E ds h1) E := rfl

/-! is_integer -/
def isT (n : String) (x : D) (h : DH) : Bool := match tyB x h with
  | some t => tyIs t n
  | none => false
theorem isi_eq {x : D} {h : DH} {n : String} {Q : VD} (hk : Kn x h) (hn : n ∈ tyNs) : fIsi ["Book"] [x, .ty n] h Q = Q (.bl (isT n x h)) h := by
  unfold fIsi isT
  rcases hk with ⟨t, e⟩ | ⟨e, e2⟩
  · simp only [e, hn, true_and]
  · simp only [e, e2, hn, true_and]
    simp
def isInt : D → Bool
  | .int _ => true
  | _ => false
theorem isInt_eq {x : D} {h : DH} : (isT "int" x h && !isT "bool" x h) = isInt x := by
  unfold isT
  cases x with
  | ref n =>
    unfold tyB
    cases e : h[n]? with
    | none => simp only [e]; rfl
    | some o => cases o <;> simp only [e] <;> rfl
  | _ => first | rfl | (simp only [tyB]; rfl)

/-! is_within -/
def wiD (x : D) (lo hi : Int) : Bool := match x with
  | .int i => decide (lo ≤ i) && decide (i ≤ hi)
  | _ => false

/-! is_rising -/
def strictB : List Int → Bool
  | a :: b :: r => decide (a < b) && strictB (b :: r)
  | _ => true
theorem strictB_iff : ∀ {l : List Int}, strictB l = true ↔ l.Pairwise (· < ·)
  | [] => by simp [strictB]
  | [a] => by simp [strictB]
  | a :: b :: r => by
    rw [strictB, Bool.and_eq_true, decide_eq_true_eq, strictB_iff (l := b :: r)]
    constructor
    · rintro ⟨h1, h2⟩
      refine List.pairwise_cons.mpr ⟨fun x hx => ?_, h2⟩
      rcases List.mem_cons.mp hx with rfl | hx
      · exact h1
      · exact Int.lt_trans h1 ((List.pairwise_cons.mp h2).1 x hx)
    · exact fun h => ⟨(List.pairwise_cons.mp h).1 b List.mem_cons_self, (List.pairwise_cons.mp h).2⟩
theorem strictB_zip : ∀ l : List Int, ((l.zip (l.drop 1)).all fun p => decide (p.1 < p.2)) = strictB l
  | [] => rfl
  | [a] => rfl
  | a :: b :: r => by
    have ih := strictB_zip (b :: r)
    simp only [List.drop_succ_cons, List.drop_zero, List.zip_cons_cons, List.all_cons] at ih ⊢
    rw [strictB, ← ih]
/-- whether a thing is an ascending tuple of ints below many -/
def risD (x : D) (many : Int) : Bool := match x with
  | .tup xs => match intsOf xs with
    | some ns => ns.all (fun i => wiD (.int i) 0 (many - 1)) && strictB ns
    | none => false
  | _ => false
theorem all_wi {xs : List D} {a b : Int} : xs.all (fun x => wiD x a b) = (match intsOf xs with | some ns => ns.all (fun i => wiD (.int i) a b) | none => false) := by
  induction xs with
  | nil => rfl
  | cons x r ih =>
    cases x with
    | int i =>
      simp only [intsOf, List.all_cons, ih]
      cases intsOf r with
      | none => simp
      | some ns => simp
    | _ => simp [intsOf, wiD]

/-! init_Book -/
/-- the posts of the persons from the i-th on: which one is none -/
def mayFault (posts : Int) : Nat → List D → Option Nat
  | _, [] => none
  | i, s :: r => if 12 ≤ i || !risD s posts then some i else mayFault posts (i + 1) r
/-- what BadBook tells -/
def bookFault (posts may : D) : Option (Str × Int) := match posts with
  | .int p => if wiD posts 0 12 = true then (match may with
    | .tup ms => (mayFault p 0 ms).map fun i => (("may" : Str), ((i : Nat) : Int))
    | _ => some (("may" : Str), (-1 : Int))) else some (("posts" : Str), (-1 : Int))
  | _ => some (("posts" : Str), (-1 : Int))
theorem isT_tup {x : D} {h : DH} : isT "tuple" x h = (match x with | .tup _ => true | _ => false) := by
  unfold isT
  cases x with
  | ref n =>
    unfold tyB
    cases e : h[n]? with
    | none => simp only [e]
    | some o => cases o <;> simp only [e] <;> rfl
  | _ => first | rfl | (simp only [tyB]; rfl)

/-! check_book -/
def isBook (x : D) (h : DH) : Bool := match tyB x h with
  | some _ => false
  | none => true
theorem isi_book {x : D} {h : DH} {Q : VD} (hk : Kn x h) : fIsi ["Book"] [x, .glb "Book"] h Q = Q (.bl (isBook x h)) h := by
  unfold fIsi isBook
  rcases hk with ⟨t, e⟩ | ⟨e, e2⟩
  · simp only [e]; simp
  · simp only [e, e2]; simp

/-! fills -/
theorem mayD_at {may : List (List Int)} {i : Int} {s : List Int} (h0 : 0 ≤ i) (e : may[i.toNat]? = some s) : atI (may.map fun s => D.tup (s.map .int)) i = some (.tup (s.map .int)) :=
  atI_nat h0 (by rw [List.getElem?_map, e]; rfl)
theorem eqF_int (a b : Int) : eqF (.int a) (.int b) = (a == b) := rfl
theorem any_eqF (i : Int) (s : List Int) : ((s.map D.int).any fun z => eqF z (.int i)) = decide (i ∈ s) := by
  induction s with
  | nil => rfl
  | cons a r ih =>
    have e : decide (i ∈ a :: r) = (decide (i = a) || decide (i ∈ r)) := by simp
    rw [List.map_cons, List.any_cons, ih, eqF_int, e]
    by_cases h : i = a
    · subst h; simp
    · have : (a == i) = false := by simpa using (Ne.symm h)
      simp [h, this]
theorem all_flat (s : List Int) : (s.map D.int).all flatD = true := by rw [List.all_map]; simp [flatD]
theorem dIn_ints (i : Int) (s : List Int) {h : DH} {Q : VD} {x : D} (hx : itemsOf x h = some (s.map D.int)) : dIn false (.int i) x h Q = Q (.bl (decide (i ∈ s))) h := by
  unfold dIn
  rw [hx]
  simp only [any_eqF, all_flat]
  simp [flatD]

/-! is_right -/
theorem told_ints {may : List (List Int)} : ∀ {xs : List D} {i : Nat}, (xs.zipIdx i).all (fun p => fillsD may p.2 p.1) = true → xs.filterMap (fun x => if isNon x then none else some x) = (xs.filterMap isI).map .int
  | [], _, _ => rfl
  | x :: r, i, h => by
    rw [List.zipIdx_cons, List.all_cons, Bool.and_eq_true] at h
    have ih := told_ints h.2
    cases x with
    | non => simpa [List.filterMap_cons, isNon, isI] using ih
    | int j => simpa [List.filterMap_cons, isNon, isI] using ih
    | _ => exact absurd h.1 (by simp [fillsD])
theorem filterMap_len {xs : List D} : (xs.filterMap isI).length ≤ xs.length := List.length_filterMap_le _ _

/-! check_filling -/
theorem right_len {may : List (List Int)} {f : List (Option Int)} (h : rightD may (filD f) = true) : f.length = may.length := by
  unfold rightD filD at h
  simp only [Bool.and_eq_true, decide_eq_true_eq, List.length_map] at h
  exact h.1.1
theorem kn_fil {f : List (Option Int)} {h : DH} : Kn (filD f) h := .inl ⟨_, rfl⟩
theorem kn_fils {f : List (Option Int)} {h : DH} {xs : List D} (e : filD f = .tup xs) : ∀ y ∈ xs, Kn y h := by
  unfold filD at e
  cases e
  intro y hy
  obtain ⟨o, _, rfl⟩ := List.mem_map.mp hy
  exact kn_oI

/-! is_form -/
/-- whether numbers are an exchange's form, of so many persons -/
def formI (n : Nat) (ns : List Int) : Bool := decide (2 ≤ ns.length ∧ ns.length ≤ 12) && ns.all (fun i => wiD (.int i) 0 ((n : Int) - 1)) && decide ns.Nodup && (ns.headD 0 == minL ns)
def formD (n : Nat) (thing : D) : Bool := match thing with
  | .tup xs => match intsOf xs with
    | some ns => formI n ns
    | none => false
  | _ => false
theorem intsOf_len : ∀ {xs : List D} {ns : List Int}, intsOf xs = some ns → xs.length = ns.length := fun h => by rw [intsOf_some h, List.length_map]

/-! goes -/
/-- who takes whose post -/
def rot (ns : List Int) : List Int := ns.drop 1 ++ ns.take 1
def pairs (ns : List Int) : List (Int × Int) := ns.zip (rot ns)
def at_ (f : List (Option Int)) (i : Int) : Option Int := f.getD i.toNat none
def goesI (may : List (List Int)) (f : List (Option Int)) (ns : List Int) : Bool :=
  formI may.length ns && (ns.all fun i => (at_ f i).isSome) && (pairs ns).all fun p => decide ((at_ f p.2).getD 0 ∈ may.getD p.1.toNat [])
/-- whether a thing is an exchange that goes -/
def goesD (may : List (List Int)) (f : List (Option Int)) (thing : D) : Bool := match thing with
  | .tup xs => match intsOf xs with
    | some ns => goesI may f ns
    | none => false
  | _ => false
theorem formI_in {n : Nat} {ns : List Int} (h : formI n ns = true) : ∀ i ∈ ns, 0 ≤ i ∧ i.toNat < n := fun i hi => by
  unfold formI at h
  simp only [Bool.and_eq_true, List.all_eq_true, decide_eq_true_eq] at h
  have := h.1.1.2 i hi
  simp only [wiD, Bool.and_eq_true, decide_eq_true_eq] at this
  omega
theorem rot_mem {ns : List Int} {i : Int} (h : i ∈ rot ns) : i ∈ ns := by
  unfold rot at h
  rcases List.mem_append.mp h with h | h
  · exact List.mem_of_mem_drop h
  · exact List.mem_of_mem_take h
theorem pairs_mem {ns : List Int} {p : Int × Int} (h : p ∈ pairs ns) : p.1 ∈ ns ∧ p.2 ∈ ns := ⟨(List.of_mem_zip h).1, rot_mem (List.of_mem_zip h).2⟩
theorem fil_at {f : List (Option Int)} {i : Int} (h0 : 0 ≤ i) (h : i.toNat < f.length) : atI (f.map oI) i = some (oI (at_ f i)) :=
  atI_map h0 (by unfold at_; rw [List.getD_eq_getElem?_getD, List.getElem?_eq_getElem h]; rfl)
theorem rot_cut (ns : List Int) : cutD (ns.map D.int) (some 1) none ++ cutD (ns.map D.int) none (some 1) = (rot ns).map D.int := by
  have a := cutD_from (ns.map D.int) 1
  have b := cutD_upto (ns.map D.int) 1
  unfold rot
  rw [List.map_append, List.map_drop, List.map_take, ← a, ← b]; rfl
theorem rot_len (ns : List Int) : (rot ns).length = ns.length := by
  unfold rot
  rw [List.length_append, List.length_drop, List.length_take]; omega
theorem cut_len (ns : List Int) : (cutD (ns.map D.int) (some 1) none).length + (cutD (ns.map D.int) none (some 1)).length = ns.length := by
  rw [← List.length_append, rot_cut, List.length_map, rot_len]

/-! behind -/
def behindI (f : List (Option Int)) (ns : List Int) : List (Option Int) := (pairs ns).foldl (fun g p => g.set p.1.toNat (at_ f p.2)) f
theorem behindI_len (f : List (Option Int)) (ns : List Int) : (behindI f ns).length = f.length := by
  unfold behindI
  have : ∀ (l : List (Int × Int)) (g : List (Option Int)), (l.foldl (fun g p => g.set p.1.toNat (at_ f p.2)) g).length = g.length := by
    intro l
    induction l with
    | nil => intro g; rfl
    | cons p r ih => intro g; rw [List.foldl_cons, ih, List.length_set]
  exact this _ _

/-! is_exchange -/


/-! exchanged -/
theorem goesD_ints {may : List (List Int)} {f : List (Option Int)} {thing : D} (h : goesD may f thing = true) : ∃ ns : List Int, thing = .tup (ns.map .int) ∧ goesI may f ns = true := by
  unfold goesD at h
  cases thing with
  | tup xs =>
    cases hi : intsOf xs with
    | none => simp only [hi] at h; cases h
    | some ns => simp only [hi] at h; exact ⟨ns, by rw [intsOf_some hi], h⟩
  | _ => cases h
theorem goesI_form {may : List (List Int)} {f : List (Option Int)} {ns : List Int} (h : goesI may f ns = true) : formI may.length ns = true := by
  unfold goesI at h
  simp only [Bool.and_eq_true] at h
  exact h.1.1
theorem form_len {n : Nat} {ns : List Int} (h : formI n ns = true) : 2 ≤ ns.length ∧ ns.length ≤ 12 := by
  unfold formI at h
  simp only [Bool.and_eq_true, decide_eq_true_eq] at h
  exact h.1.1.1

/-! swaps_of -/
def pairD (p : Int × Int) : D := .tup [.int p.1, .int p.2]
/-- the swaps that go, ascending -/
def swapsI (may : List (List Int)) (f : List (Option Int)) : List (Int × Int) :=
  (List.range may.length).flatMap fun x => ((List.range (may.length - (x + 1))).map fun y => (((x : Nat) : Int), ((x + 1 + y : Nat) : Int))).filter fun p => goesI may f [p.1, p.2]
/-! swaps -/


/-! _law_hand -/
/-- a hand of numbers stands at n -/
def IsHand (h : DH) (n : Nat) : Prop := ∃ (cells : List Int) (a b c d : Int), h[n]? = some (.lst [.lst (cells.map .int), .int a, .int b, .int c, .int d]) ∧ 0 ≤ a

/-! _law_draw -/
/-- the hand at n was drawn from, all else stands -/
def Drawn (h h' : DH) (n : Nat) : Prop := h'.length = h.length ∧ (∀ j, j ≠ n → h'[j]? = h[j]?) ∧ IsHand h' n
theorem Drawn.refl {h : DH} {n : Nat} (i : IsHand h n) : Drawn h h n := ⟨rfl, fun _ _ => rfl, i⟩
theorem Drawn.trans {h h' h'' : DH} {n : Nat} (a : Drawn h h' n) (b : Drawn h' h'' n) : Drawn h h'' n := ⟨b.1.trans a.1, fun j hj => (b.2.1 j hj).trans (a.2.1 j hj), b.2.2⟩
theorem Drawn.set {h : DH} {n : Nat} {o : O} (i : IsHand h n) (j : IsHand (h.set n o) n) : Drawn h (h.set n o) n := ⟨List.length_set, fun k hk => by rw [List.getElem?_set_ne (Ne.symm hk)], j⟩
theorem IsHand.lt {h : DH} {n : Nat} (i : IsHand h n) : n < h.length := by
  obtain ⟨_, _, _, _, _, e, _⟩ := i
  exact (List.getElem?_eq_some_iff.mp e).1
theorem IsHand.app {h t : DH} {n : Nat} (i : IsHand h n) : IsHand (h ++ t) n := by
  have hn := i.lt
  obtain ⟨cells, a, b, c, d, e, ha⟩ := i
  exact ⟨cells, a, b, c, d, by rw [gl hn]; exact e, ha⟩
theorem Drawn.app {h t h' : DH} {n : Nat} (i : IsHand h n) (d : Drawn (h ++ t) h' n) : ∃ h0, h' = h0 ++ t ∧ Drawn h h0 n := by
  obtain ⟨l, k, j⟩ := d
  have hn := i.lt
  have l' : h'.length = h.length + t.length := by rw [l, List.length_append]
  refine ⟨h'.take h.length, ?_, by rw [List.length_take]; omega, fun m hm => ?_, ?_⟩
  · have e : h'.drop h.length = t := by
      apply List.ext_getElem?
      intro m
      rw [List.getElem?_drop, k (h.length + m) (by omega), ga m rfl]
    conv => lhs; rw [← List.take_append_drop h.length h', e]
  · by_cases hl : m < h.length
    · rw [List.getElem?_take_of_lt hl, k m hm, gl hl]
    · rw [List.getElem?_eq_none (by rw [List.length_take]; omega), List.getElem?_eq_none (by omega)]
  · obtain ⟨cells, a, b, c, d, e, ha⟩ := j
    exact ⟨cells, a, b, c, d, by rw [List.getElem?_take_of_lt hn]; exact e, ha⟩
theorem Drawn.wf {h h' : DH} {n : Nat} (w : WF h) (d : Drawn h h' n) : ∀ o ∈ h', nrO h.length o = true := by
  intro o ho
  obtain ⟨m, hm⟩ := List.getElem?_of_mem ho
  by_cases e : m = n
  · subst e
    obtain ⟨cells, a, b, c, d, e, ha⟩ := d.2.2
    rw [e] at hm
    cases hm
    simp only [nrO, nrDs, nrD, Bool.and_true, Bool.true_and]
    exact nrDs_ints cells
  · rw [d.2.1 m e] at hm
    exact w o (List.mem_of_getElem? hm)
theorem Drawn.take {h h0 t : DH} {n : Nat} (w : WF h) (d : Drawn h h0 n) : ((h0 ++ t).take h.length).all (nrO h.length) = true ∧ (h0 ++ t).take h.length = h0 := by
  have e : (h0 ++ t).take h.length = h0 := by rw [← d.1, List.take_left]
  rw [e]
  exact ⟨List.all_eq_true.mpr (d.wf w), rfl⟩
theorem items_drawn {h h' : DH} {n : Nat} {x : D} (d : Drawn h h' n) (hx : x ≠ .ref n) : itemsOf x h' = itemsOf x h := by
  unfold itemsOf
  cases x with
  | ref m =>
    have : m ≠ n := fun e => hx (by rw [e])
    simp only [d.2.1 m this]
  | _ => rfl
theorem handIx {x0 x1 x2 x3 x4 : D} : atI [x0, x1, x2, x3, x4] 0 = some x0 ∧ atI [x0, x1, x2, x3, x4] 1 = some x1 ∧ atI [x0, x1, x2, x3, x4] 2 = some x2 ∧ atI [x0, x1, x2, x3, x4] 3 = some x3 ∧ atI [x0, x1, x2, x3, x4] 4 = some x4 :=
  ⟨atI_nat (by decide) rfl, atI_nat (by decide) rfl, atI_nat (by decide) rfl, atI_nat (by decide) rfl, atI_nat (by decide) rfl⟩
theorem handPut {x0 x1 x2 x3 x4 d : D} {k : O → Prop} : (put (.lst [x0, x1, x2, x3, x4]) (.int 1) d k = k (.lst [x0, d, x2, x3, x4])) ∧ (put (.lst [x0, x1, x2, x3, x4]) (.int 2) d k = k (.lst [x0, x1, d, x3, x4])) ∧
    (put (.lst [x0, x1, x2, x3, x4]) (.int 3) d k = k (.lst [x0, x1, x2, d, x4])) ∧ (put (.lst [x0, x1, x2, x3, x4]) (.int 4) d k = k (.lst [x0, x1, x2, x3, d])) := ⟨rfl, rfl, rfl, rfl⟩

/-! _law_any -/


/-! _law_mixed -/
theorem isList_lst {n : Nat} {h : DH} {xs : List D} (e : h[n]? = some (.lst xs)) : isList (.ref n) h = true := by
  unfold isList
  simp only [e]

/-! _law_same -/
/-- equal, and alike in kind, through and through, so deep -/
def SameN (h : DH) : Nat → D → D → Prop
  | 0, _, _ => False
  | n + 1, x, y => match x, y with
    | .non, .non => True
    | .bl a, .bl b => a = b
    | .int a, .int b => a = b
    | .str a, .str b => a = b ∧ PyData.strOk a = true
    | .tup xs, .tup ys => xs.length = ys.length ∧ ∀ p ∈ xs.zip ys, SameN h n p.1 p.2
    | x, y => match lstOf x h, lstOf y h with
      | some xs, some ys => xs.length = ys.length ∧ ∀ p ∈ xs.zip ys, SameN h n p.1 p.2
      | _, _ => False
theorem isiT_eq {x : D} {h : DH} {a b : String} {Q : VD} (hk : Kn x h) (ha : a ∈ tyNs) (hb : b ∈ tyNs) : fIsiT ["Book"] [x, .tup [.ty a, .ty b]] h Q = Q (.bl (isT a x h || isT b x h)) h := by
  have e : tysOf [.ty a, .ty b] = some [a, b] := rfl
  have all : (∀ n ∈ [a, b], n ∈ tyNs) = True := by simp [ha, hb]
  unfold fIsiT isT
  simp only [e, all, true_and]
  rcases hk with ⟨t, e⟩ | ⟨e, e2⟩
  · simp only [e, List.any_cons, List.any_nil, Bool.or_false]
  · simp only [e, e2]
    simp
theorem isT_lst {x : D} {h : DH} {xs : List D} (e : lstOf x h = some xs) : isT "list" x h = true ∧ isT "tuple" x h = false := by
  unfold lstOf at e
  unfold isT
  cases x with
  | lst ys => exact ⟨rfl, rfl⟩
  | ref n =>
    simp only at e
    unfold tyB
    cases e1 : h[n]? with
    | none => rw [e1] at e; cases e
    | some o => rw [e1] at e; cases o <;> first | (simp only [e1]; exact ⟨rfl, rfl⟩) | cases e
  | _ => cases e
theorem kn_lstOf {x : D} {h : DH} {xs : List D} (e : lstOf x h = some xs) : Kn x h := by
  unfold lstOf at e
  cases x with
  | lst ys => exact kn_lst
  | ref n =>
    simp only at e
    cases e1 : h[n]? with
    | none => rw [e1] at e; cases e
    | some o => rw [e1] at e; cases o <;> first | exact kn_ref e1 | cases e
  | _ => cases e
theorem listOf_lst {x : D} {h : DH} {xs : List D} (e : lstOf x h = some xs) : listOf x h = some xs ∧ itemsOf x h = some xs ∧ (∀ ys, x ≠ .tup ys) := by
  unfold lstOf at e
  unfold listOf itemsOf
  cases x with
  | lst ys => exact ⟨e, e, fun _ q => nomatch q⟩
  | ref n => exact ⟨e, e, fun _ q => nomatch q⟩
  | _ => cases e
theorem keep_items {x : D} {h : DH} {xs : List D} (e : itemsOf x h = some xs) : keepOf x xs h := by
  unfold keepOf
  cases x <;> first | exact trivial | exact e
theorem eqv_non : PyData.eqv .none .none = true := by unfold PyData.eqv; rfl
theorem eqv_str (a : Str) : PyData.eqv (.str a) (.str a) = true := by unfold PyData.eqv; simp
theorem dEq_non {h : DH} {Q : VD} : dEq .non .non h Q = Q (.bl true) h := by
  show (SeqAt.shaped .none = true ∧ SeqAt.shaped .none = true ∧ Q (.bl (PyData.eqv .none .none)) h) = _
  rw [eqv_non]
  simp [show SeqAt.shaped .none = true from rfl]
theorem dEq_str {a : Str} {h : DH} {Q : VD} (ok : PyData.strOk a = true) : dEq (.str a) (.str a) h Q = Q (.bl true) h := by
  show (SeqAt.shaped (.str a) = true ∧ SeqAt.shaped (.str a) = true ∧ Q (.bl (PyData.eqv (.str a) (.str a))) h) = _
  rw [eqv_str]
  have e : SeqAt.shaped (.str a) = true := by unfold SeqAt.shaped; simp [PyData.canLay0, PyData.depth, ok]
  simp [e]
theorem zip_lists {x y : D} {h : DH} {xs ys : List D} {Q : QIt} (e1 : lstOf x h = some xs) (e2 : lstOf y h = some ys) (q : Q (zipL xs ys) (fun h => keepOf x xs h ∧ keepOf y ys h) h) : wZip [x, y] h Q := by
  rcases lstOf_cases e1 with rfl | ⟨n, rfl, hn⟩ <;> rcases lstOf_cases e2 with rfl | ⟨m, rfl, hm⟩ <;> simp only [wZip, li_lst, li_ref, *] <;> exact q
theorem zipL_zip (xs ys : List D) : zipL xs ys = (xs.zip ys).map fun p => .tup [p.1, p.2] := by
  have := zipL_map id id xs ys
  rw [List.map_id, List.map_id] at this
  exact this
theorem SameN.kn {h : DH} {n : Nat} {x y : D} (s : SameN h n x y) : Kn x h ∧ Kn y h := by
  cases n with
  | zero => exact s.elim
  | succ n =>
    unfold SameN at s
    split at s
    · exact ⟨kn_non, kn_non⟩
    · exact ⟨kn_bl, kn_bl⟩
    · exact ⟨kn_int, kn_int⟩
    · exact ⟨kn_str, kn_str⟩
    · exact ⟨kn_tup, kn_tup⟩
    · split at s
      · rename_i e1 e2
        exact ⟨kn_lstOf e1, kn_lstOf e2⟩
      · exact s.elim
theorem SameN.cases {h : DH} {n : Nat} {x y : D} (s : SameN h (n + 1) x y) : (x = .non ∧ y = .non) ∨ (∃ b, x = .bl b ∧ y = .bl b) ∨ (∃ b, x = .int b ∧ y = .int b) ∨ (∃ b, x = .str b ∧ y = .str b ∧ PyData.strOk b = true) ∨
    (∃ xs ys, x = .tup xs ∧ y = .tup ys ∧ xs.length = ys.length ∧ ∀ p ∈ xs.zip ys, SameN h n p.1 p.2) ∨ (∃ xs ys, lstOf x h = some xs ∧ lstOf y h = some ys ∧ xs.length = ys.length ∧ ∀ p ∈ xs.zip ys, SameN h n p.1 p.2) := by
  unfold SameN at s
  split at s
  · exact .inl ⟨rfl, rfl⟩
  · exact .inr (.inl ⟨_, by rw [s], rfl⟩)
  · exact .inr (.inr (.inl ⟨_, by rw [s], rfl⟩))
  · exact .inr (.inr (.inr (.inl ⟨_, by rw [s.1], rfl, s.1 ▸ s.2⟩)))
  · exact .inr (.inr (.inr (.inr (.inl ⟨_, _, rfl, rfl, s⟩))))
  · split at s
    · rename_i e1 e2
      exact .inr (.inr (.inr (.inr (.inr ⟨_, _, e1, e2, s⟩))))
    · exact s.elim
theorem all_true {α : Type} (xs : List α) {h : DH} {Q : VD} (q : Q (.bl true) h) : fAll (fun bs => bs.all id) [.lst (xs.map fun _ => D.bl true)] h Q := by
  rw [all_bls]
  have : (xs.all fun _ => true) = true := by simp
  rw [this]
  exact q

/-! _law_case -/
/-- a drawn book and a filling of it -/
def CaseOk (top posts : Int) (may : List (List Int)) (f : List (Option Int)) : Prop :=
  0 ≤ posts ∧ posts ≤ top ∧ (may.length : Int) ≤ top ∧ (∀ s ∈ may, s.Pairwise (· < ·) ∧ ∀ i ∈ s, 0 ≤ i ∧ i < posts) ∧ rightD may (filD f) = true
/-- the own objects: two orders, the filling, the leaves -/
def cHeap (order spots : List Int) (fill : List (Option Int)) (inner : List (List Int)) : DH := .lst (order.map .int) :: .lst (spots.map .int) :: .lst (fill.map oI) :: inner.map fun s => .lst (s.map .int)
structure CInv (posts : Int) (persons : Nat) (order spots : List Int) (k b : Nat) (fill : List (Option Int)) (inner : List (List Int)) : Prop where
  fl : fill.length = persons
  il : inner.length = persons
  rg : ∀ (i : Nat) s, inner[i]? = some s → ∀ v ∈ s, 0 ≤ v ∧ v < posts
  sub : ∀ (i : Nat) v, fill[i]? = some (some v) → ∃ s, inner[i]? = some s ∧ v ∈ s
  src : ∀ (i : Nat) v, fill[i]? = some (some v) → ∃ a, a < k ∧ order[a]? = some (i : Int) ∧ spots[a]? = some v
  ln : ∀ (i : Nat) s, inner[i]? = some s → s.length ≤ b
theorem cGet {L n : Nat} {h0 : DH} {order spots : List Int} {fill : List (Option Int)} {inner : List (List Int)} (e : h0.length = L) : (h0 ++ cHeap order spots fill inner)[L]? = some (.lst (order.map .int)) ∧
    (h0 ++ cHeap order spots fill inner)[L + 1]? = some (.lst (spots.map .int)) ∧ (h0 ++ cHeap order spots fill inner)[L + 2]? = some (.lst (fill.map oI)) := ⟨ga0 e, ga 1 e, ga 2 e⟩
theorem cIn {L i : Nat} {h0 : DH} {order spots : List Int} {fill : List (Option Int)} {inner : List (List Int)} {s : List Int} (e : h0.length = L) (hs : inner[i]? = some s) : (h0 ++ cHeap order spots fill inner)[L + (i + 3)]? = some (.lst (s.map .int)) := by
  rw [ga (i + 3) e]
  show (inner.map fun s => O.lst (s.map .int))[i]? = _
  rw [List.getElem?_map, hs]; rfl
theorem cSetF {L : Nat} {h0 : DH} {order spots : List Int} {fill : List (Option Int)} {inner : List (List Int)} {i : Nat} {v : Int} (e : h0.length = L) : (h0 ++ cHeap order spots fill inner).set (L + 2) (.lst ((fill.map oI).set i (.int v))) = h0 ++ cHeap order spots (fill.set i (some v)) inner := by
  rw [sa 2 e]
  unfold cHeap
  rw [List.map_set]; rfl
theorem cSetI {L : Nat} {h0 : DH} {order spots : List Int} {fill : List (Option Int)} {inner : List (List Int)} {i : Nat} {s : List Int} {v : Int} (e : h0.length = L) : (h0 ++ cHeap order spots fill inner).set (L + (i + 3)) (.lst (s.map .int ++ [.int v])) = h0 ++ cHeap order spots fill (inner.set i (s ++ [v])) := by
  rw [sa (i + 3) e]
  unfold cHeap
  rw [List.map_set, List.map_append]; rfl
/-- one post more in the i-th leaves -/
theorem CInv.add {posts : Int} {persons k b i : Nat} {order spots : List Int} {fill : List (Option Int)} {inner : List (List Int)} {s : List Int} {v : Int} (c : CInv posts persons order spots k b fill inner) (hs : inner[i]? = some s) (h0 : 0 ≤ v) (h1 : v < posts) :
    CInv posts persons order spots k (b + 1) fill (inner.set i (s ++ [v])) := by
  have hi := (List.getElem?_eq_some_iff.mp hs).1
  refine ⟨c.fl, by rw [List.length_set]; exact c.il, fun j t ht => ?_, fun j u hu => ?_, c.src, fun j t ht => ?_⟩
  · by_cases e : j = i
    · subst e
      rw [List.getElem?_set_self hi] at ht
      cases ht
      intro w hw
      rcases List.mem_append.mp hw with hw | hw
      · exact c.rg j s hs w hw
      · obtain rfl := List.mem_singleton.mp hw
        exact ⟨h0, h1⟩
    · rw [List.getElem?_set_ne (Ne.symm e)] at ht
      exact c.rg j t ht
  · obtain ⟨t, ht, hv⟩ := c.sub j u hu
    by_cases e : j = i
    · subst e
      rw [hs] at ht
      cases ht
      exact ⟨_, List.getElem?_set_self hi, List.mem_append_left _ hv⟩
    · exact ⟨t, by rw [List.getElem?_set_ne (Ne.symm e)]; exact ht, hv⟩
  · by_cases e : j = i
    · subst e
      rw [List.getElem?_set_self hi] at ht
      cases ht
      rw [List.length_append, List.length_singleton]
      have := c.ln j s hs
      omega
    · rw [List.getElem?_set_ne (Ne.symm e)] at ht
      have := c.ln j t ht
      omega
theorem CInv.mono {posts : Int} {persons k b k' b' : Nat} {order spots : List Int} {fill : List (Option Int)} {inner : List (List Int)} (c : CInv posts persons order spots k b fill inner) (hk : k ≤ k') (hb : b ≤ b') : CInv posts persons order spots k' b' fill inner :=
  ⟨c.fl, c.il, c.rg, c.sub, fun i v h => by obtain ⟨a, h1, h2⟩ := c.src i v h; exact ⟨a, by omega, h2⟩, fun i s h => Nat.le_trans (c.ln i s h) hb⟩
theorem CInv.fillAdd {posts : Int} {persons k b i : Nat} {order spots : List Int} {fill : List (Option Int)} {inner : List (List Int)} {s : List Int} {v : Int} (c : CInv posts persons order spots k b fill inner) (hs : inner[i]? = some s) (ho : order[k]? = some (i : Int)) (hv : spots[k]? = some v) (h0 : 0 ≤ v) (h1 : v < posts) :
    CInv posts persons order spots (k + 1) (b + 1) (fill.set i (some v)) (inner.set i (s ++ [v])) := by
  have hi := (List.getElem?_eq_some_iff.mp hs).1
  have c2 := (c.add hs h0 h1).mono (Nat.le_succ k) (Nat.le_refl _)
  have hif : i < fill.length := by rw [c.fl, ← c.il]; exact hi
  refine ⟨by rw [List.length_set]; exact c.fl, c2.il, c2.rg, fun j u hu => ?_, fun j u hu => ?_, c2.ln⟩
  · by_cases e : j = i
    · subst e
      rw [List.getElem?_set_self hif] at hu
      cases hu
      exact ⟨_, List.getElem?_set_self hi, List.mem_append_right _ (List.mem_singleton.mpr rfl)⟩
    · rw [List.getElem?_set_ne (Ne.symm e)] at hu
      exact c2.sub j u hu
  · by_cases e : j = i
    · subst e
      rw [List.getElem?_set_self hif] at hu
      cases hu
      exact ⟨k, Nat.lt_succ_self k, ho, hv⟩
    · rw [List.getElem?_set_ne (Ne.symm e)] at hu
      exact c2.src j u hu
theorem rngL_nat (n : Nat) : rngL 0 n = (List.range n).map fun i => D.int (i : Nat) := by
  unfold rngL
  congr 1
  funext i
  rw [Int.zero_add]
theorem rngL_rng' (n : Nat) : rngL 0 n = (List.range' 0 n).map fun i => D.int ((i : Nat) : Int) := by rw [rngL_nat, List.range_eq_range']
/-- the ints of an order -/
theorem ord_ints {n : Nat} {ys : List D} (p : ys.Perm (rngL 0 n)) : ∃ o : List Int, ys = o.map .int ∧ o.Nodup ∧ o.length = n ∧ ∀ i ∈ o, 0 ≤ i ∧ i < n := by
  rw [rngL_nat] at p
  have e : ((List.range n).map fun i => D.int ((i : Nat) : Int)) = ((List.range n).map fun i => ((i : Nat) : Int)).map .int := by rw [List.map_map]; rfl
  rw [e] at p
  have hm : ∀ y ∈ ys, ∃ i : Int, y = .int i := fun y hy => by
    obtain ⟨i, _, rfl⟩ := List.mem_map.mp (p.mem_iff.mp hy)
    exact ⟨i, rfl⟩
  obtain ⟨o, rfl⟩ : ∃ o : List Int, ys = o.map .int := by
    clear p
    induction ys with
    | nil => exact ⟨[], rfl⟩
    | cons y r ih =>
      obtain ⟨i, rfl⟩ := hm y List.mem_cons_self
      obtain ⟨o, rfl⟩ := ih fun z hz => hm z (List.mem_cons_of_mem _ hz)
      exact ⟨i :: o, rfl⟩
  have q : o.Perm ((List.range n).map fun i => ((i : Nat) : Int)) := by
    have := p.filterMap isI
    rw [List.filterMap_map, List.filterMap_map] at this
    have e1 : (isI ∘ D.int) = some := rfl
    rw [e1, List.filterMap_some, List.filterMap_some] at this
    exact this
  refine ⟨o, rfl, q.nodup_iff.mpr ?_, by rw [q.length_eq, List.length_map, List.length_range], fun i hi => ?_⟩
  · exact List.Pairwise.map _ (fun a b h => by omega) (List.nodup_range (n := n))
  · obtain ⟨j, hj, rfl⟩ := List.mem_map.mp (q.mem_iff.mp hi)
    have := List.mem_range.mp hj
    omega
theorem nodup_at {o : List Int} (h : o.Nodup) {a b : Nat} {v : Int} (ha : o[a]? = some v) (hb : o[b]? = some v) : a = b := by
  obtain ⟨h1, e1⟩ := List.getElem?_eq_some_iff.mp ha
  obtain ⟨h2, e2⟩ := List.getElem?_eq_some_iff.mp hb
  have hp := List.pairwise_iff_getElem.mp h
  rcases Nat.lt_trichotomy a b with q | q | q
  · exact absurd (e1.trans e2.symm) (hp a b h1 h2 q)
  · exact q
  · exact absurd (e2.trans e1.symm) (hp b a h2 h1 q)
theorem some_nodup : ∀ (f : List (Option Int)), (∀ (i j : Nat) v, f[i]? = some (some v) → f[j]? = some (some v) → i = j) → ((f.map oI).filterMap isI).Nodup
  | [], _ => List.nodup_nil
  | none :: r, h => by
    show ((r.map oI).filterMap isI).Nodup
    exact some_nodup r fun i j v h1 h2 => by
      have := h (i + 1) (j + 1) v h1 h2
      omega
  | some v :: r, h => by
    show (v :: (r.map oI).filterMap isI).Nodup
    refine List.nodup_cons.mpr ⟨fun hv => ?_, some_nodup r fun i j v h1 h2 => by
      have := h (i + 1) (j + 1) v h1 h2
      omega⟩
    obtain ⟨d, hd, e⟩ := List.mem_filterMap.mp hv
    obtain ⟨o, ho, rfl⟩ := List.mem_map.mp hd
    cases o with
    | none => cases e
    | some w =>
      have ew : w = v := Option.some.inj e
      subst ew
      obtain ⟨j, hj⟩ := List.getElem?_of_mem ho
      have := h 0 (j + 1) w rfl hj
      omega
theorem sortI_lt {l : List Int} (h : l.Nodup) : (sortI l).Pairwise (· < ·) := by
  have h1 := sortI_sorted l
  have h2 : (sortI l).Nodup := (sortI_perm l).nodup_iff.mpr h
  have := h1.and h2
  exact this.imp fun ⟨a, b⟩ => Int.lt_iff_le_and_ne.mpr ⟨a, b⟩
theorem CInv.ok {top posts : Int} {persons k b : Nat} {order spots : List Int} {fill : List (Option Int)} {inner : List (List Int)} (c : CInv posts persons order spots k b fill inner) (ho : order.Nodup) (hs : spots.Nodup) (h0 : 0 ≤ posts) (h1 : posts ≤ top) (h2 : (persons : Int) ≤ top) :
    CaseOk top posts (inner.map fun s => sortI (dedI s)) fill := by
  refine ⟨h0, h1, by rw [List.length_map, c.il]; exact h2, fun s hs => ?_, ?_⟩
  · obtain ⟨t, ht, rfl⟩ := List.mem_map.mp hs
    obtain ⟨i, hi⟩ := List.getElem?_of_mem ht
    refine ⟨sortI_lt (nodup_dedI t), fun v hv => c.rg i t hi v (mem_dedI.mp ((sortI_perm _).mem_iff.mp hv))⟩
  · unfold rightD filD
    simp only [Bool.and_eq_true, decide_eq_true_eq]
    refine ⟨⟨by rw [List.length_map, List.length_map, c.fl, c.il], List.all_eq_true.mpr fun p hp => ?_⟩, some_nodup fill fun i j v h1 h2 => ?_⟩
    · have hx := mem_zipIdx0 hp
      rw [List.getElem?_map] at hx
      cases e : fill[p.2]? with
      | none => rw [e] at hx; cases hx
      | some o =>
        rw [e] at hx
        have ep : oI o = p.1 := Option.some.inj hx
        rw [← ep]
        cases o with
        | none => rfl
        | some v =>
          obtain ⟨s, h1, h2⟩ := c.sub p.2 v e
          show decide (v ∈ (inner.map fun s => sortI (dedI s)).getD p.2 []) = true
          rw [decide_eq_true_eq, List.getD_eq_getElem?_getD, List.getElem?_map, h1]
          exact (sortI_perm _).mem_iff.mpr (mem_dedI.mpr h2)
    · obtain ⟨a, _, a1, a2⟩ := c.src i v h1
      obtain ⟨b, _, b1, b2⟩ := c.src j v h2
      have := nodup_at hs a2 b2
      subst this
      rw [a1] at b1
      have := Option.some.inj b1
      omega
theorem rep_flat : ∀ persons : Nat, (List.replicate persons [D.non]).flatten = (List.replicate persons (none : Option Int)).map oI
  | 0 => rfl
  | k + 1 => by rw [List.replicate_succ, List.replicate_succ, List.flatten_cons, rep_flat k]; rfl
theorem CInv.start {posts : Int} {persons : Nat} {order spots : List Int} : CInv posts persons order spots 0 0 (List.replicate persons none) (List.replicate persons []) := by
  refine ⟨by simp, by simp, fun i s hs => ?_, fun i v hv => ?_, fun i v hv => ?_, fun i s hs => ?_⟩
  · have := List.mem_of_getElem? hs
    rw [List.eq_of_mem_replicate this]
    intro v hv; cases hv
  · have := List.eq_of_mem_replicate (List.mem_of_getElem? hv)
    cases this
  · have := List.eq_of_mem_replicate (List.mem_of_getElem? hv)
    cases this
  · rw [List.eq_of_mem_replicate (List.mem_of_getElem? hs)]; exact Nat.le_refl _
theorem cons_range {j r : Nat} {x : D} {l : List D} (e : x :: l = (List.range' j r).map fun i => D.int ((i : Nat) : Int)) : ∃ r', r = r' + 1 ∧ x = .int (j : Nat) ∧ l = (List.range' (j + 1) r').map fun i => D.int ((i : Nat) : Int) := by
  cases r with
  | zero => cases e
  | succ r =>
    rw [List.range'_succ, List.map_cons] at e
    injection e with e1 e2
    exact ⟨r, rfl, e1, e2⟩
theorem nil_range {j r : Nat} (e : [] = (List.range' j r).map fun i => D.int ((i : Nat) : Int)) : r = 0 := by
  cases r with
  | zero => rfl
  | succ r => rw [List.range'_succ] at e; cases e
theorem inc_len {m : Int} : ∀ {l : List Int} {a : Int}, l.Pairwise (· < ·) → (∀ i ∈ l, a ≤ i ∧ i < m) → a ≤ m → (l.length : Int) ≤ m - a
  | [], a, _, _, h => by simp; omega
  | x :: r, a, hp, hi, h => by
    obtain ⟨h1, h2⟩ := List.pairwise_cons.mp hp
    obtain ⟨x0, x1⟩ := hi x List.mem_cons_self
    have := inc_len (l := r) (a := x + 1) h2 (fun i hr => ⟨by have := h1 i hr; omega, (hi i (List.mem_cons_of_mem _ hr)).2⟩) (by omega)
    rw [List.length_cons]
    omega

/-! _law_done -/


/-! _law_due -/
/-- those who don't stay at home -/
def thereN (f : List (Option Int)) : List Nat := (List.range f.length).filter fun x => (at_ f (x : Nat)).isSome
def dueB (may : List (List Int)) (f : List (Option Int)) (x y : Nat) : Bool :=
  decide (x < y) && decide ((at_ f (y : Nat)).getD 0 ∈ may.getD x []) && decide ((at_ f (x : Nat)).getD 0 ∈ may.getD y [])
def dueI (may : List (List Int)) (f : List (Option Int)) : List (Int × Int) :=
  (thereN f).flatMap fun x => ((thereN f).filter fun y => dueB may f x y).map fun y => (((x : Nat) : Int), ((y : Nat) : Int))
theorem thereN_lt {f : List (Option Int)} {x : Nat} (h : x ∈ thereN f) : x < f.length ∧ (at_ f (x : Nat)).isSome = true := by
  have := List.mem_filter.mp h
  exact ⟨List.mem_range.mp this.1, this.2⟩
theorem thereN_len (f : List (Option Int)) : (thereN f).length ≤ f.length := by
  have := List.length_filter_le (fun x : Nat => (at_ f (x : Nat)).isSome) (List.range f.length)
  rw [List.length_range] at this
  exact this
theorem zipIdx_there (f : List (Option Int)) : ((f.map oI).zipIdx.filterMap fun p => if isNon p.1 then none else some (D.int (p.2 : Nat))) = (thereN f).map fun x => D.int ((x : Nat) : Int) := by
  have key : ∀ (g : List (Option Int)) (i : Nat) (all : List (Option Int)), (∀ j, g[j]? = all[i + j]?) → (((g.map oI).zipIdx i).filterMap fun p => if isNon p.1 then none else some (D.int (p.2 : Nat))) = ((List.range' i g.length).filter fun x => (at_ all (x : Nat)).isSome).map fun x => D.int ((x : Nat) : Int) := by
    intro g
    induction g with
    | nil => intro i all _; rfl
    | cons o r ih =>
      intro i all h
      have h0 : all[i]? = some o := by have := h 0; simpa using this.symm
      have ea : at_ all (i : Nat) = o := by
        unfold at_
        rw [Int.toNat_natCast, List.getD_eq_getElem?_getD, h0]; rfl
      rw [List.map_cons, List.zipIdx_cons, List.filterMap_cons, List.length_cons, List.range'_succ, List.filter_cons, ea]
      have ih' := ih (i + 1) all fun j => by have := h (j + 1); rw [List.getElem?_cons_succ] at this; rw [this]; congr 1; omega
      cases o with
      | none => simpa [oI, isNon] using ih'
      | some v => simpa [oI, isNon] using ih'
  have := key f 0 f fun j => by rw [Nat.zero_add]
  unfold thereN
  rw [List.range_eq_range']
  exact this

/-! _law_are_listed -/
/-! pairs in a list -/
def pyP (p : Int × Int) : PyData := .tuple [.int p.1, .int p.2]
/-! swaps -/
/-! right fillings -/
structure RightP (may : List (List Int)) (f : List (Option Int)) : Prop where
  len : f.length = may.length
  mem : ∀ (i : Nat) v, f[i]? = some (some v) → v ∈ may.getD i []
  inj : ∀ (i j : Nat) v, f[i]? = some (some v) → f[j]? = some (some v) → i = j
theorem nodup_some : ∀ (f : List (Option Int)), ((f.map oI).filterMap isI).Nodup → ∀ (i j : Nat) v, f[i]? = some (some v) → f[j]? = some (some v) → i = j
  | [], _, i, j, v, h1, _ => by simp at h1
  | none :: r, h, i, j, v, h1, h2 => by
    have h : ((r.map oI).filterMap isI).Nodup := h
    cases i with
    | zero => simp at h1
    | succ i =>
      cases j with
      | zero => simp at h2
      | succ j => rw [nodup_some r h i j v h1 h2]
  | some w :: r, h, i, j, v, h1, h2 => by
    have h : (w :: (r.map oI).filterMap isI).Nodup := h
    obtain ⟨a, b⟩ := List.nodup_cons.mp h
    have inr : ∀ {k : Nat}, r[k]? = some (some w) → False := fun {k} hk => a (List.mem_filterMap.mpr ⟨oI (some w), List.mem_map.mpr ⟨_, List.mem_of_getElem? hk, rfl⟩, rfl⟩)
    cases i with
    | zero =>
      cases j with
      | zero => rfl
      | succ j =>
        simp at h1
        subst h1
        exact (inr h2).elim
    | succ i =>
      cases j with
      | zero =>
        simp at h2
        subst h2
        exact (inr h1).elim
      | succ j => rw [nodup_some r b i j v h1 h2]
theorem right_iff {may : List (List Int)} {f : List (Option Int)} : rightD may (filD f) = true ↔ RightP may f := by
  unfold rightD filD
  simp only [Bool.and_eq_true, decide_eq_true_eq, List.length_map]
  constructor
  · rintro ⟨⟨h1, h2⟩, h3⟩
    refine ⟨h1, fun i v hv => ?_, nodup_some f h3⟩
    have := List.all_eq_true.mp h2 (oI (some v), i) (List.mem_zipIdx_iff_getElem?.mpr (by rw [List.getElem?_map, hv]; rfl))
    exact of_decide_eq_true this
  · intro r
    refine ⟨⟨r.len, List.all_eq_true.mpr fun p hp => ?_⟩, some_nodup f r.inj⟩
    have hx := mem_zipIdx0 hp
    rw [List.getElem?_map] at hx
    cases e : f[p.2]? with
    | none => rw [e] at hx; cases hx
    | some o =>
      rw [e] at hx
      have ep : oI o = p.1 := Option.some.inj hx
      rw [← ep]
      cases o with
      | none => rfl
      | some v => exact decide_eq_true (r.mem p.2 v e)
theorem at_get {f : List (Option Int)} {x : Nat} {v : Int} (h : at_ f (x : Nat) = some v) : f[x]? = some (some v) := by
  unfold at_ at h
  rw [Int.toNat_natCast, List.getD_eq_getElem?_getD] at h
  cases e : f[x]? with
  | none => rw [e] at h; cases h
  | some o => rw [e] at h; rw [show o = some v from h]
theorem get_at {f : List (Option Int)} {x : Nat} {o : Option Int} (h : f[x]? = some o) : at_ f (x : Nat) = o := by
  unfold at_
  rw [Int.toNat_natCast, List.getD_eq_getElem?_getD, h]; rfl
/-! a book is made -/
structure BookOk (posts : Int) (may : List (List Int)) : Prop where
  p0 : 0 ≤ posts
  p1 : posts ≤ 12
  ml : may.length ≤ 12
  rs : ∀ s ∈ may, s.Pairwise (· < ·) ∧ ∀ i ∈ s, 0 ≤ i ∧ i < posts
theorem risD_ok {posts : Int} {s : List Int} (h1 : s.Pairwise (· < ·)) (h2 : ∀ i ∈ s, 0 ≤ i ∧ i < posts) : risD (.tup (s.map .int)) posts = true := by
  unfold risD
  simp only [intsOf_map, Bool.and_eq_true, List.all_eq_true, wiD, decide_eq_true_eq]
  exact ⟨fun i hi => by have := h2 i hi; omega, strictB_iff.mpr h1⟩
theorem mayFault_ok {posts : Int} : ∀ {ms : List D} {i : Nat}, (∀ s ∈ ms, risD s posts = true) → i + ms.length ≤ 12 → mayFault posts i ms = none
  | [], _, _, _ => rfl
  | s :: r, i, h, hl => by
    rw [List.length_cons] at hl
    unfold mayFault
    rw [if_neg (by rw [h s List.mem_cons_self]; simp; omega)]
    exact mayFault_ok (fun z hz => h z (List.mem_cons_of_mem _ hz)) (by omega)
theorem nrD_may {n : Nat} (m : List (List Int)) : nrD n (mayD m) = true := by
  unfold mayD
  simp only [nrD]
  refine nrDs_iff.mpr fun d hd => ?_
  obtain ⟨s, _, rfl⟩ := List.mem_map.mp hd
  exact nrDs_ints s
/-! same -/
theorem same_lists {h : DH} {n : Nat} {x y : D} {xs ys : List D} (hx : lstOf x h = some xs) (hy : lstOf y h = some ys) (hl : xs.length = ys.length) (hs : ∀ p ∈ xs.zip ys, SameN h n p.1 p.2) : SameN h (n + 1) x y := by
  rcases lstOf_cases hx with rfl | ⟨a, rfl, ha⟩ <;> rcases lstOf_cases hy with rfl | ⟨b, rfl, hb⟩ <;> unfold SameN <;> simp only [hx, hy] <;> exact ⟨hl, hs⟩
theorem zip_self {α : Type} {l : List α} {p : α × α} (h : p ∈ l.zip l) : p.1 = p.2 ∧ p.1 ∈ l := by
  induction l with
  | nil => cases h
  | cons a r ih =>
    rw [List.zip_cons_cons] at h
    rcases List.mem_cons.mp h with rfl | h
    · exact ⟨rfl, List.mem_cons_self⟩
    · exact ⟨(ih h).1, List.mem_cons_of_mem _ (ih h).2⟩
theorem it_get {h : DH} {m : Nat} {xs : List D} (e : h[m]? = some (.lst xs)) : itemsOf (.ref m) h = some xs := by
  rw [it_ref, e]
theorem case_ok {top posts : Int} {may : List (List Int)} {f : List (Option Int)} (c : CaseOk top posts may f) (h : top ≤ 12) : BookOk posts may := ⟨c.1, by have := c.2.1; omega, by have := c.2.2.1; omega, c.2.2.2.1⟩
theorem wf_hand {h : DH} (i : IsHand h 0) (l : h.length = 1) : WF h := fun o ho => by
  obtain ⟨cells, a, b, c, d, e, _⟩ := i
  have : o = .lst [.lst (cells.map .int), .int a, .int b, .int c, .int d] := by
    cases h with
    | nil => cases ho
    | cons x r =>
      have hr : r = [] := by
        rw [List.length_cons] at l
        exact List.eq_nil_of_length_eq_zero (by omega)
      subst hr
      rw [List.mem_singleton.mp ho]
      exact Option.some.inj e
  subst this
  simp only [nrO, nrDs, nrD, Bool.and_true, Bool.true_and]
  exact nrDs_ints cells
theorem wf_snoc {h : DH} {o : O} (w : WF h) (ho : nrO (h.length + 1) o = true) : WF (h ++ [o]) := fun u hu => by
  rw [List.length_append, List.length_singleton]
  rcases List.mem_append.mp hu with hu | hu
  · exact nrO_mono (Nat.le_succ _) (w u hu)
  · rw [List.mem_singleton.mp hu]
    exact ho
local macro_rules
  | `(tactic| simp_arith only [$as,*] $[$l:location]?) => `(tactic| simp only [dEq_int, dNe_int, dEq_bl, dNe_bl, bodyD, startD, sNext, sBreak, sCont, sDrop, sRet, sRetN, sSet, sPar, sAsg, sSub, sFldD, iSeq, iSeqL, iCall, wEnum, wRange1, wRange2, wz_tup, eComp, eCompR, eComp2, eComp2R, gN, gT, gTH, gTcons, gTnil, tTst, tNotD, tAndD, tOrD, eNotV, eAndV, eOrV, eIf, eNil, eCons, eTup, eLst, eRef, eFrz, eCall, eFn, eMkV_eq, eMk, eFld, eSl, eRev, eRevR, eRevT, eDicV, eDicR, eDicC, dEqS, dNeS, oNone, oSome, eOp2, eOp1, eChain, dAdd, dInt, dIntC, dIntB, dSub, dFdiv, dMod, dPow, dLt, dLe, dGt, dGe, dMul, dMulR, dMulT, dMulU, dAddR, fSortedT, gS, dIs, dIx, isNon_oI, isNon_non, isNon_int, isNon_bl, isNon_str, isNon_ty, isNon_tup, isNon_tupx, isNon_lst, isNon_scr, isNon_dic, isNon_obj, isNon_ref, isNon_glb, isNon_exc, isNon_lam, isNon_book, eVar, eC, fLen, fAbs, fInt, fMax2, fMin2, fMin3, fMax3, fIntsI, fSorted, fTuple, fTupleX, eWk, wkK_x, eWkR, eSlX, eTupX, dAddX, fList, fListR, eLenSet, eSortedSet, eTupRg, eLstRg, eRefRg, rg1, rg2, tYesD, sRaise, sRaiseF, eM, KD.E, wipeD, ins_book, fget_posts, fget_may, mem_Book, it_tup, it_lst, it_scr, it_ref, it_may, it_fil, it_int, it_str, lo_lst, lo_tup, lo_int, lo_ref, li_lst, li_scr, li_tup, li_ref, true_and, List.set_cons_zero, List.set_cons_succ, List.getElem?_cons_zero, List.getElem?_cons_succ, List.map_cons, List.map_nil, List.length_cons, List.length_nil, List.replicate_succ, List.replicate_zero, List.cons_append, List.nil_append, List.zip_cons_cons, List.zip_nil_left, List.foldl_cons, List.foldl_nil, Nat.reduceSub, Nat.reduceAdd, Nat.zero_add, brB_t, brB_f, Bool.not_true, Bool.not_false, if_true, if_false, Bool.false_eq_true, ↓reduceIte, $as,*] $[$l]?)
-- needs: base
/-! small helps -/
/-! exchanges of any number of persons -/
def tupI (ns : List Int) : D := .tup (ns.map .int)
def rv (ns : List Int) : List Int := ns.take 1 ++ (ns.drop 1).reverse
theorem zip_swap : ∀ (as bs : List Int), (as.zip bs).map Prod.swap = bs.zip as
  | [], bs => by cases bs <;> rfl
  | _ :: _, [] => rfl
  | a :: as, b :: bs => by rw [List.zip_cons_cons, List.map_cons, zip_swap as bs]; rfl
theorem pairs_rv (ns : List Int) : pairs (rv ns) = ((pairs ns).map Prod.swap).reverse := by
  cases ns with
  | nil => rfl
  | cons x t =>
    show (x :: t.reverse).zip ((x :: t.reverse).drop 1 ++ (x :: t.reverse).take 1) = (((x :: t).zip ((x :: t).drop 1 ++ (x :: t).take 1)).map Prod.swap).reverse
    simp only [List.drop_succ_cons, List.drop_zero, List.take_succ_cons, List.take_zero]
    rw [zip_swap]
    have e1 : x :: t.reverse = (t ++ [x]).reverse := by simp
    have e2 : t.reverse ++ [x] = (x :: t).reverse := by simp
    rw [e2, e1]
    have hl : (t ++ [x]).length = (x :: t).length := by simp
    have key : ∀ (as bs : List Int), as.length = bs.length → as.reverse.zip bs.reverse = (as.zip bs).reverse := by
      intro as
      induction as with
      | nil => intro bs h; cases bs with
        | nil => rfl
        | cons b r => simp at h
      | cons a as ih =>
        intro bs h
        cases bs with
        | nil => simp at h
        | cons b bs =>
          have h' : as.length = bs.length := by simpa using h
          rw [List.reverse_cons, List.reverse_cons, List.zip_cons_cons, List.reverse_cons, ← ih bs h', List.zip_append (by simp [h'])]
          rfl
    exact key _ _ hl
theorem rv_perm (ns : List Int) : (rv ns).Perm ns := by
  cases ns with
  | nil => exact .refl _
  | cons x t => exact (List.reverse_perm t).cons x
theorem rot_perm (ns : List Int) : (rot ns).Perm ns := by
  unfold rot
  have := List.perm_append_comm (l₁ := ns.drop 1) (l₂ := ns.take 1)
  rwa [List.take_append_drop] at this
theorem pair_fst {ns : List Int} {a : Int} (h : a ∈ ns) : ∃ b, (a, b) ∈ pairs ns := by
  obtain ⟨i, hi⟩ := List.getElem?_of_mem h
  have hl := (List.getElem?_eq_some_iff.mp hi).1
  refine ⟨(rot ns)[i]'(by rw [rot_len]; exact hl), ?_⟩
  refine List.mem_of_getElem? (i := i) ?_
  unfold pairs
  rw [List.getElem?_zip_eq_some]
  exact ⟨hi, List.getElem?_eq_getElem _⟩
theorem mem_rot {ns : List Int} {b : Int} : b ∈ rot ns ↔ b ∈ ns := (rot_perm ns).mem_iff
theorem pair_snd {ns : List Int} {b : Int} (h : b ∈ ns) : ∃ a, (a, b) ∈ pairs ns := by
  obtain ⟨i, hi⟩ := List.getElem?_of_mem (mem_rot.mpr h)
  have hl := (List.getElem?_eq_some_iff.mp hi).1
  rw [rot_len] at hl
  refine ⟨ns[i], ?_⟩
  refine List.mem_of_getElem? (i := i) ?_
  unfold pairs
  rw [List.getElem?_zip_eq_some]
  exact ⟨List.getElem?_eq_getElem hl, hi⟩
theorem zip_inj1 : ∀ {as bs : List Int} {a b b' : Int}, as.Nodup → (a, b) ∈ as.zip bs → (a, b') ∈ as.zip bs → b = b'
  | [], _, _, _, _, _, h, _ => by simp at h
  | _ :: _, [], _, _, _, _, h, _ => by simp at h
  | x :: as, y :: bs, a, b, b', hn, h1, h2 => by
    obtain ⟨n1, n2⟩ := List.nodup_cons.mp hn
    rw [List.zip_cons_cons] at h1 h2
    rcases List.mem_cons.mp h1 with e1 | h1 <;> rcases List.mem_cons.mp h2 with e2 | h2
    · cases e1; cases e2; rfl
    · cases e1; exact absurd (List.of_mem_zip h2).1 n1
    · cases e2; exact absurd (List.of_mem_zip h1).1 n1
    · exact zip_inj1 n2 h1 h2
theorem pair_inj1 {ns : List Int} {a b b' : Int} (hn : ns.Nodup) (h1 : (a, b) ∈ pairs ns) (h2 : (a, b') ∈ pairs ns) : b = b' := zip_inj1 hn h1 h2
theorem mem_pairs_rv {ns : List Int} {a b : Int} : (a, b) ∈ pairs (rv ns) ↔ (b, a) ∈ pairs ns := by
  rw [pairs_rv, List.mem_reverse, List.mem_map]
  constructor
  · rintro ⟨⟨x, y⟩, h, e⟩
    cases e; exact h
  · intro h; exact ⟨(b, a), h, rfl⟩
theorem pair_inj2 {ns : List Int} {a a' b : Int} (hn : ns.Nodup) (h1 : (a, b) ∈ pairs ns) (h2 : (a', b) ∈ pairs ns) : a = a' :=
  pair_inj1 (ns := rv ns) ((rv_perm ns).nodup_iff.mpr hn) (mem_pairs_rv.mpr h1) (mem_pairs_rv.mpr h2)
theorem fold_set {f : List (Option Int)} : ∀ {l : List (Int × Int)} {g : List (Option Int)} {x : Nat}, (∀ p ∈ l, 0 ≤ p.1) → (∀ p ∈ l, ∀ q ∈ l, p.1 = q.1 → p = q) →
    (∀ b, (((x : Nat) : Int), b) ∈ l → x < g.length → (l.foldl (fun g p => g.set p.1.toNat (at_ f p.2)) g)[x]? = some (at_ f b)) ∧
    ((∀ b, (((x : Nat) : Int), b) ∉ l) → (l.foldl (fun g p => g.set p.1.toNat (at_ f p.2)) g)[x]? = g[x]?)
  | [], g, x, _, _ => ⟨fun b h => by simp at h, fun _ => rfl⟩
  | p :: r, g, x, h0, hu => by
    have ih := fold_set (f := f) (l := r) (g := g.set p.1.toNat (at_ f p.2)) (x := x) (fun q hq => h0 q (List.mem_cons_of_mem _ hq)) (fun q hq q' hq' => hu q (List.mem_cons_of_mem _ hq) q' (List.mem_cons_of_mem _ hq'))
    have p0 := h0 p List.mem_cons_self
    refine ⟨fun b hb hx => ?_, fun hb => ?_⟩
    · rw [List.foldl_cons]
      by_cases h : ∃ b', (((x : Nat) : Int), b') ∈ r
      · obtain ⟨b', hb'⟩ := h
        have e := hu _ hb _ (List.mem_cons_of_mem _ hb') rfl
        cases e
        exact ih.1 b hb' (by rw [List.length_set]; exact hx)
      · rw [ih.2 (fun b' hb' => h ⟨b', hb'⟩)]
        rcases List.mem_cons.mp hb with e | hb
        · rw [← e]
          show (g.set ((x : Nat) : Int).toNat (at_ f b))[x]? = _
          rw [Int.toNat_natCast, List.getElem?_set_self hx]
        · exact absurd ⟨b, hb⟩ h
    · rw [List.foldl_cons, ih.2 (fun b' hb' => hb b' (List.mem_cons_of_mem _ hb'))]
      rw [List.getElem?_set_ne]
      intro e
      refine hb p.2 (List.mem_cons.mpr (.inl ?_))
      refine Prod.ext ?_ rfl
      show ((x : Nat) : Int) = p.1
      omega
structure ExOk (may : List (List Int)) (f : List (Option Int)) (ns : List Int) : Prop where
  two : 2 ≤ ns.length
  len : ns.length ≤ 12
  rng : ∀ i ∈ ns, 0 ≤ i ∧ i.toNat < may.length
  nd : ns.Nodup
  hd : ns.headD 0 = minL ns
  som : ∀ i ∈ ns, (at_ f i).isSome = true
  go : ∀ p ∈ pairs ns, (at_ f p.2).getD 0 ∈ may.getD p.1.toNat []
theorem goesI_iff {may : List (List Int)} {f : List (Option Int)} {ns : List Int} : goesI may f ns = true ↔ ExOk may f ns := by
  unfold goesI formI
  simp only [Bool.and_eq_true, decide_eq_true_eq, List.all_eq_true, wiD, beq_iff_eq]
  constructor
  · rintro ⟨⟨⟨⟨⟨⟨h1, h2⟩, h3⟩, h4⟩, h5⟩, h6⟩, h7⟩
    exact ⟨h1, h2, fun i hi => by have := h3 i hi; omega, h4, h5, h6, h7⟩
  · intro e
    exact ⟨⟨⟨⟨⟨⟨e.two, e.len⟩, fun i hi => by have := e.rng i hi; omega⟩, e.nd⟩, e.hd⟩, e.som⟩, e.go⟩
theorem minL_perm {a b : List Int} (p : a.Perm b) : minL a = minL b := by
  by_cases h : 0 < a.length
  · have hb : 0 < b.length := by rw [← p.length_eq]; exact h
    obtain ⟨a1, a2⟩ := minL_spec h
    obtain ⟨b1, b2⟩ := minL_spec hb
    have := a2 _ (p.mem_iff.mpr b1)
    have := b2 _ (p.mem_iff.mp a1)
    omega
  · have ha : a = [] := List.eq_nil_of_length_eq_zero (by omega)
    subst ha
    rw [List.nil_perm.mp p]
section
variable {may : List (List Int)} {f : List (Option Int)} {ns : List Int}
theorem ExOk.lt (e : ExOk may f ns) (hl : f.length = may.length) {x : Nat} (h : ((x : Nat) : Int) ∈ ns) : x < f.length := by
  have := (e.rng _ h).2; rw [hl]; omega
theorem ExOk.at (e : ExOk may f ns) (hl : f.length = may.length) {x : Nat} {b : Int} (h : (((x : Nat) : Int), b) ∈ pairs ns) : (behindI f ns)[x]? = some (at_ f b) :=
  (fold_set (fun p hp => (e.rng _ (pairs_mem hp).1).1) (fun p hp q hq h => by
    obtain ⟨p1, p2⟩ := p
    obtain ⟨q1, q2⟩ := q
    cases h
    rw [pair_inj1 e.nd hp hq])).1 b h (e.lt hl (pairs_mem h).1)
theorem ExOk.off (e : ExOk may f ns) {x : Nat} (h : ((x : Nat) : Int) ∉ ns) : (behindI f ns)[x]? = f[x]? :=
  (fold_set (fun p hp => (e.rng _ (pairs_mem hp).1).1) (fun p hp q hq h => by
    obtain ⟨p1, p2⟩ := p
    obtain ⟨q1, q2⟩ := q
    cases h
    rw [pair_inj1 e.nd hp hq])).2 fun b hb => h (pairs_mem hb).1
theorem ExOk.nat (e : ExOk may f ns) {i : Int} (h : i ∈ ns) : ∃ x : Nat, i = (x : Int) := ⟨i.toNat, by have := (e.rng i h).1; omega⟩
theorem ExOk.at_ (e : ExOk may f ns) (hl : f.length = may.length) {a b : Int} (h : (a, b) ∈ pairs ns) : DL.at_ (behindI f ns) a = DL.at_ f b := by
  obtain ⟨x, rfl⟩ := e.nat (pairs_mem h).1
  exact get_at (e.at hl h)
/-- behind an exchange: a filling, in which it goes the other way round, and that leads back -/
theorem ExOk.right (e : ExOk may f ns) (r : RightP may f) : RightP may (behindI f ns) := by
  have key : ∀ (i : Nat) v, (behindI f ns)[i]? = some (some v) → (∃ b : Nat, (((i : Nat) : Int), ((b : Nat) : Int)) ∈ pairs ns ∧ f[b]? = some (some v)) ∨ (((i : Nat) : Int) ∉ ns ∧ f[i]? = some (some v)) := by
    intro i v hv
    by_cases hi : ((i : Nat) : Int) ∈ ns
    · obtain ⟨b, hb⟩ := pair_fst hi
      obtain ⟨y, rfl⟩ := e.nat (pairs_mem hb).2
      rw [e.at r.len hb] at hv
      exact .inl ⟨y, hb, at_get (Option.some.inj hv)⟩
    · rw [e.off hi] at hv
      exact .inr ⟨hi, hv⟩
  refine ⟨by rw [behindI_len]; exact r.len, fun i v hv => ?_, fun i j v h1 h2 => ?_⟩
  · rcases key i v hv with ⟨b, hb, fb⟩ | ⟨_, fi⟩
    · have := e.go _ hb
      rw [show DL.at_ f ((((i : Nat) : Int), ((b : Nat) : Int))).2 = some v from get_at fb] at this
      exact this
    · exact r.mem i v fi
  · rcases key i v h1 with ⟨b, hb, fb⟩ | ⟨ni, fi⟩ <;> rcases key j v h2 with ⟨c, hc, fc⟩ | ⟨nj, fj⟩
    · have := r.inj _ _ v fb fc
      subst this
      have := pair_inj2 e.nd hb hc
      omega
    · have := r.inj _ _ v fb fj
      subst this
      exact absurd (pairs_mem hb).2 nj
    · have := r.inj _ _ v fi fc
      subst this
      exact absurd (pairs_mem hc).2 ni
    · exact r.inj _ _ v fi fj
theorem ExOk.rev (e : ExOk may f ns) (r : RightP may f) : ExOk may (behindI f ns) (rv ns) := by
  have pm := rv_perm ns
  refine ⟨by rw [pm.length_eq]; exact e.two, by rw [pm.length_eq]; exact e.len, fun i hi => e.rng i (pm.mem_iff.mp hi), pm.nodup_iff.mpr e.nd, ?_, fun i hi => ?_, fun p hp => ?_⟩
  · rw [minL_perm pm, ← e.hd]
    cases ns <;> rfl
  · obtain ⟨b, hb⟩ := pair_fst (pm.mem_iff.mp hi)
    rw [e.at_ r.len hb]
    exact e.som b (pairs_mem hb).2
  · obtain ⟨a, b⟩ := p
    have h := mem_pairs_rv.mp hp
    show (DL.at_ (behindI f ns) b).getD 0 ∈ may.getD a.toNat []
    rw [e.at_ r.len h]
    have hs := e.som a (pairs_mem h).2
    obtain ⟨v, hv⟩ := Option.isSome_iff_exists.mp hs
    obtain ⟨x, rfl⟩ := e.nat (pairs_mem h).2
    rw [hv, Int.toNat_natCast]
    exact r.mem x v (at_get hv)
theorem ExOk.back (e : ExOk may f ns) (r : RightP may f) : behindI (behindI f ns) (rv ns) = f := by
  have e2 := e.rev r
  have hl2 : (behindI f ns).length = may.length := by rw [behindI_len]; exact r.len
  apply List.ext_getElem?
  intro x
  by_cases hx : ((x : Nat) : Int) ∈ ns
  · obtain ⟨a, ha⟩ := pair_snd hx
    rw [e2.at hl2 (mem_pairs_rv.mpr ha), e.at_ r.len ha]
    have := e.lt r.len hx
    unfold DL.at_
    rw [Int.toNat_natCast, List.getD_eq_getElem?_getD, List.getElem?_eq_getElem this]; rfl
  · rw [e2.off (fun h => hx ((rv_perm ns).mem_iff.mp h)), e.off hx]
end
theorem Drawn.wf2 {h h' : DH} {n : Nat} (w : WF h) (d : Drawn h h' n) : WF h' := fun o ho => by rw [d.1]; exact d.wf w o ho
/-- an exchange of at most so many persons that goes -/
def goesS (may : List (List Int)) (f : List (Option Int)) (thing : D) (size : Int) : Bool := goesD may f thing && (match thing with | .tup xs => decide ((xs.length : Int) ≤ size) | _ => false)
/-! drawn exchanges -/
def thI (f : List (Option Int)) : List Int := (thereN f).map fun x => ((x : Nat) : Int)
theorem thI_map (f : List (Option Int)) : ((thereN f).map fun x => D.int ((x : Nat) : Int)) = (thI f).map .int := by
  unfold thI
  rw [List.map_map]; rfl
theorem mem_thI {f : List (Option Int)} {i : Int} (h : i ∈ thI f) : 0 ≤ i ∧ i.toNat < f.length ∧ (at_ f i).isSome = true := by
  obtain ⟨x, hx, rfl⟩ := List.mem_map.mp h
  obtain ⟨a, b⟩ := thereN_lt hx
  exact ⟨by omega, by omega, b⟩
theorem thI_len (f : List (Option Int)) : (thI f).length ≤ f.length := by
  unfold thI
  rw [List.length_map]
  exact thereN_len f
theorem gl2 {h0 g : DH} {o : O} {L : Nat} (e : h0.length = L) : (h0 ++ (g ++ [o]))[L + g.length]? = some o := by
  rw [ga g.length e, get_last]
theorem sl2 {h0 g : DH} {o u : O} {L : Nat} (e : h0.length = L) : (h0 ++ (g ++ [o])).set (L + g.length) u = h0 ++ (g ++ [u]) := by
  rw [sa g.length e, set_last]
theorem nodup_sub_len : ∀ {a b : List Int}, a.Nodup → (∀ x ∈ a, x ∈ b) → a.length ≤ b.length
  | [], _, _, _ => Nat.zero_le _
  | x :: a, b, hn, hs => by
    obtain ⟨h1, h2⟩ := List.nodup_cons.mp hn
    have hx := hs x List.mem_cons_self
    have := nodup_sub_len (a := a) (b := b.erase x) h2 fun y hy => (List.mem_erase_of_ne (fun e => h1 (by rw [← e]; exact hy))).mpr (hs y (List.mem_cons_of_mem _ hy))
    rw [List.length_erase_of_mem hx] at this
    have hb : 0 < b.length := List.length_pos_of_mem hx
    rw [List.length_cons]
    omega
theorem eqF_i (a b : Int) : eqF (.int a) (.int b) = (a == b) := rfl
theorem idx_int {x : Int} : ∀ {l : List Int}, x ∈ l → ∃ j, idxD (.int x) (l.map .int) = some j ∧ l[j]? = some x
  | [], h => by cases h
  | y :: r, h => by
    rw [List.map_cons, idxD, eqF_i]
    by_cases e : y = x
    · subst e
      exact ⟨0, by rw [beq_self_eq_true, if_pos rfl], rfl⟩
    · have : (y == x) = false := by rw [beq_eq_false_iff_ne]; exact e
      rw [this, if_neg Bool.false_ne_true]
      obtain ⟨j, h1, h2⟩ := idx_int (x := x) (l := r) (by
        rcases List.mem_cons.mp h with h | h
        · exact absurd h.symm e
        · exact h)
      exact ⟨j + 1, by rw [h1]; rfl, by rw [List.getElem?_cons_succ]; exact h2⟩
theorem dIn_intsN (i : Int) (s : List Int) {h : DH} {Q : VD} {x : D} (hx : itemsOf x h = some (s.map D.int)) : dIn true (.int i) x h Q = Q (.bl (!decide (i ∈ s))) h := by
  unfold dIn
  rw [hx]
  simp only [any_eqF, all_flat]
  simp [flatD]
theorem pairs_iff {ns : List Int} {a b : Int} : (a, b) ∈ pairs ns ↔ ∃ i, i < ns.length ∧ ns[i]? = some a ∧ ns[(i + 1) % ns.length]? = some b := by
  have key : ∀ i, i < ns.length → (rot ns)[i]? = ns[(i + 1) % ns.length]? := by
    intro i hi
    unfold rot
    by_cases h : i + 1 < ns.length
    · rw [Nat.mod_eq_of_lt h, List.getElem?_append_left (by rw [List.length_drop]; omega), List.getElem?_drop, Nat.add_comm]
    · have e : i + 1 = ns.length := by omega
      rw [e, Nat.mod_self, List.getElem?_append_right (by rw [List.length_drop]; omega), List.length_drop, List.getElem?_take_of_lt (by omega)]
      congr 1
      omega
  constructor
  · intro h
    obtain ⟨i, hi⟩ := List.getElem?_of_mem h
    unfold pairs at hi
    rw [List.getElem?_zip_eq_some] at hi
    have hl := (List.getElem?_eq_some_iff.mp hi.1).1
    exact ⟨i, hl, hi.1, by rw [← key i hl]; exact hi.2⟩
  · rintro ⟨i, hl, h1, h2⟩
    refine List.mem_of_getElem? (i := i) ?_
    unfold pairs
    rw [List.getElem?_zip_eq_some]
    exact ⟨h1, by rw [key i hl]; exact h2⟩
/-- begun at another place -/
def turnL (l : Nat) (c : List Int) : List Int := c.drop l ++ c.take l
theorem turnL_len (l : Nat) (c : List Int) : (turnL l c).length = c.length := by
  unfold turnL
  rw [List.length_append, List.length_drop, List.length_take]; omega
theorem turnL_perm (l : Nat) (c : List Int) : (turnL l c).Perm c := by
  unfold turnL
  have := List.perm_append_comm (l₁ := c.drop l) (l₂ := c.take l)
  rwa [List.take_append_drop] at this
theorem turnL_get {l : Nat} {c : List Int} (hl : l ≤ c.length) {i : Nat} (hi : i < c.length) : (turnL l c)[i]? = c[(l + i) % c.length]? := by
  unfold turnL
  by_cases h : l + i < c.length
  · rw [Nat.mod_eq_of_lt h, List.getElem?_append_left (by rw [List.length_drop]; omega), List.getElem?_drop]
  · have e : (l + i) % c.length = l + i - c.length := by
      rw [Nat.mod_eq_sub_mod (by omega), Nat.mod_eq_of_lt (by omega)]
    rw [e, List.getElem?_append_right (by rw [List.length_drop]; omega), List.length_drop, List.getElem?_take_of_lt (by omega)]
    congr 1
    omega
theorem pairs_turn {l : Nat} {c : List Int} (hl : l ≤ c.length) {a b : Int} (h : (a, b) ∈ pairs (turnL l c)) : (a, b) ∈ pairs c := by
  obtain ⟨i, hi, h1, h2⟩ := pairs_iff.mp h
  rw [turnL_len] at hi h2
  have hc : 0 < c.length := by omega
  rw [turnL_get hl hi] at h1
  rw [turnL_get hl (Nat.mod_lt _ hc)] at h2
  refine pairs_iff.mpr ⟨(l + i) % c.length, Nat.mod_lt _ hc, h1, ?_⟩
  rw [Nat.mod_add_mod, ← h2, Nat.add_mod_mod, Nat.add_assoc]
/-- may fill the post of another one -/
def Edge (may : List (List Int)) (f : List (Option Int)) (a b : Int) : Prop := b ≠ a ∧ (at_ f b).getD 0 ∈ may.getD a.toNat []
theorem step_ok {may : List (List Int)} {f : List (Option Int)} {row : List Int} {y : Int} {j l : Nat} (hlen : f.length = may.length) (nd : row.Nodup) (sub : ∀ x ∈ row, x ∈ thI f)
    (ch : ∀ i a b, row[i]? = some a → row[i + 1]? = some b → Edge may f a b) (ls : ∀ a, row[row.length - 1]? = some a → Edge may f a y) (hj : row[j]? = some y) (hl : (row.drop j)[l]? = some (minL (row.drop j))) (h2 : 2 ≤ (row.drop j).length) (h12 : (row.drop j).length ≤ 12) :
    goesI may f (turnL l (row.drop j)) = true := by
  generalize hc : row.drop j = c at *
  have hjl := (List.getElem?_eq_some_iff.mp hj).1
  have hll := (List.getElem?_eq_some_iff.mp hl).1
  have clen : c.length = row.length - j := by rw [← hc, List.length_drop]
  have cget : ∀ i, c[i]? = row[j + i]? := fun i => by rw [← hc, List.getElem?_drop]
  have pm := turnL_perm l c
  have csub : ∀ x ∈ c, x ∈ row := fun x hx => by rw [← hc] at hx; exact List.mem_of_mem_drop hx
  refine goesI_iff.mpr ⟨by rw [turnL_len]; exact h2, by rw [turnL_len]; exact h12, fun i hi => ?_, pm.nodup_iff.mpr (by rw [← hc]; exact nd.sublist (List.drop_sublist _ _)), ?_, fun i hi => ?_, fun p hp => ?_⟩
  · have := mem_thI (sub i (csub i (pm.mem_iff.mp hi)))
    rw [← hlen]
    exact ⟨this.1, this.2.1⟩
  · rw [minL_perm pm]
    have := turnL_get (l := l) (c := c) (by omega) (i := 0) (by omega)
    rw [Nat.add_zero, Nat.mod_eq_of_lt hll, hl] at this
    rw [List.headD_eq_head?_getD, List.head?_eq_getElem?, this]; rfl
  · exact (mem_thI (sub i (csub i (pm.mem_iff.mp hi)))).2.2
  · obtain ⟨a, b⟩ := p
    obtain ⟨i, hi, h1, h2⟩ := pairs_iff.mp (pairs_turn (by omega) hp)
    by_cases e : i + 1 < c.length
    · rw [Nat.mod_eq_of_lt e, cget] at h2
      rw [cget] at h1
      exact (ch (j + i) a b h1 h2).2
    · have e : i + 1 = c.length := by omega
      rw [e, Nat.mod_self, cget, Nat.add_zero, hj] at h2
      rw [cget, show j + i = row.length - 1 by omega] at h1
      cases h2
      exact (ls a h1).2
-- needs: util exch
/-! things that may be shown and asked for their kind -/
mutual
def lfD : D → Bool
  | .non => true
  | .bl _ => true
  | .int i => decide (i.natAbs < 10 ^ 12)
  | .str x => x.cps.toList.all fun c => decide (c < 16 ^ 8)
  | .tup xs => lfDs xs
  | .lst xs => lfDs xs
  | .dic [] [] => true
  | .dic [.inl i] [x] => decide (i.natAbs < 10 ^ 12) && lfD x
  | _ => false
def lfDs : List D → Bool
  | [] => true
  | x :: r => lfD x && lfDs r
end
mutual
def bkD : D → Nat
  | .str x => x.cps.size
  | .tup xs => bkDs xs
  | .lst xs => bkDs xs
  | .dic _ [x] => bkD x + 2
  | _ => 0
def bkDs : List D → Nat
  | [] => 0
  | x :: r => bkD x + 1 + bkDs r
end
mutual
def dpD : D → Nat
  | .tup xs => dpDs xs + 1
  | .lst xs => dpDs xs + 1
  | .dic _ [x] => dpD x + 1
  | .dic _ _ => 1
  | _ => 0
def dpDs : List D → Nat
  | [] => 0
  | x :: r => max (dpD x) (dpDs r)
end
theorem int_py {i : Int} (h : i.natAbs < 10 ^ 12) : (PyData.int i).showable = true ∧ (PyData.int i).leavesShort 13 = true := by
  constructor
  · show decide (i.natAbs.log2 < 1920) = true
    rw [decide_eq_true_eq]
    by_cases h0 : i.natAbs = 0
    · rw [h0]; decide
    · have : i.natAbs < 2 ^ 1920 := Nat.lt_trans h (by decide)
      exact (Nat.log2_lt h0).mpr this
  · show decide ((PyData.shown (.int i)).length ≤ 13) = true
    exact decide_eq_true (PyData.shown_int_le h)
mutual
theorem lfD_py : ∀ {d : D}, lfD d = true → ∃ p, pyX d = some p ∧ p.showable = true ∧ p.leavesShort 13 = true ∧ p.bulk = bkD d ∧ p.depth = dpD d
  | .non, _ => ⟨.none, rfl, rfl, rfl, rfl, rfl⟩
  | .bl b, _ => ⟨.bool b, rfl, rfl, rfl, rfl, rfl⟩
  | .int i, h => by
    have h : i.natAbs < 10 ^ 12 := of_decide_eq_true h
    exact ⟨.int i, rfl, (int_py h).1, (int_py h).2, rfl, rfl⟩
  | .str x, h => ⟨.str x, rfl, rfl, h, rfl, rfl⟩
  | .tup xs, h => by
    obtain ⟨ps, e, h1, h2, h3, h4⟩ := lfDs_py h
    exact ⟨.tuple ps, by rw [pyX, e]; rfl, h1, h2, h3, by show PyData.depthAll ps + 1 = _; rw [h4]; rfl⟩
  | .lst xs, h => by
    obtain ⟨ps, e, h1, h2, h3, h4⟩ := lfDs_py h
    exact ⟨.list ps, by rw [pyX, e]; rfl, h1, h2, h3, by show PyData.depthAll ps + 1 = _; rw [h4]; rfl⟩
  | .dic [] [], _ => ⟨.dict [], rfl, rfl, rfl, rfl, rfl⟩
  | .dic [.inl i] [x], h => by
    rw [lfD, Bool.and_eq_true] at h
    have hi : i.natAbs < 10 ^ 12 := of_decide_eq_true h.1
    obtain ⟨p, e, h1, h2, h3, h4⟩ := lfD_py h.2
    refine ⟨.dict [(.int i, p)], by rw [pyX, e]; rfl, ?_, ?_, ?_, ?_⟩
    · show ((PyData.int i).showable && p.showable && true) = true
      rw [(int_py hi).1, h1]; rfl
    · show ((PyData.int i).leavesShort 13 && p.leavesShort 13 && true) = true
      rw [(int_py hi).2, h2]; rfl
    · show 0 + p.bulk + 2 + 0 = bkD x + 2
      omega
    · show max (max 0 p.depth) 0 + 1 = dpD x + 1
      omega
  | .dic [] (_ :: _), h => by cases h
  | .dic (.inr _ :: _) _, h => by cases h
  | .dic (.inl _ :: _ :: _) _, h => by cases h
  | .dic [.inl _] [], h => by cases h
  | .dic [.inl _] (_ :: _ :: _), h => by cases h
  | .scr _, h => by cases h
  | .ty _, h => by cases h
  | .obj _ _ _, h => by cases h
  | .ref _, h => by cases h
  | .glb _, h => by cases h
  | .exc _ _ _ _ _ _, h => by cases h
theorem lfDs_py : ∀ {ds : List D}, lfDs ds = true → ∃ ps, pyXs ds = some ps ∧ PyData.showableAll ps = true ∧ PyData.leavesShortAll 13 ps = true ∧ PyData.bulkAll ps = bkDs ds ∧ PyData.depthAll ps = dpDs ds
  | [], _ => ⟨[], rfl, rfl, rfl, rfl, rfl⟩
  | x :: r, h => by
    rw [lfDs, Bool.and_eq_true] at h
    obtain ⟨p, e, h1, h2, h3, h4⟩ := lfD_py h.1
    obtain ⟨ps, f, k1, k2, k3, k4⟩ := lfDs_py h.2
    exact ⟨p :: ps, by rw [pyXs, e, f]; rfl, by show (p.showable && PyData.showableAll ps) = true; rw [h1, k1]; rfl, by show (p.leavesShort 13 && PyData.leavesShortAll 13 ps) = true; rw [h2, k2]; rfl,
      by show p.bulk + 1 + PyData.bulkAll ps = _; rw [h3, k3]; rfl, by show max p.depth (PyData.depthAll ps) = _; rw [h4, k4]; rfl⟩
end
theorem lfDs_iff : ∀ {ds : List D}, lfDs ds = true ↔ ∀ d ∈ ds, lfD d = true
  | [] => by simp [lfDs]
  | x :: r => by rw [lfDs, Bool.and_eq_true, lfDs_iff (ds := r)]; simp
theorem bkDs_le {b : Nat} : ∀ {ds : List D}, (∀ d ∈ ds, bkD d ≤ b) → bkDs ds ≤ ds.length * (b + 1)
  | [], _ => by simp [bkDs]
  | x :: r, h => by
    have h1 := h x List.mem_cons_self
    have h2 := bkDs_le (ds := r) fun d hd => h d (List.mem_cons_of_mem _ hd)
    rw [bkDs, List.length_cons, Nat.succ_mul]
    omega
theorem dpDs_le {b : Nat} : ∀ {ds : List D}, (∀ d ∈ ds, dpD d ≤ b) → dpDs ds ≤ b
  | [], _ => by simp [dpDs]
  | x :: r, h => by
    rw [dpDs]
    exact Nat.max_le.mpr ⟨h x List.mem_cons_self, dpDs_le (ds := r) fun d hd => h d (List.mem_cons_of_mem _ hd)⟩
/-- a thing, so great and so deep -/
structure Th (b k : Nat) (d : D) : Prop where
  lf : lfD d = true
  bk : bkD d ≤ b
  dp : dpD d ≤ k
theorem Th.mono {b k b' k' : Nat} {d : D} (t : Th b k d) (h1 : b ≤ b' := by omega) (h2 : k ≤ k' := by omega) : Th b' k' d := ⟨t.lf, Nat.le_trans t.bk h1, Nat.le_trans t.dp h2⟩
theorem Th.tup {b k b' : Nat} {xs : List D} (h : ∀ x ∈ xs, Th b k x) (hb : xs.length * (b + 1) ≤ b') : Th b' (k + 1) (.tup xs) :=
  ⟨lfDs_iff.mpr fun x hx => (h x hx).lf, Nat.le_trans (bkDs_le fun x hx => (h x hx).bk) hb, Nat.succ_le_succ (dpDs_le fun x hx => (h x hx).dp)⟩
theorem Th.lst {b k b' : Nat} {xs : List D} (h : ∀ x ∈ xs, Th b k x) (hb : xs.length * (b + 1) ≤ b') : Th b' (k + 1) (.lst xs) :=
  ⟨lfDs_iff.mpr fun x hx => (h x hx).lf, Nat.le_trans (bkDs_le fun x hx => (h x hx).bk) hb, Nat.succ_le_succ (dpDs_le fun x hx => (h x hx).dp)⟩
theorem lf_kn {d : D} {h : DH} (t : lfD d = true) : Kn d h := by
  cases d with
  | non => exact kn_non
  | bl _ => exact kn_bl
  | int _ => exact kn_int
  | str _ => exact kn_str
  | tup _ => exact kn_tup
  | lst _ => exact kn_lst
  | dic _ _ => exact .inl ⟨_, rfl⟩
  | _ => cases t
theorem Th.kn {b k : Nat} {d : D} {h : DH} (t : Th b k d) : Kn d h := lf_kn t.lf
mutual
theorem lf_nr {n : Nat} : ∀ {d : D}, lfD d = true → nrD n d = true
  | .non, _ => rfl
  | .bl _, _ => rfl
  | .int _, _ => rfl
  | .str _, _ => rfl
  | .tup xs, h => lfs_nr (ds := xs) h
  | .lst xs, h => lfs_nr (ds := xs) h
  | .dic [] [], _ => rfl
  | .dic [.inl i] [x], h => by
    rw [lfD, Bool.and_eq_true] at h
    simp only [nrD, nrDs, lf_nr h.2, Bool.and_true]
  | .dic [] (_ :: _), h => by cases h
  | .dic (.inr _ :: _) _, h => by cases h
  | .dic (.inl _ :: _ :: _) _, h => by cases h
  | .dic [.inl _] [], h => by cases h
  | .dic [.inl _] (_ :: _ :: _), h => by cases h
  | .scr _, h => by cases h
  | .ty _, h => by cases h
  | .obj _ _ _, h => by cases h
  | .ref _, h => by cases h
  | .glb _, h => by cases h
  | .exc _ _ _ _ _ _, h => by cases h
theorem lfs_nr {n : Nat} : ∀ {ds : List D}, lfDs ds = true → nrDs n ds = true
  | [], _ => rfl
  | x :: r, h => by
    rw [lfDs, Bool.and_eq_true] at h
    rw [nrDs, lf_nr h.1, lfs_nr h.2]; rfl
end
def shownD (d : D) : Str := ((pyX d).map PyData.shown).getD ""
/-! rows of exchanges -/
def intsD (x : D) : List Int := match x with
  | .tup xs => (intsOf xs).getD []
  | _ => []
/-- the fillings ahead of, between and behind rows; the place of the first item that does not go -/
def walkF (may : List (List Int)) (size : Int) : List (Option Int) → List D → Nat → List (List (Option Int)) × Option Nat
  | f, [], _ => ([f], none)
  | f, x :: r, i => if goesS may f x size = true then (f :: (walkF may size (behindI f (intsD x)) r (i + 1)).1, (walkF may size (behindI f (intsD x)) r (i + 1)).2) else ([f], some i)
/-- the last filling -/
def endF (may : List (List Int)) (size : Int) (f : List (Option Int)) (rs : List D) : List (Option Int) := (walkF may size f rs 0).1.getLastD []
def badF (may : List (List Int)) (size : Int) (f : List (Option Int)) (rs : List D) : Option Nat := (walkF may size f rs 0).2
def backI (nss : List (List Int)) : List (List Int) := nss.reverse.map rv
theorem same_tupI {h : DH} {n : Nat} (ns : List Int) : SameN h (n + 2) (tupI ns) (tupI ns) := by
  unfold tupI
  refine ⟨rfl, fun p hp => ?_⟩
  obtain ⟨e, hm⟩ := zip_self hp
  obtain ⟨i, _, ei⟩ := List.mem_map.mp hm
  rw [← e, ← ei]
  exact rfl
/-- what led, back tell of rows -/
def rowsV (c : String) (may : List (List Int)) (size : Int) (f : List (Option Int)) (rs : List D) : D := match badF may size f rs with
  | some i => .tup [.str "refused", .int (i : Nat)]
  | none => .tup [.str "told", if c = "led" then filD (endF may size f rs) else .lst ((backI (rs.map intsD)).map tupI)]
def oN : Option Nat → D
  | none => .non
  | some i => .int (i : Nat)
/-- a thing whose kind can be asked, and the kinds of what is in it, in any heap -/
def KnG (y : D) : Prop := ∀ h : DH, Kn y h ∧ ∀ xs, y = .tup xs → ∀ z ∈ xs, Kn z h
/-! chordless rings -/
def unlikeI (ns : List Int) (many : Int) : Bool := ns.all (fun i => wiD (.int i) 0 (many - 1)) && decide ns.Nodup
def unlikeD (x : D) (many : Int) : Bool := match x with
  | .tup xs => match intsOf xs with
    | some ns => unlikeI ns many
    | none => false
  | _ => false
def tupL (x : D) : List Int := match x with
  | .tup xs => (intsOf xs).getD []
  | _ => []
def ixZ (qs : List Int) (j : Int) : Int := (atI qs j).getD 0
def nearB (may : List (List Int)) (qs : List Int) (i : Nat) (p : Int) : Bool := decide ((sortI qs).filter (fun q => decide (q ∈ may.getD p.toNat [])) = sortI [ixZ qs (i : Int), ixZ qs ((i : Int) - 1)])
def nearAll (may : List (List Int)) (qs : List Int) : Nat → List Int → Bool
  | _, [] => true
  | i, p :: r => nearB may qs i p && nearAll may qs (i + 1) r
def ringI (may : List (List Int)) (ps qs : List Int) : Bool := decide (3 ≤ ps.length) && (decide (ps.length = qs.length) && nearAll may qs 0 ps)
/-- whether a thing is a chordless ring -/
def ringD (posts : Int) (may : List (List Int)) (x : D) : Bool := match x with
  | .tup [a, b] => unlikeD a may.length && (unlikeD b posts && ringI may (tupL a) (tupL b))
  | _ => false
def KnT (h : DH) (x : D) : Prop := Kn x h ∧ ∀ xs, x = .tup xs → xs.length ≤ 1000 ∧ ∀ y ∈ xs, Kn y h
def KnR (h : DH) (x : D) : Prop := Kn x h ∧ ∀ xs, x = .tup xs → xs.length ≤ 1000 ∧ ∀ y ∈ xs, KnT h y
theorem pysOf_ints : ∀ l : List Int, pysOf (l.map D.int) = some (l.map PyData.int)
  | [] => rfl
  | a :: r => by simp only [List.map_cons, pysOf, pyOf, pysOf_ints r]; rfl
theorem eqvAll_ints : ∀ a b : List Int, PyData.eqvAll (a.map PyData.int) (b.map PyData.int) = decide (a = b)
  | [], [] => by unfold PyData.eqvAll; rfl
  | [], _ :: _ => by simp only [List.map_nil, List.map_cons]; unfold PyData.eqvAll; simp
  | _ :: _, [] => by simp only [List.map_nil, List.map_cons]; unfold PyData.eqvAll; simp
  | x :: a, y :: b => by
    simp only [List.map_cons]
    unfold PyData.eqvAll
    rw [eqv_int, eqvAll_ints a b]
    by_cases h : x = y
    · subst h; simp
    · simp [h]
theorem canLays_ints : ∀ l : List Int, PyData.canLayAll0 (l.map PyData.int) = true
  | [] => rfl
  | a :: r => by
    simp only [List.map_cons, PyData.canLayAll0, canLays_ints r, PyData.canLay0]
    rfl
theorem depths_ints : ∀ l : List Int, PyData.depthAll (l.map PyData.int) = 0
  | [] => rfl
  | a :: r => by
    simp only [List.map_cons, PyData.depthAll, depths_ints r, PyData.depth]
    rfl
def bookT (posts : Int) (may : List (List Int)) : D := .tup [.int posts, mayD may]
/-! lists of posts -/
def intsL (s : List Int) : D := .lst (s.map .int)
def rowsL (rows : List (List Int)) : D := .lst (rows.map intsL)
structure RowsOk (posts : Int) (rows : List (List Int)) : Prop where
  nd : ∀ s ∈ rows, s.Nodup
  rg : ∀ s ∈ rows, ∀ i ∈ s, 0 ≤ i ∧ i < posts
/-- persons and posts called anew -/
structure Named (posts : Int) (rows may : List (List Int)) (ord names : List Int) : Prop where
  nn : names.Nodup
  nl : (names.length : Int) = posts
  nr : ∀ i ∈ names, 0 ≤ i ∧ i < posts
  on : ord.Nodup
  ol : ord.length = rows.length
  or_ : ∀ i ∈ ord, 0 ≤ i ∧ i < rows.length
  ml : may.length = rows.length
  mm : ∀ j o, ord[j]? = some o → may.getD o.toNat [] = sortI ((rows.getD j []).map fun v => names.getD v.toNat 0)
def objI (s : List Int) : O := .lst (s.map .int)
theorem RowsOk.app {posts cut : Int} {a b : List (List Int)} (ha : RowsOk cut a) (hb : RowsOk (posts - cut) b) (h0 : 0 ≤ cut) (h1 : cut ≤ posts) : RowsOk posts (a ++ b.map fun s => s.map fun v => v + cut) := by
  refine ⟨fun s hs => ?_, fun s hs i hi => ?_⟩
  · rcases List.mem_append.mp hs with hs | hs
    · exact ha.nd s hs
    · obtain ⟨t, ht, rfl⟩ := List.mem_map.mp hs
      exact List.pairwise_map.mpr ((hb.nd t ht).imp fun {x y} hxy e => hxy (by omega))
  · rcases List.mem_append.mp hs with hs | hs
    · have := ha.rg s hs i hi; omega
    · obtain ⟨t, ht, rfl⟩ := List.mem_map.mp hs
      obtain ⟨v, hv, rfl⟩ := List.mem_map.mp hi
      have := hb.rg t ht v hv
      omega
def nodeD (p : Int × Int) : D := .tup [.int p.1, .int p.2]
/-- forests: who and what is joined so far -/
structure Grown (posts : Int) (j : Nat) (ns : List (Int × Int)) (k : Nat) (inner : List (List Int)) : Prop where
  il : inner.length = j
  nd : ∀ (p : Nat) (s : List Int), inner[p]? = some s → s.Nodup
  mem : ∀ (p : Nat) (s : List Int), inner[p]? = some s → ∀ v ∈ s, ((0 : Int), (p : Int)) ∈ ns.take k ∧ ((1 : Int), v) ∈ ns.take k ∧ 0 ≤ v ∧ v < posts
theorem Grown.start (posts : Int) (j : Nat) (ns : List (Int × Int)) : Grown posts j ns 0 (List.replicate j []) := by
  have key : ∀ (p : Nat) (s : List Int), (List.replicate j ([] : List Int))[p]? = some s → s = [] := fun p s h => List.eq_of_mem_replicate (List.mem_of_getElem? h)
  refine ⟨by simp, fun p s h => ?_, fun p s h v hv => ?_⟩
  · rw [key p s h]; exact List.nodup_nil
  · rw [key p s h] at hv; cases hv
theorem Grown.next {posts : Int} {j : Nat} {ns : List (Int × Int)} {k : Nat} {inner : List (List Int)} (g : Grown posts j ns k inner) : Grown posts j ns (k + 1) inner := by
  have sub : ∀ {x}, x ∈ ns.take k → x ∈ ns.take (k + 1) := fun {x} h => (List.take_sublist_take_left (Nat.le_succ k)).mem h
  exact ⟨g.il, g.nd, fun p s h v hv => have := g.mem p s h v hv; ⟨sub this.1, sub this.2.1, this.2.2⟩⟩
theorem Grown.add {posts : Int} {j : Nat} {ns : List (Int × Int)} {k : Nat} {inner : List (List Int)} (g : Grown posts j ns k inner) {p : Nat} {s : List Int} {v : Int} (hs : inner[p]? = some s) (hv : v ∉ s)
    (h1 : ((0 : Int), (p : Int)) ∈ ns.take (k + 1)) (h2 : ((1 : Int), v) ∈ ns.take (k + 1)) (v0 : 0 ≤ v) (v1 : v < posts) : Grown posts j ns (k + 1) (inner.set p (s ++ [v])) := by
  have g' := g.next
  have hp := (List.getElem?_eq_some_iff.mp hs).1
  refine ⟨by rw [List.length_set]; exact g.il, fun p' s' h => ?_, fun p' s' h u hu => ?_⟩
  · by_cases e : p = p'
    · subst e
      rw [List.getElem?_set_self hp] at h
      cases h
      refine List.nodup_append.mpr ⟨g.nd p s hs, by simp, fun a ha b hb => ?_⟩
      rw [List.mem_singleton.mp hb]
      exact fun e => hv (e ▸ ha)
    · rw [List.getElem?_set_ne e] at h
      exact g.nd p' s' h
  · by_cases e : p = p'
    · subst e
      rw [List.getElem?_set_self hp] at h
      cases h
      rcases List.mem_append.mp hu with hu | hu
      · exact g'.mem p s hs u hu
      · rw [List.mem_singleton.mp hu]
        exact ⟨h1, h2, v0, v1⟩
    · rw [List.getElem?_set_ne e] at h
      exact g'.mem p' s' h u hu
theorem Grown.rows {posts : Int} {j : Nat} {ns : List (Int × Int)} {k : Nat} {inner : List (List Int)} (g : Grown posts j ns k inner) : RowsOk posts inner := by
  refine ⟨fun s hs => ?_, fun s hs i hi => ?_⟩
  · obtain ⟨p, hp, rfl⟩ := List.getElem_of_mem hs
    exact g.nd p _ (List.getElem?_eq_getElem hp)
  · obtain ⟨p, hp, rfl⟩ := List.getElem_of_mem hs
    exact (g.mem p _ (List.getElem?_eq_getElem hp) i hi).2.2
/-- the nodes of a forest -/
def nodesZ (j : Nat) (posts : Int) : List (Int × Int) := ((List.range j).map fun i => ((0 : Int), ((i : Nat) : Int))) ++ ((List.range posts.toNat).map fun i => ((1 : Int), ((i : Nat) : Int)))
def prevZ (m p : Int) : Int := if p = 0 then m - 1 else p - 1
/-- rows of a ring of so many -/
structure Ringy (m : Nat) (top : Int) (inner : List (List Int)) : Prop where
  il : inner.length = m
  nd : ∀ s ∈ inner, s.Nodup
  rg : ∀ s ∈ inner, ∀ v ∈ s, 0 ≤ v ∧ v < top
  rr : ∀ (p : Nat) (s : List Int), inner[p]? = some s → ∀ v : Int, 0 ≤ v → v < m → (v ∈ s ↔ v = (p : Int) ∨ v = prevZ m p)
theorem Ringy.start {m : Nat} (h : 3 ≤ m) : Ringy m m ((List.range m).map fun (p : Nat) => [(p : Int), prevZ m p]) := by
  refine ⟨by simp, fun s hs => ?_, fun s hs v hv => ?_, fun p s hs v _ _ => ?_⟩
  · obtain ⟨p, hp, rfl⟩ := List.mem_map.mp hs
    have := List.mem_range.mp hp
    refine List.nodup_cons.mpr ⟨fun hm => ?_, by simp⟩
    rw [List.mem_singleton] at hm
    unfold prevZ at hm
    split at hm <;> omega
  · obtain ⟨p, hp, rfl⟩ := List.mem_map.mp hs
    have := List.mem_range.mp hp
    simp only [List.mem_cons, List.not_mem_nil, or_false] at hv
    rcases hv with rfl | rfl
    · omega
    · unfold prevZ
      split <;> omega
  · rw [List.getElem?_map] at hs
    obtain ⟨q, hq, rfl⟩ := Option.map_eq_some_iff.mp hs
    have := (List.getElem?_eq_some_iff.mp hq)
    obtain ⟨hl, e⟩ := this
    rw [List.getElem_range] at e
    subst e
    simp
theorem Ringy.add {m : Nat} {top : Int} {inner : List (List Int)} (g : Ringy m top inner) (ht : (m : Int) ≤ top) {p : Nat} {s : List Int} (hs : inner[p]? = some s) : Ringy m (top + 1) (inner.set p (s ++ [top])) := by
  have hp := (List.getElem?_eq_some_iff.mp hs).1
  have sm := List.mem_of_getElem? hs
  refine ⟨by rw [List.length_set]; exact g.il, fun u hu => ?_, fun u hu v hv => ?_, fun p' u hu v v0 v1 => ?_⟩
  · rcases List.mem_or_eq_of_mem_set hu with hu | rfl
    · exact g.nd u hu
    · refine List.nodup_append.mpr ⟨g.nd s sm, by simp, fun a ha b hb => ?_⟩
      rw [List.mem_singleton.mp hb]
      have := g.rg s sm a ha
      omega
  · rcases List.mem_or_eq_of_mem_set hu with hu | rfl
    · have := g.rg u hu v hv; omega
    · rcases List.mem_append.mp hv with hv | hv
      · have := g.rg s sm v hv; omega
      · rw [List.mem_singleton.mp hv]; omega
  · by_cases e : p = p'
    · subst e
      rw [List.getElem?_set_self hp] at hu
      cases hu
      rw [List.mem_append, g.rr p s hs v v0 v1, List.mem_singleton]
      constructor
      · rintro (h | h)
        · exact h
        · omega
      · exact fun h => .inl h
    · rw [List.getElem?_set_ne e] at hu
      exact g.rr p' u hu v v0 v1
-- needs: ring step
/-! a ring that was put in is one -/
def prevN (m p : Nat) : Nat := if p = 0 then m - 1 else p - 1
/-! orders -/
def squareB (may : List (List Int)) (p q s t : Int) : Bool := decide (s ∈ may.getD p.toNat []) && (decide (t ∈ may.getD p.toNat []) && (decide (s ∈ may.getD q.toNat []) && !decide (t ∈ may.getD q.toNat [])))
def anySq (may : List (List Int)) (p q : Int) : List Int → Bool
  | [] => false
  | s :: r => r.any (fun t => squareB may p q s t) || anySq may p q r
def hasSq (may : List (List Int)) (qs : List Int) : List Int → Bool
  | [] => false
  | p :: r => r.any (fun q => anySq may p q qs) || hasSq may qs r
def allD (x : D) (many : Int) : Bool := unlikeD x many && decide (((tupL x).length : Int) = many)
/-- whether a thing is an order -/
def orderD (posts : Int) (may : List (List Int)) (x : D) : Bool := match x with
  | .tup [a, b] => allD a may.length && (allD b posts && !hasSq may (tupL b) (tupL a))
  | _ => false
/-! rows of flags and places, sorted -/
def flagD (z : List Bool × Int) : D := .tup [.lst (z.1.map .bl), .int z.2]
/-- the places where both rows have a flag; where just the first one has -/
def bothZ (may : List (List Int)) (p q : Int) (l : List Int) : List Int := (l.zipIdx.filter fun z => decide (z.1 ∈ may.getD p.toNat []) && decide (z.1 ∈ may.getD q.toNat [])).map fun z => ((z.2 : Nat) : Int)
def lostZ (may : List (List Int)) (p q : Int) (l : List Int) : List Int := (l.zipIdx.filter fun z => decide (z.1 ∈ may.getD p.toNat []) && !decide (z.1 ∈ may.getD q.toNat [])).map fun z => ((z.2 : Nat) : Int)
def rowF (may : List (List Int)) (qs : List Int) (p : Int) : D := .lst ((qs.map fun v => decide (v ∈ may.getD p.toNat [])).map .bl)
/-! what BadBook tells -/
def faultV : Option (Str × Int) → D
  | none => .non
  | some (w, a) => .tup [.str w, .int a]
theorem bookFault_ok {p : Int} {m : List (List Int)} (ok : BookOk p m) : bookFault (.int p) (mayD m) = none := by
  unfold bookFault mayD
  have e : wiD (.int p) 0 12 = true := by
    simp only [wiD, Bool.and_eq_true, decide_eq_true_eq]
    exact ⟨ok.p0, ok.p1⟩
  simp only [e, if_true]
  rw [mayFault_ok (fun s hs => ?_) (by rw [List.length_map, Nat.zero_add]; exact ok.ml)]
  · rfl
  · obtain ⟨t, ht, rfl⟩ := List.mem_map.mp hs
    exact risD_ok (ok.rs t ht).1 (ok.rs t ht).2
-- needs: order
/-! rounds: some persons and as many posts, each for two, all joined -/
structure Round (adj : Int → Int → Bool) (P S : List Int) : Prop where
  pn : P.Nodup
  sn : S.Nodup
  pl : P.length = S.length
  l3 : 3 ≤ S.length
  row : ∀ p ∈ P, ∃ s t, s ∈ S ∧ t ∈ S ∧ s ≠ t ∧ adj p s = true ∧ adj p t = true ∧ ∀ u ∈ S, adj p u = true → u = s ∨ u = t
  col : ∀ s ∈ S, ∃ p q, p ∈ P ∧ q ∈ P ∧ p ≠ q ∧ adj p s = true ∧ adj q s = true ∧ ∀ r ∈ P, adj r s = true → r = p ∨ r = q
  con : ∀ T : Int → Prop, (∃ s ∈ S, T s) → (∀ p ∈ P, ∀ s ∈ S, ∀ t ∈ S, adj p s = true → adj p t = true → T s → T t) → ∀ s ∈ S, T s
def adjR (rows : List (List Int)) (p s : Int) : Bool := decide (s ∈ rows.getD p.toNat [])
def InR (rows : List (List Int)) (P : List Int) : Prop := ∀ p ∈ P, 0 ≤ p ∧ p.toNat < rows.length
def NoRound (rows : List (List Int)) : Prop := ∀ P S, InR rows P → Round (adjR rows) P S → False
theorem Round.two {adj : Int → Int → Bool} {P S : List Int} (R : Round adj P S) {a b : Int} (h : ∀ s ∈ S, s = a ∨ s = b) : False := by
  have := nodup_sub_len (b := [a, b]) R.sn fun s hs => by
    rcases h s hs with rfl | rfl <;> simp
  have := R.l3
  simp at *
  omega
theorem Round.map {a b : Int → Int → Bool} {P S : List Int} (f g : Int → Int) (fi : ∀ p ∈ P, ∀ q ∈ P, f p = f q → p = q) (gi : ∀ s ∈ S, ∀ t ∈ S, g s = g t → s = t) (h : ∀ p ∈ P, ∀ s ∈ S, b (f p) (g s) = a p s) (R : Round a P S) : Round b (P.map f) (S.map g) := by
  refine ⟨?_, ?_, by rw [List.length_map, List.length_map]; exact R.pl, by rw [List.length_map]; exact R.l3, ?_, ?_, ?_⟩
  · exact List.pairwise_map.mpr (R.pn.imp_of_mem fun {x y} hx hy hne e => hne (fi x hx y hy e))
  · exact List.pairwise_map.mpr (R.sn.imp_of_mem fun {x y} hx hy hne e => hne (gi x hx y hy e))
  · intro p' hp'
    obtain ⟨p, hp, rfl⟩ := List.mem_map.mp hp'
    obtain ⟨s, t, hs, ht, hne, h1, h2, h3⟩ := R.row p hp
    refine ⟨g s, g t, List.mem_map_of_mem hs, List.mem_map_of_mem ht, fun e => hne (gi s hs t ht e), by rw [h p hp s hs]; exact h1, by rw [h p hp t ht]; exact h2, fun u' hu' hu => ?_⟩
    obtain ⟨u, hu2, rfl⟩ := List.mem_map.mp hu'
    rw [h p hp u hu2] at hu
    rcases h3 u hu2 hu with rfl | rfl
    · exact .inl rfl
    · exact .inr rfl
  · intro s' hs'
    obtain ⟨s, hs, rfl⟩ := List.mem_map.mp hs'
    obtain ⟨p, q, hp, hq, hne, h1, h2, h3⟩ := R.col s hs
    refine ⟨f p, f q, List.mem_map_of_mem hp, List.mem_map_of_mem hq, fun e => hne (fi p hp q hq e), by rw [h p hp s hs]; exact h1, by rw [h q hq s hs]; exact h2, fun r' hr' hr => ?_⟩
    obtain ⟨r, hr2, rfl⟩ := List.mem_map.mp hr'
    rw [h r hr2 s hs] at hr
    rcases h3 r hr2 hr with rfl | rfl
    · exact .inl rfl
    · exact .inr rfl
  · rintro T ⟨s', hs', hT⟩ hc u' hu'
    obtain ⟨s, hs, rfl⟩ := List.mem_map.mp hs'
    obtain ⟨u, hu, rfl⟩ := List.mem_map.mp hu'
    refine R.con (fun x => T (g x)) ⟨s, hs, hT⟩ (fun p hp x hx y hy h1 h2 => ?_) u hu
    exact hc (f p) (List.mem_map_of_mem hp) (g x) (List.mem_map_of_mem hx) (g y) (List.mem_map_of_mem hy) (by rw [h p hp x hx]; exact h1) (by rw [h p hp y hy]; exact h2)
theorem Round.congr {a b : Int → Int → Bool} {P S : List Int} (h : ∀ p ∈ P, ∀ s ∈ S, b p s = a p s) (R : Round a P S) : Round b P S := by
  have := R.map (b := b) id id (fun p _ q _ e => e) (fun s _ t _ e => e) h
  rw [List.map_id, List.map_id] at this
  exact this
/-- of the two of a person, each -/
theorem Round.two_of {adj : Int → Int → Bool} {P S : List Int} (R : Round adj P S) {p a b : Int} (hp : p ∈ P) (ha : a ∈ S) (hb : b ∈ S) (hne : a ≠ b) (h1 : adj p a = true) (h2 : adj p b = true) : ∀ u ∈ S, adj p u = true → u = a ∨ u = b := fun u hu h => by
  obtain ⟨s, t, _, _, _, _, _, h3⟩ := R.row p hp
  have x := h3 a ha h1
  have y := h3 b hb h2
  have z := h3 u hu h
  omega
theorem Round.two_at {adj : Int → Int → Bool} {P S : List Int} (R : Round adj P S) {s p q : Int} (hs : s ∈ S) (hp : p ∈ P) (hq : q ∈ P) (hne : p ≠ q) (h1 : adj p s = true) (h2 : adj q s = true) : ∀ r ∈ P, adj r s = true → r = p ∨ r = q := fun u hu h => by
  obtain ⟨s, t, _, _, _, _, _, h3⟩ := R.col s hs
  have x := h3 p hp h1
  have y := h3 q hq h2
  have z := h3 u hu h
  omega
theorem Round.other {adj : Int → Int → Bool} {P S : List Int} (R : Round adj P S) {s p : Int} (hs : s ∈ S) (hp : p ∈ P) (h : adj p s = true) : ∃ q ∈ P, q ≠ p ∧ adj q s = true := by
  obtain ⟨x, y, hx, hy, hne, h1, h2, h3⟩ := R.col s hs
  rcases h3 p hp h with rfl | rfl
  · exact ⟨y, hy, Ne.symm hne, h2⟩
  · exact ⟨x, hx, hne, h1⟩
/-- two persons with the same two posts are a round of two -/
theorem Round.apart {adj : Int → Int → Bool} {P S : List Int} (R : Round adj P S) {p q s t : Int} (hp : p ∈ P) (hq : q ∈ P) (hpq : q ≠ p) (hs : s ∈ S) (ht : t ∈ S) (hst : s ≠ t) (a1 : adj p s = true) (a2 : adj p t = true) (a3 : adj q s = true) (a4 : adj q t = true) : False := by
  have c1 := R.two_at hs hp hq (Ne.symm hpq) a1 a3
  have c2 := R.two_at ht hp hq (Ne.symm hpq) a2 a4
  have r1 := R.two_of hp hs ht hst a1 a2
  have r2 := R.two_of hq hs ht hst a3 a4
  refine R.two (a := s) (b := t) (R.con (fun u => u = s ∨ u = t) ⟨s, hs, .inl rfl⟩ fun p' hp' x hx y hy h1 h2 hx2 => ?_)
  have : p' = p ∨ p' = q := by
    rcases hx2 with rfl | rfl
    · exact c1 p' hp' h1
    · exact c2 p' hp' h1
  rcases this with rfl | rfl
  · exact r1 y hy h2
  · exact r2 y hy h2
/-! rows of flags as numbers, the last flag counting most -/
def wb : List Bool → Nat
  | [] => 0
  | a :: r => (if a then 1 else 0) + 2 * wb r
/-! a barred square in a table that is sorted both ways leads to a round -/
structure Chn (M : Nat → Nat → Bool) (m n k : Nat) (r c : Nat → Nat) : Prop where
  k2 : 2 ≤ k
  rl : ∀ i, i < k → r i < m
  cl : ∀ i, i < k → c i < n
  ri : ∀ i j, i < j → j < k → r i < r j
  ci : ∀ i j, i < j → j < k → c i < c j
  pat : ∀ i j, i < k → j < k → M (r i) (c j) = decide (i = 0 ∧ j = 0 ∨ j = i + 1 ∨ i = j + 1)
  ar : ∀ i j, i + 2 < k → j < n → c (i + 2) < j → M (r i) j = M (r (i + 1)) j
  ac : ∀ i a, i + 2 < k → a < m → r (i + 2) < a → M a (c i) = M a (c (i + 1))
def Srt (M : Nat → Nat → Bool) (m n : Nat) : Prop := ∀ i i' j, i < i' → i' < m → j < n → M i j = true → M i' j = false → ∃ l, j < l ∧ l < n ∧ M i l = false ∧ M i' l = true ∧ ∀ k, l < k → k < n → M i k = M i' k
def ext (r : Nat → Nat) (k x : Nat) : Nat → Nat := fun i => if i = k then x else r i
theorem Chn.swap {M : Nat → Nat → Bool} {m n k : Nat} {r c : Nat → Nat} (h : Chn M m n k r c) : Chn (fun i j => M j i) n m k c r :=
  ⟨h.k2, h.cl, h.rl, h.ci, h.ri, fun i j hi hj => by
    rw [h.pat j i hj hi]
    congr 1
    simp only [eq_iff_iff]
    omega, h.ac, h.ar⟩
def rowB (may : List (List Int)) (qs : List Int) (p : Int) : List Bool := qs.map fun q => adjR may p q
def colB (may : List (List Int)) (ps : List Int) (q : Int) : List Bool := ps.map fun p => adjR may p q
/-- sorted both ways -/
structure Both (may : List (List Int)) (ps qs : List Int) : Prop where
  rows : ps.Pairwise fun p q => wb (rowB may qs p) ≤ wb (rowB may qs q)
  cols : qs.Pairwise fun s t => wb (colB may ps s) ≤ wb (colB may ps t)
/-! sorting by rows of flags: what it weighs -/
def wz : List Int → Int
  | [] => 0
  | a :: r => a + 2 * wz r
/-- what a table weighs -/
def wt (may : List (List Int)) (ps qs : List Int) : Int := wz (ps.map fun p => ((wb (rowB may qs p) : Nat) : Int))
/-! flags, the first counting most -/
def lexB : List Bool → List Bool → Bool
  | [], [] => false
  | [], _ :: _ => true
  | _ :: _, [] => false
  | a :: x, b :: y => if a = b then lexB x y else (!a && b)
def kle (a b : List Bool × Int) : Prop := lexB b.1 a.1 = false ∧ (a.1 = b.1 → a.2 ≤ b.2)
/-! rows of flags and places, in tuples, sorted with their order -/
def flagT (z : List Bool × Int) : D := .tup [.tup (z.1.map .bl), .int z.2]
def encT (z : List Bool × Int) : PyData := .tuple [.tuple (z.1.map .bool), .int z.2]
def unB : D → Bool
  | .bl b => b
  | _ => false
def unflag (d : D × PyData) : List Bool × Int := match d.1 with
  | .tup [.tup bs, .int k] => (bs.map unB, k)
  | _ => ([], 0)
/-! where rounds are and where none is -/
def ints' (n : Nat) : List Int := (List.range n).map fun i => ((i : Nat) : Int)
theorem ints_len (n : Nat) : (ints' n).length = n := by unfold ints'; simp
theorem mem_ints {n : Nat} {i : Int} : i ∈ ints' n ↔ 0 ≤ i ∧ i < n := by
  unfold ints'
  rw [List.mem_map]
  constructor
  · rintro ⟨k, hk, rfl⟩
    have := List.mem_range.mp hk
    omega
  · intro h
    exact ⟨i.toNat, List.mem_range.mpr (by omega), by omega⟩
theorem Round.perm {adj : Int → Int → Bool} {P P' S S' : List Int} (hp : P'.Perm P) (hs : S'.Perm S) (R : Round adj P S) : Round adj P' S' := by
  refine ⟨hp.nodup_iff.mpr R.pn, hs.nodup_iff.mpr R.sn, by rw [hp.length_eq, hs.length_eq]; exact R.pl, by rw [hs.length_eq]; exact R.l3, fun p h => ?_, fun s h => ?_, fun T ⟨s, h, hT⟩ hc u hu => ?_⟩
  · obtain ⟨s, t, h1, h2, h3, h4, h5, h6⟩ := R.row p (hp.mem_iff.mp h)
    exact ⟨s, t, hs.mem_iff.mpr h1, hs.mem_iff.mpr h2, h3, h4, h5, fun u hu => h6 u (hs.mem_iff.mp hu)⟩
  · obtain ⟨p, q, h1, h2, h3, h4, h5, h6⟩ := R.col s (hs.mem_iff.mp h)
    exact ⟨p, q, hp.mem_iff.mpr h1, hp.mem_iff.mpr h2, h3, h4, h5, fun u hu => h6 u (hp.mem_iff.mp hu)⟩
  · exact R.con T ⟨s, hs.mem_iff.mp h, hT⟩ (fun p h1 x h2 y h3 => hc p (hp.mem_iff.mpr h1) x (hs.mem_iff.mpr h2) y (hs.mem_iff.mpr h3)) u (hs.mem_iff.mp hu)
def Wide (may : List (List Int)) (w : Nat) : Prop := 2 ≤ w ∧ (w = 2 ∨ ∃ P S, InR may P ∧ Round (adjR may) P S ∧ S.length = w)
-- needs: rounds
/-! rows without a round; the same under other names -/
/-! rings as tuples, and rounds -/
def ringT (r : List Int × List Int) : D := .tup [tupI r.1, tupI r.2]
/-! the search: a way, what it leads to -/
def freeI (may : List (List Int)) (L M : List Int) : List Int := (may.getD (L.getD (L.length - 1) 0).toNat []).filter fun q => decide (q ∉ M) && !L.dropLast.any fun p => adjR may p q
def candI (may : List (List Int)) (L M : List Int) : List Int := (if 1 < L.length then freeI may L M else may.getD (L.getD 0 0).toNat []).filter fun q => decide (q ∉ M)
def nextI (may : List (List Int)) (L M : List Int) (q : Int) : List Int := ((List.range' ((L.getD 0 0).toNat + 1) (may.length - ((L.getD 0 0).toNat + 1))).map fun i => ((i : Nat) : Int)).filter fun p => (decide (p ∉ L) && adjR may p q) && !(M.drop 1).any fun one => adjR may p one
def prs (may : List (List Int)) (L M : List Int) : List (Int × Int) := (candI may L M).flatMap fun q => (nextI may L M q).map fun p => (q, p)
def waysI (may : List (List Int)) (L M : List Int) (zs : List (Int × Int)) : List (List Int × List Int) := (zs.filter fun z => !adjR may z.2 (M.getD 0 0)).map fun z => (L ++ [z.2], M ++ [z.1])
def closI (may : List (List Int)) (L M : List Int) (zs : List (Int × Int)) : List (List Int × List Int) := if 1 < L.length then (zs.filter fun z => adjR may z.2 (M.getD 0 0)).map fun z => (L ++ [z.2], M.drop 1 ++ [z.1] ++ M.take 1) else []
/-- a way along a round, begun with its least person -/
structure Good (may : List (List Int)) (P S L M : List Int) : Prop where
  l1 : 1 ≤ L.length
  lm : L.length = M.length
  ln : L.Nodup
  mn : M.Nodup
  lp : ∀ p ∈ L, p ∈ P
  ms : ∀ s ∈ M, s ∈ S
  least : ∀ p ∈ P, L.getD 0 0 ≤ p
  at_ : ∀ i, i < L.length → adjR may (L.getD i 0) (M.getD i 0) = true
  on : ∀ i, i + 1 < L.length → adjR may (L.getD i 0) (M.getD (i + 1) 0) = true
  off : ∀ i, 1 ≤ i → i < L.length → adjR may (L.getD i 0) (M.getD 0 0) = false
theorem getD_mem {l : List Int} {i : Nat} (h : i < l.length) : l.getD i 0 ∈ l ∧ l[i]? = some (l.getD i 0) := by
  rw [List.getD_eq_getElem?_getD, List.getElem?_eq_getElem h]; exact ⟨List.getElem_mem h, rfl⟩
/-! how far the search may go -/
def gW (n : Nat) : Nat := [1, 1, 2, 3, 4, 6, 9, 12, 18, 27, 36, 54, 81].getD n 81
def freeA (posts : Int) (may : List (List Int)) (L M : List Int) : List Int := (ints' posts.toNat).filter fun q => decide (q ∉ M) && !L.dropLast.any fun p => adjR may p q
def freeB (may : List (List Int)) (L M : List Int) : List Int := (ints' may.length).filter fun p => decide (p ∉ L) && !(M.drop 1).any fun one => adjR may p one
def phi (posts : Int) (may : List (List Int)) (w : List Int × List Int) : Nat := gW (freeA posts may w.1 w.2).length * gW (freeB may w.1 w.2).length
def mu (w : List Int × List Int) : Nat := 145 ^ (13 - w.1.length)
structure WayOk (posts : Int) (may : List (List Int)) (w : List Int × List Int) : Prop where
  l1 : 1 ≤ w.1.length
  lm : w.1.length = w.2.length
  ln : w.1.Nodup
  mn : w.2.Nodup
  lr : ∀ p ∈ w.1, 0 ≤ p ∧ p.toNat < may.length
  mr : ∀ q ∈ w.2, 0 ≤ q ∧ q < posts
/-! the search as a whole: what was found, what is still to be gone on with -/
structure Srch (posts : Int) (may : List (List Int)) (F W : List (List Int × List Int)) : Prop where
  fr : ∀ r ∈ F, ringD posts may (ringT r) = true
  wr : ∀ w ∈ W, WayOk posts may w
  sz : F.length + (W.map (phi posts may)).sum ≤ 1000000
  cp : ∀ P S, InR may P → Round (adjR may) P S → (∃ r ∈ F, r.1.length = S.length) ∨ ∃ w ∈ W, Good may P S w.1 w.2
def startW (may : List (List Int)) : List (List Int × List Int) := (List.range may.length).flatMap fun p => (may.getD p []).map fun q => ([((p : Nat) : Int)], [q])
/-- what all_rings tells -/
def AllRings (posts : Int) (may : List (List Int)) (R : List (List Int × List Int)) : Prop :=
  R.length ≤ 1000000 ∧ (∀ r ∈ R, ringD posts may (ringT r) = true) ∧ ∀ P S, InR may P → Round (adjR may) P S → ∃ r ∈ R, r.1.length = S.length
def MaxR (may : List (List Int)) (w : Nat) : Prop := Wide may w ∧ ∀ P S, InR may P → Round (adjR may) P S → S.length ≤ w
def RingQ (posts : Int) (may : List (List Int)) (size : Int) (Q : VD) (h : DH) : Prop :=
  (∀ r : List Int × List Int, ringD posts may (ringT r) = true → size < ((r.1.length : Nat) : Int) → Q (ringT r) h) ∧ ((∀ P S, InR may P → Round (adjR may) P S → ((S.length : Nat) : Int) ≤ size) → Q .non h)
def pyI (l : List Int) : PyData := .tuple (l.map .int)
def pyR (r : List Int × List Int) : PyData := .tuple [pyI r.1, pyI r.2]
/-! the widest round of a book that a ring was put into -/
/-! cycles of a map: how many there are, and what a swap makes of them -/
/-- l is a cycle of f -/
def Cyc (f : Int → Int) (l : List Int) : Prop := ∃ x a, l = x :: a ∧ l.map f = a ++ [x]
theorem Cyc.split {f : Int → Int} {x y z : Int} {a b : List Int} (h : (x :: a ++ y :: b).map f = a ++ y :: b ++ [z]) : (x :: a).map f = a ++ [y] ∧ (y :: b).map f = b ++ [z] := by
  rw [List.map_append, show a ++ y :: b ++ [z] = (a ++ [y]) ++ (b ++ [z]) by simp] at h
  exact List.append_inj h (by simp)
theorem Cyc.turn {f : Int → Int} {l : List Int} (h : Cyc f l) {x : Int} (hx : x ∈ l) : ∃ a, (x :: a).Perm l ∧ (x :: a).map f = a ++ [x] := by
  obtain ⟨y, c, rfl, e⟩ := h
  obtain ⟨u, v, euv⟩ := List.append_of_mem hx
  cases u with
  | nil =>
    rw [List.nil_append] at euv
    injection euv with e1 e2
    subst e1 e2
    exact ⟨c, List.Perm.refl _, e⟩
  | cons h u =>
    rw [List.cons_append] at euv
    injection euv with e1 e2
    subst e1 e2
    obtain ⟨e3, e4⟩ := Cyc.split (x := y) (a := u) (y := x) (b := v) (z := y) e
    refine ⟨v ++ y :: u, ?_, ?_⟩
    · have := List.perm_append_comm (l₁ := x :: v) (l₂ := y :: u)
      simpa using this
    · rw [show x :: (v ++ y :: u) = (x :: v) ++ (y :: u) from rfl, List.map_append, e4, e3]
      simp
/-- what is closed under f and meets the cycle holds it whole -/
theorem Cyc.sub {f : Int → Int} {l : List Int} (h : Cyc f l) {T : Int → Prop} (cl : ∀ z, T z → T (f z)) {x : Int} (hx : x ∈ l) (tx : T x) : ∀ w ∈ l, T w := by
  obtain ⟨a, p, e⟩ := h.turn hx
  have go : ∀ (a : List Int) (x z : Int), T x → (x :: a).map f = a ++ [z] → ∀ w ∈ x :: a, T w := fun a => by
    induction a with
    | nil =>
      intro x z tx _ w hw
      rw [List.mem_singleton.mp hw]; exact tx
    | cons b r ih =>
      intro x z tx e w hw
      rw [List.map_cons, List.cons_append] at e
      injection e with e1 e2
      rcases List.mem_cons.mp hw with rfl | hw
      · exact tx
      · exact ih b z (by rw [← e1]; exact cl x tx) e2 w hw
  exact fun w hw => go a x x tx e w (p.mem_iff.mpr hw)
theorem Cyc.clos {f : Int → Int} {l : List Int} (h : Cyc f l) {z : Int} (hz : z ∈ l) : f z ∈ l := by
  obtain ⟨x, a, rfl, e⟩ := h
  have : f z ∈ (x :: a).map f := List.mem_map_of_mem hz
  rw [e] at this
  rcases List.mem_append.mp this with h | h
  · exact List.mem_cons_of_mem _ h
  · rw [List.mem_singleton.mp h]; exact List.mem_cons_self
theorem Cyc.congr {f g : Int → Int} {l : List Int} (h : Cyc f l) (e : ∀ z ∈ l, g z = f z) : Cyc g l := by
  obtain ⟨x, a, rfl, e2⟩ := h
  exact ⟨x, a, rfl, by rw [List.map_congr_left e]; exact e2⟩
/-- all of F in cycles -/
structure Dec (f : Int → Int) (F : List Int) (Ls : List (List Int)) : Prop where
  n : F.Nodup
  p : Ls.flatten.Perm F
  c : ∀ l ∈ Ls, Cyc f l
theorem Dec.perm {f : Int → Int} {F : List Int} {Ls Ms : List (List Int)} (d : Dec f F Ls) (p : Ms.Perm Ls) : Dec f F Ms := ⟨d.n, p.flatten.trans d.p, fun l hl => d.c l (p.mem_iff.mp hl)⟩
theorem perm_front {α : Type} {a : α} {l : List α} (h : a ∈ l) : ∃ r, (a :: r).Perm l := by
  obtain ⟨u, v, rfl⟩ := List.append_of_mem h
  exact ⟨u ++ v, List.perm_middle.symm⟩
theorem Dec.front {f : Int → Int} {F : List Int} {Ls : List (List Int)} (d : Dec f F Ls) {x : Int} (hx : x ∈ F) : ∃ a R, Dec f F ((x :: a) :: R) ∧ (x :: a).map f = a ++ [x] ∧ R.length + 1 = Ls.length := by
  obtain ⟨l, hl, hxl⟩ := List.mem_flatten.mp (d.p.mem_iff.mpr hx)
  obtain ⟨R, pr⟩ := perm_front hl
  obtain ⟨a, pa, ea⟩ := (d.c l hl).turn hxl
  have d2 := d.perm pr
  refine ⟨a, R, ⟨d.n, ?_, fun m hm => ?_⟩, ea, by rw [← pr.length_eq]; rfl⟩
  · refine List.Perm.trans ?_ d2.p
    rw [List.flatten_cons, List.flatten_cons]
    exact pa.append_right _
  · rcases List.mem_cons.mp hm with rfl | hm
    · exact ⟨x, a, rfl, ea⟩
    · exact d2.c m (List.mem_cons_of_mem _ hm)
theorem Dec.swap {f g : Int → Int} {F : List Int} {Ls : List (List Int)} (d : Dec f F Ls) {x y : Int} (hx : x ∈ F) (hy : y ∈ F) (hne : x ≠ y) (gx : g x = f y) (gy : g y = f x) (go : ∀ z ∈ F, z ≠ x → z ≠ y → g z = f z) :
    ∃ Ms, Dec g F Ms ∧ (Ms.length = Ls.length + 1 ∨ Ms.length + 1 = Ls.length) := by
  obtain ⟨c, R, d1, ec, hl⟩ := d.front hx
  have n1 : ((x :: c) :: R).flatten.Nodup := d1.p.symm.nodup d1.n
  rw [List.flatten_cons] at n1
  obtain ⟨nc, nR, nd⟩ := List.nodup_append.mp n1
  have xc : x ∉ c := (List.nodup_cons.mp nc).1
  have inc : ∀ z ∈ c, z ∈ F := fun z hz => d1.p.mem_iff.mp (by rw [List.flatten_cons]; exact List.mem_append_left _ (List.mem_cons_of_mem _ hz))
  have inR : ∀ z ∈ R.flatten, z ∈ F := fun z hz => d1.p.mem_iff.mp (by rw [List.flatten_cons]; exact List.mem_append_right _ hz)
  have seg : ∀ (u v : Int) (a : List Int), (∀ z ∈ a, z ≠ x ∧ z ≠ y) → (∀ z ∈ a, z ∈ F) → g u = f v → (u :: a).map g = (v :: a).map f := fun u v a ha hF e => by
    rw [List.map_cons, List.map_cons, e, List.map_congr_left (g := f) fun z hz => go z (hF z hz) (ha z hz).1 (ha z hz).2]
  by_cases hyc : y ∈ c
  · obtain ⟨a, b, rfl⟩ := List.append_of_mem hyc
    have nc2 := (List.nodup_cons.mp nc).2
    obtain ⟨na, nb, nab⟩ := List.nodup_append.mp nc2
    have yb : y ∉ b := (List.nodup_cons.mp nb).1
    have ya : y ∉ a := fun h => nab y h y List.mem_cons_self rfl
    have oa : ∀ z ∈ a, z ≠ x ∧ z ≠ y := fun z hz => ⟨fun e => xc (by rw [← e]; exact List.mem_append_left _ hz), fun e => ya (by rw [← e]; exact hz)⟩
    have ob : ∀ z ∈ b, z ≠ x ∧ z ≠ y := fun z hz => ⟨fun e => xc (by rw [← e]; exact List.mem_append_right _ (List.mem_cons_of_mem _ hz)), fun e => yb (by rw [← e]; exact hz)⟩
    obtain ⟨e3, e4⟩ := Cyc.split (x := x) (a := a) (y := y) (b := b) (z := x) ec
    refine ⟨(x :: b) :: (y :: a) :: R, ⟨d.n, ?_, fun m hm => ?_⟩, .inl (by simp only [List.length_cons]; omega)⟩
    · refine List.Perm.trans ?_ d1.p
      simp only [List.flatten_cons]
      rw [← List.append_assoc]
      refine List.Perm.append_right _ ?_
      show (x :: (b ++ y :: a)).Perm (x :: (a ++ y :: b))
      refine List.Perm.cons _ ?_
      exact List.perm_middle.trans ((List.Perm.cons _ List.perm_append_comm).trans List.perm_middle.symm)
    · rcases List.mem_cons.mp hm with rfl | hm
      · exact ⟨x, b, rfl, by rw [seg x y b ob (fun z hz => inc z (List.mem_append_right _ (List.mem_cons_of_mem _ hz))) gx]; exact e4⟩
      · rcases List.mem_cons.mp hm with rfl | hm
        · exact ⟨y, a, rfl, by rw [seg y x a oa (fun z hz => inc z (List.mem_append_left _ hz)) gy]; exact e3⟩
        · refine (d1.c m (List.mem_cons_of_mem _ hm)).congr fun z hz => go z (inR z (List.mem_flatten.mpr ⟨m, hm, hz⟩)) (fun e => ?_) fun e => ?_
          · exact nd x List.mem_cons_self z (List.mem_flatten.mpr ⟨m, hm, hz⟩) e.symm
          · exact nd y (List.mem_cons_of_mem _ (List.mem_append_right _ List.mem_cons_self)) z (List.mem_flatten.mpr ⟨m, hm, hz⟩) e.symm
  · have hyR : y ∈ R.flatten := by
      have := d1.p.mem_iff.mpr hy
      rw [List.flatten_cons] at this
      rcases List.mem_append.mp this with h | h
      · rcases List.mem_cons.mp h with h | h
        · exact absurd h.symm hne
        · exact absurd h hyc
      · exact h
    obtain ⟨l, hlR, hyl⟩ := List.mem_flatten.mp hyR
    obtain ⟨T, pT⟩ := perm_front hlR
    obtain ⟨b, pb, eb⟩ := (d1.c l (List.mem_cons_of_mem _ hlR)).turn hyl
    have pR : ((y :: b) ++ T.flatten).Perm R.flatten := (List.Perm.append_right _ pb).trans (by have := pT.flatten; rwa [List.flatten_cons] at this)
    have nR2 := pR.symm.nodup nR
    obtain ⟨nb, nT, nbT⟩ := List.nodup_append.mp nR2
    have oc : ∀ z ∈ c, z ≠ x ∧ z ≠ y := fun z hz => ⟨fun e => xc (by rw [← e]; exact hz), fun e => hyc (by rw [← e]; exact hz)⟩
    have ob : ∀ z ∈ b, z ≠ x ∧ z ≠ y := fun z hz => ⟨fun e => nd x List.mem_cons_self z (pR.mem_iff.mp (List.mem_append_left _ (List.mem_cons_of_mem _ hz))) e.symm, fun e => (List.nodup_cons.mp nb).1 (by rw [← e]; exact hz)⟩
    refine ⟨(x :: b ++ y :: c) :: T, ⟨d.n, ?_, fun m hm => ?_⟩, .inr (by have := pT.length_eq; simp only [List.length_cons] at this ⊢; omega)⟩
    · refine List.Perm.trans ?_ d1.p
      simp only [List.flatten_cons]
      have e1 : (x :: b ++ y :: c ++ T.flatten).Perm (x :: c ++ ((y :: b) ++ T.flatten)) := by
        show (x :: (b ++ y :: c ++ T.flatten)).Perm (x :: (c ++ (y :: b ++ T.flatten)))
        refine List.Perm.cons _ ?_
        rw [← List.append_assoc]
        refine List.Perm.append_right _ ?_
        exact List.perm_middle.trans ((List.Perm.cons _ List.perm_append_comm).trans List.perm_middle.symm)
      exact e1.trans (List.Perm.append_left _ pR)
    · rcases List.mem_cons.mp hm with rfl | hm
      · refine ⟨x, b ++ y :: c, rfl, ?_⟩
        rw [List.map_append, seg x y b ob (fun z hz => inR z (pR.mem_iff.mp (List.mem_append_left _ (List.mem_cons_of_mem _ hz)))) gx, seg y x c oc inc gy, eb, ec]
        simp
      · refine (d1.c m (List.mem_cons_of_mem _ (pT.mem_iff.mp (List.mem_cons_of_mem _ hm)))).congr fun z hz => go z (inR z (List.mem_flatten.mpr ⟨m, pT.mem_iff.mp (List.mem_cons_of_mem _ hm), hz⟩)) (fun e => ?_) fun e => ?_
        · exact nd x List.mem_cons_self z (List.mem_flatten.mpr ⟨m, pT.mem_iff.mp (List.mem_cons_of_mem _ hm), hz⟩) e.symm
        · exact nbT y List.mem_cons_self z (List.mem_flatten.mpr ⟨m, hm, hz⟩) e.symm
/-- two ways to write the cycles: as many -/
theorem Dec.le {f : Int → Int} {F : List Int} : ∀ {Ls Ms : List (List Int)}, Dec f F Ls → Dec f F Ms → Ls.length ≤ Ms.length := by
  have key : ∀ (k : Nat) (F : List Int) (Ls Ms : List (List Int)), Ls.length = k → Dec f F Ls → Dec f F Ms → Ls.length ≤ Ms.length := fun k => by
    induction k with
    | zero => exact fun F Ls Ms e _ _ => by omega
    | succ k ih =>
      intro F Ls Ms e d d'
      match Ls, e with
      | l :: R, e =>
      obtain ⟨x, a, rfl, ex⟩ := d.c l List.mem_cons_self
      have hxF : x ∈ F := d.p.mem_iff.mp (by rw [List.flatten_cons]; exact List.mem_append_left _ List.mem_cons_self)
      obtain ⟨b, S, d2, eb, hS⟩ := d'.front hxF
      have c1 : Cyc f (x :: a) := ⟨x, a, rfl, ex⟩
      have c2 : Cyc f (x :: b) := ⟨x, b, rfl, eb⟩
      have s1 : ∀ w ∈ x :: a, w ∈ x :: b := c1.sub (T := fun w => w ∈ x :: b) (fun z hz => c2.clos hz) List.mem_cons_self List.mem_cons_self
      have s2 : ∀ w ∈ x :: b, w ∈ x :: a := c2.sub (T := fun w => w ∈ x :: a) (fun z hz => c1.clos hz) List.mem_cons_self List.mem_cons_self
      have n1 := d.p.symm.nodup d.n
      have n2 := d2.p.symm.nodup d.n
      rw [List.flatten_cons] at n1 n2
      obtain ⟨na, nR, ndR⟩ := List.nodup_append.mp n1
      obtain ⟨nb, nS, ndS⟩ := List.nodup_append.mp n2
      have pR : R.flatten.Perm S.flatten := by
        refine (List.perm_ext_iff_of_nodup nR nS).mpr fun w => ?_
        have m1 : w ∈ x :: a ∨ w ∈ R.flatten ↔ w ∈ F := by rw [← d.p.mem_iff, List.flatten_cons, List.mem_append]
        have m2 : w ∈ x :: b ∨ w ∈ S.flatten ↔ w ∈ F := by rw [← d2.p.mem_iff, List.flatten_cons, List.mem_append]
        constructor
        · intro hw
          rcases m2.mpr (m1.mp (.inr hw)) with h | h
          · exact absurd rfl (ndR w (s2 w h) w hw)
          · exact h
        · intro hw
          rcases m1.mpr (m2.mp (.inr hw)) with h | h
          · exact absurd rfl (ndS w (s1 w h) w hw)
          · exact h
      have e2 : R.length = k := by simpa using e
      have := ih R.flatten R S e2 ⟨nR, List.Perm.refl _, fun m hm => d.c m (List.mem_cons_of_mem _ hm)⟩ ⟨nR, pR.symm, fun m hm => d2.c m (List.mem_cons_of_mem _ hm)⟩
      simp only [List.length_cons]
      omega
  exact fun {Ls Ms} d d' => key _ F _ _ rfl d d'
theorem Dec.len {f : Int → Int} {F : List Int} {Ls Ms : List (List Int)} (d : Dec f F Ls) (d' : Dec f F Ms) : Ls.length = Ms.length := Nat.le_antisymm (d.le d') (d'.le d)
-- needs: cyc exch
/-! two fillings of one cast: their rounds -/
structure Two (one other : List (Option Int)) : Prop where
  len : other.length = one.length
  inj : ∀ (i j : Nat) v, one[i]? = some (some v) → one[j]? = some (some v) → i = j
  inj2 : ∀ (i j : Nat) v, other[i]? = some (some v) → other[j]? = some (some v) → i = j
  non : ∀ i : Nat, one[i]? = some none ↔ other[i]? = some none
  pst : ∀ v : Int, some v ∈ one ↔ some v ∈ other
theorem Two.symm {one other : List (Option Int)} (t : Two one other) : Two other one := ⟨t.len.symm, t.inj2, t.inj, fun i => (t.non i).symm, fun v => (t.pst v).symm⟩
/-- who stands where p goes -/
def nxP (one other : List (Option Int)) (p : Int) : Int := ((one.idxOf (other.getD p.toNat none) : Nat) : Int)
/-- who stands somewhere -/
def onP (one : List (Option Int)) : List Int := (ints' one.length).filter fun p => (one.getD p.toNat none).isSome
theorem mem_onP {one : List (Option Int)} {p : Int} : p ∈ onP one ↔ 0 ≤ p ∧ ∃ v, one[p.toNat]? = some (some v) := by
  unfold onP
  rw [List.mem_filter, mem_ints, List.getD_eq_getElem?_getD]
  constructor
  · rintro ⟨⟨h0, h1⟩, h2⟩
    have hl : p.toNat < one.length := by omega
    rw [List.getElem?_eq_getElem hl] at h2 ⊢
    cases e : one[p.toNat] with
    | none => rw [e] at h2; cases h2
    | some v => exact ⟨h0, v, rfl⟩
  · rintro ⟨h0, v, h2⟩
    have := (List.getElem?_eq_some_iff.mp h2).1
    rw [h2]
    exact ⟨⟨h0, by omega⟩, rfl⟩
theorem onP_len (one : List (Option Int)) : (onP one).length ≤ one.length := by
  have := List.length_filter_le (fun p : Int => (one.getD p.toNat none).isSome) (ints' one.length)
  rw [ints_len] at this
  exact this
theorem Two.on {one other : List (Option Int)} (t : Two one other) {p : Int} : p ∈ onP one ↔ p ∈ onP other := by
  have go : ∀ {a b : List (Option Int)}, b.length = a.length → (∀ i : Nat, a[i]? = some none ↔ b[i]? = some none) → p ∈ onP a → p ∈ onP b := fun {a b} l n h => by
    obtain ⟨h0, v, e⟩ := mem_onP.mp h
    have hl := (List.getElem?_eq_some_iff.mp e).1
    refine mem_onP.mpr ⟨h0, ?_⟩
    cases e2 : b[p.toNat]? with
    | none => have := List.getElem?_eq_none_iff.mp e2; omega
    | some o =>
      cases o with
      | none => rw [(n _).mpr e2] at e; cases e
      | some w => exact ⟨w, rfl⟩
  exact ⟨go t.len t.non, go t.symm.len t.symm.non⟩
theorem idx_opt {l : List (Option Int)} {x : Option Int} (h : x ∈ l) : l[l.idxOf x]? = some x := by
  have hl : l.idxOf x < l.length := List.idxOf_lt_length_of_mem h
  rw [List.getElem?_eq_getElem hl]
  exact congrArg some (List.getElem_idxOf hl)
/-- he stands where p goes -/
theorem Two.at {one other : List (Option Int)} (t : Two one other) {p : Int} (h : p ∈ onP one) : ∃ v, other[p.toNat]? = some (some v) ∧ one[(nxP one other p).toNat]? = some (some v) ∧ nxP one other p ∈ onP one := by
  obtain ⟨_, v, e⟩ := mem_onP.mp (t.on.mp h)
  have hm : some v ∈ one := (t.pst v).mpr (List.mem_of_getElem? e)
  have e2 : nxP one other p = ((one.idxOf (some v) : Nat) : Int) := by
    unfold nxP
    rw [List.getD_eq_getElem?_getD, e]; rfl
  have e3 := idx_opt hm
  refine ⟨v, e, by rw [e2, Int.toNat_natCast]; exact e3, mem_onP.mpr ⟨by rw [e2]; omega, v, by rw [e2, Int.toNat_natCast]; exact e3⟩⟩
theorem Two.nx_inj {one other : List (Option Int)} (t : Two one other) {p q : Int} (hp : p ∈ onP one) (hq : q ∈ onP one) (e : nxP one other p = nxP one other q) : p = q := by
  obtain ⟨v, e1, e2, _⟩ := t.at hp
  obtain ⟨w, e3, e4, _⟩ := t.at hq
  rw [e, e4] at e2
  have hvw : w = v := Option.some.inj (Option.some.inj e2)
  have := t.inj2 _ _ v e1 (by rw [e3, hvw])
  have h1 := (mem_onP.mp hp).1
  have h2 := (mem_onP.mp hq).1
  omega
/-- p goes where q stands -/
theorem Two.nx_iff {one other : List (Option Int)} (t : Two one other) {p q : Int} (hp : p ∈ onP one) (hq : q ∈ onP one) : nxP one other p = q ↔ other.getD p.toNat none = one.getD q.toNat none := by
  obtain ⟨v, e1, e2, m⟩ := t.at hp
  obtain ⟨h0, w, e3⟩ := mem_onP.mp hq
  rw [List.getD_eq_getElem?_getD, List.getD_eq_getElem?_getD, e1, e3]
  constructor
  · intro e
    rw [e, e3] at e2
    exact (Option.some.inj e2).symm
  · intro e
    have e : some v = some w := e
    have := t.inj _ _ v e2 (by rw [e3, e])
    have h1 := (mem_onP.mp m).1
    omega
/-- a line so far: p :: a, who is next z -/
structure Run (one other : List (Option Int)) (p : Int) (a : List Int) (z : Int) : Prop where
  m : (p :: a).map (nxP one other) = a ++ [z]
  n : (p :: a).Nodup
  f : ∀ x ∈ p :: a, x ∈ onP one
theorem Run.start {one other : List (Option Int)} {p : Int} (h : p ∈ onP one) : Run one other p [] (nxP one other p) := ⟨rfl, by simp, fun x hx => by rw [List.mem_singleton.mp hx]; exact h⟩
theorem Run.last {one other : List (Option Int)} {p z : Int} {a : List Int} (r : Run one other p a z) : nxP one other ((p :: a).getLast (by simp)) = z := by
  have h := congrArg List.getLast? r.m
  rw [List.getLast?_map, List.getLast?_append, List.getLast?_eq_getLast (l := p :: a) (by simp)] at h
  simpa using h
theorem Run.zin {one other : List (Option Int)} (t : Two one other) {p z : Int} {a : List Int} (r : Run one other p a z) : z ∈ onP one := by
  rw [← r.last]
  obtain ⟨_, _, _, m⟩ := t.at (r.f _ (List.getLast_mem _))
  exact m
theorem nodup_mapOn {f : Int → Int} : ∀ {l : List Int}, l.Nodup → (∀ x ∈ l, ∀ y ∈ l, f x = f y → x = y) → (l.map f).Nodup
  | [], _, _ => List.nodup_nil
  | x :: r, n, h => by
    obtain ⟨n1, n2⟩ := List.nodup_cons.mp n
    rw [List.map_cons]
    refine List.nodup_cons.mpr ⟨fun hm => ?_, nodup_mapOn n2 fun a ha b hb => h a (List.mem_cons_of_mem _ ha) b (List.mem_cons_of_mem _ hb)⟩
    obtain ⟨y, hy, e⟩ := List.mem_map.mp hm
    exact n1 (by rw [h x List.mem_cons_self y (List.mem_cons_of_mem _ hy) e.symm]; exact hy)
theorem Run.fresh {one other : List (Option Int)} (t : Two one other) {p z : Int} {a : List Int} (r : Run one other p a z) : z ∉ a := by
  have n := nodup_mapOn (f := nxP one other) r.n fun x hx y hy e => t.nx_inj (r.f x hx) (r.f y hy) e
  rw [r.m] at n
  obtain ⟨_, _, d⟩ := List.nodup_append.mp n
  exact fun h => d z h z (by simp) rfl
theorem Run.step {one other : List (Option Int)} (t : Two one other) {p z : Int} {a : List Int} (r : Run one other p a z) (hz : z ≠ p) : Run one other p (a ++ [z]) (nxP one other z) := by
  refine ⟨?_, ?_, fun x hx => ?_⟩
  · show (p :: a ++ [z]).map _ = _
    rw [List.map_append, r.m]; rfl
  · show (p :: a ++ [z]).Nodup
    refine List.nodup_append.mpr ⟨r.n, by simp, fun x hx y hy e => ?_⟩
    rw [List.mem_singleton.mp hy] at e
    rcases List.mem_cons.mp hx with hx | hx
    · exact hz (e.symm.trans hx)
    · exact r.fresh t (by rw [← e]; exact hx)
  · rcases List.mem_append.mp (show x ∈ (p :: a) ++ [z] from hx) with hx | hx
    · exact r.f x hx
    · rw [List.mem_singleton.mp hx]; exact r.zin t
theorem Run.len {one other : List (Option Int)} {p z : Int} {a : List Int} (r : Run one other p a z) : a.length + 1 ≤ one.length := by
  have h := nodup_sub_len r.n r.f
  have := onP_len one
  simp only [List.length_cons] at h
  omega
/-- the line of p, computed -/
def runF (one other : List (Option Int)) (p : Int) : Nat → List Int → Int → List Int
  | 0, a, _ => a
  | n + 1, a, z => if z = p then a else runF one other p n (a ++ [z]) (nxP one other z)
def lineF (one other : List (Option Int)) (p : Int) : List Int := p :: runF one other p one.length [] (nxP one other p)
theorem Run.fin {one other : List (Option Int)} (t : Two one other) {p : Int} : ∀ {n : Nat} {a : List Int} {z : Int}, Run one other p a z → one.length ≤ n + a.length → Run one other p (runF one other p n a z) p
  | 0, a, z, r, h => by have := r.len; omega
  | n + 1, a, z, r, h => by
    unfold runF
    by_cases e : z = p
    · rw [if_pos e]; rw [e] at r; exact r
    · rw [if_neg e]
      exact Run.fin t (r.step t e) (by rw [List.length_append]; show _ ≤ n + (_ + 1); omega)
theorem line_run {one other : List (Option Int)} (t : Two one other) {p : Int} (h : p ∈ onP one) : Run one other p (lineF one other p).tail p := Run.fin t (Run.start h) (by simp)
theorem line_cyc {one other : List (Option Int)} (t : Two one other) {p : Int} (h : p ∈ onP one) : Cyc (nxP one other) (lineF one other p) := ⟨p, _, rfl, (line_run t h).m⟩
/-- whether p moves -/
def mv (one other : List (Option Int)) (p : Int) : Bool := !decide (one.getD p.toNat none = other.getD p.toNat none)
def rdF (one other : List (Option Int)) : List Int → List (List Int) → List (List Int)
  | [], Ls => Ls
  | p :: r, Ls => if mv one other p = true ∧ p ∉ Ls.flatten then rdF one other r (Ls ++ [lineF one other p]) else rdF one other r Ls
def rounds' (one other : List (Option Int)) : List (List Int) := rdF one other (ints' one.length) []
/-- the rounds so far: all persons of done that move are there -/
structure Rd (one other : List (Option Int)) (don : List Int) (Ls : List (List Int)) : Prop where
  n : Ls.flatten.Nodup
  c : ∀ l ∈ Ls, Cyc (nxP one other) l
  i : ∀ x ∈ Ls.flatten, x ∈ onP one ∧ mv one other x = true
  d : ∀ p ∈ don, mv one other p = true → p ∈ Ls.flatten
theorem Two.mv_on {one other : List (Option Int)} (t : Two one other) {p : Int} (h0 : 0 ≤ p) (h1 : p < one.length) (h : mv one other p = true) : p ∈ onP one := by
  have hl : p.toNat < one.length := by omega
  refine mem_onP.mpr ⟨h0, ?_⟩
  rw [List.getElem?_eq_getElem hl]
  cases e : one[p.toNat] with
  | some v => exact ⟨v, rfl⟩
  | none =>
    have e1 : one[p.toNat]? = some none := by rw [List.getElem?_eq_getElem hl, e]
    have e2 := (t.non _).mp e1
    unfold mv at h
    rw [List.getD_eq_getElem?_getD, List.getD_eq_getElem?_getD, e1, e2] at h
    simp at h
/-- who moves not is his own next -/
theorem Two.mv_nx {one other : List (Option Int)} (t : Two one other) {p : Int} (h : p ∈ onP one) : mv one other p = true ↔ nxP one other p ≠ p := by
  unfold mv
  rw [Bool.not_eq_true', decide_eq_false_iff_not]
  exact not_congr ⟨fun e => (t.nx_iff h h).mpr e.symm, fun e => ((t.nx_iff h h).mp e).symm⟩
theorem Rd.step {one other : List (Option Int)} (t : Two one other) {don : List Int} {Ls : List (List Int)} {p : Int} (r : Rd one other don Ls) (h0 : 0 ≤ p) (h1 : p < one.length) (hm : mv one other p = true) (hn : p ∉ Ls.flatten) : Rd one other (don ++ [p]) (Ls ++ [lineF one other p]) := by
  have hp := t.mv_on h0 h1 hm
  have run := line_run t hp
  have cy := line_cyc t hp
  have clo : ∀ z, z ∈ Ls.flatten → nxP one other z ∈ Ls.flatten := fun z hz => by
    obtain ⟨l, hl, hzl⟩ := List.mem_flatten.mp hz
    exact List.mem_flatten.mpr ⟨l, hl, (r.c l hl).clos hzl⟩
  have ef : (Ls ++ [lineF one other p]).flatten = Ls.flatten ++ lineF one other p := by simp
  refine ⟨?_, fun l hl => ?_, fun x hx => ?_, fun q hq hmq => ?_⟩
  · rw [ef]
    refine List.nodup_append.mpr ⟨r.n, run.n, fun x hx y hy e => hn ?_⟩
    subst e
    exact cy.sub (T := fun w => w ∈ Ls.flatten) clo hy hx p List.mem_cons_self
  · rcases List.mem_append.mp hl with hl | hl
    · exact r.c l hl
    · rw [List.mem_singleton.mp hl]; exact cy
  · rw [ef] at hx
    rcases List.mem_append.mp hx with hx | hx
    · exact r.i x hx
    · have hxo := run.f x hx
      refine ⟨hxo, (t.mv_nx hxo).mpr fun e => ?_⟩
      have hpx : p = x := cy.sub (T := fun w => w = x) (fun z hz => by rw [hz]; exact e) hx rfl p List.mem_cons_self
      exact (t.mv_nx hp).mp hm (by rw [hpx]; exact e)
  · rw [ef]
    rcases List.mem_append.mp hq with hq | hq
    · exact List.mem_append_left _ (r.d q hq hmq)
    · rw [List.mem_singleton.mp hq]
      exact List.mem_append_right _ List.mem_cons_self
theorem Rd.skip {one other : List (Option Int)} {don : List Int} {Ls : List (List Int)} {p : Int} (r : Rd one other don Ls) (h : ¬ (mv one other p = true ∧ p ∉ Ls.flatten)) : Rd one other (don ++ [p]) Ls :=
  ⟨r.n, r.c, r.i, fun q hq hm => by
    rcases List.mem_append.mp hq with hq | hq
    · exact r.d q hq hm
    · rw [List.mem_singleton.mp hq] at hm ⊢
      exact Classical.byContradiction fun hn => h ⟨hm, hn⟩⟩
theorem Rd.run {one other : List (Option Int)} (t : Two one other) : ∀ {ps don : List Int} {Ls : List (List Int)}, (∀ p ∈ ps, 0 ≤ p ∧ p < one.length) → Rd one other don Ls → Rd one other (don ++ ps) (rdF one other ps Ls)
  | [], don, Ls, _, r => by rw [List.append_nil]; exact r
  | p :: ps, don, Ls, h, r => by
    unfold rdF
    have e : don ++ p :: ps = (don ++ [p]) ++ ps := by simp
    rw [e]
    have h1 := h p List.mem_cons_self
    split
    · rename_i hc
      exact Rd.run t (fun q hq => h q (List.mem_cons_of_mem _ hq)) (r.step t h1.1 h1.2 hc.1 hc.2)
    · rename_i hc
      exact Rd.run t (fun q hq => h q (List.mem_cons_of_mem _ hq)) (r.skip hc)
/-- who stays -/
def stay (one other : List (Option Int)) : List Int := (onP one).filter fun p => !mv one other p
/-! the cast of a filling -/
def pstF (f : List (Option Int)) : List Int := f.filterMap id
def castD (f : List (Option Int)) : D := .tup [.tup ((onP f).map .int), .tup ((sortI (pstF f)).map .int)]
theorem mem_pst {f : List (Option Int)} {v : Int} : v ∈ pstF f ↔ some v ∈ f := by
  unfold pstF
  rw [List.mem_filterMap]
  exact ⟨fun ⟨a, h, e⟩ => by rw [← show a = some v from e]; exact h, fun h => ⟨_, h, rfl⟩⟩
/-- two fillings of one cast -/
theorem two_of {one other : List (Option Int)} (l : other.length = one.length) (i1 : ∀ (i j : Nat) v, one[i]? = some (some v) → one[j]? = some (some v) → i = j) (i2 : ∀ (i j : Nat) v, other[i]? = some (some v) → other[j]? = some (some v) → i = j)
    (e1 : onP one = onP other) (e2 : sortI (pstF one) = sortI (pstF other)) : Two one other := by
  refine ⟨l, i1, i2, fun i => ?_, fun v => ?_⟩
  · have go : ∀ {a b : List (Option Int)}, b.length = a.length → onP a = onP b → a[i]? = some none → b[i]? = some none := fun {a b} l e h => by
      have hl := (List.getElem?_eq_some_iff.mp h).1
      cases e3 : b[i]? with
      | none => have := List.getElem?_eq_none_iff.mp e3; omega
      | some o =>
        cases o with
        | none => rfl
        | some w =>
          have m : ((i : Nat) : Int) ∈ onP b := mem_onP.mpr ⟨by omega, w, by rw [Int.toNat_natCast]; exact e3⟩
          rw [← e] at m
          obtain ⟨_, v, e4⟩ := mem_onP.mp m
          rw [Int.toNat_natCast, h] at e4
          cases e4
    exact ⟨go l e1, go l.symm e1.symm⟩
  · rw [← mem_pst, ← mem_pst, ← (sortI_perm (pstF one)).mem_iff, e2, (sortI_perm (pstF other)).mem_iff]
/-! fillings and lines as values -/
def filX (f : List (Option Int)) : D := .tupx (f.map oI)
def lineD (l : List Int) : D := .tup (l.map .int)
def lineX (l : List Int) : D := .tupx (l.map .int)
theorem atI_negL {α : Type} {xs : List α} {x : α} (h : xs[xs.length - 1]? = some x) : atI xs (-1) = some x := by
  have hl := (List.getElem?_eq_some_iff.mp h).1
  unfold atI ixN
  rw [if_neg (by decide)]
  have e : ((-1 : Int) + (xs.length : Int)).toNat = xs.length - 1 := by omega
  first
    | (rw [if_pos (by omega)]; simp only [e]; exact h)
    | (simp only [e]; split <;> first | omega | exact h)
def oP : Option Int → PyData
  | none => .none
  | some i => .int i
def KnF (x : D) (h : DH) : Prop := Kn x h ∧ ∀ xs, x = .tup xs → ∀ y ∈ xs, Kn y h
-- needs: base book
/-! texts: lines, words, numbers -/
def digB (c : Nat) : Bool := decide (48 ≤ c) && decide (c ≤ 57)
def numB (l : List Nat) : Bool := decide (1 ≤ l.length) && decide (l.length ≤ 2) && l.all digB && !(decide (l.head? = some 48) && decide (1 < l.length))
def numV (l : List Nat) : Int := ((NumText.digitsVal l : Nat) : Int)
def numW (w : Str) : Option Int := if numB (TL.tl w) = true then some (numV (TL.tl w)) else none
theorem int_dig {w : Str} (h : (TL.tl w).all digB = true) (h0 : TL.tl w ≠ []) (h1 : (TL.tl w).length ≤ 2) : PySem.intText? w = some (numV (TL.tl w)) :=
  intText_digits (fun c hc => by
    have := List.all_eq_true.mp h c hc
    simpa [digB] using this) h0 (by rw [TL.len_tl]; omega)
theorem two_cases {l : List Nat} (h0 : l ≠ []) (h1 : l.length ≤ 2) : (∃ c, l = [c]) ∨ ∃ c d, l = [c, d] := by
  match l, h0, h1 with
  | [c], _, _ => exact .inl ⟨c, rfl⟩
  | [c, d], _, _ => exact .inr ⟨c, d, rfl⟩
theorem text_dig {l : List Nat} (h : l.all digB = true) (h0 : l ≠ []) (h1 : l.length ≤ 2) : decide (l = TL.numL (NumText.digitsVal l)) = numB l := by
  unfold numB
  rw [h]
  rcases two_cases h0 h1 with ⟨c, rfl⟩ | ⟨c, d, rfl⟩
  · have e : NumText.digitsVal [c] = c - 48 := by simp [NumText.digitsVal]
    simp [digB] at h
    rw [e, TL.numL_lt (by omega), show 48 + (c - 48) = c by omega]
    simp
  · have e : NumText.digitsVal [c, d] = (c - 48) * 10 + (d - 48) := by simp [NumText.digitsVal]
    simp [digB] at h
    rw [e]
    by_cases hc : c = 48
    · subst hc
      rw [TL.numL_lt (by omega)]
      simp
    · rw [TL.numL_step (by omega), show ((c - 48) * 10 + (d - 48)) / 10 = c - 48 by omega, show ((c - 48) * 10 + (d - 48)) % 10 = d - 48 by omega, TL.numL_lt (by omega), show 48 + (c - 48) = c by omega, show 48 + (d - 48) = d by omega]
      simp [hc]
def Asc (x : Str) : Prop := ∀ c ∈ TL.tl x, c < 128
/-! split at one sign -/
def wtL (l : List (List Nat)) : Nat := (l.map fun p => p.length + 1).sum
theorem pre_one {s c : Nat} {r : List Nat} : TL.pre [s] (c :: r) = decide (c = s) := by
  unfold TL.pre
  simp
  by_cases h : c = s <;> simp [h]
theorem spl_wt {s : Nat} : ∀ (l acc : List Nat), wtL (TL.spl [s] 0 acc l) = acc.length + l.length + 1
  | [], acc => by rw [TL.spl_nil]; simp [wtL]
  | c :: r, acc => by
    by_cases h : c = s
    · rw [TL.spl_hit (by rw [pre_one]; exact decide_eq_true h)]
      have ih := spl_wt (s := s) r []
      unfold wtL at ih ⊢
      rw [List.map_cons, List.sum_cons]
      show _ + (List.map _ (TL.spl [s] 0 [] r)).sum = _
      rw [ih]
      simp only [List.length_cons, List.length_nil]
      omega
    · rw [TL.spl_miss (by rw [pre_one]; exact decide_eq_false h), spl_wt r]
      simp only [List.length_cons, List.length_append, List.length_nil]
      omega
theorem spl_ne {s : Nat} : ∀ (l acc : List Nat), TL.spl [s] 0 acc l ≠ [] := fun l acc e => by
  have := spl_wt (s := s) l acc
  rw [e] at this
  simp [wtL] at this
theorem spl_mem {s : Nat} : ∀ (l acc : List Nat), ∀ p ∈ TL.spl [s] 0 acc l, ∀ c ∈ p, c ∈ acc ∨ c ∈ l
  | [], acc => by rw [TL.spl_nil]; simp
  | c :: r, acc => by
    by_cases h : c = s
    · rw [TL.spl_hit (by rw [pre_one]; exact decide_eq_true h)]
      intro p hp d hd
      rcases List.mem_cons.mp hp with rfl | hp
      · exact .inl hd
      · rcases spl_mem (s := s) r [] p hp d hd with z | z
        · cases z
        · exact .inr (List.mem_cons_of_mem _ z)
    · rw [TL.spl_miss (by rw [pre_one]; exact decide_eq_false h)]
      intro p hp d hd
      rcases spl_mem (s := s) r _ p hp d hd with z | z
      · rcases List.mem_append.mp z with z | z
        · exact .inl z
        · rw [List.mem_singleton.mp z]; exact .inr List.mem_cons_self
      · exact .inr (List.mem_cons_of_mem _ z)
def wtS (l : List Str) : Nat := (l.map fun p => p.length + 1).sum
theorem wt_tl (l : List Str) : wtS l = wtL (l.map TL.tl) := by
  unfold wtS wtL
  rw [List.map_map]
  congr 1
/-- a text of one sign -/
structure One (y : Str) (s : Nat) : Prop where
  e : TL.tl y = [s]
  k : y.cps.all (· < 256) = true
theorem One.spl {y : Str} {s : Nat} (o : One y s) (x : Str) : (Txt.split x y).map TL.tl = TL.spl [s] 0 [] (TL.tl x) := by
  rw [TL.split_spl x y (by rw [o.e]; simp) (TL.kind_ok o.k), o.e]
theorem One.wt {y : Str} {s : Nat} (o : One y s) (x : Str) : wtS (Txt.split x y) = x.length + 1 := by
  rw [wt_tl, o.spl, spl_wt, TL.len_tl]; simp
theorem One.ne {y : Str} {s : Nat} (o : One y s) (x : Str) : Txt.split x y ≠ [] := fun e => by
  have := o.spl x
  rw [e] at this
  exact spl_ne _ _ this.symm
theorem One.mem {y : Str} {s : Nat} (o : One y s) {x p : Str} (h : p ∈ Txt.split x y) : ∀ c ∈ TL.tl p, c ∈ TL.tl x := fun c hc => by
  have := spl_mem (s := s) (TL.tl x) [] (TL.tl p) (by rw [← o.spl]; exact List.mem_map_of_mem h) c hc
  simpa using this
theorem One.len {y : Str} {s : Nat} (o : One y s) : (y.length == 0) = false := by
  rw [TL.len_tl, o.e]; rfl
theorem wt_mem {l : List Str} {p : Str} (h : p ∈ l) : p.length + 1 ≤ wtS l := by
  unfold wtS
  induction l with
  | nil => cases h
  | cons q r ih =>
    rw [List.map_cons, List.sum_cons]
    rcases List.mem_cons.mp h with rfl | h
    · omega
    · have := ih h; omega
theorem wt_len : ∀ l : List Str, l.length ≤ wtS l
  | [] => Nat.le_refl _
  | p :: r => by
    have := wt_len r
    unfold wtS at this ⊢
    rw [List.length_cons, List.map_cons, List.sum_cons]; omega
theorem one_nl : One "\n" 10 := ⟨by rfl, by decide +kernel⟩
theorem one_sp : One " " 32 := ⟨by rfl, by decide +kernel⟩
def linesOf (t : Str) : List Str := Txt.split t "\n"
def wordsOf (t : Str) : List Str := Txt.split t " "
theorem Asc.split {x y p : Str} {s : Nat} (o : One y s) (a : Asc x) (h : p ∈ Txt.split x y) : Asc p := fun c hc => a c (o.mem h c hc)
theorem len_split {x y p : Str} {s : Nat} (o : One y s) (h : p ∈ Txt.split x y) : p.length ≤ x.length := by
  have := wt_mem h
  rw [o.wt] at this
  omega
/-! what a text tells -/
def numsW : List Str → Option (List Int)
  | [] => some []
  | w :: r => match numW w, numsW r with
    | some n, some ns => some (n :: ns)
    | _, _ => none
def lineW (first : Bool) (l : Str) : Option (List Int) := match wordsOf l with
  | [] => none
  | w :: ws => match numsW ws with
    | some ns => if (w == (if first then "posts" else "person" : Str)) && (!first || decide (ns.length = 1)) then some ns else none
    | none => none
def rowsW : Nat → List Str → Nat ⊕ List (List Int)
  | _, [] => .inr []
  | i, l :: r => match lineW (i == 0) l with
    | none => .inl (i + 1)
    | some ns => match rowsW (i + 1) r with
      | .inl n => .inl n
      | .inr rs => .inr (ns :: rs)
def readW (t : Str) : Nat ⊕ (Int × List (List Int)) := match rowsW 0 (linesOf t).dropLast with
  | .inl n => .inl n
  | .inr rs => if (linesOf t).getLast? = some ("" : Str) then match rs with
      | [p] :: m => .inr (p, m)
      | _ => .inl (linesOf t).length else .inl (linesOf t).length
def dueD (t : Str) : D := match readW t with
  | .inl n => .tup [.str "text", .int n]
  | .inr (p, m) => match bookFault (.int p) (mayD m) with
    | some (w, a) => .tup [.str "book", .str w, .int a]
    | none => .tup [.str "read", .int p, mayD m]
theorem lineW_one {l : Str} {ns : List Int} (h : lineW true l = some ns) : ∃ p, ns = [p] := by
  unfold lineW at h
  split at h
  · cases h
  · split at h
    · rename_i w ws _ _ ms _
      cases c : ((w == (if true = true then "posts" else "person" : Str)) && (!true || decide (ms.length = 1))) with
      | false => rw [c, if_neg (by decide)] at h; cases h
      | true =>
        rw [c, if_pos rfl] at h; cases h
        rw [Bool.and_eq_true] at c
        have c2 := c.2
        simp only [Bool.not_true, Bool.false_or, decide_eq_true_eq] at c2
        exact List.length_eq_one_iff.mp c2
    · cases h
theorem rowsW_head {l : Str} {r : List Str} {rs : List (List Int)} (h : rowsW 0 (l :: r) = .inr rs) : ∃ p m, rs = [p] :: m := by
  unfold rowsW at h
  split at h
  · cases h
  · rename_i ns e
    obtain ⟨p, rfl⟩ := lineW_one e
    split at h
    · cases h
    · cases h
      exact ⟨p, _, rfl⟩
theorem rowsW_len : ∀ {r : List Str} {i : Nat} {rs : List (List Int)}, rowsW i r = .inr rs → rs.length = r.length
  | [], _, _, h => by cases h; rfl
  | l :: r, i, rs, h => by
    unfold rowsW at h
    split at h
    · cases h
    · split at h
      · cases h
      · rename_i e
        cases h
        rw [List.length_cons, List.length_cons, rowsW_len e]
theorem tl_digits : TL.tl ("0123456789" : Str) = [48, 49, 50, 51, 52, 53, 54, 55, 56, 57] := by decide +kernel
theorem in_digits (c : Nat) : decide (c ∈ ("0123456789" : Str).cps.toList) = digB c := by
  have e : ("0123456789" : Str).cps.toList = [48, 49, 50, 51, 52, 53, 54, 55, 56, 57] := tl_digits
  rw [e]
  unfold digB
  apply Bool.eq_iff_iff.mpr
  simp only [List.mem_cons, List.not_mem_nil, or_false, decide_eq_true_eq, Bool.and_eq_true]
  omega
theorem one_zero (c : Nat) : ((⟨#[c]⟩ : Str) == ("0" : Str)) = decide (c = 48) := by
  have e : ((⟨#[c]⟩ : Str) = ("0" : Str)) ↔ c = 48 := by
    refine ⟨fun z => ?_, fun z => by subst z; rfl⟩
    have := congrArg TL.tl z
    rw [show TL.tl ("0" : Str) = [48] from rfl] at this
    exact List.head_eq_of_cons_eq this
  by_cases h : c = 48
  · rw [decide_eq_true h]; exact beq_iff_eq.mpr (e.mpr h)
  · rw [decide_eq_false h]; exact beq_eq_false_iff_ne.mpr fun z => h (e.mp z)
theorem numsW_cons (w : Str) (r : List Str) : numsW (w :: r) = (match numW w, numsW r with
    | some n, some ns => some (n :: ns)
    | _, _ => none) := rfl
theorem rowsW_cons (i : Nat) (l : Str) (r : List Str) : rowsW i (l :: r) = (match lineW (i == 0) l with
    | none => .inl (i + 1)
    | some ns => match rowsW (i + 1) r with
      | .inl n => .inl n
      | .inr rs => .inr (ns :: rs)) := rfl
theorem lineW_of {first : Bool} {l w : Str} {ws : List Str} (e : wordsOf l = w :: ws) : lineW first l = (match numsW ws with
    | some ns => if (w == (if first then "posts" else "person" : Str)) && (!first || decide (ns.length = 1)) then some ns else none
    | none => none) := by
  unfold lineW
  rw [e]
theorem words_cons (l : Str) : ∃ w ws, wordsOf l = w :: ws := by
  cases e : wordsOf l with
  | nil => exact absurd e (one_sp.ne l)
  | cons w ws => exact ⟨w, ws, rfl⟩
theorem wt_words (l : Str) : wtS (wordsOf l) = l.length + 1 := one_sp.wt l
theorem wt_cons (w : Str) (ws : List Str) : wtS (w :: ws) = w.length + 1 + wtS ws := by
  unfold wtS
  rw [List.map_cons, List.sum_cons]
theorem readW_row {t : Str} {n : Nat} (h : rowsW 0 (linesOf t).dropLast = .inl n) : readW t = .inl n := by
  unfold readW
  rw [h]
theorem readW_rest {t : Str} {rs : List (List Int)} (h : rowsW 0 (linesOf t).dropLast = .inr rs) (e : ¬ (linesOf t).getLast? = some ("" : Str)) : readW t = .inl (linesOf t).length := by
  unfold readW
  rw [h]
  exact if_neg e
theorem readW_nil {t : Str} (h : (linesOf t).dropLast = []) : readW t = .inl (linesOf t).length := by
  unfold readW
  rw [h]
  show (if _ then _ else _) = _
  by_cases e : (linesOf t).getLast? = some ("" : Str)
  · rw [if_pos e]
  · rw [if_neg e]
theorem readW_ok {t : Str} {p : Int} {m : List (List Int)} (h : rowsW 0 (linesOf t).dropLast = .inr ([p] :: m)) (e : (linesOf t).getLast? = some ("" : Str)) : readW t = .inr (p, m) := by
  unfold readW
  rw [h]
  exact if_pos e
theorem atI_snoc {α : Type} (xs : List α) (x : α) : atI (xs ++ [x]) (-1) = some x := by
  unfold atI ixN
  rw [if_neg (by decide), List.length_append, List.length_singleton]
  rw [if_pos (by omega)]
  have e : ((-1 : Int) + ((xs.length + 1 : Nat) : Int)).toNat = xs.length := by omega
  rw [e]
  show (xs ++ [x])[xs.length]? = _
  simp
def rowOf (l : Str) : List Int := (numsW (wordsOf l).tail).getD []
/-! texts that are spoiled -/
theorem Asc.app {a b : Str} (x : Asc a) (y : Asc b) : Asc (a ++ b) := fun c hc => by
  rw [TL.tl_append] at hc
  exact (List.mem_append.mp hc).elim (x c) (y c)
theorem len_app (a b : Str) : (a ++ b).length = a.length + b.length := by
  rw [TL.len_tl, TL.tl_append, List.length_append, TL.len_tl, TL.len_tl]
theorem tl_cutS (z : Str) (lo hi : Option Int) : ∃ a b, TL.tl (cutS z lo hi) = ((TL.tl z).drop a).take b := ⟨_, _, rfl⟩
theorem Asc.cut {z : Str} (x : Asc z) (lo hi : Option Int) : Asc (cutS z lo hi) := fun c hc => by
  obtain ⟨a, b, e⟩ := tl_cutS z lo hi
  rw [e] at hc
  exact x c (List.mem_of_mem_drop (List.mem_of_mem_take hc))
structure OkL (n : Nat) (l : List Str) : Prop where
  a : ∀ p ∈ l, Asc p
  w : wtS l ≤ n
theorem OkL.split {y t : Str} {s : Nat} (o : One y s) (h : Asc t) : OkL (t.length + 1) (Txt.split t y) := ⟨fun p hp => h.split o hp, by rw [o.wt]; exact Nat.le_refl _⟩
theorem wtS_app (l m : List Str) : wtS (l ++ m) = wtS l + wtS m := by
  unfold wtS
  rw [List.map_append, List.sum_append_nat]
theorem wtS_sub {l m : List Str} (h : l.Sublist m) : wtS l ≤ wtS m := by
  induction h with
  | slnil => exact Nat.le_refl _
  | cons x _ ih => rw [wt_cons]; omega
  | cons_cons x _ ih => rw [wt_cons, wt_cons]; omega
theorem OkL.cut {n : Nat} {l : List Str} (h : OkL n l) (lo hi : Option Int) : ∃ l', cutD (l.map D.str) lo hi = l'.map D.str ∧ OkL n l' := by
  obtain ⟨a, b, e⟩ := cutD_map D.str l lo hi
  have sb : ((l.drop a).take b).Sublist l := (List.take_sublist _ _).trans (List.drop_sublist _ _)
  exact ⟨_, e, fun p hp => h.a p (sb.subset hp), Nat.le_trans (wtS_sub sb) h.w⟩
theorem OkL.app {n k : Nat} {l m : List Str} (h : OkL n l) (g : OkL k m) : OkL (n + k) (l ++ m) := ⟨fun p hp => (List.mem_append.mp hp).elim (h.a p) (g.a p), by
  rw [wtS_app]
  have := h.w
  have := g.w
  omega⟩
theorem OkL.one {n : Nat} {x : Str} (h : Asc x) (hn : x.length ≤ n) : OkL (n + 1) [x] := ⟨fun p hp => by rw [List.mem_singleton.mp hp]; exact h, by
  rw [wt_cons]
  show x.length + 1 + 0 ≤ n + 1
  omega⟩
theorem OkL.rep {n : Nat} {x : Str} (h : Asc x) (hn : x.length ≤ n) : ∀ k, OkL (k * (n + 1)) (List.replicate k x)
  | 0 => ⟨(fun p hp => by cases hp), Nat.zero_le _⟩
  | k + 1 => by
    have := (OkL.one h hn).app (OkL.rep h hn k)
    rw [show n + 1 + k * (n + 1) = (k + 1) * (n + 1) by rw [Nat.succ_mul]; omega] at this
    exact this
theorem OkL.mono {n k : Nat} {l : List Str} (h : OkL n l) (hk : n ≤ k) : OkL k l := ⟨h.a, Nat.le_trans h.w hk⟩
theorem OkL.len {n : Nat} {l : List Str} (h : OkL n l) : l.length ≤ n := Nat.le_trans (wt_len l) h.w
theorem OkL.sum {n : Nat} {l : List Str} (h : OkL n l) : (l.map (·.length)).sum + l.length * 1 ≤ n := by
  refine Nat.le_trans (Nat.le_of_eq ?_) h.w
  clear h
  induction l with
  | nil => rfl
  | cons x r ih => rw [wt_cons, List.map_cons, List.sum_cons, List.length_cons]; omega
theorem joinL_len {s : Nat} : ∀ l : List (List Nat), (TL.joinL [s] l).length ≤ wtL l
  | [] => Nat.zero_le _
  | [x] => by unfold TL.joinL wtL; simp
  | x :: y :: r => by
    have := joinL_len (s := s) (y :: r)
    unfold TL.joinL
    unfold wtL at this ⊢
    rw [List.map_cons, List.sum_cons, List.length_append, List.length_append, List.length_singleton]
    omega
theorem joinL_mem {s : Nat} : ∀ l : List (List Nat), ∀ c ∈ TL.joinL [s] l, c = s ∨ ∃ p ∈ l, c ∈ p
  | [] => fun c hc => by cases hc
  | [x] => fun c hc => .inr ⟨x, List.mem_singleton.mpr rfl, hc⟩
  | x :: y :: r => fun c hc => by
    unfold TL.joinL at hc
    rcases List.mem_append.mp hc with hc | hc
    · exact .inr ⟨x, List.mem_cons_self, hc⟩
    · rcases List.mem_append.mp hc with hc | hc
      · exact .inl (List.mem_singleton.mp hc)
      · rcases joinL_mem (y :: r) c hc with z | ⟨p, hp, z⟩
        · exact .inl z
        · exact .inr ⟨p, List.mem_cons_of_mem _ hp, z⟩
theorem OkL.join {n : Nat} {l : List Str} {y : Str} {s : Nat} (o : One y s) (hs : s < 128) (h : OkL n l) : Asc (Txt.join y l) ∧ (Txt.join y l).length ≤ n := by
  rw [TL.join_eq]
  refine ⟨fun c hc => ?_, ?_⟩
  · rw [TL.tl_join, o.e] at hc
    rcases joinL_mem _ c hc with rfl | ⟨p, hp, z⟩
    · exact hs
    · obtain ⟨q, hq, rfl⟩ := List.mem_map.mp hp
      exact h.a q hq c z
  · rw [TL.len_tl, TL.tl_join, o.e]
    refine Nat.le_trans (joinL_len _) ?_
    rw [← wt_tl]
    exact h.w
theorem OkL.set {n : Nat} {l : List Str} {x : Str} (h : OkL n l) (hx : Asc x) (i : Nat) : OkL (n + x.length + 1) (l.set i x) := ⟨fun p hp => (List.mem_or_eq_of_mem_set hp).elim (h.a p) fun e => by rw [e]; exact hx, by
  have key : ∀ (l : List Str) (i : Nat), wtS (l.set i x) ≤ wtS l + x.length + 1 := fun l => by
    induction l with
    | nil => intro i; exact Nat.zero_le _
    | cons y r ih =>
      intro i
      cases i with
      | zero => rw [List.set_cons_zero, wt_cons, wt_cons]; omega
      | succ i => rw [List.set_cons_succ, wt_cons, wt_cons]; have := ih i; omega
  have := key l i
  have := h.w
  omega⟩
theorem OkL.rev {n : Nat} {l : List Str} (h : OkL n l) : OkL n l.reverse := ⟨fun p hp => h.a p (List.mem_reverse.mp hp), by
  refine Nat.le_trans (Nat.le_of_eq ?_) h.w
  unfold wtS
  rw [List.map_reverse, List.sum_reverse]⟩
theorem asc_by {x : Str} (h : (TL.tl x).all (fun c => decide (c < 128)) = true) : Asc x := fun c hc => of_decide_eq_true (List.all_eq_true.mp h c hc)
theorem num_asc (k : Nat) (h : k < 100) : Asc (Str.ofString (toString ((k : Nat) : Int))) ∧ (Str.ofString (toString ((k : Nat) : Int))).length ≤ 2 := by
  refine ⟨fun c hc => ?_, ?_⟩
  · rw [TL.tl_num] at hc
    have := TL.numL_digits k c hc
    omega
  · rw [TL.len_tl, TL.tl_num]
    exact TL.numL_len (by decide) (by omega)
theorem joinL_nil : ∀ l : List (List Nat), TL.joinL [] l = l.flatten
  | [] => rfl
  | [x] => by unfold TL.joinL; simp
  | x :: y :: r => by
    have := joinL_nil (y :: r)
    unfold TL.joinL
    rw [this]; simp
theorem OkL.glue {n : Nat} {l : List Str} (h : OkL n l) : Asc (Txt.join "" l) ∧ (Txt.join "" l).length ≤ n := by
  rw [TL.join_eq]
  refine ⟨fun c hc => ?_, ?_⟩
  · rw [TL.tl_join, show TL.tl ("" : Str) = [] from rfl, joinL_nil] at hc
    obtain ⟨p, hp, z⟩ := List.mem_flatten.mp hc
    obtain ⟨q, hq, rfl⟩ := List.mem_map.mp hp
    exact h.a q hq c z
  · rw [TL.len_tl, TL.tl_join, show TL.tl ("" : Str) = [] from rfl, joinL_nil, List.length_flatten, List.map_map]
    refine Nat.le_trans ?_ h.w
    clear h
    unfold wtS
    induction l with
    | nil => exact Nat.le_refl _
    | cons x r ih =>
      rw [List.map_cons, List.sum_cons, List.map_cons, List.sum_cons]
      have : (List.length ∘ TL.tl) x = x.length := (TL.len_tl x).symm
      omega
theorem OkL.all {n : Nat} : ∀ {l : List Str}, (∀ p ∈ l, Asc p ∧ p.length ≤ n) → OkL (l.length * (n + 1)) l
  | [], _ => ⟨(fun p hp => by cases hp), Nat.zero_le _⟩
  | x :: r, h => by
    have a := h x List.mem_cons_self
    have := (OkL.one a.1 a.2).app (OkL.all (l := r) fun p hp => h p (List.mem_cons_of_mem _ hp))
    rw [show n + 1 + r.length * (n + 1) = (x :: r).length * (n + 1) by rw [List.length_cons, Nat.succ_mul]; omega] at this
    exact this
def numS (i : Int) : Str := Str.ofString (toString i)
def lineS (w : Str) (s : List Int) : Str := Txt.join " " (w :: s.map numS)
theorem numS_asc {i : Int} (h0 : 0 ≤ i) (h : i < 100) : Asc (numS i) ∧ (numS i).length ≤ 2 := by
  obtain ⟨k, rfl⟩ : ∃ k : Nat, i = k := ⟨i.toNat, by omega⟩
  exact num_asc k (by omega)
theorem lineS_ok {w : Str} {s : List Int} (hw : Asc w) (hl : w.length ≤ 6) (hs : s.length ≤ 12) (h : ∀ i ∈ s, 0 ≤ i ∧ i < 100) : OkL 43 (w :: s.map numS) := by
  have a := OkL.one hw hl
  have b : OkL ((s.map numS).length * (2 + 1)) (s.map numS) := .all fun p hp => by
    obtain ⟨i, hi, rfl⟩ := List.mem_map.mp hp
    exact numS_asc (h i hi).1 (h i hi).2
  rw [List.length_map] at b
  exact (a.app b).mono (by omega)
-- needs: txt
/-! texts that tell books -/
theorem tl_numS {k : Nat} : TL.tl (numS (k : Int)) = TL.numL k := TL.tl_num k
theorem numL_digB (k : Nat) : (TL.numL k).all digB = true := List.all_eq_true.mpr fun c hc => by
  have := TL.numL_digits k c hc
  simpa [digB] using this
theorem numW_num {i : Int} (h0 : 0 ≤ i) (h : i < 100) : numW (numS i) = some i := by
  obtain ⟨k, rfl⟩ : ∃ k : Nat, i = k := ⟨i.toNat, by omega⟩
  have hl : (TL.numL k).length ≤ 2 := TL.numL_len (by decide) (by omega)
  have e := text_dig (numL_digB k) (TL.numL_ne k) hl
  rw [TL.numL_val, decide_eq_true rfl] at e
  unfold numW
  rw [tl_numS, ← e, if_pos rfl]
  unfold numV
  rw [TL.numL_val]
theorem numsW_nums : ∀ {s : List Int}, (∀ i ∈ s, 0 ≤ i ∧ i < 100) → numsW (s.map numS) = some s
  | [], _ => rfl
  | i :: r, h => by
    have a := h i List.mem_cons_self
    rw [List.map_cons, numsW_cons, numW_num a.1 a.2, numsW_nums (s := r) fun j hj => h j (List.mem_cons_of_mem _ hj)]
theorem numS_free {i : Int} (h0 : 0 ≤ i) {s : Nat} (hs : s < 48 ∨ 57 < s) : s ∉ TL.tl (numS i) := by
  obtain ⟨k, rfl⟩ : ∃ k : Nat, i = k := ⟨i.toNat, by omega⟩
  rw [tl_numS]
  exact TL.numL_free hs
theorem words_line {w : Str} {s : List Int} (hw : 32 ∉ TL.tl w) (hs : ∀ i ∈ s, 0 ≤ i) : wordsOf (lineS w s) = w :: s.map numS := by
  unfold wordsOf lineS
  exact TL.split_join (y := " ") (s := 32) (S := []) one_sp.e one_sp.k (parts := w :: s.map numS) (List.cons_ne_nil _ _) fun p hp => by
    rcases List.mem_cons.mp hp with rfl | hp
    · exact hw
    · obtain ⟨i, hi, rfl⟩ := List.mem_map.mp hp
      exact numS_free (hs i hi) (.inl (by decide))
theorem line_free {w : Str} {s : List Int} (hw : 10 ∉ TL.tl w) (hs : ∀ i ∈ s, 0 ≤ i) : 10 ∉ TL.tl (lineS w s) := fun hc => by
  unfold lineS at hc
  rw [TL.join_eq, TL.tl_join, one_sp.e] at hc
  rcases joinL_mem _ _ hc with z | ⟨p, hp, z⟩
  · exact absurd z (by decide)
  · obtain ⟨q, hq, rfl⟩ := List.mem_map.mp hp
    rcases List.mem_cons.mp hq with rfl | hq
    · exact hw z
    · obtain ⟨i, hi, rfl⟩ := List.mem_map.mp hq
      exact numS_free (hs i hi) (.inl (by decide)) z
def textL (posts : Int) (may : List (List Int)) : List Str := lineS "posts" [posts] :: may.map (lineS "person")
def textS (posts : Int) (may : List (List Int)) : Str := Txt.join "" ((textL posts may).map fun l => l ++ ("\n" : Str))
theorem flat_join : ∀ l : List (List Nat), (l.map fun x => x ++ [10]).flatten = TL.joinL [10] (l ++ [[]])
  | [] => rfl
  | [x] => by
    show x ++ [10] ++ [] = x ++ ([10] ++ [])
    simp
  | x :: y :: r => by
    have := flat_join (y :: r)
    rw [List.map_cons, List.flatten_cons, this]
    show x ++ [10] ++ TL.joinL [10] (y :: r ++ [[]]) = x ++ ([10] ++ TL.joinL [10] (y :: (r ++ [[]])))
    simp
theorem lines_of {ls : List Str} (h : ∀ l ∈ ls, 10 ∉ TL.tl l) : linesOf (Txt.join "" (ls.map fun l => l ++ ("\n" : Str))) = ls ++ [("" : Str)] := by
  have e : Txt.join "" (ls.map fun l => l ++ ("\n" : Str)) = Str.join "\n" (ls ++ [("" : Str)]) := by
    apply TL.ext_tl
    rw [TL.join_eq, TL.tl_join, TL.tl_join, show TL.tl ("" : Str) = [] from rfl, joinL_nil, one_nl.e, List.map_append, List.map_map]
    rw [show (List.map TL.tl [("" : Str)]) = [[]] from rfl, ← flat_join, List.map_map]
    congr 1
    exact List.map_congr_left fun l _ => by
      show TL.tl (l ++ ("\n" : Str)) = TL.tl l ++ [10]
      rw [TL.tl_append, one_nl.e]
  unfold linesOf
  rw [e, ← TL.join_eq]
  exact TL.split_join (y := "\n") (s := 10) (S := []) one_nl.e one_nl.k (parts := ls ++ [("" : Str)]) (by simp) fun p hp => by
    rcases List.mem_append.mp hp with hp | hp
    · exact h p hp
    · rw [List.mem_singleton.mp hp]; exact List.not_mem_nil
structure NumsOk (posts : Int) (may : List (List Int)) : Prop where
  p0 : 0 ≤ posts
  p1 : posts < 100
  m : ∀ s ∈ may, ∀ i ∈ s, 0 ≤ i ∧ i < 100
theorem BookOk.nums {posts : Int} {may : List (List Int)} (ok : BookOk posts may) : NumsOk posts may := ⟨ok.p0, by have := ok.p1; omega, fun s hs i hi => by have := (ok.rs s hs).2 i hi; have := ok.p1; omega⟩
theorem text_lines {posts : Int} {may : List (List Int)} (ok : NumsOk posts may) : linesOf (textS posts may) = textL posts may ++ [("" : Str)] := by
  unfold textS
  refine lines_of fun l hl => ?_
  unfold textL at hl
  rcases List.mem_cons.mp hl with rfl | hl
  · exact line_free (by decide +kernel) fun i hi => by rw [List.mem_singleton.mp hi]; exact ok.p0
  · obtain ⟨s, hs, rfl⟩ := List.mem_map.mp hl
    exact line_free (by decide +kernel) fun i hi => (ok.m s hs i hi).1
theorem rows_text : ∀ {may : List (List Int)} {i : Nat}, 0 < i → (∀ s ∈ may, ∀ i ∈ s, 0 ≤ i ∧ i < 100) → rowsW i (may.map (lineS "person")) = .inr may
  | [], _, _, _ => rfl
  | s :: r, i, hi, h => by
    have a := h s List.mem_cons_self
    rw [List.map_cons, rowsW_cons, lineW_of (words_line (by decide +kernel) fun j hj => (a j hj).1), numsW_nums a, show (i == 0) = false from beq_eq_false_iff_ne.mpr (by omega)]
    rw [rows_text (may := r) (i := i + 1) (by omega) fun z hz => h z (List.mem_cons_of_mem _ hz)]
    rfl
theorem read_text {posts : Int} {may : List (List Int)} (ok : NumsOk posts may) : readW (textS posts may) = .inr (posts, may) := by
  have e := text_lines ok
  refine readW_ok ?_ (by rw [e]; simp)
  rw [e, List.dropLast_concat]
  unfold textL
  have b : ∀ i ∈ [posts], 0 ≤ i ∧ i < 100 := fun i hi => by rw [List.mem_singleton.mp hi]; exact ⟨ok.p0, ok.p1⟩
  rw [rowsW_cons, lineW_of (words_line (by decide +kernel) fun j hj => (b j hj).1), numsW_nums b, rows_text (by decide) ok.m]
  rfl
theorem line_posts (p : Int) : lineS "posts" [p] = ("posts " : Str) ++ numS p := by
  unfold lineS
  apply TL.ext_tl
  rw [TL.join_eq, TL.tl_join, TL.tl_append, one_sp.e]
  show TL.tl ("posts" : Str) ++ ([32] ++ TL.tl (numS p)) = _
  rw [← List.append_assoc]
  rfl
/-- how long -/
theorem textL_ok {posts : Int} {may : List (List Int)} (ok : BookOk posts may) : OkL 600 (textL posts may) ∧ (textL posts may).length ≤ 13 := by
  have p0 := ok.p0
  have p1 := ok.p1
  have ml := ok.ml
  have a : OkL (43 + 1) [lineS "posts" [posts]] := by
    have l := (lineS_ok (w := "posts") (s := [posts]) (asc_by (by decide +kernel)) (by decide +kernel) (by simp) fun i hi => by rw [List.mem_singleton.mp hi]; omega).join one_sp (by decide)
    exact .one l.1 l.2
  have b : OkL ((may.map (lineS "person")).length * (43 + 1)) (may.map (lineS "person")) := .all fun p hp => by
    obtain ⟨s, hs, rfl⟩ := List.mem_map.mp hp
    have r := ok.rs s hs
    have hl := inc_len r.1 r.2 p0
    exact (lineS_ok (asc_by (by decide +kernel)) (by decide +kernel) (by omega) fun i hi => by have := r.2 i hi; omega).join one_sp (by decide)
  rw [List.length_map] at b
  exact ⟨(a.app b).mono (by omega), by unfold textL; rw [List.length_cons, List.length_map]; omega⟩
theorem nl_ok {n : Nat} {l : List Str} (h : OkL n l) : OkL (n + l.length) (l.map fun x => x ++ ("\n" : Str)) := ⟨fun p hp => by
  obtain ⟨x, hx, rfl⟩ := List.mem_map.mp hp
  exact (h.a x hx).app (asc_by (by decide +kernel)), by
  have key : ∀ l : List Str, wtS (l.map fun l => l ++ ("\n" : Str)) = wtS l + l.length := fun l => by
    induction l with
    | nil => rfl
    | cons x r ih => rw [List.map_cons, wt_cons, wt_cons, ih, len_app, show ("\n" : Str).length = 1 from rfl, List.length_cons]; omega
  rw [key]
  have := h.w
  omega⟩
theorem textS_ok {posts : Int} {may : List (List Int)} (ok : BookOk posts may) : Asc (textS posts may) ∧ (textS posts may).length ≤ 700 := by
  obtain ⟨a, b⟩ := textL_ok ok
  have c := (nl_ok a).glue
  exact ⟨c.1, by have := c.2; unfold textS; omega⟩
theorem log_small {i : Int} (h0 : 0 ≤ i) (h1 : i < 100) : i.natAbs.log2 < 1920 := Nat.lt_of_le_of_lt (Nat.log2_le_self _) (by omega)
-- needs: txtd exch
/-! a desk, as an instance in the small heap -/
def desN : List String := ["book", "size", "stood"]
def deskO (posts : Int) (may : List (List Int)) (size : Int) (s : Nat) : O := .ins "Desk" desN [bookD posts may, .int size, .ref s]
structure DeskAt (h : DH) (d s : Nat) (posts : Int) (may : List (List Int)) (size : Int) (fs : List (List (Option Int))) : Prop where
  r : h[d]? = some (deskO posts may size s)
  s : h[s]? = some (.lst (fs.map filD))
theorem dg_book {a b c : D} : fget desN [a, b, c] "book" = some a := rfl
theorem dg_size {a b c : D} : fget desN [a, b, c] "size" = some b := rfl
theorem dg_stood {a b c : D} : fget desN [a, b, c] "stood" = some c := rfl
theorem mem_Desk : ("Desk" ∈ ["Book", "Desk"]) = True := by simp
def deskSet (h : DH) (s : Nat) (fs : List (List (Option Int))) : DH := h.set s (.lst (fs.map filD))
section
variable {h : DH} {d s : Nat} {posts : Int} {may : List (List Int)} {size : Int} {fs : List (List (Option Int))}
theorem DeskAt.ins (R : DeskAt h d s posts may size fs) : insOf (.ref d) h = some ("Desk", desN, [bookD posts may, .int size, .ref s]) := by
  unfold insOf
  simp only [R.r, deskO]
theorem DeskAt.ds (R : DeskAt h d s posts may size fs) : d ≠ s := fun e => by have := R.r; rw [e, R.s] at this; cases this
theorem DeskAt.put (R : DeskAt h d s posts may size fs) (gs : List (List (Option Int))) : DeskAt (deskSet h s gs) d s posts may size gs := by
  unfold deskSet
  have hs := (List.getElem?_eq_some_iff.mp R.s).1
  exact ⟨by rw [List.getElem?_set_ne R.ds.symm]; exact R.r, List.getElem?_set_self hs⟩
end
/-- what a filling tells -/
def wordF : Option Int → Str
  | none => "-"
  | some i => numS i
def fillS (f : List (Option Int)) : Str := Txt.join " " (("filling" : Str) :: f.map wordF)
def deskS (posts : Int) (may : List (List Int)) (f : List (Option Int)) : Str := textS posts may ++ fillS f ++ ("\n" : Str)
theorem fillS_ok {f : List (Option Int)} (hl : f.length ≤ 12) (h : ∀ i, some i ∈ f → 0 ≤ i ∧ i < 100) : OkL 44 (("filling" : Str) :: f.map wordF) := by
  have a : OkL (7 + 1) [("filling" : Str)] := .one (asc_by (by decide +kernel)) (by decide +kernel)
  have b : OkL ((f.map wordF).length * (2 + 1)) (f.map wordF) := .all fun p hp => by
    obtain ⟨o, ho, rfl⟩ := List.mem_map.mp hp
    cases o with
    | none => exact ⟨asc_by (by decide +kernel), by decide +kernel⟩
    | some i => exact numS_asc (h i ho).1 (h i ho).2
  rw [List.length_map] at b
  exact (a.app b).mono (by omega)
/-! eq_Book -/
def t_eq_Book : TSD :=
    (sSeq (sIf (tNotD (tTst (eCall (fIsi ["Book"]) (eCons (eVar 1) (eCons (eC (.glb "Book")) eNil))))) (sRet (eC (.bl false))) sNext)
    (sRet (eOp2 dEq (eTup (eCons (eFld ["Book"] "posts" (eVar 0)) (eCons (eFld ["Book"] "may" (eVar 0)) eNil))) (eTup (eCons (eFld ["Book"] "posts" (eVar 1)) (eCons (eFld ["Book"] "may" (eVar 1)) eNil))))))
-- needs: ring
theorem canLays_tups : ∀ m : List (List Int), PyData.canLayAll0 (m.map fun s => PyData.tuple (s.map .int)) = true
  | [] => rfl
  | a :: r => by
    simp only [List.map_cons, PyData.canLayAll0, canLays_tups r, PyData.canLay0, canLays_ints]
    rfl
theorem depths_tups : ∀ m : List (List Int), PyData.depthAll (m.map fun s => PyData.tuple (s.map .int)) ≤ 1
  | [] => Nat.zero_le _
  | a :: r => by
    have := depths_tups r
    simp only [List.map_cons, PyData.depthAll, PyData.depth, depths_ints]
    omega
theorem pysOf_tups : ∀ m : List (List Int), pysOf (m.map fun s => D.tup (s.map .int)) = some (m.map fun s => PyData.tuple (s.map .int))
  | [] => rfl
  | a :: r => by
    simp only [List.map_cons, pysOf, pyOf, pysOf_tups r, pysOf_ints]
    rfl
theorem eqvAll_tups : ∀ a b : List (List Int), PyData.eqvAll (a.map fun s => PyData.tuple (s.map .int)) (b.map fun s => PyData.tuple (s.map .int)) = decide (a = b)
  | [], [] => by unfold PyData.eqvAll; rfl
  | [], _ :: _ => by simp only [List.map_nil, List.map_cons]; unfold PyData.eqvAll; simp
  | _ :: _, [] => by simp only [List.map_nil, List.map_cons]; unfold PyData.eqvAll; simp
  | x :: a, y :: b => by
    simp only [List.map_cons]
    unfold PyData.eqvAll
    have e : PyData.eqv (.tuple (x.map PyData.int)) (.tuple (y.map PyData.int)) = decide (x = y) := by
      rw [← eqvAll_ints]
      conv => lhs; unfold PyData.eqv
    rw [e, eqvAll_tups a b]
    by_cases h : x = y
    · subst h; simp
    · simp [h]
theorem dEq_book {p p' : Int} {m m' : List (List Int)} {h : DH} {Q : VD} : dEq (.tup [.int p, mayD m]) (.tup [.int p', mayD m']) h Q = Q (.bl (decide (p = p' ∧ m = m'))) h := by
  have e : ∀ (p : Int) (m : List (List Int)), pyTop h (.tup [.int p, mayD m]) = some (.tuple [.int p, .tuple (m.map fun s => .tuple (s.map .int))]) := fun p m => by
    unfold pyTop mayD
    simp only [pyOf, pysOf, pysOf_tups]
    rfl
  have sh : ∀ (p : Int) (m : List (List Int)), SeqAt.shaped (.tuple [.int p, .tuple (m.map fun s => .tuple (s.map .int))]) = true := fun p m => by
    have := depths_tups m
    unfold SeqAt.shaped
    simp only [PyData.canLay0, PyData.canLayAll0, canLays_tups, PyData.depth, PyData.depthAll, Bool.and_self, Bool.true_and, Bool.and_true]
    first
      | exact decide_eq_true (by omega)
      | (simp; omega)
  have ev : PyData.eqv (.tuple [.int p, .tuple (m.map fun s => .tuple (s.map .int))]) (.tuple [.int p', .tuple (m'.map fun s => .tuple (s.map .int))]) = decide (p = p' ∧ m = m') := by
    have e2 : PyData.eqv (.tuple (m.map fun s => PyData.tuple (s.map .int))) (.tuple (m'.map fun s => PyData.tuple (s.map .int))) = decide (m = m') := by
      rw [← eqvAll_tups]
      conv => lhs; unfold PyData.eqv
    unfold PyData.eqv
    unfold PyData.eqvAll
    rw [eqv_int]
    unfold PyData.eqvAll
    rw [e2]
    unfold PyData.eqvAll
    by_cases h1 : p = p'
    · by_cases h2 : m = m'
      · simp [h1, h2]
      · simp [h2]
    · simp [h1]
  unfold dEq
  simp only [e, sh, true_and, ev]
def sp_eq_Book : SpD := fun ds h Q _ => ∃ posts may y, ds = [bookD posts may, y] ∧ ((∃ t, tyB y h = some t ∧ Q (.bl false) h) ∨ ∃ posts' may', y = bookD posts' may' ∧ Q (.bl (decide (posts = posts' ∧ may = may'))) h)
theorem pl_eq_Book (ds : List D) (h : DH) (Q : VD) (E : ED) (w : sp_eq_Book ds h Q E) : bodyD 2 t_eq_Book ds h Q E := by
  obtain ⟨posts, may, y, rfl, q⟩ := w
  unfold t_eq_Book bodyD
  refine sSeq_i fun N hN => ?_
  refine sIf_i fun A B hA hB => ?_
  simp_arith only [dEq_int]
  rcases q with ⟨t, e, q⟩ | ⟨posts', may', rfl, q⟩
  · rw [isi_book (.inl ⟨t, e⟩), show isBook y h = false by unfold isBook; rw [e]]
    simp_arith only [dEq_int]
    refine hA h ?_
    simp_arith only [dEq_int]
    exact q
  · rw [isi_book kn_book, show isBook (bookD posts' may') h = true from rfl]
    simp_arith only [dEq_int]
    refine hB h (hN _ _ ?_)
    simp_arith only [dEq_int]
    rw [dEq_book]
    exact q
/-! is_integer -/
def t_is_integer : TSD :=
    (sRet (eAndV (eCall (fIsi ["Book"]) (eCons (eVar 0) (eCons (eC (.ty "int")) eNil))) (eNotV (eCall (fIsi ["Book"]) (eCons (eVar 0) (eCons (eC (.ty "bool")) eNil))))))
def sp_is_integer : SpD := fun ds h Q _ => ∃ x, ds = [x] ∧ Kn x h ∧ Q (.bl (isInt x)) h
theorem pl_is_integer (ds : List D) (h : DH) (Q : VD) (E : ED) (w : sp_is_integer ds h Q E) : bodyD 1 t_is_integer ds h Q E := by
  obtain ⟨x, rfl, hk, q⟩ := w
  unfold t_is_integer
  simp_arith only [dEq_int]
  rw [isi_eq hk (by decide)]
  have e := isInt_eq (x := x) (h := h)
  cases h1 : isT "int" x h with
  | false =>
    rw [h1] at e
    simp_arith only [dEq_int]
    rw [← e] at q
    exact q
  | true =>
    rw [h1] at e
    simp_arith only [dEq_int]
    rw [isi_eq hk (by decide)]
    simp_arith only [dEq_int]
    rw [← e] at q
    exact q
/-! is_within -/
def t_is_within : TSD :=
    (sRet (eAndV (eFn sp_is_integer (eCons (eVar 0) eNil)) (eChain dLe dLe (eVar 1) (eVar 0) (eVar 2))))
def sp_is_within : SpD := fun ds h Q _ => ∃ x lo hi, ds = [x, .int lo, .int hi] ∧ Kn x h ∧ Q (.bl (wiD x lo hi)) h
theorem pl_is_within (ds : List D) (h : DH) (Q : VD) (E : ED) (w : sp_is_within ds h Q E) : bodyD 3 t_is_within ds h Q E := by
  obtain ⟨x, lo, hi, rfl, hk, q⟩ := w
  unfold t_is_within
  simp_arith only [dEq_int]
  refine ⟨x, rfl, hk, ?_⟩
  cases x with
  | int i =>
    simp_arith only [isInt]
    have q' : Q (.bl (decide (lo ≤ i) && decide (i ≤ hi))) h := q
    cases hb : decide (lo ≤ i) with
    | false => rw [hb] at q'; exact q'
    | true => rw [hb] at q'; exact q'
  | _ => exact q
/-! is_rising -/
def t_is_rising : TSD :=
    (sSeq (sIf (tOrD (tNotD (tTst (eCall (fIsi ["Book"]) (eCons (eVar 0) (eCons (eC (.ty "tuple")) eNil))))) (tNotD (tTst (eCall (fAll fun bs => bs.all id) (eCons (eComp (iSeq (eVar 0)) (gN 2) tYesD (eFn sp_is_within (eCons (eVar 2) (eCons (eC (.int 0)) (eCons (eOp2 dSub (eVar 1) (eC (.int 1))) eNil)))) [2]) eNil))))) (sRet (eC (.bl false))) sNext)
    (sRet (eCall (fAll fun bs => bs.all id) (eCons (eComp (iCall wZip (eCons (eVar 0) (eCons (eSl (eVar 0) (oSome (eC (.int 1))) oNone) eNil))) (gT 2 (gTcons (gN 2) (gTcons (gN 3) gTnil))) tYesD (eOp2 dLt (eVar 2) (eVar 3)) [2, 3]) eNil))))
def sp_is_rising : SpD := fun ds h Q _ => ∃ x many, ds = [x, .int many] ∧ Kn x h ∧ (∀ xs, x = .tup xs → ∀ y ∈ xs, Kn y h) ∧ Q (.bl (risD x many)) h
theorem pl_is_rising (ds : List D) (h : DH) (Q : VD) (E : ED) (w : sp_is_rising ds h Q E) : bodyD 4 t_is_rising ds h Q E := by
  obtain ⟨x, many, rfl, hk, hks, q⟩ := w
  unfold t_is_rising bodyD
  refine sSeq_i fun N hN => ?_
  refine sIf_i fun A B hA hB => ?_
  simp_arith only [dEq_int]
  rw [isi_eq hk (by decide)]
  simp_arith only [dEq_int]
  have hno : ∀ y, risD x many = y → y = false → A h := fun y e e2 => hA h (by
    simp_arith only [dEq_int]
    rw [e, e2] at q
    exact q)
  cases h1 : isT "tuple" x h with
  | false =>
    simp_arith only [Bool.not_false]
    refine hno _ rfl ?_
    cases x with
    | tup xs => cases h1
    | _ => rfl
  | true =>
    simp_arith only [Bool.not_true]
    obtain ⟨xs, rfl⟩ : ∃ xs, x = .tup xs := by
      unfold isT at h1
      cases x with
      | tup xs => exact ⟨xs, rfl⟩
      | ref n =>
        unfold tyB at h1
        cases e : h[n]? with
        | none => simp only [e] at h1; cases h1
        | some o => cases o <;> simp only [e] at h1 <;> cases h1
      | _ => first | (cases h1; done) | (simp only [tyB] at h1; cases h1)
    rw [← List.map_id xs]
    refine compL_map (α := D) id (fun x => some (.bl (wiD x 0 (many - 1)))) trivial ?_ ?_
    · rw [List.nil_append, fm_some]
      rw [all_bls]
      simp_arith only [dEq_int]
      rw [all_wi]
      unfold risD at q
      cases hi : intsOf xs with
      | none =>
        simp_arith only [Bool.not_false]
        refine hno _ rfl ?_
        simp only [risD, hi]
      | some ns =>
        simp only [hi] at q ⊢
        rcases Bool.eq_false_or_eq_true (ns.all (fun i => wiD (.int i) 0 (many - 1))) with ha | ha
        · rw [ha, Bool.true_and] at q
          simp_arith only [ha, Bool.not_true]
          refine hB h (hN _ _ ?_)
          have ex := intsOf_some hi
          subst ex
          simp_arith only [dEq_int]
          rw [show cutD (ns.map D.int) (some 1) none = (ns.drop 1).map D.int by rw [List.map_drop]; exact cutD_from _ 1, zipL_map]
          refine compL_map (α := Int × Int) _ (fun p => some (.bl (decide (p.1 < p.2)))) trivial ?_ ?_
          · rw [List.nil_append, fm_some, all_bls, strictB_zip]
            exact q
          · intro p _ N acc hN
            simp_arith only [dEq_int]
            exact hN
        · simp_arith only [ha, Bool.not_false]
          refine hno _ rfl ?_
          simp only [risD, hi, ha, Bool.false_and]
    · intro y hy N acc hN
      simp_arith only [id]
      exact ⟨_, _, _, rfl, hks xs rfl y hy, hN⟩
/-! init_Book -/
def t_init_Book : TSD :=
    (sSeq (sIf (tNotD (tTst (eFn sp_is_within (eCons (eVar 1) (eCons (eC (.int 0)) (eCons (eC (.int 12)) eNil)))))) (sRaiseF "BadBook" ["at", "what"] (eCons (eC (.str "posts")) (eCons (eC (.int (-1))) eNil))) sNext)
    (sSeq (sIf (tNotD (tTst (eCall (fIsi ["Book"]) (eCons (eVar 2) (eCons (eC (.ty "tuple")) eNil))))) (sRaiseF "BadBook" ["at", "what"] (eCons (eC (.str "may")) (eCons (eC (.int (-1))) eNil))) sNext)
    (sSeq (sFor (iCall wEnum (eCons (eVar 2) eNil)) (gT 2 (gTcons (gN 3) (gTcons (gN 4) gTnil))) (sIf (tOrD (tTst (eOp2 dGe (eVar 3) (eC (.int 12)))) (tNotD (tTst (eFn sp_is_rising (eCons (eVar 4) (eCons (eVar 1) eNil)))))) (sRaiseF "BadBook" ["at", "what"] (eCons (eC (.str "may")) (eCons (eVar 3) eNil))) sNext))
    (sSeq (sFldD ["Book"] "posts" (eVar 0) (eVar 1))
    (sFldD ["Book"] "may" (eVar 0) (eVar 2))))))
def sp_init_Book : SpD := fun ds h Q E => ∃ n posts may, ds = [.ref n, posts, may] ∧ h[n]? = some (.ins "Book" [] []) ∧ Kn posts h ∧ Kn may h ∧ (∀ ms, may = .tup ms → ∀ s ∈ ms, Kn s h ∧ ∀ xs, s = .tup xs → ∀ y ∈ xs, Kn y h) ∧
  (match bookFault posts may with
    | none => Q .non (h.set n (.ins "Book" ["posts", "may"] [posts, may]))
    | some (w, a) => E "BadBook" ["at", "what"] [.int a, .str w] h)
theorem pl_init_Book (ds : List D) (h : DH) (Q : VD) (E : ED) (w : sp_init_Book ds h Q E) : bodyD 5 t_init_Book ds h Q E := by
  obtain ⟨n, posts, may, rfl, hn, hp, hm, hms, q⟩ := w
  unfold t_init_Book bodyD
  refine sSeq_i fun N hN => ?_
  refine sIf_i fun A B hA hB => ?_
  simp_arith only [dEq_int]
  refine ⟨posts, 0, 12, rfl, hp, ?_⟩
  simp_arith only [dEq_int]
  cases h1 : wiD posts 0 12 with
  | false =>
    simp_arith only [Bool.not_false]
    refine hA h ?_
    simp_arith only [dEq_int]
    have e : bookFault posts may = some (("posts" : Str), (-1 : Int)) := by
      unfold bookFault
      cases posts <;> first | rfl | simp_arith only [h1]
    rw [e] at q
    exact q
  | true =>
    obtain ⟨p, rfl⟩ : ∃ p, posts = .int p := by
      cases posts with
      | int p => exact ⟨p, rfl⟩
      | _ => cases h1
    simp_arith only [Bool.not_true]
    refine hB h (hN _ _ ?_)
    unfold bookFault at q
    simp only [h1, if_true] at q
    refine sSeq_i fun N2 hN2 => ?_
    refine sIf_i fun A2 B2 hA2 hB2 => ?_
    simp_arith only [dEq_int]
    rw [isi_eq hm (by decide), isT_tup]
    have no : (∀ ms, may ≠ .tup ms) → A2 h := fun hh => by
      refine hA2 h ?_
      simp_arith only [dEq_int]
      cases may with
      | tup ms => exact absurd rfl (hh ms)
      | _ => exact q
    cases may with
    | tup ms =>
      simp_arith only [Bool.not_true]
      refine hB2 h (hN2 _ _ ?_)
      refine sSeq_i fun N3 hN3 => ?_
      refine sFor_i fun L hL => ?_
      simp_arith only [dEq_int]
      refine hL _ _ _ ?_
      rw [enumL_from]
      have key : ∀ (r : List D) (i : Nat) (x y : Option D), (∀ s ∈ r, Kn s h ∧ ∀ xs, s = .tup xs → ∀ y ∈ xs, Kn y h) →
          (match (mayFault p i r).map fun i => (("may" : Str), ((i : Nat) : Int)) with
            | none => Q .non (h.set n (.ins "Book" ["posts", "may"] [.int p, .tup ms]))
            | some (w, a) => E "BadBook" ["at", "what"] [.int a, .str w] h) →
          forL (keepOf (.tup ms) ms) (gT 2 (gTcons (gN 3) (gTcons (gN 4) gTnil))) (sIf (tOrD (tTst (eOp2 dGe (eVar 3) (eC (.int 12)))) (tNotD (tTst (eFn sp_is_rising (eCons (eVar 4) (eCons (eVar 1) eNil)))))) (sRaiseF "BadBook" ["at", "what"] (eCons (eC (.str "may")) (eCons (eVar 3) eNil))) sNext)
            { nx := N3, rt := Q, er := fun nm ns fs x h' => E nm ns fs h' } (enumFrom i r) [some (.ref n), some (.int p), some (.tup ms), x, y] h := by
        intro r
        induction r with
        | nil =>
          intro i x y _ hq
          refine ⟨trivial, hN3 _ _ ?_⟩
          refine sSeq_i fun N4 hN4 => ?_
          simp_arith only [hn]
          refine ⟨by decide, hN4 _ _ ?_⟩
          simp_arith only [get_set_self hn, set_set']
          exact ⟨by show 1 < 1000; decide, hq⟩
        | cons s r ih =>
          intro i x y hk hq
          refine ⟨trivial, ?_⟩
          simp_arith only [dEq_int]
          refine sIf_i fun A4 B4 hA4 hB4 => ?_
          simp_arith only [dEq_int]
          have hf : (12 ≤ i || !risD s p) = true → A4 h := fun hh => by
            refine hA4 h ?_
            simp_arith only [dEq_int]
            unfold mayFault at hq
            rw [if_pos hh] at hq
            exact hq
          split
          · rename_i e
            exact hf (by
              have : (12 : Int) ≤ (i : Nat) := by simpa using e
              rw [Bool.or_eq_true]
              exact .inl (decide_eq_true (by omega)))
          · rename_i e
            obtain ⟨k1, k2⟩ := hk s List.mem_cons_self
            refine ⟨s, p, rfl, k1, k2, ?_⟩
            simp_arith only [dEq_int]
            cases hr : risD s p with
            | false =>
              simp_arith only [Bool.not_false]
              exact hf (by rw [hr]; simp)
            | true =>
              simp_arith only [Bool.not_true]
              refine hB4 h (ih (i + 1) _ _ (fun z hz => hk z (List.mem_cons_of_mem _ hz)) ?_)
              unfold mayFault at hq
              rw [if_neg (by
                rw [hr]
                have : ¬ (12 : Int) ≤ (i : Nat) := by simpa using e
                simp; omega)] at hq
              exact hq
      exact key ms 0 _ _ (hms ms rfl) q
    | _ =>
      simp_arith only [Bool.not_false]
      exact no fun ms e => nomatch e
theorem book_made {h : DH} {Q : VD} {E : ED} {posts : Int} {may : List (List Int)} (ok : BookOk posts may) (wf : WF h) (q : Q (bookD posts may) h) : mkK "Book" sp_init_Book Q E [.int posts, mayD may] h := by
  unfold mkK
  have hf : bookFault (.int posts) (mayD may) = none := by
    unfold bookFault mayD
    have e : wiD (.int posts) 0 12 = true := by
      simp only [wiD, Bool.and_eq_true, decide_eq_true_eq]
      exact ⟨ok.p0, ok.p1⟩
    simp only [e, if_true]
    rw [mayFault_ok (fun s hs => ?_) (by rw [List.length_map, Nat.zero_add]; exact ok.ml)]
    · rfl
    · obtain ⟨t, ht, rfl⟩ := List.mem_map.mp hs
      exact risD_ok (ok.rs t ht).1 (ok.rs t ht).2
  refine ⟨h.length, _, _, rfl, get_last _ _, kn_int, kn_tup, fun ms e s hs => ?_, ?_⟩
  · unfold mayD at e
    cases e
    obtain ⟨t, _, rfl⟩ := List.mem_map.mp hs
    refine ⟨kn_tup, fun xs e y hy => ?_⟩
    cases e
    obtain ⟨i, _, rfl⟩ := List.mem_map.mp hy
    exact kn_int
  · rw [hf]
    simp only [set_last, get_last, List.take_left]
    refine ⟨?_, List.all_eq_true.mpr wf, q⟩
    simp only [nrDs, nrD, Bool.and_true, Bool.true_and]
    exact nrD_may may
/-! number_of -/
def t_number_of : TSD :=
    (sSeq (sIf (tOrD (tNotD (tTst (eChain dLe dLe (eC (.int 1)) (eCall fLen (eCons (eVar 0) eNil)) (eC (.int 2))))) (tTst (eCall (fAll fun bs => bs.any id) (eCons (eComp (iStrD (eVar 0)) (gN 1) tYesD (eOp2 (dInS true) (eVar 1) (eC (.str "0123456789"))) [1]) eNil)))) (sRet (eC .non)) sNext)
    (sRet (eIf (tAndD (tTst (eOp2 dEqS (eOp2 dIx (eVar 0) (eC (.int 0))) (eC (.str "0")))) (tTst (eOp2 dGt (eCall fLen (eCons (eVar 0) eNil)) (eC (.int 1))))) (eC .non) (eCall fIntS (eCons (eVar 0) eNil)))))
-- needs: txt
def sp_number_of : SpD := fun ds h Q _ => ∃ w : Str, ds = [.str w] ∧ w.length ≤ sizeLine ∧ Q (oI (numW w)) h
theorem pl_number_of (ds : List D) (h : DH) (Q : VD) (E : ED) (w : sp_number_of ds h Q E) : bodyD 2 t_number_of ds h Q E := by
  obtain ⟨w, rfl, hz, q⟩ := w
  unfold t_number_of bodyD
  refine sSeq_i fun N hN => ?_
  refine sIf_i fun A B hA hB => ?_
  simp_arith only [dEq_int]
  have hno : numB (TL.tl w) = false → A h := fun e => hA h (by
    simp_arith only [dEq_int]
    unfold numW at q
    rw [e, if_neg (by decide)] at q
    exact q)
  refine ⟨hz, ?_⟩
  by_cases h1 : (1 : Int) ≤ w.length
  rotate_left
  · rw [decide_eq_false h1]
    exact hno (by
      unfold numB
      rw [TL.len_tl] at h1
      rw [decide_eq_false (by omega)]; rfl)
  rw [decide_eq_true h1]
  by_cases h2 : (w.length : Int) ≤ 2
  rotate_left
  · simp only [decide_eq_false h2, Bool.not_false, if_true]
    exact hno (by
      unfold numB
      rw [TL.len_tl] at h2
      rw [decide_eq_false (p := (TL.tl w).length ≤ 2) (by omega)]; simp)
  simp_arith only [decide_eq_true h2, Bool.not_true, Bool.false_eq_true, if_false, iStrD]
  refine ⟨hz, ?_⟩
  unfold sgnL
  refine compL_map (α := Nat) _ (fun c => some (.bl (!digB c))) trivial ?_ ?_
  · rw [List.nil_append, fm_some, any_bls (p := fun c => !digB c)]
    simp_arith only [dEq_int]
    cases hd : (TL.tl w).all digB with
    | false =>
      have e : ((TL.tl w).any fun c => !digB c) = true := by
        rw [← Bool.not_eq_false', ← List.all_eq_not_any_not, hd]
      rw [e]
      exact hno (by unfold numB; rw [hd]; simp)
    | true =>
      have e : ((TL.tl w).any fun c => !digB c) = false := by
        rw [← Bool.not_eq_true', ← List.all_eq_not_any_not, hd]
      rw [e]
      refine hB h (hN _ _ ?_)
      have c0 : TL.tl w ≠ [] := fun z => by rw [TL.len_tl, z] at h1; simp at h1
      have c2 : (TL.tl w).length ≤ 2 := by rw [TL.len_tl] at h2; omega
      have hi := int_dig hd c0 c2
      have q2 : Q (oI (if !(decide ((TL.tl w).head? = some 48) && decide (1 < (TL.tl w).length)) then some (numV (TL.tl w)) else none)) h := by
        unfold numW numB at q
        rw [hd, decide_eq_true (p := 1 ≤ (TL.tl w).length) (by rw [TL.len_tl] at h1; omega), decide_eq_true c2] at q
        exact q
      clear q
      have hw : w.length ≤ 640 := by omega
      simp_arith only [hi, fIntS, show dkOf (D.str w) h = none from rfl]
      obtain ⟨c, r, er⟩ : ∃ c r, TL.tl w = c :: r := by
        cases z : TL.tl w with
        | nil => exact absurd z c0
        | cons c r => exact ⟨c, r, rfl⟩
      have er' : w.cps.toList = c :: r := er
      rw [er', atI_0]
      refine ⟨hz, ?_⟩
      rw [one_zero]
      have hl : decide ((1 : Int) < w.length) = decide (1 < (TL.tl w).length) := decide_eq_decide.mpr (by rw [TL.len_tl]; omega)
      simp only [hl]
      rw [show (TL.tl w).head? = some c by rw [er]; rfl] at q2
      simp only [Option.some.injEq] at q2
      by_cases hc : c = 48
      · simp only [hc, decide_true, if_true, Bool.true_and] at q2 ⊢
        refine ⟨hz, ?_⟩
        cases e : decide (1 < (TL.tl w).length) with
        | true => simp only [e, Bool.not_true, Bool.false_eq_true, if_false] at q2; simpa [oI] using q2
        | false =>
          simp only [e, Bool.not_false, if_true] at q2
          simp only [Bool.false_eq_true, if_false]
          exact ⟨_, rfl, hw, q2⟩
      · simp only [hc, decide_false, Bool.false_and, Bool.not_false, if_true, Bool.false_eq_true, if_false] at q2 ⊢
        exact ⟨_, rfl, hw, q2⟩
  · intro c hc N acc hN
    simp_arith only [dInS, in_digits, if_true]
    exact ⟨c, rfl, hN⟩
/-! numbers_of -/
def t_numbers_of : TSD :=
    (sSeq (sSet 1 (eComp (iSeq (eVar 0)) (gN 2) tYesD (eFn sp_number_of (eCons (eVar 2) eNil)) [2]))
    (sRet (eIf (tTst (eOp2 (dIn false) (eC .non) (eVar 1))) (eC .non) (eCall fTuple (eCons (eVar 1) eNil)))))
-- needs: txt
def sp_numbers_of : SpD := fun ds h Q _ => ∃ (ws : List Str), ds = [.lst (ws.map .str)] ∧ wtS ws ≤ sizeLine ∧ Q (match numsW ws with | some ns => tupI ns | none => .non) h
theorem numsW_any : ∀ ws : List Str, ((ws.map fun w => oI (numW w)).any fun z => eqF z .non) = (numsW ws).isNone
  | [] => rfl
  | w :: r => by
    rw [List.map_cons, List.any_cons, numsW_any r, numsW_cons]
    cases numW w with
    | none => simp [oI, eqF]
    | some n => cases numsW r <;> simp [oI, eqF]
theorem numsW_map : ∀ {ws : List Str} {ns : List Int}, numsW ws = some ns → (ws.map fun w => oI (numW w)) = ns.map .int
  | [], _, h => by cases h; rfl
  | w :: r, ns, h => by
    unfold numsW at h
    split at h
    · rename_i n ms e1 e2
      cases h
      rw [List.map_cons, numsW_map e2, e1]; rfl
    · cases h
theorem pl_numbers_of (ds : List D) (h : DH) (Q : VD) (E : ED) (w : sp_numbers_of ds h Q E) : bodyD 3 t_numbers_of ds h Q E := by
  obtain ⟨ws, rfl, hz, q⟩ := w
  unfold t_numbers_of bodyD
  refine sSeq_i fun N hN => ?_
  simp_arith only [dEq_int]
  refine compL_map (α := Str) _ (fun w => some (oI (numW w))) trivial ?_ ?_
  · rw [List.nil_append, fm_some]
    refine hN _ _ ?_
    simp_arith only [dIn, itemsOf, listOf, numsW_any]
    refine ⟨rfl, List.all_eq_true.mpr fun d hd => ?_, ?_⟩
    · obtain ⟨w, _, rfl⟩ := List.mem_map.mp hd
      cases numW w <;> rfl
    · cases e : numsW ws with
      | none => rw [e] at q; exact q
      | some ns =>
        rw [e] at q
        rw [numsW_map e]
        exact q
  · intro w hw N acc hN
    simp_arith only [dEq_int]
    have := wt_mem hw
    exact ⟨_, rfl, by omega, hN⟩
/-! read_book -/
def t_read_book : TSD :=
    (sSeq (sIf (tNotD (tTst (eCall (fIsi ["Book"]) (eCons (eVar 0) (eCons (eC (.ty "str")) eNil))))) (sRaiseF "BadText" ["line"] (eCons (eC (.int 0)) eNil)) sNext)
    (sSeq (sSet 1 (eM isStrD mSplitR (eVar 0) (eCons (eC (.str "\n")) eNil)))
    (sSeq (sSet 2 (eM isList mPop (eVar 1) eNil))
    (sSeq (sSet 3 (eRef eNil))
    (sSeq (sFor (iCall wEnum (eCons (eVar 1) eNil)) (gT 2 (gTcons (gN 4) (gTcons (gN 5) gTnil))) (sSeq (sSet 6 (eM isStrD mSplit (eVar 5) (eCons (eC (.str " ")) eNil)))
    (sSeq (sSet 7 (eFn sp_numbers_of (eCons (eSl (eVar 6) (oSome (eC (.int 1))) oNone) eNil)))
    (sSeq (sIf (tOrD (tTst (eOp2 (dIs false) (eVar 7) (eC .non))) (tOrD (tTst (eOp2 dNeS (eOp2 dIx (eVar 6) (eC (.int 0))) (eIf (tTst (eOp2 dGt (eVar 4) (eC (.int 0)))) (eC (.str "person")) (eC (.str "posts"))))) (tAndD (tTst (eOp2 dEq (eVar 4) (eC (.int 0)))) (tTst (eOp2 dNe (eCall fLen (eCons (eVar 7) eNil)) (eC (.int 1))))))) (sRaiseF "BadText" ["line"] (eCons (eOp2 dAdd (eVar 4) (eC (.int 1))) eNil)) sNext)
    (sDrop (eM isList mAppend (eVar 3) (eCons (eVar 7) eNil)))))))
    (sSeq (sIf (tOrD (tTst (eOp2 dNeS (eVar 2) (eC (.str "")))) (tTst (eOp2 dEq (eCall fLen (eCons (eVar 1) eNil)) (eC (.int 0))))) (sRaiseF "BadText" ["line"] (eCons (eOp2 dAdd (eCall fLen (eCons (eVar 1) eNil)) (eC (.int 1))) eNil)) sNext)
    (sRet (eMkV "Book" sp_init_Book (eCons (eOp2 dIx (eOp2 dIx (eVar 3) (eC (.int 0))) (eC (.int 0))) (eCons (eCall fTuple (eCons (eSl (eVar 3) (oSome (eC (.int 1))) oNone) eNil)) eNil))))))))))
-- needs: txt
-- use: pop
def sp_read_book : SpD := fun ds h Q E => ∃ x, ds = [x] ∧ Kn x h ∧ (((∀ t, x ≠ .str t) ∧ E "BadText" ["line"] [.int 0] h) ∨ ∃ t, x = .str t ∧ t.length ≤ 100000 ∧ (match readW t with
  | .inl n => E "BadText" ["line"] [.int n] h
  | .inr (p, m) => match bookFault (.int p) (mayD m) with
    | some (w, a) => E "BadBook" ["at", "what"] [.int a, .str w] h
    | none => Q (bookD p m) h))
theorem isT_str {x : D} {h : DH} : isT "str" x h = (match x with | .str _ => true | _ => false) := by
  unfold isT
  cases x with
  | ref n =>
    unfold tyB
    cases e : h[n]? with
    | none => simp only [e]
    | some o => cases o <;> simp only [e] <;> rfl
  | _ => first | rfl | (simp only [tyB]; rfl)
theorem pl_read_book (ds : List D) (h : DH) (Q : VD) (E : ED) (w : sp_read_book ds h Q E) : popW (bodyD 8 t_read_book) ds h Q E := by
  obtain ⟨x, rfl, hk, hx⟩ := w
  intro _ wf
  unfold popF t_read_book bodyD
  refine sSeq_i fun N hN => ?_
  refine sIf_i fun A B hA hB => ?_
  simp_arith only [dEq_int]
  rw [isi_eq hk (by decide)]
  rcases hx with ⟨hne, he⟩ | ⟨t, rfl, hz, q⟩
  · have e : isT "str" x h = false := by
      rw [isT_str]
      split
      · exact absurd rfl (hne _)
      · rfl
    rw [e]
    simp_arith only [Bool.not_false]
    refine hA h ?_
    simp_arith only [dEq_int]
    exact ⟨rfl, by rw [List.take_length]; exact List.all_eq_true.mpr wf, Nat.le_refl _, by rw [List.take_length]; exact he⟩
  · rw [isT_str]
    simp_arith only [Bool.not_true]
    refine hB h (hN _ _ ?_)
    clear hN hA hB
    have hlt := one_nl.wt t
    have hll := wt_len (linesOf t)
    refine sSeq_i fun N hN => ?_
    simp_arith only [isStrD, mSplitR, one_nl.len]
    refine ⟨by rw [sizeLine_eq]; omega, hN _ _ ?_⟩
    clear hN
    rw [show Txt.split t (Str.ofString "\n") = linesOf t from rfl] at hlt ⊢
    obtain ⟨last, el⟩ : ∃ l, (linesOf t).getLast? = some l := by
      cases e : (linesOf t).getLast? with
      | none => exact absurd (List.getLast?_eq_none_iff.mp e) (one_nl.ne t)
      | some l => exact ⟨l, rfl⟩
    have hg : ((linesOf t).map D.str)[((linesOf t).map D.str).length - 1]? = some (.str last) := by
      rw [← List.getLast?_eq_getElem?, List.getLast?_map, el]; rfl
    refine sSeq_i fun N hN => ?_
    simp_arith only [isList_lst (get_last _ _), mPop, get_last, hg, ← List.map_dropLast]
    refine hN _ _ ?_
    clear hN hg
    rw [set_last]
    generalize eR : (linesOf t).dropLast = R
    have hRl : R.length ≤ 100001 := by rw [← eR, List.length_dropLast]; omega
    have hRm : ∀ l ∈ R, l.length + 2 ≤ sizeLine := fun l hl => by
      have hm : l ∈ linesOf t := by rw [← eR] at hl; exact List.dropLast_subset _ hl
      have := len_split one_nl hm
      rw [sizeLine_eq]; omega
    refine sSeq_i fun N hN => ?_
    simp_arith only [dEq_int]
    refine hN _ _ ?_
    clear hN
    rw [show (h ++ [O.lst (R.map D.str)]).length = h.length + 1 by simp]
    let H : List (List Int) → DH := fun acc => h ++ [.lst (R.map D.str)] ++ [.lst (acc.map tupI)]
    have gA : ∀ acc, (H acc)[h.length]? = some (.lst (R.map D.str)) := fun acc => by simp [H]
    have gF : ∀ acc, (H acc)[h.length + 1]? = some (.lst (acc.map tupI)) := fun acc => by simp [H]
    have sF : ∀ acc acc', (H acc).set (h.length + 1) (.lst (acc'.map tupI)) = H acc' := fun acc acc' => by
      show (h ++ [O.lst (R.map D.str)] ++ [O.lst (acc.map tupI)]).set (h.length + 1) _ = _
      rw [show h.length + 1 = (h ++ [O.lst (R.map D.str)]).length by simp]
      exact set_last
    have hE : ∀ acc (n : Int), E "BadText" ["line"] [.int n] h → popE h.length E "BadText" ["line"] [.int n] (H acc) := fun acc n he => by
      have et : (H acc).take h.length = h := by simp [H]
      exact ⟨rfl, by rw [et]; exact List.all_eq_true.mpr wf, by simp [H], by rw [et]; exact he⟩
    refine sSeq_i fun N hN => ?_
    refine sFor_i fun L hL => ?_
    simp_arith only [dEq_int]
    rw [show h ++ [O.lst (R.map D.str)] ++ [O.lst []] = H [] from rfl]
    simp only [gA]
    refine hL _ _ _ ?_
    rw [enumL_from]
    refine forL_ind (fun items sd hh => ∃ (r : List Str) (i : Nat) (acc : List (List Int)) (x4 x5 x6 x7 : Option D), items = enumFrom i (r.map D.str) ∧ sd = [some (.str t), some (.ref h.length), some (.str last), some (.ref (h.length + 1)), x4, x5, x6, x7] ∧ hh = H acc ∧
      (∀ l ∈ r, l.length + 2 ≤ sizeLine) ∧ acc.length + r.length ≤ 100002 ∧ (match rowsW i r with | .inl n => E "BadText" ["line"] [.int n] h | .inr rs => ∀ x4 x5 x6 x7, N [some (.str t), some (.ref h.length), some (.str last), some (.ref (h.length + 1)), x4, x5, x6, x7] (H (acc ++ rs)))) ?_ ?_ _ _ _ ⟨R, 0, [], none, none, none, none, rfl, rfl, rfl, hRm, by simp; omega, ?_⟩
    · rintro sd hh ⟨r, i, acc, x4, x5, x6, x7, er, rfl, rfl, hm, hb, hq⟩
      refine ⟨?_, ?_⟩
      · show itemsOf (.ref h.length) (H acc) = _
        rw [it_ref, gA]
      · cases r with
        | cons _ _ => cases er
        | nil =>
          have := hq x4 x5 x6 x7
          rw [List.append_nil] at this
          exact this
    · rintro y l sd hh N2 ⟨r, i, acc, x4, x5, x6, x7, er, rfl, rfl, hm, hb, hq⟩ hN2
      cases r with
      | nil => cases er
      | cons ln r =>
      cases er
      refine ⟨by
        show itemsOf (.ref h.length) (H acc) = _
        rw [it_ref, gA], ?_⟩
      have hln := hm ln List.mem_cons_self
      obtain ⟨w, ws, ew⟩ := words_cons ln
      have hw := wt_words ln
      rw [ew, wt_cons] at hw
      rw [rowsW_cons, lineW_of ew] at hq
      simp_arith only [dEq_int]
      refine sSeq_i fun N3 hN3 => ?_
      simp_arith only [isStrD, mSplit, one_sp.len]
      refine ⟨hln, hN3 _ _ ?_⟩
      clear hN3
      rw [show Txt.split ln (Str.ofString " ") = wordsOf ln from rfl, ew, List.map_cons]
      refine sSeq_i fun N3 hN3 => ?_
      simp_arith only [dEq_int]
      rw [show cutD (D.str w :: ws.map D.str) (some 1) none = ws.map D.str from cutD_from _ 1]
      refine ⟨ws, rfl, by omega, hN3 _ _ ?_⟩
      clear hN3
      refine sSeq_i fun N3 hN3 => ?_
      refine sIf_i fun A B hA hB => ?_
      have hbad : E "BadText" ["line"] [.int ((i : Nat) + 1 : Nat)] h → A (H acc) := fun he => hA _ (by
        simp_arith only [dEq_int]
        exact hE acc _ (by simpa using he))
      cases e9 : numsW ws with
      | none =>
        rw [e9] at hq
        simp_arith only [dEq_int]
        exact hbad hq
      | some ns =>
        rw [e9] at hq
        simp_arith only [atI_0]
        have hgood : (match rowsW (i + 1) r with | .inl n => E "BadText" ["line"] [.int n] h | .inr rs => ∀ x4 x5 x6 x7, N [some (.str t), some (.ref h.length), some (.str last), some (.ref (h.length + 1)), x4, x5, x6, x7] (H (acc ++ [ns] ++ rs))) → B (H acc) := fun hq => by
          refine hB _ ?_
          simp_arith only [dEq_int]
          refine hN3 _ _ ?_
          simp_arith only [isList_lst (gF acc), mAppend, gF, List.length_map]
          rw [List.length_cons] at hb
          refine ⟨size_lt (by omega), ?_⟩
          simp only [e9]
          rw [show acc.map tupI ++ [tupI ns] = (acc ++ [ns]).map tupI by rw [List.map_append]; rfl, sF]
          exact hN2 _ _ ⟨r, i + 1, acc ++ [ns], _, _, _, _, rfl, rfl, rfl, fun l hl => hm l (List.mem_cons_of_mem _ hl), by rw [List.length_append, List.length_singleton]; omega, hq⟩
        have hgo : (match (match rowsW (i + 1) r with | .inl n => .inl n | .inr rs => .inr (ns :: rs) : Nat ⊕ List (List Int)) with | .inl n => E "BadText" ["line"] [.int (n : Nat)] h | .inr rs => ∀ x4 x5 x6 x7, N [some (.str t), some (.ref h.length), some (.str last), some (.ref (h.length + 1)), x4, x5, x6, x7] (H (acc ++ rs))) → B (H acc) := fun hq => hgood (by
          cases e8 : rowsW (i + 1) r with
          | inl n => rw [e8] at hq; exact hq
          | inr rs =>
            rw [e8] at hq
            intro x4 x5 x6 x7
            have := hq x4 x5 x6 x7
            rw [List.append_assoc]
            exact this)
        clear hgood hA hB hN hL hN2 hN3
        rw [show isNon (tupI ns) = false from rfl, show itemsOf (tupI ns) (H acc) = some (ns.map .int) from rfl]
        simp only [Bool.false_eq_true, if_false, List.length_map]
        by_cases i0 : i = 0
        · subst i0
          simp only [beq_self_eq_true, if_true, Bool.not_true, Bool.false_or] at hq
          simp only [show ((0 : Nat) : Int) = 0 from rfl, Int.lt_irrefl, decide_false, Bool.false_eq_true, if_false, beq_self_eq_true, if_true]
          cases c1 : (w == ("posts" : Str)) with
          | false =>
            simp only [c1, Bool.not_false, if_true, Bool.false_and, Bool.false_eq_true, if_false] at hq ⊢
            exact hbad hq
          | true =>
            simp only [c1, Bool.not_true, Bool.true_and, Bool.false_eq_true, if_false] at hq ⊢
            by_cases l1 : ns.length = 1
            · have e1 : (((ns.length : Nat) : Int) == 1) = true := beq_iff_eq.mpr (by omega)
              rw [e1]
              simp only [l1, decide_true, if_true] at hq
              exact hgo hq
            · have e1 : (((ns.length : Nat) : Int) == 1) = false := beq_eq_false_iff_ne.mpr (by omega)
              rw [e1]
              simp only [l1, decide_false, Bool.false_eq_true, if_false] at hq
              exact hbad hq
        · have e1 : (i == 0) = false := beq_eq_false_iff_ne.mpr i0
          have e2 : (((i : Nat) : Int) == 0) = false := beq_eq_false_iff_ne.mpr (by omega)
          simp only [e1, Bool.false_eq_true, if_false, Bool.not_false, Bool.true_or, Bool.and_true] at hq
          simp only [e2, show (0 : Int) < (i : Nat) by omega, decide_true, if_true, Bool.false_eq_true, if_false]
          cases c1 : (w == ("person" : Str)) with
          | false =>
            simp only [c1, Bool.not_false, if_true, Bool.false_eq_true, if_false] at hq ⊢
            exact hbad hq
          | true =>
            simp only [c1, Bool.not_true, if_true, Bool.false_eq_true, if_false] at hq ⊢
            exact hgo hq
    · cases e9 : rowsW 0 R with
      | inl n => rw [readW_row (by rw [eR]; exact e9)] at q; exact q
      | inr rs =>
        intro x4 x5 x6 x7
        refine hN _ _ ?_
        rw [List.nil_append]
        clear hN hL
        have hrl := rowsW_len e9
        have hll2 : R.length + 1 = (linesOf t).length := by
          rw [← eR, List.length_dropLast]
          have := one_nl.ne t
          have : 0 < (linesOf t).length := List.length_pos_iff.mpr this
          omega
        refine sSeq_i fun N2 hN2 => ?_
        refine sIf_i fun A B hA hB => ?_
        have hbad : E "BadText" ["line"] [.int ((linesOf t).length : Nat)] h → A (H rs) := fun he => hA _ (by
          simp_arith only [gA, List.length_map]
          exact hE rs _ (by rw [← hll2] at he; simpa using he))
        simp_arith only [gA, List.length_map]
        cases c1 : (last == ("" : Str)) with
        | false =>
          simp only [Bool.not_false, if_true]
          have : ¬ some last = some ("" : Str) := fun z => by
            rw [Option.some.inj z] at c1
            exact absurd c1 (by decide)
          rw [readW_rest (by rw [eR]; exact e9) (by rw [el]; exact this)] at q
          exact hbad q
        | true =>
          have : some last = some ("" : Str) := congrArg some (beq_iff_eq.mp c1)
          rw [show (!true) = false from rfl, if_neg (by decide)]
          cases R with
          | nil =>
            cases rs with
            | cons _ _ => cases hrl
            | nil => rw [readW_nil eR] at q; exact hbad q
          | cons l r =>
            obtain ⟨p, m, rfl⟩ := rowsW_head e9
            rw [readW_ok (by rw [eR]; exact e9) (by rw [el]; exact this)] at q
            have e7 : ((((l :: r).length : Nat) : Int) == 0) = false := beq_eq_false_iff_ne.mpr (by rw [List.length_cons]; omega)
            rw [e7]
            refine hB _ (hN2 _ _ ?_)
            simp_arith only [gF, List.map_cons, atI_0]
            rw [show itemsOf (tupI [p]) (H ([p] :: m)) = some [.int p] from rfl]
            simp only [atI_0]
            rw [show D.tup (cutD (tupI [p] :: m.map tupI) (some 1) none) = mayD m from by
              rw [show cutD (tupI [p] :: m.map tupI) (some 1) none = m.map tupI from cutD_from _ 1]; rfl]
            have et : (H ([p] :: m)).take h.length = h := by simp [H]
            have nm : ∀ n, nrD n (mayD m) = true := fun n => nrD_may m
            have wfH : WF (H ([p] :: m)) := by
              refine wf_snoc (wf_snoc wf ?_) ?_
              · show nrDs _ _ = true
                exact nrDs_iff.mpr fun d hd => by
                  obtain ⟨s, _, rfl⟩ := List.mem_map.mp hd
                  rfl
              · show nrDs _ _ = true
                exact nrDs_iff.mpr fun d hd => by
                  obtain ⟨s, _, rfl⟩ := List.mem_map.mp hd
                  exact nrDs_ints s
            have hpe : ∀ nm ns fs, nrDs h.length fs = true → E nm ns fs h → popE h.length E nm ns fs (H ([p] :: m)) := fun nm ns fs nr he =>
              ⟨nr, by rw [et]; exact List.all_eq_true.mpr wf, by simp [H], by rw [et]; exact he⟩
            unfold mkK
            refine ⟨(H ([p] :: m)).length, _, _, rfl, get_last _ _, kn_int, kn_tup, fun ms e s hs => ?_, ?_⟩
            · unfold mayD at e
              cases e
              obtain ⟨t, _, rfl⟩ := List.mem_map.mp hs
              refine ⟨kn_tup, fun xs e y hy => ?_⟩
              cases e
              obtain ⟨i, _, rfl⟩ := List.mem_map.mp hy
              exact kn_int
            · dsimp only at q
              cases eb : bookFault (.int p) (mayD m) with
              | none =>
                rw [eb] at q
                simp only [set_last, get_last, List.take_left]
                have n2 : ∀ n, nrDs n [D.int p, mayD m] = true := fun n => by
                  simp only [nrDs, nrD, Bool.and_true, Bool.true_and]
                  exact nm _
                exact ⟨n2 _, List.all_eq_true.mpr wfH, n2 _, by rw [et]; exact List.all_eq_true.mpr wf, by simp [H], by rw [et]; exact q⟩
              | some wa =>
                obtain ⟨w, a⟩ := wa
                rw [eb] at q
                exact ⟨rfl, wf_take wfH, by rw [List.length_append (as := H ([p] :: m))]; exact Nat.le_add_right _ _, by
                  rw [List.take_left]
                  exact hpe _ _ _ rfl q⟩
/-! check_book -/
def t_check_book : TSD :=
    (sIf (tNotD (tTst (eCall (fIsi ["Book"]) (eCons (eVar 0) (eCons (eC (.glb "Book")) eNil))))) (sRaise "NoBook") sNext)
def sp_check_book : SpD := fun ds h Q E => ∃ x, ds = [x] ∧ Kn x h ∧ if isBook x h = true then Q .non h else E "NoBook" [] [] h
theorem pl_check_book (ds : List D) (h : DH) (Q : VD) (E : ED) (w : sp_check_book ds h Q E) : bodyD 1 t_check_book ds h Q E := by
  obtain ⟨x, rfl, hk, q⟩ := w
  unfold t_check_book bodyD
  refine sIf_i fun A B hA hB => ?_
  simp_arith only [dEq_int]
  rw [isi_book hk]
  rcases Bool.eq_false_or_eq_true (isBook x h) with e | e
  · simp_arith only [e, Bool.not_true] at q ⊢
    exact hB h q
  · simp_arith only [e, Bool.not_false] at q ⊢
    exact hA h q
/-! line_of -/
def t_line_of : TSD :=
    (sRet (eOp2 dAdd (eM isStrD mJoin (eC (.str " ")) (eCons (eOp2 dAdd (eLst (eCons (eVar 0) eNil)) (eComp (iSeq (eVar 1)) (gN 2) tYesD (eCall fStr (eCons (eVar 2) eNil)) [2])) eNil)) (eC (.str "\n"))))
-- needs: txtd
def sp_line_of : SpD := fun ds h Q _ => ∃ (w : Str) (s : List Int), ds = [.str w, .tup (s.map .int)] ∧ Asc w ∧ w.length ≤ 6 ∧ s.length ≤ 12 ∧ (∀ i ∈ s, 0 ≤ i ∧ i < 100) ∧ Q (.str (lineS w s ++ ("\n" : Str))) h
theorem pl_line_of (ds : List D) (h : DH) (Q : VD) (E : ED) (w : sp_line_of ds h Q E) : bodyD 3 t_line_of ds h Q E := by
  obtain ⟨w, s, rfl, wa, wl, sl, sb, q⟩ := w
  unfold t_line_of bodyD
  simp_arith only [dEq_int]
  refine ⟨rfl, ?_⟩
  have okl := lineS_ok wa wl sl sb
  have oks := okl.sum
  obtain ⟨j1, j2⟩ := okl.join one_sp (by decide)
  refine compL_map (α := Int) _ (fun i => some (.str (numS i))) (by exact trivial) ?_ ?_
  · rw [List.nil_append, fm_some]
    rw [show D.str w :: s.map (fun i => D.str (numS i)) = (w :: s.map numS).map D.str by rw [List.map_cons, List.map_map]; rfl]
    simp_arith only [isStrD, mJoin, listOf, strsOf_map, show (Str.ofString " ").length = 1 from rfl, List.length_map]
    refine ⟨size_le (by omega), ?_⟩
    rw [← List.map_cons, strsOf_map]
    refine ⟨by omega, ?_, q⟩
    rw [show (Str.ofString "\n").length = 1 from rfl]
    exact size_le (by have : (Txt.join (Str.ofString " ") (w :: s.map numS)).length ≤ 43 := j2; omega)
  · intro i hi N4 acc hN4
    have b := sb i hi
    simp_arith only [fStr]
    exact ⟨log_small b.1 b.2, hN4⟩
/-! text_of -/
def t_text_of : TSD :=
    (sRet (eM isStrD mJoin (eC (.str "")) (eCons (eOp2 dAdd (eLst (eCons (eFn sp_line_of (eCons (eC (.str "posts")) (eCons (eTup (eCons (eFld ["Book"] "posts" (eVar 0)) eNil)) eNil))) eNil)) (eComp (iSeq (eFld ["Book"] "may" (eVar 0))) (gN 1) tYesD (eFn sp_line_of (eCons (eC (.str "person")) (eCons (eVar 1) eNil))) [1])) eNil)))
-- needs: txtd
def sp_text_of : SpD := fun ds h Q _ => ∃ posts may, ds = [bookD posts may] ∧ BookOk posts may ∧ Q (.str (textS posts may)) h
theorem pl_text_of (ds : List D) (h : DH) (Q : VD) (E : ED) (w : sp_text_of ds h Q E) : bodyD 2 t_text_of ds h Q E := by
  obtain ⟨posts, may, rfl, ok, q⟩ := w
  have p0 := ok.p0
  have p1 := ok.p1
  have ml := ok.ml
  unfold t_text_of bodyD
  simp_arith only [bookD]
  refine ⟨rfl, by simp, "posts", [posts], rfl, asc_by (by decide +kernel), by decide +kernel, by simp, fun i hi => by rw [List.mem_singleton.mp hi]; omega, ?_⟩
  simp_arith only [dEq_int]
  refine ⟨by simp, ?_⟩
  obtain ⟨a, b⟩ := textL_ok ok
  have c := nl_ok a
  have cs := c.sum
  refine compL_map (α := List Int) _ (fun s => some (.str (lineS "person" s ++ ("\n" : Str)))) (by exact trivial) ?_ ?_
  · rw [List.nil_append, fm_some]
    rw [show D.str (lineS "posts" [posts] ++ ("\n" : Str)) :: may.map (fun s => D.str (lineS "person" s ++ ("\n" : Str))) = ((textL posts may).map fun l => l ++ ("\n" : Str)).map D.str by
      unfold textL
      rw [List.map_cons, List.map_cons, List.map_map, List.map_map]; rfl]
    refine ⟨size_le (by rw [List.length_map]; omega), ?_⟩
    simp only [mJoin, listOf, strsOf_map]
    refine ⟨?_, q⟩
    rw [show (Str.ofString "").length = 0 from rfl]
    omega
  · intro s hs N3 acc hN3
    have r := ok.rs s hs
    have hl := inc_len r.1 r.2 p0
    simp_arith only [dEq_int]
    exact ⟨"person", s, rfl, asc_by (by decide +kernel), by decide +kernel, by omega, fun i hi => by have := r.2 i hi; omega, hN3⟩
/-! book_text -/
def t_book_text : TSD :=
    (sSeq (sDrop (eFn sp_check_book (eCons (eVar 0) eNil)))
    (sRet (eFn sp_text_of (eCons (eVar 0) eNil))))
-- needs: txtd
def sp_book_text : SpD := fun ds h Q _ => ∃ posts may, ds = [bookD posts may] ∧ BookOk posts may ∧ Q (.str (textS posts may)) h
theorem pl_book_text (ds : List D) (h : DH) (Q : VD) (E : ED) (w : sp_book_text ds h Q E) : bodyD 1 t_book_text ds h Q E := by
  obtain ⟨posts, may, rfl, ok, q⟩ := w
  unfold t_book_text bodyD
  refine sSeq_i fun N hN => ?_
  simp_arith only [dEq_int]
  refine ⟨_, rfl, .inr ⟨rfl, rfl⟩, ?_⟩
  rw [show isBook (bookD posts may) h = true from rfl, if_pos rfl]
  refine hN _ _ ?_
  simp_arith only [dEq_int]
  exact ⟨posts, may, rfl, ok, q⟩
/-! fills -/
def t_fills : TSD :=
    (sRet (eOrV (eOp2 (dIs false) (eVar 2) (eC .non)) (eAndV (eFn sp_is_integer (eCons (eVar 2) eNil)) (eOp2 (dIn false) (eVar 2) (eOp2 dIx (eFld ["Book"] "may" (eVar 0)) (eVar 1))))))
def sp_fills : SpD := fun ds h Q _ => ∃ posts may person post, ds = [bookD posts may, .int (person : Nat), post] ∧ Kn post h ∧ person < may.length ∧ Q (.bl (fillsD may person post)) h
theorem pl_fills (ds : List D) (h : DH) (Q : VD) (E : ED) (w : sp_fills ds h Q E) : bodyD 3 t_fills ds h Q E := by
  obtain ⟨posts, may, person, post, rfl, hk, hp, q⟩ := w
  unfold t_fills
  simp_arith only [dEq_int]
  have other : ∀ b, isInt post = b → b = false → fillsD may person post = false → Q (.bl false) h := fun b _ _ e => by rw [e] at q; exact q
  cases post with
  | non => exact q
  | int i =>
    simp_arith only [dEq_int]
    refine ⟨.int i, rfl, hk, ?_⟩
    simp_arith only [isInt]
    rw [mayD_at (s := may[person]) (by omega) (by rw [Int.toNat_natCast]; exact List.getElem?_eq_getElem hp)]
    simp only []
    rw [dIn_ints i may[person] (by rfl)]
    have e : fillsD may person (.int i) = decide (i ∈ may[person]) := by
      unfold fillsD
      simp only [List.getD_eq_getElem?_getD, List.getElem?_eq_getElem hp, Option.getD_some]
    rw [e] at q
    exact q
  | _ =>
    simp_arith only [dEq_int]
    exact ⟨_, rfl, hk, q⟩
/-! is_right -/
def t_is_right : TSD :=
    (sSeq (sIf (tOrD (tNotD (tTst (eCall (fIsi ["Book"]) (eCons (eVar 1) (eCons (eC (.ty "tuple")) eNil))))) (tTst (eOp2 dNe (eCall fLen (eCons (eVar 1) eNil)) (eCall fLen (eCons (eFld ["Book"] "may" (eVar 0)) eNil))))) (sRet (eC (.bl false))) sNext)
    (sSeq (sIf (tNotD (tTst (eCall (fAll fun bs => bs.all id) (eCons (eComp (iCall wEnum (eCons (eVar 1) eNil)) (gT 2 (gTcons (gN 4) (gTcons (gN 3) gTnil))) tYesD (eFn sp_fills (eCons (eVar 0) (eCons (eVar 4) (eCons (eVar 3) eNil)))) [4, 3]) eNil)))) (sRet (eC (.bl false))) sNext)
    (sSeq (sSet 2 (eComp (iSeq (eVar 1)) (gN 3) (tTst (eOp2 (dIs true) (eVar 3) (eC .non))) (eVar 3) [3]))
    (sRet (eOp2 dEq (eLenSet (eVar 2)) (eCall fLen (eCons (eVar 2) eNil)))))))
def sp_is_right : SpD := fun ds h Q _ => ∃ posts may thing, ds = [bookD posts may, thing] ∧ Kn thing h ∧ (∀ xs, thing = .tup xs → ∀ y ∈ xs, Kn y h) ∧ may.length ≤ 1000 ∧ Q (.bl (rightD may thing)) h
theorem pl_is_right (ds : List D) (h : DH) (Q : VD) (E : ED) (w : sp_is_right ds h Q E) : bodyD 5 t_is_right ds h Q E := by
  obtain ⟨posts, may, thing, rfl, hk, hks, hlen, q⟩ := w
  unfold t_is_right bodyD
  refine sSeq_i fun N hN => ?_
  refine sIf_i fun A B hA hB => ?_
  simp_arith only [dEq_int]
  rw [isi_eq hk (by decide), isT_tup]
  have no : rightD may thing = false → A h := fun e => hA h (by
    simp_arith only [dEq_int]
    rw [e] at q
    exact q)
  cases thing with
  | tup xs =>
    simp_arith only [Bool.not_true, List.length_map]
    unfold rightD at q no
    simp only at q no
    by_cases hl : xs.length = may.length
    · rw [decide_eq_true hl, Bool.true_and] at q no
      have e0 : ((xs.length : Int) == (may.length : Int)) = true := by simp [hl]
      simp_arith only [e0, Bool.not_true]
      refine hB h (hN _ _ ?_)
      refine sSeq_i fun N2 hN2 => ?_
      refine sIf_i fun A2 B2 hA2 hB2 => ?_
      simp_arith only [dEq_int]
      have no2 : (xs.zipIdx.all (fun p => fillsD may p.2 p.1)) = false → A2 h := fun e => hA2 h (by
        simp_arith only [dEq_int]
        rw [e, Bool.false_and] at q
        exact q)
      rw [enumL_zip]
      refine compL_map (α := D × Nat) _ (fun p => some (.bl (fillsD may p.2 p.1))) trivial ?_ ?_
      · rw [List.nil_append, fm_some, all_bls]
        rcases Bool.eq_false_or_eq_true (xs.zipIdx.all (fun p => fillsD may p.2 p.1)) with e | e
        · simp_arith only [e, Bool.not_true]
          rw [e, Bool.true_and] at q
          refine hB2 h (hN2 _ _ ?_)
          refine sSeq_i fun N3 hN3 => ?_
          simp_arith only [dEq_int]
          rw [← List.map_id xs]
          refine compL_map (α := D) id (fun x => if isNon x then none else some x) trivial ?_ ?_
          · rw [List.nil_append, told_ints e]
            refine hN3 _ _ ?_
            have hi : intsIn (.lst ((xs.filterMap isI).map .int)) h = some (xs.filterMap isI) := by
              unfold intsIn
              rw [it_lst]
              exact intsOf_map _
            have hz : (xs.filterMap isI).length ≤ 1000 := Nat.le_trans filterMap_len (by omega)
            simp_arith only [hi, hz, List.length_map]
            have e3 : (((dedI (xs.filterMap isI)).length : Int) == ((xs.filterMap isI).length : Int)) = decide (xs.filterMap isI).Nodup := by
              by_cases hn : (xs.filterMap isI).Nodup
              · rw [decide_eq_true hn, dedI_of_nodup hn]; simp
              · rw [decide_eq_false hn]
                have : (dedI (xs.filterMap isI)).length ≠ (xs.filterMap isI).length := fun e => hn (dedI_len.mp e)
                simp only [beq_eq_false_iff_ne, ne_eq]
                omega
            rw [e3]
            exact q
          · intro x _ N acc hN
            simp_arith only [id]
            cases x <;> exact hN
        · simp_arith only [e, Bool.not_false]
          exact no2 e
      · intro p hp N acc hN
        simp_arith only [dEq_int]
        have hx := mem_zipIdx0 hp
        refine ⟨posts, may, p.2, p.1, rfl, hks xs rfl _ (List.mem_of_getElem? hx), ?_, hN⟩
        have := (List.getElem?_eq_some_iff.mp hx).1
        omega
    · have e0 : ((xs.length : Int) == (may.length : Int)) = false := by
        simp only [beq_eq_false_iff_ne, ne_eq]
        omega
      simp_arith only [e0, Bool.not_false]
      exact no (by rw [decide_eq_false hl]; rfl)
  | _ =>
    simp_arith only [Bool.not_false]
    exact no rfl
/-! check_filling -/
def t_check_filling : TSD :=
    (sSeq (sDrop (eFn sp_check_book (eCons (eVar 0) eNil)))
    (sIf (tNotD (tTst (eFn sp_is_right (eCons (eVar 0) (eCons (eVar 1) eNil))))) (sRaise "BadFilling") sNext))
def sp_check_filling : SpD := fun ds h Q E => ∃ posts may thing, ds = [bookD posts may, thing] ∧ Kn thing h ∧ (∀ xs, thing = .tup xs → ∀ y ∈ xs, Kn y h) ∧ may.length ≤ 1000 ∧ if rightD may thing = true then Q .non h else E "BadFilling" [] [] h
theorem pl_check_filling (ds : List D) (h : DH) (Q : VD) (E : ED) (w : sp_check_filling ds h Q E) : bodyD 2 t_check_filling ds h Q E := by
  obtain ⟨posts, may, thing, rfl, hk, hks, hlen, q⟩ := w
  unfold t_check_filling bodyD
  refine sSeq_i fun N hN => ?_
  simp_arith only [dEq_int]
  refine ⟨_, rfl, kn_book, ?_⟩
  rw [show isBook (bookD posts may) h = true from rfl, if_pos rfl]
  refine hN _ _ ?_
  refine sIf_i fun A B hA hB => ?_
  simp_arith only [dEq_int]
  refine ⟨posts, may, thing, rfl, hk, hks, hlen, ?_⟩
  rcases Bool.eq_false_or_eq_true (rightD may thing) with e | e
  · simp_arith only [e, Bool.not_true] at q ⊢
    exact hB h q
  · simp_arith only [e, Bool.not_false] at q ⊢
    exact hA h q
/-! init_Desk -/
def t_init_Desk : TSD :=
    (sSeq (sDrop (eFn sp_check_filling (eCons (eVar 1) (eCons (eVar 2) eNil))))
    (sSeq (sFldD ["Book", "Desk"] "book" (eVar 0) (eVar 1))
    (sSeq (sFldD ["Book", "Desk"] "size" (eVar 0) (eC (.int 2)))
    (sFldD ["Book", "Desk"] "stood" (eVar 0) (eRef (eCons (eVar 2) eNil))))))
-- needs: desk
def sp_init_Desk : SpD := fun ds h Q E => ∃ d posts may f, ds = [.ref d, bookD posts may, filD f] ∧ h[d]? = some (.ins "Desk" [] []) ∧ may.length ≤ 1000 ∧ rightD may (filD f) = true ∧
  Q .non (h.set d (deskO posts may 2 h.length) ++ [.lst [filD f]])
theorem dp_0 {b : D} : fput [] [] "book" b = (["book"], [b]) := rfl
theorem dp_1 {b x : D} : fput ["book"] [b] "size" x = (["book", "size"], [b, x]) := rfl
theorem dp_2 {b x c : D} : fput ["book", "size"] [b, x] "stood" c = (desN, [b, x, c]) := rfl
theorem pl_init_Desk (ds : List D) (h : DH) (Q : VD) (E : ED) (w : sp_init_Desk ds h Q E) : bodyD 3 t_init_Desk ds h Q E := by
  obtain ⟨d, posts, may, f, rfl, hr, hz, hR, q⟩ := w
  have hlt := (List.getElem?_eq_some_iff.mp hr).1
  unfold t_init_Desk bodyD
  refine sSeq_i fun N hN => ?_
  simp_arith only [dEq_int]
  refine ⟨posts, may, _, rfl, kn_fil, fun xs e => kn_fils e, hz, ?_⟩
  rw [if_pos hR]
  refine hN _ _ ?_
  clear hN
  have sp : ∀ (o : O), (h.set d o)[d]? = some o := fun o => List.getElem?_set_self hlt
  refine sSeq_i fun N hN => ?_
  simp_arith only [hr, mem_Desk, dp_0]
  refine ⟨by decide, hN _ _ ?_⟩
  clear hN
  refine sSeq_i fun N hN => ?_
  simp_arith only [sp, mem_Desk, dp_1, set_set']
  refine ⟨by decide, hN _ _ ?_⟩
  clear hN
  simp_arith only [dEq_int]
  have sp2 : ∀ (o : O) (t : DH), (h.set d o ++ t)[d]? = some o := fun o t => by rw [List.getElem?_append_left (by rw [List.length_set]; exact hlt)]; exact sp o
  have sp3 : ∀ (o u : O) (t : DH), (h.set d o ++ t).set d u = h.set d u ++ t := fun o u t => by rw [List.set_append_left _ _ (by rw [List.length_set]; exact hlt), List.set_set]
  simp only [sp2, sp3, mem_Desk, dp_2, List.length_set]
  exact ⟨trivial, by decide, q⟩
/-! Desk_text -/
def t_Desk_text : TSD :=
    (sSeq (sSet 1 (eComp (iSeq (eOp2 dIx (eFld ["Book", "Desk"] "stood" (eVar 0)) (eC (.int (-1))))) (gN 2) tYesD (eIf (tTst (eOp2 (dIs false) (eVar 2) (eC .non))) (eC (.str "-")) (eCall fStr (eCons (eVar 2) eNil))) [2]))
    (sRet (eOp2 dAdd (eOp2 dAdd (eFn sp_text_of (eCons (eFld ["Book", "Desk"] "book" (eVar 0)) eNil)) (eM isStrD mJoin (eC (.str " ")) (eCons (eOp2 dAdd (eLst (eCons (eC (.str "filling")) eNil)) (eVar 1)) eNil))) (eC (.str "\n")))))
-- needs: desk
def sp_Desk_text : SpD := fun ds h Q _ => ∃ d s posts may size fs f, ds = [.ref d] ∧ DeskAt h d s posts may size fs ∧ fs.getLast? = some f ∧ BookOk posts may ∧ f.length ≤ 12 ∧ (∀ i, some i ∈ f → 0 ≤ i ∧ i < 100) ∧ Q (.str (deskS posts may f)) h
theorem pl_Desk_text (ds : List D) (h : DH) (Q : VD) (E : ED) (w : sp_Desk_text ds h Q E) : bodyD 3 t_Desk_text ds h Q E := by
  obtain ⟨d, s, posts, may, size, fs, f, rfl, R, el, ok, fl, fb, q⟩ := w
  obtain ⟨gs, rfl⟩ : ∃ gs, fs = gs ++ [f] := by
    rw [List.getLast?_eq_some_iff] at el
    exact el
  have al : atI ((gs ++ [f]).map filD) (-1) = some (filD f) := by rw [List.map_append]; exact atI_snoc _ _
  unfold t_Desk_text bodyD
  refine sSeq_i fun N hN => ?_
  simp_arith only [R.ins, dg_stood, mem_Desk, R.s, al]
  have okl := fillS_ok fl fb
  have oks := okl.sum
  obtain ⟨j1, j2⟩ := okl.join one_sp (by decide)
  obtain ⟨ta, tlen⟩ := textS_ok ok
  refine compL_map (α := Option Int) oI (fun o => some (.str (wordF o))) (by exact trivial) ?_ ?_
  · rw [List.nil_append, fm_some]
    refine hN _ _ ?_
    clear hN
    simp_arith only [R.ins, dg_book, mem_Desk]
    refine ⟨posts, may, rfl, ok, ?_⟩
    rw [show D.str (Str.ofString "filling") :: f.map (fun o => D.str (wordF o)) = (("filling" : Str) :: f.map wordF).map D.str by rw [List.map_cons, List.map_map]; rfl]
    have jl : (Txt.join (Str.ofString " ") (("filling" : Str) :: f.map wordF)).length ≤ 44 := j2
    simp only [isStrD, mJoin, listOf, strsOf_map, show (Str.ofString " ").length = 1 from rfl, show (Str.ofString "\n").length = 1 from rfl, List.length_map, len_app]
    exact ⟨trivial, size_le (by omega), by omega, size_le (by omega), size_le (by omega), q⟩
  · intro o ho N3 acc hN3
    cases o with
    | none =>
      simp_arith only [oI, isNon]
      exact hN3
    | some i =>
      have b := fb i ho
      simp_arith only [oI, isNon, fStr]
      exact ⟨log_small b.1 b.2, hN3⟩
/-! is_form -/
def t_is_form : TSD :=
    (sSeq (sIf (tOrD (tNotD (tTst (eCall (fIsi ["Book"]) (eCons (eVar 1) (eCons (eC (.ty "tuple")) eNil))))) (tNotD (tTst (eChain dLe dLe (eC (.int 2)) (eCall fLen (eCons (eVar 1) eNil)) (eC (.int 12)))))) (sRet (eC (.bl false))) sNext)
    (sSeq (sIf (tNotD (tTst (eCall (fAll fun bs => bs.all id) (eCons (eComp (iSeq (eVar 1)) (gN 2) tYesD (eFn sp_is_within (eCons (eVar 2) (eCons (eC (.int 0)) (eCons (eOp2 dSub (eCall fLen (eCons (eFld ["Book"] "may" (eVar 0)) eNil)) (eC (.int 1))) eNil)))) [2]) eNil)))) (sRet (eC (.bl false))) sNext)
    (sRet (eAndV (eOp2 dEq (eLenSet (eVar 1)) (eCall fLen (eCons (eVar 1) eNil))) (eOp2 dEq (eOp2 dIx (eVar 1) (eC (.int 0))) (eCall (fIntsI minL) (eCons (eVar 1) eNil)))))))
def sp_is_form : SpD := fun ds h Q _ => ∃ posts may thing, ds = [bookD posts may, thing] ∧ Kn thing h ∧ (∀ xs, thing = .tup xs → ∀ y ∈ xs, Kn y h) ∧ Q (.bl (formD may.length thing)) h
theorem pl_is_form (ds : List D) (h : DH) (Q : VD) (E : ED) (w : sp_is_form ds h Q E) : bodyD 3 t_is_form ds h Q E := by
  obtain ⟨posts, may, thing, rfl, hk, hks, q⟩ := w
  unfold t_is_form bodyD
  refine sSeq_i fun N hN => ?_
  refine sIf_i fun A B hA hB => ?_
  simp_arith only [dEq_int]
  rw [isi_eq hk (by decide), isT_tup]
  have no : formD may.length thing = false → A h := fun e => hA h (by
    simp_arith only [dEq_int]
    rw [e] at q
    exact q)
  cases thing with
  | tup xs =>
    simp_arith only [Bool.not_true]
    have e2 : decide ((2 : Int) ≤ (xs.length : Int)) = decide (2 ≤ xs.length) := by congr 1; simp only [eq_iff_iff]; omega
    have e12 : decide ((xs.length : Int) ≤ 12) = decide (xs.length ≤ 12) := by congr 1; simp only [eq_iff_iff]; omega
    have nof : ¬ (2 ≤ xs.length ∧ xs.length ≤ 12) → formD may.length (.tup xs) = false := fun hh => by
      unfold formD
      cases hi : intsOf xs with
      | none => simp only [hi]
      | some ns =>
        simp only [hi]
        rw [intsOf_len hi] at hh
        unfold formI
        rw [decide_eq_false hh]
        simp
    simp only [e2]
    by_cases h2 : 2 ≤ xs.length
    · simp_arith only [decide_eq_true h2]
      simp only [e12]
      by_cases h12 : xs.length ≤ 12
      · simp_arith only [decide_eq_true h12, Bool.not_true]
        refine hB h (hN _ _ ?_)
        refine sSeq_i fun N2 hN2 => ?_
        refine sIf_i fun A2 B2 hA2 hB2 => ?_
        simp_arith only [List.length_map]
        have no2 : formD may.length (.tup xs) = false → A2 h := fun e => hA2 h (by
          simp_arith only [dEq_int]
          rw [e] at q
          exact q)
        rw [← List.map_id xs]
        refine compL_map (α := D) id (fun x => some (.bl (wiD x 0 ((may.length : Int) - 1)))) trivial ?_ ?_
        · rw [List.nil_append, fm_some, all_bls, all_wi]
          unfold formD at q no2
          cases hi : intsOf xs with
          | none =>
            simp only [hi] at no2
            simp_arith only [Bool.not_false]
            exact no2 trivial
          | some ns =>
            simp only [hi] at q no2
            have hlen := intsOf_len hi
            unfold formI at q no2
            rw [decide_eq_true (by omega : 2 ≤ ns.length ∧ ns.length ≤ 12), Bool.true_and] at q no2
            rcases Bool.eq_false_or_eq_true (ns.all (fun i => wiD (.int i) 0 ((may.length : Int) - 1))) with ha | ha
            · simp_arith only [ha, Bool.not_true]
              rw [ha, Bool.true_and] at q
              refine hB2 h (hN2 _ _ ?_)
              have hin : intsIn (.tup xs) h = some ns := by unfold intsIn; rw [it_tup]; exact hi
              have ex := intsOf_some hi
              have hz : ns.length ≤ 1000 := by omega
              simp_arith only [hin, hz]
              have e3 : (((dedI ns).length : Int) == (xs.length : Int)) = decide ns.Nodup := by
                rw [hlen]
                by_cases hn : ns.Nodup
                · rw [decide_eq_true hn, dedI_of_nodup hn]; simp
                · rw [decide_eq_false hn]
                  have : (dedI ns).length ≠ ns.length := fun e => hn (dedI_len.mp e)
                  simp only [beq_eq_false_iff_ne, ne_eq]
                  omega
              rw [e3]
              by_cases hn : ns.Nodup
              · rw [decide_eq_true hn, Bool.true_and] at q
                simp_arith only [decide_eq_true hn]
                subst ex
                cases ns with
                | nil => simp at h2
                | cons n0 nr =>
                  rw [List.map_cons, atI_0]
                  simp_arith only [dEq_int]
                  exact ⟨Nat.succ_pos _, q⟩
              · rw [decide_eq_false hn, Bool.false_and] at q
                simp_arith only [decide_eq_false hn]
                exact q
            · simp_arith only [ha, Bool.not_false]
              exact no2 (by rw [ha]; rfl)
        · intro y hy N acc hN
          simp_arith only [id, List.length_map]
          exact ⟨_, _, _, rfl, hks xs rfl y hy, hN⟩
      · simp_arith only [decide_eq_false h12, Bool.not_false]
        exact no (nof (by omega))
    · simp_arith only [decide_eq_false h2, Bool.not_false]
      exact no (nof (by omega))
  | _ =>
    simp_arith only [Bool.not_false]
    exact no rfl
/-! goes -/
def t_goes : TSD :=
    (sSeq (sIf (tOrD (tNotD (tTst (eFn sp_is_form (eCons (eVar 0) (eCons (eVar 2) eNil))))) (tTst (eCall (fAll fun bs => bs.any id) (eCons (eComp (iSeq (eVar 2)) (gN 3) tYesD (eOp2 (dIs false) (eOp2 dIx (eVar 1) (eVar 3)) (eC .non)) [3]) eNil)))) (sRet (eC (.bl false))) sNext)
    (sRet (eCall (fAll fun bs => bs.all id) (eCons (eComp (iCall wZip (eCons (eVar 2) (eCons (eOp2 dAdd (eSl (eVar 2) (oSome (eC (.int 1))) oNone) (eSl (eVar 2) oNone (oSome (eC (.int 1))))) eNil))) (gT 2 (gTcons (gN 3) (gTcons (gN 4) gTnil))) tYesD (eOp2 (dIn false) (eOp2 dIx (eVar 1) (eVar 4)) (eOp2 dIx (eFld ["Book"] "may" (eVar 0)) (eVar 3))) [3, 4]) eNil))))
def sp_goes : SpD := fun ds h Q _ => ∃ posts may f thing, ds = [bookD posts may, filD f, thing] ∧ Kn thing h ∧ (∀ xs, thing = .tup xs → ∀ y ∈ xs, Kn y h) ∧ f.length = may.length ∧ Q (.bl (goesD may f thing)) h
theorem pl_goes (ds : List D) (h : DH) (Q : VD) (E : ED) (w : sp_goes ds h Q E) : bodyD 5 t_goes ds h Q E := by
  obtain ⟨posts, may, f, thing, rfl, hk, hks, hlen, q⟩ := w
  unfold t_goes bodyD
  refine sSeq_i fun N hN => ?_
  refine sIf_i fun A B hA hB => ?_
  simp_arith only [dEq_int]
  refine ⟨posts, may, thing, rfl, hk, hks, ?_⟩
  have no : goesD may f thing = false → A h := fun e => hA h (by
    simp_arith only [dEq_int]
    rw [e] at q
    exact q)
  rcases Bool.eq_false_or_eq_true (formD may.length thing) with e | e
  · simp_arith only [e]
    obtain ⟨ns, rfl⟩ : ∃ ns : List Int, thing = .tup (ns.map .int) := by
      unfold formD at e
      cases thing with
      | tup xs =>
        cases hi : intsOf xs with
        | none => simp only [hi] at e; cases e
        | some ns => exact ⟨ns, by rw [intsOf_some hi]⟩
      | _ => cases e
    have e' : formI may.length ns = true := by
      unfold formD at e
      simp only [intsOf_map] at e
      exact e
    have hin := formI_in e'
    unfold goesD goesI at q no
    simp only [intsOf_map, e', Bool.true_and] at q no
    refine compL_map (α := Int) D.int (fun i => some (.bl (!(at_ f i).isSome))) trivial ?_ ?_
    · rw [List.nil_append, fm_some, any_bls]
      have ea : (ns.any fun i => !(at_ f i).isSome) = !(ns.all fun i => (at_ f i).isSome) := by
        rw [List.any_eq_not_all_not]; simp
      rw [ea]
      rcases Bool.eq_false_or_eq_true (ns.all fun i => (at_ f i).isSome) with e2 | e2
      · simp_arith only [e2]
        rw [e2, Bool.true_and] at q
        refine hB h (hN _ _ ?_)
        simp_arith only [rot_cut, cut_len, zipL_map]
        have hz : ns.length ≤ sizeLine := size_le (by
          unfold formI at e'
          simp only [Bool.and_eq_true, decide_eq_true_eq] at e'
          omega)
        simp_arith only [hz]
        refine compL_map (α := Int × Int) _ (fun p => some (.bl (decide ((at_ f p.2).getD 0 ∈ may.getD p.1.toNat [])))) trivial ?_ ?_
        · rw [List.nil_append, fm_some, all_bls]
          exact q
        · intro p hp N acc hN
          obtain ⟨m1, m2⟩ := pairs_mem hp
          have i1 := hin _ m1
          have i2 := hin _ m2
          simp_arith only [dEq_int]
          rw [fil_at i2.1 (by rw [hlen]; exact i2.2), mayD_at (s := may.getD p.1.toNat []) i1.1 (by rw [List.getD_eq_getElem?_getD, List.getElem?_eq_getElem i1.2]; rfl)]
          simp_arith only [dEq_int]
          have hs : (at_ f p.2).isSome = true := List.all_eq_true.mp e2 _ m2
          cases ho : at_ f p.2 with
          | none => rw [ho] at hs; cases hs
          | some v =>
            simp only [oI]
            rw [dIn_ints v (may.getD p.1.toNat []) rfl]
            rw [ho] at hN
            exact hN
      · simp_arith only [e2]
        exact no (by rw [e2]; rfl)
    · intro i hi N acc hN
      obtain ⟨i1, i2⟩ := hin i hi
      simp_arith only [dEq_int]
      rw [fil_at i1 (by rw [hlen]; exact i2)]
      simp_arith only [isNon_oI]
      exact hN
  · simp_arith only [e]
    refine no ?_
    unfold formD at e
    unfold goesD
    cases thing with
    | tup xs =>
      cases hi : intsOf xs with
      | none => simp only [hi]
      | some ns =>
        simp only [hi] at e ⊢
        unfold goesI
        rw [e]; rfl
    | _ => rfl
/-! behind -/
def t_behind : TSD :=
    (sSeq (sSet 2 (eCall fListR (eCons (eVar 0) eNil)))
    (sSeq (sFor (iCall wZip (eCons (eVar 1) (eCons (eOp2 dAdd (eSl (eVar 1) (oSome (eC (.int 1))) oNone) (eSl (eVar 1) oNone (oSome (eC (.int 1))))) eNil))) (gT 2 (gTcons (gN 3) (gTcons (gN 4) gTnil))) (sSub (eVar 2) (eVar 3) (eOp2 dIx (eVar 0) (eVar 4))))
    (sRet (eCall fTuple (eCons (eVar 2) eNil)))))
-- use: pop
def sp_behind : SpD := fun ds h Q _ => ∃ f ns, ds = [filD f, .tup (ns.map .int)] ∧ (∀ i ∈ ns, 0 ≤ i ∧ i.toNat < f.length) ∧ ns.length ≤ 1000 ∧ Q (filD (behindI f ns)) h
theorem pl_behind (ds : List D) (h : DH) (Q : VD) (E : ED) (w : sp_behind ds h Q E) : popW (bodyD 5 t_behind) ds h Q E := by
  obtain ⟨f, ns, rfl, hin, hlen, q⟩ := w
  intro _ wf
  unfold popF t_behind bodyD
  refine sSeq_i fun N hN => ?_
  simp_arith only [dEq_int]
  refine hN _ _ ?_
  refine sSeq_i fun N2 hN2 => ?_
  refine sFor_i fun L hL => ?_
  have hz : ns.length ≤ sizeLine := size_le (by omega)
  simp_arith only [rot_cut, cut_len, zipL_map, hz]
  refine hL _ _ _ ?_
  have key : ∀ (l : List (Int × Int)) (g : List (Option Int)) (x y : Option D), (∀ p ∈ l, (0 ≤ p.1 ∧ p.1.toNat < f.length) ∧ 0 ≤ p.2 ∧ p.2.toNat < f.length) → g.length = f.length →
      (∀ x y, N2 [some (filD f), some (.tup (ns.map .int)), some (.ref h.length), x, y] (h ++ [.lst ((l.foldl (fun g p => g.set p.1.toNat (at_ f p.2)) g).map oI)])) →
      forL (fun _ => True) (gT 2 (gTcons (gN 3) (gTcons (gN 4) gTnil))) (sSub (eVar 2) (eVar 3) (eOp2 dIx (eVar 0) (eVar 4)))
        { nx := N2, rt := popQ h.length Q, er := fun nm ns fs x h' => popE h.length E nm ns fs h' } (l.map fun p => .tup [.int p.1, .int p.2]) [some (filD f), some (.tup (ns.map .int)), some (.ref h.length), x, y] (h ++ [.lst (g.map oI)]) := by
    intro l
    induction l with
    | nil => intro g x y _ _ hq; exact ⟨trivial, hq _ _⟩
    | cons p r ih =>
      intro g x y hl hg hq
      refine ⟨trivial, ?_⟩
      obtain ⟨⟨a1, a2⟩, b1, b2⟩ := hl p List.mem_cons_self
      simp_arith only [dEq_int]
      rw [fil_at b1 b2]
      simp_arith only [get_last]
      rw [put_nat a1 (by rw [List.length_map, hg]; exact a2), set_last, ← List.map_set]
      refine ih (g.set p.1.toNat (at_ f p.2)) _ _ (fun z hz => hl z (List.mem_cons_of_mem _ hz)) (by rw [List.length_set, hg]) fun x y => ?_
      exact hq x y
  refine key (pairs ns) f _ _ (fun p hp => ⟨hin _ (pairs_mem hp).1, hin _ (pairs_mem hp).2⟩) rfl fun x y => hN2 _ _ ?_
  simp_arith only [get_last]
  refine ⟨nrD_fil (behindI f ns), wf_take wf, by simp, ?_⟩
  rw [List.take_left]
  exact q
/-! exchanged -/
def t_exchanged : TSD :=
    (sSeq (sDrop (eFn sp_check_filling (eCons (eVar 0) (eCons (eVar 1) eNil))))
    (sSeq (sIf (tNotD (tTst (eFn sp_goes (eCons (eVar 0) (eCons (eVar 1) (eCons (eVar 2) eNil)))))) (sRaise "BadExchange") sNext)
    (sRet (eFn sp_behind (eCons (eVar 1) (eCons (eVar 2) eNil))))))
-- needs: exch
def sp_exchanged : SpD := fun ds h Q E => ∃ posts may f thing, ds = [bookD posts may, filD f, thing] ∧ Kn thing h ∧ (∀ xs, thing = .tup xs → ∀ y ∈ xs, Kn y h) ∧ rightD may (filD f) = true ∧ may.length ≤ 1000 ∧
  (goesD may f thing = true → ∀ ns, thing = .tup (ns.map .int) → goesI may f ns = true → Q (filD (behindI f ns)) h) ∧ (goesD may f thing = false → E "BadExchange" [] [] h)
theorem pl_exchanged (ds : List D) (h : DH) (Q : VD) (E : ED) (w : sp_exchanged ds h Q E) : bodyD 3 t_exchanged ds h Q E := by
  obtain ⟨posts, may, f, thing, rfl, hk, hks, hr, hz, q1, q2⟩ := w
  unfold t_exchanged bodyD
  refine sSeq_i fun N hN => ?_
  simp_arith only [dEq_int]
  refine ⟨posts, may, _, rfl, kn_fil, fun xs e => kn_fils e, hz, ?_⟩
  rw [if_pos hr]
  refine hN _ _ ?_
  refine sSeq_i fun N2 hN2 => ?_
  refine sIf_i fun A B hA hB => ?_
  simp_arith only [dEq_int]
  refine ⟨posts, may, f, thing, rfl, hk, hks, right_len hr, ?_⟩
  rcases Bool.eq_false_or_eq_true (goesD may f thing) with e | e
  · simp_arith only [e]
    refine hB h (hN2 _ _ ?_)
    obtain ⟨ns, rfl, hg⟩ := goesD_ints e
    simp_arith only [dEq_int]
    have hf := goesI_form hg
    refine ⟨f, ns, rfl, fun i hi => ?_, by have := form_len hf; omega, q1 e ns rfl hg⟩
    rw [right_len hr]
    exact formI_in hf i hi
  · simp_arith only [e]
    exact hA h (q2 e)
/-! Desk_went -/
def t_Desk_went : TSD :=
    (sSeq (sSet 2 (eFn sp_exchanged (eCons (eFld ["Book", "Desk"] "book" (eVar 0)) (eCons (eOp2 dIx (eFld ["Book", "Desk"] "stood" (eVar 0)) (eC (.int (-1)))) (eCons (eVar 1) eNil)))))
    (sSeq (sIf (tTst (eOp2 dGt (eCall fLen (eCons (eVar 1) eNil)) (eFld ["Book", "Desk"] "size" (eVar 0)))) sNever sNext)
    (sSeq (sDrop (eM isList mAppend (eFld ["Book", "Desk"] "stood" (eVar 0)) (eCons (eVar 2) eNil)))
    (sRet (eC (.str "ok"))))))
-- needs: desk
def sp_Desk_went : SpD := fun ds h Q _ => ∃ d s posts may fs f ns, ds = [.ref d, tupI ns] ∧ DeskAt h d s posts may 2 fs ∧ fs.getLast? = some f ∧ may.length ≤ 1000 ∧ fs.length ≤ 100 ∧ rightD may (filD f) = true ∧ goesI may f ns = true ∧ ns.length ≤ 2 ∧ Q (.str "ok") (deskSet h s (fs ++ [behindI f ns]))
theorem pl_Desk_went (ds : List D) (h : DH) (Q : VD) (E : ED) (w : sp_Desk_went ds h Q E) : bodyD 3 t_Desk_went ds h Q E := by
  obtain ⟨d, s, posts, may, fs, f, ns, rfl, R, el, hz, fl, hR, hg, hl, q⟩ := w
  obtain ⟨gs, rfl⟩ : ∃ gs, fs = gs ++ [f] := by
    rw [List.getLast?_eq_some_iff] at el
    exact el
  have al : atI ((gs ++ [f]).map filD) (-1) = some (filD f) := by rw [List.map_append]; exact atI_snoc _ _
  unfold t_Desk_went bodyD
  refine sSeq_i fun N hN => ?_
  simp_arith only [R.ins, dg_stood, dg_book, mem_Desk, R.s, al]
  refine ⟨posts, may, f, tupI ns, rfl, kn_tup, fun xs e y hy => ?_, hR, hz, fun hgd ms em gm => ?_, fun hgd => ?_⟩
  · cases e
    obtain ⟨i, _, rfl⟩ := List.mem_map.mp hy
    exact kn_int
  · have em : tupI ns = tupI ms := em
    have : ns = ms := by
      have := congrArg (fun d => match d with | .tup xs => intsOf xs | _ => none) em
      unfold tupI at this
      simp only [intsOf_map] at this
      exact Option.some.inj this
    subst this
    refine hN _ _ ?_
    clear hN
    refine sSeq_i fun N hN => ?_
    refine sIf_i fun A B hA hB => ?_
    simp_arith only [R.ins, dg_size, mem_Desk, tupI, List.length_map]
    have e : decide ((2 : Int) < (ns.length : Int)) = false := decide_eq_false (by omega)
    rw [e]
    refine hB _ (hN _ _ ?_)
    clear hA hB hN
    refine sSeq_i fun N hN => ?_
    simp_arith only [R.ins, dg_stood, mem_Desk, isList_lst R.s, mAppend, R.s, List.length_map]
    refine ⟨size_lt (by omega), hN _ _ ?_⟩
    clear hN
    simp_arith only [dEq_int]
    unfold deskSet at q
    rw [List.map_append] at q
    exact q
  · exfalso
    have : goesD may f (tupI ns) = true := by unfold goesD tupI; simp only [intsOf_map]; exact hg
    rw [this] at hgd; cases hgd
/-! Desk_say -/
def t_Desk_say : TSD :=
    (sSeq (sIf (tNotD (tTst (eCall (fIsi ["Book", "Desk"]) (eCons (eVar 1) (eCons (eC (.ty "str")) eNil))))) sNever sNext)
    (sSeq (sSet 2 (eM isStrD mSplit (eVar 1) (eCons (eC (.str " ")) eNil)))
    (sSeq (sSet 3 (eFn sp_numbers_of (eCons (eSl (eVar 2) (oSome (eC (.int 1))) oNone) eNil)))
    (sSeq (sIf (tTst (eOp2 (dIs false) (eVar 3) (eC .non))) sNever sNext)
    (sSeq (sIf (tAndD (tTst (eOp2 dEqS (eOp2 dIx (eVar 2) (eC (.int 0))) (eC (.str "go")))) (tTst (eOp2 dGt (eCall fLen (eCons (eVar 3) eNil)) (eC (.int 1))))) (sRet (eMeth "Desk" "went" sp_Desk_went (eVar 0) (eCons (eVar 3) eNil))) sNext)
    (sSeq (sIf (tTst (eOp2 dNe (eCall fLen (eCons (eVar 3) eNil)) (eMGet [("size", 1), ("undo", 0), ("post", 1), ("width", 0), ("always", 0), ("apart", 0), ("swaps", 0)] (eOp2 dIx (eVar 2) (eC (.int 0))) (eC (.int (-1)))))) sNever sNext)
    (sSeq (sIf (tTst (eOp2 dEqS (eOp2 dIx (eVar 2) (eC (.int 0))) (eC (.str "size")))) (sSeq sNever
    (sSeq sNever
    sNever)) sNext)
    (sSeq (sIf (tTst (eOp2 dEqS (eOp2 dIx (eVar 2) (eC (.int 0))) (eC (.str "undo")))) (sSeq (sIf (tTst (eOp2 dEq (eCall fLen (eCons (eFld ["Book", "Desk"] "stood" (eVar 0)) eNil)) (eC (.int 1)))) (sRet (eC (.str "no"))) sNext)
    (sSeq (sDrop (eM isList mPop (eFld ["Book", "Desk"] "stood" (eVar 0)) eNil))
    (sRet (eC (.str "yes"))))) sNext)
    sNever))))))))
-- needs: desk
def sp_Desk_say : SpD := fun ds h Q _ => ∃ d s posts may fs f line, ds = [.ref d, .str line] ∧ DeskAt h d s posts may 2 fs ∧ fs.getLast? = some f ∧ may.length ≤ 1000 ∧ fs.length ≤ 100 ∧ rightD may (filD f) = true ∧
  ((∃ ns, line = lineS "go" ns ∧ 2 ≤ ns.length ∧ ns.length ≤ 2 ∧ (∀ i ∈ ns, 0 ≤ i ∧ i < 100) ∧ goesI may f ns = true ∧ Q (.str "ok") (deskSet h s (fs ++ [behindI f ns]))) ∨
   (line = "undo" ∧ if fs.length = 1 then Q (.str "no") h else Q (.str "yes") (deskSet h s fs.dropLast)))
theorem pl_Desk_say (ds : List D) (h : DH) (Q : VD) (E : ED) (w : sp_Desk_say ds h Q E) : bodyD 4 t_Desk_say ds h Q E := by
  obtain ⟨d, s, posts, may, fs, f, line, rfl, R, el, hz, fl, hR, q⟩ := w
  have hw : ∃ (w : Str) (ns : List Int), line = lineS w ns ∧ Asc w ∧ w.length ≤ 6 ∧ 32 ∉ TL.tl w ∧ ns.length ≤ 12 ∧ (∀ i ∈ ns, 0 ≤ i ∧ i < 100) ∧
      ((w = ("go" : Str) ∧ ns.length = 2 ∧ goesI may f ns = true ∧ Q (.str "ok") (deskSet h s (fs ++ [behindI f ns]))) ∨ (w = ("undo" : Str) ∧ ns = [] ∧ if fs.length = 1 then Q (.str "no") h else Q (.str "yes") (deskSet h s fs.dropLast))) := by
    rcases q with ⟨ns, el, h1, h2, h3, h4, q⟩ | ⟨el, q⟩
    · exact ⟨"go", ns, el, asc_by (by decide +kernel), by decide +kernel, by decide +kernel, by omega, h3, .inl ⟨rfl, by omega, h4, q⟩⟩
    · exact ⟨"undo", [], by rw [el]; exact TL.ext_tl (by unfold lineS; rw [TL.join_eq, TL.tl_join]; rfl), asc_by (by decide +kernel), by decide +kernel, by decide +kernel, by simp, (fun i hi => by cases hi), .inr ⟨rfl, rfl, q⟩⟩
  clear q
  obtain ⟨w, ns, rfl, wa, wl, wf, nl, nb, q⟩ := hw
  have okl := lineS_ok wa wl nl nb
  obtain ⟨j1, j2⟩ := okl.join one_sp (by decide)
  have ll : (lineS w ns).length ≤ 43 := j2
  have ew := words_line wf fun i hi => (nb i hi).1
  have okw := okl.w
  rw [wt_cons] at okw
  generalize lineS w ns = line at ll ew ⊢
  clear j1 j2
  unfold t_Desk_say bodyD
  refine sSeq_i fun N hN => ?_
  refine sIf_i fun A B hA hB => ?_
  simp_arith only [fIsi, tyB, tyNs]
  refine ⟨by simp, ?_⟩
  rw [show (!tyIs "str" "str") = false from rfl]
  refine hB _ (hN _ _ ?_)
  clear hA hB hN
  refine sSeq_i fun N hN => ?_
  simp_arith only [isStrD, mSplit, one_sp.len]
  refine ⟨size_le (by omega), hN _ _ ?_⟩
  clear hN
  rw [show Txt.split line (Str.ofString " ") = wordsOf line from rfl, ew, List.map_cons]
  refine sSeq_i fun N hN => ?_
  simp_arith only [dEq_int]
  rw [show cutD (D.str w :: (ns.map numS).map D.str) (some 1) none = (ns.map numS).map D.str from cutD_from _ 1]
  refine ⟨_, rfl, size_le (by omega), ?_⟩
  rw [numsW_nums nb]
  refine hN _ _ ?_
  clear hN
  refine sSeq_i fun N hN => ?_
  refine sIf_i fun A B hA hB => ?_
  simp_arith only [dEq_int]
  rw [show isNon (tupI ns) = false from rfl]
  refine hB _ (hN _ _ ?_)
  clear hA hB hN
  refine sSeq_i fun N hN => ?_
  refine sIf_i fun A B hA hB => ?_
  simp_arith only [atI_0, tupI, List.length_map]
  rcases q with ⟨rfl, n2, hg, q⟩ | ⟨rfl, rfl, q⟩
  · rw [show (("go" : Str) == ("go" : Str)) = true from by decide +kernel, if_pos rfl, n2]
    rw [show decide ((1 : Int) < ((2 : Nat) : Int)) = true from by decide]
    refine hA _ ?_
    simp_arith only [eMeth, R.ins]
    refine ⟨by decide, ?_⟩
    exact ⟨d, s, posts, may, fs, f, ns, rfl, R, el, hz, fl, hR, hg, by omega, q⟩
  · rw [show (("undo" : Str) == ("go" : Str)) = false from by decide +kernel, if_neg (by decide)]
    refine hB _ (hN _ _ ?_)
    clear hA hB hN
    refine sSeq_i fun N hN => ?_
    refine sIf_i fun A B hA hB => ?_
    simp_arith only [atI_0]
    rw [show itemsOf (tupI []) h = some [] from rfl]
    dsimp only
    unfold eMGet
    simp_arith only [atI_0]
    rw [show List.lookup (Str.ofString "undo") [(Str.ofString "size", (1 : Int)), (Str.ofString "undo", 0), (Str.ofString "post", 1), (Str.ofString "width", 0), (Str.ofString "always", 0), (Str.ofString "apart", 0), (Str.ofString "swaps", 0)] = some 0 from by decide +kernel]
    simp_arith only [dEq_int]
    rw [show (!(((0 : Nat) : Int) == 0)) = false from by decide]
    refine hB _ (hN _ _ ?_)
    clear hA hB hN
    refine sSeq_i fun N hN => ?_
    refine sIf_i fun A B hA hB => ?_
    simp_arith only [atI_0]
    rw [show (("undo" : Str) == ("size" : Str)) = false from by decide +kernel]
    refine hB _ (hN _ _ ?_)
    clear hA hB hN
    refine sSeq_i fun N hN => ?_
    refine sIf_i fun A B hA hB => ?_
    simp_arith only [atI_0]
    rw [show (("undo" : Str) == ("undo" : Str)) = true from by decide +kernel]
    refine hA _ ?_
    clear hA hB hN
    refine sSeq_i fun N hN => ?_
    refine sIf_i fun A B hA hB => ?_
    simp_arith only [R.ins, dg_stood, mem_Desk, R.s, List.length_map]
    by_cases e1 : fs.length = 1
    · rw [if_pos e1] at q
      rw [e1]
      refine hA _ ?_
      simp_arith only [dEq_int]
      exact q
    · rw [if_neg e1] at q
      have e2 : (((fs.length : Nat) : Int) == 1) = false := beq_eq_false_iff_ne.mpr (by omega)
      rw [e2]
      refine hB _ (hN _ _ ?_)
      clear hA hB hN
      have el2 : (fs.map filD)[(fs.map filD).length - 1]? = some (filD f) := by
        rw [← List.getLast?_eq_getElem?, List.getLast?_map, el]; rfl
      refine sSeq_i fun N hN => ?_
      simp_arith only [R.ins, dg_stood, mem_Desk, isList_lst R.s, mPop, R.s, el2, ← List.map_dropLast]
      refine hN _ _ ?_
      simp_arith only [dEq_int]
      exact q
/-! _law_hand -/
def t__law_hand : TSD :=
    (sSeq (sSet 1 (eComp (iSeq (eSl (eVar 0) oNone (oSome (eC (.int 63))))) (gN 2) tYesD (eCall fAbs (eCons (eCall fInt (eCons (eVar 2) eNil)) eNil)) [2]))
    (sRet (eRef (eCons (eVar 1) (eCons (eC (.int 0)) (eCons (eC (.int 0)) (eCons (eOp2 dAdd (eC (.int 67)) (eOp2 dMul (eC (.int 5)) (eCall fLen (eCons (eVar 1) eNil)))) (eCons (eC (.int 0)) eNil))))))))
def sp__law_hand : SpD := fun ds h Q _ => ∃ ns : List Int, ds = [.scr (ns.map .int)] ∧ ns.length ≤ 63 ∧ ∀ h', (∃ o, h' = h ++ [o]) → IsHand h' h.length → Q (.ref h.length) h'
theorem pl__law_hand (ds : List D) (h : DH) (Q : VD) (E : ED) (w : sp__law_hand ds h Q E) : bodyD 3 t__law_hand ds h Q E := by
  obtain ⟨ns, rfl, hl, q⟩ := w
  unfold t__law_hand bodyD
  refine sSeq_i fun N hN => ?_
  simp_arith only [dEq_int]
  obtain ⟨a, b, e⟩ := cutD_map D.int ns none (some 63)
  rw [e]
  refine compL_map (α := Int) D.int (fun i => some (.int (if i < 0 then -i else i))) trivial ?_ ?_
  · have hm : (((ns.drop a).take b).filterMap fun i => some (D.int (if i < 0 then -i else i))) = (((ns.drop a).take b).map fun i => if i < 0 then -i else i).map D.int := by
      rw [List.filterMap_eq_map', List.map_map]; rfl
    rw [hm]
    refine hN _ _ ?_
    simp_arith only [dEq_int]
    exact ⟨.inl ⟨by decide, by decide⟩, q _ ⟨_, rfl⟩ ⟨_, _, _, _, _, get_last _ _, Int.le_refl 0⟩⟩
  · intro x _ N acc hN
    simp_arith only [dEq_int]
    exact hN
/-! _law_text -/
def t__law_text : TSD :=
    (sSeq (sSet 2 (eOp2 dAdd (eLst (eCons (eOp2 dAdd (eC (.str "posts ")) (eCall fStr (eCons (eVar 0) eNil))) eNil)) (eComp (iSeq (eVar 1)) (gN 3) tYesD (eM isStrD mJoin (eC (.str " ")) (eCons (eOp2 dAdd (eLst (eCons (eC (.str "person")) eNil)) (eComp (iSeq (eVar 3)) (gN 5) tYesD (eCall fStr (eCons (eVar 5) eNil)) [5])) eNil)) [3])))
    (sRet (eM isStrD mJoin (eC (.str "")) (eCons (eComp (iSeq (eVar 2)) (gN 4) tYesD (eOp2 dAdd (eVar 4) (eC (.str "\n"))) [4]) eNil))))
-- needs: txtd
def sp__law_text : SpD := fun ds h Q _ => ∃ posts may, ds = [.int posts, mayD may] ∧ BookOk posts may ∧ Q (.str (textS posts may)) h
theorem pl__law_text (ds : List D) (h : DH) (Q : VD) (E : ED) (w : sp__law_text ds h Q E) : bodyD 6 t__law_text ds h Q E := by
  obtain ⟨posts, may, rfl, ok, q⟩ := w
  have p0 := ok.p0
  have p1 := ok.p1
  have ml := ok.ml
  have ms : ∀ s ∈ may, s.length ≤ 12 ∧ ∀ i ∈ s, 0 ≤ i ∧ i < 100 := fun s hs => by
    obtain ⟨a, b⟩ := ok.rs s hs
    have := inc_len a b p0
    exact ⟨by omega, fun i hi => by have := b i hi; omega⟩
  unfold t__law_text bodyD
  refine sSeq_i fun N hN => ?_
  simp_arith only [fStr, it_may]
  obtain ⟨na, nl⟩ := numS_asc p0 (show posts < 100 by omega)
  have wB : Asc ("person" : Str) := asc_by (by decide +kernel)
  have lA : (Str.ofString "posts ").length = 6 := rfl
  have lB : (Str.ofString "person").length = 6 := rfl
  refine ⟨log_small p0 (by omega), ?_⟩
  rw [show Str.ofString (toString posts) = numS posts from rfl]
  refine ⟨size_le (by omega), ?_⟩
  obtain ⟨ols, oll⟩ := textL_ok ok
  refine compL_map (α := List Int) _ (fun s => some (.str (lineS "person" s))) (by exact trivial) ?_ ?_
  · rw [List.nil_append, fm_some]
    refine ⟨size_le (by rw [List.length_map]; omega), hN _ _ ?_⟩
    clear hN
    rw [show D.str (Str.ofString "posts " ++ numS posts) :: may.map (fun s => D.str (lineS "person" s)) = (textL posts may).map D.str by unfold textL; rw [List.map_cons, List.map_map, line_posts]; rfl]
    unfold textS at q
    generalize textL posts may = ls at ols oll q ⊢
    simp_arith only [dEq_int]
    refine ⟨rfl, ?_⟩
    refine compL_map (α := Str) _ (fun l => some (.str (l ++ "\n"))) (by exact trivial) ?_ ?_
    · rw [List.nil_append, fm_some]
      have o2s := (nl_ok ols).sum
      rw [show ls.map (fun l => D.str (l ++ "\n")) = (ls.map fun l => l ++ ("\n" : Str)).map D.str by rw [List.map_map]; rfl]
      simp only [mJoin, listOf, strsOf_map]
      refine ⟨?_, q⟩
      rw [show (Str.ofString "").length = 0 from rfl]
      omega
    · intro l hl N3 acc hN3
      have := wt_mem hl
      have := ols.w
      simp_arith only [dEq_int]
      exact ⟨size_le (by rw [show (Str.ofString "\n").length = 1 from rfl]; omega), hN3⟩
  · intro s hs N3 acc hN3
    have okl := lineS_ok wB (by omega) (ms s hs).1 (ms s hs).2
    have ok3 := okl.sum
    simp_arith only [dEq_int]
    refine ⟨rfl, ?_⟩
    refine compL_map (α := Int) _ (fun i => some (.str (numS i))) (by exact trivial) ?_ ?_
    · rw [List.nil_append, fm_some]
      rw [show D.str (Str.ofString "person") :: s.map (fun i => D.str (numS i)) = (("person" : Str) :: s.map numS).map D.str by rw [List.map_cons, List.map_map]; rfl]
      simp_arith only [isStrD, mJoin, listOf, strsOf_map, show (Str.ofString " ").length = 1 from rfl, List.length_map]
      refine ⟨size_le (by have := (ms s hs).1; omega), ?_⟩
      rw [← List.map_cons, strsOf_map]
      exact ⟨by omega, hN3⟩
    · intro i hi N4 acc hN4
      have b := (ms s hs).2 i hi
      simp_arith only [fStr]
      exact ⟨log_small b.1 b.2, hN4⟩
/-! _law_same -/
def t__law_same (self : SpD) : TSD :=
    (sSeq (sIf (tTst (eCall (fIsiT ["Book"]) (eCons (eVar 1) (eCons (eTup (eCons (eC (.ty "tuple")) (eCons (eC (.ty "list")) eNil))) eNil)))) (sSeq (sIf (tOrD (tTst (eOp2 dNe (eCall (fIsi ["Book"]) (eCons (eVar 0) (eCons (eC (.ty "tuple")) eNil))) (eCall (fIsi ["Book"]) (eCons (eVar 1) (eCons (eC (.ty "tuple")) eNil))))) (tNotD (tTst (eCall (fIsiT ["Book"]) (eCons (eVar 0) (eCons (eTup (eCons (eC (.ty "tuple")) (eCons (eC (.ty "list")) eNil))) eNil)))))) (sRet (eC (.bl false))) sNext)
    (sRet (eAndV (eOp2 dEq (eCall fLen (eCons (eVar 0) eNil)) (eCall fLen (eCons (eVar 1) eNil))) (eCall (fAll fun bs => bs.all id) (eCons (eComp (iCall wZip (eCons (eVar 0) (eCons (eVar 1) eNil))) (gT 2 (gTcons (gN 2) (gTcons (gN 3) gTnil))) tYesD (eFn self (eCons (eVar 2) (eCons (eVar 3) eNil))) [2, 3]) eNil))))) sNext)
    (sSeq (sIf (tOrD (tTst (eCall (fIsi ["Book"]) (eCons (eVar 1) (eCons (eC (.ty "bool")) eNil)))) (tOrD (tTst (eCall (fIsi ["Book"]) (eCons (eVar 0) (eCons (eC (.ty "bool")) eNil)))) (tOrD (tTst (eOp2 (dIs false) (eVar 1) (eC .non))) (tTst (eOp2 (dIs false) (eVar 0) (eC .non)))))) (sRet (eAndV (eOp2 dEq (eCall (fIsi ["Book"]) (eCons (eVar 0) (eCons (eC (.ty "bool")) eNil))) (eCall (fIsi ["Book"]) (eCons (eVar 1) (eCons (eC (.ty "bool")) eNil)))) (eAndV (eOp2 dEq (eOp2 (dIs false) (eVar 0) (eC .non)) (eOp2 (dIs false) (eVar 1) (eC .non))) (eOp2 dEq (eVar 0) (eVar 1))))) sNext)
    (sRet (eAndV (eOp2 dEq (eCall (fIsi ["Book"]) (eCons (eVar 0) (eCons (eC (.ty "str")) eNil))) (eCall (fIsi ["Book"]) (eCons (eVar 1) (eCons (eC (.ty "str")) eNil)))) (eAndV (eCall (fIsiT ["Book"]) (eCons (eVar 0) (eCons (eTup (eCons (eC (.ty "int")) (eCons (eC (.ty "str")) eNil))) eNil))) (eOp2 dEq (eVar 0) (eVar 1)))))))
def sp__law_sameN (n : Nat) : SpD := fun ds h Q _ => ∃ x y, ds = [x, y] ∧ SameN h n x y ∧ Q (.bl true) h
def sp__law_same : SpD := sp__law_sameN 6
theorem pl__law_same (n : Nat) (ds : List D) (h : DH) (Q : VD) (E : ED) (w : sp__law_sameN (n + 1) ds h Q E) : bodyD 4 (t__law_same (sp__law_sameN n)) ds h Q E := by
  obtain ⟨x, y, rfl, hs, q⟩ := w
  obtain ⟨kx, ky⟩ := hs.kn
  unfold t__law_same bodyD
  refine sSeq_i fun N hN => ?_
  refine sIf_i fun A B hA hB => ?_
  simp_arith only [dEq_int]
  rw [isiT_eq ky (by decide) (by decide)]
  simp_arith only [dEq_int]
  rcases hs.cases with ⟨rfl, rfl⟩ | ⟨b, rfl, rfl⟩ | ⟨b, rfl, rfl⟩ | ⟨b, rfl, rfl, ok⟩ | ⟨xs, ys, rfl, rfl, hl, hz⟩ | ⟨xs, ys, e1, e2, hl, hz⟩
  · refine hB h (hN _ _ ?_)
    refine sSeq_i fun N2 hN2 => ?_
    refine sIf_i fun A2 B2 hA2 hB2 => ?_
    simp_arith only [dEq_int]
    simp only [isi_eq kx (by decide : "bool" ∈ tyNs)]
    refine hA2 h ?_
    simp_arith only [dEq_int]
    simp_arith only [isi_eq kx (by decide : "bool" ∈ tyNs)]
    simp_arith only [beq_self_eq_true, dEq_non]
    exact q
  · refine hB h (hN _ _ ?_)
    refine sSeq_i fun N2 hN2 => ?_
    refine sIf_i fun A2 B2 hA2 hB2 => ?_
    simp_arith only [dEq_int]
    simp only [isi_eq kx (by decide : "bool" ∈ tyNs)]
    refine hA2 h ?_
    simp_arith only [dEq_int]
    simp_arith only [isi_eq kx (by decide : "bool" ∈ tyNs)]
    simp_arith only [beq_self_eq_true]
    exact q
  · refine hB h (hN _ _ ?_)
    refine sSeq_i fun N2 hN2 => ?_
    refine sIf_i fun A2 B2 hA2 hB2 => ?_
    simp_arith only [dEq_int]
    simp only [isi_eq kx (by decide : "bool" ∈ tyNs)]
    refine hB2 h (hN2 _ _ ?_)
    simp_arith only [dEq_int]
    simp_arith only [isi_eq kx (by decide : "str" ∈ tyNs)]
    simp_arith only [beq_self_eq_true]
    simp only [isiT_eq kx (by decide : "int" ∈ tyNs) (by decide : "str" ∈ tyNs)]
    exact q
  · refine hB h (hN _ _ ?_)
    refine sSeq_i fun N2 hN2 => ?_
    refine sIf_i fun A2 B2 hA2 hB2 => ?_
    simp_arith only [dEq_int]
    simp only [isi_eq kx (by decide : "bool" ∈ tyNs)]
    refine hB2 h (hN2 _ _ ?_)
    simp_arith only [dEq_int]
    simp_arith only [isi_eq kx (by decide : "str" ∈ tyNs)]
    simp_arith only [beq_self_eq_true]
    simp only [isiT_eq kx (by decide : "int" ∈ tyNs) (by decide : "str" ∈ tyNs), dEq_str ok]
    exact q
  · refine hA h ?_
    refine sSeq_i fun N2 hN2 => ?_
    refine sIf_i fun A2 B2 hA2 hB2 => ?_
    simp_arith only [dEq_int]
    simp_arith only [isi_eq kx (by decide : "tuple" ∈ tyNs), isi_eq ky (by decide : "tuple" ∈ tyNs), isiT_eq kx (by decide : "tuple" ∈ tyNs) (by decide : "list" ∈ tyNs)]
    refine hB2 h (hN2 _ _ ?_)
    simp_arith only [hl]
    simp_arith only [beq_self_eq_true]
    rw [zipL_zip]
    refine compL_map (α := D × D) _ (fun _ => some (.bl true)) trivial ?_ ?_
    · rw [List.nil_append, fm_some]
      exact all_true _ q
    · intro p hp N acc hN
      simp_arith only [dEq_int]
      exact ⟨_, _, rfl, hz p hp, hN⟩
  · obtain ⟨t1, t2⟩ := isT_lst e1
    obtain ⟨u1, u2⟩ := isT_lst e2
    obtain ⟨a1, a2, a3⟩ := listOf_lst e1
    obtain ⟨b1, b2, b3⟩ := listOf_lst e2
    rw [u1, u2, Bool.or_true]
    simp_arith only [dEq_int]
    refine hA h ?_
    refine sSeq_i fun N2 hN2 => ?_
    refine sIf_i fun A2 B2 hA2 hB2 => ?_
    simp_arith only [dEq_int]
    simp_arith only [isi_eq kx (by decide : "tuple" ∈ tyNs), isi_eq ky (by decide : "tuple" ∈ tyNs), isiT_eq kx (by decide : "tuple" ∈ tyNs) (by decide : "list" ∈ tyNs), t1, t2, u1, u2]
    simp_arith only [beq_self_eq_true, Bool.or_true]
    refine hB2 h (hN2 _ _ ?_)
    simp_arith only [a2, b2, hl]
    simp_arith only [beq_self_eq_true]
    refine zip_lists e1 e2 ?_
    rw [zipL_zip]
    refine compL_map (α := D × D) _ (fun _ => some (.bl true)) ⟨keep_items a2, keep_items b2⟩ ?_ ?_
    · rw [List.nil_append, fm_some]
      exact all_true _ q
    · intro p hp N acc hN
      simp_arith only [dEq_int]
      exact ⟨_, _, rfl, hz p hp, hN⟩
theorem sp__law_same_zero {ds : List D} {h : DH} {Q : VD} {E : ED} (w : sp__law_sameN 0 ds h Q E) : False := by
  obtain ⟨x, y, _, s, _⟩ := w
  exact s
/-! _law_is_read -/
def t__law_is_read : TSD :=
    (sSeq (sPar [3, 4] (eCons (eFn sp__law_text (eCons (eVar 0) (eCons (eVar 1) eNil))) (eCons (eMkV "Book" sp_init_Book (eCons (eVar 0) (eCons (eVar 1) eNil))) eNil)))
    (sSeq (sSet 2 (eFn sp_read_book (eCons (eVar 3) eNil)))
    (sSeq (sIf (tOrD (tNotD (tTst (eCall (fIsi ["Book"]) (eCons (eVar 2) (eCons (eC (.glb "Book")) eNil))))) (tNotD (tTst (eFn sp__law_same (eCons (eLst (eCons (eFld ["Book"] "posts" (eVar 2)) (eCons (eFld ["Book"] "may" (eVar 2)) eNil))) (eCons (eLst (eCons (eVar 0) (eCons (eVar 1) eNil))) eNil)))))) (sRet (eC (.bl false))) sNext)
    (sSeq (sIf (tOrD (tTst (eOp2 (dIs true) (eOp2 (dEqO "Book" sp_eq_Book false) (eVar 2) (eVar 4)) (eC (.bl true)))) (tTst (eOp2 (dIs true) (eOp2 (dEqO "Book" sp_eq_Book true) (eVar 2) (eVar 4)) (eC (.bl false))))) (sRet (eC (.bl false))) sNext)
    (sRet (eAndV (eFn sp__law_same (eCons (eFn sp_book_text (eCons (eVar 4) eNil)) (eCons (eVar 3) eNil))) (eFn sp__law_same (eCons (eFn sp_book_text (eCons (eVar 2) eNil)) (eCons (eVar 3) eNil)))))))))
-- needs: txtd rows
def sp__law_is_read : SpD := fun ds h Q _ => ∃ posts may, ds = [.int posts, mayD may] ∧ BookOk posts may ∧ WF h ∧ Q (.bl true) h
theorem text_strOk {x : Str} (h : Asc x) : PyData.strOk x = true := by
  unfold PyData.strOk
  rw [← Array.all_toList, List.all_eq_true]
  exact fun c hc => decide_eq_true (by have := h c hc; omega)
theorem same_mayD2 {h : DH} {n : Nat} (m : List (List Int)) : SameN h (n + 3) (mayD m) (mayD m) := by
  unfold mayD
  show _ ∧ _
  refine ⟨rfl, fun p hp => ?_⟩
  obtain ⟨e, hm⟩ := zip_self hp
  obtain ⟨z, _, ez⟩ := List.mem_map.mp hm
  rw [← e, ← ez]
  exact same_tupI z
theorem same_book {h : DH} {posts : Int} {may : List (List Int)} : SameN h 6 (.lst [.int posts, mayD may]) (.lst [.int posts, mayD may]) :=
  same_lists rfl rfl rfl fun p hp => by
    obtain ⟨e, hm⟩ := zip_self hp
    rw [← e]
    simp only [List.mem_cons, List.not_mem_nil, or_false] at hm
    rcases hm with z | z
    · rw [z]; exact rfl
    · rw [z]; exact same_mayD2 may
theorem pl__law_is_read (ds : List D) (h : DH) (Q : VD) (E : ED) (w : sp__law_is_read ds h Q E) : bodyD 5 t__law_is_read ds h Q E := by
  obtain ⟨posts, may, rfl, ok, wf, q⟩ := w
  obtain ⟨ta, tlen⟩ := textS_ok ok
  unfold t__law_is_read bodyD
  refine sSeq_i fun N hN => ?_
  simp_arith only [dEq_int]
  refine ⟨posts, may, rfl, ok, ?_⟩
  refine book_made ok wf (hN _ _ ?_)
  clear hN
  refine sSeq_i fun N hN => ?_
  simp_arith only [dEq_int]
  refine ⟨_, rfl, kn_str, .inr ⟨_, rfl, by omega, ?_⟩⟩
  rw [read_text ok.nums]
  dsimp only
  rw [bookFault_ok ok]
  refine hN _ _ ?_
  clear hN
  refine sSeq_i fun N hN => ?_
  refine sIf_i fun A B hA hB => ?_
  simp_arith only [dEq_int]
  rw [isi_book (.inr ⟨rfl, rfl⟩), show isBook (bookD posts may) h = true from rfl]
  simp_arith only [Bool.not_true, bookD, fget]
  refine ⟨_, _, rfl, same_book, ?_⟩
  simp_arith only [Bool.not_true]
  refine hB _ (hN _ _ ?_)
  clear hA hB hN
  have eqs : ∀ (neg : Bool) (K : VD) (hh : DH), K (.bl (!neg)) hh → dEqO "Book" sp_eq_Book neg (bookD posts may) (bookD posts may) hh K := fun neg K hh hK => by
    refine ⟨⟨_, _, rfl⟩, .inr ⟨_, _, rfl⟩, posts, may, _, rfl, .inr ⟨posts, may, rfl, ?_⟩⟩
    rw [decide_eq_true (And.intro rfl rfl)]
    cases neg <;> exact hK
  refine sSeq_i fun N hN => ?_
  refine sIf_i fun A B hA hB => ?_
  simp_arith only [dEq_int]
  refine eqs false _ _ ?_
  simp_arith only [Bool.not_false, decide_true, Bool.not_true]
  refine eqs true _ _ ?_
  simp_arith only [Bool.not_true, decide_true]
  refine hB _ (hN _ _ ?_)
  clear hA hB hN
  have ss : SameN h 6 (.str (textS posts may)) (.str (textS posts may)) := ⟨rfl, text_strOk ta⟩
  simp_arith only [dEq_int]
  refine ⟨posts, may, rfl, ok, _, _, rfl, ss, ?_⟩
  simp_arith only [dEq_int]
  exact ⟨posts, may, rfl, ok, _, _, rfl, ss, q⟩
/-! _law_draw -/
def t__law_draw : TSD :=
    (sSeq (sIf (tAndD (tTst (eOp2 dEq (eOp2 dIx (eVar 0) (eC (.int 2))) (eC (.int 0)))) (tTst (eOp2 dLt (eOp2 dIx (eVar 0) (eC (.int 1))) (eCall fLen (eCons (eOp2 dIx (eVar 0) (eC (.int 0))) eNil))))) (sSeq (sSet 3 (eOp2 dIx (eOp2 dIx (eVar 0) (eC (.int 0))) (eOp2 dIx (eVar 0) (eC (.int 1)))))
    (sSeq (sSub (eVar 0) (eC (.int 1)) (eOp2 dAdd (eOp2 dIx (eVar 0) (eC (.int 1))) (eC (.int 1))))
    (sSeq (sSub (eVar 0) (eC (.int 3)) (eOp2 dMod (eCall fInt (eCons (eOp2 dAdd (eOp2 dAdd (eOp2 dMul (eOp2 dIx (eVar 0) (eC (.int 3))) (eC (.int 69621))) (eOp2 dMul (eVar 3) (eC (.int 40692)))) (eC (.int 37))) eNil)) (eC (.int 2147483629))))
    (sIf (tTst (eOp2 dGe (eVar 3) (eOp2 dPow (eC (.int 10)) (eC (.int 18))))) (sSub (eVar 0) (eC (.int 2)) (eVar 3)) sNext)))) sNext)
    (sSeq (sIf (tTst (eOp2 dGt (eOp2 dIx (eVar 0) (eC (.int 2))) (eC (.int 0)))) (sSeq (sSet 4 (eOp2 dMod (eCall fInt (eCons (eOp2 dIx (eVar 0) (eC (.int 2))) eNil)) (eVar 1)))
    (sSeq (sSub (eVar 0) (eC (.int 2)) (eOp2 dFdiv (eOp2 dIx (eVar 0) (eC (.int 2))) (eVar 1)))
    (sRet (eVar 4)))) sNext)
    (sSeq (sSub (eVar 0) (eC (.int 4)) (eOp2 dAdd (eOp2 dIx (eVar 0) (eC (.int 4))) (eC (.int 1))))
    (sSeq (sSet 2 (eOp2 dMod (eCall fInt (eCons (eOp2 dMul (eCall fInt (eCons (eOp2 dAdd (eOp2 dIx (eVar 0) (eC (.int 3))) (eOp2 dMul (eC (.int 7919)) (eOp2 dIx (eVar 0) (eC (.int 4))))) eNil)) (eC (.int 48271))) eNil)) (eC (.int 2147483647))))
    (sSeq (sSet 2 (eOp2 dMod (eCall fInt (eCons (eOp2 dMul (eVar 2) (eOp2 dAdd (eOp2 dFdiv (eVar 2) (eC (.int 1009))) (eC (.int 69621)))) eNil)) (eC (.int 2147483647))))
    (sSeq (sSet 2 (eOp2 dMod (eCall fInt (eCons (eOp2 dMul (eVar 2) (eOp2 dAdd (eOp2 dFdiv (eVar 2) (eC (.int 2003))) (eC (.int 40014)))) eNil)) (eC (.int 2147483563))))
    (sRet (eOp2 dMod (eCall fInt (eCons (eOp2 dFdiv (eVar 2) (eC (.int 16))) eNil)) (eVar 1)))))))))
def sp__law_draw : SpD := fun ds h Q _ => ∃ (n : Nat) (many : Int), ds = [.ref n, .int many] ∧ IsHand h n ∧ 0 < many ∧ many < 1073741824 ∧ ∀ (k : Int) (h' : DH), 0 ≤ k → k < many → Drawn h h' n → Q (.int k) h'
theorem pl__law_draw (ds : List D) (h : DH) (Q : VD) (E : ED) (w : sp__law_draw ds h Q E) : bodyD 5 t__law_draw ds h Q E := by
  obtain ⟨n, many, rfl, ⟨cells, a, b, c, d, hn, ha⟩, h0, h1, q⟩ := w
  unfold t__law_draw bodyD
  refine sSeq_inv (fun sd h' => (∃ x y z, sd = [some (.ref n), some (.int many), x, y, z]) ∧ h'.length = h.length ∧ (∀ j, j ≠ n → h'[j]? = h[j]?) ∧ IsHand h' n) (fun N hN => ?_) ?_
  · refine sIf_i fun A B hA hB => ?_
    have hB' : B h := hB h (hN _ _ ⟨⟨_, _, _, rfl⟩, rfl, fun _ _ => rfl, cells, a, b, c, d, hn, ha⟩)
    have hI := fun x0 x1 x2 x3 x4 => @handIx x0 x1 x2 x3 x4
    simp_arith only [hn, hI]
    split
    · simp_arith only [List.length_map]
      refine brB_i (fun h2 => ?_) fun _ => hB'
      · refine hA h ?_
        have ha2 : a < cells.length := by simpa using h2
        refine sSeq_i fun N2 hN2 => ?_
        have hc : atI (cells.map D.int) a = some (.int (cells[a.toNat]'(by omega))) := atI_nat ha (by rw [List.getElem?_map, List.getElem?_eq_getElem (by omega)]; rfl)
        simp_arith only [hn, hI, hc]
        refine hN2 _ _ ?_
        refine sSeq_i fun N3 hN3 => ?_
        simp_arith only [hn, hI, handPut]
        refine hN3 _ _ ?_
        refine sSeq_i fun N4 hN4 => ?_
        simp_arith only [get_set_self hn, hI, handPut]
        refine ⟨.inr ⟨by decide, by decide⟩, .inr ⟨by decide, by decide⟩, by decide, ?_⟩
        refine hN4 _ _ ?_
        have g3 := fun z : Int => get_set_self (o := O.lst [D.lst (List.map D.int cells), D.int (a + 1), D.int b, D.int z, D.int d]) hn
        rw [set_set']
        refine sIf_i fun A2 B2 hA2 hB2 => ?_
        simp_arith only [dEq_int]
        refine ⟨⟨by decide, by decide, by decide⟩, brB_i (fun _ => ?_) fun _ => ?_⟩
        · refine hA2 _ ?_
          simp_arith only [g3, handPut]
          refine hN _ _ ⟨⟨_, _, _, rfl⟩, by simp, fun j hj => ?_, cells, a + 1, _, _, d, by rw [set_set']; exact get_set_self hn, by omega⟩
          rw [set_set', List.getElem?_set_ne (Ne.symm hj)]
        · refine hB2 _ (hN _ _ ⟨⟨_, _, _, rfl⟩, by simp, fun j hj => ?_, cells, a + 1, _, _, d, g3 _, by omega⟩)
          rw [List.getElem?_set_ne (Ne.symm hj)]
    · exact hB'
  · clear hn ha
    rintro sd h' ⟨⟨x, y, z, rfl⟩, hl, hj, cells, a, b, c, d, hn, ha⟩
    have hI := fun x0 x1 x2 x3 x4 => @handIx x0 x1 x2 x3 x4
    have hd : ∀ {x2 x3 x4 : Int} {h'' : DH}, h''.length = h'.length → (∀ j, j ≠ n → h''[j]? = h'[j]?) → h''[n]? = some (.lst [.lst (cells.map .int), .int a, .int x2, .int x3, .int x4]) → Drawn h h'' n := fun l1 l2 l3 =>
      ⟨l1.trans hl, fun j hj' => (l2 j hj').trans (hj j hj'), cells, a, _, _, _, l3, ha⟩
    refine sSeq_i fun N hN => ?_
    refine sIf_i fun A B hA hB => ?_
    simp_arith only [hn, hI]
    refine brB_i (fun _ => ?_) fun _ => ?_
    · refine hA _ ?_
      refine sSeq_i fun N2 hN2 => ?_
      simp_arith only [hn, hI]
      refine ⟨by omega, hN2 _ _ ?_⟩
      refine sSeq_i fun N3 hN3 => ?_
      simp_arith only [hn, hI, handPut]
      refine ⟨⟨by omega, by omega⟩, hN3 _ _ ?_⟩
      simp_arith only [dEq_int]
      refine q _ _ (fmod_nn _ h0) (fmod_lt _ h0) (hd (by simp) (fun j hj => ?_) (get_set_self hn))
      rw [List.getElem?_set_ne (Ne.symm hj)]
    · refine hB _ (hN _ _ ?_)
      refine sSeq_i fun N2 hN2 => ?_
      simp_arith only [hn, hI, handPut]
      refine hN2 _ _ ?_
      have g2 := get_set_self (o := O.lst [D.lst (List.map D.int cells), D.int a, D.int b, D.int c, D.int (d + 1)]) hn
      refine sSeq_i fun N3 hN3 => ?_
      simp_arith only [g2, hI]
      refine ⟨.inl ⟨by decide, by decide⟩, .inr ⟨by decide, by decide⟩, by decide, hN3 _ _ ?_⟩
      have b1 := fmod_nn ((c + 7919 * (d + 1)) * 48271) (b := 2147483647) (by decide)
      have b2 := fmod_lt ((c + 7919 * (d + 1)) * 48271) (b := 2147483647) (by decide)
      generalize Int.fmod ((c + 7919 * (d + 1)) * 48271) 2147483647 = v at b1 b2 ⊢
      refine sSeq_i fun N4 hN4 => ?_
      simp_arith only [dEq_int]
      refine ⟨⟨by decide, by decide⟩, .inl ⟨by omega, by omega⟩, by decide, hN4 _ _ ?_⟩
      have c1 := fmod_nn (v * (v.fdiv 1009 + 69621)) (b := 2147483647) (by decide)
      have c2 := fmod_lt (v * (v.fdiv 1009 + 69621)) (b := 2147483647) (by decide)
      generalize Int.fmod (v * (v.fdiv 1009 + 69621)) 2147483647 = v2 at c1 c2 ⊢
      refine sSeq_i fun N5 hN5 => ?_
      simp_arith only [dEq_int]
      refine ⟨⟨by decide, by decide⟩, .inl ⟨by omega, by omega⟩, by decide, hN5 _ _ ?_⟩
      simp_arith only [dEq_int]
      refine ⟨⟨by decide, by decide⟩, by omega, ?_⟩
      refine q _ _ (fmod_nn _ h0) (fmod_lt _ h0) (hd (by simp) (fun j hj => ?_) g2)
      rw [List.getElem?_set_ne (Ne.symm hj)]
/-! _law_mixed -/
def t__law_mixed : TSD :=
    (sSeq (sPar [2, 3] (eCons (eCall fListR (eCons (eVar 1) eNil)) (eCons (eRef eNil) eNil)))
    (sSeq (sWhile (tTst (eOp2 dGt (eCall fLen (eCons (eVar 2) eNil)) (eC (.int 0)))) (sDrop (eM isList mAppend (eVar 3) (eCons (eM isList mPopAt (eVar 2) (eCons (eFn sp__law_draw (eCons (eVar 0) (eCons (eCall fLen (eCons (eVar 2) eNil)) eNil))) eNil)) eNil))))
    (sRet (eVar 3))))
-- use: popR
def sp__law_mixed : SpD := fun ds h Q _ => ∃ (n : Nat) (x : D) (xs : List D), ds = [.ref n, x] ∧ IsHand h n ∧ itemsOf x h = some xs ∧ x ≠ .ref n ∧ xs.length ≤ 1000 ∧ ∀ ys h0, ys.Perm xs → Drawn h h0 n → Q (.ref h.length) (h0 ++ [.lst ys])
theorem pl__law_mixed (ds : List D) (h : DH) (Q : VD) (E : ED) (w : sp__law_mixed ds h Q E) : popWR (bodyD 4 t__law_mixed) ds h Q E := by
  obtain ⟨n, x, xs, rfl, hI, hx, hne, hz, q⟩ := w
  intro hnr wf
  have hxs : nrDs h.length xs = true := items_nr wf (by
    simp only [nrDs, Bool.and_eq_true] at hnr
    exact hnr.2.1) hx
  have hnl := hI.lt
  unfold popFR t__law_mixed bodyD
  refine sSeq_i fun N hN => ?_
  simp_arith only [hx]
  refine hN _ _ ?_
  refine sSeq_i fun N2 hN2 => ?_
  refine ⟨fun j sd hh => ∃ h0 l f, sd = [some (.ref n), some x, some (.ref h.length), some (.ref (h.length + 1))] ∧ hh = h0 ++ [.lst l, .lst f] ∧ Drawn h h0 n ∧ l.length = j ∧ (f ++ l).Perm xs,
    ⟨xs.length, h, xs, [], by simp, by simp, Drawn.refl hI, rfl, by simp⟩, ?_⟩
  rintro j sd hh ⟨h0, l, f, rfl, rfl, dr, hj, hp⟩
  have L := dr.1
  have hlen : l.length ≤ 1000 := by
    have := hp.length_eq
    rw [List.length_append] at this
    omega
  have hflen : f.length ≤ 1000 := by
    have := hp.length_eq
    rw [List.length_append] at this
    omega
  simp_arith only [ga0 L, ga 1 L]
  split
  · rename_i hpos
    have hpos : 0 < l.length := by simpa using hpos
    simp_arith only [isList_lst (ga0 L : (h0 ++ [O.lst l, O.lst f])[h.length]? = _), isList_lst (ga 1 L : (h0 ++ [O.lst l, O.lst f])[h.length + 1]? = _), ga0 L]
    refine ⟨n, _, rfl, dr.2.2.app, by omega, by omega, fun k h' k0 k1 dr2 => ?_⟩
    obtain ⟨h1, rfl, dr3⟩ := Drawn.app dr.2.2 dr2
    have L1 : h1.length = h.length := dr3.1.trans L
    have hk : k.toNat < l.length := by omega
    simp only [mPopAt, mAppend, ga0 L1]
    simp_arith only [ixN_nat k0 k1, List.getElem?_eq_getElem hk, sa0 L1, ga 1 L1, sa 1 L1]
    have hp2 : ((f ++ [l[k.toNat]]) ++ l.eraseIdx k.toNat).Perm xs := by
      refine List.Perm.trans ?_ hp
      rw [List.append_assoc]
      exact List.Perm.append_left f (erase_perm hk)
    refine ⟨size_le (by omega), size_lt (by omega), (l.eraseIdx k.toNat).length, ?_, h1, l.eraseIdx k.toNat, f ++ [l[k.toNat]], rfl, dr.trans dr3, rfl, hp2⟩
    rw [List.length_eraseIdx, if_pos hk]
    omega
  · rename_i hpos
    have hl0 : l = [] := by
      have : ¬ 0 < l.length := by simpa using hpos
      exact List.eq_nil_of_length_eq_zero (by omega)
    subst hl0
    rw [List.append_nil] at hp
    refine hN2 _ _ ?_
    simp_arith only [dEq_int]
    unfold popRQ
    simp_arith only [ga 1 L]
    obtain ⟨t1, t2⟩ := Drawn.take (t := [O.lst [], O.lst f]) wf dr
    refine ⟨Nat.le_succ _, (fun q => by cases q), ?_, t1, ?_⟩
    · refine nrDs_iff.mpr fun d hd => nrDs_iff.mp hxs d (hp.mem_iff.mp hd)
    · rw [t2]
      exact q f h0 hp dr
/-! _law_any -/
def t__law_any : TSD :=
    (sRet (eOp2 dIx (eVar 1) (eFn sp__law_draw (eCons (eVar 0) (eCons (eCall fLen (eCons (eVar 1) eNil)) eNil)))))
def sp__law_any : SpD := fun ds h Q _ => ∃ (n : Nat) (x : D) (xs : List D), ds = [.ref n, x] ∧ IsHand h n ∧ itemsOf x h = some xs ∧ x ≠ .ref n ∧ 0 < xs.length ∧ xs.length < 1073741824 ∧ ∀ y ∈ xs, ∀ h', Drawn h h' n → Q y h'
theorem pl__law_any (ds : List D) (h : DH) (Q : VD) (E : ED) (w : sp__law_any ds h Q E) : bodyD 2 t__law_any ds h Q E := by
  obtain ⟨n, x, xs, rfl, hI, hx, hne, h0, h1, q⟩ := w
  unfold t__law_any
  simp_arith only [hx]
  refine ⟨n, _, rfl, hI, by omega, by omega, fun k h' k0 k1 dr => ?_⟩
  have hk : k.toNat < xs.length := by omega
  have ha : atI xs k = some xs[k.toNat] := atI_nat k0 (List.getElem?_eq_getElem hk)
  simp only [items_drawn dr hne, hx, ha]
  exact q _ (List.getElem_mem hk) h' dr
/-! _law_case -/
def t__law_case : TSD :=
    (sSeq (sPar [6, 7, 8] (eCons (eFn sp__law_draw (eCons (eVar 0) (eCons (eOp2 dAdd (eVar 1) (eC (.int 1))) eNil))) (eCons (eFn sp__law_draw (eCons (eVar 0) (eCons (eOp2 dAdd (eVar 1) (eC (.int 1))) eNil))) (eCons (eFn sp__law_draw (eCons (eVar 0) (eCons (eC (.int 4)) eNil))) eNil))))
    (sSeq (sPar [9, 10] (eCons (eFn sp__law_mixed (eCons (eVar 0) (eCons (eLstRg (rg1 (eVar 7))) eNil))) (eCons (eFn sp__law_mixed (eCons (eVar 0) (eCons (eLstRg (rg1 (eVar 6))) eNil))) eNil)))
    (sSeq (sSet 2 (eCall fMin2 (eCons (eVar 6) (eCons (eVar 7) eNil))))
    (sSeq (sSet 2 (eFn sp__law_any (eCons (eVar 0) (eCons (eLst (eCons (eVar 2) (eCons (eVar 2) (eCons (eVar 2) (eCons (eCall fMax2 (eCons (eC (.int 0)) (eCons (eOp2 dSub (eVar 2) (eC (.int 1))) eNil))) (eCons (eFn sp__law_draw (eCons (eVar 0) (eCons (eOp2 dAdd (eVar 2) (eC (.int 1))) eNil))) eNil)))))) eNil))))
    (sSeq (sPar [11, 12] (eCons (eOp2 dMulR (eLst (eCons (eC .non) eNil)) (eVar 7)) (eCons (eComp (iCall wRange1 (eCons (eVar 7) eNil)) (gN 5) tYesD (eRef eNil) [5]) eNil)))
    (sSeq (sFor (iCall wRange1 (eCons (eVar 2) eNil)) (gN 3) (sSeq (sSub (eVar 11) (eOp2 dIx (eVar 9) (eVar 3)) (eOp2 dIx (eVar 10) (eVar 3)))
    (sSeq (sDrop (eM isList mAppend (eOp2 dIx (eVar 12) (eOp2 dIx (eVar 9) (eVar 3))) (eCons (eOp2 dIx (eVar 10) (eVar 3)) eNil)))
    (sIf (tTst (eOp2 dEq (eVar 8) (eC (.int 1)))) (sDrop (eM isList mAppend (eOp2 dIx (eVar 12) (eOp2 dIx (eVar 9) (eVar 3))) (eCons (eOp2 dIx (eVar 10) (eOp2 dMod (eCall fInt (eCons (eOp2 dAdd (eVar 3) (eC (.int 1))) eNil)) (eVar 2))) eNil))) sNext))))
    (sSeq (sSet 4 (eFn sp__law_any (eCons (eVar 0) (eCons (eLst (eCons (eC (.int 2)) (eCons (eC (.int 3)) (eCons (eC (.int 6)) (eCons (eC (.int 40)) eNil))))) eNil))))
    (sSeq (sFor (iCall wRange1 (eCons (eVar 7) eNil)) (gN 5) (sSeq (sSet 13 (eIf (tTst (eOp2 dEq (eVar 8) (eC (.int 2)))) (eFn sp__law_draw (eCons (eVar 0) (eCons (eOp2 dAdd (eVar 6) (eC (.int 1))) eNil))) (eC (.int 0))))
    (sFor (iCall wRange1 (eCons (eVar 6) eNil)) (gN 14) (sIf (tOrD (tTst (eOp2 dLt (eVar 14) (eVar 13))) (tTst (eOp2 dEq (eFn sp__law_draw (eCons (eVar 0) (eCons (eVar 4) eNil))) (eC (.int 0))))) (sDrop (eM isList mAppend (eOp2 dIx (eVar 12) (eVar 5)) (eCons (eVar 14) eNil))) sNext))))
    (sRet (eLst (eCons (eVar 6) (eCons (eCall fTuple (eCons (eComp (iSeq (eVar 12)) (gN 15) tYesD (eCall fTuple (eCons (eSortedSet (eVar 15)) eNil)) [15]) eNil)) (eCons (eCall fTuple (eCons (eVar 11) eNil)) eNil)))))))))))))
-- use: pop
def sp__law_case : SpD := fun ds h Q _ => ∃ (n : Nat) (top : Int), ds = [.ref n, .int top] ∧ IsHand h n ∧ 0 ≤ top ∧ top ≤ 12 ∧ ∀ posts may f h', CaseOk top posts may f → Drawn h h' n → Q (.lst [.int posts, mayD may, filD f]) h'
theorem pl__law_case (ds : List D) (h : DH) (Q : VD) (E : ED) (w : sp__law_case ds h Q E) : popW (bodyD 16 t__law_case) ds h Q E := by
  obtain ⟨n, top, rfl, hI, ht0, ht1, q⟩ := w
  intro _ wf
  unfold popF t__law_case bodyD
  refine sSeq_i fun N hN => ?_
  simp_arith only [dEq_int]
  refine ⟨n, _, rfl, hI, by omega, by omega, fun posts h1 p0 p1 d1 => ⟨n, _, rfl, d1.2.2, by omega, by omega, fun persons' h2 r0 r1 d2 => ⟨n, _, rfl, d2.2.2, by omega, by omega, fun shape h3 _ _ d3 => hN _ _ ?_⟩⟩⟩
  obtain ⟨persons, rfl⟩ : ∃ persons : Nat, persons' = persons := ⟨persons'.toNat, by omega⟩
  have dr3 := (d1.trans d2).trans d3
  clear d1 d2 d3
  refine sSeq_i fun N2 hN2 => ?_
  simp_arith only [dEq_int]
  refine ⟨⟨by omega, by omega, by omega, by omega, by omega⟩, n, _, _, rfl, dr3.2.2, rfl, (fun e => by cases e), by rw [rngL_eq, List.length_map, List.length_range]; omega, fun ys h4 py d4 => ⟨⟨by omega, by omega, by omega, by omega, by omega⟩, n, _, _, rfl, d4.2.2.app, rfl, (fun e => by cases e), by rw [rngL_eq, List.length_map, List.length_range]; omega, fun zs h5 pz d5 => hN2 _ _ ?_⟩⟩
  obtain ⟨h6, rfl, d6⟩ := Drawn.app d4.2.2 d5
  have dr6 := (dr3.trans d4).trans d6
  have L := dr6.1
  have L3 := dr3.1
  rw [Int.sub_zero, Int.toNat_natCast] at py
  rw [Int.sub_zero] at pz
  obtain ⟨order, rfl, on, ol, oi⟩ := ord_ints py
  obtain ⟨spots, rfl, sn, sl, si⟩ := ord_ints pz
  have eord : ∀ t : DH, h6 ++ [.lst (order.map .int)] ++ t = h6 ++ (.lst (order.map .int) :: t) := fun t => by rw [List.append_assoc]; rfl
  rw [show (h4 ++ [O.lst (List.map D.int order)]).length = h.length + 1 by rw [List.length_append, d4.1, L3]; rfl, L3, eord]
  simp_arith only [dEq_int]
  refine sSeq_i fun N3 hN3 => ?_
  simp_arith only [dEq_int]
  refine hN3 _ _ ?_
  obtain ⟨m0, em0, m00, m01, m02⟩ : ∃ m0 : Int, (if (persons : Int) < posts then (persons : Int) else posts) = m0 ∧ 0 ≤ m0 ∧ m0 ≤ posts ∧ m0 ≤ persons := ⟨_, rfl, by split <;> omega, by split <;> omega, by split <;> omega⟩
  simp only [em0]
  refine sSeq_i fun N4 hN4 => ?_
  simp_arith only [dEq_int]
  refine ⟨n, _, rfl, d6.2.2.app, by omega, by omega, fun m1 h7 _ m1l d7 => ?_⟩
  obtain ⟨h8, rfl, d8⟩ := Drawn.app d6.2.2 d7
  refine ⟨n, _, _, rfl, d8.2.2.app, rfl, (fun e => by cases e), by show 0 < 5; decide, by show 5 < 1073741824; decide, fun y hy h9 d9 => hN4 _ _ ?_⟩
  obtain ⟨ha, rfl, da⟩ := Drawn.app d8.2.2 d9
  obtain ⟨many, rfl, hm0, hm1⟩ : ∃ many : Nat, y = .int (many : Nat) ∧ (many : Int) ≤ posts ∧ many ≤ persons := by
    simp only [List.mem_cons, List.not_mem_nil, or_false] at hy
    rcases hy with rfl | rfl | rfl | rfl | rfl
    · exact ⟨m0.toNat, by congr 1; omega, by omega, by omega⟩
    · exact ⟨m0.toNat, by congr 1; omega, by omega, by omega⟩
    · exact ⟨m0.toNat, by congr 1; omega, by omega, by omega⟩
    · exact ⟨(if m0 - 1 > 0 then m0 - 1 else 0).toNat, by congr 1; split <;> omega, by split <;> omega, by split <;> omega⟩
    · exact ⟨m1.toNat, by congr 1; omega, by omega, by omega⟩
  have drA := (dr6.trans d8).trans da
  have LA := drA.1
  clear d7 d9 d8 da d6
  refine sSeq_i fun N5 hN5 => ?_
  simp_arith only [dEq_int]
  rw [Int.toNat_natCast, Nat.one_mul]
  refine ⟨by omega, by omega, size_le (by omega), ⟨by omega, by omega⟩, ?_⟩
  have ehp : ha ++ [O.lst (order.map D.int), O.lst (spots.map D.int)] ++ [O.lst (List.replicate persons [D.non]).flatten] = ha ++ cHeap order spots (List.replicate persons none) [] := by
    rw [rep_flat, List.append_assoc]; rfl
  rw [ehp, show (ha ++ [O.lst (order.map D.int), O.lst (spots.map D.int)]).length = h.length + 2 by rw [List.length_append, LA]; rfl]
  refine compL_ind (fun items acc hh => ∃ j, j + items.length = persons ∧ acc = (List.range j).map (fun i => D.ref (h.length + (i + 3))) ∧ hh = ha ++ cHeap order spots (List.replicate persons none) (List.replicate j [])) ?_ ?_ _ _ _
    ⟨0, by rw [rngL_eq, List.length_map, List.length_range, Nat.zero_add], rfl, rfl⟩
  · rintro acc hh ⟨j, hj, rfl, rfl⟩
    refine ⟨trivial, hN5 _ _ ?_⟩
    have ej : j = persons := by simpa using hj
    subst ej
    have hmay : ∀ p : Nat, p < j → atI ((List.range j).map (fun i => D.ref (h.length + (i + 3)))) (p : Int) = some (.ref (h.length + (p + 3))) := fun p hp =>
      atI_nat (by omega) (by rw [Int.toNat_natCast, List.getElem?_map, List.getElem?_range hp]; rfl)
    refine sSeq_i fun N6 hN6 => ?_
    refine sFor_i fun LL hLL => ?_
    simp_arith only [dEq_int]
    refine ⟨⟨by omega, by omega⟩, hLL _ _ _ ?_⟩
    rw [Int.toNat_natCast, rngL_rng']
    refine forL_ind (fun items sd hh => ∃ k r x fill inner, k + r = many ∧ items = (List.range' k r).map (fun i => D.int ((i : Nat) : Int)) ∧ sd = [some (.ref n), some (.int top), some (.int (many : Nat)), x, none, none, some (.int posts), some (.int (j : Nat)), some (.int shape), some (.ref h.length), some (.ref (h.length + 1)), some (.ref (h.length + 2)), some (.lst ((List.range j).map (fun i => D.ref (h.length + (i + 3))))), none, none, none] ∧
      hh = ha ++ cHeap order spots fill inner ∧ CInv posts j order spots k (2 * k) fill inner) ?_ ?_ _ _ _ ⟨0, many, none, _, _, Nat.zero_add _, rfl, rfl, rfl, CInv.start⟩
    · rintro sd hh ⟨k, r, x, fill, inner, hkr, hr, rfl, rfl, ci⟩
      refine ⟨trivial, hN6 _ _ ?_⟩
      have hr0 := nil_range hr
      subst hr0
      obtain rfl : k = many := hkr
      have hmany2 : 2 * k ≤ 24 := by omega
      have ci0 := ci.mono (Nat.le_refl k) hmany2
      clear ci hr
      refine sSeq_i fun N7 hN7 => ?_
      simp_arith only [dEq_int]
      refine ⟨n, _, _, rfl, drA.2.2.app, rfl, (fun e => by cases e), by show 0 < 4; decide, by show 4 < 1073741824; decide, fun y hy hb db => hN7 _ _ ?_⟩
      obtain ⟨hc, rfl, dc⟩ := Drawn.app drA.2.2 db
      obtain ⟨share, rfl, sh0, sh1⟩ : ∃ share : Int, y = .int share ∧ 2 ≤ share ∧ share ≤ 40 := by
        simp only [List.mem_cons, List.not_mem_nil, or_false] at hy
        rcases hy with rfl | rfl | rfl | rfl
        · exact ⟨2, rfl, by decide, by decide⟩
        · exact ⟨3, rfl, by decide, by decide⟩
        · exact ⟨6, rfl, by decide, by decide⟩
        · exact ⟨40, rfl, by decide, by decide⟩
      have drC := drA.trans dc
      clear db dc hy
      refine sSeq_i fun N8 hN8 => ?_
      refine sFor_i fun LL2 hLL2 => ?_
      simp_arith only [dEq_int]
      refine ⟨⟨by omega, by omega⟩, hLL2 _ _ _ ?_⟩
      rw [Int.toNat_natCast, rngL_rng']
      refine forL_ind (fun items sd hh => ∃ p r x5 x13 x14 hb inner, p + r = j ∧ items = (List.range' p r).map (fun i => D.int ((i : Nat) : Int)) ∧ sd = [some (.ref n), some (.int top), some (.int (k : Nat)), x, some (.int share), x5, some (.int posts), some (.int (j : Nat)), some (.int shape), some (.ref h.length), some (.ref (h.length + 1)), some (.ref (h.length + 2)), some (.lst ((List.range j).map (fun i => D.ref (h.length + (i + 3))))), x13, x14, none] ∧
        hh = hb ++ cHeap order spots fill inner ∧ Drawn h hb n ∧ CInv posts j order spots k (24 + 12 * p) fill inner) ?_ ?_ _ _ _ ⟨0, j, none, none, none, hc, inner, Nat.zero_add _, rfl, rfl, rfl, drC, ci0⟩
      · rintro sd hh ⟨p, r, x5, x13, x14, hb, inner, hpr, hr, rfl, rfl, dr, ci⟩
        refine ⟨trivial, hN8 _ _ ?_⟩
        have hr0 := nil_range hr
        subst hr0
        obtain rfl : p = j := hpr
        have LB := dr.1
        obtain ⟨g1, g2, g3⟩ := cGet (n := 0) (order := order) (spots := spots) (fill := fill) (inner := inner) LB
        simp_arith only [dEq_int]
        refine compL_map (α := Nat) _ (fun i => some (.tup ((sortI (dedI (inner.getD i []))).map .int))) trivial ?_ ?_
        · rw [List.nil_append, fm_some]
          simp_arith only [fTuple, g3]
          have em : (D.tup ((List.range p).map fun i => D.tup ((sortI (dedI (inner.getD i []))).map .int))) = mayD (inner.map fun s => sortI (dedI s)) := by
            unfold mayD
            congr 1
            rw [List.map_map]
            apply List.ext_getElem?
            intro i
            rw [List.getElem?_map, List.getElem?_map]
            by_cases hi : i < p
            · rw [List.getElem?_range hi, List.getElem?_eq_getElem (by rw [ci.il]; exact hi)]
              simp [List.getD_eq_getElem?_getD, List.getElem?_eq_getElem (show i < inner.length by rw [ci.il]; exact hi)]
            · rw [List.getElem?_eq_none (by rw [List.length_range]; omega), List.getElem?_eq_none (by rw [ci.il]; omega)]; rfl
          rw [em]
          obtain ⟨t1, t2⟩ := Drawn.take (t := cHeap order spots fill inner) wf dr
          have nrm : ∀ m : List (List Int), nrD h.length (mayD m) = true := fun m => by
            unfold mayD
            simp only [nrD]
            refine nrDs_iff.mpr fun d hd => ?_
            obtain ⟨s, _, rfl⟩ := List.mem_map.mp hd
            exact nrDs_ints s
          refine ⟨?_, t1, by rw [List.length_append]; omega, ?_⟩
          · simp only [nrD, nrDs, Bool.and_true, Bool.true_and, Bool.and_eq_true]
            exact ⟨nrm _, nrDs_oI fill⟩
          · rw [t2]
            exact q posts _ fill hb (ci.ok on sn p0 (by omega) (by omega)) dr
        · intro i hi N acc hN
          have hi := List.mem_range.mp hi
          have hs : inner[i]? = some (inner.getD i []) := by
            rw [List.getD_eq_getElem?_getD, List.getElem?_eq_getElem (show i < inner.length by rw [ci.il]; exact hi)]; rfl
          have gi := cIn (order := order) (spots := spots) (fill := fill) LB hs
          have hii : intsIn (.ref (h.length + (i + 3))) (hb ++ cHeap order spots fill inner) = some (inner.getD i []) := by
            unfold intsIn
            rw [it_ref, gi]
            exact intsOf_map _
          simp_arith only [hii, fTuple]
          have hl := ci.ln i _ hs
          have hd : ((dedI (inner.getD i [])).length : Int) ≤ posts - 0 := by
            rw [← (sortI_perm (dedI (inner.getD i []))).length_eq]
            exact inc_len (sortI_lt (nodup_dedI _)) (fun v hv => ci.rg i _ hs v (mem_dedI.mp ((sortI_perm _).mem_iff.mp hv))) p0
          exact ⟨by omega, by omega, hN⟩
      · rintro y l sd hh N ⟨p, r, x5, x13, x14, hb, inner, hpr, hr, rfl, rfl, dr, ci⟩ hN
        obtain ⟨r, rfl, rfl, rfl⟩ := cons_range hr
        refine ⟨trivial, ?_⟩
        simp_arith only [dEq_int]
        refine sSeq_inv (fun sd hh => ∃ (below : Int) (hb : DH), sd = [some (.ref n), some (.int top), some (.int (k : Nat)), x, some (.int share), some (.int (p : Nat)), some (.int posts), some (.int (j : Nat)), some (.int shape), some (.ref h.length), some (.ref (h.length + 1)), some (.ref (h.length + 2)), some (.lst ((List.range j).map (fun i => D.ref (h.length + (i + 3))))), some (.int below), x14, none] ∧
          hh = hb ++ cHeap order spots fill inner ∧ Drawn h hb n) (fun N2 hN2 => ?_) ?_
        · simp_arith only [dEq_int]
          split
          · refine ⟨n, _, rfl, dr.2.2.app, by omega, by omega, fun b h' b0 b1 d' => hN2 _ _ ?_⟩
            obtain ⟨hd, rfl, dd⟩ := Drawn.app dr.2.2 d'
            exact ⟨b, hd, rfl, rfl, dr.trans dd⟩
          · exact hN2 _ _ ⟨0, hb, rfl, rfl, dr⟩
        · rintro sd hh ⟨below, hb, rfl, rfl, dr⟩
          refine sFor_i fun LL3 hLL3 => ?_
          simp_arith only [dEq_int]
          refine ⟨⟨by omega, by omega⟩, hLL3 _ _ _ ?_⟩
          rw [rngL_rng']
          refine forL_ind (fun items sd hh => ∃ u r2 x14 hb inner, u + r2 = posts.toNat ∧ items = (List.range' u r2).map (fun i => D.int ((i : Nat) : Int)) ∧ sd = [some (.ref n), some (.int top), some (.int (k : Nat)), x, some (.int share), some (.int (p : Nat)), some (.int posts), some (.int (j : Nat)), some (.int shape), some (.ref h.length), some (.ref (h.length + 1)), some (.ref (h.length + 2)), some (.lst ((List.range j).map (fun i => D.ref (h.length + (i + 3))))), some (.int below), x14, none] ∧
            hh = hb ++ cHeap order spots fill inner ∧ Drawn h hb n ∧ CInv posts j order spots k (24 + 12 * p + u) fill inner) ?_ ?_ _ _ _ ⟨0, posts.toNat, _, hb, inner, Nat.zero_add _, rfl, rfl, rfl, dr, ci⟩
          · rintro sd hh ⟨u, r2, x14, hb, inner, hur, hr, rfl, rfl, dr, ci⟩
            exact ⟨trivial, hN _ _ ⟨p + 1, r, _, _, _, hb, inner, by omega, rfl, rfl, rfl, dr, ci.mono (Nat.le_refl _) (by omega)⟩⟩
          · rintro y l sd hh N3 ⟨u, r2, x14, hb, inner, hur, hr, rfl, rfl, dr, ci⟩ hN3
            obtain ⟨r2, rfl, rfl, rfl⟩ := cons_range hr
            refine ⟨trivial, ?_⟩
            simp_arith only [dEq_int]
            refine sIf_i fun A B hA hB => ?_
            have hps : p < inner.length := by rw [ci.il]; omega
            have hs : inner[p]? = some inner[p] := List.getElem?_eq_getElem hps
            have hsl := ci.ln p _ hs
            have hAA : ∀ hb', Drawn h hb' n → A (hb' ++ cHeap order spots fill inner) := fun hb' dr' => by
              refine hA _ ?_
              have LB := dr'.1
              have gi := cIn (order := order) (spots := spots) (fill := fill) LB hs
              simp_arith only [hmay p (by omega), isList_lst gi, mAppend, gi, List.length_map, cSetI LB]
              exact ⟨size_lt (by omega), hN3 _ _ ⟨u + 1, r2, _, hb', _, by omega, rfl, rfl, rfl, dr', (ci.add hs (by omega) (by omega)).mono (Nat.le_refl _) (by omega)⟩⟩
            have hBB : ∀ hb', Drawn h hb' n → B (hb' ++ cHeap order spots fill inner) := fun hb' dr' => by
              refine hB _ ?_
              simp_arith only [dEq_int]
              exact hN3 _ _ ⟨u + 1, r2, _, hb', _, by omega, rfl, rfl, rfl, dr', ci.mono (Nat.le_refl _) (by omega)⟩
            simp_arith only [dEq_int]
            split
            · exact hAA hb dr
            · refine ⟨n, _, rfl, dr.2.2.app, by omega, by omega, fun z h' z0 z1 d' => ?_⟩
              obtain ⟨hd, rfl, dd⟩ := Drawn.app dr.2.2 d'
              simp_arith only [dEq_int]
              exact brB_i (fun _ => hAA hd (dr.trans dd)) fun _ => hBB hd (dr.trans dd)
    · rintro y l sd hh N ⟨k, r, x, fill, inner, hkr, hr, rfl, rfl, ci⟩ hN
      obtain ⟨r, rfl, rfl, rfl⟩ := cons_range hr
      refine ⟨trivial, ?_⟩
      simp_arith only [dEq_int]
      obtain ⟨p, ho, hp⟩ : ∃ p : Nat, order[k]? = some (p : Int) ∧ p < j := by
        have hk : k < order.length := by omega
        have := oi _ (List.getElem_mem hk)
        exact ⟨order[k].toNat, by rw [List.getElem?_eq_getElem hk]; congr 1; omega, by omega⟩
      obtain ⟨v, hv, v0, v1⟩ : ∃ v : Int, spots[k]? = some v ∧ 0 ≤ v ∧ v < posts := by
        have hk : k < spots.length := by omega
        have := si _ (List.getElem_mem hk)
        exact ⟨_, List.getElem?_eq_getElem hk, by omega, by omega⟩
      obtain ⟨s, hs⟩ : ∃ s, inner[p]? = some s := ⟨_, List.getElem?_eq_getElem (by rw [ci.il]; exact hp)⟩
      have ao : atI (order.map D.int) (k : Int) = some (.int (p : Nat)) := atI_map (by omega) (by rw [Int.toNat_natCast]; exact ho)
      have av : atI (spots.map D.int) (k : Int) = some (.int v) := atI_map (by omega) (by rw [Int.toNat_natCast]; exact hv)
      have hfl : p < fill.length := by rw [ci.fl]; exact hp
      have hsl : s.length ≤ 2 * k := ci.ln p s hs
      refine sSeq_i fun N7 hN7 => ?_
      obtain ⟨g1, g2, g3⟩ := cGet (n := 0) (order := order) (spots := spots) (fill := fill) (inner := inner) LA
      simp_arith only [g1, g2, g3, ao, av]
      rw [put_nat (by omega) (by rw [List.length_map, Int.toNat_natCast]; exact hfl), Int.toNat_natCast, cSetF LA]
      refine hN7 _ _ ?_
      refine sSeq_i fun N8 hN8 => ?_
      obtain ⟨g1, g2, g3⟩ := cGet (n := 0) (order := order) (spots := spots) (fill := fill.set p (some v)) (inner := inner) LA
      have gi := cIn (order := order) (spots := spots) (fill := fill.set p (some v)) LA hs
      simp_arith only [g1, g2, g3, ao, av, hmay p hp, isList_lst gi, mAppend, gi, List.length_map, cSetI LA]
      refine ⟨size_lt (by omega), hN8 _ _ ?_⟩
      have ci2 := ci.fillAdd hs ho hv v0 v1
      refine sIf_i fun A B hA hB => ?_
      simp_arith only [dEq_int]
      refine brB_i (fun _ => hA _ ?_) fun _ => hB _ (hN _ _ ⟨k + 1, r, _, _, _, by omega, rfl, rfl, rfl, ci2.mono (Nat.le_refl _) (by omega)⟩)
      have hs2 : (inner.set p (s ++ [v]))[p]? = some (s ++ [v]) := List.getElem?_set_self (List.getElem?_eq_some_iff.mp hs).1
      obtain ⟨g1, g2, g3⟩ := cGet (n := 0) (order := order) (spots := spots) (fill := fill.set p (some v)) (inner := inner.set p (s ++ [v])) LA
      have gi := cIn (order := order) (spots := spots) (fill := fill.set p (some v)) LA hs2
      have f0 := fmod_nn ((k : Int) + 1) (b := (many : Int)) (by omega)
      have f1 := fmod_lt ((k : Int) + 1) (b := (many : Int)) (by omega)
      obtain ⟨u, au, u0, u1⟩ : ∃ u : Int, atI (spots.map D.int) (Int.fmod ((k : Int) + 1) many) = some (.int u) ∧ 0 ≤ u ∧ u < posts := by
        have hk : (Int.fmod ((k : Int) + 1) many).toNat < spots.length := by omega
        have := si _ (List.getElem_mem hk)
        exact ⟨_, atI_map f0 (List.getElem?_eq_getElem hk), by omega, by omega⟩
      simp_arith only [g1, g2, g3, ao, au, hmay p hp, isList_lst gi, mAppend, gi, List.length_map, cSetI LA]
      refine ⟨by omega, size_lt (by rw [List.length_append, List.length_singleton]; omega), hN _ _ ⟨k + 1, r, _, _, _, by omega, rfl, rfl, rfl, (ci2.add hs2 u0 u1).mono (Nat.le_refl _) (by omega)⟩⟩
  · rintro x r acc hh N ⟨j, hj, rfl, rfl⟩ hN
    refine ⟨trivial, ?_⟩
    simp_arith only [dEq_int]
    refine hN _ _ ⟨j + 1, by rw [List.length_cons] at hj; omega, ?_, ?_⟩
    · rw [List.range_succ, List.map_append, List.map_singleton, List.length_append, LA]
      congr 3
      unfold cHeap
      simp
    · rw [List.append_assoc]
      congr 1
      unfold cHeap
      rw [List.replicate_succ', List.map_append]; rfl
/-! _law_step -/
def t__law_step : TSD :=
    (sSeq (sSet 4 (eComp (iCall wEnum (eCons (eVar 2) eNil)) (gT 2 (gTcons (gN 10) (gTcons (gN 11) gTnil))) (tTst (eOp2 (dIs true) (eVar 11) (eC .non))) (eVar 10) [10, 11]))
    (sSeq (sFor (iCall wRange1 (eCons (eIf (tTst (eOp2 dGt (eCall fLen (eCons (eVar 4) eNil)) (eC (.int 1)))) (eC (.int 6)) (eC (.int 0))) eNil)) (gN 5) (sSeq (sAsg (gT 2 (gTcons (gN 7) (gTcons (gN 8) gTnil))) (eTup (eCons (eRef eNil) (eCons (eFn sp__law_any (eCons (eVar 0) (eCons (eVar 4) eNil))) eNil))))
    (sSeq (sFor (iCall wRange1 (eCons (eOp2 dAdd (eCall fLen (eCons (eVar 4) eNil)) (eC (.int 1))) eNil)) (gN 6) (sIf (tAndD (tTst (eOp2 (dIs true) (eVar 8) (eC .non))) (tTst (eOp2 (dIn true) (eVar 8) (eVar 7)))) (sSeq (sDrop (eM isList mAppend (eVar 7) (eCons (eVar 8) eNil)))
    (sSeq (sSet 12 (eComp (iSeq (eVar 4)) (gN 13) (tAndD (tTst (eOp2 dNe (eVar 13) (eOp2 dIx (eVar 7) (eC (.int (-1)))))) (tTst (eOp2 (dIn false) (eOp2 dIx (eVar 2) (eVar 13)) (eOp2 dIx (eVar 1) (eOp2 dIx (eVar 7) (eC (.int (-1)))))))) (eVar 13) [13]))
    (sSet 8 (eIf (tTst (eOp2 dGt (eCall fLen (eCons (eVar 12) eNil)) (eC (.int 0)))) (eFn sp__law_any (eCons (eVar 0) (eCons (eVar 12) eNil))) (eC .non))))) sNext))
    (sIf (tTst (eOp2 (dIs true) (eVar 8) (eC .non))) (sSeq (sSet 7 (eSl (eVar 7) (oSome (eM isList mIndex (eVar 7) (eCons (eVar 8) eNil))) oNone))
    (sSeq (sSet 9 (eM isList mIndex (eVar 7) (eCons (eCall (fIntsI minL) (eCons (eVar 7) eNil)) eNil)))
    (sIf (tTst (eChain dLt dLe (eC (.int 1)) (eCall fLen (eCons (eVar 7) eNil)) (eVar 3))) (sRet (eCall fTuple (eCons (eOp2 dAdd (eSl (eVar 7) (oSome (eVar 9)) oNone) (eSl (eVar 7) oNone (oSome (eVar 9)))) eNil))) sNext))) sNext))))
    (sRet (eC .non))))
-- use: pop
-- needs: step
def optT : Option (List Int) → D
  | none => .non
  | some ns => tupI ns
def sp__law_step : SpD := fun ds h Q _ => ∃ n may f size, ds = [.ref n, mayD may, filD f, .int size] ∧ IsHand h n ∧ f.length = may.length ∧ may.length ≤ 12 ∧ size ≤ 12 ∧
  ∀ (o : Option (List Int)) h', Drawn h h' n → (∀ ns, o = some ns → goesI may f ns = true ∧ (ns.length : Int) ≤ size) → Q (optT o) h'
theorem nrD_opt {n : Nat} (o : Option (List Int)) : nrD n (optT o) = true := by
  cases o with
  | none => rfl
  | some ns => exact nrDs_ints ns
structure SInv (may : List (List Int)) (f : List (Option Int)) (k : Nat) (row : List Int) (here : Option Int) : Prop where
  nd : row.Nodup
  sub : ∀ x ∈ row, x ∈ thI f
  ch : ∀ i a b, row[i]? = some a → row[i + 1]? = some b → Edge may f a b
  hs : ∀ y, here = some y → y ∈ thI f
  ls : ∀ y, here = some y → ∀ a, row[row.length - 1]? = some a → Edge may f a y
  cn : ∀ y, here = some y → y ∉ row → row.length = k
theorem pl__law_step (ds : List D) (h : DH) (Q : VD) (E : ED) (w : sp__law_step ds h Q E) : popW (bodyD 14 t__law_step) ds h Q E := by
  obtain ⟨n, may, f, size, rfl, hI, hlen, hml, hsz, q⟩ := w
  intro _ wf
  have fin : ∀ (o : Option (List Int)) (h0 g : DH), Drawn h h0 n → (∀ ns, o = some ns → goesI may f ns = true ∧ (ns.length : Int) ≤ size) → popQ h.length Q (optT o) (h0 ++ g) := fun o h0 g dr ho => by
    obtain ⟨t1, t2⟩ := Drawn.take (t := g) wf dr
    refine ⟨nrD_opt o, t1, by rw [List.length_append, dr.1]; omega, ?_⟩
    rw [t2]
    exact q o h0 dr ho
  have hT := thI_len f
  unfold popF t__law_step bodyD
  refine sSeq_i fun N hN => ?_
  simp_arith only [dEq_int]
  rw [enumL_zip]
  refine compL_map (α := D × Nat) _ (fun p => if isNon p.1 then none else some (D.int (p.2 : Nat))) trivial ?_ ?_
  · rw [List.nil_append, zipIdx_there, thI_map]
    refine hN _ _ ?_
    refine sSeq_i fun N2 hN2 => ?_
    refine sFor_i fun LL hLL => ?_
    simp_arith only [List.length_map]
    have main : ∀ items : List D, (items ≠ [] → 1 < (thI f).length) → forL (fun _ => True) (gN 5) (sSeq (sAsg (gT 2 (gTcons (gN 7) (gTcons (gN 8) gTnil))) (eTup (eCons (eRef eNil) (eCons (eFn sp__law_any (eCons (eVar 0) (eCons (eVar 4) eNil))) eNil))))
        (sSeq (sFor (iCall wRange1 (eCons (eOp2 dAdd (eCall fLen (eCons (eVar 4) eNil)) (eC (.int 1))) eNil)) (gN 6) (sIf (tAndD (tTst (eOp2 (dIs true) (eVar 8) (eC .non))) (tTst (eOp2 (dIn true) (eVar 8) (eVar 7)))) (sSeq (sDrop (eM isList mAppend (eVar 7) (eCons (eVar 8) eNil)))
        (sSeq (sSet 12 (eComp (iSeq (eVar 4)) (gN 13) (tAndD (tTst (eOp2 dNe (eVar 13) (eOp2 dIx (eVar 7) (eC (.int (-1)))))) (tTst (eOp2 (dIn false) (eOp2 dIx (eVar 2) (eVar 13)) (eOp2 dIx (eVar 1) (eOp2 dIx (eVar 7) (eC (.int (-1)))))))) (eVar 13) [13]))
        (sSet 8 (eIf (tTst (eOp2 dGt (eCall fLen (eCons (eVar 12) eNil)) (eC (.int 0)))) (eFn sp__law_any (eCons (eVar 0) (eCons (eVar 12) eNil))) (eC .non))))) sNext))
        (sIf (tTst (eOp2 (dIs true) (eVar 8) (eC .non))) (sSeq (sSet 7 (eSl (eVar 7) (oSome (eM isList mIndex (eVar 7) (eCons (eVar 8) eNil))) oNone))
        (sSeq (sSet 9 (eM isList mIndex (eVar 7) (eCons (eCall (fIntsI minL) (eCons (eVar 7) eNil)) eNil)))
        (sIf (tTst (eChain dLt dLe (eC (.int 1)) (eCall fLen (eCons (eVar 7) eNil)) (eVar 3))) (sRet (eCall fTuple (eCons (eOp2 dAdd (eSl (eVar 7) (oSome (eVar 9)) oNone) (eSl (eVar 7) oNone (oSome (eVar 9)))) eNil))) sNext))) sNext)))
        { nx := N2, rt := popQ h.length Q, er := fun nm ns fs x h' => popE h.length E nm ns fs h' } items [some (.ref n), some (mayD may), some (filD f), some (.int size), some (.lst ((thI f).map .int)), none, none, none, none, none, none, none, none, none] h := by
      intro items hit
      refine forL_ind (fun items sd hh => ∃ x5 x6 x7 x8 x9 x12 h0 g, (items ≠ [] → 1 < (thI f).length) ∧ sd = [some (.ref n), some (mayD may), some (filD f), some (.int size), some (.lst ((thI f).map .int)), x5, x6, x7, x8, x9, none, none, x12, none] ∧ hh = h0 ++ g ∧ Drawn h h0 n) ?_ ?_ _ _ _ ⟨none, none, none, none, none, none, h, [], hit, rfl, by simp, Drawn.refl hI⟩
      · rintro sd hh ⟨x5, x6, x7, x8, x9, x12, h0, g, _, rfl, rfl, dr⟩
        refine ⟨trivial, hN2 _ _ ?_⟩
        exact fin none h0 g dr (fun ns e => nomatch e)
      · rintro y0 items sd hh N ⟨x5, x6, x7, x8, x9, x12, h0, g, hit, rfl, rfl, dr⟩ hN3
        have h1T := hit (fun e => nomatch e)
        refine ⟨trivial, ?_⟩
        simp_arith only [dEq_int]
        refine sSeq_i fun N4 hN4 => ?_
        simp_arith only [dEq_int]
        rw [List.append_assoc]
        refine ⟨n, _, _, rfl, dr.2.2.app, rfl, (fun e => nomatch e), by rw [List.length_map]; omega, by rw [List.length_map]; omega, fun y hy h' d' => ?_⟩
        obtain ⟨h1, rfl, d1⟩ := Drawn.app dr.2.2 d'
        have dr1 := dr.trans d1
        have L := dr1.1
        obtain ⟨y, hy2, rfl⟩ := List.mem_map.mp hy
        refine hN4 _ _ ?_
        rw [List.length_append, dr.1]
        clear hN4 d' d1 dr
        refine sSeq_i fun N5 hN5 => ?_
        refine sFor_i fun LL hLL => ?_
        simp_arith only [List.length_map]
        refine ⟨⟨by omega, by omega⟩, hLL _ _ _ ?_⟩
        clear hLL
        have e0 : ((thI f).length + 1 : Int).toNat = (thI f).length + 1 := by omega
        rw [e0, rngL_rng']
        refine forL_ind (fun items sd hh => ∃ k r x6 row here x12 h0, k + r = (thI f).length + 1 ∧ items = (List.range' k r).map (fun i => D.int ((i : Nat) : Int)) ∧ SInv may f k row here ∧
          sd = [some (.ref n), some (mayD may), some (filD f), some (.int size), some (.lst ((thI f).map .int)), some y0, x6, some (.ref (h.length + g.length)), some (oI here), x9, none, none, x12, none] ∧ hh = h0 ++ (g ++ [.lst (row.map .int)]) ∧ Drawn h h0 n) ?_ ?_ _ _ _
          ⟨0, _, _, [], some y, _, h1, Nat.zero_add _, rfl, ⟨List.nodup_nil, (fun x hx => nomatch hx), fun i a b h => (by simp at h), fun z e => (by cases e; exact hy2), fun z e a h => (by simp at h), fun z e _ => rfl⟩, rfl, rfl, dr1⟩
        · clear dr1 L
          rintro sd hh ⟨k, r, x6, row, here, x12, h0, hkr, hr0, S, rfl, rfl, dr⟩
          have := nil_range hr0
          subst this
          have L := dr.1
          refine ⟨trivial, hN5 _ _ ?_⟩
          refine sIf_i fun A B hA hB => ?_
          simp_arith only [isNon_oI]
          have nxt : ∀ x7 x9, N [some (.ref n), some (mayD may), some (filD f), some (.int size), some (.lst ((thI f).map .int)), some y0, x6, x7, some (oI here), x9, none, none, x12, none] (h0 ++ (g ++ [.lst (row.map .int)])) := fun x7 x9 =>
            hN3 _ _ ⟨_, _, _, _, _, _, h0, g ++ [.lst (row.map .int)], fun _ => h1T, rfl, rfl, dr⟩
          cases here with
          | none =>
            simp_arith only [Option.isSome_none, Bool.not_false, Bool.not_true]
            exact hB _ (nxt _ _)
          | some y =>
            simp_arith only [Option.isSome_some, Bool.not_false, Bool.not_true]
            refine hA _ ?_
            have hyr : y ∈ row := by
              refine Classical.byContradiction fun hh => ?_
              have := S.cn y rfl hh
              have := nodup_sub_len S.nd S.sub
              omega
            obtain ⟨j, hj1, hj2⟩ := idx_int hyr
            have hjl := (List.getElem?_eq_some_iff.mp hj2).1
            refine sSeq_i fun N6 hN6 => ?_
            simp_arith only [oI, isList_lst (gl2 L), mIndex, gl2 L, hj1, all_flat, flatD]
            refine hN6 _ _ ?_
            rw [cutD_from, ← List.map_drop]
            refine sSeq_i fun N7 hN7 => ?_
            have hne : 0 < (row.drop j).length := by rw [List.length_drop]; omega
            have hmin := (minL_spec hne).1
            obtain ⟨l, hl1, hl2⟩ := idx_int hmin
            have hin : intsIn (.lst ((row.drop j).map .int)) (h0 ++ (g ++ [.lst (row.map .int)])) = some (row.drop j) := by unfold intsIn; rw [it_lst]; exact intsOf_map _
            simp_arith only [isList, hin, mIndex, hl1, all_flat, flatD]
            refine ⟨hne, hN7 _ _ ?_⟩
            refine sIf_i fun A2 B2 hA2 hB2 => ?_
            simp_arith only [List.length_map]
            have dn := nxt (some (.lst ((row.drop j).map .int))) (some (.int (l : Nat)))
            by_cases c1 : (1 : Int) < ((row.drop j).length : Int)
            · simp_arith only [decide_eq_true c1]
              by_cases c2 : ((row.drop j).length : Int) ≤ size
              · simp_arith only [decide_eq_true c2]
                refine hA2 _ ?_
                simp_arith only [dEq_int]
                rw [cutD_from, cutD_upto, ← List.map_drop, ← List.map_take, ← List.map_append]
                have htl : ((row.drop j).drop l).length + ((row.drop j).take l).length = (row.drop j).length := by rw [← turnL_len l (row.drop j)]; unfold turnL; rw [List.length_append]
                refine ⟨size_le (by rw [List.length_map, List.length_map, htl]; omega), ?_⟩
                have hg := step_ok hlen S.nd S.sub S.ch (S.ls y rfl) hj2 hl2 (by omega) (by omega)
                exact fin (some (turnL l (row.drop j))) h0 _ dr fun ns e => by
                  cases e
                  exact ⟨hg, by rw [turnL_len]; exact c2⟩
              · simp_arith only [decide_eq_false c2]
                exact hB2 _ dn
            · simp_arith only [decide_eq_false c1]
              exact hB2 _ dn
        · clear dr1 L
          rintro y1 items2 sd hh N6 ⟨k, r, x6, row, here, x12, h0, hkr, hl, S, rfl, rfl, dr⟩ hN6
          obtain ⟨r, rfl, rfl, rfl⟩ := cons_range hl
          have L := dr.1
          refine ⟨trivial, ?_⟩
          simp_arith only [dEq_int]
          refine sIf_i fun A B hA hB => ?_
          simp_arith only [isNon_oI]
          have skip : (∀ y, here = some y → y ∈ row) → N6 [some (.ref n), some (mayD may), some (filD f), some (.int size), some (.lst ((thI f).map .int)), some y0, some (.int (k : Nat)), some (.ref (h.length + g.length)), some (oI here), x9, none, none, x12, none] (h0 ++ (g ++ [.lst (row.map .int)])) := fun hh =>
            hN6 _ _ ⟨k + 1, r, _, row, here, _, h0, by omega, rfl, ⟨S.nd, S.sub, S.ch, S.hs, S.ls, fun y e hy => absurd (hh y e) hy⟩, rfl, rfl, dr⟩
          cases here with
          | none =>
            simp_arith only [Option.isSome_none, Bool.not_false, Bool.not_true]
            exact hB _ (skip fun y e => nomatch e)
          | some y =>
            simp_arith only [Option.isSome_some, Bool.not_false, Bool.not_true, oI]
            rw [dIn_intsN y row (it_get (gl2 L))]
            by_cases hyr : y ∈ row
            · simp_arith only [decide_eq_true hyr, Bool.not_true]
              exact hB _ (skip fun z e => by cases e; exact hyr)
            · simp_arith only [decide_eq_false hyr, Bool.not_false]
              refine hA _ ?_
              have hy := S.hs y rfl
              obtain ⟨y1, y2, y3⟩ := mem_thI hy
              have rl : row.length ≤ (thI f).length := nodup_sub_len S.nd S.sub
              refine sSeq_i fun N7 hN7 => ?_
              simp_arith only [isList_lst (gl2 L), mAppend, gl2 L, sl2 L, List.length_map]
              refine ⟨size_lt (by omega), hN7 _ _ ?_⟩
              have er : row.map D.int ++ [oI (some y)] = (row ++ [y]).map D.int := by rw [List.map_append]; rfl
              rw [er]
              have lastI : atI ((row ++ [y]).map D.int) (-1) = some (.int y) := by
                unfold atI ixN
                rw [if_neg (by omega), if_pos (by rw [List.length_map, List.length_append, List.length_singleton]; omega)]
                show ((row ++ [y]).map D.int)[_]? = _
                rw [List.getElem?_map, List.length_map, List.length_append, List.length_singleton, show (-1 + ((row.length + 1 : Nat) : Int)).toNat = row.length by omega]
                rw [show (row ++ [y])[row.length]? = some y by simp]; rfl
              have S2 : ∀ here', (∀ z, here' = some z → z ∈ thI f ∧ Edge may f y z) → SInv may f (k + 1) (row ++ [y]) here' := fun here' hh => by
                have ck := S.cn y rfl hyr
                refine ⟨?_, fun x hx => ?_, fun i a b ha hb => ?_, fun z e => (hh z e).1, fun z e a ha => ?_, fun z e hz => by rw [List.length_append, List.length_singleton, ck]⟩
                · rw [List.nodup_append]
                  refine ⟨S.nd, by simp, fun a ha b hb => ?_⟩
                  rw [List.mem_singleton.mp hb]
                  intro e
                  exact hyr (e ▸ ha)
                · rcases List.mem_append.mp hx with hx | hx
                  · exact S.sub x hx
                  · rw [List.mem_singleton.mp hx]; exact hy
                · have hl := (List.getElem?_eq_some_iff.mp hb).1
                  rw [List.length_append, List.length_singleton] at hl
                  rw [List.getElem?_append_left (by omega)] at ha
                  by_cases e : i + 1 < row.length
                  · rw [List.getElem?_append_left e] at hb
                    exact S.ch i a b ha hb
                  · have e : i + 1 = row.length := by omega
                    rw [List.getElem?_append_right (by omega), e, Nat.sub_self] at hb
                    cases hb
                    exact S.ls y rfl a (by rw [← e]; exact ha)
                · rw [List.length_append, List.length_singleton, Nat.add_sub_cancel, List.getElem?_append_right (Nat.le_refl _), Nat.sub_self] at ha
                  cases ha
                  exact (hh z e).2
              refine sSeq_i fun N8 hN8 => ?_
              simp_arith only [dEq_int]
              refine compL_map (α := Int) D.int (fun z => if !(z == y) && decide ((at_ f z).getD 0 ∈ may.getD y.toNat []) then some (.int z) else none) trivial ?_ ?_
              · have ef : (thI f).filterMap (fun z => if !(z == y) && decide ((at_ f z).getD 0 ∈ may.getD y.toNat []) then some (D.int z) else none) = ((thI f).filter fun z => !(z == y) && decide ((at_ f z).getD 0 ∈ may.getD y.toNat [])).map .int := by
                  induction thI f with
                  | nil => rfl
                  | cons a r ih =>
                    rw [List.filterMap_cons, List.filter_cons]
                    cases (!(a == y) && decide ((at_ f a).getD 0 ∈ may.getD y.toNat [])) with
                    | true => simp only [if_true, List.map_cons]; rw [ih]
                    | false => simp only [Bool.false_eq_true, if_false]; rw [ih]
                rw [List.nil_append, ef]
                refine hN8 _ _ ?_
                have hfl := List.length_filter_le (fun z => !(z == y) && decide ((at_ f z).getD 0 ∈ may.getD y.toNat [])) (thI f)
                have hfm : ∀ z ∈ (thI f).filter fun z => !(z == y) && decide ((at_ f z).getD 0 ∈ may.getD y.toNat []), z ∈ thI f ∧ Edge may f y z := fun z hz => by
                  obtain ⟨a, b⟩ := List.mem_filter.mp hz
                  simp only [Bool.and_eq_true, Bool.not_eq_true', beq_eq_false_iff_ne, decide_eq_true_eq] at b
                  exact ⟨a, b.1, b.2⟩
                generalize (thI f).filter (fun z => !(z == y) && decide ((at_ f z).getD 0 ∈ may.getD y.toNat [])) = some_ at hfl hfm
                simp_arith only [List.length_map]
                split
                · rename_i hc
                  have hc : (0 : Int) < (some_.length : Int) := of_decide_eq_true hc
                  refine ⟨n, _, _, rfl, dr.2.2.app, rfl, (fun e => nomatch e), by rw [List.length_map]; omega, by rw [List.length_map]; omega, fun z hz h' d' => ?_⟩
                  obtain ⟨h2, rfl, d2⟩ := Drawn.app dr.2.2 d'
                  obtain ⟨z, hz2, rfl⟩ := List.mem_map.mp hz
                  try simp_arith only [dEq_int]
                  refine hN6 _ _ ⟨k + 1, r, _, row ++ [y], some z, _, h2, by omega, rfl, S2 _ fun z' e => ?_, rfl, rfl, dr.trans d2⟩
                  cases e
                  exact hfm z hz2
                · exact hN6 _ _ ⟨k + 1, r, _, row ++ [y], none, _, h0, by omega, rfl, (S2 _ fun z' e => nomatch e), rfl, rfl, dr⟩
              · intro z hz N9 acc hN9
                obtain ⟨z1, z2, z3⟩ := mem_thI hz
                simp_arith only [gl2 L, lastI]
                cases hzy : (z == y) with
                | true =>
                  rw [hzy] at hN9
                  simp_arith only [Bool.not_true]
                  exact hN9
                | false =>
                  rw [hzy] at hN9
                  simp_arith only [Bool.not_false, gl2 L, lastI]
                  rw [fil_at z1 z2, mayD_at (s := may.getD y.toNat []) y1 (by rw [List.getD_eq_getElem?_getD, List.getElem?_eq_getElem (by omega)]; rfl)]
                  simp_arith only [dEq_int]
                  cases ho : at_ f z with
                  | none => rw [ho] at z3; cases z3
                  | some v =>
                    simp only [oI]
                    rw [dIn_ints v _ rfl]
                    rw [ho] at hN9
                    simp only [Option.getD_some, Bool.not_false, Bool.true_and] at hN9
                    cases hv : decide (v ∈ may.getD y.toNat []) with
                    | true => rw [hv] at hN9; exact hN9
                    | false => rw [hv] at hN9; exact hN9
    split
    · rename_i hc
      have hc : (1 : Int) < ((thI f).length : Int) := of_decide_eq_true hc
      refine ⟨⟨by decide, by decide⟩, hLL _ _ _ (main _ fun _ => by omega)⟩
    · refine ⟨⟨by decide, by decide⟩, hLL _ _ _ (main _ fun e => absurd rfl e)⟩
  · intro p _ N acc hN
    simp_arith only [dEq_int]
    cases e : isNon p.1 <;> rw [e] at hN <;> exact hN
/-! _law_done -/
def t__law_done : TSD :=
    (sSeq (sSet 2 (eCall fListR (eCons (eVar 0) eNil)))
    (sSeq (sFor (iCall wZip (eCons (eVar 1) (eCons (eOp2 dAdd (eSl (eVar 1) (oSome (eC (.int 1))) oNone) (eSl (eVar 1) oNone (oSome (eC (.int 1))))) eNil))) (gT 2 (gTcons (gN 3) (gTcons (gN 4) gTnil))) (sSub (eVar 2) (eVar 3) (eOp2 dIx (eVar 0) (eVar 4))))
    (sRet (eCall fTuple (eCons (eVar 2) eNil)))))
-- use: pop
-- also: behind
def sp__law_done : SpD := sp_behind
theorem pl__law_done (ds : List D) (h : DH) (Q : VD) (E : ED) (w : sp__law_done ds h Q E) : popW (bodyD 5 t__law_done) ds h Q E := pl_behind ds h Q E w
/-! _law_is_desk -/
def t__law_is_desk : TSD :=
    (sSeq (sPar [5, 6] (eCons (eMk "Desk" sp_init_Desk (eCons (eMkV "Book" sp_init_Book (eCons (eVar 1) (eCons (eVar 2) eNil))) (eCons (eVar 3) eNil))) (eCons (eRef (eCons (eVar 3) eNil)) eNil)))
    (sSeq (sFor (iCall wRange1 (eCons (eC (.int 8)) eNil)) (gN 4) (sSeq (sSet 7 (eComp (iSeq (eOp2 dIx (eVar 6) (eC (.int (-1))))) (gN 10) tYesD (eIf (tTst (eOp2 (dIs false) (eVar 10) (eC .non))) (eC (.str "-")) (eCall fStr (eCons (eVar 10) eNil))) [10]))
    (sSeq (sSet 8 (eOp2 dAdd (eOp2 dAdd (eFn sp__law_text (eCons (eVar 1) (eCons (eVar 2) eNil))) (eM isStrD mJoin (eC (.str " ")) (eCons (eOp2 dAdd (eLst (eCons (eC (.str "filling")) eNil)) (eVar 7)) eNil))) (eC (.str "\n"))))
    (sSeq (sIf (tNotD (tTst (eFn sp__law_same (eCons (eMeth "Desk" "text" sp_Desk_text (eVar 5) eNil) (eCons (eVar 8) eNil))))) (sRet (eC (.bl false))) sNext)
    (sSeq (sSet 9 (eFn sp__law_step (eCons (eVar 0) (eCons (eVar 2) (eCons (eOp2 dIx (eVar 6) (eC (.int (-1)))) (eCons (eC (.int 2)) eNil))))))
    (sIf (tOrD (tTst (eOp2 (dIs false) (eVar 9) (eC .non))) (tTst (eOp2 dEq (eFn sp__law_draw (eCons (eVar 0) (eCons (eC (.int 4)) eNil))) (eC (.int 0))))) (sSeq (sIf (tTst (eOp2 dNeS (eMeth "Desk" "say" sp_Desk_say (eVar 5) (eCons (eC (.str "undo")) eNil)) (eIf (tTst (eOp2 dGt (eCall fLen (eCons (eVar 6) eNil)) (eC (.int 1)))) (eC (.str "yes")) (eC (.str "no"))))) (sRet (eC (.bl false))) sNext)
    (sSet 6 (eSlR (eVar 6) oNone (oSome (eCall fMax2 (eCons (eC (.int 1)) (eCons (eOp2 dSub (eCall fLen (eCons (eVar 6) eNil)) (eC (.int 1))) eNil))))))) (sSeq (sIf (tTst (eOp2 dNeS (eMeth "Desk" "say" sp_Desk_say (eVar 5) (eCons (eM isStrD mJoin (eC (.str " ")) (eCons (eOp2 dAdd (eLst (eCons (eC (.str "go")) eNil)) (eComp (iSeq (eVar 9)) (gN 11) tYesD (eCall fStr (eCons (eVar 11) eNil)) [11])) eNil)) eNil)) (eC (.str "ok")))) (sRet (eC (.bl false))) sNext)
    (sDrop (eM isList mAppend (eVar 6) (eCons (eFn sp__law_done (eCons (eOp2 dIx (eVar 6) (eC (.int (-1)))) (eCons (eVar 9) eNil))) eNil))))))))))
    (sRet (eC (.bl true)))))
-- needs: desk step exch rows fil
-- use: pop
-- also: _law_is_read
def sp__law_is_desk : SpD := fun ds h Q _ => ∃ (n : Nat) (posts : Int) (may : List (List Int)) (f : List (Option Int)), ds = [.ref n, .int posts, mayD may, filD f] ∧ IsHand h n ∧ BookOk posts may ∧ RightP may f ∧ ∀ h', Drawn h h' n → Q (.bl true) h'
theorem right_bnd {posts : Int} {may : List (List Int)} {f : List (Option Int)} (ok : BookOk posts may) (r : RightP may f) : ∀ i, some i ∈ f → 0 ≤ i ∧ i < 100 := fun i hi => by
  obtain ⟨j, hj, e⟩ := List.getElem_of_mem hi
  have hm := r.mem j i (by rw [List.getElem?_eq_getElem hj, e])
  have hl : j < may.length := by rw [← r.len]; exact hj
  rw [List.getD_eq_getElem?_getD, List.getElem?_eq_getElem hl] at hm
  have := (ok.rs _ (List.getElem_mem hl)).2 i hm
  have := ok.p1
  omega
/-- the desk and the list beside it, behind what stood -/
structure StD (T : DH) (L k : Nat) (posts : Int) (may : List (List Int)) (fs : List (List (Option Int))) : Prop where
  d : T[0]? = some (deskO posts may 2 (L + 1))
  s : T[1]? = some (.lst (fs.map filD))
  k2 : 2 ≤ k
  t : T[k]? = some (.lst (fs.map filD))
  ne : fs ≠ []
  r : ∀ f ∈ fs, RightP may f
theorem StD.at_ {hb T : DH} {L k : Nat} {posts : Int} {may : List (List Int)} {fs : List (List (Option Int))} (S : StD T L k posts may fs) (e : hb.length = L) : DeskAt (hb ++ T) L (L + 1) posts may 2 fs := ⟨by rw [ga0 e]; exact S.d, by rw [ga 1 e]; exact S.s⟩
theorem pl__law_is_desk (ds : List D) (h : DH) (Q : VD) (E : ED) (w : sp__law_is_desk ds h Q E) : popW (bodyD 12 t__law_is_desk) ds h Q E := by
  obtain ⟨n, posts, may, f0, rfl, hI, ok, rf0, q⟩ := w
  intro _ wf
  have ml := ok.ml
  unfold popF t__law_is_desk bodyD
  refine sSeq_i fun N hN => ?_
  simp_arith only [eMk]
  refine book_made ok wf ?_
  refine ⟨h.length, posts, may, f0, rfl, get_last _ _, by omega, right_iff.mpr rf0, ?_⟩
  rw [set_last]
  refine hN _ _ ?_
  clear hN
  have st0 : StD [deskO posts may 2 (h.length + 1), .lst [filD f0], .lst [filD f0]] h.length 2 posts may [f0] := ⟨rfl, rfl, Nat.le_refl _, rfl, List.cons_ne_nil _ _, fun f hf => by rw [List.mem_singleton.mp hf]; exact rf0⟩
  rw [show (h ++ [O.ins "Desk" [] []]).length = h.length + 1 by simp, show (h ++ [deskO posts may 2 (h.length + 1)] ++ [O.lst [filD f0]]).length = h.length + 2 by simp,
    show h ++ [deskO posts may 2 (h.length + 1)] ++ [O.lst [filD f0]] ++ [O.lst [filD f0]] = h ++ [deskO posts may 2 (h.length + 1), O.lst [filD f0], O.lst [filD f0]] by simp]
  have d0 : Drawn h h n := Drawn.refl hI
  generalize [deskO posts may 2 (h.length + 1), O.lst [filD f0], O.lst [filD f0]] = T0 at st0 ⊢
  refine sSeq_i fun N hN => ?_
  refine sFor_i fun L hL => ?_
  simp_arith only [dEq_int]
  refine ⟨⟨by decide, by decide⟩, hL _ _ _ ?_⟩
  clear hL
  refine forL_ind (fun items sd hh => ∃ (hb T : DH) (k : Nat) (fs : List (List (Option Int))) (x4 x7 x8 x9 x10 x11 : Option D), sd = [some (.ref n), some (.int posts), some (mayD may), some (filD f0), x4, some (.ref h.length), some (.ref (h.length + k)), x7, x8, x9, x10, x11] ∧ hh = hb ++ T ∧ Drawn h hb n ∧ StD T h.length k posts may fs ∧ fs.length + items.length ≤ 9) ?_ ?_ _ _ _ ⟨h, T0, 2, [f0], _, _, _, _, _, _, rfl, rfl, d0, st0, by show 1 + 8 ≤ 9; decide⟩
  · rintro sd hh ⟨hb, T, k, fs, x4, x7, x8, x9, x10, x11, rfl, rfl, dr, st, hl⟩
    refine ⟨trivial, hN _ _ ?_⟩
    simp_arith only [dEq_int]
    obtain ⟨t1, t2⟩ := Drawn.take (t := T) wf dr
    exact ⟨rfl, t1, by rw [List.length_append, dr.1]; omega, by rw [t2]; exact q _ dr⟩
  · rintro y r sd hh N2 ⟨hb, T, k, fs, x4, x7, x8, x9, x10, x11, rfl, rfl, dr, st, hl⟩ hN2
    refine ⟨trivial, ?_⟩
    rw [List.length_cons] at hl
    have Lb := dr.1
    obtain ⟨f, el⟩ : ∃ f, fs.getLast? = some f := by
      cases e : fs.getLast? with
      | none => exact absurd (List.getLast?_eq_none_iff.mp e) st.ne
      | some f => exact ⟨f, rfl⟩
    have fm : f ∈ fs := List.mem_of_getLast? el
    have rf := st.r f fm
    have fb := right_bnd ok rf
    have fl := rf.len
    have okl := fillS_ok (by omega) fb
    have oks := okl.sum
    obtain ⟨j1, j2⟩ := okl.join one_sp (by decide)
    obtain ⟨ta, tlen⟩ := textS_ok ok
    have gk : (hb ++ T)[h.length + k]? = some (.lst (fs.map filD)) := by rw [ga k Lb]; exact st.t
    have al : atI (fs.map filD) (-1) = some (filD f) := atI_negL (by rw [← List.getLast?_eq_getElem?, List.getLast?_map, el]; rfl)
    have D1 := st.at_ Lb
    simp_arith only [dEq_int]
    refine sSeq_i fun N3 hN3 => ?_
    simp_arith only [gk, al]
    refine compL_map (α := Option Int) oI (fun o => some (.str (wordF o))) (by exact trivial) ?_ ?_
    · rw [List.nil_append, fm_some]
      refine hN3 _ _ ?_
      clear hN3
      refine sSeq_i fun N3 hN3 => ?_
      simp_arith only [dEq_int]
      refine ⟨posts, may, rfl, ok, ?_⟩
      have jl : (Txt.join (Str.ofString " ") (("filling" : Str) :: f.map wordF)).length ≤ 44 := j2
      rw [show D.str (Str.ofString "filling") :: f.map (fun o => D.str (wordF o)) = (("filling" : Str) :: f.map wordF).map D.str by rw [List.map_cons, List.map_map]; rfl]
      simp only [isStrD, mJoin, listOf, strsOf_map, show (Str.ofString " ").length = 1 from rfl, show (Str.ofString "\n").length = 1 from rfl, List.length_map, len_app]
      refine ⟨trivial, size_le (by omega), by omega, size_le (by omega), size_le (by omega), hN3 _ _ ?_⟩
      clear hN3
      rw [show textS posts may ++ Txt.join (Str.ofString " ") (("filling" : Str) :: f.map wordF) ++ Str.ofString "\n" = deskS posts may f from rfl]
      refine sSeq_i fun N3 hN3 => ?_
      refine sIf_i fun A B hA hB => ?_
      simp_arith only [eMeth, D1.ins]
      refine ⟨by decide, h.length, h.length + 1, posts, may, 2, fs, f, rfl, D1, el, ok, by omega, fb, ?_⟩
      have sa_ : Asc (deskS posts may f) := (ta.app j1).app (asc_by (by decide +kernel))
      refine ⟨_, _, rfl, ⟨rfl, text_strOk sa_⟩, ?_⟩
      simp_arith only [Bool.not_true]
      refine hB _ (hN3 _ _ ?_)
      clear hA hB hN3
      refine sSeq_i fun N3 hN3 => ?_
      simp_arith only [gk, al]
      refine ⟨n, may, f, 2, rfl, dr.2.2.app, fl, ml, by decide, fun o h2' d2' ho => hN3 _ _ ?_⟩
      obtain ⟨hb2, rfl, d2⟩ := Drawn.app dr.2.2 d2'
      have d2 := dr.trans d2
      clear hN3 d2' dr gk D1 Lb
      have Lb := d2.1
      have gk : ∀ hb : DH, hb.length = h.length → (hb ++ T)[h.length + k]? = some (.lst (fs.map filD)) := fun hb e => by rw [ga k e]; exact st.t
      have fsl : 0 < fs.length := List.length_pos_iff.mpr st.ne
      refine sIf_i fun A B hA hB => ?_
      have back : ∀ hb3, Drawn h hb3 n → A (hb3 ++ T) := fun hb3 d3 => by
        refine hA _ ?_
        have L3 := d3.1
        have D3 := st.at_ L3
        clear hA hB
        refine sSeq_i fun N4 hN4 => ?_
        refine sIf_i fun A B hA hB => ?_
        simp_arith only [eMeth, D3.ins]
        refine ⟨by decide, h.length, h.length + 1, posts, may, fs, f, "undo", rfl, D3, el, by omega, by omega, right_iff.mpr rf, .inr ⟨rfl, ?_⟩⟩
        have next : ∀ (T2 : DH) (gs : List (List (Option Int))), T2[0]? = some (deskO posts may 2 (h.length + 1)) → T2[1]? = some (.lst (gs.map filD)) → T2[k]? = some (.lst (fs.map filD)) → (∃ m : Nat, (if ((fs.length : Nat) : Int) - 1 > 1 then ((fs.length : Nat) : Int) - 1 else 1) = (m : Nat) ∧ gs = fs.take m ∧ 1 ≤ m) → B (hb3 ++ T2) := fun T2 gs t0 t1 tk ⟨m, em, eg, m1⟩ => by
          refine hB _ ?_
          simp_arith only [dEq_int]
          refine hN4 _ _ ?_
          have tk' : (hb3 ++ T2)[h.length + k]? = some (.lst (fs.map filD)) := by rw [ga k L3]; exact tk
          simp_arith only [eSlR, tk', List.length_map]
          rw [em, cutD_upto, ← List.map_take, ← eg, List.append_assoc, List.length_append, L3]
          have klt : k < T2.length := (List.getElem?_eq_some_iff.mp tk).1
          have one : 1 < T2.length := (List.getElem?_eq_some_iff.mp t1).1
          refine hN2 _ _ ⟨hb3, T2 ++ [.lst (gs.map filD)], T2.length, gs, _, _, _, _, _, _, rfl, rfl, d3, ⟨?_, ?_, by omega, by simp, ?_, ?_⟩, ?_⟩
          · rw [List.getElem?_append_left (by omega)]; exact t0
          · rw [List.getElem?_append_left one]; exact t1
          · rw [eg]
            intro z
            have := congrArg List.length z
            rw [List.length_take] at this
            simp only [List.length_nil] at this
            omega
          · rw [eg]; exact fun f hf => st.r f (List.mem_of_mem_take hf)
          · rw [eg, List.length_take]; omega
        by_cases e1 : fs.length = 1
        · rw [if_pos e1]
          simp only [gk _ L3, List.length_map, e1]
          rw [show decide ((1 : Int) < ((1 : Nat) : Int)) = false from by decide, if_neg (by decide)]
          rw [show (!(Str.ofString "no" == Str.ofString "no")) = false from by decide +kernel]
          exact next T fs st.d st.s st.t ⟨1, by rw [if_neg (by omega)]; rfl, by rw [List.take_of_length_le (by omega)], by omega⟩
        · rw [if_neg e1]
          have kn : k ≠ 1 := by have := st.k2; omega
          have e0 : deskSet (hb3 ++ T) (h.length + 1) fs.dropLast = hb3 ++ T.set 1 (.lst (fs.dropLast.map filD)) := by
            unfold deskSet
            exact sa 1 L3
          have one : 1 < T.length := (List.getElem?_eq_some_iff.mp st.s).1
          have tk2 : (T.set 1 (.lst (fs.dropLast.map filD)))[k]? = some (.lst (fs.map filD)) := by rw [List.getElem?_set_ne kn.symm]; exact st.t
          have tk' : (hb3 ++ T.set 1 (.lst (fs.dropLast.map filD)))[h.length + k]? = some (.lst (fs.map filD)) := by rw [ga k L3]; exact tk2
          rw [e0]
          simp only [tk', List.length_map]
          rw [show decide ((1 : Int) < ((fs.length : Nat) : Int)) = true from decide_eq_true (by omega), if_pos rfl]
          rw [show (!(Str.ofString "yes" == Str.ofString "yes")) = false from by decide +kernel]
          refine next _ fs.dropLast (by rw [List.getElem?_set_ne (by decide)]; exact st.d) (List.getElem?_set_self one) tk2 ⟨fs.length - 1, by split <;> omega, List.dropLast_eq_take .., by omega⟩
      have ahead : ∀ ns, goesI may f ns = true → (ns.length : Int) ≤ 2 → ∀ hb3, Drawn h hb3 n → o = some ns → B (hb3 ++ T) := fun ns hg h2 hb3 d3 eo => by
        subst eo
        refine hB _ ?_
        have L3 := d3.1
        have D3 := st.at_ L3
        have ex := goesI_iff.mp hg
        have x2 := ex.two
        have nb : ∀ i ∈ ns, 0 ≤ i ∧ i < 100 := fun i hi => by have := ex.rng i hi; omega
        clear hA hB back
        refine sSeq_i fun N4 hN4 => ?_
        refine sIf_i fun A B hA hB => ?_
        simp_arith only [eMeth, D3.ins]
        refine ⟨by decide, rfl, ?_⟩
        rw [show itemsOf (optT (some ns)) (hb3 ++ T) = some (ns.map .int) from rfl]
        dsimp only
        have okg := lineS_ok (w := "go") (s := ns) (asc_by (by decide +kernel)) (by decide +kernel) (by omega) nb
        have okgs := okg.sum
        refine compL_map (α := Int) _ (fun i => some (.str (numS i))) (by exact trivial) ?_ ?_
        · rw [List.nil_append, fm_some]
          rw [show D.str (Str.ofString "go") :: ns.map (fun i => D.str (numS i)) = (("go" : Str) :: ns.map numS).map D.str by rw [List.map_cons, List.map_map]; rfl]
          simp only [mJoin, listOf, strsOf_map, List.length_map, show (Str.ofString " ").length = 1 from rfl]
          refine ⟨size_le (by omega), by omega, h.length, h.length + 1, posts, may, fs, f, lineS "go" ns, rfl, D3, el, by omega, by omega, right_iff.mpr rf, .inl ⟨ns, rfl, x2, by omega, nb, hg, ?_⟩⟩
          dsimp only
          rw [show (!(Str.ofString "ok" == Str.ofString "ok")) = false from by decide +kernel]
          refine hB _ ?_
          simp_arith only [dEq_int]
          refine hN4 _ _ ?_
          clear hN4 hA hB
          have kn : k ≠ 1 := by have := st.k2; omega
          have k0 : k ≠ 0 := by have := st.k2; omega
          have one : 1 < T.length := (List.getElem?_eq_some_iff.mp st.s).1
          have klt : k < T.length := (List.getElem?_eq_some_iff.mp st.t).1
          have e0 : deskSet (hb3 ++ T) (h.length + 1) (fs ++ [behindI f ns]) = hb3 ++ T.set 1 (.lst ((fs ++ [behindI f ns]).map filD)) := by
            unfold deskSet
            exact sa 1 L3
          rw [e0]
          have tk2 : (T.set 1 (.lst ((fs ++ [behindI f ns]).map filD)))[k]? = some (.lst (fs.map filD)) := by rw [List.getElem?_set_ne kn.symm]; exact st.t
          have tk' : (hb3 ++ T.set 1 (.lst ((fs ++ [behindI f ns]).map filD)))[h.length + k]? = some (.lst (fs.map filD)) := by rw [ga k L3]; exact tk2
          simp_arith only [isList_lst tk', tk', al]
          refine ⟨f, ns, rfl, fun i hi => by have := ex.rng i hi; omega, by omega, ?_⟩
          simp only [mAppend, tk', List.length_map]
          refine ⟨size_lt (by omega), ?_⟩
          rw [sa k L3]
          refine hN2 _ _ ⟨hb3, (T.set 1 (.lst ((fs ++ [behindI f ns]).map filD))).set k (.lst ((fs ++ [behindI f ns]).map filD)), k, fs ++ [behindI f ns], _, _, _, _, _, _, rfl, by rw [show (fs ++ [behindI f ns]).map filD = fs.map filD ++ [filD (behindI f ns)] by rw [List.map_append]; rfl], d3, ⟨?_, ?_, st.k2, ?_, by simp, fun g hg' => ?_⟩, by rw [List.length_append, List.length_singleton]; omega⟩
          · rw [List.getElem?_set_ne k0, List.getElem?_set_ne (by decide)]; exact st.d
          · rw [List.getElem?_set_ne kn]; exact List.getElem?_set_self one
          · exact List.getElem?_set_self (by rw [List.length_set]; exact klt)
          · rcases List.mem_append.mp hg' with z | z
            · exact st.r g z
            · rw [List.mem_singleton.mp z]; exact ex.right rf
        · intro i hi N5 acc hN5
          have b := nb i hi
          simp_arith only [fStr]
          exact ⟨log_small b.1 b.2, hN5⟩
      simp_arith only [dEq_int]
      cases o with
      | none => exact back hb2 d2
      | some ns =>
        obtain ⟨hg, h2⟩ := ho ns rfl
        rw [show isNon (optT (some ns)) = false from rfl, if_neg (by decide)]
        refine ⟨n, _, rfl, d2.2.2.app, by decide, by decide, fun z h3' _ _ d3' => ?_⟩
        obtain ⟨hb3, rfl, d3⟩ := Drawn.app d2.2.2 d3'
        have d3 := d2.trans d3
        simp_arith only [dEq_int]
        exact brB_i (fun _ => back hb3 d3) fun _ => ahead ns hg h2 hb3 d3 rfl
    · intro o ho N4 acc hN4
      cases o with
      | none =>
        simp_arith only [oI, isNon]
        exact hN4
      | some i =>
        have b := fb i ho
        simp_arith only [oI, isNon, fStr]
        exact ⟨log_small b.1 b.2, hN4⟩
/-! law -/
def t_law : TSD :=
    (sSeq (sSet 1 (eFn sp__law_hand (eCons (eVar 0) eNil)))
    (sSeq (sFor (iSeq (eLst (eCons (eTup (eCons (eC (.int 0)) (eCons (eTup eNil) eNil))) (eCons (eTup (eCons (eC (.int 12)) (eCons (eOp2 dMulU (eTup (eCons (eTupRg (rg1 (eC (.int 12)))) eNil)) (eC (.int 12))) eNil))) (eCons (eTup (eCons (eC (.int 12)) (eCons (eOp2 dMulU (eTup (eCons (eTup eNil) eNil)) (eC (.int 12))) eNil))) (eCons (eTup (eCons (eC (.int 0)) (eCons (eTup (eCons (eTup eNil) eNil)) eNil))) (eCons (eTup (eCons (eC (.int 1)) (eCons (eTup (eCons (eTup (eCons (eC (.int 0)) eNil)) eNil)) eNil))) (eCons (eTup (eCons (eC (.int 12)) (eCons (eTup (eCons (eTup (eCons (eC (.int 11)) eNil)) eNil)) eNil))) eNil)))))))) (gT 2 (gTcons (gN 3) (gTcons (gN 4) gTnil))) (sIf (tNotD (tTst (eFn sp__law_is_read (eCons (eVar 3) (eCons (eVar 4) eNil))))) (sRet (eC (.bl false))) sNext))
    (sSeq (sFor (iCall wRange1 (eCons (eC (.int 4)) eNil)) (gN 2) (sSeq (sAsg (gT 3 (gTcons (gN 3) (gTcons (gN 4) (gTcons (gN 5) gTnil)))) (eFn sp__law_case (eCons (eVar 1) (eCons (eFn sp__law_any (eCons (eVar 1) (eCons (eLst (eCons (eC (.int 4)) (eCons (eC (.int 12)) eNil))) eNil))) eNil))))
    (sIf (tOrD (tNotD (tTst (eFn sp__law_is_read (eCons (eVar 3) (eCons (eVar 4) eNil))))) (tNotD (tTst (eFn sp__law_is_desk (eCons (eVar 1) (eCons (eVar 3) (eCons (eVar 4) (eCons (eVar 5) eNil)))))))) (sRet (eC (.bl false))) sNext)))
    (sRet (eOp2 dEqS (eFn sp_book_text (eCons (eMkV "Book" sp_init_Book (eCons (eC (.int 3)) (eCons (eTup (eCons (eTup (eCons (eC (.int 0)) (eCons (eC (.int 1)) eNil))) (eCons (eTup (eCons (eC (.int 0)) (eCons (eC (.int 1)) (eCons (eC (.int 2)) eNil)))) (eCons (eTup (eCons (eC (.int 1)) (eCons (eC (.int 2)) eNil))) eNil)))) eNil))) eNil)) (eC (.str "posts 3\nperson 0 1\nperson 0 1 2\nperson 1 2\n")))))))
-- needs: desk
def sp_law : SpD := fun ds h Q _ => ∃ ns : List Int, ds = [.scr (ns.map .int)] ∧ ns.length ≤ 63 ∧ h = [] ∧ ∀ h', Q (.bl true) h'
def bookL : List (Int × List (List Int)) := [(0, []), (12, List.replicate 12 [0, 1, 2, 3, 4, 5, 6, 7, 8, 9, 10, 11]), (12, List.replicate 12 []), (0, [[]]), (1, [[0]]), (12, [[11]])]
theorem bookL_ok : ∀ b ∈ bookL, BookOk b.1 b.2 := fun b hb => by
  have e : (decide (0 ≤ b.1) && decide (b.1 ≤ 12) && decide (b.2.length ≤ 12) && b.2.all fun s => strictB s && s.all fun i => decide (0 ≤ i) && decide (i < b.1)) = true := by
    have all : (bookL.all fun b => decide (0 ≤ b.1) && decide (b.1 ≤ 12) && decide (b.2.length ≤ 12) && b.2.all fun s => strictB s && s.all fun i => decide (0 ≤ i) && decide (i < b.1)) = true := by decide +kernel
    exact List.all_eq_true.mp all b hb
  simp only [Bool.and_eq_true, decide_eq_true_eq, List.all_eq_true] at e
  exact ⟨e.1.1.1, e.1.1.2, e.1.2, fun s hs => ⟨strictB_iff.mp (e.2 s hs).1, (e.2 s hs).2⟩⟩
def plainM : List (List Int) := [[0, 1], [0, 1, 2], [1, 2]]
theorem plain_ok : BookOk 3 plainM := ⟨by decide, by decide, by decide, by decide +kernel⟩
theorem plain_text : (textS 3 plainM == ("posts 3\nperson 0 1\nperson 0 1 2\nperson 1 2\n" : Str)) = true := by decide +kernel
theorem pl_law (ds : List D) (h : DH) (Q : VD) (E : ED) (w : sp_law ds h Q E) : bodyD 6 t_law ds h Q E := by
  obtain ⟨ns, rfl, hl, rfl, q⟩ := w
  unfold t_law bodyD
  refine sSeq_i fun N hN => ?_
  simp_arith only [dEq_int]
  refine ⟨ns, rfl, hl, fun h1 ⟨o, ho⟩ hI => hN _ _ ?_⟩
  have wf := wf_hand hI (by rw [ho]; rfl)
  clear ho hN
  refine sSeq_i fun N hN => ?_
  refine sFor_i fun L hL => ?_
  simp_arith only [dEq_int]
  refine ⟨⟨by decide, by decide, by decide, by decide, by decide⟩, by decide, by decide, by decide, by decide, by decide, by decide, by decide, by decide, hL _ _ _ ?_⟩
  clear hL
  refine forL_ind (fun items sd hh => ∃ (r : List (Int × List (List Int))) (x3 x4 : Option D), items = r.map (fun b => D.tup [.int b.1, mayD b.2]) ∧ sd = [some (.scr (ns.map .int)), some (.ref 0), none, x3, x4, none] ∧ hh = h1 ∧ ∀ b ∈ r, BookOk b.1 b.2) ?_ ?_ _ _ _ ⟨bookL, none, none, rfl, rfl, rfl, bookL_ok⟩
  · rintro sd hh ⟨r, x3, x4, er, rfl, rfl, kr⟩
    refine ⟨trivial, hN _ _ ?_⟩
    clear hN
    refine sSeq_i fun N hN => ?_
    refine sFor_i fun L hL => ?_
    simp_arith only [dEq_int]
    refine ⟨⟨by decide, by decide⟩, hL _ _ _ ?_⟩
    clear hL
    refine forL_ind (fun items sd hh => ∃ (x2 x3 x4 x5 : Option D), sd = [some (.scr (ns.map .int)), some (.ref 0), x2, x3, x4, x5] ∧ IsHand hh 0 ∧ WF hh) ?_ ?_ _ _ _ ⟨_, _, _, _, rfl, hI, wf⟩
    · clear hI wf
      rintro sd hh ⟨x2, x3, x4, x5, rfl, hI, wf⟩
      refine ⟨trivial, hN _ _ ?_⟩
      simp_arith only [dEq_int]
      refine book_made (may := plainM) plain_ok wf ?_
      refine ⟨3, plainM, rfl, plain_ok, ?_⟩
      dsimp only
      rw [plain_text]
      exact q _
    · clear hI wf
      rintro y r sd hh N2 ⟨x2, x3, x4, x5, rfl, hI, wf⟩ hN2
      refine ⟨trivial, ?_⟩
      simp_arith only [dEq_int]
      refine sSeq_i fun N3 hN3 => ?_
      simp_arith only [dEq_int]
      refine ⟨0, _, _, rfl, hI, rfl, (fun e => nomatch e), by simp, by simp, fun y hy h2 d2 => ?_⟩
      obtain ⟨top, rfl, t0, t1⟩ : ∃ top : Int, y = .int top ∧ 0 ≤ top ∧ top ≤ 12 := by
        simp only [List.mem_cons, List.not_mem_nil, or_false] at hy
        rcases hy with rfl | rfl
        · exact ⟨4, rfl, by decide, by decide⟩
        · exact ⟨12, rfl, by decide, by decide⟩
      refine ⟨0, _, rfl, d2.2.2, t0, t1, fun posts may f h3 ck d3 => ?_⟩
      simp_arith only [dEq_int]
      refine hN3 _ _ ?_
      clear hN3
      have ok := case_ok ck t1
      have rf : RightP may f := right_iff.mp ck.2.2.2.2
      have dd := d2.trans d3
      have wf3 := dd.wf2 wf
      refine sIf_i fun A B hA hB => ?_
      simp_arith only [dEq_int]
      refine ⟨posts, may, rfl, ok, wf3, ?_⟩
      simp_arith only [Bool.not_true]
      refine ⟨0, posts, may, f, rfl, dd.2.2, ok, rf, fun h4 d4 => ?_⟩
      simp_arith only [Bool.not_true]
      refine hB _ ?_
      simp_arith only [dEq_int]
      exact hN2 _ _ ⟨_, _, _, _, rfl, d4.2.2, d4.wf2 wf3⟩
  · rintro y r sd hh N2 ⟨r, x3, x4, er, rfl, rfl, kr⟩ hN2
    cases r with
    | nil => cases er
    | cons b r =>
    cases er
    refine ⟨trivial, ?_⟩
    simp_arith only [dEq_int]
    refine sIf_i fun A B hA hB => ?_
    simp_arith only [dEq_int]
    refine ⟨b.1, b.2, rfl, kr b List.mem_cons_self, wf, ?_⟩
    simp_arith only [Bool.not_true]
    refine hB _ ?_
    simp_arith only [dEq_int]
    exact hN2 _ _ ⟨r, _, _, rfl, rfl, rfl, fun z hz => kr z (List.mem_cons_of_mem _ hz)⟩
end DL
end

section
set_option maxRecDepth 100000
set_option maxHeartbeats 4000000
namespace DL
open PySem PySem.Spec L2
def top (i : Nat) : Stmt := PySem.Challenge.pw_chordswaps_k04_whole_texts_of_books.main.body.getD i (.Pass ⟨0, 0, 0, 0⟩)
structure Txt (w : World) (K : PySem.W.Frag) (mg : Str → Option Value) : Prop where
  own : OwnT K mg ["Book"]
  ownA : OwnT K mg ["Book", "Desk"]
  n_abs : mg "abs" = none
  n_all : mg "all" = none
  n_any : mg "any" = none
  n_bool : mg "bool" = none
  n_enumerate : mg "enumerate" = none
  n_int : mg "int" = none
  n_isinstance : mg "isinstance" = none
  n_len : mg "len" = none
  n_list : mg "list" = none
  n_max : mg "max" = none
  n_min : mg "min" = none
  n_range : mg "range" = none
  n_set : mg "set" = none
  n_sorted : mg "sorted" = none
  n_str : mg "str" = none
  n_tuple : mg "tuple" = none
  n_zip : mg "zip" = none
  c_GO : ∃ t, mg "GO" = some (.str "go" t)
  c_MANY : KMap K w mg "MANY" [("size", 1), ("undo", 0), ("post", 1), ("width", 0), ("always", 0), ("apart", 0), ("swaps", 0)]
  c_MOST_DIGITS : ∃ t, mg "MOST_DIGITS" = some (.int 2 t)
  c_MOST_PERSONS : ∃ t, mg "MOST_PERSONS" = some (.int 12 t)
  c_MOST_POSTS : ∃ t, mg "MOST_POSTS" = some (.int 12 t)
  c_MOST_SIZE : ∃ t, mg "MOST_SIZE" = some (.int 12 t)
  c_NO : ∃ t, mg "NO" = some (.str "no" t)
  c_OK : ∃ t, mg "OK" = some (.str "ok" t)
  c_YES : ∃ t, mg "YES" = some (.str "yes" t)
  g_Book : ∃ C, mg (Str.ofString "Book") = some (.ref C)
  f_may : ∀ c ∈ ["Book"], FldT K mg c "may"
  f_posts : ∀ c ∈ ["Book"], FldT K mg c "posts"
  fA_book : ∀ c ∈ ["Book", "Desk"], FldT K mg c "book"
  fA_size : ∀ c ∈ ["Book", "Desk"], FldT K mg c "size"
  fA_stood : ∀ c ∈ ["Book", "Desk"], FldT K mg c "stood"
  x_BadExchange : Xc0 K mg "BadExchange"
  x_BadFilling : Xc0 K mg "BadFilling"
  x_NoBook : Xc0 K mg "NoBook"
section
variable {P : Program} {w : World} {K : PySem.W.Frag} {mg : Str → Option Value} {base : Heap}
abbrev s_eq_Book : Stmt := inClass (top 18) 1
theorem sc_eq_Book : FnScope (["self", "other"] : List Str) (["self", "other"] : List Str) (defScope s_eq_Book) := ⟨rfl, rfl, rfl, by decide +kernel, rfl, by decide +kernel, by decide +kernel⟩
theorem ok_eq_Book {f : Addr} {fd : FuncData} (F : Fun K "__eq__" "Book.__eq__" s_eq_Book f fd) (T : Txt w K mg)  : FnG P w K mg base (L2N.CX P w) (0 + 1) f fd (["self", "other"] : List Str) (LSp K mg 2 (bodyD 2 (t_eq_Book))) := fn_ok F sc_eq_Book fun cdv A outer s H E hr => by
  have nd := sc_eq_Book.nd
  have tk := tkC (P := P) (w := w) (K := K) (mg := mg) (base := base) (N := (["self", "other"] : List Str)) (qual := "Book.__eq__") (scope := defScope s_eq_Book) (f := f) (cd := cdv) (A := A) (outer := outer) (s := s) (H := H) (E := E)
  have po := poC (P := P) (w := w) (K := K) (mg := mg) (base := base) (N := (["self", "other"] : List Str)) (qual := "Book.__eq__") (scope := defScope s_eq_Book) (f := f) (cd := cdv) (A := A) (outer := outer) (s := s) (H := H) (E := E)
  exact (dss_cons (ds_if (dt_not (dt_val (de_B (dc_isi T.own) T.n_isinstance b_isinstance (da_cons (dv 1) (da_cons (de_gcls T.g_Book) da_nil))))) (dss_one (ds_ret de_bl)) dss_nil)
    (dss_one (ds_ret (de_cmp (do_eq hr.units) (de_tup (da_cons (de_fld T.f_posts (dv 0)) (da_cons (de_fld T.f_may (dv 0)) da_nil))) (de_tup (da_cons (de_fld T.f_posts (dv 1)) (da_cons (de_fld T.f_may (dv 1)) da_nil)))))))
abbrev s_is_integer : Stmt := top 15
theorem sc_is_integer : FnScope (["thing"] : List Str) (["thing"] : List Str) (defScope s_is_integer) := ⟨rfl, rfl, rfl, by decide +kernel, rfl, by decide +kernel, by decide +kernel⟩
theorem ok_is_integer {f : Addr} {fd : FuncData} (F : Fun K "is_integer" "is_integer" s_is_integer f fd) (hm : mg "is_integer" = some (.ref f)) (hb : Binds K fd (["thing"] : List Str) []) (T : Txt w K mg)  : Def P w K mg base (0 + 1) "is_integer" (["thing"] : List Str) (bodyD 1 (t_is_integer)) := def_mk F sc_is_integer hm hb fun cdv A outer s H E hr => by
  have nd := sc_is_integer.nd
  have tk := tkC (P := P) (w := w) (K := K) (mg := mg) (base := base) (N := (["thing"] : List Str)) (qual := "is_integer") (scope := defScope s_is_integer) (f := f) (cd := cdv) (A := A) (outer := outer) (s := s) (H := H) (E := E)
  have po := poC (P := P) (w := w) (K := K) (mg := mg) (base := base) (N := (["thing"] : List Str)) (qual := "is_integer") (scope := defScope s_is_integer) (f := f) (cd := cdv) (A := A) (outer := outer) (s := s) (H := H) (E := E)
  exact (dss_one (ds_ret (de_and (de_B (dc_isi T.own) T.n_isinstance b_isinstance (da_cons (dv 0) (da_cons (de_ty rfl T.n_int b_int) da_nil))) (de_one (de_not (de_B (dc_isi T.own) T.n_isinstance b_isinstance (da_cons (dv 0) (da_cons (de_ty rfl T.n_bool b_bool) da_nil))))))))
abbrev s_is_within : Stmt := top 16
theorem sc_is_within : FnScope (["thing", "low", "high"] : List Str) (["thing", "low", "high"] : List Str) (defScope s_is_within) := ⟨rfl, rfl, rfl, by decide +kernel, rfl, by decide +kernel, by decide +kernel⟩
theorem ok_is_within {f : Addr} {fd : FuncData} (F : Fun K "is_within" "is_within" s_is_within f fd) (hm : mg "is_within" = some (.ref f)) (hb : Binds K fd (["thing", "low", "high"] : List Str) []) (T : Txt w K mg) (c_is_integer : Def P w K mg base 1 "is_integer" (["thing"] : List Str) sp_is_integer) : Def P w K mg base (1 + 1) "is_within" (["thing", "low", "high"] : List Str) (bodyD 3 (t_is_within)) := def_mk F sc_is_within hm hb fun cdv A outer s H E hr => by
  have nd := sc_is_within.nd
  have tk := tkC (P := P) (w := w) (K := K) (mg := mg) (base := base) (N := (["thing", "low", "high"] : List Str)) (qual := "is_within") (scope := defScope s_is_within) (f := f) (cd := cdv) (A := A) (outer := outer) (s := s) (H := H) (E := E)
  have po := poC (P := P) (w := w) (K := K) (mg := mg) (base := base) (N := (["thing", "low", "high"] : List Str)) (qual := "is_within") (scope := defScope s_is_within) (f := f) (cd := cdv) (A := A) (outer := outer) (s := s) (H := H) (E := E)
  exact (dss_one (ds_ret (de_and (de_callD c_is_integer hr tk (da_cons (dv 0) da_nil)) (de_one (de_chain do_le do_le (dv 1) (dv 0) (dv 2))))))
abbrev s_is_rising : Stmt := top 17
theorem sc_is_rising : FnScope (["thing", "many", "one", "other"] : List Str) (["thing", "many"] : List Str) (defScope s_is_rising) := ⟨rfl, rfl, rfl, by decide +kernel, rfl, by decide +kernel, by decide +kernel⟩
theorem ok_is_rising {f : Addr} {fd : FuncData} (F : Fun K "is_rising" "is_rising" s_is_rising f fd) (hm : mg "is_rising" = some (.ref f)) (hb : Binds K fd (["thing", "many"] : List Str) []) (T : Txt w K mg) (c_is_within : Def P w K mg base 2 "is_within" (["thing", "low", "high"] : List Str) sp_is_within) : Def P w K mg base (2 + 1) "is_rising" (["thing", "many"] : List Str) (bodyD 4 (t_is_rising)) := def_mk F sc_is_rising hm hb fun cdv A outer s H E hr => by
  have nd := sc_is_rising.nd
  have tk := tkC (P := P) (w := w) (K := K) (mg := mg) (base := base) (N := (["thing", "many", "one", "other"] : List Str)) (qual := "is_rising") (scope := defScope s_is_rising) (f := f) (cd := cdv) (A := A) (outer := outer) (s := s) (H := H) (E := E)
  have po := poC (P := P) (w := w) (K := K) (mg := mg) (base := base) (N := (["thing", "many", "one", "other"] : List Str)) (qual := "is_rising") (scope := defScope s_is_rising) (f := f) (cd := cdv) (A := A) (outer := outer) (s := s) (H := H) (E := E)
  exact (dss_cons (ds_if (dt_w (dw_or (dt_not (dt_val (de_B (dc_isi T.own) T.n_isinstance b_isinstance (da_cons (dv 0) (da_cons (de_ty rfl T.n_tuple b_tuple) da_nil))))) (dw_or1 (dt_not (dt_val (de_B (dc_all rfl) T.n_all b_all (da_cons (de_lc (own := [("one", 2)]) nd (di_seq (dv 0)) (blkOk_by (N := (["thing", "many", "one", "other"] : List Str)) (sc := defScope s_is_rising) (by decide +kernel)) (fun s_ H_ C_ cl_ fp_ => (dg_name (i := 2) nd)) (fun s_ H_ C_ cl_ fp_ => dts_nil) (fun s_ H_ C_ cl_ fp_ => (de_callD c_is_within hr takes0 (da_cons (dv 2) (da_cons de_int (da_cons (de_op2 do_sub (dv 1) de_int) da_nil)))))) da_nil))))))) (dss_one (ds_ret de_bl)) dss_nil)
    (dss_one (ds_ret (de_B (dc_all rfl) T.n_all b_all (da_cons (de_lc (own := [("one", 2), ("other", 3)]) nd (di_zip (da_cons (dv 0) (da_cons (de_sl (dv 0) (do_some de_int) do_none) da_nil)) rfl T.n_zip) (blkOk_by (N := (["thing", "many", "one", "other"] : List Str)) (sc := defScope s_is_rising) (by decide +kernel)) (fun s_ H_ C_ cl_ fp_ => (dg_tup (dgs_cons (dg_name (i := 2) nd) (dgs_cons (dg_name (i := 3) nd) dgs_nil)))) (fun s_ H_ C_ cl_ fp_ => dts_nil) (fun s_ H_ C_ cl_ fp_ => (de_cmp do_lt (dv 2) (dv 3)))) da_nil)))))
abbrev s_init_Book : Stmt := inClass (top 18) 0
theorem sc_init_Book : FnScope (["self", "posts", "may", "at", "some"] : List Str) (["self", "posts", "may"] : List Str) (defScope s_init_Book) := ⟨rfl, rfl, rfl, by decide +kernel, rfl, by decide +kernel, by decide +kernel⟩
theorem ok_init_Book {f C : Addr} {fd : FuncData} (F : Fun K "__init__" "Book.__init__" s_init_Book f fd) (hm : mg (Str.ofString "Book") = some (.ref C)) (M : Mk K C f) (hb : Binds K fd (["self", "posts", "may"] : List Str) []) (T : Txt w K mg) (c_is_within : Def P w K mg base 2 "is_within" (["thing", "low", "high"] : List Str) sp_is_within) (c_is_rising : Def P w K mg base 3 "is_rising" (["thing", "many"] : List Str) sp_is_rising) (c_x_BadBook : Xc2 P w K mg base "BadBook" "what" "at") : Ctor P w K mg base (3 + 1) "Book" (["self", "posts", "may"] : List Str) (bodyD 5 (t_init_Book)) := ctor_mk F sc_init_Book hm M hb fun cdv A outer s H E hr => by
  have nd := sc_init_Book.nd
  have tk := tkC (P := P) (w := w) (K := K) (mg := mg) (base := base) (N := (["self", "posts", "may", "at", "some"] : List Str)) (qual := "Book.__init__") (scope := defScope s_init_Book) (f := f) (cd := cdv) (A := A) (outer := outer) (s := s) (H := H) (E := E)
  have po := poC (P := P) (w := w) (K := K) (mg := mg) (base := base) (N := (["self", "posts", "may", "at", "some"] : List Str)) (qual := "Book.__init__") (scope := defScope s_init_Book) (f := f) (cd := cdv) (A := A) (outer := outer) (s := s) (H := H) (E := E)
  exact (dss_cons (ds_if (dt_not (dt_val (de_callD c_is_within hr tk (da_cons (dv 1) (da_cons de_int (da_cons (de_gint T.c_MOST_POSTS) da_nil)))))) (dss_one (ds_raise2D (nm := "BadBook") c_x_BadBook hr tk (da_cons de_str (da_cons de_negc da_nil)))) dss_nil)
    (dss_cons (ds_if (dt_not (dt_val (de_B (dc_isi T.own) T.n_isinstance b_isinstance (da_cons (dv 2) (da_cons (de_ty rfl T.n_tuple b_tuple) da_nil))))) (dss_one (ds_raise2D (nm := "BadBook") c_x_BadBook hr tk (da_cons de_str (da_cons de_negc da_nil)))) dss_nil)
    (dss_cons (ds_for (vs := [3, 4]) po (di_enum (da_cons (dv 2) da_nil) rfl T.n_enumerate) (dg_tup (dgs_cons (dg_name (i := 3) nd) (dgs_cons (dg_name (i := 4) nd) dgs_nil))) (dss_one (ds_if (dt_w (dw_or (dt_cmp do_ge (dv 3) (de_gint T.c_MOST_PERSONS)) (dw_or1 (dt_not (dt_val (de_callD c_is_rising hr tk (da_cons (dv 4) (da_cons (dv 1) da_nil)))))))) (dss_one (ds_raise2D (nm := "BadBook") c_x_BadBook hr tk (da_cons de_str (da_cons (dv 3) da_nil)))) dss_nil)))
    (dss_cons (ds_fld T.f_posts (dv 0) (dv 1))
    (dss_one (ds_fld T.f_may (dv 0) (dv 2)))))))
abbrev s_number_of : Stmt := top 27
theorem sc_number_of : FnScope (["word", "sign"] : List Str) (["word"] : List Str) (defScope s_number_of) := ⟨rfl, rfl, rfl, by decide +kernel, rfl, by decide +kernel, by decide +kernel⟩
theorem ok_number_of {f : Addr} {fd : FuncData} (F : Fun K "number_of" "number_of" s_number_of f fd) (hm : mg "number_of" = some (.ref f)) (hb : Binds K fd (["word"] : List Str) []) (T : Txt w K mg)  : Def P w K mg base (0 + 1) "number_of" (["word"] : List Str) (bodyD 2 (t_number_of)) := def_mk F sc_number_of hm hb fun cdv A outer s H E hr => by
  have nd := sc_number_of.nd
  have tk := tkC (P := P) (w := w) (K := K) (mg := mg) (base := base) (N := (["word", "sign"] : List Str)) (qual := "number_of") (scope := defScope s_number_of) (f := f) (cd := cdv) (A := A) (outer := outer) (s := s) (H := H) (E := E)
  have po := poC (P := P) (w := w) (K := K) (mg := mg) (base := base) (N := (["word", "sign"] : List Str)) (qual := "number_of") (scope := defScope s_number_of) (f := f) (cd := cdv) (A := A) (outer := outer) (s := s) (H := H) (E := E)
  exact (dss_cons (ds_if (dt_w (dw_or (dt_not (dt_chain do_le do_le de_int (de_B dc_len T.n_len b_len (da_cons (dv 0) da_nil)) (de_gint T.c_MOST_DIGITS))) (dw_or1 (dt_val (de_B (dc_any rfl) T.n_any b_any (da_cons (de_lc (own := [("sign", 1)]) nd (di_str (dv 0)) (blkOk_by (N := (["word", "sign"] : List Str)) (sc := defScope s_number_of) (by decide +kernel)) (fun s_ H_ C_ cl_ fp_ => (dg_name (i := 1) nd)) (fun s_ H_ C_ cl_ fp_ => dts_nil) (fun s_ H_ C_ cl_ fp_ => (de_cmp do_notinS (dv 1) de_str))) da_nil)))))) (dss_one (ds_ret de_non)) dss_nil)
    (dss_one (ds_ret (de_if (dt_w (dw_and (dt_cmp do_eqS (de_ix hr.units (dv 0) de_int) de_str) (dw_and1 (dt_cmp do_gt (de_B dc_len T.n_len b_len (da_cons (dv 0) da_nil)) de_int)))) de_non (de_T dc_intS T.n_int b_int (da_cons (dv 0) da_nil))))))
abbrev s_numbers_of : Stmt := top 28
theorem sc_numbers_of : FnScope (["words", "found", "word"] : List Str) (["words"] : List Str) (defScope s_numbers_of) := ⟨rfl, rfl, rfl, by decide +kernel, rfl, by decide +kernel, by decide +kernel⟩
theorem ok_numbers_of {f : Addr} {fd : FuncData} (F : Fun K "numbers_of" "numbers_of" s_numbers_of f fd) (hm : mg "numbers_of" = some (.ref f)) (hb : Binds K fd (["words"] : List Str) []) (T : Txt w K mg) (c_number_of : Def P w K mg base 1 "number_of" (["word"] : List Str) sp_number_of) : Def P w K mg base (1 + 1) "numbers_of" (["words"] : List Str) (bodyD 3 (t_numbers_of)) := def_mk F sc_numbers_of hm hb fun cdv A outer s H E hr => by
  have nd := sc_numbers_of.nd
  have tk := tkC (P := P) (w := w) (K := K) (mg := mg) (base := base) (N := (["words", "found", "word"] : List Str)) (qual := "numbers_of") (scope := defScope s_numbers_of) (f := f) (cd := cdv) (A := A) (outer := outer) (s := s) (H := H) (E := E)
  have po := poC (P := P) (w := w) (K := K) (mg := mg) (base := base) (N := (["words", "found", "word"] : List Str)) (qual := "numbers_of") (scope := defScope s_numbers_of) (f := f) (cd := cdv) (A := A) (outer := outer) (s := s) (H := H) (E := E)
  exact (dss_cons (ds_setLc (i := 1) (own := [("word", 2)]) nd (di_seq (dv 0)) (blkOk_by (N := (["words", "found", "word"] : List Str)) (sc := defScope s_numbers_of) (by decide +kernel)) (fun s_ H_ C_ cl_ fp_ => (dg_name (i := 2) nd)) (fun s_ H_ C_ cl_ fp_ => dts_nil) (fun s_ H_ C_ cl_ fp_ => (de_callD c_number_of hr takes0 (da_cons (dv 2) da_nil))) rfl)
    (dss_one (ds_ret (de_if (dt_cmp (do_in hr.units) de_non (dv 1)) de_non (de_T dc_tuple T.n_tuple b_tuple (da_cons (dv 1) da_nil))))))
abbrev s_read_book : Stmt := top 29
theorem sc_read_book : FnScope (["text", "lines", "rest", "found", "at", "line", "words", "numbers"] : List Str) (["text"] : List Str) (defScope s_read_book) := ⟨rfl, rfl, rfl, by decide +kernel, rfl, by decide +kernel, by decide +kernel⟩
theorem ok_read_book {f : Addr} {fd : FuncData} (F : Fun K "read_book" "read_book" s_read_book f fd) (hm : mg "read_book" = some (.ref f)) (hb : Binds K fd (["text"] : List Str) []) (T : Txt w K mg) (c_numbers_of : Def P w K mg base 2 "numbers_of" (["words"] : List Str) sp_numbers_of) (c_Book : Ctor P w K mg base 4 "Book" (["self", "posts", "may"] : List Str) sp_init_Book) (c_x_BadText : Xc1 P w K mg base "BadText" "line") : Def P w K mg base (5 + 1) "read_book" (["text"] : List Str) (bodyD 8 (t_read_book)) := def_mk F sc_read_book hm hb fun cdv A outer s H E hr => by
  have nd := sc_read_book.nd
  have tk := tkC (P := P) (w := w) (K := K) (mg := mg) (base := base) (N := (["text", "lines", "rest", "found", "at", "line", "words", "numbers"] : List Str)) (qual := "read_book") (scope := defScope s_read_book) (f := f) (cd := cdv) (A := A) (outer := outer) (s := s) (H := H) (E := E)
  have po := poC (P := P) (w := w) (K := K) (mg := mg) (base := base) (N := (["text", "lines", "rest", "found", "at", "line", "words", "numbers"] : List Str)) (qual := "read_book") (scope := defScope s_read_book) (f := f) (cd := cdv) (A := A) (outer := outer) (s := s) (H := H) (E := E)
  exact (dss_cons (ds_if (dt_not (dt_val (de_B (dc_isi T.own) T.n_isinstance b_isinstance (da_cons (dv 0) (da_cons (de_ty rfl T.n_str b_str) da_nil))))) (dss_one (ds_raise1D (nm := "BadText") c_x_BadText hr tk (da_cons de_int da_nil))) dss_nil)
    (dss_cons (ds_set (i := 1) (de_m PySem.F.plainAttrs_str PySem.F.slot_str_split PySem.F.type_str_split dm_splitR (dv 0) (da_cons de_str da_nil)) nd)
    (dss_cons (ds_set (i := 2) (de_m0 PySem.F.plainAttrs_list PySem.F.slot_list_pop PySem.F.type_list_pop dm_pop (dv 1)) nd)
    (dss_cons (ds_set (i := 3) (de_ref da_nil) nd)
    (dss_cons (ds_for (vs := [4, 5]) po (di_enum (da_cons (dv 1) da_nil) rfl T.n_enumerate) (dg_tup (dgs_cons (dg_name (i := 4) nd) (dgs_cons (dg_name (i := 5) nd) dgs_nil))) (dss_cons (ds_set (i := 6) (de_m PySem.F.plainAttrs_str PySem.F.slot_str_split PySem.F.type_str_split dm_split (dv 5) (da_cons de_str da_nil)) nd)
    (dss_cons (ds_set (i := 7) (de_callD c_numbers_of hr tk (da_cons (de_sl (dv 6) (do_some de_int) do_none) da_nil)) nd)
    (dss_cons (ds_if (dt_w (dw_or (dt_cmp do_is (dv 7) de_non) (dw_or (dt_cmp do_neS (de_ix hr.units (dv 6) de_int) (de_if (dt_cmp do_gt (dv 4) de_int) de_str de_str)) (dw_or1 (dt_w (dw_and (dt_cmp (do_eq hr.units) (dv 4) de_int) (dw_and1 (dt_cmp (do_ne hr.units) (de_B dc_len T.n_len b_len (da_cons (dv 7) da_nil)) de_int)))))))) (dss_one (ds_raise1D (nm := "BadText") c_x_BadText hr tk (da_cons (de_op2 do_add (dv 4) de_int) da_nil))) dss_nil)
    (dss_one (ds_expr (de_m PySem.F.plainAttrs_list PySem.F.slot_list_append PySem.F.type_list_append dm_append (dv 3) (da_cons (dv 7) da_nil))))))))
    (dss_cons (ds_if (dt_w (dw_or (dt_cmp do_neS (dv 2) de_str) (dw_or1 (dt_cmp (do_eq hr.units) (de_B dc_len T.n_len b_len (da_cons (dv 1) da_nil)) de_int)))) (dss_one (ds_raise1D (nm := "BadText") c_x_BadText hr tk (da_cons (de_op2 do_add (de_B dc_len T.n_len b_len (da_cons (dv 1) da_nil)) de_int) da_nil))) dss_nil)
    (dss_one (ds_ret (de_mkVD (c := "Book") c_Book hr tk (da_cons (de_ix hr.units (de_ix hr.units (dv 3) de_int) de_int) (da_cons (de_T dc_tuple T.n_tuple b_tuple (da_cons (de_sl (dv 3) (do_some de_int) do_none) da_nil)) da_nil)))))))))))
abbrev s_check_book : Stmt := top 19
theorem sc_check_book : FnScope (["book"] : List Str) (["book"] : List Str) (defScope s_check_book) := ⟨rfl, rfl, rfl, by decide +kernel, rfl, by decide +kernel, by decide +kernel⟩
theorem ok_check_book {f : Addr} {fd : FuncData} (F : Fun K "check_book" "check_book" s_check_book f fd) (hm : mg "check_book" = some (.ref f)) (hb : Binds K fd (["book"] : List Str) []) (T : Txt w K mg)  : Def P w K mg base (2 + 1) "check_book" (["book"] : List Str) (bodyD 1 (t_check_book)) := def_mk F sc_check_book hm hb fun cdv A outer s H E hr => by
  have nd := sc_check_book.nd
  have tk := tkC (P := P) (w := w) (K := K) (mg := mg) (base := base) (N := (["book"] : List Str)) (qual := "check_book") (scope := defScope s_check_book) (f := f) (cd := cdv) (A := A) (outer := outer) (s := s) (H := H) (E := E)
  have po := poC (P := P) (w := w) (K := K) (mg := mg) (base := base) (N := (["book"] : List Str)) (qual := "check_book") (scope := defScope s_check_book) (f := f) (cd := cdv) (A := A) (outer := outer) (s := s) (H := H) (E := E)
  exact (dss_one (ds_if (dt_not (dt_val (de_B (dc_isi T.own) T.n_isinstance b_isinstance (da_cons (dv 0) (da_cons (de_gcls T.g_Book) da_nil))))) (dss_one (ds_raise0D (nm := "NoBook") T.x_NoBook tk)) dss_nil))
abbrev s_line_of : Stmt := top 24
theorem sc_line_of : FnScope (["word", "numbers", "number"] : List Str) (["word", "numbers"] : List Str) (defScope s_line_of) := ⟨rfl, rfl, rfl, by decide +kernel, rfl, by decide +kernel, by decide +kernel⟩
theorem ok_line_of {f : Addr} {fd : FuncData} (F : Fun K "line_of" "line_of" s_line_of f fd) (hm : mg "line_of" = some (.ref f)) (hb : Binds K fd (["word", "numbers"] : List Str) []) (T : Txt w K mg)  : Def P w K mg base (0 + 1) "line_of" (["word", "numbers"] : List Str) (bodyD 3 (t_line_of)) := def_mk F sc_line_of hm hb fun cdv A outer s H E hr => by
  have nd := sc_line_of.nd
  have tk := tkC (P := P) (w := w) (K := K) (mg := mg) (base := base) (N := (["word", "numbers", "number"] : List Str)) (qual := "line_of") (scope := defScope s_line_of) (f := f) (cd := cdv) (A := A) (outer := outer) (s := s) (H := H) (E := E)
  have po := poC (P := P) (w := w) (K := K) (mg := mg) (base := base) (N := (["word", "numbers", "number"] : List Str)) (qual := "line_of") (scope := defScope s_line_of) (f := f) (cd := cdv) (A := A) (outer := outer) (s := s) (H := H) (E := E)
  exact (dss_one (ds_ret (de_op2 do_add (de_m PySem.F.plainAttrs_str PySem.F.slot_str_join PySem.F.type_str_join dm_join de_str (da_cons (de_op2 do_add (de_lst (da_cons (dv 0) da_nil)) (de_lc (own := [("number", 2)]) nd (di_seq (dv 1)) (blkOk_by (N := (["word", "numbers", "number"] : List Str)) (sc := defScope s_line_of) (by decide +kernel)) (fun s_ H_ C_ cl_ fp_ => (dg_name (i := 2) nd)) (fun s_ H_ C_ cl_ fp_ => dts_nil) (fun s_ H_ C_ cl_ fp_ => (de_T dc_str T.n_str b_str (da_cons (dv 2) da_nil))))) da_nil)) de_str)))
abbrev s_text_of : Stmt := top 25
theorem sc_text_of : FnScope (["book", "some"] : List Str) (["book"] : List Str) (defScope s_text_of) := ⟨rfl, rfl, rfl, by decide +kernel, rfl, by decide +kernel, by decide +kernel⟩
theorem ok_text_of {f : Addr} {fd : FuncData} (F : Fun K "text_of" "text_of" s_text_of f fd) (hm : mg "text_of" = some (.ref f)) (hb : Binds K fd (["book"] : List Str) []) (T : Txt w K mg) (c_line_of : Def P w K mg base 1 "line_of" (["word", "numbers"] : List Str) sp_line_of) : Def P w K mg base (1 + 1) "text_of" (["book"] : List Str) (bodyD 2 (t_text_of)) := def_mk F sc_text_of hm hb fun cdv A outer s H E hr => by
  have nd := sc_text_of.nd
  have tk := tkC (P := P) (w := w) (K := K) (mg := mg) (base := base) (N := (["book", "some"] : List Str)) (qual := "text_of") (scope := defScope s_text_of) (f := f) (cd := cdv) (A := A) (outer := outer) (s := s) (H := H) (E := E)
  have po := poC (P := P) (w := w) (K := K) (mg := mg) (base := base) (N := (["book", "some"] : List Str)) (qual := "text_of") (scope := defScope s_text_of) (f := f) (cd := cdv) (A := A) (outer := outer) (s := s) (H := H) (E := E)
  exact (dss_one (ds_ret (de_m PySem.F.plainAttrs_str PySem.F.slot_str_join PySem.F.type_str_join dm_join de_str (da_cons (de_op2 do_add (de_lst (da_cons (de_callD c_line_of hr tk (da_cons de_str (da_cons (de_tup (da_cons (de_fld T.f_posts (dv 0)) da_nil)) da_nil))) da_nil)) (de_lc (own := [("some", 1)]) nd (di_seq (de_fld T.f_may (dv 0))) (blkOk_by (N := (["book", "some"] : List Str)) (sc := defScope s_text_of) (by decide +kernel)) (fun s_ H_ C_ cl_ fp_ => (dg_name (i := 1) nd)) (fun s_ H_ C_ cl_ fp_ => dts_nil) (fun s_ H_ C_ cl_ fp_ => (de_callD c_line_of hr takes0 (da_cons de_str (da_cons (dv 1) da_nil)))))) da_nil))))
abbrev s_book_text : Stmt := top 26
theorem sc_book_text : FnScope (["book"] : List Str) (["book"] : List Str) (defScope s_book_text) := ⟨rfl, rfl, rfl, by decide +kernel, rfl, by decide +kernel, by decide +kernel⟩
theorem ok_book_text {f : Addr} {fd : FuncData} (F : Fun K "book_text" "book_text" s_book_text f fd) (hm : mg "book_text" = some (.ref f)) (hb : Binds K fd (["book"] : List Str) []) (T : Txt w K mg) (c_check_book : Def P w K mg base 3 "check_book" (["book"] : List Str) sp_check_book) (c_text_of : Def P w K mg base 2 "text_of" (["book"] : List Str) sp_text_of) : Def P w K mg base (3 + 1) "book_text" (["book"] : List Str) (bodyD 1 (t_book_text)) := def_mk F sc_book_text hm hb fun cdv A outer s H E hr => by
  have nd := sc_book_text.nd
  have tk := tkC (P := P) (w := w) (K := K) (mg := mg) (base := base) (N := (["book"] : List Str)) (qual := "book_text") (scope := defScope s_book_text) (f := f) (cd := cdv) (A := A) (outer := outer) (s := s) (H := H) (E := E)
  have po := poC (P := P) (w := w) (K := K) (mg := mg) (base := base) (N := (["book"] : List Str)) (qual := "book_text") (scope := defScope s_book_text) (f := f) (cd := cdv) (A := A) (outer := outer) (s := s) (H := H) (E := E)
  exact (dss_cons (ds_expr (de_callD c_check_book hr tk (da_cons (dv 0) da_nil)))
    (dss_one (ds_ret (de_callD c_text_of hr tk (da_cons (dv 0) da_nil)))))
abbrev s_fills : Stmt := top 20
theorem sc_fills : FnScope (["book", "person", "post"] : List Str) (["book", "person", "post"] : List Str) (defScope s_fills) := ⟨rfl, rfl, rfl, by decide +kernel, rfl, by decide +kernel, by decide +kernel⟩
theorem ok_fills {f : Addr} {fd : FuncData} (F : Fun K "fills" "fills" s_fills f fd) (hm : mg "fills" = some (.ref f)) (hb : Binds K fd (["book", "person", "post"] : List Str) []) (T : Txt w K mg) (c_is_integer : Def P w K mg base 1 "is_integer" (["thing"] : List Str) sp_is_integer) : Def P w K mg base (1 + 1) "fills" (["book", "person", "post"] : List Str) (bodyD 3 (t_fills)) := def_mk F sc_fills hm hb fun cdv A outer s H E hr => by
  have nd := sc_fills.nd
  have tk := tkC (P := P) (w := w) (K := K) (mg := mg) (base := base) (N := (["book", "person", "post"] : List Str)) (qual := "fills") (scope := defScope s_fills) (f := f) (cd := cdv) (A := A) (outer := outer) (s := s) (H := H) (E := E)
  have po := poC (P := P) (w := w) (K := K) (mg := mg) (base := base) (N := (["book", "person", "post"] : List Str)) (qual := "fills") (scope := defScope s_fills) (f := f) (cd := cdv) (A := A) (outer := outer) (s := s) (H := H) (E := E)
  exact (dss_one (ds_ret (de_or (de_cmp do_is (dv 2) de_non) (de_one (de_and (de_callD c_is_integer hr tk (da_cons (dv 2) da_nil)) (de_one (de_cmp (do_in hr.units) (dv 2) (de_ix hr.units (de_fld T.f_may (dv 0)) (dv 1)))))))))
abbrev s_is_right : Stmt := top 21
theorem sc_is_right : FnScope (["book", "thing", "told", "post", "person"] : List Str) (["book", "thing"] : List Str) (defScope s_is_right) := ⟨rfl, rfl, rfl, by decide +kernel, rfl, by decide +kernel, by decide +kernel⟩
theorem ok_is_right {f : Addr} {fd : FuncData} (F : Fun K "is_right" "is_right" s_is_right f fd) (hm : mg "is_right" = some (.ref f)) (hb : Binds K fd (["book", "thing"] : List Str) []) (T : Txt w K mg) (c_fills : Def P w K mg base 2 "fills" (["book", "person", "post"] : List Str) sp_fills) : Def P w K mg base (2 + 1) "is_right" (["book", "thing"] : List Str) (bodyD 5 (t_is_right)) := def_mk F sc_is_right hm hb fun cdv A outer s H E hr => by
  have nd := sc_is_right.nd
  have tk := tkC (P := P) (w := w) (K := K) (mg := mg) (base := base) (N := (["book", "thing", "told", "post", "person"] : List Str)) (qual := "is_right") (scope := defScope s_is_right) (f := f) (cd := cdv) (A := A) (outer := outer) (s := s) (H := H) (E := E)
  have po := poC (P := P) (w := w) (K := K) (mg := mg) (base := base) (N := (["book", "thing", "told", "post", "person"] : List Str)) (qual := "is_right") (scope := defScope s_is_right) (f := f) (cd := cdv) (A := A) (outer := outer) (s := s) (H := H) (E := E)
  exact (dss_cons (ds_if (dt_w (dw_or (dt_not (dt_val (de_B (dc_isi T.own) T.n_isinstance b_isinstance (da_cons (dv 1) (da_cons (de_ty rfl T.n_tuple b_tuple) da_nil))))) (dw_or1 (dt_cmp (do_ne hr.units) (de_B dc_len T.n_len b_len (da_cons (dv 1) da_nil)) (de_B dc_len T.n_len b_len (da_cons (de_fld T.f_may (dv 0)) da_nil)))))) (dss_one (ds_ret de_bl)) dss_nil)
    (dss_cons (ds_if (dt_not (dt_val (de_B (dc_all rfl) T.n_all b_all (da_cons (de_lc (own := [("person", 4), ("post", 3)]) nd (di_enum (da_cons (dv 1) da_nil) rfl T.n_enumerate) (blkOk_by (N := (["book", "thing", "told", "post", "person"] : List Str)) (sc := defScope s_is_right) (by decide +kernel)) (fun s_ H_ C_ cl_ fp_ => (dg_tup (dgs_cons (dg_name (i := 4) nd) (dgs_cons (dg_name (i := 3) nd) dgs_nil)))) (fun s_ H_ C_ cl_ fp_ => dts_nil) (fun s_ H_ C_ cl_ fp_ => (de_callD c_fills hr takes0 (da_cons (dv 0) (da_cons (dv 4) (da_cons (dv 3) da_nil)))))) da_nil)))) (dss_one (ds_ret de_bl)) dss_nil)
    (dss_cons (ds_setLc (i := 2) (own := [("post", 3)]) nd (di_seq (dv 1)) (blkOk_by (N := (["book", "thing", "told", "post", "person"] : List Str)) (sc := defScope s_is_right) (by decide +kernel)) (fun s_ H_ C_ cl_ fp_ => (dg_name (i := 3) nd)) (fun s_ H_ C_ cl_ fp_ => (dts_one (dt_cmp do_isnot (dv 3) de_non))) (fun s_ H_ C_ cl_ fp_ => (dv 3)) rfl)
    (dss_one (ds_ret (de_cmp (do_eq hr.units) (de_lenSet rfl T.n_len rfl T.n_set (dv 2)) (de_B dc_len T.n_len b_len (da_cons (dv 2) da_nil))))))))
abbrev s_check_filling : Stmt := top 22
theorem sc_check_filling : FnScope (["book", "filling"] : List Str) (["book", "filling"] : List Str) (defScope s_check_filling) := ⟨rfl, rfl, rfl, by decide +kernel, rfl, by decide +kernel, by decide +kernel⟩
theorem ok_check_filling {f : Addr} {fd : FuncData} (F : Fun K "check_filling" "check_filling" s_check_filling f fd) (hm : mg "check_filling" = some (.ref f)) (hb : Binds K fd (["book", "filling"] : List Str) []) (T : Txt w K mg) (c_check_book : Def P w K mg base 3 "check_book" (["book"] : List Str) sp_check_book) (c_is_right : Def P w K mg base 3 "is_right" (["book", "thing"] : List Str) sp_is_right) : Def P w K mg base (3 + 1) "check_filling" (["book", "filling"] : List Str) (bodyD 2 (t_check_filling)) := def_mk F sc_check_filling hm hb fun cdv A outer s H E hr => by
  have nd := sc_check_filling.nd
  have tk := tkC (P := P) (w := w) (K := K) (mg := mg) (base := base) (N := (["book", "filling"] : List Str)) (qual := "check_filling") (scope := defScope s_check_filling) (f := f) (cd := cdv) (A := A) (outer := outer) (s := s) (H := H) (E := E)
  have po := poC (P := P) (w := w) (K := K) (mg := mg) (base := base) (N := (["book", "filling"] : List Str)) (qual := "check_filling") (scope := defScope s_check_filling) (f := f) (cd := cdv) (A := A) (outer := outer) (s := s) (H := H) (E := E)
  exact (dss_cons (ds_expr (de_callD c_check_book hr tk (da_cons (dv 0) da_nil)))
    (dss_one (ds_if (dt_not (dt_val (de_callD c_is_right hr tk (da_cons (dv 0) (da_cons (dv 1) da_nil))))) (dss_one (ds_raise0D (nm := "BadFilling") T.x_BadFilling tk)) dss_nil)))
abbrev s_init_Desk : Stmt := inClass (top 57) 0
theorem sc_init_Desk : FnScope (["self", "book", "filling"] : List Str) (["self", "book", "filling"] : List Str) (defScope s_init_Desk) := ⟨rfl, rfl, rfl, by decide +kernel, rfl, by decide +kernel, by decide +kernel⟩
theorem ok_init_Desk {f C : Addr} {fd : FuncData} (F : Fun K "__init__" "Desk.__init__" s_init_Desk f fd) (hm : mg (Str.ofString "Desk") = some (.ref C)) (M : Mk K C f) (hb : Binds K fd (["self", "book", "filling"] : List Str) []) (T : Txt w K mg) (c_check_filling : Def P w K mg base 4 "check_filling" (["book", "filling"] : List Str) sp_check_filling) : Ctor P w K mg base (4 + 1) "Desk" (["self", "book", "filling"] : List Str) (bodyD 3 (t_init_Desk)) := ctor_mk F sc_init_Desk hm M hb fun cdv A outer s H E hr => by
  have nd := sc_init_Desk.nd
  have tk := tkC (P := P) (w := w) (K := K) (mg := mg) (base := base) (N := (["self", "book", "filling"] : List Str)) (qual := "Desk.__init__") (scope := defScope s_init_Desk) (f := f) (cd := cdv) (A := A) (outer := outer) (s := s) (H := H) (E := E)
  have po := poC (P := P) (w := w) (K := K) (mg := mg) (base := base) (N := (["self", "book", "filling"] : List Str)) (qual := "Desk.__init__") (scope := defScope s_init_Desk) (f := f) (cd := cdv) (A := A) (outer := outer) (s := s) (H := H) (E := E)
  exact (dss_cons (ds_expr (de_callD c_check_filling hr tk (da_cons (dv 1) (da_cons (dv 2) da_nil))))
    (dss_cons (ds_fld T.fA_book (dv 0) (dv 1))
    (dss_cons (ds_fld T.fA_size (dv 0) de_int)
    (dss_one (ds_fld T.fA_stood (dv 0) (de_ref (da_cons (dv 2) da_nil)))))))
abbrev s_Desk_text : Stmt := inClass (top 57) 1
theorem sc_Desk_text : FnScope (["self", "words", "post"] : List Str) (["self"] : List Str) (defScope s_Desk_text) := ⟨rfl, rfl, rfl, by decide +kernel, rfl, by decide +kernel, by decide +kernel⟩
theorem ok_Desk_text {f : Addr} {fd : FuncData} (F : Fun K "text" "Desk.text" s_Desk_text f fd) (T : Txt w K mg) (c_text_of : Def P w K mg base 2 "text_of" (["book"] : List Str) sp_text_of) : FnG P w K mg base (L2N.CX P w) (2 + 1) f fd (["self"] : List Str) (LSp K mg 1 (bodyD 3 (t_Desk_text))) := fn_ok F sc_Desk_text fun cdv A outer s H E hr => by
  have nd := sc_Desk_text.nd
  have tk := tkC (P := P) (w := w) (K := K) (mg := mg) (base := base) (N := (["self", "words", "post"] : List Str)) (qual := "Desk.text") (scope := defScope s_Desk_text) (f := f) (cd := cdv) (A := A) (outer := outer) (s := s) (H := H) (E := E)
  have po := poC (P := P) (w := w) (K := K) (mg := mg) (base := base) (N := (["self", "words", "post"] : List Str)) (qual := "Desk.text") (scope := defScope s_Desk_text) (f := f) (cd := cdv) (A := A) (outer := outer) (s := s) (H := H) (E := E)
  exact (dss_cons (ds_setLc (i := 1) (own := [("post", 2)]) nd (di_seq (de_ix hr.units (de_fld T.fA_stood (dv 0)) de_negc)) (blkOk_by (N := (["self", "words", "post"] : List Str)) (sc := defScope s_Desk_text) (by decide +kernel)) (fun s_ H_ C_ cl_ fp_ => (dg_name (i := 2) nd)) (fun s_ H_ C_ cl_ fp_ => dts_nil) (fun s_ H_ C_ cl_ fp_ => (de_if (dt_cmp do_is (dv 2) de_non) de_str (de_T dc_str T.n_str b_str (da_cons (dv 2) da_nil)))) rfl)
    (dss_one (ds_ret (de_op2 do_add (de_op2 do_add (de_callD c_text_of hr tk (da_cons (de_fld T.fA_book (dv 0)) da_nil)) (de_m PySem.F.plainAttrs_str PySem.F.slot_str_join PySem.F.type_str_join dm_join de_str (da_cons (de_op2 do_add (de_lst (da_cons de_str da_nil)) (dv 1)) da_nil))) de_str))))
abbrev s_is_form : Stmt := top 42
theorem sc_is_form : FnScope (["book", "thing", "person"] : List Str) (["book", "thing"] : List Str) (defScope s_is_form) := ⟨rfl, rfl, rfl, by decide +kernel, rfl, by decide +kernel, by decide +kernel⟩
theorem ok_is_form {f : Addr} {fd : FuncData} (F : Fun K "is_form" "is_form" s_is_form f fd) (hm : mg "is_form" = some (.ref f)) (hb : Binds K fd (["book", "thing"] : List Str) []) (T : Txt w K mg) (c_is_within : Def P w K mg base 2 "is_within" (["thing", "low", "high"] : List Str) sp_is_within) : Def P w K mg base (2 + 1) "is_form" (["book", "thing"] : List Str) (bodyD 3 (t_is_form)) := def_mk F sc_is_form hm hb fun cdv A outer s H E hr => by
  have nd := sc_is_form.nd
  have tk := tkC (P := P) (w := w) (K := K) (mg := mg) (base := base) (N := (["book", "thing", "person"] : List Str)) (qual := "is_form") (scope := defScope s_is_form) (f := f) (cd := cdv) (A := A) (outer := outer) (s := s) (H := H) (E := E)
  have po := poC (P := P) (w := w) (K := K) (mg := mg) (base := base) (N := (["book", "thing", "person"] : List Str)) (qual := "is_form") (scope := defScope s_is_form) (f := f) (cd := cdv) (A := A) (outer := outer) (s := s) (H := H) (E := E)
  exact (dss_cons (ds_if (dt_w (dw_or (dt_not (dt_val (de_B (dc_isi T.own) T.n_isinstance b_isinstance (da_cons (dv 1) (da_cons (de_ty rfl T.n_tuple b_tuple) da_nil))))) (dw_or1 (dt_not (dt_chain do_le do_le de_int (de_B dc_len T.n_len b_len (da_cons (dv 1) da_nil)) (de_gint T.c_MOST_SIZE)))))) (dss_one (ds_ret de_bl)) dss_nil)
    (dss_cons (ds_if (dt_not (dt_val (de_B (dc_all rfl) T.n_all b_all (da_cons (de_lc (own := [("person", 2)]) nd (di_seq (dv 1)) (blkOk_by (N := (["book", "thing", "person"] : List Str)) (sc := defScope s_is_form) (by decide +kernel)) (fun s_ H_ C_ cl_ fp_ => (dg_name (i := 2) nd)) (fun s_ H_ C_ cl_ fp_ => dts_nil) (fun s_ H_ C_ cl_ fp_ => (de_callD c_is_within hr takes0 (da_cons (dv 2) (da_cons de_int (da_cons (de_op2 do_sub (de_B dc_len T.n_len b_len (da_cons (de_fld T.f_may (dv 0)) da_nil)) de_int) da_nil)))))) da_nil)))) (dss_one (ds_ret de_bl)) dss_nil)
    (dss_one (ds_ret (de_and (de_cmp (do_eq hr.units) (de_lenSet rfl T.n_len rfl T.n_set (dv 1)) (de_B dc_len T.n_len b_len (da_cons (dv 1) da_nil))) (de_one (de_cmp (do_eq hr.units) (de_ix hr.units (dv 1) de_int) (de_B (dc_minI rfl) T.n_min b_min (da_cons (dv 1) da_nil)))))))))
abbrev s_goes : Stmt := top 43
theorem sc_goes : FnScope (["book", "filling", "thing", "person", "later"] : List Str) (["book", "filling", "thing"] : List Str) (defScope s_goes) := ⟨rfl, rfl, rfl, by decide +kernel, rfl, by decide +kernel, by decide +kernel⟩
theorem ok_goes {f : Addr} {fd : FuncData} (F : Fun K "goes" "goes" s_goes f fd) (hm : mg "goes" = some (.ref f)) (hb : Binds K fd (["book", "filling", "thing"] : List Str) []) (T : Txt w K mg) (c_is_form : Def P w K mg base 3 "is_form" (["book", "thing"] : List Str) sp_is_form) : Def P w K mg base (3 + 1) "goes" (["book", "filling", "thing"] : List Str) (bodyD 5 (t_goes)) := def_mk F sc_goes hm hb fun cdv A outer s H E hr => by
  have nd := sc_goes.nd
  have tk := tkC (P := P) (w := w) (K := K) (mg := mg) (base := base) (N := (["book", "filling", "thing", "person", "later"] : List Str)) (qual := "goes") (scope := defScope s_goes) (f := f) (cd := cdv) (A := A) (outer := outer) (s := s) (H := H) (E := E)
  have po := poC (P := P) (w := w) (K := K) (mg := mg) (base := base) (N := (["book", "filling", "thing", "person", "later"] : List Str)) (qual := "goes") (scope := defScope s_goes) (f := f) (cd := cdv) (A := A) (outer := outer) (s := s) (H := H) (E := E)
  exact (dss_cons (ds_if (dt_w (dw_or (dt_not (dt_val (de_callD c_is_form hr tk (da_cons (dv 0) (da_cons (dv 2) da_nil))))) (dw_or1 (dt_val (de_B (dc_any rfl) T.n_any b_any (da_cons (de_lc (own := [("person", 3)]) nd (di_seq (dv 2)) (blkOk_by (N := (["book", "filling", "thing", "person", "later"] : List Str)) (sc := defScope s_goes) (by decide +kernel)) (fun s_ H_ C_ cl_ fp_ => (dg_name (i := 3) nd)) (fun s_ H_ C_ cl_ fp_ => dts_nil) (fun s_ H_ C_ cl_ fp_ => (de_cmp do_is (de_ix hr.units (dv 1) (dv 3)) de_non))) da_nil)))))) (dss_one (ds_ret de_bl)) dss_nil)
    (dss_one (ds_ret (de_B (dc_all rfl) T.n_all b_all (da_cons (de_lc (own := [("person", 3), ("later", 4)]) nd (di_zip (da_cons (dv 2) (da_cons (de_op2 do_add (de_sl (dv 2) (do_some de_int) do_none) (de_sl (dv 2) do_none (do_some de_int))) da_nil)) rfl T.n_zip) (blkOk_by (N := (["book", "filling", "thing", "person", "later"] : List Str)) (sc := defScope s_goes) (by decide +kernel)) (fun s_ H_ C_ cl_ fp_ => (dg_tup (dgs_cons (dg_name (i := 3) nd) (dgs_cons (dg_name (i := 4) nd) dgs_nil)))) (fun s_ H_ C_ cl_ fp_ => dts_nil) (fun s_ H_ C_ cl_ fp_ => (de_cmp (do_in hr.units) (de_ix hr.units (dv 1) (dv 4)) (de_ix hr.units (de_fld T.f_may (dv 0)) (dv 3))))) da_nil)))))
abbrev s_behind : Stmt := top 44
theorem sc_behind : FnScope (["filling", "exchange", "found", "person", "later"] : List Str) (["filling", "exchange"] : List Str) (defScope s_behind) := ⟨rfl, rfl, rfl, by decide +kernel, rfl, by decide +kernel, by decide +kernel⟩
theorem ok_behind {f : Addr} {fd : FuncData} (F : Fun K "behind" "behind" s_behind f fd) (hm : mg "behind" = some (.ref f)) (hb : Binds K fd (["filling", "exchange"] : List Str) []) (T : Txt w K mg)  : Def P w K mg base (0 + 1) "behind" (["filling", "exchange"] : List Str) (bodyD 5 (t_behind)) := def_mk F sc_behind hm hb fun cdv A outer s H E hr => by
  have nd := sc_behind.nd
  have tk := tkC (P := P) (w := w) (K := K) (mg := mg) (base := base) (N := (["filling", "exchange", "found", "person", "later"] : List Str)) (qual := "behind") (scope := defScope s_behind) (f := f) (cd := cdv) (A := A) (outer := outer) (s := s) (H := H) (E := E)
  have po := poC (P := P) (w := w) (K := K) (mg := mg) (base := base) (N := (["filling", "exchange", "found", "person", "later"] : List Str)) (qual := "behind") (scope := defScope s_behind) (f := f) (cd := cdv) (A := A) (outer := outer) (s := s) (H := H) (E := E)
  exact (dss_cons (ds_set (i := 2) (de_T dc_listR T.n_list b_list (da_cons (dv 0) da_nil)) nd)
    (dss_cons (ds_for (vs := [3, 4]) po (di_zip (da_cons (dv 1) (da_cons (de_op2 do_add (de_sl (dv 1) (do_some de_int) do_none) (de_sl (dv 1) do_none (do_some de_int))) da_nil)) rfl T.n_zip) (dg_tup (dgs_cons (dg_name (i := 3) nd) (dgs_cons (dg_name (i := 4) nd) dgs_nil))) (dss_one (ds_sub (dv 2) (dv 3) (de_ix hr.units (dv 0) (dv 4)) hr.units)))
    (dss_one (ds_ret (de_T dc_tuple T.n_tuple b_tuple (da_cons (dv 2) da_nil))))))
abbrev s_exchanged : Stmt := top 45
theorem sc_exchanged : FnScope (["book", "filling", "exchange"] : List Str) (["book", "filling", "exchange"] : List Str) (defScope s_exchanged) := ⟨rfl, rfl, rfl, by decide +kernel, rfl, by decide +kernel, by decide +kernel⟩
theorem ok_exchanged {f : Addr} {fd : FuncData} (F : Fun K "exchanged" "exchanged" s_exchanged f fd) (hm : mg "exchanged" = some (.ref f)) (hb : Binds K fd (["book", "filling", "exchange"] : List Str) []) (T : Txt w K mg) (c_check_filling : Def P w K mg base 4 "check_filling" (["book", "filling"] : List Str) sp_check_filling) (c_goes : Def P w K mg base 4 "goes" (["book", "filling", "thing"] : List Str) sp_goes) (c_behind : Def P w K mg base 1 "behind" (["filling", "exchange"] : List Str) sp_behind) : Def P w K mg base (4 + 1) "exchanged" (["book", "filling", "exchange"] : List Str) (bodyD 3 (t_exchanged)) := def_mk F sc_exchanged hm hb fun cdv A outer s H E hr => by
  have nd := sc_exchanged.nd
  have tk := tkC (P := P) (w := w) (K := K) (mg := mg) (base := base) (N := (["book", "filling", "exchange"] : List Str)) (qual := "exchanged") (scope := defScope s_exchanged) (f := f) (cd := cdv) (A := A) (outer := outer) (s := s) (H := H) (E := E)
  have po := poC (P := P) (w := w) (K := K) (mg := mg) (base := base) (N := (["book", "filling", "exchange"] : List Str)) (qual := "exchanged") (scope := defScope s_exchanged) (f := f) (cd := cdv) (A := A) (outer := outer) (s := s) (H := H) (E := E)
  exact (dss_cons (ds_expr (de_callD c_check_filling hr tk (da_cons (dv 0) (da_cons (dv 1) da_nil))))
    (dss_cons (ds_if (dt_not (dt_val (de_callD c_goes hr tk (da_cons (dv 0) (da_cons (dv 1) (da_cons (dv 2) da_nil)))))) (dss_one (ds_raise0D (nm := "BadExchange") T.x_BadExchange tk)) dss_nil)
    (dss_one (ds_ret (de_callD c_behind hr tk (da_cons (dv 1) (da_cons (dv 2) da_nil)))))))
abbrev s_Desk_went : Stmt := inClass (top 57) 3
theorem sc_Desk_went : FnScope (["self", "exchange", "after"] : List Str) (["self", "exchange"] : List Str) (defScope s_Desk_went) := ⟨rfl, rfl, rfl, by decide +kernel, rfl, by decide +kernel, by decide +kernel⟩
theorem ok_Desk_went {f : Addr} {fd : FuncData} (F : Fun K "went" "Desk.went" s_Desk_went f fd) (T : Txt w K mg) (c_exchanged : Def P w K mg base 5 "exchanged" (["book", "filling", "exchange"] : List Str) sp_exchanged) : FnG P w K mg base (L2N.CX P w) (5 + 1) f fd (["self", "exchange"] : List Str) (LSp K mg 2 (bodyD 3 (t_Desk_went))) := fn_ok F sc_Desk_went fun cdv A outer s H E hr => by
  have nd := sc_Desk_went.nd
  have tk := tkC (P := P) (w := w) (K := K) (mg := mg) (base := base) (N := (["self", "exchange", "after"] : List Str)) (qual := "Desk.went") (scope := defScope s_Desk_went) (f := f) (cd := cdv) (A := A) (outer := outer) (s := s) (H := H) (E := E)
  have po := poC (P := P) (w := w) (K := K) (mg := mg) (base := base) (N := (["self", "exchange", "after"] : List Str)) (qual := "Desk.went") (scope := defScope s_Desk_went) (f := f) (cd := cdv) (A := A) (outer := outer) (s := s) (H := H) (E := E)
  exact (dss_cons (ds_set (i := 2) (de_callD c_exchanged hr tk (da_cons (de_fld T.fA_book (dv 0)) (da_cons (de_ix hr.units (de_fld T.fA_stood (dv 0)) de_negc) (da_cons (dv 1) da_nil)))) nd)
    (dss_cons (ds_if (dt_cmp do_gt (de_B dc_len T.n_len b_len (da_cons (dv 1) da_nil)) (de_fld T.fA_size (dv 0))) (dss_one ds_never) dss_nil)
    (dss_cons (ds_expr (de_m PySem.F.plainAttrs_list PySem.F.slot_list_append PySem.F.type_list_append dm_append (de_fld T.fA_stood (dv 0)) (da_cons (dv 2) da_nil)))
    (dss_one (ds_ret (de_gstr T.c_OK))))))
abbrev s_Desk_say : Stmt := inClass (top 57) 2
theorem sc_Desk_say : FnScope (["self", "line", "words", "numbers"] : List Str) (["self", "line"] : List Str) (defScope s_Desk_say) := ⟨rfl, rfl, rfl, by decide +kernel, rfl, by decide +kernel, by decide +kernel⟩
theorem ok_Desk_say {f : Addr} {fd : FuncData} (F : Fun K "say" "Desk.say" s_Desk_say f fd) (T : Txt w K mg) (c_numbers_of : Def P w K mg base 2 "numbers_of" (["words"] : List Str) sp_numbers_of) (m_Desk_went : MethD P w K mg base 6 "Desk" "went" (["self", "exchange"] : List Str) sp_Desk_went) : FnG P w K mg base (L2N.CX P w) (6 + 1) f fd (["self", "line"] : List Str) (LSp K mg 2 (bodyD 4 (t_Desk_say))) := fn_ok F sc_Desk_say fun cdv A outer s H E hr => by
  have nd := sc_Desk_say.nd
  have tk := tkC (P := P) (w := w) (K := K) (mg := mg) (base := base) (N := (["self", "line", "words", "numbers"] : List Str)) (qual := "Desk.say") (scope := defScope s_Desk_say) (f := f) (cd := cdv) (A := A) (outer := outer) (s := s) (H := H) (E := E)
  have po := poC (P := P) (w := w) (K := K) (mg := mg) (base := base) (N := (["self", "line", "words", "numbers"] : List Str)) (qual := "Desk.say") (scope := defScope s_Desk_say) (f := f) (cd := cdv) (A := A) (outer := outer) (s := s) (H := H) (E := E)
  exact (dss_cons (ds_if (dt_not (dt_val (de_B (dc_isi T.ownA) T.n_isinstance b_isinstance (da_cons (dv 1) (da_cons (de_ty rfl T.n_str b_str) da_nil))))) (dss_one ds_never) dss_nil)
    (dss_cons (ds_set (i := 2) (de_m PySem.F.plainAttrs_str PySem.F.slot_str_split PySem.F.type_str_split dm_split (dv 1) (da_cons de_str da_nil)) nd)
    (dss_cons (ds_set (i := 3) (de_callD c_numbers_of hr tk (da_cons (de_sl (dv 2) (do_some de_int) do_none) da_nil)) nd)
    (dss_cons (ds_if (dt_cmp do_is (dv 3) de_non) (dss_one ds_never) dss_nil)
    (dss_cons (ds_if (dt_w (dw_and (dt_cmp do_eqS (de_ix hr.units (dv 2) de_int) (de_gstr T.c_GO)) (dw_and1 (dt_cmp do_gt (de_B dc_len T.n_len b_len (da_cons (dv 3) da_nil)) de_int)))) (dss_one (ds_ret (de_meth _ m_Desk_went hr tk (dv 0) (da_cons (dv 3) da_nil)))) dss_nil)
    (dss_cons (ds_if (dt_cmp (do_ne hr.units) (de_B dc_len T.n_len b_len (da_cons (dv 3) da_nil)) (de_mget T.c_MANY (de_ix hr.units (dv 2) de_int) de_negc)) (dss_one ds_never) dss_nil)
    (dss_cons (ds_if (dt_cmp do_eqS (de_ix hr.units (dv 2) de_int) de_str) (dss_cons ds_never
    (dss_cons ds_never
    (dss_one ds_never))) dss_nil)
    (dss_cons (ds_if (dt_cmp do_eqS (de_ix hr.units (dv 2) de_int) de_str) (dss_cons (ds_if (dt_cmp (do_eq hr.units) (de_B dc_len T.n_len b_len (da_cons (de_fld T.fA_stood (dv 0)) da_nil)) de_int) (dss_one (ds_ret (de_gstr T.c_NO))) dss_nil)
    (dss_cons (ds_expr (de_m0 PySem.F.plainAttrs_list PySem.F.slot_list_pop PySem.F.type_list_pop dm_pop (de_fld T.fA_stood (dv 0))))
    (dss_one (ds_ret (de_gstr T.c_YES))))) dss_nil)
    (dss_one ds_never)))))))))
abbrev s__law_hand : Stmt := top 59
theorem sc__law_hand : FnScope (["script", "cells", "cell"] : List Str) (["script"] : List Str) (defScope s__law_hand) := ⟨rfl, rfl, rfl, by decide +kernel, rfl, by decide +kernel, by decide +kernel⟩
theorem ok__law_hand {f : Addr} {fd : FuncData} (F : Fun K "_law_hand" "_law_hand" s__law_hand f fd) (hm : mg "_law_hand" = some (.ref f)) (hb : Binds K fd (["script"] : List Str) []) (T : Txt w K mg)  : Def P w K mg base (0 + 1) "_law_hand" (["script"] : List Str) (bodyD 3 (t__law_hand)) := def_mk F sc__law_hand hm hb fun cdv A outer s H E hr => by
  have nd := sc__law_hand.nd
  have tk := tkC (P := P) (w := w) (K := K) (mg := mg) (base := base) (N := (["script", "cells", "cell"] : List Str)) (qual := "_law_hand") (scope := defScope s__law_hand) (f := f) (cd := cdv) (A := A) (outer := outer) (s := s) (H := H) (E := E)
  have po := poC (P := P) (w := w) (K := K) (mg := mg) (base := base) (N := (["script", "cells", "cell"] : List Str)) (qual := "_law_hand") (scope := defScope s__law_hand) (f := f) (cd := cdv) (A := A) (outer := outer) (s := s) (H := H) (E := E)
  exact (dss_cons (ds_setLc (i := 1) (own := [("cell", 2)]) nd (di_seq (de_sl (dv 0) do_none (do_some de_int))) (blkOk_by (N := (["script", "cells", "cell"] : List Str)) (sc := defScope s__law_hand) (by decide +kernel)) (fun s_ H_ C_ cl_ fp_ => (dg_name (i := 2) nd)) (fun s_ H_ C_ cl_ fp_ => dts_nil) (fun s_ H_ C_ cl_ fp_ => (de_B dc_abs T.n_abs b_abs (da_cons (de_T dc_int T.n_int b_int (da_cons (dv 2) da_nil)) da_nil))) rfl)
    (dss_one (ds_ret (de_ref (da_cons (dv 1) (da_cons de_int (da_cons de_int (da_cons (de_op2 do_add de_int (de_op2 do_mul de_int (de_B dc_len T.n_len b_len (da_cons (dv 1) da_nil)))) (da_cons de_int da_nil)))))))))
abbrev s__law_text : Stmt := top 67
theorem sc__law_text : FnScope (["posts", "may", "lines", "some", "one", "post"] : List Str) (["posts", "may"] : List Str) (defScope s__law_text) := ⟨rfl, rfl, rfl, by decide +kernel, rfl, by decide +kernel, by decide +kernel⟩
theorem ok__law_text {f : Addr} {fd : FuncData} (F : Fun K "_law_text" "_law_text" s__law_text f fd) (hm : mg "_law_text" = some (.ref f)) (hb : Binds K fd (["posts", "may"] : List Str) []) (T : Txt w K mg)  : Def P w K mg base (0 + 1) "_law_text" (["posts", "may"] : List Str) (bodyD 6 (t__law_text)) := def_mk F sc__law_text hm hb fun cdv A outer s H E hr => by
  have nd := sc__law_text.nd
  have tk := tkC (P := P) (w := w) (K := K) (mg := mg) (base := base) (N := (["posts", "may", "lines", "some", "one", "post"] : List Str)) (qual := "_law_text") (scope := defScope s__law_text) (f := f) (cd := cdv) (A := A) (outer := outer) (s := s) (H := H) (E := E)
  have po := poC (P := P) (w := w) (K := K) (mg := mg) (base := base) (N := (["posts", "may", "lines", "some", "one", "post"] : List Str)) (qual := "_law_text") (scope := defScope s__law_text) (f := f) (cd := cdv) (A := A) (outer := outer) (s := s) (H := H) (E := E)
  exact (dss_cons (ds_set (i := 2) (de_op2 do_add (de_lst (da_cons (de_op2 do_add de_str (de_T dc_str T.n_str b_str (da_cons (dv 0) da_nil))) da_nil)) (de_lc (own := [("some", 3)]) nd (di_seq (dv 1)) (blkOk_by (N := (["posts", "may", "lines", "some", "one", "post"] : List Str)) (sc := defScope s__law_text) (by decide +kernel)) (fun s_ H_ C_ cl_ fp_ => (dg_name (i := 3) nd)) (fun s_ H_ C_ cl_ fp_ => dts_nil) (fun s_ H_ C_ cl_ fp_ => (de_m PySem.F.plainAttrs_str PySem.F.slot_str_join PySem.F.type_str_join dm_join de_str (da_cons (de_op2 do_add (de_lst (da_cons de_str da_nil)) (de_lc (own := [("post", 5)]) nd (di_seq (dv 3)) (blkOk_by (by rfl)) (fun s_ H_ C_ cl_ fp_ => (dg_name (i := 5) nd)) (fun s_ H_ C_ cl_ fp_ => dts_nil) (fun s_ H_ C_ cl_ fp_ => (de_T dc_str T.n_str b_str (da_cons (dv 5) da_nil))))) da_nil))))) nd)
    (dss_one (ds_ret (de_m PySem.F.plainAttrs_str PySem.F.slot_str_join PySem.F.type_str_join dm_join de_str (da_cons (de_lc (own := [("one", 4)]) nd (di_seq (dv 2)) (blkOk_by (N := (["posts", "may", "lines", "some", "one", "post"] : List Str)) (sc := defScope s__law_text) (by decide +kernel)) (fun s_ H_ C_ cl_ fp_ => (dg_name (i := 4) nd)) (fun s_ H_ C_ cl_ fp_ => dts_nil) (fun s_ H_ C_ cl_ fp_ => (de_op2 do_add (dv 4) de_str))) da_nil)))))
abbrev s__law_same : Stmt := top 63
theorem sc__law_same : FnScope (["one", "due", "two", "other"] : List Str) (["one", "due"] : List Str) (defScope s__law_same) := ⟨rfl, rfl, rfl, by decide +kernel, rfl, by decide +kernel, by decide +kernel⟩
theorem ok__law_same {self : SpD} {k : Nat} {f : Addr} {fd : FuncData} (F : Fun K "_law_same" "_law_same" s__law_same f fd) (hm : mg "_law_same" = some (.ref f)) (hb : Binds K fd (["one", "due"] : List Str) []) (T : Txt w K mg) (c_self : Def P w K mg base k "_law_same" (["one", "due"] : List Str) self) : Def P w K mg base (k + 1) "_law_same" (["one", "due"] : List Str) (bodyD 4 (t__law_same self)) := def_mk F sc__law_same hm hb fun cdv A outer s H E hr => by
  have nd := sc__law_same.nd
  have tk := tkC (P := P) (w := w) (K := K) (mg := mg) (base := base) (N := (["one", "due", "two", "other"] : List Str)) (qual := "_law_same") (scope := defScope s__law_same) (f := f) (cd := cdv) (A := A) (outer := outer) (s := s) (H := H) (E := E)
  have po := poC (P := P) (w := w) (K := K) (mg := mg) (base := base) (N := (["one", "due", "two", "other"] : List Str)) (qual := "_law_same") (scope := defScope s__law_same) (f := f) (cd := cdv) (A := A) (outer := outer) (s := s) (H := H) (E := E)
  exact (dss_cons (ds_if (dt_val (de_B (dc_isiT T.own) T.n_isinstance b_isinstance (da_cons (dv 1) (da_cons (de_tup (da_cons (de_ty rfl T.n_tuple b_tuple) (da_cons (de_ty rfl T.n_list b_list) da_nil))) da_nil)))) (dss_cons (ds_if (dt_w (dw_or (dt_cmp (do_ne hr.units) (de_B (dc_isi T.own) T.n_isinstance b_isinstance (da_cons (dv 0) (da_cons (de_ty rfl T.n_tuple b_tuple) da_nil))) (de_B (dc_isi T.own) T.n_isinstance b_isinstance (da_cons (dv 1) (da_cons (de_ty rfl T.n_tuple b_tuple) da_nil)))) (dw_or1 (dt_not (dt_val (de_B (dc_isiT T.own) T.n_isinstance b_isinstance (da_cons (dv 0) (da_cons (de_tup (da_cons (de_ty rfl T.n_tuple b_tuple) (da_cons (de_ty rfl T.n_list b_list) da_nil))) da_nil)))))))) (dss_one (ds_ret de_bl)) dss_nil)
    (dss_one (ds_ret (de_and (de_cmp (do_eq hr.units) (de_B dc_len T.n_len b_len (da_cons (dv 0) da_nil)) (de_B dc_len T.n_len b_len (da_cons (dv 1) da_nil))) (de_one (de_B (dc_all rfl) T.n_all b_all (da_cons (de_lc (own := [("two", 2), ("other", 3)]) nd (di_zip (da_cons (dv 0) (da_cons (dv 1) da_nil)) rfl T.n_zip) (blkOk_by (N := (["one", "due", "two", "other"] : List Str)) (sc := defScope s__law_same) (by decide +kernel)) (fun s_ H_ C_ cl_ fp_ => (dg_tup (dgs_cons (dg_name (i := 2) nd) (dgs_cons (dg_name (i := 3) nd) dgs_nil)))) (fun s_ H_ C_ cl_ fp_ => dts_nil) (fun s_ H_ C_ cl_ fp_ => (de_callD c_self hr takes0 (da_cons (dv 2) (da_cons (dv 3) da_nil))))) da_nil))))))) dss_nil)
    (dss_cons (ds_if (dt_w (dw_or (dt_val (de_B (dc_isi T.own) T.n_isinstance b_isinstance (da_cons (dv 1) (da_cons (de_ty rfl T.n_bool b_bool) da_nil)))) (dw_or (dt_val (de_B (dc_isi T.own) T.n_isinstance b_isinstance (da_cons (dv 0) (da_cons (de_ty rfl T.n_bool b_bool) da_nil)))) (dw_or (dt_cmp do_is (dv 1) de_non) (dw_or1 (dt_cmp do_is (dv 0) de_non)))))) (dss_one (ds_ret (de_and (de_cmp (do_eq hr.units) (de_B (dc_isi T.own) T.n_isinstance b_isinstance (da_cons (dv 0) (da_cons (de_ty rfl T.n_bool b_bool) da_nil))) (de_B (dc_isi T.own) T.n_isinstance b_isinstance (da_cons (dv 1) (da_cons (de_ty rfl T.n_bool b_bool) da_nil)))) (de_and (de_cmp (do_eq hr.units) (de_cmp do_is (dv 0) de_non) (de_cmp do_is (dv 1) de_non)) (de_one (de_cmp (do_eq hr.units) (dv 0) (dv 1))))))) dss_nil)
    (dss_one (ds_ret (de_and (de_cmp (do_eq hr.units) (de_B (dc_isi T.own) T.n_isinstance b_isinstance (da_cons (dv 0) (da_cons (de_ty rfl T.n_str b_str) da_nil))) (de_B (dc_isi T.own) T.n_isinstance b_isinstance (da_cons (dv 1) (da_cons (de_ty rfl T.n_str b_str) da_nil)))) (de_and (de_B (dc_isiT T.own) T.n_isinstance b_isinstance (da_cons (dv 0) (da_cons (de_tup (da_cons (de_ty rfl T.n_int b_int) (da_cons (de_ty rfl T.n_str b_str) da_nil))) da_nil))) (de_one (de_cmp (do_eq hr.units) (dv 0) (dv 1)))))))))
abbrev s__law_is_read : Stmt := top 68
theorem sc__law_is_read : FnScope (["posts", "may", "there", "text", "book"] : List Str) (["posts", "may"] : List Str) (defScope s__law_is_read) := ⟨rfl, rfl, rfl, by decide +kernel, rfl, by decide +kernel, by decide +kernel⟩
theorem ok__law_is_read {f : Addr} {fd : FuncData} (F : Fun K "_law_is_read" "_law_is_read" s__law_is_read f fd) (hm : mg "_law_is_read" = some (.ref f)) (hb : Binds K fd (["posts", "may"] : List Str) []) (T : Txt w K mg) (c_Book : Ctor P w K mg base 4 "Book" (["self", "posts", "may"] : List Str) sp_init_Book) (c__law_text : Def P w K mg base 1 "_law_text" (["posts", "may"] : List Str) sp__law_text) (c_read_book : Def P w K mg base 6 "read_book" (["text"] : List Str) sp_read_book) (c__law_same : Def P w K mg base 6 "_law_same" (["one", "due"] : List Str) sp__law_same) (e_Book : EqD P w K mg base 1 "Book" (["self", "other"] : List Str) sp_eq_Book) (c_book_text : Def P w K mg base 4 "book_text" (["book"] : List Str) sp_book_text) : Def P w K mg base (6 + 1) "_law_is_read" (["posts", "may"] : List Str) (bodyD 5 (t__law_is_read)) := def_mk F sc__law_is_read hm hb fun cdv A outer s H E hr => by
  have nd := sc__law_is_read.nd
  have tk := tkC (P := P) (w := w) (K := K) (mg := mg) (base := base) (N := (["posts", "may", "there", "text", "book"] : List Str)) (qual := "_law_is_read") (scope := defScope s__law_is_read) (f := f) (cd := cdv) (A := A) (outer := outer) (s := s) (H := H) (E := E)
  have po := poC (P := P) (w := w) (K := K) (mg := mg) (base := base) (N := (["posts", "may", "there", "text", "book"] : List Str)) (qual := "_law_is_read") (scope := defScope s__law_is_read) (f := f) (cd := cdv) (A := A) (outer := outer) (s := s) (H := H) (E := E)
  exact (dss_cons (ds_par (i := 3) (j := 4) (da_cons (de_callD c__law_text hr tk (da_cons (dv 0) (da_cons (dv 1) da_nil))) (da_cons (de_mkVD (c := "Book") c_Book hr tk (da_cons (dv 0) (da_cons (dv 1) da_nil))) da_nil)) nd)
    (dss_cons (ds_set (i := 2) (de_callD c_read_book hr tk (da_cons (dv 3) da_nil)) nd)
    (dss_cons (ds_if (dt_w (dw_or (dt_not (dt_val (de_B (dc_isi T.own) T.n_isinstance b_isinstance (da_cons (dv 2) (da_cons (de_gcls T.g_Book) da_nil))))) (dw_or1 (dt_not (dt_val (de_callD c__law_same hr tk (da_cons (de_lst (da_cons (de_fld T.f_posts (dv 2)) (da_cons (de_fld T.f_may (dv 2)) da_nil))) (da_cons (de_lst (da_cons (dv 0) (da_cons (dv 1) da_nil))) da_nil)))))))) (dss_one (ds_ret de_bl)) dss_nil)
    (dss_cons (ds_if (dt_w (dw_or (dt_cmp do_isnot (de_cmp (do_eqO e_Book hr) (dv 2) (dv 4)) de_bl) (dw_or1 (dt_cmp do_isnot (de_cmp (do_neO e_Book hr) (dv 2) (dv 4)) de_bl)))) (dss_one (ds_ret de_bl)) dss_nil)
    (dss_one (ds_ret (de_and (de_callD c__law_same hr tk (da_cons (de_callD c_book_text hr tk (da_cons (dv 4) da_nil)) (da_cons (dv 3) da_nil))) (de_one (de_callD c__law_same hr tk (da_cons (de_callD c_book_text hr tk (da_cons (dv 2) da_nil)) (da_cons (dv 3) da_nil)))))))))))
abbrev s__law_draw : Stmt := top 60
theorem sc__law_draw : FnScope (["hand", "many", "number", "cell", "digit"] : List Str) (["hand", "many"] : List Str) (defScope s__law_draw) := ⟨rfl, rfl, rfl, by decide +kernel, rfl, by decide +kernel, by decide +kernel⟩
theorem ok__law_draw {f : Addr} {fd : FuncData} (F : Fun K "_law_draw" "_law_draw" s__law_draw f fd) (hm : mg "_law_draw" = some (.ref f)) (hb : Binds K fd (["hand", "many"] : List Str) []) (T : Txt w K mg)  : Def P w K mg base (0 + 1) "_law_draw" (["hand", "many"] : List Str) (bodyD 5 (t__law_draw)) := def_mk F sc__law_draw hm hb fun cdv A outer s H E hr => by
  have nd := sc__law_draw.nd
  have tk := tkC (P := P) (w := w) (K := K) (mg := mg) (base := base) (N := (["hand", "many", "number", "cell", "digit"] : List Str)) (qual := "_law_draw") (scope := defScope s__law_draw) (f := f) (cd := cdv) (A := A) (outer := outer) (s := s) (H := H) (E := E)
  have po := poC (P := P) (w := w) (K := K) (mg := mg) (base := base) (N := (["hand", "many", "number", "cell", "digit"] : List Str)) (qual := "_law_draw") (scope := defScope s__law_draw) (f := f) (cd := cdv) (A := A) (outer := outer) (s := s) (H := H) (E := E)
  exact (dss_cons (ds_if (dt_w (dw_and (dt_cmp (do_eq hr.units) (de_ix hr.units (dv 0) de_int) de_int) (dw_and1 (dt_cmp do_lt (de_ix hr.units (dv 0) de_int) (de_B dc_len T.n_len b_len (da_cons (de_ix hr.units (dv 0) de_int) da_nil)))))) (dss_cons (ds_set (i := 3) (de_ix hr.units (de_ix hr.units (dv 0) de_int) (de_ix hr.units (dv 0) de_int)) nd)
    (dss_cons (ds_sub (dv 0) de_int (de_op2 do_add (de_ix hr.units (dv 0) de_int) de_int) hr.units)
    (dss_cons (ds_sub (dv 0) de_int (de_op2 do_mod (de_T dc_int T.n_int b_int (da_cons (de_op2 do_add (de_op2 do_add (de_op2 do_mul (de_ix hr.units (dv 0) de_int) de_int) (de_op2 do_mul (dv 3) de_int)) de_int) da_nil)) de_int) hr.units)
    (dss_one (ds_if (dt_cmp do_ge (dv 3) (de_op2 do_pow de_int de_int)) (dss_one (ds_sub (dv 0) de_int (dv 3) hr.units)) dss_nil))))) dss_nil)
    (dss_cons (ds_if (dt_cmp do_gt (de_ix hr.units (dv 0) de_int) de_int) (dss_cons (ds_set (i := 4) (de_op2 do_mod (de_T dc_int T.n_int b_int (da_cons (de_ix hr.units (dv 0) de_int) da_nil)) (dv 1)) nd)
    (dss_cons (ds_sub (dv 0) de_int (de_op2 do_fdiv (de_ix hr.units (dv 0) de_int) (dv 1)) hr.units)
    (dss_one (ds_ret (dv 4))))) dss_nil)
    (dss_cons (ds_sub (dv 0) de_int (de_op2 do_add (de_ix hr.units (dv 0) de_int) de_int) hr.units)
    (dss_cons (ds_set (i := 2) (de_op2 do_mod (de_T dc_int T.n_int b_int (da_cons (de_op2 do_mul (de_T dc_int T.n_int b_int (da_cons (de_op2 do_add (de_ix hr.units (dv 0) de_int) (de_op2 do_mul de_int (de_ix hr.units (dv 0) de_int))) da_nil)) de_int) da_nil)) de_int) nd)
    (dss_cons (ds_set (i := 2) (de_op2 do_mod (de_T dc_int T.n_int b_int (da_cons (de_op2 do_mul (dv 2) (de_op2 do_add (de_op2 do_fdiv (dv 2) de_int) de_int)) da_nil)) de_int) nd)
    (dss_cons (ds_set (i := 2) (de_op2 do_mod (de_T dc_int T.n_int b_int (da_cons (de_op2 do_mul (dv 2) (de_op2 do_add (de_op2 do_fdiv (dv 2) de_int) de_int)) da_nil)) de_int) nd)
    (dss_one (ds_ret (de_op2 do_mod (de_T dc_int T.n_int b_int (da_cons (de_op2 do_fdiv (dv 2) de_int) da_nil)) (dv 1))))))))))
abbrev s__law_mixed : Stmt := top 62
theorem sc__law_mixed : FnScope (["hand", "some", "left", "found"] : List Str) (["hand", "some"] : List Str) (defScope s__law_mixed) := ⟨rfl, rfl, rfl, by decide +kernel, rfl, by decide +kernel, by decide +kernel⟩
theorem ok__law_mixed {f : Addr} {fd : FuncData} (F : Fun K "_law_mixed" "_law_mixed" s__law_mixed f fd) (hm : mg "_law_mixed" = some (.ref f)) (hb : Binds K fd (["hand", "some"] : List Str) []) (T : Txt w K mg) (c__law_draw : Def P w K mg base 1 "_law_draw" (["hand", "many"] : List Str) sp__law_draw) : Def P w K mg base (1 + 1) "_law_mixed" (["hand", "some"] : List Str) (bodyD 4 (t__law_mixed)) := def_mk F sc__law_mixed hm hb fun cdv A outer s H E hr => by
  have nd := sc__law_mixed.nd
  have tk := tkC (P := P) (w := w) (K := K) (mg := mg) (base := base) (N := (["hand", "some", "left", "found"] : List Str)) (qual := "_law_mixed") (scope := defScope s__law_mixed) (f := f) (cd := cdv) (A := A) (outer := outer) (s := s) (H := H) (E := E)
  have po := poC (P := P) (w := w) (K := K) (mg := mg) (base := base) (N := (["hand", "some", "left", "found"] : List Str)) (qual := "_law_mixed") (scope := defScope s__law_mixed) (f := f) (cd := cdv) (A := A) (outer := outer) (s := s) (H := H) (E := E)
  exact (dss_cons (ds_par (i := 2) (j := 3) (da_cons (de_T dc_listR T.n_list b_list (da_cons (dv 1) da_nil)) (da_cons (de_ref da_nil) da_nil)) nd)
    (dss_cons (ds_while po (dt_cmp do_gt (de_B dc_len T.n_len b_len (da_cons (dv 2) da_nil)) de_int) (dss_one (ds_expr (de_m PySem.F.plainAttrs_list PySem.F.slot_list_append PySem.F.type_list_append dm_append (dv 3) (da_cons (de_m PySem.F.plainAttrs_list PySem.F.slot_list_pop PySem.F.type_list_pop dm_popAt (dv 2) (da_cons (de_callD c__law_draw hr tk (da_cons (dv 0) (da_cons (de_B dc_len T.n_len b_len (da_cons (dv 2) da_nil)) da_nil))) da_nil)) da_nil)))))
    (dss_one (ds_ret (dv 3)))))
abbrev s__law_any : Stmt := top 61
theorem sc__law_any : FnScope (["hand", "some"] : List Str) (["hand", "some"] : List Str) (defScope s__law_any) := ⟨rfl, rfl, rfl, by decide +kernel, rfl, by decide +kernel, by decide +kernel⟩
theorem ok__law_any {f : Addr} {fd : FuncData} (F : Fun K "_law_any" "_law_any" s__law_any f fd) (hm : mg "_law_any" = some (.ref f)) (hb : Binds K fd (["hand", "some"] : List Str) []) (T : Txt w K mg) (c__law_draw : Def P w K mg base 1 "_law_draw" (["hand", "many"] : List Str) sp__law_draw) : Def P w K mg base (1 + 1) "_law_any" (["hand", "some"] : List Str) (bodyD 2 (t__law_any)) := def_mk F sc__law_any hm hb fun cdv A outer s H E hr => by
  have nd := sc__law_any.nd
  have tk := tkC (P := P) (w := w) (K := K) (mg := mg) (base := base) (N := (["hand", "some"] : List Str)) (qual := "_law_any") (scope := defScope s__law_any) (f := f) (cd := cdv) (A := A) (outer := outer) (s := s) (H := H) (E := E)
  have po := poC (P := P) (w := w) (K := K) (mg := mg) (base := base) (N := (["hand", "some"] : List Str)) (qual := "_law_any") (scope := defScope s__law_any) (f := f) (cd := cdv) (A := A) (outer := outer) (s := s) (H := H) (E := E)
  exact (dss_one (ds_ret (de_ix hr.units (dv 1) (de_callD c__law_draw hr tk (da_cons (dv 0) (da_cons (de_B dc_len T.n_len b_len (da_cons (dv 1) da_nil)) da_nil))))))
abbrev s__law_case : Stmt := top 64
theorem sc__law_case : FnScope (["hand", "top", "many", "at", "share", "person", "posts", "persons", "shape", "order", "spots", "filling", "may", "below", "post", "some"] : List Str) (["hand", "top"] : List Str) (defScope s__law_case) := ⟨rfl, rfl, rfl, by decide +kernel, rfl, by decide +kernel, by decide +kernel⟩
theorem ok__law_case {f : Addr} {fd : FuncData} (F : Fun K "_law_case" "_law_case" s__law_case f fd) (hm : mg "_law_case" = some (.ref f)) (hb : Binds K fd (["hand", "top"] : List Str) []) (T : Txt w K mg) (c__law_draw : Def P w K mg base 1 "_law_draw" (["hand", "many"] : List Str) sp__law_draw) (c__law_mixed : Def P w K mg base 2 "_law_mixed" (["hand", "some"] : List Str) sp__law_mixed) (c__law_any : Def P w K mg base 2 "_law_any" (["hand", "some"] : List Str) sp__law_any) : Def P w K mg base (2 + 1) "_law_case" (["hand", "top"] : List Str) (bodyD 16 (t__law_case)) := def_mk F sc__law_case hm hb fun cdv A outer s H E hr => by
  have nd := sc__law_case.nd
  have tk := tkC (P := P) (w := w) (K := K) (mg := mg) (base := base) (N := (["hand", "top", "many", "at", "share", "person", "posts", "persons", "shape", "order", "spots", "filling", "may", "below", "post", "some"] : List Str)) (qual := "_law_case") (scope := defScope s__law_case) (f := f) (cd := cdv) (A := A) (outer := outer) (s := s) (H := H) (E := E)
  have po := poC (P := P) (w := w) (K := K) (mg := mg) (base := base) (N := (["hand", "top", "many", "at", "share", "person", "posts", "persons", "shape", "order", "spots", "filling", "may", "below", "post", "some"] : List Str)) (qual := "_law_case") (scope := defScope s__law_case) (f := f) (cd := cdv) (A := A) (outer := outer) (s := s) (H := H) (E := E)
  exact (dss_cons (ds_par3 (i := 6) (j := 7) (l := 8) (da_cons (de_callD c__law_draw hr tk (da_cons (dv 0) (da_cons (de_op2 do_add (dv 1) de_int) da_nil))) (da_cons (de_callD c__law_draw hr tk (da_cons (dv 0) (da_cons (de_op2 do_add (dv 1) de_int) da_nil))) (da_cons (de_callD c__law_draw hr tk (da_cons (dv 0) (da_cons de_int da_nil))) da_nil))) nd)
    (dss_cons (ds_par (i := 9) (j := 10) (da_cons (de_callD c__law_mixed hr tk (da_cons (dv 0) (da_cons (de_lstRg rfl T.n_list (dr_1 rfl T.n_range (dv 7))) da_nil))) (da_cons (de_callD c__law_mixed hr tk (da_cons (dv 0) (da_cons (de_lstRg rfl T.n_list (dr_1 rfl T.n_range (dv 6))) da_nil))) da_nil)) nd)
    (dss_cons (ds_set (i := 2) (de_B (dc_min2 rfl) T.n_min b_min (da_cons (dv 6) (da_cons (dv 7) da_nil))) nd)
    (dss_cons (ds_set (i := 2) (de_callD c__law_any hr tk (da_cons (dv 0) (da_cons (de_lst (da_cons (dv 2) (da_cons (dv 2) (da_cons (dv 2) (da_cons (de_B (dc_max2 rfl) T.n_max b_max (da_cons de_int (da_cons (de_op2 do_sub (dv 2) de_int) da_nil))) (da_cons (de_callD c__law_draw hr tk (da_cons (dv 0) (da_cons (de_op2 do_add (dv 2) de_int) da_nil))) da_nil)))))) da_nil))) nd)
    (dss_cons (ds_par (i := 11) (j := 12) (da_cons (de_op2 do_mulR (de_lst (da_cons de_non da_nil)) (dv 7)) (da_cons (de_lc (own := [("person", 5)]) nd (di_range1 (da_cons (dv 7) da_nil) rfl T.n_range) (blkOk_by (N := (["hand", "top", "many", "at", "share", "person", "posts", "persons", "shape", "order", "spots", "filling", "may", "below", "post", "some"] : List Str)) (sc := defScope s__law_case) (by decide +kernel)) (fun s_ H_ C_ cl_ fp_ => (dg_name (i := 5) nd)) (fun s_ H_ C_ cl_ fp_ => dts_nil) (fun s_ H_ C_ cl_ fp_ => (de_ref da_nil))) da_nil)) nd)
    (dss_cons (ds_for (vs := [3]) po (di_range1 (da_cons (dv 2) da_nil) rfl T.n_range) (dg_name (i := 3) nd) (dss_cons (ds_sub (dv 11) (de_ix hr.units (dv 9) (dv 3)) (de_ix hr.units (dv 10) (dv 3)) hr.units)
    (dss_cons (ds_expr (de_m PySem.F.plainAttrs_list PySem.F.slot_list_append PySem.F.type_list_append dm_append (de_ix hr.units (dv 12) (de_ix hr.units (dv 9) (dv 3))) (da_cons (de_ix hr.units (dv 10) (dv 3)) da_nil)))
    (dss_one (ds_if (dt_cmp (do_eq hr.units) (dv 8) de_int) (dss_one (ds_expr (de_m PySem.F.plainAttrs_list PySem.F.slot_list_append PySem.F.type_list_append dm_append (de_ix hr.units (dv 12) (de_ix hr.units (dv 9) (dv 3))) (da_cons (de_ix hr.units (dv 10) (de_op2 do_mod (de_T dc_int T.n_int b_int (da_cons (de_op2 do_add (dv 3) de_int) da_nil)) (dv 2))) da_nil)))) dss_nil)))))
    (dss_cons (ds_set (i := 4) (de_callD c__law_any hr tk (da_cons (dv 0) (da_cons (de_lst (da_cons de_int (da_cons de_int (da_cons de_int (da_cons de_int da_nil))))) da_nil))) nd)
    (dss_cons (ds_for (vs := [5]) po (di_range1 (da_cons (dv 7) da_nil) rfl T.n_range) (dg_name (i := 5) nd) (dss_cons (ds_set (i := 13) (de_if (dt_cmp (do_eq hr.units) (dv 8) de_int) (de_callD c__law_draw hr tk (da_cons (dv 0) (da_cons (de_op2 do_add (dv 6) de_int) da_nil))) de_int) nd)
    (dss_one (ds_for (vs := [14]) po (di_range1 (da_cons (dv 6) da_nil) rfl T.n_range) (dg_name (i := 14) nd) (dss_one (ds_if (dt_w (dw_or (dt_cmp do_lt (dv 14) (dv 13)) (dw_or1 (dt_cmp (do_eq hr.units) (de_callD c__law_draw hr tk (da_cons (dv 0) (da_cons (dv 4) da_nil))) de_int)))) (dss_one (ds_expr (de_m PySem.F.plainAttrs_list PySem.F.slot_list_append PySem.F.type_list_append dm_append (de_ix hr.units (dv 12) (dv 5)) (da_cons (dv 14) da_nil)))) dss_nil))))))
    (dss_one (ds_ret (de_lst (da_cons (dv 6) (da_cons (de_T dc_tuple T.n_tuple b_tuple (da_cons (de_lc (own := [("some", 15)]) nd (di_seq (dv 12)) (blkOk_by (N := (["hand", "top", "many", "at", "share", "person", "posts", "persons", "shape", "order", "spots", "filling", "may", "below", "post", "some"] : List Str)) (sc := defScope s__law_case) (by decide +kernel)) (fun s_ H_ C_ cl_ fp_ => (dg_name (i := 15) nd)) (fun s_ H_ C_ cl_ fp_ => dts_nil) (fun s_ H_ C_ cl_ fp_ => (de_T dc_tuple T.n_tuple b_tuple (da_cons (de_sortedSet rfl T.n_sorted rfl T.n_set (dv 15)) da_nil)))) da_nil)) (da_cons (de_T dc_tuple T.n_tuple b_tuple (da_cons (dv 11) da_nil)) da_nil))))))))))))))
abbrev s__law_step : Stmt := top 65
theorem sc__law_step : FnScope (["hand", "may", "filling", "size", "there", "turn", "again", "row", "here", "least", "x", "post", "some", "y"] : List Str) (["hand", "may", "filling", "size"] : List Str) (defScope s__law_step) := ⟨rfl, rfl, rfl, by decide +kernel, rfl, by decide +kernel, by decide +kernel⟩
theorem ok__law_step {f : Addr} {fd : FuncData} (F : Fun K "_law_step" "_law_step" s__law_step f fd) (hm : mg "_law_step" = some (.ref f)) (hb : Binds K fd (["hand", "may", "filling", "size"] : List Str) []) (T : Txt w K mg) (c__law_any : Def P w K mg base 2 "_law_any" (["hand", "some"] : List Str) sp__law_any) : Def P w K mg base (2 + 1) "_law_step" (["hand", "may", "filling", "size"] : List Str) (bodyD 14 (t__law_step)) := def_mk F sc__law_step hm hb fun cdv A outer s H E hr => by
  have nd := sc__law_step.nd
  have tk := tkC (P := P) (w := w) (K := K) (mg := mg) (base := base) (N := (["hand", "may", "filling", "size", "there", "turn", "again", "row", "here", "least", "x", "post", "some", "y"] : List Str)) (qual := "_law_step") (scope := defScope s__law_step) (f := f) (cd := cdv) (A := A) (outer := outer) (s := s) (H := H) (E := E)
  have po := poC (P := P) (w := w) (K := K) (mg := mg) (base := base) (N := (["hand", "may", "filling", "size", "there", "turn", "again", "row", "here", "least", "x", "post", "some", "y"] : List Str)) (qual := "_law_step") (scope := defScope s__law_step) (f := f) (cd := cdv) (A := A) (outer := outer) (s := s) (H := H) (E := E)
  exact (dss_cons (ds_setLc (i := 4) (own := [("x", 10), ("post", 11)]) nd (di_enum (da_cons (dv 2) da_nil) rfl T.n_enumerate) (blkOk_by (N := (["hand", "may", "filling", "size", "there", "turn", "again", "row", "here", "least", "x", "post", "some", "y"] : List Str)) (sc := defScope s__law_step) (by decide +kernel)) (fun s_ H_ C_ cl_ fp_ => (dg_tup (dgs_cons (dg_name (i := 10) nd) (dgs_cons (dg_name (i := 11) nd) dgs_nil)))) (fun s_ H_ C_ cl_ fp_ => (dts_one (dt_cmp do_isnot (dv 11) de_non))) (fun s_ H_ C_ cl_ fp_ => (dv 10)) rfl)
    (dss_cons (ds_for (vs := [5]) po (di_range1 (da_cons (de_if (dt_cmp do_gt (de_B dc_len T.n_len b_len (da_cons (dv 4) da_nil)) de_int) de_int de_int) da_nil) rfl T.n_range) (dg_name (i := 5) nd) (dss_cons (ds_asg (vs := [7, 8]) (de_tup (da_cons (de_ref da_nil) (da_cons (de_callD c__law_any hr tk (da_cons (dv 0) (da_cons (dv 4) da_nil))) da_nil))) (dg_tup (dgs_cons (dg_name (i := 7) nd) (dgs_cons (dg_name (i := 8) nd) dgs_nil))))
    (dss_cons (ds_for (vs := [6]) po (di_range1 (da_cons (de_op2 do_add (de_B dc_len T.n_len b_len (da_cons (dv 4) da_nil)) de_int) da_nil) rfl T.n_range) (dg_name (i := 6) nd) (dss_one (ds_if (dt_w (dw_and (dt_cmp do_isnot (dv 8) de_non) (dw_and1 (dt_cmp (do_notin hr.units) (dv 8) (dv 7))))) (dss_cons (ds_expr (de_m PySem.F.plainAttrs_list PySem.F.slot_list_append PySem.F.type_list_append dm_append (dv 7) (da_cons (dv 8) da_nil)))
    (dss_cons (ds_setLc (i := 12) (own := [("y", 13)]) nd (di_seq (dv 4)) (blkOk_by (N := (["hand", "may", "filling", "size", "there", "turn", "again", "row", "here", "least", "x", "post", "some", "y"] : List Str)) (sc := defScope s__law_step) (by decide +kernel)) (fun s_ H_ C_ cl_ fp_ => (dg_name (i := 13) nd)) (fun s_ H_ C_ cl_ fp_ => (dts_one (dt_w (dw_and (dt_cmp (do_ne hr.units) (dv 13) (de_ix hr.units (dv 7) de_negc)) (dw_and1 (dt_cmp (do_in hr.units) (de_ix hr.units (dv 2) (dv 13)) (de_ix hr.units (dv 1) (de_ix hr.units (dv 7) de_negc)))))))) (fun s_ H_ C_ cl_ fp_ => (dv 13)) rfl)
    (dss_one (ds_set (i := 8) (de_if (dt_cmp do_gt (de_B dc_len T.n_len b_len (da_cons (dv 12) da_nil)) de_int) (de_callD c__law_any hr tk (da_cons (dv 0) (da_cons (dv 12) da_nil))) de_non) nd)))) dss_nil)))
    (dss_one (ds_if (dt_cmp do_isnot (dv 8) de_non) (dss_cons (ds_set (i := 7) (de_sl (dv 7) (do_some (de_m PySem.F.plainAttrs_list PySem.F.slot_list_index PySem.F.type_list_index dm_index (dv 7) (da_cons (dv 8) da_nil))) do_none) nd)
    (dss_cons (ds_set (i := 9) (de_m PySem.F.plainAttrs_list PySem.F.slot_list_index PySem.F.type_list_index dm_index (dv 7) (da_cons (de_B (dc_minI rfl) T.n_min b_min (da_cons (dv 7) da_nil)) da_nil)) nd)
    (dss_one (ds_if (dt_chain do_lt do_le de_int (de_B dc_len T.n_len b_len (da_cons (dv 7) da_nil)) (dv 3)) (dss_one (ds_ret (de_T dc_tuple T.n_tuple b_tuple (da_cons (de_op2 do_add (de_sl (dv 7) (do_some (dv 9)) do_none) (de_sl (dv 7) do_none (do_some (dv 9)))) da_nil)))) dss_nil)))) dss_nil)))))
    (dss_one (ds_ret de_non))))
abbrev s__law_done : Stmt := top 66
theorem sc__law_done : FnScope (["filling", "exchange", "found", "x", "y"] : List Str) (["filling", "exchange"] : List Str) (defScope s__law_done) := ⟨rfl, rfl, rfl, by decide +kernel, rfl, by decide +kernel, by decide +kernel⟩
theorem ok__law_done {f : Addr} {fd : FuncData} (F : Fun K "_law_done" "_law_done" s__law_done f fd) (hm : mg "_law_done" = some (.ref f)) (hb : Binds K fd (["filling", "exchange"] : List Str) []) (T : Txt w K mg)  : Def P w K mg base (0 + 1) "_law_done" (["filling", "exchange"] : List Str) (bodyD 5 (t__law_done)) := def_mk F sc__law_done hm hb fun cdv A outer s H E hr => by
  have nd := sc__law_done.nd
  have tk := tkC (P := P) (w := w) (K := K) (mg := mg) (base := base) (N := (["filling", "exchange", "found", "x", "y"] : List Str)) (qual := "_law_done") (scope := defScope s__law_done) (f := f) (cd := cdv) (A := A) (outer := outer) (s := s) (H := H) (E := E)
  have po := poC (P := P) (w := w) (K := K) (mg := mg) (base := base) (N := (["filling", "exchange", "found", "x", "y"] : List Str)) (qual := "_law_done") (scope := defScope s__law_done) (f := f) (cd := cdv) (A := A) (outer := outer) (s := s) (H := H) (E := E)
  exact (dss_cons (ds_set (i := 2) (de_T dc_listR T.n_list b_list (da_cons (dv 0) da_nil)) nd)
    (dss_cons (ds_for (vs := [3, 4]) po (di_zip (da_cons (dv 1) (da_cons (de_op2 do_add (de_sl (dv 1) (do_some de_int) do_none) (de_sl (dv 1) do_none (do_some de_int))) da_nil)) rfl T.n_zip) (dg_tup (dgs_cons (dg_name (i := 3) nd) (dgs_cons (dg_name (i := 4) nd) dgs_nil))) (dss_one (ds_sub (dv 2) (dv 3) (de_ix hr.units (dv 0) (dv 4)) hr.units)))
    (dss_one (ds_ret (de_T dc_tuple T.n_tuple b_tuple (da_cons (dv 2) da_nil))))))
abbrev s__law_is_desk : Stmt := top 69
theorem sc__law_is_desk : FnScope (["hand", "posts", "may", "filling", "turn", "desk", "stood", "words", "due", "step", "post", "x"] : List Str) (["hand", "posts", "may", "filling"] : List Str) (defScope s__law_is_desk) := ⟨rfl, rfl, rfl, by decide +kernel, rfl, by decide +kernel, by decide +kernel⟩
theorem ok__law_is_desk {f : Addr} {fd : FuncData} (F : Fun K "_law_is_desk" "_law_is_desk" s__law_is_desk f fd) (hm : mg "_law_is_desk" = some (.ref f)) (hb : Binds K fd (["hand", "posts", "may", "filling"] : List Str) []) (T : Txt w K mg) (c_Desk : Ctor P w K mg base 5 "Desk" (["self", "book", "filling"] : List Str) sp_init_Desk) (c_Book : Ctor P w K mg base 4 "Book" (["self", "posts", "may"] : List Str) sp_init_Book) (c__law_text : Def P w K mg base 1 "_law_text" (["posts", "may"] : List Str) sp__law_text) (c__law_same : Def P w K mg base 6 "_law_same" (["one", "due"] : List Str) sp__law_same) (m_Desk_text : MethD P w K mg base 3 "Desk" "text" (["self"] : List Str) sp_Desk_text) (c__law_step : Def P w K mg base 3 "_law_step" (["hand", "may", "filling", "size"] : List Str) sp__law_step) (c__law_draw : Def P w K mg base 1 "_law_draw" (["hand", "many"] : List Str) sp__law_draw) (m_Desk_say : MethD P w K mg base 7 "Desk" "say" (["self", "line"] : List Str) sp_Desk_say) (c__law_done : Def P w K mg base 1 "_law_done" (["filling", "exchange"] : List Str) sp__law_done) : Def P w K mg base (7 + 1) "_law_is_desk" (["hand", "posts", "may", "filling"] : List Str) (bodyD 12 (t__law_is_desk)) := def_mk F sc__law_is_desk hm hb fun cdv A outer s H E hr => by
  have nd := sc__law_is_desk.nd
  have tk := tkC (P := P) (w := w) (K := K) (mg := mg) (base := base) (N := (["hand", "posts", "may", "filling", "turn", "desk", "stood", "words", "due", "step", "post", "x"] : List Str)) (qual := "_law_is_desk") (scope := defScope s__law_is_desk) (f := f) (cd := cdv) (A := A) (outer := outer) (s := s) (H := H) (E := E)
  have po := poC (P := P) (w := w) (K := K) (mg := mg) (base := base) (N := (["hand", "posts", "may", "filling", "turn", "desk", "stood", "words", "due", "step", "post", "x"] : List Str)) (qual := "_law_is_desk") (scope := defScope s__law_is_desk) (f := f) (cd := cdv) (A := A) (outer := outer) (s := s) (H := H) (E := E)
  exact (dss_cons (ds_par (i := 5) (j := 6) (da_cons (de_mkD (c := "Desk") c_Desk hr tk (da_cons (de_mkVD (c := "Book") c_Book hr tk (da_cons (dv 1) (da_cons (dv 2) da_nil))) (da_cons (dv 3) da_nil))) (da_cons (de_ref (da_cons (dv 3) da_nil)) da_nil)) nd)
    (dss_cons (ds_for (vs := [4]) po (di_range1 (da_cons de_int da_nil) rfl T.n_range) (dg_name (i := 4) nd) (dss_cons (ds_setLc (i := 7) (own := [("post", 10)]) nd (di_seq (de_ix hr.units (dv 6) de_negc)) (blkOk_by (N := (["hand", "posts", "may", "filling", "turn", "desk", "stood", "words", "due", "step", "post", "x"] : List Str)) (sc := defScope s__law_is_desk) (by decide +kernel)) (fun s_ H_ C_ cl_ fp_ => (dg_name (i := 10) nd)) (fun s_ H_ C_ cl_ fp_ => dts_nil) (fun s_ H_ C_ cl_ fp_ => (de_if (dt_cmp do_is (dv 10) de_non) de_str (de_T dc_str T.n_str b_str (da_cons (dv 10) da_nil)))) rfl)
    (dss_cons (ds_set (i := 8) (de_op2 do_add (de_op2 do_add (de_callD c__law_text hr tk (da_cons (dv 1) (da_cons (dv 2) da_nil))) (de_m PySem.F.plainAttrs_str PySem.F.slot_str_join PySem.F.type_str_join dm_join de_str (da_cons (de_op2 do_add (de_lst (da_cons de_str da_nil)) (dv 7)) da_nil))) de_str) nd)
    (dss_cons (ds_if (dt_not (dt_val (de_callD c__law_same hr tk (da_cons (de_meth0 _ m_Desk_text hr tk (dv 5)) (da_cons (dv 8) da_nil))))) (dss_one (ds_ret de_bl)) dss_nil)
    (dss_cons (ds_set (i := 9) (de_callD c__law_step hr tk (da_cons (dv 0) (da_cons (dv 2) (da_cons (de_ix hr.units (dv 6) de_negc) (da_cons de_int da_nil))))) nd)
    (dss_one (ds_if (dt_w (dw_or (dt_cmp do_is (dv 9) de_non) (dw_or1 (dt_cmp (do_eq hr.units) (de_callD c__law_draw hr tk (da_cons (dv 0) (da_cons de_int da_nil))) de_int)))) (dss_cons (ds_if (dt_cmp do_neS (de_meth _ m_Desk_say hr tk (dv 5) (da_cons de_str da_nil)) (de_if (dt_cmp do_gt (de_B dc_len T.n_len b_len (da_cons (dv 6) da_nil)) de_int) de_str de_str)) (dss_one (ds_ret de_bl)) dss_nil)
    (dss_one (ds_set (i := 6) (de_slR (dv 6) do_none (do_some (de_B (dc_max2 rfl) T.n_max b_max (da_cons de_int (da_cons (de_op2 do_sub (de_B dc_len T.n_len b_len (da_cons (dv 6) da_nil)) de_int) da_nil))))) nd))) (dss_cons (ds_if (dt_cmp do_neS (de_meth _ m_Desk_say hr tk (dv 5) (da_cons (de_m PySem.F.plainAttrs_str PySem.F.slot_str_join PySem.F.type_str_join dm_join de_str (da_cons (de_op2 do_add (de_lst (da_cons de_str da_nil)) (de_lc (own := [("x", 11)]) nd (di_seq (dv 9)) (blkOk_by (N := (["hand", "posts", "may", "filling", "turn", "desk", "stood", "words", "due", "step", "post", "x"] : List Str)) (sc := defScope s__law_is_desk) (by decide +kernel)) (fun s_ H_ C_ cl_ fp_ => (dg_name (i := 11) nd)) (fun s_ H_ C_ cl_ fp_ => dts_nil) (fun s_ H_ C_ cl_ fp_ => (de_T dc_str T.n_str b_str (da_cons (dv 11) da_nil))))) da_nil)) da_nil)) de_str) (dss_one (ds_ret de_bl)) dss_nil)
    (dss_one (ds_expr (de_m PySem.F.plainAttrs_list PySem.F.slot_list_append PySem.F.type_list_append dm_append (dv 6) (da_cons (de_callD c__law_done hr tk (da_cons (de_ix hr.units (dv 6) de_negc) (da_cons (dv 9) da_nil))) da_nil))))))))))))
    (dss_one (ds_ret de_bl))))
abbrev s_law : Stmt := top 70
theorem sc_law : FnScope (["script", "hand", "turn", "posts", "may", "filling"] : List Str) (["script"] : List Str) (defScope s_law) := ⟨rfl, rfl, rfl, by decide +kernel, rfl, by decide +kernel, by decide +kernel⟩
theorem ok_law {f : Addr} {fd : FuncData} (F : Fun K "law" "law" s_law f fd) (T : Txt w K mg) (c__law_hand : Def P w K mg base 1 "_law_hand" (["script"] : List Str) sp__law_hand) (c__law_is_read : Def P w K mg base 7 "_law_is_read" (["posts", "may"] : List Str) sp__law_is_read) (c__law_case : Def P w K mg base 3 "_law_case" (["hand", "top"] : List Str) sp__law_case) (c__law_any : Def P w K mg base 2 "_law_any" (["hand", "some"] : List Str) sp__law_any) (c__law_is_desk : Def P w K mg base 8 "_law_is_desk" (["hand", "posts", "may", "filling"] : List Str) sp__law_is_desk) (c_book_text : Def P w K mg base 4 "book_text" (["book"] : List Str) sp_book_text) (c_Book : Ctor P w K mg base 4 "Book" (["self", "posts", "may"] : List Str) sp_init_Book) : FnG P w K mg base (L2N.CX P w) (8 + 1) f fd (["script"] : List Str) (LSp K mg 1 (bodyD 6 (t_law))) := fn_ok F sc_law fun cdv A outer s H E hr => by
  have nd := sc_law.nd
  have tk := tkC (P := P) (w := w) (K := K) (mg := mg) (base := base) (N := (["script", "hand", "turn", "posts", "may", "filling"] : List Str)) (qual := "law") (scope := defScope s_law) (f := f) (cd := cdv) (A := A) (outer := outer) (s := s) (H := H) (E := E)
  have po := poC (P := P) (w := w) (K := K) (mg := mg) (base := base) (N := (["script", "hand", "turn", "posts", "may", "filling"] : List Str)) (qual := "law") (scope := defScope s_law) (f := f) (cd := cdv) (A := A) (outer := outer) (s := s) (H := H) (E := E)
  exact (dss_cons (ds_set (i := 1) (de_callD c__law_hand hr tk (da_cons (dv 0) da_nil)) nd)
    (dss_cons (ds_for (vs := [3, 4]) po (di_seq (de_lst (da_cons (de_tup (da_cons de_int (da_cons (de_tup da_nil) da_nil))) (da_cons (de_tup (da_cons de_int (da_cons (de_op2 do_mulU (de_tup (da_cons (de_tupRg rfl T.n_tuple (dr_1 rfl T.n_range de_int)) da_nil)) de_int) da_nil))) (da_cons (de_tup (da_cons de_int (da_cons (de_op2 do_mulU (de_tup (da_cons (de_tup da_nil) da_nil)) de_int) da_nil))) (da_cons (de_tup (da_cons de_int (da_cons (de_tup (da_cons (de_tup da_nil) da_nil)) da_nil))) (da_cons (de_tup (da_cons de_int (da_cons (de_tup (da_cons (de_tup (da_cons de_int da_nil)) da_nil)) da_nil))) (da_cons (de_tup (da_cons de_int (da_cons (de_tup (da_cons (de_tup (da_cons de_int da_nil)) da_nil)) da_nil))) da_nil)))))))) (dg_tup (dgs_cons (dg_name (i := 3) nd) (dgs_cons (dg_name (i := 4) nd) dgs_nil))) (dss_one (ds_if (dt_not (dt_val (de_callD c__law_is_read hr tk (da_cons (dv 3) (da_cons (dv 4) da_nil))))) (dss_one (ds_ret de_bl)) dss_nil)))
    (dss_cons (ds_for (vs := [2]) po (di_range1 (da_cons de_int da_nil) rfl T.n_range) (dg_name (i := 2) nd) (dss_cons (ds_asg (vs := [3, 4, 5]) (de_callD c__law_case hr tk (da_cons (dv 1) (da_cons (de_callD c__law_any hr tk (da_cons (dv 1) (da_cons (de_lst (da_cons de_int (da_cons de_int da_nil))) da_nil))) da_nil))) (dg_tup (dgs_cons (dg_name (i := 3) nd) (dgs_cons (dg_name (i := 4) nd) (dgs_cons (dg_name (i := 5) nd) dgs_nil)))))
    (dss_one (ds_if (dt_w (dw_or (dt_not (dt_val (de_callD c__law_is_read hr tk (da_cons (dv 3) (da_cons (dv 4) da_nil))))) (dw_or1 (dt_not (dt_val (de_callD c__law_is_desk hr tk (da_cons (dv 1) (da_cons (dv 3) (da_cons (dv 4) (da_cons (dv 5) da_nil)))))))))) (dss_one (ds_ret de_bl)) dss_nil))))
    (dss_one (ds_ret (de_cmp do_eqS (de_callD c_book_text hr tk (da_cons (de_mkVD (c := "Book") c_Book hr tk (da_cons de_int (da_cons (de_tup (da_cons (de_tup (da_cons de_int (da_cons de_int da_nil))) (da_cons (de_tup (da_cons de_int (da_cons de_int (da_cons de_int da_nil)))) (da_cons (de_tup (da_cons de_int (da_cons de_int da_nil))) da_nil)))) da_nil))) da_nil)) de_str))))))
end
end DL

end

section
set_option maxRecDepth 100000
set_option maxHeartbeats 4000000
namespace DL
open PySem PySem.Spec L2
theorem xsc_BadBook : FnScope (["self", "what", "at"] : List Str) (["self", "what", "at"] : List Str) (defScope (inClass (top 2) 0)) := ⟨rfl, rfl, rfl, by decide +kernel, rfl, by decide +kernel, by decide +kernel⟩
theorem xsc_BadText : FnScope (["self", "line"] : List Str) (["self", "line"] : List Str) (defScope (inClass (top 5) 0)) := ⟨rfl, rfl, rfl, by decide +kernel, rfl, by decide +kernel, by decide +kernel⟩
theorem all_mk {l : PySem.W.OpenLaw} {w : World} {K : PySem.W.Frag} {h : Heap} {mg : Str → Option Value} {fa : Addr} (X : K.In h) (G : h.Ns mainGlobals mg) (hfa : mg "law" = some (.ref fa))
    {C_Book : Addr} {C_Desk : Addr} {t_c_GO : Tok} {tu_MANY : Addr} {tuc_MANY : Value} {tud_MANY : Option Addr} {tue_MANY : Array DictEntry} {tun_MANY : Nat} {tus_MANY : Array (Option Value)} {t_c_MOST_DIGITS : Tok} {t_c_MOST_PERSONS : Tok} {t_c_MOST_POSTS : Tok} {t_c_MOST_SIZE : Tok} {t_c_NO : Tok} {t_c_OK : Tok} {t_c_YES : Tok} {E_BadBook : Addr} {EI_BadBook EP_BadBook : Addr} {xnm_BadBook xq_BadBook : Str} {xN_BadBook : Addr} {xbs_BadBook : List Value} {xsn_BadBook : List Str} {xsub_BadBook : List Value} {xab_BadBook : Bool} {xcol_BadBook : Option Bool} {xdd_BadBook : Option Addr} {xm0_BadBook xm1_BadBook xm2_BadBook xm3_BadBook xm5_BadBook : Option Value} {xod_BadBook xan_BadBook : Option Addr} {xsl_BadBook : Array (Option Value)} {xoc_BadBook xkV_BadBook xdc_BadBook xpm_BadBook xcd_BadBook xct_BadBook : Value} {E_BadExchange : Addr} {E_BadFilling : Addr} {E_BadText : Addr} {EI_BadText EP_BadText : Addr} {xnm_BadText xq_BadText : Str} {xN_BadText : Addr} {xbs_BadText : List Value} {xsn_BadText : List Str} {xsub_BadText : List Value} {xab_BadText : Bool} {xcol_BadText : Option Bool} {xdd_BadText : Option Addr} {xm0_BadText xm1_BadText xm2_BadText xm3_BadText xm5_BadText : Option Value} {xod_BadText xan_BadText : Option Addr} {xsl_BadText : Array (Option Value)} {xoc_BadText xkV_BadText xdc_BadText xpm_BadText xcd_BadText xct_BadText : Value} {E_NoBook : Addr} {f_eq_Book : Addr} {od_eq_Book an_eq_Book : Option Addr} {sl_eq_Book : Array (Option Value)} {oc_eq_Book kV_eq_Book dc_eq_Book pm_eq_Book cd_eq_Book ct_eq_Book : Value} {f_is_integer : Addr} {od_is_integer an_is_integer : Option Addr} {sl_is_integer : Array (Option Value)} {oc_is_integer kV_is_integer dc_is_integer pm_is_integer cd_is_integer ct_is_integer : Value} {f_is_within : Addr} {od_is_within an_is_within : Option Addr} {sl_is_within : Array (Option Value)} {oc_is_within kV_is_within dc_is_within pm_is_within cd_is_within ct_is_within : Value} {f_is_rising : Addr} {od_is_rising an_is_rising : Option Addr} {sl_is_rising : Array (Option Value)} {oc_is_rising kV_is_rising dc_is_rising pm_is_rising cd_is_rising ct_is_rising : Value} {f_init_Book : Addr} {od_init_Book an_init_Book : Option Addr} {sl_init_Book : Array (Option Value)} {oc_init_Book kV_init_Book dc_init_Book pm_init_Book cd_init_Book ct_init_Book : Value} {f_number_of : Addr} {od_number_of an_number_of : Option Addr} {sl_number_of : Array (Option Value)} {oc_number_of kV_number_of dc_number_of pm_number_of cd_number_of ct_number_of : Value} {f_numbers_of : Addr} {od_numbers_of an_numbers_of : Option Addr} {sl_numbers_of : Array (Option Value)} {oc_numbers_of kV_numbers_of dc_numbers_of pm_numbers_of cd_numbers_of ct_numbers_of : Value} {f_read_book : Addr} {od_read_book an_read_book : Option Addr} {sl_read_book : Array (Option Value)} {oc_read_book kV_read_book dc_read_book pm_read_book cd_read_book ct_read_book : Value} {f_check_book : Addr} {od_check_book an_check_book : Option Addr} {sl_check_book : Array (Option Value)} {oc_check_book kV_check_book dc_check_book pm_check_book cd_check_book ct_check_book : Value} {f_line_of : Addr} {od_line_of an_line_of : Option Addr} {sl_line_of : Array (Option Value)} {oc_line_of kV_line_of dc_line_of pm_line_of cd_line_of ct_line_of : Value} {f_text_of : Addr} {od_text_of an_text_of : Option Addr} {sl_text_of : Array (Option Value)} {oc_text_of kV_text_of dc_text_of pm_text_of cd_text_of ct_text_of : Value} {f_book_text : Addr} {od_book_text an_book_text : Option Addr} {sl_book_text : Array (Option Value)} {oc_book_text kV_book_text dc_book_text pm_book_text cd_book_text ct_book_text : Value} {f_fills : Addr} {od_fills an_fills : Option Addr} {sl_fills : Array (Option Value)} {oc_fills kV_fills dc_fills pm_fills cd_fills ct_fills : Value} {f_is_right : Addr} {od_is_right an_is_right : Option Addr} {sl_is_right : Array (Option Value)} {oc_is_right kV_is_right dc_is_right pm_is_right cd_is_right ct_is_right : Value} {f_check_filling : Addr} {od_check_filling an_check_filling : Option Addr} {sl_check_filling : Array (Option Value)} {oc_check_filling kV_check_filling dc_check_filling pm_check_filling cd_check_filling ct_check_filling : Value} {f_init_Desk : Addr} {od_init_Desk an_init_Desk : Option Addr} {sl_init_Desk : Array (Option Value)} {oc_init_Desk kV_init_Desk dc_init_Desk pm_init_Desk cd_init_Desk ct_init_Desk : Value} {f_Desk_text : Addr} {od_Desk_text an_Desk_text : Option Addr} {sl_Desk_text : Array (Option Value)} {oc_Desk_text kV_Desk_text dc_Desk_text pm_Desk_text cd_Desk_text ct_Desk_text : Value} {f_is_form : Addr} {od_is_form an_is_form : Option Addr} {sl_is_form : Array (Option Value)} {oc_is_form kV_is_form dc_is_form pm_is_form cd_is_form ct_is_form : Value} {f_goes : Addr} {od_goes an_goes : Option Addr} {sl_goes : Array (Option Value)} {oc_goes kV_goes dc_goes pm_goes cd_goes ct_goes : Value} {f_behind : Addr} {od_behind an_behind : Option Addr} {sl_behind : Array (Option Value)} {oc_behind kV_behind dc_behind pm_behind cd_behind ct_behind : Value} {f_exchanged : Addr} {od_exchanged an_exchanged : Option Addr} {sl_exchanged : Array (Option Value)} {oc_exchanged kV_exchanged dc_exchanged pm_exchanged cd_exchanged ct_exchanged : Value} {f_Desk_went : Addr} {od_Desk_went an_Desk_went : Option Addr} {sl_Desk_went : Array (Option Value)} {oc_Desk_went kV_Desk_went dc_Desk_went pm_Desk_went cd_Desk_went ct_Desk_went : Value} {f_Desk_say : Addr} {od_Desk_say an_Desk_say : Option Addr} {sl_Desk_say : Array (Option Value)} {oc_Desk_say kV_Desk_say dc_Desk_say pm_Desk_say cd_Desk_say ct_Desk_say : Value} {f__law_hand : Addr} {od__law_hand an__law_hand : Option Addr} {sl__law_hand : Array (Option Value)} {oc__law_hand kV__law_hand dc__law_hand pm__law_hand cd__law_hand ct__law_hand : Value} {f__law_text : Addr} {od__law_text an__law_text : Option Addr} {sl__law_text : Array (Option Value)} {oc__law_text kV__law_text dc__law_text pm__law_text cd__law_text ct__law_text : Value} {f__law_same : Addr} {od__law_same an__law_same : Option Addr} {sl__law_same : Array (Option Value)} {oc__law_same kV__law_same dc__law_same pm__law_same cd__law_same ct__law_same : Value} {f__law_is_read : Addr} {od__law_is_read an__law_is_read : Option Addr} {sl__law_is_read : Array (Option Value)} {oc__law_is_read kV__law_is_read dc__law_is_read pm__law_is_read cd__law_is_read ct__law_is_read : Value} {f__law_draw : Addr} {od__law_draw an__law_draw : Option Addr} {sl__law_draw : Array (Option Value)} {oc__law_draw kV__law_draw dc__law_draw pm__law_draw cd__law_draw ct__law_draw : Value} {f__law_mixed : Addr} {od__law_mixed an__law_mixed : Option Addr} {sl__law_mixed : Array (Option Value)} {oc__law_mixed kV__law_mixed dc__law_mixed pm__law_mixed cd__law_mixed ct__law_mixed : Value} {f__law_any : Addr} {od__law_any an__law_any : Option Addr} {sl__law_any : Array (Option Value)} {oc__law_any kV__law_any dc__law_any pm__law_any cd__law_any ct__law_any : Value} {f__law_case : Addr} {od__law_case an__law_case : Option Addr} {sl__law_case : Array (Option Value)} {oc__law_case kV__law_case dc__law_case pm__law_case cd__law_case ct__law_case : Value} {f__law_step : Addr} {od__law_step an__law_step : Option Addr} {sl__law_step : Array (Option Value)} {oc__law_step kV__law_step dc__law_step pm__law_step cd__law_step ct__law_step : Value} {f__law_done : Addr} {od__law_done an__law_done : Option Addr} {sl__law_done : Array (Option Value)} {oc__law_done kV__law_done dc__law_done pm__law_done cd__law_done ct__law_done : Value} {f__law_is_desk : Addr} {od__law_is_desk an__law_is_desk : Option Addr} {sl__law_is_desk : Array (Option Value)} {oc__law_is_desk kV__law_is_desk dc__law_is_desk pm__law_is_desk cd__law_is_desk ct__law_is_desk : Value} {f_law : Addr} {od_law an_law : Option Addr} {sl_law : Array (Option Value)} {oc_law kV_law dc_law pm_law cd_law ct_law : Value}
    (a_Book : PySem.W.nsIn K mainGlobals "Book" = some (some (.ref C_Book)))
    (pg_Book : PySem.W.plainGet K C_Book Str.empty = true)
    (hd_Book : PySem.W.hasDictIn K C_Book = true)
    (po_Book : PySem.W.plainOver K C_Book = true)
    (sa_Book : PySem.W.findIn K (.ref C_Book) "__setattr__" = some (some (.builtin "object.__setattr__")))
    (mk_Book : PySem.W.makesIn K C_Book = true)
    (kc_Book : PySem.W.keepIn K (.ref C_Book) = true)
    (no_Book_book : PySem.W.findIn K (.ref C_Book) "book" = some none)
    (no_Book_may : PySem.W.findIn K (.ref C_Book) "may" = some none)
    (no_Book_posts : PySem.W.findIn K (.ref C_Book) "posts" = some none)
    (no_Book_size : PySem.W.findIn K (.ref C_Book) "size" = some none)
    (no_Book_stood : PySem.W.findIn K (.ref C_Book) "stood" = some none)
    (ha_Book : PySem.W.findIn K (.ref C_Book) "__class__" = some (some (.builtin "object.__class__")))
    (mo_Book : PySem.W.mroIn K C_Book (.type "object") = some true)
    (ko_Book_int : PySem.W.subIn K (.ref C_Book) (.type "int") = some false)
    (ko_Book_bool : PySem.W.subIn K (.ref C_Book) (.type "bool") = some false)
    (ko_Book_tuple : PySem.W.subIn K (.ref C_Book) (.type "tuple") = some false)
    (ko_Book_list : PySem.W.subIn K (.ref C_Book) (.type "list") = some false)
    (ko_Book_str : PySem.W.subIn K (.ref C_Book) (.type "str") = some false)
    (ko_Book_dict : PySem.W.subIn K (.ref C_Book) (.type "dict") = some false)
    (kb_Book_NoneType : PySem.W.subIn K (.type "NoneType") (.ref C_Book) = some false)
    (kb_Book_int : PySem.W.subIn K (.type "int") (.ref C_Book) = some false)
    (kb_Book_bool : PySem.W.subIn K (.type "bool") (.ref C_Book) = some false)
    (kb_Book_tuple : PySem.W.subIn K (.type "tuple") (.ref C_Book) = some false)
    (kb_Book_list : PySem.W.subIn K (.type "list") (.ref C_Book) = some false)
    (kb_Book_str : PySem.W.subIn K (.type "str") (.ref C_Book) = some false)
    (kb_Book_dict : PySem.W.subIn K (.type "dict") (.ref C_Book) = some false)
    (ic_Book : PySem.W.isClsIn K C_Book = true)
    (ty_Book : PySem.W.typeIn K (.ref C_Book) = some (.type "type"))
    (a_Desk : PySem.W.nsIn K mainGlobals "Desk" = some (some (.ref C_Desk)))
    (pg_Desk : PySem.W.plainGet K C_Desk Str.empty = true)
    (hd_Desk : PySem.W.hasDictIn K C_Desk = true)
    (po_Desk : PySem.W.plainOver K C_Desk = true)
    (sa_Desk : PySem.W.findIn K (.ref C_Desk) "__setattr__" = some (some (.builtin "object.__setattr__")))
    (mk_Desk : PySem.W.makesIn K C_Desk = true)
    (kc_Desk : PySem.W.keepIn K (.ref C_Desk) = true)
    (no_Desk_book : PySem.W.findIn K (.ref C_Desk) "book" = some none)
    (no_Desk_size : PySem.W.findIn K (.ref C_Desk) "size" = some none)
    (no_Desk_stood : PySem.W.findIn K (.ref C_Desk) "stood" = some none)
    (ha_Desk : PySem.W.findIn K (.ref C_Desk) "__class__" = some (some (.builtin "object.__class__")))
    (mo_Desk : PySem.W.mroIn K C_Desk (.type "object") = some true)
    (ko_Desk_int : PySem.W.subIn K (.ref C_Desk) (.type "int") = some false)
    (ko_Desk_bool : PySem.W.subIn K (.ref C_Desk) (.type "bool") = some false)
    (ko_Desk_tuple : PySem.W.subIn K (.ref C_Desk) (.type "tuple") = some false)
    (ko_Desk_list : PySem.W.subIn K (.ref C_Desk) (.type "list") = some false)
    (ko_Desk_str : PySem.W.subIn K (.ref C_Desk) (.type "str") = some false)
    (ko_Desk_dict : PySem.W.subIn K (.ref C_Desk) (.type "dict") = some false)
    (kb_Desk_NoneType : PySem.W.subIn K (.type "NoneType") (.ref C_Desk) = some false)
    (kb_Desk_int : PySem.W.subIn K (.type "int") (.ref C_Desk) = some false)
    (kb_Desk_bool : PySem.W.subIn K (.type "bool") (.ref C_Desk) = some false)
    (kb_Desk_tuple : PySem.W.subIn K (.type "tuple") (.ref C_Desk) = some false)
    (kb_Desk_list : PySem.W.subIn K (.type "list") (.ref C_Desk) = some false)
    (kb_Desk_str : PySem.W.subIn K (.type "str") (.ref C_Desk) = some false)
    (kb_Desk_dict : PySem.W.subIn K (.type "dict") (.ref C_Desk) = some false)
    (ic_Desk : PySem.W.isClsIn K C_Desk = true)
    (ty_Desk : PySem.W.typeIn K (.ref C_Desk) = some (.type "type"))
    (gs_class : PySem.W.specialIn K (.builtin "object.__class__") "__get__" = some (some (.builtin "getset_descriptor.__get__")))
    (tk_class : PySem.W.takesIn K (.builtin "object.__class__") = some true)
    (ks_Book : PySem.W.subIn K (.ref C_Book) (.ref C_Book) = some true)
    (ks_Book_Desk : PySem.W.subIn K (.ref C_Book) (.ref C_Desk) = some false)
    (ks_Desk : PySem.W.subIn K (.ref C_Desk) (.ref C_Desk) = some true)
    (ks_Desk_Book : PySem.W.subIn K (.ref C_Desk) (.ref C_Book) = some false)
    (z_abs : PySem.W.nsIn K mainGlobals "abs" = some none)
    (z_all : PySem.W.nsIn K mainGlobals "all" = some none)
    (z_any : PySem.W.nsIn K mainGlobals "any" = some none)
    (z_bool : PySem.W.nsIn K mainGlobals "bool" = some none)
    (z_enumerate : PySem.W.nsIn K mainGlobals "enumerate" = some none)
    (z_int : PySem.W.nsIn K mainGlobals "int" = some none)
    (z_isinstance : PySem.W.nsIn K mainGlobals "isinstance" = some none)
    (z_len : PySem.W.nsIn K mainGlobals "len" = some none)
    (z_list : PySem.W.nsIn K mainGlobals "list" = some none)
    (z_max : PySem.W.nsIn K mainGlobals "max" = some none)
    (z_min : PySem.W.nsIn K mainGlobals "min" = some none)
    (z_range : PySem.W.nsIn K mainGlobals "range" = some none)
    (z_set : PySem.W.nsIn K mainGlobals "set" = some none)
    (z_sorted : PySem.W.nsIn K mainGlobals "sorted" = some none)
    (z_str : PySem.W.nsIn K mainGlobals "str" = some none)
    (z_tuple : PySem.W.nsIn K mainGlobals "tuple" = some none)
    (z_zip : PySem.W.nsIn K mainGlobals "zip" = some none)
    (v_GO : PySem.W.nsIn K mainGlobals "GO" = some (some (.str "go" t_c_GO)))
    (a_c_MANY : PySem.W.nsIn K mainGlobals "MANY" = some (some (.ref tu_MANY)))
    (tl_c_MANY : K.lookup tu_MANY = some ⟨tuc_MANY, tud_MANY, .dict tue_MANY tun_MANY, tus_MANY⟩)
    (tp_c_MANY0 : tuc_MANY = .type "dict")
    (tp_c_MANY1 : tud_MANY = none)
    (tp_c_MANY2 : tus_MANY = #[])
    (tp_c_MANY3 : tue_MANY.toList.map He.keyOf = He.keysIn w.params ["size", "undo", "post", "width", "always", "apart", "swaps"])
    (tp_c_MANY4 : tue_MANY.toList.map keyVal = ([("size", 1), ("undo", 0), ("post", 1), ("width", 0), ("always", 0), ("apart", 0), ("swaps", 0)] : List (Str × Int)).map some)
    (tp_c_MANY5 : (tu_MANY == sysModules) = false)
    (v_MOST_DIGITS : PySem.W.nsIn K mainGlobals "MOST_DIGITS" = some (some (.int 2 t_c_MOST_DIGITS)))
    (v_MOST_PERSONS : PySem.W.nsIn K mainGlobals "MOST_PERSONS" = some (some (.int 12 t_c_MOST_PERSONS)))
    (v_MOST_POSTS : PySem.W.nsIn K mainGlobals "MOST_POSTS" = some (some (.int 12 t_c_MOST_POSTS)))
    (v_MOST_SIZE : PySem.W.nsIn K mainGlobals "MOST_SIZE" = some (some (.int 12 t_c_MOST_SIZE)))
    (v_NO : PySem.W.nsIn K mainGlobals "NO" = some (some (.str "no" t_c_NO)))
    (v_OK : PySem.W.nsIn K mainGlobals "OK" = some (some (.str "ok" t_c_OK)))
    (v_YES : PySem.W.nsIn K mainGlobals "YES" = some (some (.str "yes" t_c_YES)))
    (e_BadBook : PySem.W.nsIn K mainGlobals "BadBook" = some (some (.ref E_BadBook)))
    (ek_BadBook : PySem.W.keepIn K (.ref E_BadBook) = true)
    (eb_BadBook : PySem.W.subIn K (.ref E_BadBook) (.type "BaseException") = some true)
    (et_BadBook : PySem.W.typeIn K (.ref E_BadBook) = some (.type "type"))
    (xl_BadBook : K.lookup E_BadBook = some (excClassObj xnm_BadBook xq_BadBook E_BadBook xN_BadBook xbs_BadBook [.ref EP_BadBook, .type "ValueError", .type "Exception", .type "BaseException", .type "object"] true xsn_BadBook xsub_BadBook xab_BadBook xcol_BadBook xdd_BadBook xm0_BadBook xm1_BadBook xm2_BadBook xm3_BadBook xm5_BadBook "ValueError.__new__"))
    (es_BadBook : PySem.W.findIn K (.ref E_BadBook) "__setattr__" = some (some (.builtin "object.__setattr__")))
    (ei_BadBook : PySem.W.findIn K (.ref E_BadBook) "__init__" = some (some (.ref EI_BadBook)))
    (ety_BadBook : PySem.W.typeIn K (.ref EI_BadBook) = some (.type "function"))
    (en_BadBook_what : PySem.W.findIn K (.ref E_BadBook) "what" = some none)
    (en_BadBook_at : PySem.W.findIn K (.ref E_BadBook) "at" = some none)
    (el_BadBook : K.lookup EI_BadBook = some ⟨xoc_BadBook, xod_BadBook, .func (PySem.W.fnOf "__init__" "BadBook.__init__" (defArgs (inClass (top 2) 0)) (defBody (inClass (top 2) 0)) (defScope (inClass (top 2) 0)) .none xkV_BadBook xdc_BadBook xpm_BadBook xan_BadBook xcd_BadBook xct_BadBook), xsl_BadBook⟩)
    (ec_BadBook : PySem.W.codeIn K xcd_BadBook "BadBook.__init__" = true)
    (ekk_BadBook : PySem.W.keepIn K (.ref EI_BadBook) = true)
    (e_BadExchange : PySem.W.nsIn K mainGlobals "BadExchange" = some (some (.ref E_BadExchange)))
    (ek_BadExchange : PySem.W.keepIn K (.ref E_BadExchange) = true)
    (eb_BadExchange : PySem.W.subIn K (.ref E_BadExchange) (.type "BaseException") = some true)
    (et_BadExchange : PySem.W.typeIn K (.ref E_BadExchange) = some (.type "type"))
    (ex_BadExchange : PySem.W.excIn K E_BadExchange [.type "ValueError", .type "Exception", .type "BaseException", .type "object"] "ValueError.__new__" = true)
    (e_BadFilling : PySem.W.nsIn K mainGlobals "BadFilling" = some (some (.ref E_BadFilling)))
    (ek_BadFilling : PySem.W.keepIn K (.ref E_BadFilling) = true)
    (eb_BadFilling : PySem.W.subIn K (.ref E_BadFilling) (.type "BaseException") = some true)
    (et_BadFilling : PySem.W.typeIn K (.ref E_BadFilling) = some (.type "type"))
    (ex_BadFilling : PySem.W.excIn K E_BadFilling [.type "ValueError", .type "Exception", .type "BaseException", .type "object"] "ValueError.__new__" = true)
    (e_BadText : PySem.W.nsIn K mainGlobals "BadText" = some (some (.ref E_BadText)))
    (ek_BadText : PySem.W.keepIn K (.ref E_BadText) = true)
    (eb_BadText : PySem.W.subIn K (.ref E_BadText) (.type "BaseException") = some true)
    (et_BadText : PySem.W.typeIn K (.ref E_BadText) = some (.type "type"))
    (xl_BadText : K.lookup E_BadText = some (excClassObj xnm_BadText xq_BadText E_BadText xN_BadText xbs_BadText [.ref EP_BadText, .type "ValueError", .type "Exception", .type "BaseException", .type "object"] true xsn_BadText xsub_BadText xab_BadText xcol_BadText xdd_BadText xm0_BadText xm1_BadText xm2_BadText xm3_BadText xm5_BadText "ValueError.__new__"))
    (es_BadText : PySem.W.findIn K (.ref E_BadText) "__setattr__" = some (some (.builtin "object.__setattr__")))
    (ei_BadText : PySem.W.findIn K (.ref E_BadText) "__init__" = some (some (.ref EI_BadText)))
    (ety_BadText : PySem.W.typeIn K (.ref EI_BadText) = some (.type "function"))
    (en_BadText_line : PySem.W.findIn K (.ref E_BadText) "line" = some none)
    (el_BadText : K.lookup EI_BadText = some ⟨xoc_BadText, xod_BadText, .func (PySem.W.fnOf "__init__" "BadText.__init__" (defArgs (inClass (top 5) 0)) (defBody (inClass (top 5) 0)) (defScope (inClass (top 5) 0)) .none xkV_BadText xdc_BadText xpm_BadText xan_BadText xcd_BadText xct_BadText), xsl_BadText⟩)
    (ec_BadText : PySem.W.codeIn K xcd_BadText "BadText.__init__" = true)
    (ekk_BadText : PySem.W.keepIn K (.ref EI_BadText) = true)
    (e_NoBook : PySem.W.nsIn K mainGlobals "NoBook" = some (some (.ref E_NoBook)))
    (ek_NoBook : PySem.W.keepIn K (.ref E_NoBook) = true)
    (eb_NoBook : PySem.W.subIn K (.ref E_NoBook) (.type "BaseException") = some true)
    (et_NoBook : PySem.W.typeIn K (.ref E_NoBook) = some (.type "type"))
    (ex_NoBook : PySem.W.excIn K E_NoBook [.type "ValueError", .type "Exception", .type "BaseException", .type "object"] "ValueError.__new__" = true)
    (a_eq_Book : PySem.W.findIn K (.ref C_Book) "__eq__" = some (some (.ref f_eq_Book)))
    (i_eq_Book : PySem.W.isFn K (.ref f_eq_Book) = true)
    (ne_eq_Book : PySem.W.findIn K (.ref C_Book) "__ne__" = some (some (.builtin "object.__ne__")))
    (l_eq_Book : K.lookup f_eq_Book = some ⟨oc_eq_Book, od_eq_Book, .func (PySem.W.fnOf "__eq__" "Book.__eq__" (defArgs s_eq_Book) (defBody s_eq_Book) (defScope s_eq_Book) .none kV_eq_Book dc_eq_Book pm_eq_Book an_eq_Book cd_eq_Book ct_eq_Book), sl_eq_Book⟩)
    (c_eq_Book : PySem.W.codeIn K cd_eq_Book "Book.__eq__" = true)
    (k_eq_Book : PySem.W.keepIn K (.ref f_eq_Book) = true)
    (a_is_integer : PySem.W.nsIn K mainGlobals "is_integer" = some (some (.ref f_is_integer)))
    (l_is_integer : K.lookup f_is_integer = some ⟨oc_is_integer, od_is_integer, .func (PySem.W.fnOf "is_integer" "is_integer" (defArgs s_is_integer) (defBody s_is_integer) (defScope s_is_integer) .none kV_is_integer dc_is_integer pm_is_integer an_is_integer cd_is_integer ct_is_integer), sl_is_integer⟩)
    (c_is_integer : PySem.W.codeIn K cd_is_integer "is_integer" = true)
    (k_is_integer : PySem.W.keepIn K (.ref f_is_integer) = true)
    (a_is_within : PySem.W.nsIn K mainGlobals "is_within" = some (some (.ref f_is_within)))
    (l_is_within : K.lookup f_is_within = some ⟨oc_is_within, od_is_within, .func (PySem.W.fnOf "is_within" "is_within" (defArgs s_is_within) (defBody s_is_within) (defScope s_is_within) .none kV_is_within dc_is_within pm_is_within an_is_within cd_is_within ct_is_within), sl_is_within⟩)
    (c_is_within : PySem.W.codeIn K cd_is_within "is_within" = true)
    (k_is_within : PySem.W.keepIn K (.ref f_is_within) = true)
    (a_is_rising : PySem.W.nsIn K mainGlobals "is_rising" = some (some (.ref f_is_rising)))
    (l_is_rising : K.lookup f_is_rising = some ⟨oc_is_rising, od_is_rising, .func (PySem.W.fnOf "is_rising" "is_rising" (defArgs s_is_rising) (defBody s_is_rising) (defScope s_is_rising) .none kV_is_rising dc_is_rising pm_is_rising an_is_rising cd_is_rising ct_is_rising), sl_is_rising⟩)
    (c_is_rising : PySem.W.codeIn K cd_is_rising "is_rising" = true)
    (k_is_rising : PySem.W.keepIn K (.ref f_is_rising) = true)
    (a_init_Book : PySem.W.findIn K (.ref C_Book) "__init__" = some (some (.ref f_init_Book)))
    (i_init_Book : PySem.W.isFn K (.ref f_init_Book) = true)
    (l_init_Book : K.lookup f_init_Book = some ⟨oc_init_Book, od_init_Book, .func (PySem.W.fnOf "__init__" "Book.__init__" (defArgs s_init_Book) (defBody s_init_Book) (defScope s_init_Book) .none kV_init_Book dc_init_Book pm_init_Book an_init_Book cd_init_Book ct_init_Book), sl_init_Book⟩)
    (c_init_Book : PySem.W.codeIn K cd_init_Book "Book.__init__" = true)
    (k_init_Book : PySem.W.keepIn K (.ref f_init_Book) = true)
    (a_number_of : PySem.W.nsIn K mainGlobals "number_of" = some (some (.ref f_number_of)))
    (l_number_of : K.lookup f_number_of = some ⟨oc_number_of, od_number_of, .func (PySem.W.fnOf "number_of" "number_of" (defArgs s_number_of) (defBody s_number_of) (defScope s_number_of) .none kV_number_of dc_number_of pm_number_of an_number_of cd_number_of ct_number_of), sl_number_of⟩)
    (c_number_of : PySem.W.codeIn K cd_number_of "number_of" = true)
    (k_number_of : PySem.W.keepIn K (.ref f_number_of) = true)
    (a_numbers_of : PySem.W.nsIn K mainGlobals "numbers_of" = some (some (.ref f_numbers_of)))
    (l_numbers_of : K.lookup f_numbers_of = some ⟨oc_numbers_of, od_numbers_of, .func (PySem.W.fnOf "numbers_of" "numbers_of" (defArgs s_numbers_of) (defBody s_numbers_of) (defScope s_numbers_of) .none kV_numbers_of dc_numbers_of pm_numbers_of an_numbers_of cd_numbers_of ct_numbers_of), sl_numbers_of⟩)
    (c_numbers_of : PySem.W.codeIn K cd_numbers_of "numbers_of" = true)
    (k_numbers_of : PySem.W.keepIn K (.ref f_numbers_of) = true)
    (a_read_book : PySem.W.nsIn K mainGlobals "read_book" = some (some (.ref f_read_book)))
    (l_read_book : K.lookup f_read_book = some ⟨oc_read_book, od_read_book, .func (PySem.W.fnOf "read_book" "read_book" (defArgs s_read_book) (defBody s_read_book) (defScope s_read_book) .none kV_read_book dc_read_book pm_read_book an_read_book cd_read_book ct_read_book), sl_read_book⟩)
    (c_read_book : PySem.W.codeIn K cd_read_book "read_book" = true)
    (k_read_book : PySem.W.keepIn K (.ref f_read_book) = true)
    (a_check_book : PySem.W.nsIn K mainGlobals "check_book" = some (some (.ref f_check_book)))
    (l_check_book : K.lookup f_check_book = some ⟨oc_check_book, od_check_book, .func (PySem.W.fnOf "check_book" "check_book" (defArgs s_check_book) (defBody s_check_book) (defScope s_check_book) .none kV_check_book dc_check_book pm_check_book an_check_book cd_check_book ct_check_book), sl_check_book⟩)
    (c_check_book : PySem.W.codeIn K cd_check_book "check_book" = true)
    (k_check_book : PySem.W.keepIn K (.ref f_check_book) = true)
    (a_line_of : PySem.W.nsIn K mainGlobals "line_of" = some (some (.ref f_line_of)))
    (l_line_of : K.lookup f_line_of = some ⟨oc_line_of, od_line_of, .func (PySem.W.fnOf "line_of" "line_of" (defArgs s_line_of) (defBody s_line_of) (defScope s_line_of) .none kV_line_of dc_line_of pm_line_of an_line_of cd_line_of ct_line_of), sl_line_of⟩)
    (c_line_of : PySem.W.codeIn K cd_line_of "line_of" = true)
    (k_line_of : PySem.W.keepIn K (.ref f_line_of) = true)
    (a_text_of : PySem.W.nsIn K mainGlobals "text_of" = some (some (.ref f_text_of)))
    (l_text_of : K.lookup f_text_of = some ⟨oc_text_of, od_text_of, .func (PySem.W.fnOf "text_of" "text_of" (defArgs s_text_of) (defBody s_text_of) (defScope s_text_of) .none kV_text_of dc_text_of pm_text_of an_text_of cd_text_of ct_text_of), sl_text_of⟩)
    (c_text_of : PySem.W.codeIn K cd_text_of "text_of" = true)
    (k_text_of : PySem.W.keepIn K (.ref f_text_of) = true)
    (a_book_text : PySem.W.nsIn K mainGlobals "book_text" = some (some (.ref f_book_text)))
    (l_book_text : K.lookup f_book_text = some ⟨oc_book_text, od_book_text, .func (PySem.W.fnOf "book_text" "book_text" (defArgs s_book_text) (defBody s_book_text) (defScope s_book_text) .none kV_book_text dc_book_text pm_book_text an_book_text cd_book_text ct_book_text), sl_book_text⟩)
    (c_book_text : PySem.W.codeIn K cd_book_text "book_text" = true)
    (k_book_text : PySem.W.keepIn K (.ref f_book_text) = true)
    (a_fills : PySem.W.nsIn K mainGlobals "fills" = some (some (.ref f_fills)))
    (l_fills : K.lookup f_fills = some ⟨oc_fills, od_fills, .func (PySem.W.fnOf "fills" "fills" (defArgs s_fills) (defBody s_fills) (defScope s_fills) .none kV_fills dc_fills pm_fills an_fills cd_fills ct_fills), sl_fills⟩)
    (c_fills : PySem.W.codeIn K cd_fills "fills" = true)
    (k_fills : PySem.W.keepIn K (.ref f_fills) = true)
    (a_is_right : PySem.W.nsIn K mainGlobals "is_right" = some (some (.ref f_is_right)))
    (l_is_right : K.lookup f_is_right = some ⟨oc_is_right, od_is_right, .func (PySem.W.fnOf "is_right" "is_right" (defArgs s_is_right) (defBody s_is_right) (defScope s_is_right) .none kV_is_right dc_is_right pm_is_right an_is_right cd_is_right ct_is_right), sl_is_right⟩)
    (c_is_right : PySem.W.codeIn K cd_is_right "is_right" = true)
    (k_is_right : PySem.W.keepIn K (.ref f_is_right) = true)
    (a_check_filling : PySem.W.nsIn K mainGlobals "check_filling" = some (some (.ref f_check_filling)))
    (l_check_filling : K.lookup f_check_filling = some ⟨oc_check_filling, od_check_filling, .func (PySem.W.fnOf "check_filling" "check_filling" (defArgs s_check_filling) (defBody s_check_filling) (defScope s_check_filling) .none kV_check_filling dc_check_filling pm_check_filling an_check_filling cd_check_filling ct_check_filling), sl_check_filling⟩)
    (c_check_filling : PySem.W.codeIn K cd_check_filling "check_filling" = true)
    (k_check_filling : PySem.W.keepIn K (.ref f_check_filling) = true)
    (a_init_Desk : PySem.W.findIn K (.ref C_Desk) "__init__" = some (some (.ref f_init_Desk)))
    (i_init_Desk : PySem.W.isFn K (.ref f_init_Desk) = true)
    (l_init_Desk : K.lookup f_init_Desk = some ⟨oc_init_Desk, od_init_Desk, .func (PySem.W.fnOf "__init__" "Desk.__init__" (defArgs s_init_Desk) (defBody s_init_Desk) (defScope s_init_Desk) .none kV_init_Desk dc_init_Desk pm_init_Desk an_init_Desk cd_init_Desk ct_init_Desk), sl_init_Desk⟩)
    (c_init_Desk : PySem.W.codeIn K cd_init_Desk "Desk.__init__" = true)
    (k_init_Desk : PySem.W.keepIn K (.ref f_init_Desk) = true)
    (a_Desk_text : PySem.W.findIn K (.ref C_Desk) "text" = some (some (.ref f_Desk_text)))
    (i_Desk_text : PySem.W.isFn K (.ref f_Desk_text) = true)
    (l_Desk_text : K.lookup f_Desk_text = some ⟨oc_Desk_text, od_Desk_text, .func (PySem.W.fnOf "text" "Desk.text" (defArgs s_Desk_text) (defBody s_Desk_text) (defScope s_Desk_text) .none kV_Desk_text dc_Desk_text pm_Desk_text an_Desk_text cd_Desk_text ct_Desk_text), sl_Desk_text⟩)
    (c_Desk_text : PySem.W.codeIn K cd_Desk_text "Desk.text" = true)
    (k_Desk_text : PySem.W.keepIn K (.ref f_Desk_text) = true)
    (a_is_form : PySem.W.nsIn K mainGlobals "is_form" = some (some (.ref f_is_form)))
    (l_is_form : K.lookup f_is_form = some ⟨oc_is_form, od_is_form, .func (PySem.W.fnOf "is_form" "is_form" (defArgs s_is_form) (defBody s_is_form) (defScope s_is_form) .none kV_is_form dc_is_form pm_is_form an_is_form cd_is_form ct_is_form), sl_is_form⟩)
    (c_is_form : PySem.W.codeIn K cd_is_form "is_form" = true)
    (k_is_form : PySem.W.keepIn K (.ref f_is_form) = true)
    (a_goes : PySem.W.nsIn K mainGlobals "goes" = some (some (.ref f_goes)))
    (l_goes : K.lookup f_goes = some ⟨oc_goes, od_goes, .func (PySem.W.fnOf "goes" "goes" (defArgs s_goes) (defBody s_goes) (defScope s_goes) .none kV_goes dc_goes pm_goes an_goes cd_goes ct_goes), sl_goes⟩)
    (c_goes : PySem.W.codeIn K cd_goes "goes" = true)
    (k_goes : PySem.W.keepIn K (.ref f_goes) = true)
    (a_behind : PySem.W.nsIn K mainGlobals "behind" = some (some (.ref f_behind)))
    (l_behind : K.lookup f_behind = some ⟨oc_behind, od_behind, .func (PySem.W.fnOf "behind" "behind" (defArgs s_behind) (defBody s_behind) (defScope s_behind) .none kV_behind dc_behind pm_behind an_behind cd_behind ct_behind), sl_behind⟩)
    (c_behind : PySem.W.codeIn K cd_behind "behind" = true)
    (k_behind : PySem.W.keepIn K (.ref f_behind) = true)
    (a_exchanged : PySem.W.nsIn K mainGlobals "exchanged" = some (some (.ref f_exchanged)))
    (l_exchanged : K.lookup f_exchanged = some ⟨oc_exchanged, od_exchanged, .func (PySem.W.fnOf "exchanged" "exchanged" (defArgs s_exchanged) (defBody s_exchanged) (defScope s_exchanged) .none kV_exchanged dc_exchanged pm_exchanged an_exchanged cd_exchanged ct_exchanged), sl_exchanged⟩)
    (c_exchanged : PySem.W.codeIn K cd_exchanged "exchanged" = true)
    (k_exchanged : PySem.W.keepIn K (.ref f_exchanged) = true)
    (a_Desk_went : PySem.W.findIn K (.ref C_Desk) "went" = some (some (.ref f_Desk_went)))
    (i_Desk_went : PySem.W.isFn K (.ref f_Desk_went) = true)
    (l_Desk_went : K.lookup f_Desk_went = some ⟨oc_Desk_went, od_Desk_went, .func (PySem.W.fnOf "went" "Desk.went" (defArgs s_Desk_went) (defBody s_Desk_went) (defScope s_Desk_went) .none kV_Desk_went dc_Desk_went pm_Desk_went an_Desk_went cd_Desk_went ct_Desk_went), sl_Desk_went⟩)
    (c_Desk_went : PySem.W.codeIn K cd_Desk_went "Desk.went" = true)
    (k_Desk_went : PySem.W.keepIn K (.ref f_Desk_went) = true)
    (a_Desk_say : PySem.W.findIn K (.ref C_Desk) "say" = some (some (.ref f_Desk_say)))
    (i_Desk_say : PySem.W.isFn K (.ref f_Desk_say) = true)
    (l_Desk_say : K.lookup f_Desk_say = some ⟨oc_Desk_say, od_Desk_say, .func (PySem.W.fnOf "say" "Desk.say" (defArgs s_Desk_say) (defBody s_Desk_say) (defScope s_Desk_say) .none kV_Desk_say dc_Desk_say pm_Desk_say an_Desk_say cd_Desk_say ct_Desk_say), sl_Desk_say⟩)
    (c_Desk_say : PySem.W.codeIn K cd_Desk_say "Desk.say" = true)
    (k_Desk_say : PySem.W.keepIn K (.ref f_Desk_say) = true)
    (a__law_hand : PySem.W.nsIn K mainGlobals "_law_hand" = some (some (.ref f__law_hand)))
    (l__law_hand : K.lookup f__law_hand = some ⟨oc__law_hand, od__law_hand, .func (PySem.W.fnOf "_law_hand" "_law_hand" (defArgs s__law_hand) (defBody s__law_hand) (defScope s__law_hand) .none kV__law_hand dc__law_hand pm__law_hand an__law_hand cd__law_hand ct__law_hand), sl__law_hand⟩)
    (c__law_hand : PySem.W.codeIn K cd__law_hand "_law_hand" = true)
    (k__law_hand : PySem.W.keepIn K (.ref f__law_hand) = true)
    (a__law_text : PySem.W.nsIn K mainGlobals "_law_text" = some (some (.ref f__law_text)))
    (l__law_text : K.lookup f__law_text = some ⟨oc__law_text, od__law_text, .func (PySem.W.fnOf "_law_text" "_law_text" (defArgs s__law_text) (defBody s__law_text) (defScope s__law_text) .none kV__law_text dc__law_text pm__law_text an__law_text cd__law_text ct__law_text), sl__law_text⟩)
    (c__law_text : PySem.W.codeIn K cd__law_text "_law_text" = true)
    (k__law_text : PySem.W.keepIn K (.ref f__law_text) = true)
    (a__law_same : PySem.W.nsIn K mainGlobals "_law_same" = some (some (.ref f__law_same)))
    (l__law_same : K.lookup f__law_same = some ⟨oc__law_same, od__law_same, .func (PySem.W.fnOf "_law_same" "_law_same" (defArgs s__law_same) (defBody s__law_same) (defScope s__law_same) .none kV__law_same dc__law_same pm__law_same an__law_same cd__law_same ct__law_same), sl__law_same⟩)
    (c__law_same : PySem.W.codeIn K cd__law_same "_law_same" = true)
    (k__law_same : PySem.W.keepIn K (.ref f__law_same) = true)
    (a__law_is_read : PySem.W.nsIn K mainGlobals "_law_is_read" = some (some (.ref f__law_is_read)))
    (l__law_is_read : K.lookup f__law_is_read = some ⟨oc__law_is_read, od__law_is_read, .func (PySem.W.fnOf "_law_is_read" "_law_is_read" (defArgs s__law_is_read) (defBody s__law_is_read) (defScope s__law_is_read) .none kV__law_is_read dc__law_is_read pm__law_is_read an__law_is_read cd__law_is_read ct__law_is_read), sl__law_is_read⟩)
    (c__law_is_read : PySem.W.codeIn K cd__law_is_read "_law_is_read" = true)
    (k__law_is_read : PySem.W.keepIn K (.ref f__law_is_read) = true)
    (a__law_draw : PySem.W.nsIn K mainGlobals "_law_draw" = some (some (.ref f__law_draw)))
    (l__law_draw : K.lookup f__law_draw = some ⟨oc__law_draw, od__law_draw, .func (PySem.W.fnOf "_law_draw" "_law_draw" (defArgs s__law_draw) (defBody s__law_draw) (defScope s__law_draw) .none kV__law_draw dc__law_draw pm__law_draw an__law_draw cd__law_draw ct__law_draw), sl__law_draw⟩)
    (c__law_draw : PySem.W.codeIn K cd__law_draw "_law_draw" = true)
    (k__law_draw : PySem.W.keepIn K (.ref f__law_draw) = true)
    (a__law_mixed : PySem.W.nsIn K mainGlobals "_law_mixed" = some (some (.ref f__law_mixed)))
    (l__law_mixed : K.lookup f__law_mixed = some ⟨oc__law_mixed, od__law_mixed, .func (PySem.W.fnOf "_law_mixed" "_law_mixed" (defArgs s__law_mixed) (defBody s__law_mixed) (defScope s__law_mixed) .none kV__law_mixed dc__law_mixed pm__law_mixed an__law_mixed cd__law_mixed ct__law_mixed), sl__law_mixed⟩)
    (c__law_mixed : PySem.W.codeIn K cd__law_mixed "_law_mixed" = true)
    (k__law_mixed : PySem.W.keepIn K (.ref f__law_mixed) = true)
    (a__law_any : PySem.W.nsIn K mainGlobals "_law_any" = some (some (.ref f__law_any)))
    (l__law_any : K.lookup f__law_any = some ⟨oc__law_any, od__law_any, .func (PySem.W.fnOf "_law_any" "_law_any" (defArgs s__law_any) (defBody s__law_any) (defScope s__law_any) .none kV__law_any dc__law_any pm__law_any an__law_any cd__law_any ct__law_any), sl__law_any⟩)
    (c__law_any : PySem.W.codeIn K cd__law_any "_law_any" = true)
    (k__law_any : PySem.W.keepIn K (.ref f__law_any) = true)
    (a__law_case : PySem.W.nsIn K mainGlobals "_law_case" = some (some (.ref f__law_case)))
    (l__law_case : K.lookup f__law_case = some ⟨oc__law_case, od__law_case, .func (PySem.W.fnOf "_law_case" "_law_case" (defArgs s__law_case) (defBody s__law_case) (defScope s__law_case) .none kV__law_case dc__law_case pm__law_case an__law_case cd__law_case ct__law_case), sl__law_case⟩)
    (c__law_case : PySem.W.codeIn K cd__law_case "_law_case" = true)
    (k__law_case : PySem.W.keepIn K (.ref f__law_case) = true)
    (a__law_step : PySem.W.nsIn K mainGlobals "_law_step" = some (some (.ref f__law_step)))
    (l__law_step : K.lookup f__law_step = some ⟨oc__law_step, od__law_step, .func (PySem.W.fnOf "_law_step" "_law_step" (defArgs s__law_step) (defBody s__law_step) (defScope s__law_step) .none kV__law_step dc__law_step pm__law_step an__law_step cd__law_step ct__law_step), sl__law_step⟩)
    (c__law_step : PySem.W.codeIn K cd__law_step "_law_step" = true)
    (k__law_step : PySem.W.keepIn K (.ref f__law_step) = true)
    (a__law_done : PySem.W.nsIn K mainGlobals "_law_done" = some (some (.ref f__law_done)))
    (l__law_done : K.lookup f__law_done = some ⟨oc__law_done, od__law_done, .func (PySem.W.fnOf "_law_done" "_law_done" (defArgs s__law_done) (defBody s__law_done) (defScope s__law_done) .none kV__law_done dc__law_done pm__law_done an__law_done cd__law_done ct__law_done), sl__law_done⟩)
    (c__law_done : PySem.W.codeIn K cd__law_done "_law_done" = true)
    (k__law_done : PySem.W.keepIn K (.ref f__law_done) = true)
    (a__law_is_desk : PySem.W.nsIn K mainGlobals "_law_is_desk" = some (some (.ref f__law_is_desk)))
    (l__law_is_desk : K.lookup f__law_is_desk = some ⟨oc__law_is_desk, od__law_is_desk, .func (PySem.W.fnOf "_law_is_desk" "_law_is_desk" (defArgs s__law_is_desk) (defBody s__law_is_desk) (defScope s__law_is_desk) .none kV__law_is_desk dc__law_is_desk pm__law_is_desk an__law_is_desk cd__law_is_desk ct__law_is_desk), sl__law_is_desk⟩)
    (c__law_is_desk : PySem.W.codeIn K cd__law_is_desk "_law_is_desk" = true)
    (k__law_is_desk : PySem.W.keepIn K (.ref f__law_is_desk) = true)
    (a_law : PySem.W.nsIn K mainGlobals "law" = some (some (.ref f_law)))
    (l_law : K.lookup f_law = some ⟨oc_law, od_law, .func (PySem.W.fnOf "law" "law" (defArgs s_law) (defBody s_law) (defScope s_law) .none kV_law dc_law pm_law an_law cd_law ct_law), sl_law⟩)
    (c_law : PySem.W.codeIn K cd_law "law" = true)
    (k_law : PySem.W.keepIn K (.ref f_law) = true)
    : ∃ fd : FuncData, (∀ (s : Shared) (v : Value), BindsTo s fd ⟨[v], []⟩ [("script", v)]) ∧ ∀ base : Heap, K.In base → base.Ns mainGlobals mg → SysB base → FnG l.prog w K mg base (L2N.CX l.prog w) 9 fa fd ["script"] (spLaw K) := by
  have e := hfa.symm.trans (PySem.W.mg_of X G a_law)
  cases e
  have g_Book : mg (Str.ofString "Book") = some (.ref C_Book) := PySem.W.mg_of X G a_Book
  have cl_Book : Cls K C_Book := ⟨pg_Book, hd_Book, po_Book, sa_Book⟩
  have g_Desk : mg (Str.ofString "Desk") = some (.ref C_Desk) := PySem.W.mg_of X G a_Desk
  have cl_Desk : Cls K C_Desk := ⟨pg_Desk, hd_Desk, po_Desk, sa_Desk⟩
  have ownA_ := ownT_cons (ownT1 g_Book cl_Book ha_Book mo_Book gs_class tk_class ic_Book ty_Book ko_Book_int ko_Book_bool ko_Book_tuple ko_Book_list ko_Book_str ko_Book_dict kb_Book_NoneType kb_Book_int kb_Book_bool kb_Book_tuple kb_Book_list kb_Book_str kb_Book_dict) (ownT1 g_Desk cl_Desk ha_Desk mo_Desk gs_class tk_class ic_Desk ty_Desk ko_Desk_int ko_Desk_bool ko_Desk_tuple ko_Desk_list ko_Desk_str ko_Desk_dict kb_Desk_NoneType kb_Desk_int kb_Desk_bool kb_Desk_tuple kb_Desk_list kb_Desk_str kb_Desk_dict) (fun c_ hc_ => by simp only [List.mem_cons, List.not_mem_nil, or_false] at hc_; subst hc_; exact cross_mk g_Book g_Desk ic_Book ic_Desk ty_Book ty_Desk ks_Book ks_Desk_Book ks_Book_Desk (by decide))
  have XF_BadBook := fun_mk (st := inClass (top 2) 0) el_BadBook ec_BadBook ekk_BadBook
  have xb_BadBook := XF_BadBook.binds (ps := (["self", "what", "at"] : List Str)) fun _ _ _ _ _ _ us hl => match us, hl with | [_, _, _], _ => rfl
  have XF_BadText := fun_mk (st := inClass (top 5) 0) el_BadText ec_BadText ekk_BadText
  have xb_BadText := XF_BadText.binds (ps := (["self", "line"] : List Str)) fun _ _ _ _ _ _ us hl => match us, hl with | [_, _], _ => rfl
  have F_eq_Book := fun_mk (st := s_eq_Book) l_eq_Book c_eq_Book k_eq_Book
  have b_eq_Book := F_eq_Book.binds (ps := (["self", "other"] : List Str)) fun _ _ _ _ _ _ us hl => match us, hl with | [_, _], _ => rfl
  have F_is_integer := fun_mk (st := s_is_integer) l_is_integer c_is_integer k_is_integer
  have b_is_integer := F_is_integer.binds (ps := (["thing"] : List Str)) fun _ _ _ _ _ _ us hl => match us, hl with | [_], _ => rfl
  have F_is_within := fun_mk (st := s_is_within) l_is_within c_is_within k_is_within
  have b_is_within := F_is_within.binds (ps := (["thing", "low", "high"] : List Str)) fun _ _ _ _ _ _ us hl => match us, hl with | [_, _, _], _ => rfl
  have F_is_rising := fun_mk (st := s_is_rising) l_is_rising c_is_rising k_is_rising
  have b_is_rising := F_is_rising.binds (ps := (["thing", "many"] : List Str)) fun _ _ _ _ _ _ us hl => match us, hl with | [_, _], _ => rfl
  have F_init_Book := fun_mk (st := s_init_Book) l_init_Book c_init_Book k_init_Book
  have b_init_Book := F_init_Book.binds (ps := (["self", "posts", "may"] : List Str)) fun _ _ _ _ _ _ us hl => match us, hl with | [_, _, _], _ => rfl
  have F_number_of := fun_mk (st := s_number_of) l_number_of c_number_of k_number_of
  have b_number_of := F_number_of.binds (ps := (["word"] : List Str)) fun _ _ _ _ _ _ us hl => match us, hl with | [_], _ => rfl
  have F_numbers_of := fun_mk (st := s_numbers_of) l_numbers_of c_numbers_of k_numbers_of
  have b_numbers_of := F_numbers_of.binds (ps := (["words"] : List Str)) fun _ _ _ _ _ _ us hl => match us, hl with | [_], _ => rfl
  have F_read_book := fun_mk (st := s_read_book) l_read_book c_read_book k_read_book
  have b_read_book := F_read_book.binds (ps := (["text"] : List Str)) fun _ _ _ _ _ _ us hl => match us, hl with | [_], _ => rfl
  have F_check_book := fun_mk (st := s_check_book) l_check_book c_check_book k_check_book
  have b_check_book := F_check_book.binds (ps := (["book"] : List Str)) fun _ _ _ _ _ _ us hl => match us, hl with | [_], _ => rfl
  have F_line_of := fun_mk (st := s_line_of) l_line_of c_line_of k_line_of
  have b_line_of := F_line_of.binds (ps := (["word", "numbers"] : List Str)) fun _ _ _ _ _ _ us hl => match us, hl with | [_, _], _ => rfl
  have F_text_of := fun_mk (st := s_text_of) l_text_of c_text_of k_text_of
  have b_text_of := F_text_of.binds (ps := (["book"] : List Str)) fun _ _ _ _ _ _ us hl => match us, hl with | [_], _ => rfl
  have F_book_text := fun_mk (st := s_book_text) l_book_text c_book_text k_book_text
  have b_book_text := F_book_text.binds (ps := (["book"] : List Str)) fun _ _ _ _ _ _ us hl => match us, hl with | [_], _ => rfl
  have F_fills := fun_mk (st := s_fills) l_fills c_fills k_fills
  have b_fills := F_fills.binds (ps := (["book", "person", "post"] : List Str)) fun _ _ _ _ _ _ us hl => match us, hl with | [_, _, _], _ => rfl
  have F_is_right := fun_mk (st := s_is_right) l_is_right c_is_right k_is_right
  have b_is_right := F_is_right.binds (ps := (["book", "thing"] : List Str)) fun _ _ _ _ _ _ us hl => match us, hl with | [_, _], _ => rfl
  have F_check_filling := fun_mk (st := s_check_filling) l_check_filling c_check_filling k_check_filling
  have b_check_filling := F_check_filling.binds (ps := (["book", "filling"] : List Str)) fun _ _ _ _ _ _ us hl => match us, hl with | [_, _], _ => rfl
  have F_init_Desk := fun_mk (st := s_init_Desk) l_init_Desk c_init_Desk k_init_Desk
  have b_init_Desk := F_init_Desk.binds (ps := (["self", "book", "filling"] : List Str)) fun _ _ _ _ _ _ us hl => match us, hl with | [_, _, _], _ => rfl
  have F_Desk_text := fun_mk (st := s_Desk_text) l_Desk_text c_Desk_text k_Desk_text
  have b_Desk_text := F_Desk_text.binds (ps := (["self"] : List Str)) fun _ _ _ _ _ _ us hl => match us, hl with | [_], _ => rfl
  have F_is_form := fun_mk (st := s_is_form) l_is_form c_is_form k_is_form
  have b_is_form := F_is_form.binds (ps := (["book", "thing"] : List Str)) fun _ _ _ _ _ _ us hl => match us, hl with | [_, _], _ => rfl
  have F_goes := fun_mk (st := s_goes) l_goes c_goes k_goes
  have b_goes := F_goes.binds (ps := (["book", "filling", "thing"] : List Str)) fun _ _ _ _ _ _ us hl => match us, hl with | [_, _, _], _ => rfl
  have F_behind := fun_mk (st := s_behind) l_behind c_behind k_behind
  have b_behind := F_behind.binds (ps := (["filling", "exchange"] : List Str)) fun _ _ _ _ _ _ us hl => match us, hl with | [_, _], _ => rfl
  have F_exchanged := fun_mk (st := s_exchanged) l_exchanged c_exchanged k_exchanged
  have b_exchanged := F_exchanged.binds (ps := (["book", "filling", "exchange"] : List Str)) fun _ _ _ _ _ _ us hl => match us, hl with | [_, _, _], _ => rfl
  have F_Desk_went := fun_mk (st := s_Desk_went) l_Desk_went c_Desk_went k_Desk_went
  have b_Desk_went := F_Desk_went.binds (ps := (["self", "exchange"] : List Str)) fun _ _ _ _ _ _ us hl => match us, hl with | [_, _], _ => rfl
  have F_Desk_say := fun_mk (st := s_Desk_say) l_Desk_say c_Desk_say k_Desk_say
  have b_Desk_say := F_Desk_say.binds (ps := (["self", "line"] : List Str)) fun _ _ _ _ _ _ us hl => match us, hl with | [_, _], _ => rfl
  have F__law_hand := fun_mk (st := s__law_hand) l__law_hand c__law_hand k__law_hand
  have b__law_hand := F__law_hand.binds (ps := (["script"] : List Str)) fun _ _ _ _ _ _ us hl => match us, hl with | [_], _ => rfl
  have F__law_text := fun_mk (st := s__law_text) l__law_text c__law_text k__law_text
  have b__law_text := F__law_text.binds (ps := (["posts", "may"] : List Str)) fun _ _ _ _ _ _ us hl => match us, hl with | [_, _], _ => rfl
  have F__law_same := fun_mk (st := s__law_same) l__law_same c__law_same k__law_same
  have b__law_same := F__law_same.binds (ps := (["one", "due"] : List Str)) fun _ _ _ _ _ _ us hl => match us, hl with | [_, _], _ => rfl
  have F__law_is_read := fun_mk (st := s__law_is_read) l__law_is_read c__law_is_read k__law_is_read
  have b__law_is_read := F__law_is_read.binds (ps := (["posts", "may"] : List Str)) fun _ _ _ _ _ _ us hl => match us, hl with | [_, _], _ => rfl
  have F__law_draw := fun_mk (st := s__law_draw) l__law_draw c__law_draw k__law_draw
  have b__law_draw := F__law_draw.binds (ps := (["hand", "many"] : List Str)) fun _ _ _ _ _ _ us hl => match us, hl with | [_, _], _ => rfl
  have F__law_mixed := fun_mk (st := s__law_mixed) l__law_mixed c__law_mixed k__law_mixed
  have b__law_mixed := F__law_mixed.binds (ps := (["hand", "some"] : List Str)) fun _ _ _ _ _ _ us hl => match us, hl with | [_, _], _ => rfl
  have F__law_any := fun_mk (st := s__law_any) l__law_any c__law_any k__law_any
  have b__law_any := F__law_any.binds (ps := (["hand", "some"] : List Str)) fun _ _ _ _ _ _ us hl => match us, hl with | [_, _], _ => rfl
  have F__law_case := fun_mk (st := s__law_case) l__law_case c__law_case k__law_case
  have b__law_case := F__law_case.binds (ps := (["hand", "top"] : List Str)) fun _ _ _ _ _ _ us hl => match us, hl with | [_, _], _ => rfl
  have F__law_step := fun_mk (st := s__law_step) l__law_step c__law_step k__law_step
  have b__law_step := F__law_step.binds (ps := (["hand", "may", "filling", "size"] : List Str)) fun _ _ _ _ _ _ us hl => match us, hl with | [_, _, _, _], _ => rfl
  have F__law_done := fun_mk (st := s__law_done) l__law_done c__law_done k__law_done
  have b__law_done := F__law_done.binds (ps := (["filling", "exchange"] : List Str)) fun _ _ _ _ _ _ us hl => match us, hl with | [_, _], _ => rfl
  have F__law_is_desk := fun_mk (st := s__law_is_desk) l__law_is_desk c__law_is_desk k__law_is_desk
  have b__law_is_desk := F__law_is_desk.binds (ps := (["hand", "posts", "may", "filling"] : List Str)) fun _ _ _ _ _ _ us hl => match us, hl with | [_, _, _, _], _ => rfl
  have F_law := fun_mk (st := s_law) l_law c_law k_law
  have T : Txt w K mg := { own := ownT1 g_Book cl_Book ha_Book mo_Book gs_class tk_class ic_Book ty_Book ko_Book_int ko_Book_bool ko_Book_tuple ko_Book_list ko_Book_str ko_Book_dict kb_Book_NoneType kb_Book_int kb_Book_bool kb_Book_tuple kb_Book_list kb_Book_str kb_Book_dict, ownA := ownA_, n_abs := PySem.W.mg_none_of X G z_abs, n_all := PySem.W.mg_none_of X G z_all, n_any := PySem.W.mg_none_of X G z_any, n_bool := PySem.W.mg_none_of X G z_bool, n_enumerate := PySem.W.mg_none_of X G z_enumerate, n_int := PySem.W.mg_none_of X G z_int, n_isinstance := PySem.W.mg_none_of X G z_isinstance, n_len := PySem.W.mg_none_of X G z_len, n_list := PySem.W.mg_none_of X G z_list, n_max := PySem.W.mg_none_of X G z_max, n_min := PySem.W.mg_none_of X G z_min, n_range := PySem.W.mg_none_of X G z_range, n_set := PySem.W.mg_none_of X G z_set, n_sorted := PySem.W.mg_none_of X G z_sorted, n_str := PySem.W.mg_none_of X G z_str, n_tuple := PySem.W.mg_none_of X G z_tuple, n_zip := PySem.W.mg_none_of X G z_zip, c_GO := ⟨_, PySem.W.mg_of X G v_GO⟩, c_MANY := ⟨_, _, _, PySem.W.mg_of X G a_c_MANY, ⟨by rw [tl_c_MANY, tp_c_MANY0, tp_c_MANY1, tp_c_MANY2], He.keysLit_of tp_c_MANY3, tp_c_MANY5⟩, tp_c_MANY4⟩, c_MOST_DIGITS := ⟨_, PySem.W.mg_of X G v_MOST_DIGITS⟩, c_MOST_PERSONS := ⟨_, PySem.W.mg_of X G v_MOST_PERSONS⟩, c_MOST_POSTS := ⟨_, PySem.W.mg_of X G v_MOST_POSTS⟩, c_MOST_SIZE := ⟨_, PySem.W.mg_of X G v_MOST_SIZE⟩, c_NO := ⟨_, PySem.W.mg_of X G v_NO⟩, c_OK := ⟨_, PySem.W.mg_of X G v_OK⟩, c_YES := ⟨_, PySem.W.mg_of X G v_YES⟩, g_Book := ⟨_, g_Book⟩, f_may := mem1 (fldT g_Book cl_Book no_Book_may), f_posts := mem1 (fldT g_Book cl_Book no_Book_posts), fA_book := (fun c_ hc_ => by simp only [List.mem_cons, List.not_mem_nil, or_false] at hc_; rcases hc_ with rfl | rfl <;> first | exact fldT g_Book cl_Book no_Book_book | exact fldT g_Desk cl_Desk no_Desk_book), fA_size := (fun c_ hc_ => by simp only [List.mem_cons, List.not_mem_nil, or_false] at hc_; rcases hc_ with rfl | rfl <;> first | exact fldT g_Book cl_Book no_Book_size | exact fldT g_Desk cl_Desk no_Desk_size), fA_stood := (fun c_ hc_ => by simp only [List.mem_cons, List.not_mem_nil, or_false] at hc_; rcases hc_ with rfl | rfl <;> first | exact fldT g_Book cl_Book no_Book_stood | exact fldT g_Desk cl_Desk no_Desk_stood), x_BadExchange := ⟨E_BadExchange, PySem.W.mg_of X G e_BadExchange, ex_BadExchange, ek_BadExchange, eb_BadExchange, et_BadExchange⟩, x_BadFilling := ⟨E_BadFilling, PySem.W.mg_of X G e_BadFilling, ex_BadFilling, ek_BadFilling, eb_BadFilling, et_BadFilling⟩, x_NoBook := ⟨E_NoBook, PySem.W.mg_of X G e_NoBook, ex_NoBook, ek_NoBook, eb_NoBook, et_NoBook⟩ }
  refine ⟨PySem.W.fnOf "law" "law" (defArgs s_law) (defBody s_law) (defScope s_law) .none kV_law dc_law pm_law an_law cd_law ct_law, fun s v => .of_eq rfl, fun base _ _ SY => ?_⟩
  · skip
    have c_x_BadBook : Xc2 l.prog w K mg base "BadBook" "what" "at" := ⟨E_BadBook, EI_BadBook, _, (["self", "what", "at"] : List Str), ⟨PySem.W.mg_of X G e_BadBook, ⟨⟨_, _, _, _, _, _, _, _, _, _, _, _, _, _, _, xl_BadBook, by rfl⟩, es_BadBook, eb_BadBook, et_BadBook, ek_BadBook⟩, ei_BadBook, ety_BadBook, fun f hf => by simp only [List.mem_cons, List.not_mem_nil, or_false] at hf; rcases hf with rfl | rfl <;> assumption⟩, ok_x2 XF_BadBook xsc_BadBook rfl (fun cdv A outer s H E => pss_cons (ps_ost (pv 0) (pv 1)) (pss_one (ps_ost (pv 0) (pv 2)))), xb_BadBook⟩
    have c_x_BadText : Xc1 l.prog w K mg base "BadText" "line" := ⟨E_BadText, EI_BadText, _, (["self", "line"] : List Str), ⟨PySem.W.mg_of X G e_BadText, ⟨⟨_, _, _, _, _, _, _, _, _, _, _, _, _, _, _, xl_BadText, by rfl⟩, es_BadText, eb_BadText, et_BadText, ek_BadText⟩, ei_BadText, ety_BadText, fun f hf => by simp only [List.mem_cons, List.not_mem_nil, or_false] at hf; rcases hf with rfl <;> assumption⟩, ok_x1 XF_BadText xsc_BadText rfl (fun cdv A outer s H E => pss_one (ps_ost (pv 0) (pv 1))), xb_BadText⟩
    have d_eq_Book : EqD l.prog w K mg base 1 "Book" (["self", "other"] : List Str) sp_eq_Book := EqD.imp (sp := bodyD 2 t_eq_Book) ⟨f_eq_Book, C_Book, _, ⟨ok_eq_Book (base := base) F_eq_Book T , ⟨a_eq_Book, i_eq_Book, ne_eq_Book, mo_Book⟩, g_Book, b_eq_Book, (fun t ht => by simp only [tyNs, List.mem_cons, List.not_mem_nil, or_false] at ht; rcases ht with rfl | rfl | rfl | rfl | rfl | rfl | rfl <;> assumption), ⟨_, T.own, by decide⟩⟩⟩ (fun ds h Q E _ z => pl_eq_Book ds h Q E z)
    have d_is_integer : Def l.prog w K mg base 1 "is_integer" (["thing"] : List Str) sp_is_integer := (ok_is_integer (base := base) F_is_integer (PySem.W.mg_of X G a_is_integer) b_is_integer T ).imp (fun ds h Q E _ z => pl_is_integer ds h Q E z)
    have d_is_within : Def l.prog w K mg base 2 "is_within" (["thing", "low", "high"] : List Str) sp_is_within := (ok_is_within (base := base) F_is_within (PySem.W.mg_of X G a_is_within) b_is_within T d_is_integer).imp (fun ds h Q E _ z => pl_is_within ds h Q E z)
    have d_is_rising : Def l.prog w K mg base 3 "is_rising" (["thing", "many"] : List Str) sp_is_rising := (ok_is_rising (base := base) F_is_rising (PySem.W.mg_of X G a_is_rising) b_is_rising T d_is_within).imp (fun ds h Q E _ z => pl_is_rising ds h Q E z)
    have d_init_Book : Ctor l.prog w K mg base 4 "Book" (["self", "posts", "may"] : List Str) sp_init_Book := (ok_init_Book (base := base) F_init_Book g_Book ⟨mk_Book, a_init_Book, i_init_Book, kc_Book⟩ b_init_Book T d_is_within d_is_rising c_x_BadBook).imp (fun ds h Q E _ z => pl_init_Book ds h Q E z)
    have d_number_of : Def l.prog w K mg base 1 "number_of" (["word"] : List Str) sp_number_of := (ok_number_of (base := base) F_number_of (PySem.W.mg_of X G a_number_of) b_number_of T ).imp (fun ds h Q E _ z => pl_number_of ds h Q E z)
    have d_numbers_of : Def l.prog w K mg base 2 "numbers_of" (["words"] : List Str) sp_numbers_of := (ok_numbers_of (base := base) F_numbers_of (PySem.W.mg_of X G a_numbers_of) b_numbers_of T d_number_of).imp (fun ds h Q E _ z => pl_numbers_of ds h Q E z)
    have d_read_book : Def l.prog w K mg base 6 "read_book" (["text"] : List Str) sp_read_book := (ok_read_book (base := base) F_read_book (PySem.W.mg_of X G a_read_book) b_read_book T d_numbers_of d_init_Book c_x_BadText).popW.imp (fun ds h Q E _ z => pl_read_book ds h Q E z)
    have d_check_book : Def l.prog w K mg base 3 "check_book" (["book"] : List Str) sp_check_book := (ok_check_book (base := base) F_check_book (PySem.W.mg_of X G a_check_book) b_check_book T ).imp (fun ds h Q E _ z => pl_check_book ds h Q E z)
    have d_line_of : Def l.prog w K mg base 1 "line_of" (["word", "numbers"] : List Str) sp_line_of := (ok_line_of (base := base) F_line_of (PySem.W.mg_of X G a_line_of) b_line_of T ).imp (fun ds h Q E _ z => pl_line_of ds h Q E z)
    have d_text_of : Def l.prog w K mg base 2 "text_of" (["book"] : List Str) sp_text_of := (ok_text_of (base := base) F_text_of (PySem.W.mg_of X G a_text_of) b_text_of T d_line_of).imp (fun ds h Q E _ z => pl_text_of ds h Q E z)
    have d_book_text : Def l.prog w K mg base 4 "book_text" (["book"] : List Str) sp_book_text := (ok_book_text (base := base) F_book_text (PySem.W.mg_of X G a_book_text) b_book_text T d_check_book d_text_of).imp (fun ds h Q E _ z => pl_book_text ds h Q E z)
    have d_fills : Def l.prog w K mg base 2 "fills" (["book", "person", "post"] : List Str) sp_fills := (ok_fills (base := base) F_fills (PySem.W.mg_of X G a_fills) b_fills T d_is_integer).imp (fun ds h Q E _ z => pl_fills ds h Q E z)
    have d_is_right : Def l.prog w K mg base 3 "is_right" (["book", "thing"] : List Str) sp_is_right := (ok_is_right (base := base) F_is_right (PySem.W.mg_of X G a_is_right) b_is_right T d_fills).imp (fun ds h Q E _ z => pl_is_right ds h Q E z)
    have d_check_filling : Def l.prog w K mg base 4 "check_filling" (["book", "filling"] : List Str) sp_check_filling := (ok_check_filling (base := base) F_check_filling (PySem.W.mg_of X G a_check_filling) b_check_filling T d_check_book d_is_right).imp (fun ds h Q E _ z => pl_check_filling ds h Q E z)
    have d_init_Desk : Ctor l.prog w K mg base 5 "Desk" (["self", "book", "filling"] : List Str) sp_init_Desk := (ok_init_Desk (base := base) F_init_Desk g_Desk ⟨mk_Desk, a_init_Desk, i_init_Desk, kc_Desk⟩ b_init_Desk T d_check_filling).imp (fun ds h Q E _ z => pl_init_Desk ds h Q E z)
    have m0_Desk_text : MethD l.prog w K mg base 3 "Desk" "text" (["self"] : List Str) (bodyD 3 t_Desk_text) := ⟨f_Desk_text, C_Desk, _, ok_Desk_text (base := base) F_Desk_text T d_text_of, g_Desk, cl_Desk, ⟨a_Desk_text, i_Desk_text, k_Desk_text⟩, b_Desk_text⟩
    have d_Desk_text : MethD l.prog w K mg base 3 "Desk" "text" (["self"] : List Str) sp_Desk_text := m0_Desk_text.imp (fun ds h Q E _ z => pl_Desk_text ds h Q E z)
    have d_is_form : Def l.prog w K mg base 3 "is_form" (["book", "thing"] : List Str) sp_is_form := (ok_is_form (base := base) F_is_form (PySem.W.mg_of X G a_is_form) b_is_form T d_is_within).imp (fun ds h Q E _ z => pl_is_form ds h Q E z)
    have d_goes : Def l.prog w K mg base 4 "goes" (["book", "filling", "thing"] : List Str) sp_goes := (ok_goes (base := base) F_goes (PySem.W.mg_of X G a_goes) b_goes T d_is_form).imp (fun ds h Q E _ z => pl_goes ds h Q E z)
    have d_behind : Def l.prog w K mg base 1 "behind" (["filling", "exchange"] : List Str) sp_behind := (ok_behind (base := base) F_behind (PySem.W.mg_of X G a_behind) b_behind T ).popW.imp (fun ds h Q E _ z => pl_behind ds h Q E z)
    have d_exchanged : Def l.prog w K mg base 5 "exchanged" (["book", "filling", "exchange"] : List Str) sp_exchanged := (ok_exchanged (base := base) F_exchanged (PySem.W.mg_of X G a_exchanged) b_exchanged T d_check_filling d_goes d_behind).imp (fun ds h Q E _ z => pl_exchanged ds h Q E z)
    have m0_Desk_went : MethD l.prog w K mg base 6 "Desk" "went" (["self", "exchange"] : List Str) (bodyD 3 t_Desk_went) := ⟨f_Desk_went, C_Desk, _, ok_Desk_went (base := base) F_Desk_went T d_exchanged, g_Desk, cl_Desk, ⟨a_Desk_went, i_Desk_went, k_Desk_went⟩, b_Desk_went⟩
    have d_Desk_went : MethD l.prog w K mg base 6 "Desk" "went" (["self", "exchange"] : List Str) sp_Desk_went := m0_Desk_went.imp (fun ds h Q E _ z => pl_Desk_went ds h Q E z)
    have m0_Desk_say : MethD l.prog w K mg base 7 "Desk" "say" (["self", "line"] : List Str) (bodyD 4 t_Desk_say) := ⟨f_Desk_say, C_Desk, _, ok_Desk_say (base := base) F_Desk_say T d_numbers_of d_Desk_went, g_Desk, cl_Desk, ⟨a_Desk_say, i_Desk_say, k_Desk_say⟩, b_Desk_say⟩
    have d_Desk_say : MethD l.prog w K mg base 7 "Desk" "say" (["self", "line"] : List Str) sp_Desk_say := m0_Desk_say.imp (fun ds h Q E _ z => pl_Desk_say ds h Q E z)
    have d__law_hand : Def l.prog w K mg base 1 "_law_hand" (["script"] : List Str) sp__law_hand := (ok__law_hand (base := base) F__law_hand (PySem.W.mg_of X G a__law_hand) b__law_hand T ).imp (fun ds h Q E _ z => pl__law_hand ds h Q E z)
    have d__law_text : Def l.prog w K mg base 1 "_law_text" (["posts", "may"] : List Str) sp__law_text := (ok__law_text (base := base) F__law_text (PySem.W.mg_of X G a__law_text) b__law_text T ).imp (fun ds h Q E _ z => pl__law_text ds h Q E z)
    have r0__law_same : Def l.prog w K mg base 0 "_law_same" (["one", "due"] : List Str) (sp__law_sameN 0) := (Def.zero 0 F__law_same (PySem.W.mg_of X G a__law_same) b__law_same).imp fun _ _ _ _ _ z => sp__law_same_zero z
    have r1__law_same : Def l.prog w K mg base 1 "_law_same" (["one", "due"] : List Str) (sp__law_sameN 1) := (ok__law_same (k := 0) (base := base) F__law_same (PySem.W.mg_of X G a__law_same) b__law_same T  r0__law_same).imp (fun ds h Q E _ z => pl__law_same 0 ds h Q E z)
    have r2__law_same : Def l.prog w K mg base 2 "_law_same" (["one", "due"] : List Str) (sp__law_sameN 2) := (ok__law_same (k := 1) (base := base) F__law_same (PySem.W.mg_of X G a__law_same) b__law_same T  r1__law_same).imp (fun ds h Q E _ z => pl__law_same 1 ds h Q E z)
    have r3__law_same : Def l.prog w K mg base 3 "_law_same" (["one", "due"] : List Str) (sp__law_sameN 3) := (ok__law_same (k := 2) (base := base) F__law_same (PySem.W.mg_of X G a__law_same) b__law_same T  r2__law_same).imp (fun ds h Q E _ z => pl__law_same 2 ds h Q E z)
    have r4__law_same : Def l.prog w K mg base 4 "_law_same" (["one", "due"] : List Str) (sp__law_sameN 4) := (ok__law_same (k := 3) (base := base) F__law_same (PySem.W.mg_of X G a__law_same) b__law_same T  r3__law_same).imp (fun ds h Q E _ z => pl__law_same 3 ds h Q E z)
    have r5__law_same : Def l.prog w K mg base 5 "_law_same" (["one", "due"] : List Str) (sp__law_sameN 5) := (ok__law_same (k := 4) (base := base) F__law_same (PySem.W.mg_of X G a__law_same) b__law_same T  r4__law_same).imp (fun ds h Q E _ z => pl__law_same 4 ds h Q E z)
    have r6__law_same : Def l.prog w K mg base 6 "_law_same" (["one", "due"] : List Str) (sp__law_sameN 6) := (ok__law_same (k := 5) (base := base) F__law_same (PySem.W.mg_of X G a__law_same) b__law_same T  r5__law_same).imp (fun ds h Q E _ z => pl__law_same 5 ds h Q E z)
    have d__law_same : Def l.prog w K mg base 6 "_law_same" (["one", "due"] : List Str) sp__law_same := r6__law_same
    have d__law_is_read : Def l.prog w K mg base 7 "_law_is_read" (["posts", "may"] : List Str) sp__law_is_read := (ok__law_is_read (base := base) F__law_is_read (PySem.W.mg_of X G a__law_is_read) b__law_is_read T d_init_Book d__law_text d_read_book d__law_same d_eq_Book d_book_text).imp (fun ds h Q E _ z => pl__law_is_read ds h Q E z)
    have d__law_draw : Def l.prog w K mg base 1 "_law_draw" (["hand", "many"] : List Str) sp__law_draw := (ok__law_draw (base := base) F__law_draw (PySem.W.mg_of X G a__law_draw) b__law_draw T ).imp (fun ds h Q E _ z => pl__law_draw ds h Q E z)
    have d__law_mixed : Def l.prog w K mg base 2 "_law_mixed" (["hand", "some"] : List Str) sp__law_mixed := (ok__law_mixed (base := base) F__law_mixed (PySem.W.mg_of X G a__law_mixed) b__law_mixed T d__law_draw).popWR.imp (fun ds h Q E _ z => pl__law_mixed ds h Q E z)
    have d__law_any : Def l.prog w K mg base 2 "_law_any" (["hand", "some"] : List Str) sp__law_any := (ok__law_any (base := base) F__law_any (PySem.W.mg_of X G a__law_any) b__law_any T d__law_draw).imp (fun ds h Q E _ z => pl__law_any ds h Q E z)
    have d__law_case : Def l.prog w K mg base 3 "_law_case" (["hand", "top"] : List Str) sp__law_case := (ok__law_case (base := base) F__law_case (PySem.W.mg_of X G a__law_case) b__law_case T d__law_draw d__law_mixed d__law_any).popW.imp (fun ds h Q E _ z => pl__law_case ds h Q E z)
    have d__law_step : Def l.prog w K mg base 3 "_law_step" (["hand", "may", "filling", "size"] : List Str) sp__law_step := (ok__law_step (base := base) F__law_step (PySem.W.mg_of X G a__law_step) b__law_step T d__law_any).popW.imp (fun ds h Q E _ z => pl__law_step ds h Q E z)
    have d__law_done : Def l.prog w K mg base 1 "_law_done" (["filling", "exchange"] : List Str) sp__law_done := (ok__law_done (base := base) F__law_done (PySem.W.mg_of X G a__law_done) b__law_done T ).popW.imp (fun ds h Q E _ z => pl__law_done ds h Q E z)
    have d__law_is_desk : Def l.prog w K mg base 8 "_law_is_desk" (["hand", "posts", "may", "filling"] : List Str) sp__law_is_desk := (ok__law_is_desk (base := base) F__law_is_desk (PySem.W.mg_of X G a__law_is_desk) b__law_is_desk T d_init_Desk d_init_Book d__law_text d__law_same d_Desk_text d__law_step d__law_draw d_Desk_say d__law_done).popW.imp (fun ds h Q E _ z => pl__law_is_desk ds h Q E z)
    exact law_end (ok_law (base := base) F_law T d__law_hand d__law_is_read d__law_case d__law_any d__law_is_desk d_book_text d_init_Book) fun ds h Q E z => pl_law ds h Q E z
end DL

end

set_option maxRecDepth 100000
open PySem PySem.W PyProof.Rows in
set_option maxRecDepth 100000 in
set_option maxHeartbeats 0 in
theorem PySem.Challenge.cw_chordswaps_k04_whole_texts_of_books_holds : PySem.Challenge.rw_chordswaps_k04_whole_texts_of_books.Holds := by
  w_on; o_law; k_head; (case hw => w_witness2)
  k_fill
  refine DL.walkD (k := 9) (l := PySem.Challenge.rw_chordswaps_k04_whole_texts_of_books) rfl rfl ⟨rfl, by decide, by decide⟩ (by decide +kernel) rfl (fun w h Y => PySem.W.kIn_of Y) ?F
  case F =>
    intro w mg fa h KX G hmg
    refine' DL.all_mk KX G hmg ?a_Book ?pg_Book ?hd_Book ?po_Book ?sa_Book ?mk_Book ?kc_Book ?no_Book_book ?no_Book_may ?no_Book_posts ?no_Book_size ?no_Book_stood ?ha_Book ?mo_Book ?ko_Book_int ?ko_Book_bool ?ko_Book_tuple ?ko_Book_list ?ko_Book_str ?ko_Book_dict ?kb_Book_NoneType ?kb_Book_int ?kb_Book_bool ?kb_Book_tuple ?kb_Book_list ?kb_Book_str ?kb_Book_dict ?ic_Book ?ty_Book ?a_Desk ?pg_Desk ?hd_Desk ?po_Desk ?sa_Desk ?mk_Desk ?kc_Desk ?no_Desk_book ?no_Desk_size ?no_Desk_stood ?ha_Desk ?mo_Desk ?ko_Desk_int ?ko_Desk_bool ?ko_Desk_tuple ?ko_Desk_list ?ko_Desk_str ?ko_Desk_dict ?kb_Desk_NoneType ?kb_Desk_int ?kb_Desk_bool ?kb_Desk_tuple ?kb_Desk_list ?kb_Desk_str ?kb_Desk_dict ?ic_Desk ?ty_Desk ?gs_class ?tk_class ?ks_Book ?ks_Book_Desk ?ks_Desk ?ks_Desk_Book ?z_abs ?z_all ?z_any ?z_bool ?z_enumerate ?z_int ?z_isinstance ?z_len ?z_list ?z_max ?z_min ?z_range ?z_set ?z_sorted ?z_str ?z_tuple ?z_zip ?v_GO ?a_c_MANY ?tl_c_MANY ?tp_c_MANY0 ?tp_c_MANY1 ?tp_c_MANY2 ?tp_c_MANY3 ?tp_c_MANY4 ?tp_c_MANY5 ?v_MOST_DIGITS ?v_MOST_PERSONS ?v_MOST_POSTS ?v_MOST_SIZE ?v_NO ?v_OK ?v_YES ?e_BadBook ?ek_BadBook ?eb_BadBook ?et_BadBook ?xl_BadBook ?es_BadBook ?ei_BadBook ?ety_BadBook ?en_BadBook_what ?en_BadBook_at ?el_BadBook ?ec_BadBook ?ekk_BadBook ?e_BadExchange ?ek_BadExchange ?eb_BadExchange ?et_BadExchange ?ex_BadExchange ?e_BadFilling ?ek_BadFilling ?eb_BadFilling ?et_BadFilling ?ex_BadFilling ?e_BadText ?ek_BadText ?eb_BadText ?et_BadText ?xl_BadText ?es_BadText ?ei_BadText ?ety_BadText ?en_BadText_line ?el_BadText ?ec_BadText ?ekk_BadText ?e_NoBook ?ek_NoBook ?eb_NoBook ?et_NoBook ?ex_NoBook ?a_eq_Book ?i_eq_Book ?ne_eq_Book ?l_eq_Book ?c_eq_Book ?k_eq_Book ?a_is_integer ?l_is_integer ?c_is_integer ?k_is_integer ?a_is_within ?l_is_within ?c_is_within ?k_is_within ?a_is_rising ?l_is_rising ?c_is_rising ?k_is_rising ?a_init_Book ?i_init_Book ?l_init_Book ?c_init_Book ?k_init_Book ?a_number_of ?l_number_of ?c_number_of ?k_number_of ?a_numbers_of ?l_numbers_of ?c_numbers_of ?k_numbers_of ?a_read_book ?l_read_book ?c_read_book ?k_read_book ?a_check_book ?l_check_book ?c_check_book ?k_check_book ?a_line_of ?l_line_of ?c_line_of ?k_line_of ?a_text_of ?l_text_of ?c_text_of ?k_text_of ?a_book_text ?l_book_text ?c_book_text ?k_book_text ?a_fills ?l_fills ?c_fills ?k_fills ?a_is_right ?l_is_right ?c_is_right ?k_is_right ?a_check_filling ?l_check_filling ?c_check_filling ?k_check_filling ?a_init_Desk ?i_init_Desk ?l_init_Desk ?c_init_Desk ?k_init_Desk ?a_Desk_text ?i_Desk_text ?l_Desk_text ?c_Desk_text ?k_Desk_text ?a_is_form ?l_is_form ?c_is_form ?k_is_form ?a_goes ?l_goes ?c_goes ?k_goes ?a_behind ?l_behind ?c_behind ?k_behind ?a_exchanged ?l_exchanged ?c_exchanged ?k_exchanged ?a_Desk_went ?i_Desk_went ?l_Desk_went ?c_Desk_went ?k_Desk_went ?a_Desk_say ?i_Desk_say ?l_Desk_say ?c_Desk_say ?k_Desk_say ?a__law_hand ?l__law_hand ?c__law_hand ?k__law_hand ?a__law_text ?l__law_text ?c__law_text ?k__law_text ?a__law_same ?l__law_same ?c__law_same ?k__law_same ?a__law_is_read ?l__law_is_read ?c__law_is_read ?k__law_is_read ?a__law_draw ?l__law_draw ?c__law_draw ?k__law_draw ?a__law_mixed ?l__law_mixed ?c__law_mixed ?k__law_mixed ?a__law_any ?l__law_any ?c__law_any ?k__law_any ?a__law_case ?l__law_case ?c__law_case ?k__law_case ?a__law_step ?l__law_step ?c__law_step ?k__law_step ?a__law_done ?l__law_done ?c__law_done ?k__law_done ?a__law_is_desk ?l__law_is_desk ?c__law_is_desk ?k__law_is_desk ?a_law ?l_law ?c_law ?k_law
    (case e_BadBook => k_is)
    (case e_BadExchange => k_is)
    (case e_BadFilling => k_is)
    (case e_BadText => k_is)
    (case e_NoBook => k_is)
    (case a_Book => k_is)
    (case a_Desk => k_is)
    (case a_c_MANY => k_is)
    (case a_eq_Book => k_is)
    (case a_is_integer => k_is)
    (case a_is_within => k_is)
    (case a_is_rising => k_is)
    (case a_init_Book => k_is)
    (case a_number_of => k_is)
    (case a_numbers_of => k_is)
    (case a_read_book => k_is)
    (case a_check_book => k_is)
    (case a_line_of => k_is)
    (case a_text_of => k_is)
    (case a_book_text => k_is)
    (case a_fills => k_is)
    (case a_is_right => k_is)
    (case a_check_filling => k_is)
    (case a_init_Desk => k_is)
    (case a_Desk_text => k_is)
    (case a_is_form => k_is)
    (case a_goes => k_is)
    (case a_behind => k_is)
    (case a_exchanged => k_is)
    (case a_Desk_went => k_is)
    (case a_Desk_say => k_is)
    (case a__law_hand => k_is)
    (case a__law_text => k_is)
    (case a__law_same => k_is)
    (case a__law_is_read => k_is)
    (case a__law_draw => k_is)
    (case a__law_mixed => k_is)
    (case a__law_any => k_is)
    (case a__law_case => k_is)
    (case a__law_step => k_is)
    (case a__law_done => k_is)
    (case a__law_is_desk => k_is)
    (case a_law => k_is)
    (case pg_Book => k_is)
    (case hd_Book => k_is)
    (case po_Book => k_is)
    (case sa_Book => k_is)
    (case mk_Book => k_is)
    (case kc_Book => k_is)
    (case no_Book_book => k_is)
    (case no_Book_may => k_is)
    (case no_Book_posts => k_is)
    (case no_Book_size => k_is)
    (case no_Book_stood => k_is)
    (case ha_Book => k_is)
    (case mo_Book => k_is)
    (case ko_Book_int => k_is)
    (case ko_Book_bool => k_is)
    (case ko_Book_tuple => k_is)
    (case ko_Book_list => k_is)
    (case ko_Book_str => k_is)
    (case ko_Book_dict => k_is)
    (case kb_Book_NoneType => k_is)
    (case kb_Book_int => k_is)
    (case kb_Book_bool => k_is)
    (case kb_Book_tuple => k_is)
    (case kb_Book_list => k_is)
    (case kb_Book_str => k_is)
    (case kb_Book_dict => k_is)
    (case ic_Book => k_is)
    (case ty_Book => k_is)
    (case pg_Desk => k_is)
    (case hd_Desk => k_is)
    (case po_Desk => k_is)
    (case sa_Desk => k_is)
    (case mk_Desk => k_is)
    (case kc_Desk => k_is)
    (case no_Desk_book => k_is)
    (case no_Desk_size => k_is)
    (case no_Desk_stood => k_is)
    (case ha_Desk => k_is)
    (case mo_Desk => k_is)
    (case ko_Desk_int => k_is)
    (case ko_Desk_bool => k_is)
    (case ko_Desk_tuple => k_is)
    (case ko_Desk_list => k_is)
    (case ko_Desk_str => k_is)
    (case ko_Desk_dict => k_is)
    (case kb_Desk_NoneType => k_is)
    (case kb_Desk_int => k_is)
    (case kb_Desk_bool => k_is)
    (case kb_Desk_tuple => k_is)
    (case kb_Desk_list => k_is)
    (case kb_Desk_str => k_is)
    (case kb_Desk_dict => k_is)
    (case ic_Desk => k_is)
    (case ty_Desk => k_is)
    (case gs_class => k_is)
    (case tk_class => k_is)
    (case ks_Book => k_is)
    (case ks_Book_Desk => k_is)
    (case ks_Desk => k_is)
    (case ks_Desk_Book => k_is)
    (case z_abs => k_is)
    (case z_all => k_is)
    (case z_any => k_is)
    (case z_bool => k_is)
    (case z_enumerate => k_is)
    (case z_int => k_is)
    (case z_isinstance => k_is)
    (case z_len => k_is)
    (case z_list => k_is)
    (case z_max => k_is)
    (case z_min => k_is)
    (case z_range => k_is)
    (case z_set => k_is)
    (case z_sorted => k_is)
    (case z_str => k_is)
    (case z_tuple => k_is)
    (case z_zip => k_is)
    (case v_GO => k_is)
    (case tl_c_MANY => k_is)
    (case v_MOST_DIGITS => k_is)
    (case v_MOST_PERSONS => k_is)
    (case v_MOST_POSTS => k_is)
    (case v_MOST_SIZE => k_is)
    (case v_NO => k_is)
    (case v_OK => k_is)
    (case v_YES => k_is)
    (case ek_BadBook => k_is)
    (case eb_BadBook => k_is)
    (case et_BadBook => k_is)
    (case xl_BadBook => k_is)
    (case es_BadBook => k_is)
    (case ei_BadBook => k_is)
    (case ety_BadBook => k_is)
    (case en_BadBook_what => k_is)
    (case en_BadBook_at => k_is)
    (case el_BadBook => k_is)
    (case ec_BadBook => k_is)
    (case ekk_BadBook => k_is)
    (case ek_BadExchange => k_is)
    (case eb_BadExchange => k_is)
    (case et_BadExchange => k_is)
    (case ex_BadExchange => k_exc)
    (case ek_BadFilling => k_is)
    (case eb_BadFilling => k_is)
    (case et_BadFilling => k_is)
    (case ex_BadFilling => k_exc)
    (case ek_BadText => k_is)
    (case eb_BadText => k_is)
    (case et_BadText => k_is)
    (case xl_BadText => k_is)
    (case es_BadText => k_is)
    (case ei_BadText => k_is)
    (case ety_BadText => k_is)
    (case en_BadText_line => k_is)
    (case el_BadText => k_is)
    (case ec_BadText => k_is)
    (case ekk_BadText => k_is)
    (case ek_NoBook => k_is)
    (case eb_NoBook => k_is)
    (case et_NoBook => k_is)
    (case ex_NoBook => k_exc)
    (case i_eq_Book => k_is)
    (case ne_eq_Book => k_is)
    (case l_eq_Book => k_is)
    (case c_eq_Book => k_is)
    (case k_eq_Book => k_is)
    (case l_is_integer => k_is)
    (case c_is_integer => k_is)
    (case k_is_integer => k_is)
    (case l_is_within => k_is)
    (case c_is_within => k_is)
    (case k_is_within => k_is)
    (case l_is_rising => k_is)
    (case c_is_rising => k_is)
    (case k_is_rising => k_is)
    (case i_init_Book => k_is)
    (case l_init_Book => k_is)
    (case c_init_Book => k_is)
    (case k_init_Book => k_is)
    (case l_number_of => k_is)
    (case c_number_of => k_is)
    (case k_number_of => k_is)
    (case l_numbers_of => k_is)
    (case c_numbers_of => k_is)
    (case k_numbers_of => k_is)
    (case l_read_book => k_is)
    (case c_read_book => k_is)
    (case k_read_book => k_is)
    (case l_check_book => k_is)
    (case c_check_book => k_is)
    (case k_check_book => k_is)
    (case l_line_of => k_is)
    (case c_line_of => k_is)
    (case k_line_of => k_is)
    (case l_text_of => k_is)
    (case c_text_of => k_is)
    (case k_text_of => k_is)
    (case l_book_text => k_is)
    (case c_book_text => k_is)
    (case k_book_text => k_is)
    (case l_fills => k_is)
    (case c_fills => k_is)
    (case k_fills => k_is)
    (case l_is_right => k_is)
    (case c_is_right => k_is)
    (case k_is_right => k_is)
    (case l_check_filling => k_is)
    (case c_check_filling => k_is)
    (case k_check_filling => k_is)
    (case i_init_Desk => k_is)
    (case l_init_Desk => k_is)
    (case c_init_Desk => k_is)
    (case k_init_Desk => k_is)
    (case i_Desk_text => k_is)
    (case l_Desk_text => k_is)
    (case c_Desk_text => k_is)
    (case k_Desk_text => k_is)
    (case l_is_form => k_is)
    (case c_is_form => k_is)
    (case k_is_form => k_is)
    (case l_goes => k_is)
    (case c_goes => k_is)
    (case k_goes => k_is)
    (case l_behind => k_is)
    (case c_behind => k_is)
    (case k_behind => k_is)
    (case l_exchanged => k_is)
    (case c_exchanged => k_is)
    (case k_exchanged => k_is)
    (case i_Desk_went => k_is)
    (case l_Desk_went => k_is)
    (case c_Desk_went => k_is)
    (case k_Desk_went => k_is)
    (case i_Desk_say => k_is)
    (case l_Desk_say => k_is)
    (case c_Desk_say => k_is)
    (case k_Desk_say => k_is)
    (case l__law_hand => k_is)
    (case c__law_hand => k_is)
    (case k__law_hand => k_is)
    (case l__law_text => k_is)
    (case c__law_text => k_is)
    (case k__law_text => k_is)
    (case l__law_same => k_is)
    (case c__law_same => k_is)
    (case k__law_same => k_is)
    (case l__law_is_read => k_is)
    (case c__law_is_read => k_is)
    (case k__law_is_read => k_is)
    (case l__law_draw => k_is)
    (case c__law_draw => k_is)
    (case k__law_draw => k_is)
    (case l__law_mixed => k_is)
    (case c__law_mixed => k_is)
    (case k__law_mixed => k_is)
    (case l__law_any => k_is)
    (case c__law_any => k_is)
    (case k__law_any => k_is)
    (case l__law_case => k_is)
    (case c__law_case => k_is)
    (case k__law_case => k_is)
    (case l__law_step => k_is)
    (case c__law_step => k_is)
    (case k__law_step => k_is)
    (case l__law_done => k_is)
    (case c__law_done => k_is)
    (case k__law_done => k_is)
    (case l__law_is_desk => k_is)
    (case c__law_is_desk => k_is)
    (case k__law_is_desk => k_is)
    (case l_law => k_is)
    (case c_law => k_is)
    (case k_law => k_is)
    (case tp_c_MANY0 => (first | rfl | kernel_rfl))
    (case tp_c_MANY1 => (first | rfl | kernel_rfl))
    (case tp_c_MANY2 => (first | rfl | kernel_rfl))
    (case tp_c_MANY3 => (first | rfl | kernel_rfl))
    (case tp_c_MANY4 => (first | rfl | kernel_rfl))
    (case tp_c_MANY5 => (first | rfl | kernel_rfl))
