import PyProof.Rows.All
import Wide.All
import OpenK.AllK
import Wide.FinOn
import HandS.ForMost
import HandS.Exc
import HandS.TryOnly
import HandS.ExcOwn
import HandS.ExcInit
import HandS.ExcField
import HandS.ExcIs
import HandS.CallSlots
import HandS.WordsExc
import HandS.IsInst
import HandS.Style
import HandS.TupAny
import HandS.TupMul
import HandS.Wide
import HandS.Deep
import HandS.SortInts
import HandS.Conv
import HandS.Strs
import HandS.SetFor
import HandS.Zip
import KE.GoesEnum
import HandS.Walk
import HandS.Small
import KE.KExcIs
import HandS.SuiteRaise
import PyProof.EqAt
import PyProof.EqKinds
import PyProof.TupleCall
import PyProof.WalkInts
import PySem.Challenge.RW_chordswaps_k10_whole_swaps_listed
set_option Elab.async false
set_option linter.all false
section
set_option maxRecDepth 100000
set_option maxHeartbeats 4000000
namespace DL
open PySem PySem.Spec L2

/-! ## data as trees; what is changed stands in a small heap of its own -/
inductive D where
  | non | bl (b : Bool) | int (i : Int) | str (x : Str) | ty (n : String)
  | tup (xs : List D) | lst (xs : List D) | scr (xs : List D)
  | dic (ks : List Key) (xs : List D)
  | obj (c : String) (ns : List String) (xs : List D)
  | ref (n : Nat)
  | glb (x : String)
  | exc (a : Addr) (cls : Value) (d : Option Addr) (nm : String) (ns : List String) (fs : List D)
inductive O where
  | dead | lst (xs : List D) | dk (ks : List Key) (xs : List D) | dt (ks : List (List Key)) (xs : List D)
  | ins (c : String) (ns : List String) (xs : List D)
abbrev DH := List O
abbrev Sg := List (Option D)
abbrev VD := D → DH → Prop
abbrev LD := List D → DH → Prop
abbrev ED := String → List String → List D → DH → Prop
abbrev EF : ED := fun _ _ _ _ => False
abbrev TED := Sg → DH → VD → ED → Prop
abbrev TAD := Sg → DH → LD → ED → Prop
abbrev TTD := Sg → DH → (Bool → DH → Prop) → ED → Prop
/-- what follows a statement -/
structure KD where
  nx : Sg → DH → Prop
  rt : VD
  bk : Sg → DH → Prop := fun _ _ => False
  ct : Sg → DH → Prop := fun _ _ => False
  er : String → List String → List D → Sg → DH → Prop := fun _ _ _ _ _ => False
abbrev TSD := KD → Sg → DH → Prop
abbrev SpD := List D → DH → VD → ED → Prop

/-! ## worlds: the frozen part, the places of the refs -/
section
variable (K : PySem.W.Frag) (mg : Str → Option Value)
/-- a tuple stands at a: tracked, or written with the module -/
def TupAt (F : Hp) (a : Addr) (xs : List V) : Prop :=
  F a = some (.tup xs) ∨
    ∃ (o : Obj) (its : Array Value) (n : Nat), K.lookup a = some o ∧ o.cls = .type "tuple" ∧ o.data = .seq its n ∧ its.size ≤ sizeLine ∧ Vals xs its.toList
inductive Rp (F : Hp) (m : List Addr) : V → D → Prop
  | non : Rp F m .non .non
  | bl (b : Bool) : Rp F m (.bl b) (.bl b)
  | int (i : Int) : Rp F m (.int i) (.int i)
  | str (x : Str) : Rp F m (.str x) (.str x)
  | ty (n : String) : Rp F m (.ty n) (.ty n)
  | tup {a : Addr} {vs : List V} {ds : List D} : TupAt K F a vs → Paired (Rp F m) vs ds → Rp F m (.ref a) (.tup ds)
  | lst {a : Addr} {vs : List V} {ds : List D} : F a = some (.lst vs) → Paired (Rp F m) vs ds → Rp F m (.ref a) (.lst ds)
  | scr {a : Addr} {vs : List V} {ds : List D} : SqL K F a vs → Paired (Rp F m) vs ds → Rp F m (.ref a) (.scr ds)
  | dic {a : Addr} {ks : List Key} {vs : List V} {ds : List D} : ks.length = vs.length → F a = some (.dK (ks.zip vs)) → Paired (Rp F m) vs ds → Rp F m (.ref a) (.dic ks ds)
  | obj {a C dx : Addr} {c : String} {ns : List String} {vs : List V} {ds : List D} : ns.length = vs.length → F a = some (.ins C dx ((ns.map Str.ofString).zip vs)) → mg (Str.ofString c) = some (.ref C) → Paired (Rp F m) vs ds → Rp F m (.ref a) (.obj c ns ds)
  | ref {a : Addr} {n : Nat} : m[n]? = some a → Rp F m (.ref a) (.ref n)
  | glb {a : Addr} {x : String} : mg (Str.ofString x) = some (.ref a) → Rp F m (.ref a) (.glb x)
  | exc0 {a C : Addr} {nm : String} : mg (Str.ofString nm) = some (.ref C) → Rp F m (.ref a) (.exc a (.ref C) none nm [] [])
  | exc1 {a C d : Addr} {nm : String} {ns : List String} {vs : List V} {fs : List D} : mg (Str.ofString nm) = some (.ref C) → ns.length = vs.length → F d = some (.xd ((ns.map Str.ofString).zip vs)) → Paired (Rp F m) vs fs → Rp F m (.ref a) (.exc a (.ref C) (some d) nm ns fs)
abbrev Rps (F : Hp) (m : List Addr) : List V → List D → Prop := Paired (Rp K mg F m)
/-- an object of the small heap -/
inductive Ro (F : Hp) (m : List Addr) : Option HO → O → Prop
  | dead (o : Option HO) : Ro F m o .dead
  | lst {vs : List V} {ds : List D} : Rps K mg F m vs ds → Ro F m (some (.lst vs)) (.lst ds)
  | dk {ks : List Key} {vs : List V} {ds : List D} : ks.length = vs.length → Rps K mg F m vs ds → Ro F m (some (.dK (ks.zip vs))) (.dk ks ds)
  | dt {ks : List (List Key)} {vs : List V} {ds : List D} : ks.length = vs.length → Rps K mg F m vs ds → Ro F m (some (.dT (ks.zip vs))) (.dt ks ds)
  | ins {C dx : Addr} {c : String} {ns : List String} {vs : List V} {ds : List D} : ns.length = vs.length → mg (Str.ofString c) = some (.ref C) → Rps K mg F m vs ds → Ro F m (some (.ins C dx ((ns.map Str.ofString).zip vs))) (.ins c ns ds)
structure WLe (F : Hp) (m : List Addr) (F' : Hp) (m' : List Addr) : Prop where
  f : Same F F'
  m : ∃ k, m' = m ++ k
structure Rel (G F : Hp) (m : List Addr) (h : DH) (H : Hp) : Prop where
  sg : Same G H
  gk : ∀ a o, G a = some o → ∃ xs, o = .lst xs
  gf : ∀ a o, G a = some o → F a = none
  gl : ∀ (n : Nat) (a : Addr) (o : O), m[n]? = some a → h[n]? = some o → o ≠ .dead → G a = none
  sf : Same F H
  ln : m.length = h.length
  lv : ∀ (n : Nat) (o : O), h[n]? = some o → o ≠ .dead → ∃ a, m[n]? = some a ∧ F a = none ∧ Ro K mg F m (H a) o
  ij : ∀ (i j : Nat) (a : Addr) (o u : O), m[i]? = some a → m[j]? = some a → h[i]? = some o → h[j]? = some u → o ≠ .dead → u ≠ .dead → i = j
def SlR (F : Hp) (m : List Addr) : Option V → Option D → Prop
  | _, none => True
  | some v, some d => Rp K mg F m v d
  | none, some _ => False
abbrev SRel (F : Hp) (m : List Addr) : L2.St → Sg → Prop := Paired (SlR K mg F m)
/-- an exception: its class's name, its fields -/
def ExR (F : Hp) (m : List Addr) (H : Hp) (cls : Value) (dx : Option Addr) (nm : String) (ns : List String) (fs : List D) : Prop :=
  ∃ C, mg (Str.ofString nm) = some (.ref C) ∧ cls = .ref C ∧ ((ns = [] ∧ fs = [] ∧ dx = none) ∨
    ∃ a vs, ns.length = vs.length ∧ dx = some a ∧ H a = some (.xd ((ns.map Str.ofString).zip vs)) ∧ Rps K mg F m vs fs)
end
section
variable {K : PySem.W.Frag} {mg : Str → Option Value} {F F' F'' : Hp} {m m' m'' : List Addr} {h h' : DH} {H H' : Hp} {v : V} {d : D}
theorem WLe.refl : WLe F m F m := ⟨Same.refl F, [], by simp⟩
theorem WLe.trans (a : WLe F m F' m') (b : WLe F' m' F'' m'') : WLe F m F'' m'' := by
  obtain ⟨k, rfl⟩ := a.m
  obtain ⟨k', rfl⟩ := b.m
  exact ⟨a.f.trans b.f, k ++ k', by simp⟩
theorem WLe.get (a : WLe F m F' m') {n : Nat} {x : Addr} (e : m[n]? = some x) : m'[n]? = some x := by
  obtain ⟨k, rfl⟩ := a.m
  rw [List.getElem?_append_left (List.getElem?_eq_some_iff.mp e).1]; exact e
theorem tupAt_mono {a : Addr} {xs : List V} (e : Same F F') (x : TupAt K F a xs) : TupAt K F' a xs := x.elim (fun h => .inl (e _ _ h)) .inr
theorem sqT_mono {a : Addr} {xs : List V} (e : Same F F') (x : TupAt K F a xs) : SqT K F' a xs := x.elim (fun h => .inl (.inl (e _ _ h))) .inr
theorem sqL_mono {a : Addr} {xs : List V} (e : Same F F') (x : SqL K F a xs) : SqL K F' a xs := e.seq x
mutual
theorem Rp.mono (le : WLe F m F' m') : ∀ {v : V} {d : D}, Rp K mg F m v d → Rp K mg F' m' v d
  | _, _, .non => .non
  | _, _, .bl b => .bl b
  | _, _, .int i => .int i
  | _, _, .str x => .str x
  | _, _, .ty n => .ty n
  | _, _, .tup s p => .tup (tupAt_mono le.f s) (Rps.mono le p)
  | _, _, .lst s p => .lst (le.f _ _ s) (Rps.mono le p)
  | _, _, .scr s p => .scr (sqL_mono le.f s) (Rps.mono le p)
  | _, _, .dic e f p => .dic e (le.f _ _ f) (Rps.mono le p)
  | _, _, .obj e f g p => .obj e (le.f _ _ f) g (Rps.mono le p)
  | _, _, .ref e => .ref (le.get e)
  | _, _, .glb e => .glb e
  | _, _, .exc0 g => .exc0 g
  | _, _, .exc1 g e f p => .exc1 g e (le.f _ _ f) (Rps.mono le p)
theorem Rps.mono (le : WLe F m F' m') : ∀ {vs : List V} {ds : List D}, Paired (Rp K mg F m) vs ds → Paired (Rp K mg F' m') vs ds
  | _, _, .nil => .nil
  | _, _, .cons p r => .cons (Rp.mono le p) (Rps.mono le r)
end
theorem SlR.mono (le : WLe F m F' m') : ∀ {x : Option V} {d : Option D}, SlR K mg F m x d → SlR K mg F' m' x d
  | none, none, _ => True.intro
  | some _, none, _ => True.intro
  | some _, some _, h => Rp.mono le h
  | none, some _, h => h.elim
theorem SRel.mono (le : WLe F m F' m') : ∀ {σ : L2.St} {sd : Sg}, SRel K mg F m σ sd → SRel K mg F' m' σ sd
  | _, _, .nil => .nil
  | _, _, .cons p r => .cons (SlR.mono le p) (SRel.mono le r)
theorem Ro.mono (le : WLe F m F' m') {x : Option HO} {o : O} (r : Ro K mg F m x o) : Ro K mg F' m' x o := by
  cases r with
  | dead => exact .dead _
  | lst p => exact .lst (Rps.mono le p)
  | dk e p => exact .dk e (Rps.mono le p)
  | dt e p => exact .dt e (Rps.mono le p)
  | ins e g p => exact .ins e g (Rps.mono le p)
theorem ExR.mono {cls dx nm ns fs} (le : WLe F m F' m') (x : ExR K mg F m H cls dx nm ns fs) : ExR K mg F' m' H cls dx nm ns fs := by
  obtain ⟨C, a, b, c⟩ := x
  refine ⟨C, a, b, ?_⟩
  rcases c with c | ⟨x, vs, e1, e2, e3, p⟩
  · exact .inl c
  · exact .inr ⟨x, vs, e1, e2, e3, Rps.mono le p⟩
theorem SRel.get : ∀ {σ : L2.St} {sd : Sg} {i : Nat} {d : D}, SRel K mg F m σ sd → sd[i]? = some (some d) → ∃ v, σ[i]? = some (some v) ∧ Rp K mg F m v d
  | _, _, 0, d, .cons (a := x) (b := y) p r, e => by
    have e' : y = some d := by simpa using e
    subst e'
    cases x with
    | none => exact p.elim
    | some v => exact ⟨v, rfl, p⟩
  | _, _, i + 1, d, .cons p r, e => by
    obtain ⟨v, a, b⟩ := SRel.get (i := i) (d := d) r (by simpa using e)
    exact ⟨v, by simpa using a, b⟩
  | _, _, i, d, .nil, e => by simp at e
theorem SRel.set {v : V} {d : D} (p : Rp K mg F m v d) : ∀ {σ : L2.St} {sd : Sg} (i : Nat), SRel K mg F m σ sd → SRel K mg F m (σ.set i (some v)) (sd.set i (some d))
  | _, _, _, .nil => .nil
  | _, _, 0, .cons _ r => .cons p r
  | _, _, i + 1, .cons q r => .cons q (SRel.set p i r)
theorem SRel.forget : ∀ {σ : L2.St} {sd : Sg} (i : Nat), SRel K mg F m σ sd → SRel K mg F m σ (sd.set i none)
  | _, _, _, .nil => .nil
  | _, _, 0, .cons (a := x) p r => .cons (by cases x <;> exact True.intro) r
  | _, _, i + 1, .cons q r => .cons q (SRel.forget i r)
theorem SRel.setN (x : Option V) : ∀ {σ : L2.St} {sd : Sg} (i : Nat), SRel K mg F m σ sd → SRel K mg F m (σ.set i x) (sd.set i none)
  | _, _, _, .nil => .nil
  | _, _, 0, .cons p r => .cons (by cases x <;> exact True.intro) r
  | _, _, i + 1, .cons q r => .cons q (SRel.setN x i r)
end
end DL
end

section
set_option maxRecDepth 100000
set_option maxHeartbeats 4000000
namespace DL
open PySem PySem.Spec L2
/-! ## what is wanted, said in worlds -/
section
variable (K : PySem.W.Frag) (mg : Str → Option Value) (G : Hp)
def QV (F : Hp) (m : List Addr) (Q : VD) : VK := fun v H' => ∃ F' m' h' d, WLe F m F' m' ∧ Rel K mg G F' m' h' H' ∧ Rp K mg F' m' v d ∧ Q d h'
def QL (F : Hp) (m : List Addr) (Q : LD) : List V → Hp → Prop := fun vs H' => ∃ F' m' h' ds, WLe F m F' m' ∧ Rel K mg G F' m' h' H' ∧ Rps K mg F' m' vs ds ∧ Q ds h'
def QB (F : Hp) (m : List Addr) (Q : Bool → DH → Prop) : Bool → Hp → Prop := fun b H' => ∃ F' m' h', WLe F m F' m' ∧ Rel K mg G F' m' h' H' ∧ Q b h'
def QE (F : Hp) (m : List Addr) (E : ED) : XK := fun cls dx H' => ∃ F' m' h' nm ns fs, WLe F m F' m' ∧ Rel K mg G F' m' h' H' ∧ ExR K mg F' m' H' cls dx nm ns fs ∧ E nm ns fs h'
def QS (F : Hp) (m : List Addr) (p : Sg → DH → Prop) : L2.St → Hp → Prop := fun σ' H' => ∃ F' m' sd' h', WLe F m F' m' ∧ Rel K mg G F' m' h' H' ∧ SRel K mg F' m' σ' sd' ∧ p sd' h'
def QX (F : Hp) (m : List Addr) (er : String → List String → List D → Sg → DH → Prop) : WX := fun cls dx σ' H' => ∃ F' m' sd' h' nm ns fs, WLe F m F' m' ∧ Rel K mg G F' m' h' H' ∧ SRel K mg F' m' σ' sd' ∧ ExR K mg F' m' H' cls dx nm ns fs ∧ er nm ns fs sd' h'
/-- where one stands -/
structure At (W : WX) (F : Hp) (m : List Addr) (sd : Sg) (h : DH) (σ : L2.St) (H : Hp) (E : ED) : Prop where
  R : Rel K mg G F m h H
  S : SRel K mg F m σ sd
  E : ∀ cls dx H', QE K mg G F m E cls dx H' → W cls dx σ H'
end
section
variable (K : PySem.W.Frag) (mg : Str → Option Value)
def LE (W : WX) (t : TED) : TE := fun σ H Q => ∃ G F m sd h QD E, At K mg G W F m sd h σ H E ∧ t sd h QD E ∧ ∀ v H', QV K mg G F m QD v H' → Q v H'
def LT (W : WX) (t : TTD) : TT := fun σ H Q => ∃ G F m sd h QD E, At K mg G W F m sd h σ H E ∧ t sd h QD E ∧ ∀ v H', QB K mg G F m QD v H' → Q v H'
def LA (W : WX) (n : Nat) (t : TAD) : TA := fun σ H Q => ∃ G F m sd h QD E, At K mg G W F m sd h σ H E ∧ t sd h QD E ∧ ∀ v H', v.length = n → QL K mg G F m QD v H' → Q v H'
structure AtS (G : Hp) (W : WX) (k : KD) (D : Ends) (F : Hp) (m : List Addr) : Prop where
  nx : ∀ σ' H', QS K mg G F m k.nx σ' H' → D.nx σ' H'
  rt : ∀ v H', QV K mg G F m k.rt v H' → D.rt v H'
  bk : ∀ σ' H', QS K mg G F m k.bk σ' H' → D.bk σ' H'
  ct : ∀ σ' H', QS K mg G F m k.ct σ' H' → D.ct σ' H'
  er : ∀ cls dx σ' H', QX K mg G F m k.er cls dx σ' H' → W cls dx σ' H'
def LS (W : WX) (t : TSD) : TS := fun D σ H => ∃ G F m sd h k, Rel K mg G F m h H ∧ SRel K mg F m σ sd ∧ t k sd h ∧ AtS K mg G W k D F m
end
section
variable {K : PySem.W.Frag} {mg : Str → Option Value} {G F F' F'' : Hp} {m m' m'' : List Addr} {h h' : DH} {H H' : Hp} {v : V} {d : D} {sd : Sg} {σ : L2.St} {W : WX}
theorem QV.mono {Q : VD} (le : WLe F m F' m') (q : QV K mg G F' m' Q v H) : QV K mg G F m Q v H := by
  obtain ⟨F1, m1, h1, d, l, a⟩ := q; exact ⟨F1, m1, h1, d, le.trans l, a⟩
theorem QL.mono {Q : LD} {vs} (le : WLe F m F' m') (q : QL K mg G F' m' Q vs H) : QL K mg G F m Q vs H := by
  obtain ⟨F1, m1, h1, d, l, a⟩ := q; exact ⟨F1, m1, h1, d, le.trans l, a⟩
theorem QB.mono {Q b} (le : WLe F m F' m') (q : QB K mg G F' m' Q b H) : QB K mg G F m Q b H := by
  obtain ⟨F1, m1, h1, l, a⟩ := q; exact ⟨F1, m1, h1, le.trans l, a⟩
theorem QE.mono {E cls dx} (le : WLe F m F' m') (q : QE K mg G F' m' E cls dx H) : QE K mg G F m E cls dx H := by
  obtain ⟨F1, m1, h1, a, b, c, l, r⟩ := q; exact ⟨F1, m1, h1, a, b, c, le.trans l, r⟩
theorem QS.mono {p} (le : WLe F m F' m') (q : QS K mg G F' m' p σ H) : QS K mg G F m p σ H := by
  obtain ⟨F1, m1, s1, h1, l, a⟩ := q; exact ⟨F1, m1, s1, h1, le.trans l, a⟩
theorem QX.mono {E cls dx} (le : WLe F m F' m') (q : QX K mg G F' m' E cls dx σ H) : QX K mg G F m E cls dx σ H := by
  obtain ⟨F1, m1, s1, h1, a, b, c, l, r⟩ := q; exact ⟨F1, m1, s1, h1, a, b, c, le.trans l, r⟩
theorem At.mv {E : ED} (a : At K mg G W F m sd h σ H E) (le : WLe F m F' m') (R : Rel K mg G F' m' h' H') : At K mg G W F' m' sd h' σ H' E :=
  ⟨R, a.S.mono le, fun c dx H' q => a.E c dx H' (q.mono le)⟩
theorem AtS.mv {k : KD} {D : Ends} (a : AtS K mg G W k D F m) (le : WLe F m F' m') : AtS K mg G W k D F' m' :=
  ⟨fun s H q => a.nx s H (q.mono le), fun s H q => a.rt s H (q.mono le), fun s H q => a.bk s H (q.mono le), fun s H q => a.ct s H (q.mono le), fun c d s H q => a.er c d s H (q.mono le)⟩
/-- the first part, then the rest -/
theorem LE.step {t : TED} {QD : VD} {E : ED} {Q : VK} (a : At K mg G W F m sd h σ H E) (ht : t sd h QD E)
    (k : ∀ F' m' h' H' v d, WLe F m F' m' → At K mg G W F' m' sd h' σ H' E → Rp K mg F' m' v d → QD d h' → Q v H') : LE K mg W t σ H Q :=
  ⟨G, F, m, sd, h, QD, E, a, ht, fun v H' ⟨F', m', h', d, le, R, rp, q⟩ => k F' m' h' H' v d le (a.mv le R) rp q⟩
theorem LA.step {n : Nat} {t : TAD} {QD : LD} {E : ED} {Q : List V → Hp → Prop} (a : At K mg G W F m sd h σ H E) (ht : t sd h QD E)
    (k : ∀ F' m' h' H' v d, v.length = n → WLe F m F' m' → At K mg G W F' m' sd h' σ H' E → Rps K mg F' m' v d → QD d h' → Q v H') : LA K mg W n t σ H Q :=
  ⟨G, F, m, sd, h, QD, E, a, ht, fun v H' hn ⟨F', m', h', d, le, R, rp, q⟩ => k F' m' h' H' v d hn le (a.mv le R) rp q⟩
theorem LT.step {t : TTD} {QD : Bool → DH → Prop} {E : ED} {Q : Bool → Hp → Prop} (a : At K mg G W F m sd h σ H E) (ht : t sd h QD E)
    (k : ∀ F' m' h' H' b, WLe F m F' m' → At K mg G W F' m' sd h' σ H' E → QD b h' → Q b H') : LT K mg W t σ H Q :=
  ⟨G, F, m, sd, h, QD, E, a, ht, fun v H' ⟨F', m', h', le, R, q⟩ => k F' m' h' H' v le (a.mv le R) q⟩
/-- a new frozen object -/
theorem Rel.newF {a : Addr} {o : HO} (R : Rel K mg G F m h H) (hp : H a = none) : WLe F m (upd F a o) m ∧ Rel K mg G (upd F a o) m h (upd H a o) := by
  have fa : F a = none := by
    cases e : F a with
    | none => rfl
    | some u => exact absurd (R.sf _ _ e) (by rw [hp]; exact fun q => nomatch q)
  have le : WLe F m (upd F a o) m := ⟨fun b u e => by rw [upd_ne (ne_of_none e fa)]; exact e, [], by simp⟩
  refine ⟨le, ⟨fun b u e => ?_, R.gk, fun b u e => ?_, R.gl, fun b u e => ?_, R.ln, fun n u e ne => ?_, R.ij⟩⟩
  · rw [upd_ne (ne_of_none (R.sg _ _ e) hp)]; exact R.sg _ _ e
  · rw [upd_ne (ne_of_none (R.sg _ _ e) hp)]; exact R.gf _ _ e
  · by_cases hb : b = a
    · subst hb; rw [upd_same] at e ⊢; exact e
    · rw [upd_ne hb] at e ⊢; exact R.sf _ _ e
  · obtain ⟨x, e1, e2, r⟩ := R.lv n u e ne
    have hx : x ≠ a := by
      rintro rfl
      rw [hp] at r
      cases r; exact ne rfl
    exact ⟨x, e1, by rw [upd_ne hx]; exact e2, by rw [upd_ne hx]; exact r.mono le⟩
/-- a new object of the small heap -/
theorem Rel.newR {a : Addr} {o : HO} {u : O} (R : Rel K mg G F m h H) (hp : H a = none) (r : Ro K mg F m (some o) u) (hu : u ≠ .dead) : WLe F m F (m ++ [a]) ∧ Rel K mg G F (m ++ [a]) (h ++ [u]) (upd H a o) := by
  have fa : F a = none := by
    cases e : F a with
    | none => rfl
    | some u => exact absurd (R.sf _ _ e) (by rw [hp]; exact fun q => nomatch q)
  have le : WLe F m F (m ++ [a]) := ⟨Same.refl F, [a], rfl⟩
  have old : ∀ {n : Nat} {x : O}, h[n]? = some x → x ≠ .dead → ∃ y, m[n]? = some y ∧ y ≠ a := fun {n x} e ne => by
    obtain ⟨y, e1, e2, r⟩ := R.lv n x e ne
    refine ⟨y, e1, ?_⟩
    rintro rfl
    rw [hp] at r
    cases r; exact ne rfl
  have sp : ∀ {n : Nat} {x : O}, (h ++ [u])[n]? = some x → h[n]? = some x ∨ (n = h.length ∧ x = u) := fun {n x} e => by
    by_cases hn : n < h.length
    · rw [List.getElem?_append_left hn] at e; exact .inl e
    · have hn' : h.length ≤ n := Nat.le_of_not_lt hn
      rw [List.getElem?_append_right hn'] at e
      have z := (List.getElem?_eq_some_iff.mp e).1
      simp only [List.length_singleton] at z
      have n0 : n - h.length = 0 := by omega
      rw [n0] at e
      exact .inr ⟨by omega, (by simpa using e : u = x).symm⟩
  have ga : G a = none := by
    cases e : G a with
    | none => rfl
    | some u => exact absurd (R.sg _ _ e) (by rw [hp]; exact fun q => nomatch q)
  refine ⟨le, ⟨fun b z e => ?_, R.gk, R.gf, fun n y x e1 e2 ne => ?_, fun b z e => ?_, by simp [R.ln], fun n x e ne => ?_, fun i j y o1 o2 e1 e2 g1 g2 n1 n2 => ?_⟩⟩
  · rw [upd_ne (ne_of_none (R.sg _ _ e) hp)]; exact R.sg _ _ e
  · rcases sp e2 with e2 | ⟨rfl, rfl⟩
    · obtain ⟨y', e1', _⟩ := old e2 ne
      rw [le.get e1'] at e1; cases e1
      exact R.gl _ _ _ e1' e2 ne
    · rw [← R.ln] at e1
      have : (m ++ [a])[m.length]? = some a := by simp
      rw [this] at e1; cases e1; exact ga
  · rw [upd_ne (ne_of_none e fa)]; exact R.sf _ _ e
  · rcases sp e with e | ⟨rfl, rfl⟩
    · obtain ⟨y, e1, e2, r⟩ := R.lv n x e ne
      obtain ⟨y', e1', hy⟩ := old e ne
      rw [e1] at e1'; cases e1'
      exact ⟨y, le.get e1, e2, by rw [upd_ne hy]; exact r.mono le⟩
    · refine ⟨a, ?_, fa, by rw [upd_same]; exact r.mono le⟩
      rw [← R.ln]; simp
  · have fn : ∀ {k : Nat}, k = h.length → (m ++ [a])[k]? = some a := fun {k} hk => by rw [hk, ← R.ln]; simp
    rcases sp g1 with g1 | ⟨rfl, rfl⟩
    · obtain ⟨y1, a1, b1⟩ := old g1 n1
      rw [le.get a1] at e1; cases e1
      rcases sp g2 with g2 | ⟨rfl, rfl⟩
      · obtain ⟨y2, a2, b2⟩ := old g2 n2
        rw [le.get a2] at e2; cases e2
        exact R.ij i j _ _ _ a1 a2 g1 g2 n1 n2
      · rw [fn rfl] at e2; cases e2; exact absurd rfl b1
    · rw [fn rfl] at e1; cases e1
      rcases sp g2 with g2 | ⟨rfl, rfl⟩
      · obtain ⟨y2, a2, b2⟩ := old g2 n2
        rw [le.get a2] at e2; cases e2; exact absurd rfl b2
      · rfl
/-- an object of the small heap is written -/
theorem Rel.put {n : Nat} {a : Addr} {o : HO} {x u : O} (R : Rel K mg G F m h H) (hn : h[n]? = some x) (hx : x ≠ .dead) (ha : m[n]? = some a) (r : Ro K mg F m (some o) u) : Rel K mg G F m (h.set n u) (upd H a o) := by
  obtain ⟨a', e1, fa, _⟩ := R.lv n x hn hx
  rw [ha] at e1; cases e1
  have hl := (List.getElem?_eq_some_iff.mp hn).1
  have sp : ∀ {k : Nat} {y : O}, (h.set n u)[k]? = some y → (k = n ∧ y = u) ∨ (k ≠ n ∧ h[k]? = some y) := fun {k y} e => by
    by_cases hk : k = n
    · subst hk; rw [List.getElem?_set_self hl] at e; exact .inl ⟨rfl, (Option.some.inj e).symm⟩
    · rw [List.getElem?_set_ne (Ne.symm hk)] at e; exact .inr ⟨hk, e⟩
  have q : ∀ {k : Nat} {y : O}, (h.set n u)[k]? = some y → y ≠ .dead → ∃ z, h[k]? = some z ∧ z ≠ .dead := fun {k y} e ne => by
    rcases sp e with ⟨rfl, rfl⟩ | ⟨_, e⟩
    · exact ⟨x, hn, hx⟩
    · exact ⟨y, e, ne⟩
  have ga := R.gl n a x ha hn hx
  refine ⟨fun b z e => ?_, R.gk, R.gf, fun k y z e1 e2 ne => ?_, fun b z e => ?_, by simp [R.ln], fun k y e ne => ?_, fun i j y o1 o2 e1 e2 g1 g2 n1 n2 => ?_⟩
  · rw [upd_ne (ne_of_none e ga)]; exact R.sg _ _ e
  · obtain ⟨z', p, r⟩ := q e2 ne
    exact R.gl k y z' e1 p r
  · rw [upd_ne (ne_of_none e fa)]; exact R.sf _ _ e
  · rcases sp e with ⟨rfl, rfl⟩ | ⟨hk, e⟩
    · exact ⟨a, ha, fa, by rw [upd_same]; exact r⟩
    · obtain ⟨y', e1, e2, r'⟩ := R.lv k y e ne
      have hy : y' ≠ a := by
        rintro rfl
        exact hk (R.ij k n _ _ _ e1 ha e hn ne hx)
      exact ⟨y', e1, e2, by rw [upd_ne hy]; exact r'⟩
  · obtain ⟨z1, p1, q1⟩ := q g1 n1
    obtain ⟨z2, p2, q2⟩ := q g2 n2
    exact R.ij i j _ _ _ e1 e2 p1 p2 q1 q2
/-- a list of the small heap is frozen -/
theorem Rel.freeze {n : Nat} {xs : List D} (R : Rel K mg G F m h H) (hn : h[n]? = some (.lst xs)) : ∃ a vs, m[n]? = some a ∧ Rps K mg F m vs xs ∧ WLe F m (upd F a (.lst vs)) m ∧ Rel K mg G (upd F a (.lst vs)) m (h.set n .dead) H ∧ Rp K mg (upd F a (.lst vs)) m (.ref a) (.lst xs) := by
  obtain ⟨a, ha, fa, r⟩ := R.lv n _ hn (fun q => nomatch q)
  generalize e : H a = o at r
  cases r with
  | lst p =>
    rename_i vs
    have le : WLe F m (upd F a (.lst vs)) m := ⟨fun b u e => by rw [upd_ne (ne_of_none e fa)]; exact e, [], by simp⟩
    have ga := R.gl n a _ ha hn (fun q => nomatch q)
    have hl := (List.getElem?_eq_some_iff.mp hn).1
    have old : ∀ {k : Nat} {y : O}, (h.set n .dead)[k]? = some y → y ≠ .dead → h[k]? = some y := fun {k y} g ne => by
      by_cases hk : k = n
      · subst hk; rw [List.getElem?_set_self hl] at g; exact absurd (Option.some.inj g).symm ne
      · rw [List.getElem?_set_ne (Ne.symm hk)] at g; exact g
    refine ⟨a, vs, ha, p, le, ⟨R.sg, R.gk, fun b u q => ?_, fun k y z e1 e2 ne => R.gl k y z e1 (old e2 ne) ne, fun b u q => ?_, by simp [R.ln], fun k y g ne => ?_, fun i j y o1 o2 e1 e2 g1 g2 n1 n2 => ?_⟩, .lst upd_same (Rps.mono le p)⟩
    · rw [upd_ne (ne_of_none q ga)]; exact R.gf _ _ q
    · by_cases hb : b = a
      · subst hb; rw [upd_same] at q; rw [e]; exact q
      · rw [upd_ne hb] at q; exact R.sf _ _ q
    · by_cases hk : k = n
      · subst hk; rw [List.getElem?_set_self hl] at g; exact absurd (Option.some.inj g).symm ne
      · rw [List.getElem?_set_ne (Ne.symm hk)] at g
        obtain ⟨y', e1, e2, r'⟩ := R.lv k y g ne
        have hy : y' ≠ a := by
          rintro rfl
          exact hk (R.ij k n _ _ _ e1 ha g hn ne (fun q => nomatch q))
        exact ⟨y', e1, by rw [upd_ne hy]; exact e2, r'.mono le⟩
    · exact R.ij i j _ _ _ e1 e2 (old g1 n1) (old g2 n2) n1 n2
end
/-! ## the judgements -/
section
variable (X : Cx) (W : WX)
def DE (e : Expr) (t : TED) : Prop := PE X e (LE X.K X.mg W t)
def DT (e : Expr) (t : TTD) : Prop := PT X e (LT X.K X.mg W t)
def DW (e : Expr) (t : TTD) : Prop := PW X e (LT X.K X.mg W t)
def DA (es : List Expr) (t : TAD) : Prop := PA X es (LA X.K X.mg W es.length t)
def DS (s : Stmt) (t : TSD) : Prop := PS X s (LS X.K X.mg W t)
def DSs (s : List Stmt) (t : TSD) : Prop := PSs X s (LS X.K X.mg W t)
end
theorem PE.imp {X : Cx} {e : Expr} {t t' : TE} (p : PE X e t) (h : ∀ σ H Q, t' σ H Q → t σ H Q) : PE X e t' := ⟨fun pins s σ H Q I q => p.run pins s σ H Q I (h σ H Q q)⟩
theorem PT.imp {X : Cx} {e : Expr} {t t' : TT} (p : PT X e t) (h : ∀ σ H Q, t' σ H Q → t σ H Q) : PT X e t' := ⟨fun pins s σ H Q I q => p.run pins s σ H Q I (h σ H Q q)⟩
theorem PW.imp {X : Cx} {e : Expr} {t t' : TT} (p : PW X e t) (h : ∀ σ H Q, t' σ H Q → t σ H Q) : PW X e t' := ⟨fun wh pins s σ H Q I q => p.run wh pins s σ H Q I (h σ H Q q)⟩
theorem PA.imp {X : Cx} {e : List Expr} {t t' : TA} (p : PA X e t) (h : ∀ σ H Q, t' σ H Q → t σ H Q) : PA X e t' := ⟨fun pos pins s σ H Q I q => p.run pos pins s σ H Q I (h σ H Q q)⟩
theorem PS.imp {X : Cx} {e : Stmt} {t t' : TS} (p : PS X e t) (h : ∀ D σ H, t' D σ H → t D σ H) : PS X e t' := ⟨fun pins s σ H D I q => p.run pins s σ H D I (h D σ H q)⟩
theorem PSs.imp {X : Cx} {e : List Stmt} {t t' : TS} (p : PSs X e t) (h : ∀ D σ H, t' D σ H → t D σ H) : PSs X e t' := ⟨fun pins s σ H D I q => p.run pins s σ H D I (h D σ H q)⟩
end DL
end

section
set_option maxRecDepth 100000
set_option maxHeartbeats 4000000
namespace DL
open PySem PySem.Spec L2
/-! ## names, constants -/
def eVar (i : Nat) : TED := fun sd h Q _ => match sd[i]? with | some (some d) => Q d h | _ => False
def eC (d : D) : TED := fun _ h Q _ => Q d h
section
variable {X : Cx} {W : WX}
theorem At.out {K mg} {G F F' : Hp} {m m' : List Addr} {h' : DH} {H' : Hp} {QD : VD} {Q : VK} {v : V} {d : D} (hQ : ∀ v H', QV K mg G F m QD v H' → Q v H') (le : WLe F m F' m') (R : Rel K mg G F' m' h' H') (rp : Rp K mg F' m' v d) (q : QD d h') : Q v H' :=
  hQ _ _ ⟨F', m', h', d, le, R, rp, q⟩
theorem de_const {e : Expr} {v : V} {d : D} (p : PE X e (tC v)) (r : ∀ F m, Rp X.K X.mg F m v d) : DE X W e (eC d) := PE.imp p fun σ H Q ⟨G, F, m, sd, h, QD, E, a, t, hQ⟩ =>
  hQ _ _ ⟨F, m, h, d, WLe.refl, a.R, r F m, t⟩
theorem de_var {i : Nat} {x : Str} {pos : Pos} (hN : X.N[i]? = some x) (hv : Vis X.env.scope x) (hd : (x == ("__debug__" : Str)) = false := by decide) (hcd : (x == ("__classdict__" : Str)) = false := by decide) : DE X W (.Name x pos) (eVar i) :=
  PE.imp (pe_var hN hv hd hcd) fun σ H Q ⟨G, F, m, sd, h, QD, E, a, t, hQ⟩ => by
    unfold eVar at t
    split at t
    · rename_i d e
      obtain ⟨v, e1, rp⟩ := a.S.get e
      exact ⟨v, e1, hQ _ _ ⟨F, m, h, d, WLe.refl, a.R, rp, t⟩⟩
    · exact t.elim
/-- the name that stands in the i-th slot -/
theorem dv (i : Nat) {x : Str} {pos : Pos} (hN : X.N[i]? = some x := by rfl) (hv : Vis X.env.scope x := by first | exact Or.inl rfl | exact Or.inr (Or.inl rfl) | exact Or.inr (Or.inr rfl)) (hd : (x == ("__debug__" : Str)) = false := by decide)
    (hcd : (x == ("__classdict__" : Str)) = false := by decide) : DE X W (.Name x pos) (eVar i) := de_var hN hv hd hcd
theorem de_int {i j pos} : DE X W (.Constant (.int i) j pos) (eC (.int i)) := de_const pe_int fun _ _ => .int _
theorem de_bl {b j pos} : DE X W (.Constant (.bool b) j pos) (eC (.bl b)) := de_const pe_bl fun _ _ => .bl _
theorem de_non {j pos} : DE X W (.Constant .none j pos) (eC .non) := de_const pe_non fun _ _ => .non
theorem de_str {x j pos} : DE X W (.Constant (.str x) j pos) (eC (.str x)) := de_const pe_str fun _ _ => .str _
/-- a module's constant, a class, a function, as a value -/
theorem de_glob {x : Str} {v : V} {u : Value} {d : D} {pos : Pos} (hg : Gl X x) (hm : X.mg x = some u) (r : RelV v u) (rd : ∀ F m, Rp X.K X.mg F m v d) (hd : (x == ("__debug__" : Str)) = false := by decide) : DE X W (.Name x pos) (eC d) :=
  de_const (pe_glob hg hm r hd) rd
theorem de_ty {x : Str} {n : String} {pos : Pos} (hg : Gl X x) (hm : X.mg x = none) (hv : bootBuiltins x = some (.type n)) (hn : x ≠ "__name__" := by decide) (hd : (x == ("__debug__" : Str)) = false := by decide) : DE X W (.Name x pos) (eC (.ty n)) :=
  de_const (pe_bltn (v := .ty n) hg hm hv rfl hn hd) fun _ _ => .ty n
end
/-! ## operations on two values -/
def eOp2 (f : D → D → DH → VD → Prop) (ta tb : TED) : TED := fun sd h Q E => ta sd h (fun x h1 => tb sd h1 (fun y h2 => f x y h2 Q) E) E
def eOp1 (f : D → DH → VD → Prop) (ta : TED) : TED := fun sd h Q E => ta sd h (fun x h1 => f x h1 Q) E
abbrev F2 := D → D → DH → VD → Prop
section
variable (X : Cx)
def OpD (r : R2) (f : F2) : Prop := ∀ (G F : Hp) (m : List Addr) (h : DH) (H : Hp) (x y : V) (d e : D) (QD : VD) (Q : VK), Rel X.K X.mg G F m h H → Rp X.K X.mg F m x d → Rp X.K X.mg F m y e → f d e h QD → (∀ v H', QV X.K X.mg G F m QD v H' → Q v H') → r x y H Q
def OpDD (g : Value → Value → Sem Value) (f : F2) : Prop := ∃ r, OpR X g r ∧ OpD X r f
end
section
variable {X : Cx} {W : WX} {a b c : Expr} {ta tb tc : TED} {pos : Pos} {f g : F2}
theorem LE.two {K mg} {W : WX} {R : V → V → Hp → Prop} {G F m sd h σ H E} {QD : VD} (at_ : At K mg G W F m sd h σ H E) (ht : ta sd h (fun x h1 => tb sd h1 (fun y h2 => f x y h2 QD) E) E)
    (k : ∀ F' m' h' H' x y d e, WLe F m F' m' → At K mg G W F' m' sd h' σ H' E → Rp K mg F' m' x d → Rp K mg F' m' y e → f d e h' QD → R x y H') :
    LE K mg W ta σ H fun x H1 => LE K mg W tb σ H1 fun y H2 => R x y H2 :=
  LE.step at_ ht fun F1 m1 h1 H1 x d le1 a1 rp1 t1 => LE.step a1 t1 fun F2 m2 h2 H2 y e le2 a2 rp2 t2 => k F2 m2 h2 H2 x y d e (le1.trans le2) a2 (rp1.mono le2) rp2 t2
theorem de_op2 {op : Operator} (o : OpDD X (binaryOp op) f) (ha : DE X W a ta) (hb : DE X W b tb) : DE X W (.BinOp a op b pos) (eOp2 f ta tb) := by
  obtain ⟨r, ho, hf⟩ := o
  exact PE.imp (pe_op ho ha hb) fun σ H Q ⟨G, F, m, sd, h, QD, E, at_, t, hQ⟩ => LE.two at_ t fun F' m' h' H' x y d e le a' rx ry q => hf _ _ _ _ _ _ _ _ _ _ _ a'.R rx ry q fun v H' qv => hQ _ _ (qv.mono le)
theorem de_cmp {op : CmpOp} (o : OpDD X (compareOp op) f) (ha : DE X W a ta) (hb : DE X W b tb) (hm : behindInMarks op b = false := by first | exact nomark _ | rfl | with_unfolding_all rfl) : DE X W (.Compare a [op] [b] pos) (eOp2 f ta tb) := by
  obtain ⟨r, ho, hf⟩ := o
  exact PE.imp (pe_cmpR ho ha hb hm) fun σ H Q ⟨G, F, m, sd, h, QD, E, at_, t, hQ⟩ => LE.two at_ t fun F' m' h' H' x y d e le a' rx ry q => hf _ _ _ _ _ _ _ _ _ _ _ a'.R rx ry q fun v H' qv => hQ _ _ (qv.mono le)
/-- a op b op' c -/
def eChain (f g : F2) (ta tb tc : TED) : TED := fun sd h Q E => ta sd h (fun x h1 => tb sd h1 (fun y h2 => f x y h2 fun z h3 => match z with
  | .bl true => tc sd h3 (fun w h4 => g y w h4 Q) E
  | .bl false => Q (.bl false) h3
  | _ => False) E) E
theorem de_chain {op op' : CmpOp} (o : OpDD X (compareOp op) f) (o' : OpDD X (compareOp op') g) (ha : DE X W a ta) (hb : DE X W b tb) (hc : DE X W c tc) (hm : lastMarks [op, op'] [b, c] = false := by with_unfolding_all rfl) :
    DE X W (.Compare a [op, op'] [b, c] pos) (eChain f g ta tb tc) := by
  obtain ⟨r, ho, hf⟩ := o
  obtain ⟨r', ho', hf'⟩ := o'
  refine PE.imp (pe_chain ho ho' ha hb hc hm) fun σ H Q ⟨G, F, m, sd, h, QD, E, at_, t, hQ⟩ => ?_
  refine LE.step at_ t fun F1 m1 h1 H1 x d le1 a1 rp1 t1 => LE.step a1 t1 fun F2 m2 h2 H2 y e le2 a2 rp2 t2 => ?_
  refine hf _ _ _ _ _ _ _ _ _ _ _ a2.R (rp1.mono le2) rp2 t2 fun v H' ⟨F3, m3, h3, z, le3, R3, rz, q⟩ => ?_
  cases rz with
  | bl k =>
    refine ⟨k, rfl, ?_⟩
    cases k with
    | true =>
      rw [if_pos rfl]
      exact LE.step (a2.mv le3 R3) q fun F4 m4 h4 H4 w' u le4 a4 rp4 t4 => hf' _ _ _ _ _ _ _ _ _ _ _ a4.R (rp2.mono (le3.trans le4)) rp4 t4 fun v H' qv => hQ _ _ (qv.mono (le1.trans (le2.trans (le3.trans le4))))
    | false =>
      rw [if_neg Bool.false_ne_true]
      exact hQ _ _ ⟨F3, m3, h3, _, le1.trans (le2.trans le3), R3, .bl false, q⟩
  | _ => exact q.elim
end
/-! ## the items of a list or tuple -/
def itemsOf (d : D) (h : DH) : Option (List D) := match d with
  | .tup xs => some xs
  | .lst xs => some xs
  | .scr xs => some xs
  | .ref n => match h[n]? with
    | some (.lst xs) => some xs
    | _ => none
  | _ => none
section
variable {K : PySem.W.Frag} {mg : Str → Option Value} {G F : Hp} {m : List Addr} {h : DH} {H : Hp} {v : V} {d : D}
theorem Rel.lst (R : Rel K mg G F m h H) {n : Nat} {xs : List D} (e : h[n]? = some (.lst xs)) : ∃ a vs, m[n]? = some a ∧ F a = none ∧ H a = some (.lst vs) ∧ Rps K mg F m vs xs := by
  obtain ⟨a, e1, e2, r⟩ := R.lv n _ e (fun q => nomatch q)
  generalize z : H a = o at r
  cases r with
  | lst p => exact ⟨a, _, e1, e2, z, p⟩
theorem Rel.items (R : Rel K mg G F m h H) (r : Rp K mg F m v d) {xs : List D} (e : itemsOf d h = some xs) : ∃ a vs, v = .ref a ∧ (SqL K H a vs ∨ SqT K H a vs) ∧ Rps K mg F m vs xs := by
  cases r with
  | tup s p => cases e; exact ⟨_, _, rfl, .inr (sqT_mono R.sf s), p⟩
  | lst s p => cases e; exact ⟨_, _, rfl, .inl (.inl (.inl (R.sf _ _ s))), p⟩
  | scr s p => cases e; exact ⟨_, _, rfl, .inl (sqL_mono R.sf s), p⟩
  | ref hn =>
    simp only [itemsOf] at e
    split at e
    · rename_i n ys q
      cases e
      obtain ⟨a', vs, e1, _, e3, p⟩ := R.lst q
      rw [hn] at e1; cases e1
      exact ⟨_, vs, rfl, .inl (.inl (.inl e3)), p⟩
    · exact nomatch e
  | _ => exact nomatch e
theorem Paired.len {α β : Type} {G : α → β → Prop} {l₁ : List α} {l₂ : List β} (p : Paired G l₁ l₂) : l₁.length = l₂.length := Paired.length p
theorem Rps.get : ∀ {vs : List V} {ds : List D} {i : Nat} {d : D}, Rps K mg F m vs ds → ds[i]? = some d → ∃ v, vs[i]? = some v ∧ Rp K mg F m v d
  | _, _, 0, d, .cons p r, e => by cases e; exact ⟨_, rfl, p⟩
  | _, _, i + 1, d, .cons p r, e => by
    obtain ⟨v, a, b⟩ := Rps.get (i := i) r (by simpa using e)
    exact ⟨v, by simpa using a, b⟩
  | _, _, i, d, .nil, e => by simp at e
theorem Rps.getV : ∀ {vs : List V} {ds : List D} {i : Nat} {v : V}, Rps K mg F m vs ds → vs[i]? = some v → ∃ d, ds[i]? = some d ∧ Rp K mg F m v d
  | _, _, 0, d, .cons p r, e => by cases e; exact ⟨_, rfl, p⟩
  | _, _, i + 1, d, .cons p r, e => by
    obtain ⟨v, a, b⟩ := Rps.getV (i := i) r (by simpa using e)
    exact ⟨v, by simpa using a, b⟩
  | _, _, i, d, .nil, e => by simp at e
theorem Rps.app : ∀ {vs ws : List V} {ds es : List D}, Rps K mg F m vs ds → Rps K mg F m ws es → Rps K mg F m (vs ++ ws) (ds ++ es)
  | _, _, _, _, .nil, s => s
  | _, _, _, _, .cons p r, s => .cons p (Rps.app r s)
theorem Rps.take : ∀ {vs : List V} {ds : List D} (n : Nat), Rps K mg F m vs ds → Rps K mg F m (vs.take n) (ds.take n)
  | _, _, 0, _ => .nil
  | _, _, _ + 1, .nil => .nil
  | _, _, n + 1, .cons p r => .cons p (Rps.take n r)
theorem Rps.drop : ∀ {vs : List V} {ds : List D} (n : Nat), Rps K mg F m vs ds → Rps K mg F m (vs.drop n) (ds.drop n)
  | _, _, 0, r => r
  | _, _, _ + 1, .nil => .nil
  | _, _, n + 1, .cons p r => Rps.drop n r
theorem Rps.set {v : V} {d : D} (p : Rp K mg F m v d) : ∀ {vs : List V} {ds : List D} (n : Nat), Rps K mg F m vs ds → Rps K mg F m (vs.set n v) (ds.set n d)
  | _, _, _, .nil => .nil
  | _, _, 0, .cons _ r => .cons p r
  | _, _, n + 1, .cons q r => .cons q (Rps.set p n r)
theorem Rps.dropLast : ∀ {vs : List V} {ds : List D}, Rps K mg F m vs ds → Rps K mg F m vs.dropLast ds.dropLast
  | _, _, .nil => .nil
  | _, _, .cons p .nil => .nil
  | _, _, .cons p (.cons q r) => .cons p (Rps.dropLast (.cons q r))
theorem Rps.eraseIdx : ∀ {vs : List V} {ds : List D} (n : Nat), Rps K mg F m vs ds → Rps K mg F m (vs.eraseIdx n) (ds.eraseIdx n)
  | _, _, _, .nil => .nil
  | _, _, 0, .cons _ r => r
  | _, _, n + 1, .cons q r => .cons q (Rps.eraseIdx n r)
theorem Rps.snoc {v : V} {d : D} {vs : List V} {ds : List D} (r : Rps K mg F m vs ds) (p : Rp K mg F m v d) : Rps K mg F m (vs ++ [v]) (ds ++ [d]) := r.app (.cons p .nil)
theorem Rps.reverse : ∀ {vs : List V} {ds : List D}, Rps K mg F m vs ds → Rps K mg F m vs.reverse ds.reverse
  | _, _, .nil => .nil
  | _, _, .cons q r => by rw [List.reverse_cons, List.reverse_cons]; exact (Rps.reverse r).snoc q
theorem Rps.rep {vs : List V} {ds : List D} (r : Rps K mg F m vs ds) : ∀ k : Nat, Rps K mg F m (List.replicate k vs).flatten (List.replicate k ds).flatten
  | 0 => .nil
  | k + 1 => by simpa [List.replicate_succ] using r.app (Rps.rep r k)
theorem Rps.ints : ∀ {vs : List V} {ns : List Int}, Rps K mg F m vs (ns.map D.int) → vs = ns.map V.int
  | _, [], .nil => rfl
  | _, _ :: _, .cons p r => by cases p; rw [Rps.ints r]; rfl
theorem Rps.bls : ∀ {vs : List V} {ns : List Bool}, Rps K mg F m vs (ns.map D.bl) → vs = ns.map V.bl
  | _, [], .nil => rfl
  | _, _ :: _, .cons p r => by cases p; rw [Rps.bls r]; rfl
theorem Rps.of_ints : ∀ ns : List Int, Rps K mg F m (ns.map V.int) (ns.map D.int)
  | [] => .nil
  | _ :: r => .cons (.int _) (Rps.of_ints r)
theorem Rps.strs : ∀ {vs : List V} {ns : List Str}, Rps K mg F m vs (ns.map D.str) → vs = ns.map V.str
  | _, [], .nil => rfl
  | _, _ :: _, .cons p r => by cases p; rw [Rps.strs r]; rfl
theorem Rps.of_strs : ∀ ns : List Str, Rps K mg F m (ns.map V.str) (ns.map D.str)
  | [] => .nil
  | _ :: r => .cons (.str _) (Rps.of_strs r)
/-- a new tuple, a new list -/
theorem Rel.tupN {p : Addr} {vs : List V} {ds : List D} (R : Rel K mg G F m h H) (hp : H p = none) (r : Rps K mg F m vs ds) : ∃ F', WLe F m F' m ∧ Rel K mg G F' m h (upd H p (.tup vs)) ∧ Rp K mg F' m (.ref p) (.tup ds) := by
  obtain ⟨le, R'⟩ := R.newF (o := .tup vs) hp
  exact ⟨_, le, R', .tup (.inl upd_same) (Rps.mono le r)⟩
theorem Rel.lstN {p : Addr} {vs : List V} {ds : List D} (R : Rel K mg G F m h H) (hp : H p = none) (r : Rps K mg F m vs ds) : ∃ F', WLe F m F' m ∧ Rel K mg G F' m h (upd H p (.lst vs)) ∧ Rp K mg F' m (.ref p) (.lst ds) := by
  obtain ⟨le, R'⟩ := R.newF (o := .lst vs) hp
  exact ⟨_, le, R', .lst upd_same (Rps.mono le r)⟩
theorem Rel.refN {p : Addr} {vs : List V} {ds : List D} (R : Rel K mg G F m h H) (hp : H p = none) (r : Rps K mg F m vs ds) : ∃ m', WLe F m F m' ∧ Rel K mg G F m' (h ++ [.lst ds]) (upd H p (.lst vs)) ∧ Rp K mg F m' (.ref p) (.ref h.length) := by
  obtain ⟨le, R'⟩ := R.newR (o := .lst vs) (u := .lst ds) hp (.lst r) (fun q => nomatch q)
  exact ⟨_, le, R', .ref (by rw [← R.ln]; simp)⟩
end
/-! ## arithmetic -/
def catD (xs ys : List D) (h : DH) (k : List D → DH → Prop) : Prop := xs.length + ys.length ≤ sizeLine ∧ k (xs ++ ys) h
/-- the items of a list (no tuple) -/
def lstOf (d : D) (h : DH) : Option (List D) := match d with
  | .lst xs => some xs
  | .ref n => match h[n]? with
    | some (.lst xs) => some xs
    | _ => none
  | _ => none
def dAdd : F2 := fun x y h Q => match x, y with
  | .int i, .int j => Q (.int (i + j)) h
  | .str i, .str j => i.length + j.length ≤ sizeLine ∧ Q (.str (i ++ j)) h
  | .tup xs, .tup ys => xs.length + ys.length ≤ sizeLine ∧ Q (.tup (xs ++ ys)) h
  | x, y => match lstOf x h, lstOf y h with
    | some xs, some ys => xs.length + ys.length ≤ sizeLine ∧ Q (.lst (xs ++ ys)) h
    | _, _ => False
def dInt (f : Int → Int → Int) : F2 := fun x y h Q => match x, y with
  | .int i, .int j => Q (.int (f i j)) h
  | _, _ => False
def dIntC (C : Int → Int → Prop) (f : Int → Int → Int) : F2 := fun x y h Q => match x, y with
  | .int i, .int j => C i j ∧ Q (.int (f i j)) h
  | _, _ => False
def dIntB (f : Int → Int → Bool) : F2 := fun x y h Q => match x, y with
  | .int i, .int j => Q (.bl (f i j)) h
  | _, _ => False
def dSub : F2 := dInt fun i j => i - j
def dFdiv : F2 := dIntC CDivN Int.fdiv
def dMod : F2 := dIntC (fun _ j => j ≠ 0) Int.fmod
def dPow : F2 := dIntC CPow fun i j => i ^ j.toNat
def dAnd : F2 := dInt Builtin.bitAnd
def dOr : F2 := dInt Builtin.bitOr
def dLt : F2 := dIntB fun i j => decide (i < j)
def dLe : F2 := dIntB fun i j => decide (i ≤ j)
def dGt : F2 := dIntB fun i j => decide (j < i)
def dGe : F2 := dIntB fun i j => decide (j ≤ i)
def dMul : F2 := fun x y h Q => match x, y with
  | .int i, .int j => CMul i j ∧ Q (.int (i * j)) h
  | x, .int k => match lstOf x h with
    | some xs => k < 2 ^ 20 ∧ -(2 ^ 20) < k ∧ xs.length * k.toNat ≤ sizeLine ∧ Q (.lst (List.replicate k.toNat xs).flatten) h
    | none => False
  | _, _ => False
section
variable {X : Cx}
theorem Rel.lstOf {K mg G F m h H v d} {xs : List D} (R : Rel K mg G F m h H) (r : Rp K mg F m v d) (e : DL.lstOf d h = some xs) : ∃ a vs, v = .ref a ∧ H a = some (.lst vs) ∧ Rps K mg F m vs xs := by
  cases r with
  | lst s p => cases e; exact ⟨_, _, rfl, R.sf _ _ s, p⟩
  | ref hn =>
    simp only [DL.lstOf] at e
    split at e
    · rename_i n ys q
      cases e
      obtain ⟨a', vs, e1, _, e3, p⟩ := R.lst q
      rw [hn] at e1; cases e1
      exact ⟨_, vs, rfl, e3, p⟩
    · exact nomatch e
  | _ => exact nomatch e
theorem do_int {g : Value → Value → Sem Value} {f : Int → Int → Int} (o : OpR X g (rI0 fun i j => .int (f i j))) : OpDD X g (dInt f) := ⟨_, o, fun G F m h H x y d e QD Q R rx ry q hQ => by
  unfold dInt at q
  split at q
  · cases rx; cases ry; exact ⟨_, _, rfl, rfl, hQ _ _ ⟨F, m, h, _, WLe.refl, R, .int _, q⟩⟩
  · exact q.elim⟩
theorem do_intB {g : Value → Value → Sem Value} {f : Int → Int → Bool} (o : OpR X g (rI0 fun i j => .bl (f i j))) : OpDD X g (dIntB f) := ⟨_, o, fun G F m h H x y d e QD Q R rx ry q hQ => by
  unfold dIntB at q
  split at q
  · cases rx; cases ry; exact ⟨_, _, rfl, rfl, hQ _ _ ⟨F, m, h, _, WLe.refl, R, .bl _, q⟩⟩
  · exact q.elim⟩
theorem do_intC {g : Value → Value → Sem Value} {C : Int → Int → Prop} {f : Int → Int → Int} (o : OpR X g (rI C fun i j => .int (f i j))) : OpDD X g (dIntC C f) := ⟨_, o, fun G F m h H x y d e QD Q R rx ry q hQ => by
  unfold dIntC at q
  split at q
  · cases rx; cases ry; exact ⟨_, _, rfl, rfl, q.1, hQ _ _ ⟨F, m, h, _, WLe.refl, R, .int _, q.2⟩⟩
  · exact q.elim⟩
theorem do_sub : OpDD X (binaryOp .Sub) dSub := do_int op_sub
theorem do_fdiv : OpDD X (binaryOp .FloorDiv) dFdiv := do_intC op_fdivN
theorem do_mod : OpDD X (binaryOp .Mod) dMod := do_intC op_modN
theorem do_pow : OpDD X (binaryOp .Pow) dPow := do_intC op_pow
theorem do_and : OpDD X (binaryOp .BitAnd) dAnd := do_int op_and
theorem do_or : OpDD X (binaryOp .BitOr) dOr := do_int op_or
theorem do_lt : OpDD X (compareOp .Lt) dLt := do_intB op_lt
theorem do_le : OpDD X (compareOp .LtE) dLe := do_intB op_le
theorem do_gt : OpDD X (compareOp .Gt) dGt := do_intB op_gt
theorem do_ge : OpDD X (compareOp .GtE) dGe := do_intB op_ge
end
end DL
end

section
set_option maxRecDepth 100000
set_option maxHeartbeats 4000000
namespace DL
open PySem PySem.Spec L2
section
variable {X : Cx}
theorem OpDD.of {g : Value → Value → Sem Value} {f : F2} (r : R2) (o : OpR X g r) (h : OpD X r f) : OpDD X g f := ⟨r, o, h⟩
theorem do_add : OpDD X (binaryOp .Add) dAdd := by
  refine .of _ (OpR.or (op_add (X := X)) (OpR.or op_add_str (OpR.or op_catA op_cat))) fun G F m h H x y d e QD Q R rx ry q hQ => ?_
  unfold dAdd at q
  split at q
  · cases rx; cases ry; exact .inl ⟨_, _, rfl, rfl, hQ _ _ ⟨F, m, h, _, WLe.refl, R, .int _, q⟩⟩
  · cases rx; cases ry; exact .inr (.inl ⟨_, _, rfl, rfl, q.1, hQ _ _ ⟨F, m, h, _, WLe.refl, R, .str _, q.2⟩⟩)
  · refine .inr (.inr (.inl ?_))
    cases rx with
    | tup s1 p1 =>
      cases ry with
      | tup s2 p2 =>
        have l1 := Paired.len p1
        have l2 := Paired.len p2
        refine ⟨_, _, _, _, rfl, rfl, sqT_mono R.sf s1, sqT_mono R.sf s2, by rw [l1, l2]; exact q.1, fun e => ?_, fun _ e => ?_, fun _ _ p hp => ?_⟩
        · subst e
          cases p1
          exact hQ _ _ ⟨F, m, h, _, WLe.refl, R, .tup s2 p2, q.2⟩
        · subst e
          cases p2
          rw [List.append_nil] at q
          exact hQ _ _ ⟨F, m, h, _, WLe.refl, R, .tup s1 p1, q.2⟩
        · obtain ⟨F', le, R', rp⟩ := R.tupN hp (Rps.app p1 p2)
          exact hQ _ _ ⟨F', m, h, _, le, R', rp, q.2⟩
  · split at q
    · rename_i xs ys e1 e2
      obtain ⟨a, vs, rfl, h1, p1⟩ := R.lstOf rx e1
      obtain ⟨b, ws, rfl, h2, p2⟩ := R.lstOf ry e2
      refine .inr (.inr (.inr ⟨_, _, _, _, rfl, rfl, h1, h2, by rw [Paired.len p1, Paired.len p2]; exact q.1, fun p hp => ?_⟩))
      obtain ⟨F', le, R', rp⟩ := R.lstN hp (Rps.app p1 p2)
      exact hQ _ _ ⟨F', m, h, _, le, R', rp, q.2⟩
    · exact q.elim
theorem do_mul : OpDD X (binaryOp .Mult) dMul := by
  refine .of _ (OpR.or (op_mul (X := X)) op_rep) fun G F m h H x y d e QD Q R rx ry q hQ => ?_
  unfold dMul at q
  split at q
  · cases rx; cases ry; exact .inl ⟨_, _, rfl, rfl, q.1, hQ _ _ ⟨F, m, h, _, WLe.refl, R, .int _, q.2⟩⟩
  · split at q
    · rename_i xs e1
      obtain ⟨a, vs, rfl, h1, p1⟩ := R.lstOf rx e1
      cases ry
      refine .inr ⟨_, _, _, rfl, rfl, h1, by omega, by omega, by rw [Paired.len p1]; exact q.2.2.1, fun p hp => ?_⟩
      obtain ⟨F', le, R', rp⟩ := R.lstN hp (Rps.rep p1 _)
      exact hQ _ _ ⟨F', m, h, _, le, R', rp, q.2.2.2⟩
    · exact q.elim
  · exact q.elim
end
/-! ## == of data -/
mutual
def pyOf : D → Option PyData
  | .non => some .none
  | .bl b => some (.bool b)
  | .int i => some (.int i)
  | .str x => some (.str x)
  | .tup xs => (pysOf xs).map .tuple
  | .lst xs => (pysOf xs).map .list
  | _ => none
def pysOf : List D → Option (List PyData)
  | [] => some []
  | x :: r => (pyOf x).bind fun a => (pysOf r).map fun b => a :: b
end
def pyTop (h : DH) (d : D) : Option PyData := match d with
  | .ref n => match h[n]? with
    | some (.lst xs) => (pysOf xs).map .list
    | _ => none
  | d => pyOf d
def dEq : F2 := fun x y h Q => match pyTop h x, pyTop h y with
  | some a, some b => SeqAt.shaped a = true ∧ SeqAt.shaped b = true ∧ Q (.bl (PyData.eqv a b)) h
  | _, _ => False
def dNe : F2 := fun x y h Q => match pyTop h x, pyTop h y with
  | some a, some b => SeqAt.shaped a = true ∧ SeqAt.shaped b = true ∧ Q (.bl (!PyData.eqv a b)) h
  | _, _ => False
section
variable {K : PySem.W.Frag} {mg : Str → Option Value} {G F : Hp} {m : List Addr} {h : DH} {H : Hp}
mutual
theorem Rp.dp (sf : Same F H) : ∀ {v : V} {d : D} {p : PyData}, Rp K mg F m v d → pyOf d = some p → Dp K H v p
  | _, _, _, .non, e => by simp only [pyOf] at e; cases e; exact .non
  | _, _, _, .bl _, e => by simp only [pyOf] at e; cases e; exact .bl _
  | _, _, _, .int _, e => by simp only [pyOf] at e; cases e; exact .int _
  | _, _, _, .str _, e => by simp only [pyOf] at e; cases e; exact .str _
  | _, .tup ds, _, .tup s r, e => by
    simp only [pyOf, Option.map_eq_some_iff] at e
    obtain ⟨ps, e1, rfl⟩ := e
    exact .tup (sqT_mono sf s) (Rps.dp sf r e1)
  | _, .lst ds, _, .lst s r, e => by
    simp only [pyOf, Option.map_eq_some_iff] at e
    obtain ⟨ps, e1, rfl⟩ := e
    exact .lst (.inl (.inl (sf _ _ s))) (Rps.dp sf r e1)
  | _, _, _, .ty _, e => by simp only [pyOf] at e; cases e
  | _, _, _, .scr _ _, e => by simp only [pyOf] at e; cases e
  | _, _, _, .dic _ _ _, e => by simp only [pyOf] at e; cases e
  | _, _, _, .obj _ _ _ _, e => by simp only [pyOf] at e; cases e
  | _, _, _, .ref _, e => by simp only [pyOf] at e; cases e
  | _, _, _, .glb _, e => by simp only [pyOf] at e; cases e
  | _, _, _, .exc0 _, e => by simp only [pyOf] at e; cases e
  | _, _, _, .exc1 _ _ _ _, e => by simp only [pyOf] at e; cases e
theorem Rps.dp (sf : Same F H) : ∀ {vs : List V} {ds : List D} {ps : List PyData}, Paired (Rp K mg F m) vs ds → pysOf ds = some ps → DpAll K H vs ps
  | _, _, _, .nil, e => by simp only [pysOf] at e; cases e; exact .nil
  | _, _ :: _, _, .cons p r, e => by
    simp only [pysOf, Option.bind_eq_some_iff, Option.map_eq_some_iff] at e
    obtain ⟨a, e1, b, e2, rfl⟩ := e
    exact .cons (Rp.dp sf p e1) (Rps.dp sf r e2)
end
theorem Rel.dp {v : V} {d : D} {p : PyData} (R : Rel K mg G F m h H) (r : Rp K mg F m v d) (e : pyTop h d = some p) : Dp K H v p := by
  unfold pyTop at e
  split at e
  · rename_i n
    split at e
    · rename_i xs q
      cases r with
      | ref hn =>
        obtain ⟨a', vs, e1, _, e3, p⟩ := R.lst q
        rw [hn] at e1; cases e1
        rw [Option.map_eq_some_iff] at e
        obtain ⟨ps, e1, rfl⟩ := e
        exact .lst (.inl (.inl e3)) (Rps.dp R.sf p e1)
    · cases e
  · exact Rp.dp R.sf r e
end
section
variable {X : Cx}
theorem do_eq (hu : X.A.units + 64 < cLine) : OpDD X (compareOp .Eq) dEq := .of _ (op_eqD hu) fun G F m h H x y d e QD Q R rx ry q hQ => by
  unfold dEq at q
  split at q
  · rename_i a b e1 e2
    exact ⟨a, b, R.dp rx e1, R.dp ry e2, q.1, q.2.1, hQ _ _ ⟨F, m, h, _, WLe.refl, R, .bl _, q.2.2⟩⟩
  · exact q.elim
theorem do_ne (hu : X.A.units + 64 < cLine) : OpDD X (compareOp .NotEq) dNe := .of _ (op_neD hu) fun G F m h H x y d e QD Q R rx ry q hQ => by
  unfold dNe at q
  split at q
  · rename_i a b e1 e2
    exact ⟨a, b, R.dp rx e1, R.dp ry e2, q.1, q.2.1, hQ _ _ ⟨F, m, h, _, WLe.refl, R, .bl _, q.2.2⟩⟩
  · exact q.elim
end
/-! ## is -/
def isNon : D → Bool
  | .non => true
  | _ => false
def dIs (neg : Bool) : F2 := fun x y h Q => match y with
  | .non => Q (.bl (if neg then !isNon x else isNon x)) h
  | .bl b => match x with
    | .bl a => Q (.bl (if neg then !decide (a = b) else decide (a = b))) h
    | _ => False
  | _ => False
section
variable {X : Cx}
theorem Rp.isNon {K mg} {F : Hp} {m : List Addr} {v : V} {d : D} (r : Rp K mg F m v d) : decide (v = .non) = DL.isNon d := by
  cases r <;> first | rfl | exact decide_eq_false (fun q => nomatch q)
theorem do_is : OpDD X (compareOp .Is) (dIs false) := .of _ (OpR.or op_isN op_isBl) fun G F m h H x y d e QD Q R rx ry q hQ => by
  unfold dIs at q
  split at q
  · cases ry
    refine .inl ⟨rfl, ?_⟩
    rw [rx.isNon]
    exact hQ _ _ ⟨F, m, h, _, WLe.refl, R, .bl _, q⟩
  · split at q
    · cases rx; cases ry; exact .inr ⟨_, _, rfl, rfl, hQ _ _ ⟨F, m, h, _, WLe.refl, R, .bl _, q⟩⟩
    · exact q.elim
  · exact q.elim
theorem do_isnot : OpDD X (compareOp .IsNot) (dIs true) := .of _ (OpR.or op_notN op_notBl) fun G F m h H x y d e QD Q R rx ry q hQ => by
  unfold dIs at q
  split at q
  · cases ry
    refine .inl ⟨rfl, ?_⟩
    rw [rx.isNon]
    exact hQ _ _ ⟨F, m, h, _, WLe.refl, R, .bl _, q⟩
  · split at q
    · cases rx; cases ry; exact .inr ⟨_, _, rfl, rfl, hQ _ _ ⟨F, m, h, _, WLe.refl, R, .bl _, q⟩⟩
    · exact q.elim
  · exact q.elim
end
/-! ## in -/
def flatD : D → Bool
  | .non => true
  | .bl _ => true
  | .int _ => true
  | .str _ => true
  | _ => false
def eqF : D → D → Bool
  | .non, .non => true
  | .bl a, .bl b => a == b
  | .bl a, .int b => (if a then 1 else 0) == b
  | .int a, .bl b => a == (if b then 1 else 0)
  | .int a, .int b => a == b
  | .str a, .str b => a == b
  | _, _ => false
def toKey : D → Option Key
  | .int i => some (.inl i)
  | .str x => some (.inr x)
  | _ => none
def dkOf (d : D) (h : DH) : Option (List Key × List D) := match d with
  | .dic ks xs => some (ks, xs)
  | .ref n => match h[n]? with
    | some (.dk ks xs) => some (ks, xs)
    | _ => none
  | _ => none
/-- what a dict holds -/
def dget {κ : Type} [DecidableEq κ] : List κ → List D → κ → Option D
  | k :: ks, x :: xs, j => if k = j then some x else dget ks xs j
  | _, _, _ => none
def hasK {κ : Type} [DecidableEq κ] (ks : List κ) (k : κ) : Bool := ks.any fun j => decide (j = k)
theorem hasK_iff {κ : Type} [DecidableEq κ] {ks : List κ} {k : κ} : hasK ks k = true ↔ k ∈ ks := by
  unfold hasK
  rw [List.any_eq_true]
  exact ⟨fun ⟨x, a, b⟩ => (of_decide_eq_true b) ▸ a, fun q => ⟨k, q, decide_eq_true rfl⟩⟩
def dIn (neg : Bool) : F2 := fun x y h Q => match itemsOf y h with
  | some xs => flatD x = true ∧ xs.all flatD = true ∧ Q (.bl (if neg then !xs.any fun z => eqF z x else xs.any fun z => eqF z x)) h
  | none => match dkOf y h, toKey x with
    | some (ks, _), some k => Q (.bl (if neg then !hasK ks k else hasK ks k)) h
    | _, _ => match x, y with
      | .str i, .str j => Q (.bl (if neg then (Builtin.Str.occurrences j i 0 j.length 1).isEmpty else !(Builtin.Str.occurrences j i 0 j.length 1).isEmpty)) h
      | _, _ => False
section
variable {K : PySem.W.Frag} {mg : Str → Option Value} {G F : Hp} {m : List Addr} {h : DH} {H : Hp}
theorem Rp.flat {v : V} {d : D} (r : Rp K mg F m v d) : flatV v = flatD d := by cases r <;> rfl
theorem Rps.flat : ∀ {vs : List V} {ds : List D}, Rps K mg F m vs ds → vs.all flatV = ds.all flatD
  | _, _, .nil => rfl
  | _, _, .cons p r => by rw [List.all_cons, List.all_cons, p.flat, Rps.flat r]
theorem Rp.eqF {v w : V} {d e : D} (r : Rp K mg F m v d) (s : Rp K mg F m w e) : eqV v w = DL.eqF d e := by
  cases r <;> cases s <;> rfl
theorem Rps.inV {v : V} {d : D} (s : Rp K mg F m v d) : ∀ {vs : List V} {ds : List D}, Rps K mg F m vs ds → inV v vs = ds.any fun z => DL.eqF z d
  | _, _, .nil => rfl
  | _, _, .cons p r => by
    have := Rps.inV s r
    unfold L2.inV at this ⊢
    rw [List.any_cons, List.any_cons, p.eqF s, this]
theorem Rp.key {v : V} {d : D} {k : Key} (r : Rp K mg F m v d) (e : toKey d = some k) : v = kV k := by
  cases r <;> first | (cases e; rfl) | cases e
theorem valV_zip {κ : Type} [DecidableEq κ] : ∀ {ks : List κ} {vs : List V} {ds : List D} (k : κ), ks.length = vs.length → Rps K mg F m vs ds →
    (k ∈ ks → ∃ v d, valV (ks.zip vs) k = some v ∧ dget ks ds k = some d ∧ Rp K mg F m v d) ∧ (k ∉ ks → valV (ks.zip vs) k = none ∧ dget ks ds k = none)
  | [], [], _, k, _, .nil => ⟨fun q => (by cases q), fun _ => ⟨rfl, rfl⟩⟩
  | j :: ks, v :: vs, _, k, e, .cons (b := d) (l₂ := ds) p r => by
    have ih := valV_zip (ks := ks) k (by simpa using e) r
    by_cases hk : j = k
    · subst hk
      refine ⟨fun _ => ⟨v, d, ?_, ?_, p⟩, fun q => absurd List.mem_cons_self q⟩
      · simp [valV]
      · simp [dget]
    · have hv : valV ((j, v) :: ks.zip vs) k = valV (ks.zip vs) k := by simp [valV, hk]
      have hd : dget (j :: ks) (d :: ds) k = dget ks ds k := by simp [dget, hk]
      have e1 : (j :: ks).zip (v :: vs) = (j, v) :: ks.zip vs := rfl
      rw [e1, hv, hd]
      refine ⟨fun q => ih.1 ((List.mem_cons.mp q).resolve_left (Ne.symm hk)), fun q => ih.2 (fun z => q (List.mem_cons_of_mem _ z))⟩
theorem Rel.dk (R : Rel K mg G F m h H) {v : V} {d : D} {ks : List Key} {xs : List D} (r : Rp K mg F m v d) (e : dkOf d h = some (ks, xs)) : ∃ a vs, v = .ref a ∧ H a = some (.dK (ks.zip vs)) ∧ ks.length = vs.length ∧ Rps K mg F m vs xs := by
  cases r with
  | dic a b c => cases e; exact ⟨_, _, rfl, R.sf _ _ b, a, c⟩
  | ref hn =>
    simp only [dkOf] at e
    split at e
    · rename_i n ks' ys q
      cases e
      obtain ⟨a, e1, e2, r⟩ := R.lv _ _ q (fun q => nomatch q)
      rw [hn] at e1; cases e1
      generalize z : H _ = o at r
      cases r with
      | dk a b => exact ⟨_, _, rfl, z, a, b⟩
    · cases e
  | _ => cases e
end
section
variable {X : Cx}
theorem op_in_dict (hu : X.A.units + 1 < cLine) : OpR X (compareOp .In) (fun x y H Q => ∃ a o, y = .ref a ∧ DGet H a x o ∧ Q (.bl o.isSome) H) := fun pins s σ H x y v u Q I rx ry ⟨a, o, e, g, q⟩ => by
  subst e
  cases (show u = Value.ref a from ry)
  exact d_in hu I g rx fun s' I' => ⟨.bl o.isSome, H, I', rfl, q⟩
theorem op_notin_dict (hu : X.A.units + 1 < cLine) : OpR X (compareOp .NotIn) (fun x y H Q => ∃ a o, y = .ref a ∧ DGet H a x o ∧ Q (.bl (!o.isSome)) H) := fun pins s σ H x y v u Q I rx ry ⟨a, o, e, g, q⟩ => by
  subst e
  cases (show u = Value.ref a from ry)
  exact d_notIn hu I g rx fun s' I' => ⟨.bl (!o.isSome), H, I', rfl, q⟩
theorem isSome_dget {K mg} {F : Hp} {m : List Addr} {ks : List Key} {vs : List V} {ds : List D} (k : Key) (e : ks.length = vs.length) (r : Rps K mg F m vs ds) : (valV (ks.zip vs) k).isSome = hasK ks k := by
  obtain ⟨h1, h2⟩ := valV_zip (K := K) (mg := mg) (F := F) (m := m) k e r
  by_cases hk : k ∈ ks
  · obtain ⟨v, d, e1, _⟩ := h1 hk
    rw [e1, hasK_iff.mpr hk]; rfl
  · rw [(h2 hk).1, Bool.eq_false_iff.mpr (fun q => hk (hasK_iff.mp q))]; rfl
theorem do_in (hu : X.A.units + 64 < cLine) : OpDD X (compareOp .In) (dIn false) := .of _ (OpR.or op_in_seq (OpR.or (op_in_dict (by omega)) op_in_str)) fun G F m h H x y d e QD Q R rx ry q hQ => by
  unfold dIn at q
  split at q
  · rename_i xs e1
    obtain ⟨a, vs, rfl, hs, p⟩ := R.items ry e1
    refine .inl ⟨a, vs, rfl, hs, by rw [rx.flat]; exact q.1, by rw [Rps.flat p]; exact q.2.1, ?_⟩
    show Q (.bl (L2.inV x vs)) H
    rw [Rps.inV rx p]
    exact hQ _ _ ⟨F, m, h, _, WLe.refl, R, .bl _, q.2.2⟩
  · split at q
    · rename_i ks xs k e1 e2
      obtain ⟨a, vs, rfl, hs, el, p⟩ := R.dk ry e1
      refine .inr (.inl ⟨a, _, rfl, .inl ⟨_, k, .inl hs, rx.key e2, rfl⟩, ?_⟩)
      rw [isSome_dget k el p]
      exact hQ _ _ ⟨F, m, h, _, WLe.refl, R, .bl _, q⟩
    · split at q
      · cases rx; cases ry; exact .inr (.inr ⟨_, _, rfl, rfl, hQ _ _ ⟨F, m, h, _, WLe.refl, R, .bl _, q⟩⟩)
      · exact q.elim
theorem do_notin (hu : X.A.units + 64 < cLine) : OpDD X (compareOp .NotIn) (dIn true) := .of _ (OpR.or op_notIn_seq (OpR.or (op_notin_dict (by omega)) op_notin_str)) fun G F m h H x y d e QD Q R rx ry q hQ => by
  unfold dIn at q
  split at q
  · rename_i xs e1
    obtain ⟨a, vs, rfl, hs, p⟩ := R.items ry e1
    refine .inl ⟨a, vs, rfl, hs, by rw [rx.flat]; exact q.1, by rw [Rps.flat p]; exact q.2.1, ?_⟩
    show Q (.bl (!L2.inV x vs)) H
    rw [Rps.inV rx p]
    exact hQ _ _ ⟨F, m, h, _, WLe.refl, R, .bl _, q.2.2⟩
  · split at q
    · rename_i ks xs k e1 e2
      obtain ⟨a, vs, rfl, hs, el, p⟩ := R.dk ry e1
      refine .inr (.inl ⟨a, _, rfl, .inl ⟨_, k, .inl hs, rx.key e2, rfl⟩, ?_⟩)
      rw [isSome_dget k el p]
      exact hQ _ _ ⟨F, m, h, _, WLe.refl, R, .bl _, q⟩
    · split at q
      · cases rx; cases ry
        refine .inr (.inr ⟨_, _, rfl, rfl, hQ _ _ ⟨F, m, h, _, WLe.refl, R, .bl _, ?_⟩⟩)
        rw [Bool.not_not]; exact q
      · exact q.elim
end
end DL
end

section
set_option maxRecDepth 100000
set_option maxHeartbeats 4000000
namespace DL
open PySem PySem.Spec L2
/-! ## tests -/
def tTst (t : TED) : TTD := fun sd h Q E => t sd h (fun d h' => match d with | .bl b => Q b h' | _ => False) E
def tNotD (t : TTD) : TTD := fun sd h Q E => t sd h (fun b h' => Q (!b) h') E
def tAndD (t u : TTD) : TTD := fun sd h Q E => t sd h (fun b h' => if b = true then u sd h' Q E else Q false h') E
def tOrD (t u : TTD) : TTD := fun sd h Q E => t sd h (fun b h' => if b = true then Q true h' else u sd h' Q E) E
def eNotV (t : TED) : TED := fun sd h Q E => t sd h (fun d h' => match d with | .bl b => Q (.bl (!b)) h' | _ => False) E
def eAndV (t u : TED) : TED := fun sd h Q E => t sd h (fun d h' => match d with | .bl true => u sd h' Q E | .bl false => Q (.bl false) h' | _ => False) E
def eOrV (t u : TED) : TED := fun sd h Q E => t sd h (fun d h' => match d with | .bl true => Q (.bl true) h' | .bl false => u sd h' Q E | _ => False) E
def eIf (c : TTD) (t u : TED) : TED := fun sd h Q E => c sd h (fun b h' => if b = true then t sd h' Q E else u sd h' Q E) E
section
variable {X : Cx} {W : WX} {a b c : Expr} {rest : List Expr} {ta tb tc : TED} {tA tB : TTD} {pos : Pos}
theorem QV.bl {K mg} {G F : Hp} {m : List Addr} {Q : Bool → DH → Prop} {v : V} {H : Hp} (q : QV K mg G F m (fun d h' => match d with | .bl b => Q b h' | _ => False) v H) : ∃ k, v = .bl k ∧ QB K mg G F m Q k H := by
  obtain ⟨F', m', h', d, le, R, rp, q⟩ := q
  cases rp with
  | bl k => exact ⟨k, rfl, F', m', h', le, R, q⟩
  | _ => exact q.elim
theorem dt_val (h : DE X W a ta) (he : ∀ whole, isTrue a X.env whole = (do let v ← whole; standAt a.pos; holding [v] (truthy v)) := by intro _; rfl) : DT X W a (tTst ta) :=
  PT.imp (pt_val h he) fun σ H Q ⟨G, F, m, sd, h, QD, E, at_, t, hQ⟩ => ⟨G, F, m, sd, h, _, E, at_, t, fun v H' q => by
    obtain ⟨k, rfl, z⟩ := q.bl
    exact ⟨k, rfl, hQ _ _ z⟩⟩
theorem dt_not (h : DT X W a tA) : DT X W (.UnaryOp .Not a pos) (tNotD tA) :=
  PT.imp (pt_not h) fun σ H Q ⟨G, F, m, sd, h, QD, E, at_, t, hQ⟩ => LT.step at_ t fun F' m' h' H' b le a' q => hQ _ _ ⟨F', m', h', le, a'.R, q⟩
theorem dw_and1 (h : DT X W a tA) : DW X W (.BoolOp .And [a] pos) tA := pw_and1 h
theorem dw_or1 (h : DT X W a tA) : DW X W (.BoolOp .Or [a] pos) tA := pw_or1 h
theorem dw_and (ha : DT X W a tA) (hb : DW X W (.BoolOp .And (b :: rest) pos) tB) : DW X W (.BoolOp .And (a :: b :: rest) pos) (tAndD tA tB) :=
  PW.imp (pw_and ha hb) fun σ H Q ⟨G, F, m, sd, h, QD, E, at_, t, hQ⟩ => LT.step at_ t fun F' m' h' H' b le a' q => by
    cases b with
    | true => rw [if_pos rfl] at q ⊢; exact ⟨G, F', m', sd, h', QD, E, a', q, fun v H'' z => hQ _ _ (z.mono le)⟩
    | false => rw [if_neg Bool.false_ne_true] at q ⊢; exact hQ _ _ ⟨F', m', h', le, a'.R, q⟩
theorem dw_or (ha : DT X W a tA) (hb : DW X W (.BoolOp .Or (b :: rest) pos) tB) : DW X W (.BoolOp .Or (a :: b :: rest) pos) (tOrD tA tB) :=
  PW.imp (pw_or ha hb) fun σ H Q ⟨G, F, m, sd, h, QD, E, at_, t, hQ⟩ => LT.step at_ t fun F' m' h' H' b le a' q => by
    cases b with
    | true => rw [if_pos rfl] at q ⊢; exact hQ _ _ ⟨F', m', h', le, a'.R, q⟩
    | false => rw [if_neg Bool.false_ne_true] at q ⊢; exact ⟨G, F', m', sd, h', QD, E, a', q, fun v H'' z => hQ _ _ (z.mono le)⟩
theorem dt_w (h : DW X W a tA) : DT X W a tA := PW.pt h
theorem de_not (h : DE X W a ta) : DE X W (.UnaryOp .Not a pos) (eNotV ta) :=
  PE.imp (pe_not h) fun σ H Q ⟨G, F, m, sd, h, QD, E, at_, t, hQ⟩ => LE.step at_ t fun F' m' h' H' v d le a' rp q => by
    cases rp with
    | bl k => exact ⟨k, rfl, hQ _ _ ⟨F', m', h', _, le, a'.R, .bl _, q⟩⟩
    | _ => exact q.elim
theorem de_one {op : BoolOp} (h : DE X W a ta) : DE X W (.BoolOp op [a] pos) ta := pe_one h
theorem de_and (ha : DE X W a ta) (hb : DE X W (.BoolOp .And (b :: rest) pos) tb) : DE X W (.BoolOp .And (a :: b :: rest) pos) (eAndV ta tb) :=
  PE.imp (pe_and ha hb) fun σ H Q ⟨G, F, m, sd, h, QD, E, at_, t, hQ⟩ => LE.step at_ t fun F' m' h' H' v d le a' rp q => by
    cases rp with
    | bl k =>
      refine ⟨k, rfl, ?_⟩
      cases k with
      | true => rw [if_pos rfl]; exact ⟨G, F', m', sd, h', QD, E, a', q, fun v H'' z => hQ _ _ (z.mono le)⟩
      | false => rw [if_neg Bool.false_ne_true]; exact hQ _ _ ⟨F', m', h', _, le, a'.R, .bl _, q⟩
    | _ => exact q.elim
theorem de_or (ha : DE X W a ta) (hb : DE X W (.BoolOp .Or (b :: rest) pos) tb) : DE X W (.BoolOp .Or (a :: b :: rest) pos) (eOrV ta tb) :=
  PE.imp (pe_or ha hb) fun σ H Q ⟨G, F, m, sd, h, QD, E, at_, t, hQ⟩ => LE.step at_ t fun F' m' h' H' v d le a' rp q => by
    cases rp with
    | bl k =>
      refine ⟨k, rfl, ?_⟩
      cases k with
      | true => rw [if_pos rfl]; exact hQ _ _ ⟨F', m', h', _, le, a'.R, .bl _, q⟩
      | false => rw [if_neg Bool.false_ne_true]; exact ⟨G, F', m', sd, h', QD, E, a', q, fun v H'' z => hQ _ _ (z.mono le)⟩
    | _ => exact q.elim
theorem de_if (hc : DT X W c tA) (ha : DE X W a ta) (hb : DE X W b tb) : DE X W (.IfExp c a b pos) (eIf tA ta tb) :=
  PE.imp (pe_ifExp hc ha hb) fun σ H Q ⟨G, F, m, sd, h, QD, E, at_, t, hQ⟩ => LT.step at_ t fun F' m' h' H' b le a' q => by
    cases b with
    | true => rw [if_pos rfl] at q ⊢; exact ⟨G, F', m', sd, h', QD, E, a', q, fun v H'' z => hQ _ _ (z.mono le)⟩
    | false => rw [if_neg Bool.false_ne_true] at q ⊢; exact ⟨G, F', m', sd, h', QD, E, a', q, fun v H'' z => hQ _ _ (z.mono le)⟩
end
/-! ## argument lists, displays -/
def eNil : TAD := fun _ h Q _ => Q [] h
def eCons (t : TED) (u : TAD) : TAD := fun sd h Q E => t sd h (fun d h1 => u sd h1 (fun ds h2 => Q (d :: ds) h2) E) E
def eTup (t : TAD) : TED := fun sd h Q E => t sd h (fun ds h1 => Q (.tup ds) h1) E
/-- a list that is never changed; one that is -/
def eLst (t : TAD) : TED := fun sd h Q E => t sd h (fun ds h1 => Q (.lst ds) h1) E
def eRef (t : TAD) : TED := fun sd h Q E => t sd h (fun ds h1 => Q (.ref h1.length) (h1 ++ [.lst ds])) E
/-- a list of the small heap is never changed from now on -/
def eFrz (t : TED) : TED := fun sd h Q E => t sd h (fun d h1 => match d with
  | .ref n => match h1[n]? with
    | some (.lst xs) => Q (.lst xs) (h1.set n .dead)
    | _ => False
  | _ => False) E
section
variable {X : Cx} {W : WX} {e : Expr} {es : List Expr} {te : TED} {t : TAD} {pos : Pos}
theorem da_nil : DA X W [] eNil := PA.imp pa_nil fun σ H Q ⟨G, F, m, sd, h, QD, E, at_, t, hQ⟩ => hQ _ _ rfl ⟨F, m, h, [], WLe.refl, at_.R, .nil, t⟩
theorem da_cons (ha : DE X W e te) (hr : DA X W es t) (hs : starEach (e :: es) X.env = (false, eval e X.env) :: starEach es X.env := by rfl) : DA X W (e :: es) (eCons te t) :=
  PA.imp (pa_cons ha hr hs) fun σ H Q ⟨G, F, m, sd, h, QD, E, at_, t, hQ⟩ => LE.step at_ t fun F1 m1 h1 H1 v d le1 a1 rp t1 => LA.step a1 t1 fun F2 m2 h2 H2 vs ds hn le2 a2 rps q =>
    hQ _ _ (by rw [List.length_cons, List.length_cons, hn]) ⟨F2, m2, h2, _, le1.trans le2, a2.R, .cons (rp.mono le2) rps, q⟩
theorem de_tup {x1} (h : DA X W es t) (hl : es.length ≤ 1000 := by show _ ≤ _; decide) : DE X W (.Tuple es x1 pos) (eTup t) :=
  PE.imp (pe_tup h) fun σ H Q ⟨G, F, m, sd, h, QD, E, at_, t, hQ⟩ => LA.step at_ t fun F1 m1 h1 H1 vs ds hn le1 a1 rp t1 => by
    refine ⟨by rw [hn]; exact Nat.le_trans hl (by decide), fun p hp => ?_⟩
    obtain ⟨F', le, R', rq⟩ := a1.R.tupN hp rp
    exact hQ _ _ ⟨F', m1, h1, _, le1.trans le, R', rq, t1⟩
theorem de_lst (h : DA X W es t) (hl : es.length ≤ 1000 := by show _ ≤ _; decide) : DE X W (.List es pos) (eLst t) :=
  PE.imp (pe_lst h) fun σ H Q ⟨G, F, m, sd, h, QD, E, at_, t, hQ⟩ => LA.step at_ t fun F1 m1 h1 H1 vs ds hn le1 a1 rp t1 => by
    refine ⟨by rw [hn]; exact Nat.le_trans hl (by decide), fun p hp => ?_⟩
    obtain ⟨F', le, R', rq⟩ := a1.R.lstN hp rp
    exact hQ _ _ ⟨F', m1, h1, _, le1.trans le, R', rq, t1⟩
theorem de_ref (h : DA X W es t) (hl : es.length ≤ 1000 := by show _ ≤ _; decide) : DE X W (.List es pos) (eRef t) :=
  PE.imp (pe_lst h) fun σ H Q ⟨G, F, m, sd, h, QD, E, at_, t, hQ⟩ => LA.step at_ t fun F1 m1 h1 H1 vs ds hn le1 a1 rp t1 => by
    refine ⟨by rw [hn]; exact Nat.le_trans hl (by decide), fun p hp => ?_⟩
    obtain ⟨m', le, R', rq⟩ := a1.R.refN hp rp
    exact hQ _ _ ⟨F1, m', _, _, le1.trans le, R', rq, t1⟩
theorem de_frz (h : DE X W e te) : DE X W e (eFrz te) :=
  PE.imp h fun σ H Q ⟨G, F, m, sd, h, QD, E, at_, t, hQ⟩ => LE.step at_ t fun F1 m1 h1 H1 v d le1 a1 rp t1 => by
    split at t1
    · split at t1
      · rename_i n xs hn
        obtain ⟨a, vs, e1, rps, le, R', rq⟩ := a1.R.freeze hn
        cases rp with
        | ref hm =>
          rw [e1] at hm; cases hm
          exact hQ _ _ ⟨_, m1, _, _, le1.trans le, R', rq, t1⟩
      · exact t1.elim
    · exact t1.elim
end
/-! ## calls of built-in functions -/
def eCall (f : List D → DH → VD → Prop) (t : TAD) : TED := fun sd h Q E => t sd h (fun ds h1 => f ds h1 Q) E
abbrev FC := List D → DH → VD → Prop
section
variable (X : Cx)
def CallDD (fv : Value) (f : FC) : Prop := ∃ r, CallR X fv r ∧ ∀ (G F : Hp) (m : List Addr) (h : DH) (H : Hp) (vs : List V) (ds : List D) (QD : VD) (Q : VK), Rel X.K X.mg G F m h H → Rps X.K X.mg F m vs ds → f ds h QD → (∀ v H', QV X.K X.mg G F m QD v H' → Q v H') → r vs H Q
end
section
variable {X : Cx} {W : WX} {e : Expr} {es : List Expr} {t : TAD} {p pos : Pos} {x : Str} {id : String} {f : FC}
theorem de_callB (hc : CallDD X (.builtin id) f) (hg : Gl X x) (hm : X.mg x = none) (hv : bootBuiltins x = some (.builtin id)) (ha : DA X W (e :: es) t) (hn : x ≠ "__name__" := by decide) (hdb : (x == ("__debug__" : Str)) = false := by decide)
    (he : starEach (e :: es) X.env = (false, eval e X.env) :: starEach es X.env := by rfl) (hpl : (backTo pos (starEach es X.env)).any (·.1) = false := by rfl) : DE X W (.Call (.Name x p) (e :: es) [] pos) (eCall f t) := by
  obtain ⟨r, hr, hf⟩ := hc
  exact PE.imp (pe_callB hr hg hm hv ha hn hdb he hpl) fun σ H Q ⟨G, F, m, sd, h, QD, E, at_, t, hQ⟩ => LA.step at_ t fun F1 m1 h1 H1 vs ds _ le a1 rp t1 => hf _ _ _ _ _ _ _ _ _ a1.R rp t1 fun v H' q => hQ _ _ (q.mono le)
theorem de_callTy (hc : CallDD X (.type id) f) (hg : Gl X x) (hm : X.mg x = none) (hv : bootBuiltins x = some (.type id)) (ha : DA X W (e :: es) t) (hn : x ≠ "__name__" := by decide) (hdb : (x == ("__debug__" : Str)) = false := by decide)
    (he : starEach (e :: es) X.env = (false, eval e X.env) :: starEach es X.env := by rfl) (hpl : (backTo pos (starEach es X.env)).any (·.1) = false := by rfl) : DE X W (.Call (.Name x p) (e :: es) [] pos) (eCall f t) := by
  obtain ⟨r, hr, hf⟩ := hc
  exact PE.imp (pe_callTy hr hg hm hv ha hn hdb he hpl) fun σ H Q ⟨G, F, m, sd, h, QD, E, at_, t, hQ⟩ => LA.step at_ t fun F1 m1 h1 H1 vs ds _ le a1 rp t1 => hf _ _ _ _ _ _ _ _ _ a1.R rp t1 fun v H' q => hQ _ _ (q.mono le)
theorem CallR.or {fv : Value} {r r' : List V → Hp → VK → Prop} (h : CallR X fv r) (h' : CallR X fv r') : CallR X fv (fun xs H Q => r xs H Q ∨ r' xs H Q) := fun pins s σ H xs us Q I rv q => q.elim (h pins s σ H xs us Q I rv) (h' pins s σ H xs us Q I rv)
end
def fLen : FC := fun ds h Q => match ds with
  | [x] => match itemsOf x h with
    | some xs => Q (.int xs.length) h
    | none => match x with
      | .str y => y.length ≤ sizeLine ∧ Q (.int y.length) h
      | _ => False
  | _ => False
def fAbs : FC := fun ds h Q => match ds with
  | [.int i] => Q (.int (if i < 0 then -i else i)) h
  | _ => False
def fInt : FC := fun ds h Q => match ds with
  | [.int i] => Q (.int i) h
  | [.bl b] => Q (.int (if b then 1 else 0)) h
  | _ => False
def fStr : FC := fun ds h Q => match ds with
  | [.int i] => i.natAbs.log2 < 1920 ∧ Q (.str (toString i)) h
  | _ => False
def fMax2 : FC := fun ds h Q => match ds with
  | [.int i, .int j] => Q (.int (if j > i then j else i)) h
  | _ => False
def fMin2 : FC := fun ds h Q => match ds with
  | [.int i, .int j] => Q (.int (if j < i then j else i)) h
  | _ => False
def blsOf : List D → Option (List Bool)
  | [] => some []
  | .bl b :: r => (blsOf r).map fun bs => b :: bs
  | _ :: _ => none
def intsOf : List D → Option (List Int)
  | [] => some []
  | .int b :: r => (intsOf r).map fun bs => b :: bs
  | _ :: _ => none
theorem blsOf_some : ∀ {ds : List D} {bs : List Bool}, blsOf ds = some bs → ds = bs.map D.bl
  | [], _, e => by cases e; rfl
  | d :: r, bs, e => by
    cases d with
    | bl b =>
      simp only [blsOf, Option.map_eq_some_iff] at e
      obtain ⟨bs', e1, rfl⟩ := e
      rw [blsOf_some e1]; rfl
    | _ => simp only [blsOf] at e; cases e
theorem intsOf_some : ∀ {ds : List D} {bs : List Int}, intsOf ds = some bs → ds = bs.map D.int
  | [], _, e => by cases e; rfl
  | d :: r, bs, e => by
    cases d with
    | int b =>
      simp only [intsOf, Option.map_eq_some_iff] at e
      obtain ⟨bs', e1, rfl⟩ := e
      rw [intsOf_some e1]; rfl
    | _ => simp only [intsOf] at e; cases e
theorem blsOf_map : ∀ bs : List Bool, blsOf (bs.map D.bl) = some bs
  | [] => rfl
  | b :: r => by simp [blsOf, blsOf_map r]
theorem intsOf_map : ∀ bs : List Int, intsOf (bs.map D.int) = some bs
  | [] => rfl
  | b :: r => by simp [intsOf, intsOf_map r]
/-- all, any of a list -/
def fAll (f : List Bool → Bool) : FC := fun ds h Q => match ds with
  | [x] => match lstOf x h with
    | some xs => match blsOf xs with
      | some bs => Q (.bl (f bs)) h
      | none => False
    | none => False
  | _ => False
def maxL : List Int → Int
  | [] => 0
  | [a] => a
  | a :: b :: r => max a (maxL (b :: r))
def minL : List Int → Int
  | [] => 0
  | [a] => a
  | a :: b :: r => min a (minL (b :: r))
theorem maxL_spec : ∀ {ns : List Int}, 0 < ns.length → maxL ns ∈ ns ∧ ∀ y ∈ ns, y ≤ maxL ns
  | [], h => by simp at h
  | [a], _ => by simp [maxL]
  | a :: b :: r, _ => by
    have ih := maxL_spec (ns := b :: r) (by simp)
    simp only [maxL]
    constructor
    · rcases Int.le_total a (maxL (b :: r)) with h | h
      · rw [Int.max_eq_right h]; exact List.mem_cons_of_mem _ ih.1
      · rw [Int.max_eq_left h]; exact List.mem_cons_self
    · intro y hy
      rcases List.mem_cons.mp hy with rfl | hy
      · exact Int.le_max_left _ _
      · exact Int.le_trans (ih.2 y hy) (Int.le_max_right _ _)
theorem minL_spec : ∀ {ns : List Int}, 0 < ns.length → minL ns ∈ ns ∧ ∀ y ∈ ns, minL ns ≤ y
  | [], h => by simp at h
  | [a], _ => by simp [minL]
  | a :: b :: r, _ => by
    have ih := minL_spec (ns := b :: r) (by simp)
    simp only [minL]
    constructor
    · rcases Int.le_total a (minL (b :: r)) with h | h
      · rw [Int.min_eq_left h]; exact List.mem_cons_self
      · rw [Int.min_eq_right h]; exact List.mem_cons_of_mem _ ih.1
    · intro y hy
      rcases List.mem_cons.mp hy with rfl | hy
      · exact Int.min_le_left _ _
      · exact Int.le_trans (Int.min_le_right _ _) (ih.2 y hy)
/-- ints of a list -/
def fInts (f : List Int → Int) (C : List Int → Prop) : FC := fun ds h Q => match ds with
  | [x] => match lstOf x h with
    | some xs => match intsOf xs with
      | some ns => C ns ∧ Q (.int (f ns)) h
      | none => False
    | none => False
  | _ => False
/-- the sorted ints -/
def insI (x : Int) : List Int → List Int
  | [] => [x]
  | y :: r => if x ≤ y then x :: y :: r else y :: insI x r
def sortI : List Int → List Int
  | [] => []
  | x :: r => insI x (sortI r)
theorem insI_perm (x : Int) : ∀ l, (insI x l).Perm (x :: l)
  | [] => .refl _
  | y :: r => by
    unfold insI
    split
    · exact .refl _
    · exact ((insI_perm x r).cons y).trans (.swap x y r)
theorem sortI_perm : ∀ l, (sortI l).Perm l
  | [] => .refl _
  | x :: r => (insI_perm x _).trans ((sortI_perm r).cons x)
theorem insI_sorted (x : Int) : ∀ {l : List Int}, l.Pairwise (· ≤ ·) → (insI x l).Pairwise (· ≤ ·)
  | [], _ => by simp [insI]
  | y :: r, h => by
    unfold insI
    rw [List.pairwise_cons] at h
    split
    · rename_i hxy
      rw [List.pairwise_cons, List.pairwise_cons]
      exact ⟨fun z hz => (List.mem_cons.mp hz).elim (fun e => e ▸ hxy) fun hz => Int.le_trans hxy (h.1 z hz), h⟩
    · rename_i hxy
      rw [List.pairwise_cons]
      refine ⟨fun z hz => ?_, insI_sorted x h.2⟩
      rcases List.mem_cons.mp ((insI_perm x r).mem_iff.mp hz) with rfl | hz
      · omega
      · exact h.1 z hz
theorem sortI_sorted : ∀ l, (sortI l).Pairwise (· ≤ ·)
  | [] => .nil
  | x :: r => insI_sorted x (sortI_sorted r)
theorem sortI_unique {a b : List Int} (p : a.Perm b) (s : a.Pairwise (· ≤ ·)) : a = sortI b := PySem.W.ksm_same (p.trans (sortI_perm b).symm) s (sortI_sorted b)
/-- sorted(a list of ints): never changed; or changed later -/
def fSorted : FC := fun ds h Q => match ds with
  | [x] => match lstOf x h with
    | some xs => match intsOf xs with
      | some ns => Q (.lst ((sortI ns).map .int)) h
      | none => False
    | none => False
  | _ => False
def fSortedR : FC := fun ds h Q => match ds with
  | [x] => match lstOf x h with
    | some xs => match intsOf xs with
      | some ns => Q (.ref h.length) (h ++ [.lst ((sortI ns).map .int)])
      | none => False
    | none => False
  | _ => False
def fTuple : FC := fun ds h Q => match ds with
  | [x] => match x with
    | .tup xs => Q (.tup xs) h
    | x => match lstOf x h with
      | some xs => Q (.tup xs) h
      | none => False
  | _ => False
def fList : FC := fun ds h Q => match ds with
  | [x] => match itemsOf x h with
    | some xs => Q (.lst xs) h
    | none => False
  | _ => False
def fListR : FC := fun ds h Q => match ds with
  | [x] => match itemsOf x h with
    | some xs => Q (.ref h.length) (h ++ [.lst xs])
    | none => False
  | _ => False
section
variable {X : Cx}
theorem Rps.one {K mg} {F : Hp} {m : List Addr} {vs : List V} {d : D} (r : Rps K mg F m vs [d]) : ∃ v, vs = [v] ∧ Rp K mg F m v d := by
  cases r with
  | cons p q => cases q; exact ⟨_, rfl, p⟩
theorem Rps.two {K mg} {F : Hp} {m : List Addr} {vs : List V} {d e : D} (r : Rps K mg F m vs [d, e]) : ∃ v w, vs = [v, w] ∧ Rp K mg F m v d ∧ Rp K mg F m w e := by
  cases r with
  | cons p q => obtain ⟨w, rfl, p2⟩ := Rps.one q; exact ⟨_, w, rfl, p, p2⟩
theorem dc_len : CallDD X (.builtin "len") fLen := ⟨_, call_len, fun G F m h H vs ds QD Q R rp q hQ => by
  unfold fLen at q
  split at q
  · rename_i x
    obtain ⟨v, rfl, r⟩ := Rps.one rp
    split at q
    · rename_i xs e
      obtain ⟨a, ws, rfl, hs, p⟩ := R.items r e
      refine ⟨_, ws.length, rfl, ?_, by rw [Paired.len p]; exact hQ _ _ ⟨F, m, h, _, WLe.refl, R, .int _, q⟩⟩
      rcases hs with hs | hs
      · exact .inl ⟨ws, hs, rfl⟩
      · exact .inr ⟨ws, hs, rfl⟩
    · split at q
      · cases r
        exact ⟨_, _, rfl, ⟨q.1, rfl⟩, hQ _ _ ⟨F, m, h, _, WLe.refl, R, .int _, q.2⟩⟩
      · exact q.elim
  · exact q.elim⟩
theorem dc_abs : CallDD X (.builtin "abs") fAbs := ⟨_, call_abs, fun G F m h H vs ds QD Q R rp q hQ => by
  unfold fAbs at q
  split at q
  · obtain ⟨v, rfl, r⟩ := Rps.one rp
    cases r
    exact ⟨_, rfl, hQ _ _ ⟨F, m, h, _, WLe.refl, R, .int _, q⟩⟩
  · exact q.elim⟩
theorem dc_int : CallDD X (.type "int") fInt := ⟨_, call_int1, fun G F m h H vs ds QD Q R rp q hQ => by
  unfold fInt at q
  split at q
  · obtain ⟨v, rfl, r⟩ := Rps.one rp
    cases r
    exact .inl ⟨_, rfl, hQ _ _ ⟨F, m, h, _, WLe.refl, R, .int _, q⟩⟩
  · obtain ⟨v, rfl, r⟩ := Rps.one rp
    cases r
    exact .inr ⟨_, rfl, hQ _ _ ⟨F, m, h, _, WLe.refl, R, .int _, q⟩⟩
  · exact q.elim⟩
theorem dc_str : CallDD X (.type "str") fStr := ⟨_, call_str_int, fun G F m h H vs ds QD Q R rp q hQ => by
  unfold fStr at q
  split at q
  · obtain ⟨v, rfl, r⟩ := Rps.one rp
    cases r
    exact ⟨_, rfl, q.1, hQ _ _ ⟨F, m, h, _, WLe.refl, R, .str _, q.2⟩⟩
  · exact q.elim⟩
theorem dc_max2 (hc : X.calm = true) : CallDD X (.builtin "max") fMax2 := ⟨_, call_max2 hc, fun G F m h H vs ds QD Q R rp q hQ => by
  unfold fMax2 at q
  split at q
  · obtain ⟨v, w, rfl, r, r2⟩ := Rps.two rp
    cases r; cases r2
    exact ⟨_, _, rfl, hQ _ _ ⟨F, m, h, _, WLe.refl, R, .int _, q⟩⟩
  · exact q.elim⟩
theorem dc_min2 (hc : X.calm = true) : CallDD X (.builtin "min") fMin2 := ⟨_, call_min2 hc, fun G F m h H vs ds QD Q R rp q hQ => by
  unfold fMin2 at q
  split at q
  · obtain ⟨v, w, rfl, r, r2⟩ := Rps.two rp
    cases r; cases r2
    exact ⟨_, _, rfl, hQ _ _ ⟨F, m, h, _, WLe.refl, R, .int _, q⟩⟩
  · exact q.elim⟩
theorem dc_all (hc : X.calm = true) : CallDD X (.builtin "all") (fAll fun bs => bs.all id) := ⟨_, cr_all hc, fun G F m h H vs ds QD Q R rp q hQ => by
  unfold fAll at q
  split at q
  · obtain ⟨v, rfl, r⟩ := Rps.one rp
    split at q
    · rename_i xs e
      obtain ⟨a, ws, rfl, hs, p⟩ := R.lstOf r e
      split at q
      · rename_i bs e2
        rw [blsOf_some e2] at p
        rw [Rps.bls p] at hs
        exact ⟨a, bs, rfl, .inl (.inl hs), hQ _ _ ⟨F, m, h, _, WLe.refl, R, .bl _, q⟩⟩
      · exact q.elim
    · exact q.elim
  · exact q.elim⟩
theorem dc_any (hc : X.calm = true) : CallDD X (.builtin "any") (fAll fun bs => bs.any id) := ⟨_, cr_any hc, fun G F m h H vs ds QD Q R rp q hQ => by
  unfold fAll at q
  split at q
  · obtain ⟨v, rfl, r⟩ := Rps.one rp
    split at q
    · rename_i xs e
      obtain ⟨a, ws, rfl, hs, p⟩ := R.lstOf r e
      split at q
      · rename_i bs e2
        rw [blsOf_some e2] at p
        rw [Rps.bls p] at hs
        exact ⟨a, bs, rfl, .inl (.inl hs), hQ _ _ ⟨F, m, h, _, WLe.refl, R, .bl _, q⟩⟩
      · exact q.elim
    · exact q.elim
  · exact q.elim⟩
theorem dc_sum (hc : X.calm = true) : CallDD X (.builtin "sum") (fInts List.sum fun _ => True) := ⟨_, cr_sum hc, fun G F m h H vs ds QD Q R rp q hQ => by
  unfold fInts at q
  split at q
  · obtain ⟨v, rfl, r⟩ := Rps.one rp
    split at q
    · rename_i xs e
      obtain ⟨a, ws, rfl, hs, p⟩ := R.lstOf r e
      split at q
      · rename_i bs e2
        rw [intsOf_some e2] at p
        rw [Rps.ints p] at hs
        exact ⟨a, bs, rfl, .inl (.inl hs), hQ _ _ ⟨F, m, h, _, WLe.refl, R, .int _, q.2⟩⟩
      · exact q.elim
    · exact q.elim
  · exact q.elim⟩
theorem dc_max1 (hc : X.calm = true) : CallDD X (.builtin "max") (fInts maxL fun ns => 0 < ns.length) := ⟨_, cr_max hc, fun G F m h H vs ds QD Q R rp q hQ => by
  unfold fInts at q
  split at q
  · obtain ⟨v, rfl, r⟩ := Rps.one rp
    split at q
    · rename_i xs e
      obtain ⟨a, ws, rfl, hs, p⟩ := R.lstOf r e
      split at q
      · rename_i bs e2
        rw [intsOf_some e2] at p
        rw [Rps.ints p] at hs
        refine ⟨a, bs, rfl, .inl (.inl hs), q.1, fun z h1 h2 => ?_⟩
        have s := maxL_spec q.1
        have ez : z = maxL bs := Int.le_antisymm (s.2 z h1) (h2 _ s.1)
        rw [ez]
        exact hQ _ _ ⟨F, m, h, _, WLe.refl, R, .int _, q.2⟩
      · exact q.elim
    · exact q.elim
  · exact q.elim⟩
theorem dc_min1 (hc : X.calm = true) : CallDD X (.builtin "min") (fInts minL fun ns => 0 < ns.length) := ⟨_, cr_min hc, fun G F m h H vs ds QD Q R rp q hQ => by
  unfold fInts at q
  split at q
  · obtain ⟨v, rfl, r⟩ := Rps.one rp
    split at q
    · rename_i xs e
      obtain ⟨a, ws, rfl, hs, p⟩ := R.lstOf r e
      split at q
      · rename_i bs e2
        rw [intsOf_some e2] at p
        rw [Rps.ints p] at hs
        refine ⟨a, bs, rfl, .inl (.inl hs), q.1, fun z h1 h2 => ?_⟩
        have s := minL_spec q.1
        have ez : z = minL bs := Int.le_antisymm (h2 _ s.1) (s.2 z h1)
        rw [ez]
        exact hQ _ _ ⟨F, m, h, _, WLe.refl, R, .int _, q.2⟩
      · exact q.elim
    · exact q.elim
  · exact q.elim⟩
theorem dc_sorted : CallDD X (.builtin "sorted") fSorted := ⟨_, cr_sortedI, fun G F m h H vs ds QD Q R rp q hQ => by
  unfold fSorted at q
  split at q
  · obtain ⟨v, rfl, r⟩ := Rps.one rp
    split at q
    · rename_i xs e
      obtain ⟨a, ws, rfl, hs, p⟩ := R.lstOf r e
      split at q
      · rename_i bs e2
        rw [intsOf_some e2] at p
        rw [Rps.ints p] at hs
        refine ⟨a, bs, rfl, .inl (.inl hs), fun ns' p' hp so hn => ?_⟩
        rw [sortI_unique hp so]
        obtain ⟨F', le, R', rq⟩ := R.lstN hn (Rps.of_ints (K := X.K) (mg := X.mg) (F := F) (m := m) (sortI bs))
        exact hQ _ _ ⟨F', m, h, _, le, R', rq, q⟩
      · exact q.elim
    · exact q.elim
  · exact q.elim⟩
theorem dc_sortedR : CallDD X (.builtin "sorted") fSortedR := ⟨_, cr_sortedI, fun G F m h H vs ds QD Q R rp q hQ => by
  unfold fSortedR at q
  split at q
  · obtain ⟨v, rfl, r⟩ := Rps.one rp
    split at q
    · rename_i xs e
      obtain ⟨a, ws, rfl, hs, p⟩ := R.lstOf r e
      split at q
      · rename_i bs e2
        rw [intsOf_some e2] at p
        rw [Rps.ints p] at hs
        refine ⟨a, bs, rfl, .inl (.inl hs), fun ns' p' hp so hn => ?_⟩
        rw [sortI_unique hp so]
        obtain ⟨m', le, R', rq⟩ := R.refN hn (Rps.of_ints (K := X.K) (mg := X.mg) (F := F) (m := m) (sortI bs))
        exact hQ _ _ ⟨F, m', _, _, le, R', rq, q⟩
      · exact q.elim
    · exact q.elim
  · exact q.elim⟩
theorem dc_tuple : CallDD X (.type "tuple") fTuple := ⟨_, call_tuple_of, fun G F m h H vs ds QD Q R rp q hQ => by
  unfold fTuple at q
  split at q
  · obtain ⟨v, rfl, r⟩ := Rps.one rp
    split at q
    · cases r with
      | tup s p' => exact ⟨_, _, rfl, .inr ⟨sqT_mono R.sf s, hQ _ _ ⟨F, m, h, _, WLe.refl, R, .tup s p', q⟩⟩⟩
    · split at q
      · rename_i xs e
        obtain ⟨a, ws, rfl, hs, p⟩ := R.lstOf r e
        refine ⟨a, ws, rfl, .inl ⟨.inl (.inl hs), fun l hl => ?_⟩⟩
        obtain ⟨F', le, R', rq⟩ := R.tupN hl p
        exact hQ _ _ ⟨F', m, h, _, le, R', rq, q⟩
      · exact q.elim
  · exact q.elim⟩
theorem dc_list : CallDD X (.type "list") fList := ⟨_, call_list_of, fun G F m h H vs ds QD Q R rp q hQ => by
  unfold fList at q
  split at q
  · obtain ⟨v, rfl, r⟩ := Rps.one rp
    split at q
    · rename_i xs e
      obtain ⟨a, ws, rfl, hs, p⟩ := R.items r e
      refine ⟨a, ws, rfl, hs, fun l hl => ?_⟩
      obtain ⟨F', le, R', rq⟩ := R.lstN hl p
      exact hQ _ _ ⟨F', m, h, _, le, R', rq, q⟩
    · exact q.elim
  · exact q.elim⟩
theorem dc_listR : CallDD X (.type "list") fListR := ⟨_, call_list_of, fun G F m h H vs ds QD Q R rp q hQ => by
  unfold fListR at q
  split at q
  · obtain ⟨v, rfl, r⟩ := Rps.one rp
    split at q
    · rename_i xs e
      obtain ⟨a, ws, rfl, hs, p⟩ := R.items r e
      refine ⟨a, ws, rfl, hs, fun l hl => ?_⟩
      obtain ⟨m', le, R', rq⟩ := R.refN hl p
      exact hQ _ _ ⟨F, m', _, _, le, R', rq, q⟩
    · exact q.elim
  · exact q.elim⟩
end
end DL
end

section
set_option maxRecDepth 100000
set_option maxHeartbeats 4000000
namespace DL
open PySem PySem.Spec L2
/-! ## a[b] -/
open PyProof.Rows in
theorem subscriptTail_gen {prog : Program} {w : World} {A : Around} {E : Value → Shared → Prop} {s : Shared} {value slice : Expr} {o i : Value} {T id : String} {Q : Value → Shared → Prop} (hT : s.TypeIs o T)
    (hl : typeLookup (.type T) "__getitem__" = pure (some (.builtin id))) (h : wpAny (model prog w) A (getItem o i) Q E s)
    (hs : subscripted slice false o i = operate [o, i] (getItem o i)) :
    wpAny (model prog w) A (PyProof.Rows.subscriptTail value slice o i) Q E s := by
  unfold PyProof.Rows.subscriptTail
  refine wpAny_bind ?_
  rw [getitemInPython_of_ne hT.not_modules]
  refine wpAny_bind (wpAny_specialOf hT hl ?_)
  have fin : wpAny (model prog w) A (subscripted slice false o i) (fun r s₃ => wpAny (model prog w) A (letTemporaryGo value o r >>= fun _ => pure r) Q E s₃) E s := by
    rw [hs]
    exact wpAny_operating (wpAny_mono h (fun r s₃ h₃ => wpAny_bind (wpAny_letTemporaryGo (wpAny_pure h₃))) fun _ _ x => x)
  first
    | exact wpAny_pure (wpAny_bind fin)
    | exact wpAny_bind (wpAny_pure (wpAny_bind fin))
    | exact wpAny_bind fin
def dIx : F2 := fun x y h Q => match itemsOf x h with
  | some xs => match y with
    | .int i => match atI xs i with
      | some d => Q d h
      | none => False
    | _ => False
  | none => match dkOf x h, toKey y with
    | some (ks, xs), some k => match dget ks xs k with
      | some d => Q d h
      | none => False
    | _, _ => match x, y with
      | .str z, .int i => match atI z.cps.toList i with
        | some c => z.length ≤ sizeLine ∧ Q (.str ⟨#[c]⟩) h
        | none => False
      | _, _ => False
theorem atI_rps {K mg} {F : Hp} {m : List Addr} {vs : List V} {ds : List D} {i : Int} {d : D} (r : Rps K mg F m vs ds) (e : atI ds i = some d) : ∃ v, atI vs i = some v ∧ Rp K mg F m v d := by
  unfold atI at e ⊢
  rw [Paired.len r]
  cases z : ixN ds.length i with
  | none => rw [z] at e; cases e
  | some j =>
    rw [z] at e
    obtain ⟨v, e1, p⟩ := Rps.get r (show ds[j]? = some d from e)
    exact ⟨v, e1, p⟩
section
variable {X : Cx} {W : WX} {a b : Expr} {ta tb : TED} {pos : Pos}
theorem ix_dict (hu : X.A.units + 1 < cLine) : IxR X (fun x y H Q => ∃ a v, x = .ref a ∧ DGet H a y (some v) ∧ Q v H) := fun value slice pins s σ H x y v u Q I rx ry ⟨a, w, ex, g, q⟩ hs => by
  subst ex
  cases (show v = Value.ref a from rx)
  exact subscriptTail_gen (dict_typeIs I g) PySem.F.slot_dict_getitem.lookup (d_getItem hu I g ry fun w' s3 I3 rw' => ⟨w, H, I3, rw', q⟩) hs
theorem de_ix (hu : X.A.units + 64 < cLine) (ha : DE X W a ta) (hb : DE X W b tb) (hs : PlainIx b := by exact fun _ _ => rfl) : DE X W (.Subscript a b pos) (eOp2 dIx ta tb) :=
  PE.imp (pe_ix (IxR.or ix_seq (ix_dict (by omega))) ha hb hs) fun σ H Q ⟨G, F, m, sd, h, QD, E, at_, t, hQ⟩ => LE.two at_ t fun F' m' h' H' x y d e le a' rx ry q => by
    unfold dIx at q
    split at q
    · rename_i xs e1
      obtain ⟨p, vs, rfl, hv, rp⟩ := a'.R.items rx e1
      split at q
      · cases ry
        split at q
        · rename_i d' e2
          obtain ⟨v, e3, rv⟩ := atI_rps rp e2
          have fin := hQ v H' ⟨F', m', h', d', le, a'.R, rv, q⟩
          rcases hv with hv | hv
          · exact .inl (.inl ⟨p, vs, _, v, rfl, rfl, hv, e3, fin⟩)
          · exact .inl (.inr (.inl ⟨p, vs, _, v, rfl, rfl, hv, e3, fin⟩))
        · exact q.elim
      · exact q.elim
    · split at q
      · rename_i ks xs k e1 e2
        obtain ⟨p, vs, rfl, hv, el, rp⟩ := a'.R.dk rx e1
        split at q
        · rename_i d' e3
          have hk : k ∈ ks := Classical.byContradiction fun hk => by
            have := ((valV_zip (K := X.K) (mg := X.mg) (F := F') (m := m') k el rp).2 hk).2
            rw [this] at e3; cases e3
          obtain ⟨v, d2, f1, f2, f3⟩ := (valV_zip k el rp).1 hk
          rw [f2] at e3; cases e3
          exact .inr ⟨p, v, rfl, .inl ⟨_, k, .inl hv, ry.key e2, f1.symm⟩, hQ v H' ⟨F', m', h', _, le, a'.R, f3, q⟩⟩
        · exact q.elim
      · split at q
        · cases rx; cases ry
          split at q
          · rename_i c e3
            exact .inl (.inr (.inr ⟨_, _, c, rfl, rfl, q.1, e3, hQ _ _ ⟨F', m', h', _, le, a'.R, .str _, q.2⟩⟩))
          · exact q.elim
        · exact q.elim
end
/-! ## a[lo:hi] -/
abbrev TOD := Sg → DH → (Option Int → DH → Prop) → ED → Prop
def oNone : TOD := fun _ h Q _ => Q none h
def oSome (t : TED) : TOD := fun sd h Q E => t sd h (fun d h1 => match d with | .int i => Q (some i) h1 | _ => False) E
def LO (K : PySem.W.Frag) (mg : Str → Option Value) (W : WX) (t : TOD) : TO := fun σ H Q => ∃ G F m sd h QD E, At K mg G W F m sd h σ H E ∧ t sd h QD E ∧ ∀ o H', (∃ F' m' h', WLe F m F' m' ∧ Rel K mg G F' m' h' H' ∧ QD o h') → Q o H'
def DO (X : Cx) (W : WX) (e : Option Expr) (t : TOD) : Prop := PO X e (LO X.K X.mg W t)
theorem PO.imp {X : Cx} {e : Option Expr} {t t' : TO} (p : PO X e t) (h : ∀ σ H Q, t' σ H Q → t σ H Q) : PO X e t' := ⟨fun pins s σ H Q I q => p.run pins s σ H Q I (h σ H Q q)⟩
theorem LO.step {K mg G W F m sd h σ H} {t : TOD} {QD : Option Int → DH → Prop} {E : ED} {Q : Option Int → Hp → Prop} (a : At K mg G W F m sd h σ H E) (ht : t sd h QD E)
    (k : ∀ F' m' h' H' o, WLe F m F' m' → At K mg G W F' m' sd h' σ H' E → QD o h' → Q o H') : LO K mg W t σ H Q :=
  ⟨G, F, m, sd, h, QD, E, a, ht, fun v H' ⟨F', m', h', le, R, q⟩ => k F' m' h' H' v le (a.mv le R) q⟩
/-- the items of xs[lo:hi] -/
def cutD (xs : List D) (lo hi : Option Int) : List D := (xs.drop (HT.sIx xs.length 0 lo)).take (HT.sIx xs.length xs.length hi - HT.sIx xs.length 0 lo)
/-- the items of a list (no tuple), the script too -/
def listOf (d : D) (h : DH) : Option (List D) := match d with
  | .lst xs => some xs
  | .scr xs => some xs
  | .ref n => match h[n]? with
    | some (.lst xs) => some xs
    | _ => none
  | _ => none
theorem Rel.listOf {K mg G F m h H v d} {xs : List D} (R : Rel K mg G F m h H) (r : Rp K mg F m v d) (e : DL.listOf d h = some xs) : ∃ a vs, v = .ref a ∧ SqL K H a vs ∧ Rps K mg F m vs xs := by
  cases r with
  | lst s p => cases e; exact ⟨_, _, rfl, .inl (.inl (R.sf _ _ s)), p⟩
  | scr s p => cases e; exact ⟨_, _, rfl, sqL_mono R.sf s, p⟩
  | ref hn =>
    simp only [DL.listOf] at e
    split at e
    · rename_i n ys q
      cases e
      obtain ⟨a', vs, e1, _, e3, p⟩ := R.lst q
      rw [hn] at e1; cases e1
      exact ⟨_, vs, rfl, .inl (.inl e3), p⟩
    · exact nomatch e
  | _ => exact nomatch e
def eSl (t : TED) (lo hi : TOD) : TED := fun sd h Q E => t sd h (fun x h1 => lo sd h1 (fun l h2 => hi sd h2 (fun u h3 => match x with
  | .tup xs => Q (.tup (cutD xs l u)) h3
  | .str z => z.length ≤ sizeLine ∧ Q (.str (cutS z l u)) h3
  | x => match listOf x h3 with
    | some xs => Q (.lst (cutD xs l u)) h3
    | none => False) E) E) E
theorem Rps.cut {K mg} {F : Hp} {m : List Addr} {vs : List V} {ds : List D} (r : Rps K mg F m vs ds) (lo hi : Option Int) : Rps K mg F m (cutV vs lo hi) (cutD ds lo hi) := by
  unfold cutV cutD
  rw [Paired.len r]
  exact Rps.take _ (Rps.drop _ r)
section
variable {X : Cx} {W : WX} {e : Expr} {te : TED} {lo hi : Option Expr} {tl th : TOD} {pos p2 : Pos}
theorem do_none : DO X W none oNone := PO.imp po_none fun σ H Q ⟨G, F, m, sd, h, QD, E, at_, t, hQ⟩ => hQ _ _ ⟨F, m, h, WLe.refl, at_.R, t⟩
theorem do_some (h : DE X W e te) : DO X W (some e) (oSome te) := PO.imp (po_some h) fun σ H Q ⟨G, F, m, sd, h, QD, E, at_, t, hQ⟩ => LE.step at_ t fun F' m' h' H' v d le a' rp q => by
  cases rp with
  | int i => exact ⟨i, rfl, hQ _ _ ⟨F', m', h', le, a'.R, q⟩⟩
  | _ => exact q.elim
theorem cut_whole {α : Type} (xs : List α) {lo hi : Option Int} (h : HT.sIx xs.length 0 lo = 0 ∧ HT.sIx xs.length xs.length hi = xs.length) : (xs.drop (HT.sIx xs.length 0 lo)).take (HT.sIx xs.length xs.length hi - HT.sIx xs.length 0 lo) = xs := by
  rw [h.1, h.2, List.drop_zero, Nat.sub_zero, List.take_length]
theorem de_sl (he : DE X W e te) (hl : DO X W lo tl) (hu : DO X W hi th) : DE X W (.Subscript e (.Slice lo hi none p2) pos) (eSl te tl th) :=
  PE.imp (pe_slice (SlR.or sl_tupA (SlR.or sl_list sl_str)) he hl hu) fun σ H Q ⟨G, F, m, sd, h, QD, E, at_, t, hQ⟩ =>
    LE.step at_ t fun F1 m1 h1 H1 v d le1 a1 rp q1 => LO.step a1 q1 fun F2 m2 h2 H2 l le2 a2 q2 => LO.step a2 q2 fun F3 m3 h3 H3 u le3 a3 q3 => by
      have rp3 := rp.mono (le2.trans le3)
      have le := le1.trans (le2.trans le3)
      split at q3
      · rename_i xs
        cases rp3 with
        | tup s p =>
          rename_i a vs
          refine .inl ⟨a, vs, rfl, sqT_mono a3.R.sf s, fun wh => ?_, fun _ p' hp' => ?_⟩
          · have ew : cutD xs l u = xs := by
              rw [Paired.len p] at wh
              exact cut_whole xs wh
            rw [ew] at q3
            exact hQ _ _ ⟨F3, m3, h3, _, le, a3.R, .tup s p, q3⟩
          · obtain ⟨F', le', R', rq⟩ := a3.R.tupN hp' (Rps.cut p l u)
            exact hQ _ _ ⟨F', m3, h3, _, le.trans le', R', rq, q3⟩
      · cases rp3
        exact .inr (.inr ⟨_, rfl, q3.1, hQ _ _ ⟨F3, m3, h3, _, le, a3.R, .str _, q3.2⟩⟩)
      · split at q3
        · rename_i xs e1
          obtain ⟨a, vs, rfl, hv, p⟩ := a3.R.listOf rp3 e1
          refine .inr (.inl ⟨a, vs, rfl, hv, fun p' hp' => ?_⟩)
          obtain ⟨F', le', R', rq⟩ := a3.R.lstN hp' (Rps.cut p l u)
          exact hQ _ _ ⟨F', m3, h3, _, le.trans le', R', rq, q3⟩
        · exact q3.elim
end
end DL
end

section
set_option maxRecDepth 100000
set_option maxHeartbeats 4000000
namespace DL
open PySem PySem.Spec L2
/-! ## statements -/
section
variable {K : PySem.W.Frag} {mg : Str → Option Value} {W : WX} {G F : Hp} {m : List Addr} {sd : Sg} {h : DH} {σ : L2.St} {H : Hp} {k : KD} {D : Ends}
abbrev KD.E (k : KD) (sd : Sg) : ED := fun nm ns fs h => k.er nm ns fs sd h
theorem AtS.at (a : AtS K mg G W k D F m) (R : Rel K mg G F m h H) (S : SRel K mg F m σ sd) : At K mg G W F m sd h σ H (k.E sd) :=
  ⟨R, S, fun cls dx H' ⟨F', m', h', nm, ns, fs, le, R', x, q⟩ => a.er _ _ _ _ ⟨F', m', sd, h', nm, ns, fs, le, R', S.mono le, x, q⟩⟩
end
def sNext : TSD := fun k sd h => k.nx sd h
def sSeq (t u : TSD) : TSD := fun k sd h => t { k with nx := u k } sd h
def sBreak : TSD := fun k sd h => k.bk sd h
def sCont : TSD := fun k sd h => k.ct sd h
def sDrop (t : TED) : TSD := fun k sd h => t sd h (fun _ h' => k.nx sd h') (k.E sd)
def sRet (t : TED) : TSD := fun k sd h => t sd h k.rt (k.E sd)
def sRetN : TSD := fun k sd h => k.rt .non h
def sIf (c : TTD) (t u : TSD) : TSD := fun k sd h => c sd h (fun b h' => if b = true then t k sd h' else u k sd h') (k.E sd)
def sSet (i : Nat) (t : TED) : TSD := fun k sd h => t sd h (fun d h' => k.nx (sd.set i (some d)) h') (k.E sd)
def sPar (is : List Nat) (t : TAD) : TSD := fun k sd h => t sd h (fun ds h' => k.nx ((is.zip ds).foldl (fun s p => s.set p.1 (some p.2)) sd) h') (k.E sd)
section
variable {X : Cx} {W : WX} {s : Stmt} {rest : List Stmt} {e : Expr} {t u : TSD} {te : TED} {pos : Pos}
theorem dss_nil : DSs X W [] sNext := PSs.imp pss_nil fun D σ H ⟨G, F, m, sd, h, k, R, S, t, a⟩ => a.nx _ _ ⟨F, m, sd, h, WLe.refl, R, S, t⟩
theorem dss_cons (h1 : DS X W s t) (h2 : DSs X W rest u) : DSs X W (s :: rest) (sSeq t u) := PSs.imp (pss_cons h1 h2) fun D σ H ⟨G, F, m, sd, h, k, R, S, t, a⟩ =>
  ⟨G, F, m, sd, h, { k with nx := u k }, R, S, t, ⟨fun σ' H' ⟨F', m', sd', h', le, R', S', q⟩ => ⟨G, F', m', sd', h', k, R', S', q, a.mv le⟩, a.rt, a.bk, a.ct, a.er⟩⟩
theorem dss_one (h1 : DS X W s t) : DSs X W [s] t := pss_one h1
theorem ds_pass : DS X W (.Pass pos) sNext := PS.imp ps_pass fun D σ H ⟨G, F, m, sd, h, k, R, S, t, a⟩ => a.nx _ _ ⟨F, m, sd, h, WLe.refl, R, S, t⟩
theorem ds_doc {x j pos'} : DS X W (.Expr (.Constant (.str x) j pos) pos') sNext := PS.imp ps_doc fun D σ H ⟨G, F, m, sd, h, k, R, S, t, a⟩ => a.nx _ _ ⟨F, m, sd, h, WLe.refl, R, S, t⟩
theorem ds_break : DS X W (.Break pos) sBreak := PS.imp ps_break fun D σ H ⟨G, F, m, sd, h, k, R, S, t, a⟩ => a.bk _ _ ⟨F, m, sd, h, WLe.refl, R, S, t⟩
theorem ds_cont : DS X W (.Continue pos) sCont := PS.imp ps_continue fun D σ H ⟨G, F, m, sd, h, k, R, S, t, a⟩ => a.ct _ _ ⟨F, m, sd, h, WLe.refl, R, S, t⟩
theorem ds_expr (he : DE X W e te) (hs : swapsWith e none pos.line X.env = pure false := by rfl) : DS X W (.Expr e pos) (sDrop te) :=
  PS.imp (ps_expr he hs) fun D σ H ⟨G, F, m, sd, h, k, R, S, t, a⟩ => LE.step (a.at R S) t fun F' m' h' H' v d le a' rp q => a.nx _ _ ⟨F', m', sd, h', le, a'.R, a'.S, q⟩
theorem ds_ret (he : DE X W e te) : DS X W (.Return (some e) pos) (sRet te) :=
  PS.imp (ps_ret he) fun D σ H ⟨G, F, m, sd, h, k, R, S, t, a⟩ => LE.step (a.at R S) t fun F' m' h' H' v d le a' rp q => a.rt _ _ ⟨F', m', h', d, le, a'.R, rp, q⟩
theorem ds_retN : DS X W (.Return none pos) sRetN :=
  PS.imp ps_retN fun D σ H ⟨G, F, m, sd, h, k, R, S, t, a⟩ => a.rt _ _ ⟨F, m, h, .non, WLe.refl, R, .non, t⟩
theorem ds_if {c : Expr} {x y : List Stmt} {tc : TTD} (hc : DT X W c tc) (hx : DSs X W x t) (hy : DSs X W y u) : DS X W (.If c x y pos) (sIf tc t u) :=
  PS.imp (ps_if hc hx hy) fun D σ H ⟨G, F, m, sd, h, k, R, S, t, a⟩ => LT.step (a.at R S) t fun F' m' h' H' b le a' q => by
    cases b with
    | true => rw [if_pos rfl] at q ⊢; exact ⟨G, F', m', sd, h', k, a'.R, a'.S, q, a.mv le⟩
    | false => rw [if_neg Bool.false_ne_true] at q ⊢; exact ⟨G, F', m', sd, h', k, a'.R, a'.S, q, a.mv le⟩
theorem ds_set {i : Nat} {x : Str} {pos' : Pos} (he : DE X W e te) (hN : X.N.Nodup) (hi : X.N[i]? = some x := by rfl) (hx : Loc X.env.scope x := by first | exact Or.inl rfl | exact Or.inr rfl) (hs : swapsWith e (some (.Name x pos')) pos.line X.env = pure false := by rfl)
    (hf : X.fn x = true ∨ X.env.scope.names.lookup x = some .local := by first | exact .inl rfl | exact .inr rfl) : DS X W (.Assign [.Name x pos'] e pos) (sSet i te) :=
  PS.imp (ps_set hN hi hx he hs hf) fun D σ H ⟨G, F, m, sd, h, k, R, S, t, a⟩ => LE.step (a.at R S) t fun F' m' h' H' v d le a' rp q => a.nx _ _ ⟨F', m', _, h', le, a'.R, SRel.set rp i a'.S, q⟩
/-- a, b = x, y -/
theorem ds_par {i j : Nat} {x y : Str} {a b : Expr} {ta : TAD} {px py pt : Pos} {kt k2 pt2} (ha : DA X W [a, b] ta) (hN : X.N.Nodup) (hc : X.calm = true := by rfl) (hi : X.N[i]? = some x := by rfl) (hj : X.N[j]? = some y := by rfl) (hij : i ≠ j := by decide)
    (hx : X.env.scope.names.lookup x = some .local := by rfl) (hy : X.env.scope.names.lookup y = some .local := by rfl)
    (hw : swappedStores [.Tuple [.Name x px, .Name y py] kt pt] (.Tuple [a, b] k2 pt2) X.env = pure (some [x, y]) := by rfl)
    (hs : swapsWithSole [.Tuple [.Name x px, .Name y py] kt pt] (.Tuple [a, b] k2 pt2) pos.line X.env = pure false := by rfl) :
    DS X W (.Assign [.Tuple [.Name x px, .Name y py] kt pt] (.Tuple [a, b] k2 pt2) pos) (sPar [i, j] ta) :=
  PS.imp (ps_par hc hN hi hj hij hx hy ha hw hs) fun D σ H ⟨G, F, m, sd, h, k, R, S, t, a⟩ => LA.step (a.at R S) t fun F' m' h' H' vs ds hn le a' rp q => by
    cases rp with
    | nil => simp at hn
    | cons p1 r =>
      cases r with
      | nil => simp at hn
      | cons p2 r =>
        cases r with
        | cons _ _ => simp at hn
        | nil => exact ⟨_, _, rfl, a.nx _ _ ⟨F', m', _, h', le, a'.R, SRel.set p2 j (SRel.set p1 i a'.S), q⟩⟩
theorem ds_par3 {i j l : Nat} {x y z : Str} {a b c : Expr} {ta : TAD} {px py pz pt : Pos} {kt k2 pt2} (ha : DA X W [a, b, c] ta) (hN : X.N.Nodup) (hc : X.calm = true := by rfl) (hi : X.N[i]? = some x := by rfl) (hj : X.N[j]? = some y := by rfl) (hl : X.N[l]? = some z := by rfl)
    (hij : i ≠ j := by decide) (hil : i ≠ l := by decide) (hjl : j ≠ l := by decide)
    (hx : X.env.scope.names.lookup x = some .local := by rfl) (hy : X.env.scope.names.lookup y = some .local := by rfl) (hz : X.env.scope.names.lookup z = some .local := by rfl)
    (hw : swappedStores [.Tuple [.Name x px, .Name y py, .Name z pz] kt pt] (.Tuple [a, b, c] k2 pt2) X.env = pure (some [x, y, z]) := by rfl)
    (hs : swapsWithSole [.Tuple [.Name x px, .Name y py, .Name z pz] kt pt] (.Tuple [a, b, c] k2 pt2) pos.line X.env = pure false := by rfl) :
    DS X W (.Assign [.Tuple [.Name x px, .Name y py, .Name z pz] kt pt] (.Tuple [a, b, c] k2 pt2) pos) (sPar [i, j, l] ta) :=
  PS.imp (ps_par3 hc hN hi hj hl hij hil hjl hx hy hz ha hw hs) fun D σ H ⟨G, F, m, sd, h, k, R, S, t, a⟩ => LA.step (a.at R S) t fun F' m' h' H' vs ds hn le a' rp q => by
    cases rp with
    | nil => simp at hn
    | cons p1 r =>
      cases r with
      | nil => simp at hn
      | cons p2 r =>
        cases r with
        | nil => simp at hn
        | cons p3 r =>
          cases r with
          | cons _ _ => simp at hn
          | nil => exact ⟨_, _, _, rfl, a.nx _ _ ⟨F', m', _, h', le, a'.R, SRel.set p3 l (SRel.set p2 j (SRel.set p1 i a'.S)), q⟩⟩
end
/-! ## targets -/
abbrev TGD := D → Sg → DH → (Sg → DH → Prop) → Prop
abbrev TGDs := List D → Sg → DH → (Sg → DH → Prop) → Prop
/-- a target whose slots are among vs -/
def LG (K : PySem.W.Frag) (mg : Str → Option Value) (vs : List Nat) (t : TGD) : TG := fun v σ H Q => ∃ G F m sd h QD d, Rel K mg G F m h H ∧ SRel K mg F m σ sd ∧ Rp K mg F m v d ∧ t d sd h QD ∧ ∀ σ' H', wipe σ' vs = wipe σ vs → QS K mg G F m QD σ' H' → Q σ' H'
def LGs (K : PySem.W.Frag) (mg : Str → Option Value) (vs : List Nat) (t : TGDs) : TGs := fun v σ H Q => ∃ G F m sd h QD d, Rel K mg G F m h H ∧ SRel K mg F m σ sd ∧ Rps K mg F m v d ∧ t d sd h QD ∧ ∀ σ' H', wipe σ' vs = wipe σ vs → QS K mg G F m QD σ' H' → Q σ' H'
def DG (X : Cx) (vs : List Nat) (tg : Expr) (t : TGD) : Prop := PG X tg (LG X.K X.mg vs t)
def DGs (X : Cx) (vs : List Nat) (tg : List Expr) (t : TGDs) : Prop := PGs X tg (LGs X.K X.mg vs t)
theorem PG.imp {X : Cx} {e : Expr} {t t' : TG} (p : PG X e t) (h : ∀ v σ H Q, t' v σ H Q → t v σ H Q) : PG X e t' := ⟨fun pins s σ H v u Q I r q => p.run pins s σ H v u Q I r (h v σ H Q q)⟩
theorem PGs.imp {X : Cx} {e : List Expr} {t t' : TGs} (p : PGs X e t) (h : ∀ v σ H Q, t' v σ H Q → t v σ H Q) : PGs X e t' := ⟨fun pins s σ H v u Q I r q => p.run pins s σ H v u Q I r (h v σ H Q q)⟩
theorem PG.or {X : Cx} {e : Expr} {t t' : TG} (p : PG X e t) (p' : PG X e t') : PG X e (fun v σ H Q => t v σ H Q ∨ t' v σ H Q) := ⟨fun pins s σ H v u Q I r q => q.elim (p.run pins s σ H v u Q I r) (p'.run pins s σ H v u Q I r)⟩
theorem wipe_set {σ : L2.St} {i : Nat} {x : Option V} : ∀ {vs : List Nat}, i ∈ vs → wipe (σ.set i x) vs = wipe σ vs
  | v :: vs, h => by
    unfold wipe
    rcases List.mem_cons.mp h with e | h
    · subst e
      have : ∀ (vs : List Nat) (τ : L2.St), (wipe (τ.set i x) vs).set i none = (wipe τ vs).set i none := by
        intro vs
        induction vs with
        | nil => intro τ; unfold wipe; rw [List.set_set]
        | cons w ws ih =>
          intro τ
          unfold wipe
          by_cases hw : w = i
          · subst hw; rw [List.set_set, List.set_set]; exact ih τ
          · rw [List.set_comm _ _ hw, ih τ, List.set_comm _ _ (Ne.symm hw)]
      exact this vs σ
    · rw [wipe_set h]
def gN (i : Nat) : TGD := fun d sd h Q => Q (sd.set i (some d)) h
def gTnil : TGDs := fun ds sd h Q => match ds with
  | [] => Q sd h
  | _ => False
def gTcons (t : TGD) (u : TGDs) : TGDs := fun ds sd h Q => match ds with
  | d :: r => t d sd h fun sd' h' => u r sd' h' Q
  | [] => False
/-- (a, b, ..) = a tuple or list of that length -/
def gT (n : Nat) (t : TGDs) : TGD := fun d sd h Q => match itemsOf d h with
  | some ds => ds.length = n ∧ t ds sd h Q
  | none => False
section
variable {X : Cx} {W : WX} {vs : List Nat} {pos : Pos}
theorem dg_name {i : Nat} {x : Str} (hN : X.N.Nodup) (hv : i ∈ vs := by decide) (hi : X.N[i]? = some x := by rfl) (hx : Loc X.env.scope x := by first | exact Or.inl rfl | exact Or.inr rfl) (hf : X.fn x = true ∨ X.env.scope.names.lookup x = some .local := by first | exact .inl rfl | exact .inr rfl) : DG X vs (.Name x pos) (gN i) :=
  PG.imp (pg_name hN hi hx hf) fun v σ H Q ⟨G, F, m, sd, h, QD, d, R, S, rp, t, hQ⟩ => hQ _ _ (wipe_set hv) ⟨F, m, _, h, WLe.refl, R, SRel.set rp i S, t⟩
theorem dgs_nil : DGs X vs [] gTnil := PGs.imp pgs_nil fun v σ H Q ⟨G, F, m, sd, h, QD, d, R, S, rp, t, hQ⟩ => by
  cases rp with
  | nil => exact ⟨rfl, hQ _ _ rfl ⟨F, m, _, h, WLe.refl, R, S, t⟩⟩
  | cons _ _ => exact t.elim
theorem dgs_cons {e : Expr} {es : List Expr} {t : TGD} {u : TGDs} (h1 : DG X vs e t) (h2 : DGs X vs es u) (hs : (assignEach (e :: es) X.env).map (·.2) = assign e X.env :: (assignEach es X.env).map (·.2) := by rfl) : DGs X vs (e :: es) (gTcons t u) :=
  PGs.imp (pgs_cons h1 h2 hs) fun v σ H Q ⟨G, F, m, sd, h, QD, d, R, S, rp, t, hQ⟩ => by
    cases rp with
    | nil => exact t.elim
    | cons p r => exact ⟨_, _, rfl, G, F, m, sd, h, _, _, R, S, p, t, fun σ' H' w ⟨F', m', sd', h', le, R', S', q⟩ => ⟨G, F', m', sd', h', _, _, R', S', Rps.mono le r, q, fun σ2 H2 w2 z => hQ _ _ (w2.trans w) (z.mono le)⟩⟩
theorem dg_tup {es : List Expr} {k : Nat} {t : TGDs} {n : Nat} (h : DGs X vs es t) (hc : X.calm = true := by rfl) (hn : (assignEach es X.env).length = n := by rfl) (hst : (assignEach es X.env).findIdx? (·.1) = none := by rfl) : DG X vs (.Tuple es k pos) (gT n t) :=
  PG.imp (PG.or (pg_tup hc h hn hst) (pg_lst hc h hn hst)) fun v σ H Q ⟨G, F, m, sd, h, QD, d, R, S, rp, t, hQ⟩ => by
    unfold gT at t
    split at t
    · rename_i ds e
      obtain ⟨a, ws, rfl, hv, p⟩ := R.items rp e
      have fin : LGs X.K X.mg vs _ ws σ H Q := ⟨G, F, m, sd, h, QD, ds, R, S, p, t.2, hQ⟩
      rcases hv with hv | hv
      · exact .inr ⟨a, ws, rfl, hv, (Paired.len p).trans t.1, fin⟩
      · exact .inl ⟨a, ws, rfl, hv, (Paired.len p).trans t.1, fin⟩
    · exact t.elim
end
/-- target = value -/
def sAsg (g : TGD) (t : TED) : TSD := fun k sd h => t sd h (fun d h' => g d sd h' k.nx) (k.E sd)
def put (x : O) (i d : D) (k : O → Prop) : Prop := match x, i with
  | .lst xs, .int i => match ixN xs.length i with
    | some j => k (.lst (xs.set j d))
    | none => False
  | .dk ks xs, i => match toKey i with
    | some q => ks.length < sizeLine ∧ if hasK ks q = true then k (.dk ks ((ks.zip xs).map fun p => if p.1 = q then d else p.2)) else k (.dk (ks ++ [q]) (xs ++ [d]))
    | none => False
  | _, _ => False
/-- o[i] = e -/
def sSub (to ti te : TED) : TSD := fun k sd h => te sd h (fun d h1 => to sd h1 (fun o h2 => ti sd h2 (fun i h3 => match o with
  | .ref n => match h3[n]? with
    | some x => put x i d fun y => k.nx sd (h3.set n y)
    | none => False
  | _ => False) (k.E sd)) (k.E sd)) (k.E sd)
theorem any_zip {κ : Type} [DecidableEq κ] (q : κ) : ∀ {ks : List κ} {vs : List V}, ks.length = vs.length → ((ks.zip vs).any fun kv => decide (kv.1 = q)) = hasK ks q
  | [], [], _ => rfl
  | k :: ks, v :: vs, e => by
    have ih := any_zip q (ks := ks) (vs := vs) (by simpa using e)
    unfold hasK at ih ⊢
    rw [List.zip_cons_cons, List.any_cons, List.any_cons, ih]
theorem map_zip {κ : Type} [DecidableEq κ] (q : κ) (v : V) : ∀ {ks : List κ} {vs : List V}, ks.length = vs.length → (ks.zip vs).map (fun kv => if kv.1 = q then (kv.1, v) else kv) = ks.zip ((ks.zip vs).map fun p => if p.1 = q then v else p.2)
  | [], [], _ => rfl
  | k :: ks, w :: vs, e => by
    have ih := map_zip q v (ks := ks) (vs := vs) (by simpa using e)
    rw [List.zip_cons_cons, List.map_cons, List.map_cons, List.zip_cons_cons, ih]
    by_cases hk : k = q <;> simp [hk]
theorem putK_zip {κ : Type} [DecidableEq κ] (q : κ) (v : V) {ks : List κ} {vs : List V} (e : ks.length = vs.length) :
    putK (ks.zip vs) q v = if hasK ks q = true then ks.zip ((ks.zip vs).map fun p => if p.1 = q then v else p.2) else (ks ++ [q]).zip (vs ++ [v]) := by
  unfold putK
  rw [any_zip q e, map_zip q v e]
  split
  · rfl
  · rw [List.zip_append e]; rfl
theorem Rps.mapz {K mg} {F : Hp} {m : List Addr} {κ : Type} [DecidableEq κ] (q : κ) {v : V} {d : D} (p : Rp K mg F m v d) : ∀ {ks : List κ} {vs : List V} {ds : List D}, Rps K mg F m vs ds → Rps K mg F m ((ks.zip vs).map fun p => if p.1 = q then v else p.2) ((ks.zip ds).map fun p => if p.1 = q then d else p.2)
  | [], _, _, _ => .nil
  | _ :: _, _, _, .nil => .nil
  | k :: ks, _, _, .cons r rs => by
    rw [List.zip_cons_cons, List.zip_cons_cons, List.map_cons, List.map_cons]
    refine .cons ?_ (Rps.mapz q p rs)
    by_cases hk : k = q
    · simp [hk]; exact p
    · simp [hk]; exact r
theorem PSet.or {X : Cx} {t t' : TSet} (h : PSet X t) (h' : PSet X t') : PSet X (fun o i v H Q => t o i v H Q ∨ t' o i v H Q) := fun pins s σ H o i v ov iv u Q I r1 r2 r3 q => q.elim (h pins s σ H o i v ov iv u Q I r1 r2 r3) (h' pins s σ H o i v ov iv u Q I r1 r2 r3)
def rSetDD : TSet := fun o i v H Q => ∃ a H', o = .ref a ∧ DPut H a i v H' ∧ Q H'
theorem set_dictD {X : Cx} (hu : X.A.units + 1 < cLine) : PSet X rSetDD := fun pins s σ H o i v ov iv u Q I ro ri rv ⟨a, H', eo, g, q⟩ => by
  subst eo
  cases (show ov = Value.ref a from ro)
  exact d_setItem hu I g ri rv fun s' I' => ⟨H', I', q⟩
section
variable {X : Cx} {W : WX} {e o i : Expr} {te to ti : TED} {g : TGD} {tg : Expr} {vs : List Nat} {pos tpos : Pos}
theorem ds_asg (he : DE X W e te) (hg : DG X vs tg g) (hs : swapsWithSole [tg] e pos.line X.env = pure false := by rfl) (hw : swappedStores [tg] e X.env = pure none := by rfl)
    (h1 : (assignEach [tg] X.env).map (·.2) = [assign tg X.env] := by rfl) : DS X W (.Assign [tg] e pos) (sAsg g te) :=
  PS.imp (ps_asg he hg hs hw h1) fun D σ H ⟨G, F, m, sd, h, k, R, S, t, a⟩ => LE.step (a.at R S) t fun F' m' h' H' v d le a' rp q =>
    ⟨G, F', m', sd, h', _, d, a'.R, a'.S, rp, q, fun σ' H'' _ z => a.nx _ _ (z.mono le)⟩
theorem ds_sub (ho : DE X W o to) (hi : DE X W i ti) (he : DE X W e te) (hu : X.A.units + 64 < cLine) (hs : swapsWithSole [.Subscript o i tpos] e pos.line X.env = pure false := by rfl) (hw : swappedStores [.Subscript o i tpos] e X.env = pure none := by rfl)
    (h1 : (assignEach [.Subscript o i tpos] X.env).map (·.2) = [assign (.Subscript o i tpos) X.env] := by rfl)
    (ha : ∀ v, assign (.Subscript o i tpos) X.env v = (do
      let ov ← holding [v] (eval o X.env)
      let iv ← holding [v, ov] (eval i X.env)
      standAt tpos
      holding [v, ov, iv] (setItem ov iv v)
      release [v, ov, iv] []) := by intro _; rfl) : DS X W (.Assign [.Subscript o i tpos] e pos) (sSub to ti te) :=
  PS.imp (ps_asg he (pg_sub ho hi (PSet.or set_list (set_dictD (by omega))) ha) hs hw h1) fun D σ H ⟨G, F, m, sd, h, k, R, S, t, a⟩ =>
    LE.step (a.at R S) t fun F1 m1 h1 H1 v d le1 a1 rv q1 => LE.step a1 q1 fun F2 m2 h2 H2 ov od le2 a2 ro q2 => LE.step a2 q2 fun F3 m3 h3 H3 iv id le3 a3 ri q3 => by
      have le := le1.trans (le2.trans le3)
      have ro' := ro.mono le3
      have rv' := rv.mono (le2.trans le3)
      split at q3
      · rename_i n
        split at q3
        · rename_i x hx
          unfold put at q3
          split at q3
          · rename_i xs j
            cases ri
            cases ro' with
            | ref hn =>
            split at q3
            · rename_i z hz
              obtain ⟨b, ws, e1, e2, e3, p⟩ := a3.R.lst hx
              rw [hn] at e1; cases e1
              refine .inl ⟨_, ws, _, z, rfl, rfl, e3, by rw [Paired.len p]; exact hz, a.nx _ _ ⟨F3, m3, sd, _, le, a3.R.put hx (fun q => nomatch q) hn (.lst (Rps.set rv' z p)), a3.S, q3⟩⟩
            · exact q3.elim
          · rename_i ks xs
            cases ro' with
            | ref hn =>
            split at q3
            · rename_i q hq
              obtain ⟨b, e1, e2, r⟩ := a3.R.lv n _ hx (fun q => nomatch q)
              rw [hn] at e1; cases e1
              generalize z : H3 _ = oo at r
              cases r with
              | dk el p =>
                rename_i ws
                have ez : (ks.zip ws).length = ks.length := by rw [List.length_zip, el]; simp
                refine .inr ⟨_, _, rfl, .inl ⟨_, q, z, ri.key hq, by rw [ez]; exact q3.1, rfl⟩, ?_⟩
                rw [putK_zip q v el]
                have q4 := q3.2
                by_cases hk : hasK ks q = true
                · rw [if_pos hk] at q4 ⊢
                  have p' := Rps.mapz q rv' (ks := ks) p
                  exact a.nx _ _ ⟨F3, m3, sd, _, le, a3.R.put hx (fun q => nomatch q) hn (.dk (by simp [el]) p'), a3.S, q4⟩
                · rw [if_neg hk] at q4 ⊢
                  have p' : Rps X.K X.mg F3 m3 (ws ++ [v]) (xs ++ [d]) := p.snoc rv'
                  exact a.nx _ _ ⟨F3, m3, sd, _, le, a3.R.put hx (fun q => nomatch q) hn (.dk (by simp [el]) p'), a3.S, q4⟩
            · exact q3.elim
          · exact q3.elim
        · exact q3.elim
      · exact q3.elim
end
end DL
end

section
set_option maxRecDepth 100000
set_option maxHeartbeats 4000000
/-! enumerate of a tuple -/
namespace PySem
open Sem (wp)
theorem dl_enumerate_newB {v : Value} {o : Obj} {H : Heap → Prop} (B : Begins v o H) :
    Meets (Builtin.«enumerate.__new__» ⟨[.type "enumerate", v], []⟩) (fun _ R s => H s.heap ∧
      R (.ok (.ret (.ref (s.heap.push o).objs.size))) { s with heap := (s.heap.push o).push { cls := .type "enumerate", data := .fields #[.none, .bool false, .ref s.heap.objs.size, rawInt 0, .none, .none] } }) :=
  .of_wp fun prog w A R s h => by
    obtain ⟨hp, g, d, tk, os⟩ := s; obtain ⟨h1, h⟩ := h
    have hsub := sub_enumerate
    have q1 : ∀ {A' : Around} {E : Value → Shared → Prop} {Q : Value → Shared → Prop}, Q (.ref hp.objs.size) ⟨hp.push o, g, d, tk, os⟩ → wpAny (model prog w) A' (pyIter v) Q E ⟨hp, g, d, tk, os⟩ :=
      fun q => B.iter prog w _ _ ⟨hp, g, d, tk, os⟩ _ h1 q
    wp_walk using q1
    refine wpAny_stack_any fun st => wpAny_pure ?_
    split
    · rename_i c _ _ _ _ _
      cases (c == Value.type "enumerate")
      · wp_walk using q1
        exact ⟨_, rfl, h⟩
      · wp_walk using q1
        exact ⟨_, rfl, h⟩
    · wp_walk using q1
      exact ⟨_, rfl, h⟩
section
variable {prog : Program} {w : World} {A : Around} {E : Value → Shared → Prop} {s : Shared}
theorem dl_enum_begins {v : Value} {o : Obj} {H : Heap → Prop} {Q : Value → Shared → Prop} (B : Begins v o H) (h1 : H s.heap)
    (h : ∀ h', IsEnum h' (s.heap.objs.size + 1) s.heap.objs.size 0 .none → h'.get? s.heap.objs.size = some o → h'.objs.size = s.heap.objs.size + 2 →
      (∀ b o, s.heap.get? b = some o → h'.get? b = some o) → Q (.ref (s.heap.objs.size + 1)) { s with heap := h' }) :
    wpAny (model prog w) A (call (.type "enumerate") [v]) Q E s := by
  refine callType_new F.called_enumerate (by decide) (F.typeCall_enumerate_1 _) (F.newCall_enumerate_1 _) (fun obj => F.args_object_init_2 obj _) F.entry_enumerate_new
    (dl_enumerate_newB B) ⟨h1, ?_⟩
  have hz : (s.heap.push o).objs.size = s.heap.objs.size + 1 := Heap.size_push ..
  show _ ∧ _
  rw [hz]
  have he : IsEnum ((s.heap.push o).push { cls := .type "enumerate", data := .fields #[.none, .bool false, .ref s.heap.objs.size, rawInt 0, .none, .none] }) (s.heap.objs.size + 1) s.heap.objs.size 0 .none := by
    have := Heap.get?_push_size (s.heap.push o) (o := { cls := .type "enumerate", data := .fields #[.none, .bool false, .ref s.heap.objs.size, rawInt 0, .none, .none] }) rfl
    rw [hz] at this; exact this
  refine ⟨⟨_, he, rfl⟩, h _ he (Heap.get?_push_of_some _ (Heap.get?_push_size _ B.free)) (by rw [Heap.size_push, hz]) fun b o x => Heap.get?_push_of_some _ (Heap.get?_push_of_some _ x)⟩
end
end PySem
namespace L2
open PySem PySem.Spec PyProof.Rows
def IteT (K : PySem.W.Frag) (a : Addr) : It :=
  ⟨fun i H => ∃ (xs : List V) (x : V), SqT K H a xs ∧ xs[i]? = some x, fun i H v H' => ∃ T x, v = .ref T ∧ H T = none ∧ H' = upd H T (.tup [.int (i : Nat), x]) ∧ ∀ xs, SqT K H a xs → xs[i]? = some x, fun i H => ∃ xs : List V, SqT K H a xs ∧ xs.length = i⟩
theorem tup_ne_iter {h : Heap} {a it : Addr} {its : Array Value} {i : Nat} {t : Addr} (p : IsTup h a its) (q : h.IsTupleIter it t i) : a ≠ it := by
  rintro rfl
  obtain ⟨o, e, c, _⟩ := p
  obtain ⟨o', e', c', _⟩ := q
  rw [e] at e'; cases e'
  rw [c] at c'
  exact absurd c' (by decide)
theorem tup_ne_enum {h : Heap} {a e it : Addr} {its : Array Value} {i : Int} {old : Value} (p : IsTup h a its) (q : IsEnum h e it i old) : a ≠ e := by
  rintro rfl
  obtain ⟨o, e1, c, _⟩ := p
  have q' := e1.symm.trans q
  cases q'
  exact absurd (show Value.type "enumerate" = Value.type "tuple" from c) (by decide)
theorem turn_enumT {P : Program} {w : World} {K : PySem.W.Frag} {elts : List Expr} {kk : Nat} {tpos : Pos} (a e it : Addr) :
    Turn P w K (.Tuple elts kk tpos) (IteT K a) [e, it] e (fun i h => (∃ old, IsEnum h e it ((i : Nat) : Int) old) ∧ h.IsTupleIter it a i ∧ e ≠ it) where
  mem := by simp
  obj := fun i h st b hb => by
    obtain ⟨⟨old, he⟩, ⟨o, ho, hc, hd⟩, _⟩ := st
    have e' : b = e ∨ b = it := by simpa using hb
    rcases e' with z | z
    · rw [z]; exact ⟨_, he, fun v q => nomatch q⟩
    · rw [z]; exact ⟨o, ho, fun v q => by rw [hd] at q; cases q⟩
  keep := fun i h h' st k => let ⟨⟨old, he⟩, hi, hne⟩ := st; ⟨⟨old, k e (by simp) _ he⟩, hi.at fun o q => k it (by simp) o q, hne⟩
  item := by
    intro X hP hw hK hc i pins s σ H E I hf st hg
    subst hP hw hK
    obtain ⟨⟨old, he⟩, hit, hne⟩ := st
    obtain ⟨xs, x, hq, hx⟩ := hg
    obtain ⟨its, rv, p, hz⟩ := I.tuple hq
    obtain ⟨u, hu, ru⟩ := rv.get hx
    have hel : e < s.heap.objs.size := Heap.lt_size he
    have hil : it < s.heap.objs.size := by obtain ⟨_, q, _⟩ := hit; exact Heap.lt_size q
    have ha : a ≠ it := tup_ne_iter p hit
    have hae : a ≠ e := tup_ne_enum p he
    have hil' : i < its.toArray.size := by
      have := (List.getElem?_eq_some_iff.mp hu).1
      simpa using this
    refine wpAny_pyNext_enum_itemD (Draws.tuple (prog := X.prog) (w := X.w) (A := X.A.in1) (I.ok.hd hc) it a ha its.toArray) he ⟨hit, p⟩ hil' hne (by simp [Ne.symm hae, hne]) fun y h' tk hP ho hst' hT hsz hk => ?_
    have ey : y = u := by
      have h1 : its.toArray[i]? = some y := hP
      rw [List.getElem?_toArray, hu] at h1
      exact (Option.some.inj h1).symm
    subst ey
    refine ⟨_, rfl, wpAny_letOwnedTupleGo_enum (s := { s with heap := h', toks := tk + 1 }) ho fun h'' he' sb => ?_⟩
    have hT2 : h''.get? s.heap.objs.size = some { cls := .type "tuple", data := .seq #[.int i tk, y] } := (sb.2 _ (Nat.ne_of_gt hel)).trans hT
    have new : ObjOk X.prog X.w (upd H s.heap.objs.size (.tup [.int (i : Nat), x])) h'' s.heap.objs.size (.tup [.int (i : Nat), x]) :=
      ⟨by show 2 ≤ sizeLine; decide, [.int i tk, y], .cons ⟨_, rfl⟩ (.cons ru .nil), ⟨_, hT2, rfl, _, rfl⟩⟩
    have I1 : Inv X pins σ (upd H s.heap.objs.size (.tup [.int (i : Nat), x])) { s with heap := h'', toks := tk + 1 } :=
      I.turnedNew (ch := [e, it]) (fun b ob hb q => (sb.2 b (fun z => hb (by simp [z]))).trans (hk b ob (fun z => hb (by simp [z])) (fun z => hb (by simp [z])) q)) hf (Nat.le_refl _) new
    refine ⟨.ref s.heap.objs.size, _, I1, rfl, ⟨_, x, rfl, I.hok.fresh (Nat.le_refl _), rfl, fun ys hy => by rw [I.tuple_inj hy hq]; exact hx⟩, ⟨⟨y, ?_⟩, hst'.1.at fun o q => (sb.2 it (Ne.symm hne)).trans q, hne⟩, fun b hb => ?_⟩
    · have e1 : ((i + 1 : Nat) : Int) = (i : Int) + 1 := by omega
      rw [e1]; exact he'
    · have hb' : b < s.heap.objs.size := by
        have e' : b = e ∨ b = it := by simpa using hb
        rcases e' with z | z
        · rw [z]; exact hel
        · rw [z]; exact hil
      rw [upd_ne (Nat.ne_of_lt hb')]
      exact (hf b hb).1
  done := by
    intro X hP hw hK hc i pins s σ H E I hf st hg
    subst hP hw hK
    obtain ⟨⟨old, he⟩, hit, hne⟩ := st
    obtain ⟨xs, hq, hx⟩ := hg
    obtain ⟨its, rv, p, hz⟩ := I.tuple hq
    obtain ⟨f0, f1, f2, f3, f4, f5⟩ := hf it (by simp)
    have hl := rv.length
    have ha : a ≠ it := tup_ne_iter p hit
    have es : i = its.toArray.size := by rw [List.size_toArray, ← hl, hx]
    subst es
    exact wpAny_pyNext_enum_endD (Draws.tuple (prog := X.prog) (w := X.w) (A := X.A.in1) (I.ok.hd hc) it a ha its.toArray) he ⟨hit, p⟩ fun h' eb => ⟨rfl, I.turned (t' := s.toks) (fun b o hb q => eb b o hb q) f0 f1 f3 f4 f5⟩
  self := fun A i s Q E st h => let ⟨⟨_, he⟩, _⟩ := st; wpAny_pyIter_enum he h
/-- enumerate of a list or a tuple -/
def iEnumA (K : PySem.W.Frag) (ta : TA) : TI := fun σ H R => ta σ H fun vs H1 => ∃ a xs, vs = [.ref a] ∧ xs.length ≤ xs.length ∧ ((SqL K H1 a xs ∧ (xs.length ≤ sizeLine → R (Ite K a) H1)) ∨ (SqT K H1 a xs ∧ (xs.length ≤ sizeLine → R (IteT K a) H1)))
theorem pi_enumA {X : Cx} {e : Expr} {ta : TA} {p pos tpos : Pos} {elts : List Expr} {kk : Nat} (hg : Gl X "enumerate") (hm : X.mg "enumerate" = none) (ha : PA X [e] ta) (hs : starEach [e] X.env = [(false, eval e X.env)] := by rfl) :
    PI X (.Tuple elts kk tpos) (.Call (.Name "enumerate" p) [e] [] pos) (iEnumA X.K ta) := by
  refine ⟨fun pins s σ H R I h => ?_⟩
  refine Call_ (ld_blt I hg hm boot_enumerate (PyProof.Rows.callWith_type1 (thn (ha.run pos pins s σ H _ I h) fun us s1 ⟨vs, H1, I1, r1, q1⟩ => ?_) hs rfl))
  obtain ⟨a, xs, ex, _, q⟩ := q1
  subst ex
  cases r1 with
  | cons r rr =>
    cases rr
    cases r
    have fin : ∀ b ∈ [s1.heap.objs.size + 1, s1.heap.objs.size], FpOk X pins H1 b := fun b hb => by
      have e' : b = s1.heap.objs.size + 1 ∨ b = s1.heap.objs.size := by simpa using hb
      have hle : s1.heap.objs.size ≤ b := by
        rcases e' with z | z
        · rw [z]; exact Nat.le_add_right _ _
        · rw [z]; exact Nat.le_refl _
      exact I1.fpOk hle (I1.hok.fresh hle)
    rcases q with ⟨hq, q⟩ | ⟨hq, q⟩
    · obtain ⟨its, rv, p', hz⟩ := I1.list hq
      refine call_enumerate_list p'.isList fun h' he hit hsz hk => wpAny_pyIter_enum he ?_
      have I2 : Inv X pins σ H1 { s1 with heap := h' } := I1.kept (t' := s1.toks) hk
      exact ⟨s1.heap.objs.size + 1, [s1.heap.objs.size + 1, s1.heap.objs.size], _, _, H1, rfl, I2, turn_enum a (s1.heap.objs.size + 1) s1.heap.objs.size, ⟨⟨.none, he⟩, hit, Nat.succ_ne_self _⟩, fin, q hz⟩
    · obtain ⟨its, rv, p', hz⟩ := I1.tuple hq
      refine dl_enum_begins (begins_tuple a its.toArray) (show s1.heap.IsTuple a its.toArray from p') fun h' he hit hsz hk => wpAny_pyIter_enum he ?_
      have I2 : Inv X pins σ H1 { s1 with heap := h' } := I1.kept (t' := s1.toks) hk
      exact ⟨s1.heap.objs.size + 1, [s1.heap.objs.size + 1, s1.heap.objs.size], _, _, H1, rfl, I2, turn_enumT a (s1.heap.objs.size + 1) s1.heap.objs.size, ⟨⟨.none, he⟩, ⟨_, hit, rfl, rfl⟩, Nat.succ_ne_self _⟩, fin, q hz⟩
/-- a list or a tuple walked -/
def iSeqA (K : PySem.W.Frag) (tl : TE) : TI := fun σ H R => tl σ H fun x H1 => ∃ a xs, x = .ref a ∧ ((SqL K H1 a xs ∧ (xs.length ≤ sizeLine → R (Itl K a) H1)) ∨ (SqT K H1 a xs ∧ (xs.length ≤ sizeLine → R (Itt K a) H1)))
theorem pi_seqA {X : Cx} {tg l : Expr} {tl : TE} (hl : PE X l tl) : PI X tg l (iSeqA X.K tl) := by
  refine ⟨fun pins s σ H R I h => ?_⟩
  refine thn (hl.run pins s σ H _ I h) fun v s1 ⟨x, H1, I1, r1, q1⟩ => ?_
  obtain ⟨a, xs, e, q⟩ := q1
  subst e
  cases r1
  have fin : ∀ b ∈ [s1.heap.objs.size], FpOk X pins H1 b := fun b hb => by
    have e : b = s1.heap.objs.size := by simpa using hb
    subst e
    exact I1.fpOk (Nat.le_refl _) (I1.hok.fresh (Nat.le_refl _))
  rcases q with ⟨hq, q⟩ | ⟨hq, q⟩
  · obtain ⟨its, rv, p, hz⟩ := I1.list hq
    refine wpAny_pyIter_list p.isList ?_
    exact ⟨s1.heap.objs.size, [s1.heap.objs.size], _, _, H1, rfl, I1.kept (t' := s1.toks) fun b o e => Heap.get?_push_of_some _ e, turn_list a _, ⟨_, Heap.get?_push_size _ rfl, rfl, rfl⟩, fin, q hz⟩
  · obtain ⟨its, rv, p, hz⟩ := I1.tuple hq
    refine wpAny_pyIter_tuple (show s1.heap.IsTuple a its.toArray from p) ?_
    exact ⟨s1.heap.objs.size, [s1.heap.objs.size], _, _, H1, rfl, I1.kept (t' := s1.toks) fun b o e => Heap.get?_push_of_some _ e, turn_tuple a _, ⟨_, Heap.get?_push_size _ rfl, rfl, rfl⟩, fin, q hz⟩
end L2
end

section
set_option maxRecDepth 100000
set_option maxHeartbeats 4000000
namespace DL
open PySem PySem.Spec L2
/-! ## while -/
def sWhile (c : TTD) (tb : TSD) : TSD := fun k sd h => ∃ I : Nat → Sg → DH → Prop, (∃ n, I n sd h) ∧ ∀ n sd h, I n sd h →
  c sd h (fun b h1 => if b = true then tb { k with nx := fun s h => ∃ j, j < n ∧ I j s h, ct := fun s h => ∃ j, j < n ∧ I j s h, bk := k.nx } sd h1 else k.nx sd h1) (k.E sd)
section
variable {X : Cx} {W : WX} {pos : Pos}
theorem ds_while {c : Expr} {body : List Stmt} {tc : TTD} {tb : TSD} (hp : PassesOwn (model X.prog X.w) X.A X.env X.xe) (hc : DT X W c tc) (hb : DSs X W body tb) : DS X W (.While c body [] pos) (sWhile tc tb) :=
  PS.imp (ps_while hp hc hb) fun D σ H ⟨G, F, m, sd, h, k, R, S, ⟨I, ⟨n0, i0⟩, step⟩, a⟩ => by
    refine ⟨fun n σ H => ∃ F' m' sd' h', WLe F m F' m' ∧ Rel X.K X.mg G F' m' h' H ∧ SRel X.K X.mg F' m' σ sd' ∧ I n sd' h', ⟨n0, F, m, sd, h, WLe.refl, R, S, i0⟩, ?_⟩
    rintro n σ' H' ⟨F', m', sd', h', le, R', S', i'⟩
    refine LT.step ((a.mv le).at R' S') (step n sd' h' i') fun F2 m2 h2 H2 b le2 a2 q => ?_
    cases b with
    | false => rw [if_neg Bool.false_ne_true] at q ⊢; exact a.nx _ _ ⟨F2, m2, sd', h2, le.trans le2, a2.R, a2.S, q⟩
    | true =>
      rw [if_pos rfl] at q ⊢
      have lt := le.trans le2
      refine ⟨fun σ' H' => ∃ j, j < n ∧ ∃ F' m' sd' h', WLe F m F' m' ∧ Rel X.K X.mg G F' m' h' H' ∧ SRel X.K X.mg F' m' σ' sd' ∧ I j sd' h', fun σ' H' z => z, ?_⟩
      refine ⟨G, F2, m2, sd', h2, _, a2.R, a2.S, q, ?_, fun v H q => a.rt _ _ (q.mono lt), fun s H q => a.nx _ _ (q.mono lt), ?_, fun c d s H q => a.er _ _ _ _ (q.mono lt)⟩
      · rintro σ3 H3 ⟨F3, m3, sd3, h3, le3, R3, S3, j, hj, i3⟩
        exact ⟨j, hj, F3, m3, sd3, h3, lt.trans le3, R3, S3, i3⟩
      · rintro σ3 H3 ⟨F3, m3, sd3, h3, le3, R3, S3, j, hj, i3⟩
        exact ⟨j, hj, F3, m3, sd3, h3, lt.trans le3, R3, S3, i3⟩
end
/-! ## what is walked -/
abbrev QIt := List D → (DH → Prop) → DH → Prop
abbrev TID := Sg → DH → QIt → ED → Prop
/-- the iterator J gives the items, while keep holds of the small heap -/
def Yields (K : PySem.W.Frag) (mg : Str → Option Value) (G F : Hp) (m : List Addr) (items : List D) (keep : DH → Prop) (J : It) : Prop :=
  items.length ≤ sizeLine ∧ ∀ (G2 F2 : Hp) (m2 : List Addr) (h2 : DH) (H2 : Hp) (i : Nat), WLe F m F2 m2 → True → Rel K mg G2 F2 m2 h2 H2 → keep h2 →
    (i < items.length → J.go i H2 ∧ ∀ x H3, J.yld i H2 x H3 → ∃ F3 d, WLe F2 m2 F3 m2 ∧ Rel K mg G2 F3 m2 h2 H3 ∧ items[i]? = some d ∧ Rp K mg F3 m2 x d) ∧ (items.length ≤ i → i ≤ items.length → J.stop i H2)
def QI (K : PySem.W.Frag) (mg : Str → Option Value) (G F : Hp) (m : List Addr) (Q : QIt) : It → Hp → Prop := fun J H' => ∃ F' m' h' items keep, WLe F m F' m' ∧ Rel K mg G F' m' h' H' ∧ Yields K mg G F' m' items keep J ∧ Q items keep h'
def LI (K : PySem.W.Frag) (mg : Str → Option Value) (W : WX) (t : TID) : TI := fun σ H R => ∃ G F m sd h QD E, At K mg G W F m sd h σ H E ∧ t sd h QD E ∧ ∀ J H', QI K mg G F m QD J H' → R J H'
def DI (X : Cx) (W : WX) (tg iter : Expr) (t : TID) : Prop := PI X tg iter (LI X.K X.mg W t)
theorem PI.imp {X : Cx} {tg iter : Expr} {t t' : TI} (p : PI X tg iter t) (h : ∀ σ H R, t' σ H R → t σ H R) : PI X tg iter t' := ⟨fun pins s σ H R I q => p.run pins s σ H R I (h σ H R q)⟩
theorem PI.or {X : Cx} {tg iter : Expr} {t t' : TI} (p : PI X tg iter t) (p' : PI X tg iter t') : PI X tg iter (fun σ H R => t σ H R ∨ t' σ H R) := ⟨fun pins s σ H R I q => q.elim (p.run pins s σ H R I) (p'.run pins s σ H R I)⟩
/-- the list or tuple stands as it is -/
def keepOf (d : D) (xs : List D) : DH → Prop := match d with
  | .ref _ => fun h => itemsOf d h = some xs
  | _ => fun _ => True
/-- a list, a tuple -/
def iSeq (t : TED) : TID := fun sd h Q E => t sd h (fun d h1 => match itemsOf d h1 with
  | some xs => Q xs (keepOf d xs) h1
  | none => False) E
def rngL (lo : Int) (n : Nat) : List D := (List.range n).map fun i => D.int (lo + (i : Nat))
/-- enumerate(..), range(..), zip(..) -/
def iCall (f : List D → DH → QIt → Prop) (t : TAD) : TID := fun sd h Q E => t sd h (fun ds h1 => f ds h1 Q) E
def wRange1 : List D → DH → QIt → Prop := fun ds h Q => match ds with
  | [.int j] => (-1000000 ≤ j ∧ j ≤ 1000000) ∧ Q (rngL 0 j.toNat) (fun _ => True) h
  | _ => False
def wRange2 : List D → DH → QIt → Prop := fun ds h Q => match ds with
  | [.int i, .int j] => (-1000000 ≤ i ∧ i ≤ 1000000 ∧ -1000000 ≤ j ∧ j ≤ 1000000) ∧ Q (rngL i (j - i).toNat) (fun _ => True) h
  | _ => False
section
variable {K : PySem.W.Frag} {mg : Str → Option Value} {G F : Hp} {m : List Addr} {h : DH} {H : Hp}
theorem itemsOf_keep {d : D} {xs : List D} {h' : DH} (e : itemsOf d h = some xs) (k : keepOf d xs h') : itemsOf d h' = some xs := by
  cases d <;> first | exact e | exact k
/-- a list that stands in the small heap, or is never changed -/
theorem yields_lst {v : V} {d : D} {xs : List D} (r : Rp K mg F m v d) (e : listOf d h = some xs) (R : Rel K mg G F m h H) (hz : xs.length ≤ sizeLine) : ∃ a, v = .ref a ∧ Yields K mg G F m xs (keepOf d xs) (Itl K a) := by
  obtain ⟨a, vs, rfl, _, _⟩ := R.listOf r e
  refine ⟨a, rfl, hz, fun G2 F2 m2 h2 H2 i le sg R2 kp => ?_⟩
  have e2 : listOf d h2 = some xs := by
    cases d <;> first
      | exact e
      | (simp only [keepOf, itemsOf] at kp; simp only [listOf]; exact kp)
  obtain ⟨a', ws, ea, hw, p⟩ := R2.listOf (r.mono le) e2
  cases ea
  refine ⟨fun hi => ?_, fun hi _ => ⟨ws, hw, by rw [Paired.len p]; exact hi⟩⟩
  have hx : xs[i]? = some xs[i] := List.getElem?_eq_getElem hi
  obtain ⟨y, ey, rp⟩ := Rps.get p hx
  refine ⟨⟨ws, y, hw, ey⟩, ?_⟩
  rintro x H3 ⟨rfl, hy⟩
  have := hy ws hw
  rw [ey] at this; cases this
  exact ⟨F2, _, WLe.refl, R2, hx, rp⟩
theorem yields_tup {xs : List D} {a : Addr} {vs : List V} (s : TupAt K F a vs) (p : Rps K mg F m vs xs) (hz : xs.length ≤ sizeLine) : Yields K mg G F m xs (fun _ => True) (Itt K a) := by
  refine ⟨hz, fun G2 F2 m2 h2 H2 i le sg R2 kp => ?_⟩
  have hw : SqT K H2 a vs := sqT_mono (le.f.trans R2.sf) s
  have p2 := Rps.mono le p
  refine ⟨fun hi => ?_, fun hi _ => ⟨vs, hw, by rw [Paired.len p]; exact hi⟩⟩
  have hx : xs[i]? = some xs[i] := List.getElem?_eq_getElem hi
  obtain ⟨y, ey, rp⟩ := Rps.get p2 hx
  refine ⟨⟨vs, y, hw, ey⟩, ?_⟩
  rintro x H3 ⟨rfl, hy⟩
  have := hy vs hw
  rw [ey] at this; cases this
  exact ⟨F2, _, WLe.refl, R2, hx, rp⟩
theorem rngL_get {lo : Int} {n i : Nat} (h : i < n) : (rngL lo n)[i]? = some (.int (lo + (i : Nat))) := by
  unfold rngL
  rw [List.getElem?_map, List.getElem?_range h]; rfl
theorem yields_range (lo : Int) (n : Nat) (hz : n ≤ sizeLine) : Yields K mg G F m (rngL lo n) (fun _ => True) (Itr lo n) := by
  have hl : (rngL lo n).length = n := by unfold rngL; rw [List.length_map, List.length_range]
  refine ⟨by rw [hl]; exact hz, fun G2 F2 m2 h2 H2 i le sg R2 kp => ⟨fun hi => ⟨by rw [hl] at hi; exact hi, ?_⟩, fun hi _ => by rw [hl] at hi; exact hi⟩⟩
  rintro x H3 ⟨rfl, rfl⟩
  exact ⟨F2, _, WLe.refl, R2, rngL_get (by rw [hl] at hi; exact hi), .int _⟩
theorem Yields.mono {items : List D} {keep keep' : DH → Prop} {J : It} (y : Yields K mg G F m items keep J) (h : ∀ x, keep' x → keep x) : Yields K mg G F m items keep' J :=
  ⟨y.1, fun G2 F2 m2 h2 H2 i le sg R2 kp => y.2 G2 F2 m2 h2 H2 i le sg R2 (h _ kp)⟩
def enumL (xs : List D) : List D := (List.range xs.length).zipWith (fun i x => D.tup [.int (i : Nat), x]) xs
theorem enumL_length (xs : List D) : (enumL xs).length = xs.length := by unfold enumL; simp
theorem enumL_get {xs : List D} {i : Nat} {x : D} (h : xs[i]? = some x) : (enumL xs)[i]? = some (.tup [.int (i : Nat), x]) := by
  have hi := (List.getElem?_eq_some_iff.mp h).1
  unfold enumL
  rw [List.getElem?_zipWith, List.getElem?_range hi, h]
theorem rp_pair {F : Hp} {m : List Addr} {T : Addr} {x y : V} {d e : D} (R : Rel K mg G F m h H) (hT : H T = none) (p : Rp K mg F m x d) (q : Rp K mg F m y e) :
    ∃ F', WLe F m F' m ∧ Rel K mg G F' m h (upd H T (.tup [x, y])) ∧ Rp K mg F' m (.ref T) (.tup [d, e]) := R.tupN hT (.cons p (.cons q .nil))
theorem yields_enumL {v : V} {d : D} {xs : List D} (r : Rp K mg F m v d) (e : listOf d h = some xs) (R : Rel K mg G F m h H) (hz : xs.length ≤ sizeLine) : ∃ a, v = .ref a ∧ Yields K mg G F m (enumL xs) (keepOf d xs) (Ite K a) := by
  obtain ⟨a, vs, rfl, _, _⟩ := R.listOf r e
  refine ⟨a, rfl, by rw [enumL_length]; exact hz, fun G2 F2 m2 h2 H2 i le sg R2 kp => ?_⟩
  have e2 : listOf d h2 = some xs := by
    cases d <;> first
      | exact e
      | (simp only [keepOf, itemsOf] at kp; simp only [listOf]; exact kp)
  obtain ⟨a', ws, ea, hw, p⟩ := R2.listOf (r.mono le) e2
  cases ea
  rw [enumL_length]
  refine ⟨fun hi => ?_, fun hi _ => ⟨ws, hw, by rw [Paired.len p]; exact hi⟩⟩
  have hx : xs[i]? = some xs[i] := List.getElem?_eq_getElem hi
  obtain ⟨y, ey, rp⟩ := Rps.get p hx
  refine ⟨⟨ws, y, hw, ey⟩, ?_⟩
  rintro x H3 ⟨T, z, rfl, hT, rfl, hy⟩
  have := hy ws hw
  rw [ey] at this; cases this
  obtain ⟨F', l1, R', q⟩ := rp_pair R2 hT (.int (i : Nat)) rp
  exact ⟨F', _, l1, R', enumL_get hx, q⟩
theorem yields_enumT {a : Addr} {vs : List V} {xs : List D} (s : TupAt K F a vs) (p : Rps K mg F m vs xs) (hz : xs.length ≤ sizeLine) : Yields K mg G F m (enumL xs) (fun _ => True) (IteT K a) := by
  refine ⟨by rw [enumL_length]; exact hz, fun G2 F2 m2 h2 H2 i le sg R2 kp => ?_⟩
  have hw : SqT K H2 a vs := sqT_mono (le.f.trans R2.sf) s
  have p2 := Rps.mono le p
  rw [enumL_length]
  refine ⟨fun hi => ?_, fun hi hi2 => ⟨vs, hw, by rw [Paired.len p]; omega⟩⟩
  have hx : xs[i]? = some xs[i] := List.getElem?_eq_getElem hi
  obtain ⟨y, ey, rp⟩ := Rps.get p2 hx
  refine ⟨⟨vs, y, hw, ey⟩, ?_⟩
  rintro x H3 ⟨T, z, rfl, hT, rfl, hy⟩
  have := hy vs hw
  rw [ey] at this; cases this
  obtain ⟨F', l1, R', q⟩ := rp_pair R2 hT (.int (i : Nat)) rp
  exact ⟨F', _, l1, R', enumL_get hx, q⟩
def zipL (xs ys : List D) : List D := xs.zipWith (fun x y => D.tup [x, y]) ys
theorem zipL_length (xs ys : List D) : (zipL xs ys).length = min xs.length ys.length := by unfold zipL; simp
theorem zipL_get {xs ys : List D} {i : Nat} {x y : D} (h : xs[i]? = some x) (h' : ys[i]? = some y) : (zipL xs ys)[i]? = some (.tup [x, y]) := by
  unfold zipL
  rw [List.getElem?_zipWith, h, h']
theorem yields_zipL {v w : V} {d e : D} {xs ys : List D} (r : Rp K mg F m v d) (r' : Rp K mg F m w e) (ex : listOf d h = some xs) (ey : listOf e h = some ys) (R : Rel K mg G F m h H) (hz : xs.length ≤ sizeLine) :
    ∃ a b, v = .ref a ∧ w = .ref b ∧ Yields K mg G F m (zipL xs ys) (fun h => keepOf d xs h ∧ keepOf e ys h) (Itz K a b) := by
  obtain ⟨a, vs, rfl, _, _⟩ := R.listOf r ex
  obtain ⟨b, ws, rfl, _, _⟩ := R.listOf r' ey
  refine ⟨a, b, rfl, rfl, by rw [zipL_length]; omega, fun G2 F2 m2 h2 H2 i le sg R2 kp => ?_⟩
  have keepL : ∀ {d : D} {xs : List D}, listOf d h = some xs → keepOf d xs h2 → listOf d h2 = some xs := fun {d xs} e kp => by
    cases d <;> first
      | exact e
      | (simp only [keepOf, itemsOf] at kp; simp only [listOf]; exact kp)
  obtain ⟨a', vs, ea, hv, p⟩ := R2.listOf (r.mono le) (keepL ex kp.1)
  cases ea
  obtain ⟨b', ws, eb, hw, q⟩ := R2.listOf (r'.mono le) (keepL ey kp.2)
  cases eb
  rw [zipL_length]
  refine ⟨fun hi => ?_, fun hi _ => ⟨vs, ws, hv, hw, by rw [Paired.len p, Paired.len q]; omega⟩⟩
  have hx : xs[i]? = some (xs[i]'(by omega)) := List.getElem?_eq_getElem _
  have hy : ys[i]? = some (ys[i]'(by omega)) := List.getElem?_eq_getElem _
  obtain ⟨x1, e1, rp⟩ := Rps.get p hx
  obtain ⟨y1, e2, rq⟩ := Rps.get q hy
  refine ⟨⟨vs, ws, x1, y1, hv, hw, e1, e2⟩, ?_⟩
  rintro x H3 ⟨T, z1, z2, rfl, hT, rfl, g1, g2⟩
  have := g1 vs hv
  rw [e1] at this; cases this
  have := g2 ws hw
  rw [e2] at this; cases this
  obtain ⟨F', l1, R', q⟩ := rp_pair R2 hT rp rq
  exact ⟨F', _, l1, R', zipL_get hx hy, q⟩
theorem yields_zipT {a b : Addr} {vs ws : List V} {xs ys : List D} (s : TupAt K F a vs) (s' : TupAt K F b ws) (p : Rps K mg F m vs xs) (q : Rps K mg F m ws ys) (hz : xs.length ≤ sizeLine) : Yields K mg G F m (zipL xs ys) (fun _ => True) (RZ.ItzT K a b) := by
  refine ⟨by rw [zipL_length]; omega, fun G2 F2 m2 h2 H2 i le sg R2 kp => ?_⟩
  have hv : SqT K H2 a vs := sqT_mono (le.f.trans R2.sf) s
  have hw : SqT K H2 b ws := sqT_mono (le.f.trans R2.sf) s'
  have p2 := Rps.mono le p
  have q2 := Rps.mono le q
  rw [zipL_length]
  refine ⟨fun hi => ?_, fun hi _ => ⟨vs, ws, hv, hw, by rw [Paired.len p, Paired.len q]; omega⟩⟩
  have hx : xs[i]? = some (xs[i]'(by omega)) := List.getElem?_eq_getElem _
  have hy : ys[i]? = some (ys[i]'(by omega)) := List.getElem?_eq_getElem _
  obtain ⟨x1, e1, rp⟩ := Rps.get p2 hx
  obtain ⟨y1, e2, rq⟩ := Rps.get q2 hy
  refine ⟨⟨vs, ws, x1, y1, hv, hw, e1, e2⟩, ?_⟩
  rintro x H3 ⟨T, z1, z2, rfl, hT, rfl, g1, g2⟩
  have := g1 vs hv
  rw [e1] at this; cases this
  have := g2 ws hw
  rw [e2] at this; cases this
  obtain ⟨F', l1, R', q⟩ := rp_pair R2 hT rp rq
  exact ⟨F', _, l1, R', zipL_get hx hy, q⟩
end
/-- the tuple, or the list -/
def tupOf (d : D) : Option (List D) := match d with
  | .tup xs => some xs
  | _ => none
theorem itemsOf_cases {d : D} {h : DH} {xs : List D} (e : itemsOf d h = some xs) : d = .tup xs ∨ listOf d h = some xs := by
  cases d <;> first
    | exact .inr e
    | (cases e; exact .inl rfl)
    | cases e
section
variable {X : Cx} {W : WX} {tg e e2 : Expr} {te tu : TED} {ta : TAD} {p pos tpos : Pos} {elts : List Expr} {kk : Nat}
theorem di_seq (he : DE X W e te) : DI X W tg e (iSeq te) :=
  PI.imp (pi_seqA he) fun σ H R ⟨G, F, m, sd, h, QD, E, at_, t, hQ⟩ => LE.step at_ t fun F' m' h' H' v d le a' rp q => by
    split at q
    · rename_i xs ei
      rcases itemsOf_cases ei with rfl | el
      · cases rp with
        | tup s p =>
          rename_i a vs
          refine ⟨a, vs, rfl, .inr ⟨sqT_mono a'.R.sf s, fun hz => hQ _ _ ⟨F', m', h', xs, _, le, a'.R, yields_tup s p (by rw [← Paired.len p]; exact hz), q⟩⟩⟩
      · obtain ⟨a, vs, rfl, hv, p⟩ := a'.R.listOf rp el
        refine ⟨a, vs, rfl, .inl ⟨hv, fun hz => ?_⟩⟩
        obtain ⟨a2, e2, y⟩ := yields_lst rp el a'.R (by rw [← Paired.len p]; exact hz)
        cases e2
        exact hQ _ _ ⟨F', m', h', xs, _, le, a'.R, y, q⟩
    · exact q.elim
end
theorem PA.sz {X : Cx} {es : List Expr} {t : TA} (p : PA X es t) : PA X es (fun σ H Q => t σ H fun vs H1 => (∀ a xs, (SqL X.K H1 a xs ∨ SqT X.K H1 a xs) → xs.length ≤ sizeLine) → Q vs H1) :=
  ⟨fun pos pins s σ H Q I q => thn (p.run pos pins s σ H _ I q) fun u s' ⟨v, H', I', r, z⟩ => ⟨v, H', I', r, z fun a xs hv => by
    rcases hv with hv | hv
    · obtain ⟨_, _, _, z⟩ := I'.list hv; exact z
    · obtain ⟨_, _, _, z⟩ := I'.tuple hv; exact z⟩⟩
def wEnum : List D → DH → QIt → Prop := fun ds h Q => match ds with
  | [d] => match itemsOf d h with
    | some xs => Q (enumL xs) (keepOf d xs) h
    | none => False
  | _ => False
def wZip : List D → DH → QIt → Prop := fun ds h Q => match ds with
  | [d, e] => match d, e with
    | .tup xs, .tup ys => Q (zipL xs ys) (fun _ => True) h
    | d, e => match listOf d h, listOf e h with
      | some xs, some ys => Q (zipL xs ys) (fun h => keepOf d xs h ∧ keepOf e ys h) h
      | _, _ => False
  | _ => False
section
variable {X : Cx} {W : WX} {tg a b : Expr} {ta : TAD} {p pos tpos : Pos} {elts : List Expr} {kk : Nat}
theorem di_enum (ha : DA X W [a] ta) (hg : Gl X "enumerate") (hm : X.mg "enumerate" = none) (hs : starEach [a] X.env = [(false, eval a X.env)] := by rfl) :
    DI X W (.Tuple elts kk tpos) (.Call (.Name "enumerate" p) [a] [] pos) (iCall wEnum ta) :=
  PI.imp (pi_enumA hg hm ha hs) fun σ H R ⟨G, F, m, sd, h, QD, E, at_, t, hQ⟩ => LA.step at_ t fun F' m' h' H' vs ds hn le a' rp q => by
    unfold wEnum at q
    split at q
    · rename_i d
      obtain ⟨v, rfl, rp1⟩ := Rps.one rp
      split at q
      · rename_i xs ei
        rcases itemsOf_cases ei with rfl | el
        · cases rp1 with
          | tup s p =>
            rename_i a vs
            exact ⟨a, vs, rfl, Nat.le_refl _, .inr ⟨sqT_mono a'.R.sf s, fun hz => hQ _ _ ⟨F', m', h', _, _, le, a'.R, yields_enumT s p (by rw [← Paired.len p]; exact hz), q⟩⟩⟩
        · obtain ⟨a, vs, rfl, hv, p⟩ := a'.R.listOf rp1 el
          refine ⟨a, vs, rfl, Nat.le_refl _, .inl ⟨hv, fun hz => ?_⟩⟩
          obtain ⟨a2, e2, y⟩ := yields_enumL rp1 el a'.R (by rw [← Paired.len p]; exact hz)
          cases e2
          exact hQ _ _ ⟨F', m', h', _, _, le, a'.R, y, q⟩
      · exact q.elim
    · exact q.elim
theorem di_range1 (ha : DA X W [a] ta) (hg : Gl X "range") (hm : X.mg "range" = none) (hs : starEach [a] X.env = [(false, eval a X.env)] := by rfl) : DI X W tg (.Call (.Name "range" p) [a] [] pos) (iCall wRange1 ta) :=
  PI.imp (pi_range1 hg hm ha hs) fun σ H R ⟨G, F, m, sd, h, QD, E, at_, t, hQ⟩ => LA.step at_ t fun F' m' h' H' vs ds hn le a' rp q => by
    unfold wRange1 at q
    split at q
    · rename_i j
      obtain ⟨v, rfl, rp1⟩ := Rps.one rp
      cases rp1
      exact ⟨_, rfl, by omega, by omega, hQ _ _ ⟨F', m', h', _, _, le, a'.R, yields_range 0 j.toNat (by rw [sizeLine_eq]; omega), q.2⟩⟩
    · exact q.elim
theorem di_range2 (ha : DA X W [a, b] ta) (hg : Gl X "range") (hm : X.mg "range" = none) (hs : starEach [a, b] X.env = [(false, eval a X.env), (false, eval b X.env)] := by rfl) (hs2 : starEach [b] X.env = [(false, eval b X.env)] := by rfl) :
    DI X W tg (.Call (.Name "range" p) [a, b] [] pos) (iCall wRange2 ta) :=
  PI.imp (pi_range2 hg hm ha hs hs2) fun σ H R ⟨G, F, m, sd, h, QD, E, at_, t, hQ⟩ => LA.step at_ t fun F' m' h' H' vs ds hn le a' rp q => by
    unfold wRange2 at q
    split at q
    · rename_i i j
      obtain ⟨v, w, rfl, rp1, rq⟩ := Rps.two rp
      cases rp1; cases rq
      exact ⟨_, _, rfl, ⟨by omega, by omega, by omega, by omega⟩, hQ _ _ ⟨F', m', h', _, _, le, a'.R, yields_range i (j - i).toNat (by rw [sizeLine_eq]; omega), q.2⟩⟩
    · exact q.elim
theorem di_zip (ha : DA X W [a, b] ta) (hg : Gl X "zip") (hm : X.mg "zip" = none) (hs : starEach [a, b] X.env = (false, eval a X.env) :: starEach [b] X.env := by rfl) (hpl : (backTo pos (starEach [b] X.env)).any (·.1) = false := by rfl) :
    DI X W (.Tuple elts kk tpos) (.Call (.Name "zip" p) [a, b] [] pos) (iCall wZip ta) :=
  PI.imp (RZ.pi_zipA hg hm (PA.sz ha) hs hpl) fun σ H R ⟨G, F, m, sd, h, QD, E, at_, t, hQ⟩ => LA.step at_ t fun F' m' h' H' vs ds hn le a' rp q sz => by
    unfold wZip at q
    split at q
    · rename_i d e
      obtain ⟨v, w, rfl, rp1, rq⟩ := Rps.two rp
      split at q
      · cases rp1 with
        | tup s1 p1 =>
          cases rq with
          | tup s2 p2 =>
            rename_i a1 vs1 a2 vs2
            exact ⟨a1, a2, vs1, vs2, rfl, .inr ⟨sqT_mono a'.R.sf s1, sqT_mono a'.R.sf s2, hQ _ _ ⟨F', m', h', _, _, le, a'.R, yields_zipT s1 s2 p1 p2 (by rw [← Paired.len p1]; exact sz a1 vs1 (.inr (sqT_mono a'.R.sf s1))), q⟩⟩⟩
      · split at q
        · rename_i xs ys e1 e2
          obtain ⟨a1, vs1, rfl, hv1, p1⟩ := a'.R.listOf rp1 e1
          obtain ⟨a2, vs2, rfl, hv2, p2⟩ := a'.R.listOf rq e2
          obtain ⟨b1, b2, f1, f2, y⟩ := yields_zipL rp1 rq e1 e2 a'.R (by rw [← Paired.len p1]; exact sz a1 vs1 (.inl hv1))
          cases f1; cases f2
          exact ⟨a1, a2, vs1, vs2, rfl, .inl ⟨hv1, hv2, hQ _ _ ⟨F', m', h', _, _, le, a'.R, y, q⟩⟩⟩
        · exact q.elim
    · exact q.elim
end
end DL
end

section
set_option maxRecDepth 100000
set_option maxHeartbeats 4000000
namespace DL
open PySem PySem.Spec L2
/-! ## for -/
def forL (keep : DH → Prop) (g : TGD) (tb : TSD) (k : KD) : List D → Sg → DH → Prop
  | [], sd, h => keep h ∧ k.nx sd h
  | x :: r, sd, h => keep h ∧ g x sd h fun sd' h' => tb { k with nx := forL keep g tb k r, ct := forL keep g tb k r, bk := k.nx } sd' h'
def sFor (ti : TID) (g : TGD) (tb : TSD) : TSD := fun k sd h => ti sd h (fun items keep h1 => forL keep g tb k items sd h1) (k.E sd)
section
variable {X : Cx} {W : WX} {pos : Pos}
theorem ds_for {tg iter : Expr} {body : List Stmt} {vs : List Nat} {ti : TID} {g : TGD} {tb : TSD} (hp : PassesOwn (model X.prog X.w) X.A X.env X.xe) (hi : DI X W tg iter ti) (hg : DG X vs tg g) (hb : DSs X W body tb) (hc : X.calm = true := by rfl)
    (hs : ∀ x, foldedSetIterable iter X.env x = pure x := by intro _; rfl) : DS X W (.For tg iter body [] pos) (sFor ti g tb) :=
  PS.imp (ps_for hp hc hi hg hb hs) fun D σ H ⟨G, F, m, sd, h, k, R, S, t, a⟩ => by
    refine ⟨G, F, m, sd, h, _, _, a.at R S, t, ?_⟩
    rintro J H1 ⟨F1, m1, h1, items, keep, le1, R1, Y, q⟩
    refine ⟨fun i n σ H => i + n = items.length ∧ ∃ F2 m2 sd2 h2, WLe F1 m1 F2 m2 ∧ Rel X.K X.mg G F2 m2 h2 H ∧ SRel X.K X.mg F2 m2 σ sd2 ∧ forL keep g tb k (items.drop i) sd2 h2, ⟨items.length, by omega, F1, m1, sd, h1, WLe.refl, R1, S.mono le1, q⟩, ?_⟩
    rintro i n σ2 H2 ⟨hin, F2, m2, sd2, h2, le2, R2, S2, q2⟩
    have le12 := le1.trans le2
    cases hr : items.drop i with
    | nil =>
      rw [hr] at q2
      have hlen : items.length ≤ i := List.drop_eq_nil_iff.mp hr
      exact .inl ⟨(Y.2 G F2 m2 h2 H2 i le2 trivial R2 q2.1).2 hlen (by omega), a.nx _ _ ⟨F2, m2, sd2, h2, le12, R2, S2, q2.2⟩⟩
    | cons x r =>
      rw [hr] at q2
      have hi : i < items.length := by
        have := congrArg List.length hr
        rw [List.length_drop, List.length_cons] at this
        omega
      have hx : items[i]? = some x := by
        have := congrArg (fun l => l[0]?) hr
        simpa using this
      have hr' : items.drop (i + 1) = r := by
        have := congrArg List.tail hr
        simpa using this
      obtain ⟨go, yl⟩ := (Y.2 G F2 m2 h2 H2 i le2 trivial R2 q2.1).1 hi
      refine .inr ⟨go, fun σ' H' => ∃ F3 m3 sd3 h3, WLe F2 m2 F3 m3 ∧ Rel X.K X.mg G F3 m3 h3 H' ∧ SRel X.K X.mg F3 m3 σ' sd3 ∧ forL keep g tb k r sd3 h3, ?_, ?_⟩
      · rintro σ' H' ⟨F3, m3, sd3, h3, le3, R3, S3, q3⟩
        exact ⟨n - 1, by omega, by omega, F3, m3, sd3, h3, le2.trans le3, R3, S3, by rw [hr']; exact q3⟩
      · intro y H' hy
        obtain ⟨F3, d, le3, R3, ed, rp⟩ := yl y H' hy
        rw [hx] at ed; cases ed
        refine ⟨G, F3, m2, sd2, h2, _, x, R3, S2.mono le3, rp, q2.2, ?_⟩
        rintro σ4 H4 _ ⟨F4, m4, sd4, h4, le4, R4, S4, q4⟩
        have le14 := le12.trans (le3.trans le4)
        refine ⟨G, F4, m4, sd4, h4, _, R4, S4, q4, ?_, fun v H q => a.rt _ _ (q.mono le14), fun s H q => a.nx _ _ (q.mono le14), ?_, fun c d s H q => a.er _ _ _ _ (q.mono le14)⟩
        · rintro σ' H' ⟨F5, m5, sd5, h5, le5, R5, S5, q5⟩
          exact ⟨F5, m5, sd5, h5, (le3.trans le4).trans le5, R5, S5, q5⟩
        · rintro σ' H' ⟨F5, m5, sd5, h5, le5, R5, S5, q5⟩
          exact ⟨F5, m5, sd5, h5, (le3.trans le4).trans le5, R5, S5, q5⟩
end
/-! ## list comprehensions -/
def wipeD (sd : Sg) : List Nat → Sg
  | [] => sd
  | v :: vs => (wipeD sd vs).set v none
section
variable {K : PySem.W.Frag} {mg : Str → Option Value} {G F : Hp} {m : List Addr} {h : DH} {H : Hp}
theorem SRel.wipe {σ : L2.St} {sd : Sg} (S : SRel K mg F m σ sd) : ∀ vs : List Nat, SRel K mg F m (L2.wipe σ vs) (wipeD sd vs)
  | [] => S
  | v :: vs => SRel.setN none v (SRel.wipe S vs)
theorem wipe_wipe_set (τ : L2.St) (i : Nat) : ∀ vs : List Nat, wipe (τ.set i none) vs = (wipe τ vs).set i none
  | [] => rfl
  | v :: vs => by
    unfold L2.wipe
    rw [wipe_wipe_set τ i vs]
    by_cases hv : v = i
    · subst hv; rfl
    · rw [List.set_comm _ _ hv]
theorem wipe_idem (τ : L2.St) : ∀ vs : List Nat, wipe (wipe τ vs) vs = wipe τ vs
  | [] => rfl
  | v :: vs => by
    show (wipe ((wipe τ vs).set v none) vs).set v none = (wipe τ vs).set v none
    rw [wipe_wipe_set, wipe_idem τ vs, List.set_set]
theorem Rel.own {p : Addr} {vs : List V} (R : Rel K mg G F m h H) (hp : H p = none) : Rel K mg (upd G p (.lst vs)) F m h (upd H p (.lst vs)) := by
  have fa : F p = none := by
    cases e : F p with
    | none => rfl
    | some u => exact absurd (R.sf _ _ e) (by rw [hp]; exact fun q => nomatch q)
  refine ⟨fun b u e => ?_, fun b u e => ?_, fun b u e => ?_, fun n a o e1 e2 ne => ?_, fun b u e => ?_, R.ln, fun n o e ne => ?_, R.ij⟩
  · by_cases hb : b = p
    · subst hb; rw [upd_same] at e ⊢; exact e
    · rw [upd_ne hb] at e ⊢; exact R.sg _ _ e
  · by_cases hb : b = p
    · subst hb; rw [upd_same] at e; cases e; exact ⟨vs, rfl⟩
    · rw [upd_ne hb] at e; exact R.gk _ _ e
  · by_cases hb : b = p
    · subst hb; exact fa
    · rw [upd_ne hb] at e; exact R.gf _ _ e
  · obtain ⟨a', f1, f2, r⟩ := R.lv n o e2 ne
    rw [e1] at f1; cases f1
    have ha : a ≠ p := by
      rintro rfl
      rw [hp] at r
      cases r; exact ne rfl
    rw [upd_ne ha]; exact R.gl n a o e1 e2 ne
  · rw [upd_ne (ne_of_none (R.sf _ _ e) hp)]; exact R.sf _ _ e
  · obtain ⟨a, f1, f2, r⟩ := R.lv n o e ne
    have ha : a ≠ p := by
      rintro rfl
      rw [hp] at r
      cases r; exact ne rfl
    exact ⟨a, f1, f2, by rw [upd_ne ha]; exact r⟩
theorem Rel.ownSet {p : Addr} {o : HO} {vs : List V} (R : Rel K mg (upd G p o) F m h H) : Rel K mg (upd G p (.lst vs)) F m h (upd H p (.lst vs)) := by
  have fa : F p = none := R.gf p o upd_same
  refine ⟨fun b u e => ?_, fun b u e => ?_, fun b u e => ?_, fun n a x e1 e2 ne => ?_, fun b u e => ?_, R.ln, fun n x e ne => ?_, R.ij⟩
  · by_cases hb : b = p
    · subst hb; rw [upd_same] at e ⊢; exact e
    · rw [upd_ne hb] at e ⊢; exact R.sg _ _ (by rw [upd_ne hb]; exact e)
  · by_cases hb : b = p
    · subst hb; rw [upd_same] at e; cases e; exact ⟨vs, rfl⟩
    · rw [upd_ne hb] at e; exact R.gk _ u (by rw [upd_ne hb]; exact e)
  · by_cases hb : b = p
    · subst hb; exact fa
    · rw [upd_ne hb] at e; exact R.gf _ u (by rw [upd_ne hb]; exact e)
  · have z := R.gl n a x e1 e2 ne
    have ha : a ≠ p := by
      rintro rfl
      rw [upd_same] at z; cases z
    rw [upd_ne ha] at z ⊢; exact z
  · have hb : b ≠ p := by
      rintro rfl
      rw [fa] at e; cases e
    rw [upd_ne hb]; exact R.sf _ _ e
  · obtain ⟨a, f1, f2, r⟩ := R.lv n x e ne
    have z := R.gl n a x f1 e ne
    have ha : a ≠ p := by
      rintro rfl
      rw [upd_same] at z; cases z
    exact ⟨a, f1, f2, by rw [upd_ne ha]; exact r⟩
theorem Rel.ownOut {p : Addr} {o : HO} (R : Rel K mg (upd G p o) F m h H) (gp : G p = none) : WLe F m (upd F p o) m ∧ Rel K mg G (upd F p o) m h H ∧ H p = some o ∧ F p = none ∧ Rel K mg G F m h H := by
  have fa : F p = none := R.gf p o upd_same
  have hp : H p = some o := R.sg p o upd_same
  have le : WLe F m (upd F p o) m := ⟨fun b u e => by rw [upd_ne (ne_of_none e fa)]; exact e, [], by simp⟩
  have sub : ∀ b u, G b = some u → (upd G p o) b = some u := fun b u e => by rw [upd_ne (ne_of_none e gp)]; exact e
  have live : ∀ (n : Nat) (a : Addr) (x : O), m[n]? = some a → h[n]? = some x → x ≠ .dead → a ≠ p ∧ G a = none := fun n a x e1 e2 ne => by
    have z := R.gl n a x e1 e2 ne
    have ha : a ≠ p := by
      rintro rfl
      rw [upd_same] at z; cases z
    rw [upd_ne ha] at z
    exact ⟨ha, z⟩
  refine ⟨le, ⟨fun b u e => R.sg b u (sub b u e), fun b u e => R.gk b u (sub b u e), fun b u e => ?_, fun n a x e1 e2 ne => (live n a x e1 e2 ne).2, fun b u e => ?_, R.ln, fun n x e ne => ?_, R.ij⟩, hp, fa, ⟨fun b u e => R.sg b u (sub b u e), fun b u e => R.gk b u (sub b u e), fun b u e => R.gf b u (sub b u e), fun n a x e1 e2 ne => (live n a x e1 e2 ne).2, R.sf, R.ln, R.lv, R.ij⟩⟩
  · rw [upd_ne (ne_of_none e gp)]; exact R.gf b u (sub b u e)
  · by_cases hb : b = p
    · subst hb; rw [upd_same] at e; rw [hp]; exact e
    · rw [upd_ne hb] at e; exact R.sf _ _ e
  · obtain ⟨a, f1, f2, r⟩ := R.lv n x e ne
    exact ⟨a, f1, by rw [upd_ne (live n a x f1 e ne).1]; exact f2, r.mono le⟩
/-- .. as an object of the small heap -/
theorem Rel.ownRef {p : Addr} {vs : List V} {ds : List D} (R : Rel K mg (upd G p (.lst vs)) F m h H) (gp : G p = none) (r : Rps K mg F m vs ds) : WLe F m F (m ++ [p]) ∧ Rel K mg G F (m ++ [p]) (h ++ [.lst ds]) H ∧ Rp K mg F (m ++ [p]) (.ref p) (.ref h.length) := by
  obtain ⟨_, _, hp, fa, R0⟩ := R.ownOut gp
  have le : WLe F m F (m ++ [p]) := ⟨Same.refl F, [p], rfl⟩
  have live : ∀ (n : Nat) (a : Addr) (x : O), m[n]? = some a → h[n]? = some x → x ≠ .dead → a ≠ p := fun n a x e1 e2 ne => by
    have z := R.gl n a x e1 e2 ne
    rintro rfl
    rw [upd_same] at z; cases z
  have sp : ∀ {n : Nat} {x : O}, (h ++ [O.lst ds])[n]? = some x → h[n]? = some x ∨ (n = h.length ∧ x = .lst ds) := fun {n x} e => by
    by_cases hn : n < h.length
    · rw [List.getElem?_append_left hn] at e; exact .inl e
    · have hn' : h.length ≤ n := Nat.le_of_not_lt hn
      rw [List.getElem?_append_right hn'] at e
      have z := (List.getElem?_eq_some_iff.mp e).1
      simp only [List.length_singleton] at z
      have n0 : n - h.length = 0 := by omega
      rw [n0] at e
      exact .inr ⟨by omega, (by simpa using e : O.lst ds = x).symm⟩
  have fn : ∀ {k : Nat}, k = h.length → (m ++ [p])[k]? = some p := fun {k} hk => by rw [hk, ← R.ln]; simp
  have old : ∀ {n : Nat} {a : Addr} {x : O}, (m ++ [p])[n]? = some a → h[n]? = some x → m[n]? = some a := fun {n a x} e1 e2 => by
    have hl := (List.getElem?_eq_some_iff.mp e2).1
    rw [List.getElem?_append_left (by rw [R.ln]; exact hl)] at e1; exact e1
  refine ⟨le, ⟨R0.sg, R0.gk, R0.gf, fun n a x e1 e2 ne => ?_, R0.sf, by simp [R.ln], fun n x e ne => ?_, fun i j y o1 o2 e1 e2 g1 g2 n1 n2 => ?_⟩, .ref (fn rfl)⟩
  · rcases sp e2 with e2 | ⟨hn, rfl⟩
    · exact R0.gl n a x (old e1 e2) e2 ne
    · rw [fn hn] at e1; cases e1; exact gp
  · rcases sp e with e | ⟨hn, rfl⟩
    · obtain ⟨a, f1, f2, r'⟩ := R0.lv n x e ne
      exact ⟨a, le.get f1, f2, r'.mono le⟩
    · exact ⟨p, fn hn, fa, by rw [hp]; exact .lst (Rps.mono le r)⟩
  · rcases sp g1 with g1 | ⟨h1, rfl⟩
    · rcases sp g2 with g2 | ⟨h2, rfl⟩
      · exact R0.ij i j _ _ _ (old e1 g1) (old e2 g2) g1 g2 n1 n2
      · rw [fn h2] at e2; cases e2
        exact absurd rfl (live i _ _ (old e1 g1) g1 n1)
    · rw [fn h1] at e1; cases e1
      rcases sp g2 with g2 | ⟨h2, rfl⟩
      · exact absurd rfl (live j _ _ (old e2 g2) g2 n2)
      · rw [h1, h2]
end
end DL
end

section
set_option maxRecDepth 100000
set_option maxHeartbeats 4000000
namespace DL
open PySem PySem.Spec L2
abbrev W0 : WX := fun _ _ _ _ => False
def DTs (X : Cx) (ifs : List Expr) (t : TTD) : Prop := PTs X ifs (LT X.K X.mg W0 t)
def tYesD : TTD := fun _ h Q _ => Q true h
theorem PTs.imp {X : Cx} {ifs : List Expr} {t t' : TT} (p : PTs X ifs t) (h : ∀ σ H Q, t' σ H Q → t σ H Q) : PTs X ifs t' := ⟨fun pins s σ H Q I q => p.run pins s σ H Q I (h σ H Q q)⟩
theorem dts_nil {X : Cx} : DTs X [] tYesD := PTs.imp pts_nil fun σ H Q ⟨G, F, m, sd, h, QD, E, at_, t, hQ⟩ => hQ _ _ ⟨F, m, h, WLe.refl, at_.R, t⟩
theorem dts_one {X : Cx} {c : Expr} {t : TTD} (h : DT X W0 c t) : DTs X [c] t := pts_one h
def compL (keep : DH → Prop) (g : TGD) (tt : TTD) (te : TED) (sd : Sg) : List D → List D → DH → LD → Prop
  | [], acc, h, Q => keep h ∧ Q acc h
  | x :: r, acc, h, Q => keep h ∧ g x sd h fun sd' h1 => tt sd' h1 (fun b h2 => if b = true then te sd' h2 (fun d h3 => compL keep g tt te sd r (acc ++ [d]) h3 Q) EF else compL keep g tt te sd r acc h2 Q) EF
/-- a comprehension: its list is never changed; or changed later -/
def eComp (ti : TID) (g : TGD) (tt : TTD) (te : TED) (vs : List Nat) : TED := fun sd h Q E => ti sd h (fun items keep h1 => compL keep g tt te (wipeD sd vs) items [] h1 fun acc h2 => Q (.lst acc) h2) E
def eCompR (ti : TID) (g : TGD) (tt : TTD) (te : TED) (vs : List Nat) : TED := fun sd h Q E => ti sd h (fun items keep h1 => compL keep g tt te (wipeD sd vs) items [] h1 fun acc h2 => Q (.ref h2.length) (h2 ++ [.lst acc])) E
section
variable {X : Cx} {W : WX}
/-- the reading of a comprehension, whatever becomes of its list -/
theorem lc_read {ti : TID} {g : TGD} {tt : TTD} {te : TED} {vs : List Nat} {σ : L2.St} {H : Hp} {Q : VK} {G F : Hp} {m : List Addr} {sd : Sg} {h : DH} {E : ED} (QL' : LD) (at_ : At X.K X.mg G W F m sd h σ H E)
    (t : ti sd h (fun items keep h1 => compL keep g tt te (wipeD sd vs) items [] h1 QL') E)
    (fin : ∀ F' m' h' H' p vacc acc, WLe F m F' m' → G p = none → Rel X.K X.mg (upd G p (.lst vacc)) F' m' h' H' → Rps X.K X.mg F' m' vacc acc → QL' acc h' → Q (.ref p) H') :
    tLc (LI X.K X.mg W ti) (LG X.K X.mg vs g) (LT X.K X.mg W0 tt) (LE X.K X.mg W0 te) vs σ H Q := by
  refine ⟨G, F, m, sd, h, _, _, at_, t, ?_⟩
  rintro J H1 ⟨F1, m1, h1, items, keep, le1, R1, Y, q⟩
  intro p hp
  have gp : G p = none := by
    cases e : G p with
    | none => rfl
    | some u => exact absurd (R1.sg _ _ e) (by rw [hp]; exact fun q => nomatch q)
  have S1 := at_.S.mono le1
  refine ⟨fun i n H => i + n = items.length ∧ ∃ F2 m2 h2 vacc acc, WLe F1 m1 F2 m2 ∧ Rel X.K X.mg (upd G p (.lst vacc)) F2 m2 h2 H ∧ Rps X.K X.mg F2 m2 vacc acc ∧ acc.length ≤ i ∧ compL keep g tt te (wipeD sd vs) (items.drop i) acc h2 QL',
    ⟨items.length, by omega, F1, m1, h1, [], [], WLe.refl, R1.own hp, .nil, Nat.le_refl _, q⟩, ?_⟩
  rintro i n H2 ⟨hin, F2, m2, h2, vacc, acc, le2, R2, racc, hacc, q2⟩
  have le12 := le1.trans le2
  have sgG : Same G (upd G p (.lst vacc)) := fun b u e => by rw [upd_ne (ne_of_none e gp)]; exact e
  cases hr : items.drop i with
  | nil =>
    rw [hr] at q2
    have hlen : items.length ≤ i := List.drop_eq_nil_iff.mp hr
    exact .inl ⟨(Y.2 _ F2 m2 h2 H2 i le2 trivial R2 q2.1).2 hlen (by omega), fin F2 m2 h2 H2 p vacc acc le12 gp R2 racc q2.2⟩
  | cons x r =>
    rw [hr] at q2
    have hi : i < items.length := by
      have := congrArg List.length hr
      rw [List.length_drop, List.length_cons] at this
      omega
    have hx : items[i]? = some x := by
      have := congrArg (fun l => l[0]?) hr
      simpa using this
    have hr' : items.drop (i + 1) = r := by
      have := congrArg List.tail hr
      simpa using this
    obtain ⟨go, yl⟩ := (Y.2 _ F2 m2 h2 H2 i le2 trivial R2 q2.1).1 hi
    refine .inr ⟨go, fun H' => ∃ F3 m3 h3 vacc acc, WLe F1 m1 F3 m3 ∧ Rel X.K X.mg (upd G p (.lst vacc)) F3 m3 h3 H' ∧ Rps X.K X.mg F3 m3 vacc acc ∧ acc.length ≤ i + 1 ∧ compL keep g tt te (wipeD sd vs) r acc h3 QL', ?_, ?_⟩
    · rintro H' ⟨F3, m3, h3, va, ac, l3, R3, ra, ha, q3⟩
      exact ⟨n - 1, by omega, by omega, F3, m3, h3, va, ac, l3, R3, ra, ha, by rw [hr']; exact q3⟩
    · intro y H' hy
      obtain ⟨F3, d, le3, R3, ed, rp⟩ := yl y H' hy
      rw [hx] at ed; cases ed
      have S3 : SRel X.K X.mg F3 m2 (wipe σ vs) (wipeD sd vs) := (S1.mono (le2.trans le3)).wipe vs
      refine ⟨upd G p (.lst vacc), F3, m2, _, h2, _, x, R3, S3, rp, q2.2, ?_⟩
      rintro σ4 H4 hw ⟨F4, m4, sd4, h4, le4, R4, S4, q4⟩
      refine ⟨by rw [hw, wipe_idem], ?_⟩
      refine LT.step (⟨R4, S4, fun c dx H' ⟨_, _, _, _, _, _, _, _, _, z⟩ => z⟩ : At X.K X.mg (upd G p (.lst vacc)) W0 F4 m4 sd4 h4 σ4 H4 EF) q4 fun F5 m5 h5 H5 b le5 a5 q5 => ?_
      have le35 := le3.trans (le4.trans le5)
      cases b with
      | false =>
        rw [if_neg Bool.false_ne_true] at q5 ⊢
        exact ⟨F5, m5, h5, vacc, acc, le2.trans le35, a5.R, Rps.mono le35 racc, by omega, q5⟩
      | true =>
        rw [if_pos rfl] at q5 ⊢
        refine LE.step a5 q5 fun F6 m6 h6 H6 v d le6 a6 rv q6 => ?_
        have le36 := le35.trans le6
        have ra := Rps.mono le36 racc
        have hD : H6 p = some (.lst vacc) := a6.R.sg p _ upd_same
        exact ⟨vacc, hD, by rw [Paired.len racc]; have := Y.1; omega, F6, m6, h6, vacc ++ [v], acc ++ [d], le2.trans le36, a6.R.ownSet, ra.snoc rv, by rw [List.length_append, List.length_singleton]; omega, q6⟩
variable {elt tg iter : Expr} {ifs : List Expr} {scope : Scope} {own : List (Str × Nat)} {pos : Pos} {ti : TID} {g : TGD} {tt : TTD} {te : TED}
theorem de_lc (hN : X.N.Nodup) (hi : DI X W tg iter ti) (ok : BlkOk X.N X.env.scope scope own)
    (hg : ∀ (s : Shared) (H : Hp) (C : Addr) (cl : List (Str × Addr)) (fp : List Addr), DG (X.blk s H scope (compEnvC scope cl C X.env) fp) (own.map (fun (p : Str × Nat) => p.2)) tg g)
    (ht : ∀ (s : Shared) (H : Hp) (C : Addr) (cl : List (Str × Addr)) (fp : List Addr), DTs (X.blk s H scope (compEnvC scope cl C X.env) fp) ifs tt)
    (he : ∀ (s : Shared) (H : Hp) (C : Addr) (cl : List (Str × Addr)) (fp : List Addr), DE (X.blk s H scope (compEnvC scope cl C X.env) fp) W0 elt te) (hc : X.calm = true := by rfl) (hs : ∀ x, foldedSetIterable iter X.env x = pure x := by intro _; rfl) :
    DE X W (.ListComp elt [⟨tg, iter, ifs, 0⟩] scope pos) (eComp ti g tt te (own.map (fun (p : Str × Nat) => p.2))) :=
  PE.imp (pe_lc (g := LG X.K X.mg (own.map (fun (p : Str × Nat) => p.2)) g) (tt := LT X.K X.mg W0 tt) (te := LE X.K X.mg W0 te) hc hN hi ok hg ht he hs) fun σ H Q ⟨G, F, m, sd, h, QD, E, at_, t, hQ⟩ => lc_read _ at_ t fun F' m' h' H' p vacc acc le gp R r q => by
    obtain ⟨l, R', _, _, _⟩ := R.ownOut gp
    exact hQ _ _ ⟨_, m', h', _, le.trans l, R', .lst upd_same (Rps.mono l r), q⟩
theorem de_lcR (hN : X.N.Nodup) (hi : DI X W tg iter ti) (ok : BlkOk X.N X.env.scope scope own)
    (hg : ∀ (s : Shared) (H : Hp) (C : Addr) (cl : List (Str × Addr)) (fp : List Addr), DG (X.blk s H scope (compEnvC scope cl C X.env) fp) (own.map (fun (p : Str × Nat) => p.2)) tg g)
    (ht : ∀ (s : Shared) (H : Hp) (C : Addr) (cl : List (Str × Addr)) (fp : List Addr), DTs (X.blk s H scope (compEnvC scope cl C X.env) fp) ifs tt)
    (he : ∀ (s : Shared) (H : Hp) (C : Addr) (cl : List (Str × Addr)) (fp : List Addr), DE (X.blk s H scope (compEnvC scope cl C X.env) fp) W0 elt te) (hc : X.calm = true := by rfl) (hs : ∀ x, foldedSetIterable iter X.env x = pure x := by intro _; rfl) :
    DE X W (.ListComp elt [⟨tg, iter, ifs, 0⟩] scope pos) (eCompR ti g tt te (own.map (fun (p : Str × Nat) => p.2))) :=
  PE.imp (pe_lc (g := LG X.K X.mg (own.map (fun (p : Str × Nat) => p.2)) g) (tt := LT X.K X.mg W0 tt) (te := LE X.K X.mg W0 te) hc hN hi ok hg ht he hs) fun σ H Q ⟨G, F, m, sd, h, QD, E, at_, t, hQ⟩ => lc_read _ at_ t fun F' m' h' H' p vacc acc le gp R r q => by
    obtain ⟨l, R', rp⟩ := R.ownRef gp r
    exact hQ _ _ ⟨_, _, _, _, le.trans l, R', rp, q⟩
theorem ds_setLc {i : Nat} {y : Str} {py spos : Pos} (hN : X.N.Nodup) (hi : DI X W tg iter ti) (ok : BlkOk X.N X.env.scope scope own)
    (hg : ∀ (s : Shared) (H : Hp) (C : Addr) (cl : List (Str × Addr)) (fp : List Addr), DG (X.blk s H scope (compEnvC scope cl C X.env) fp) (own.map (fun (p : Str × Nat) => p.2)) tg g)
    (ht : ∀ (s : Shared) (H : Hp) (C : Addr) (cl : List (Str × Addr)) (fp : List Addr), DTs (X.blk s H scope (compEnvC scope cl C X.env) fp) ifs tt)
    (he : ∀ (s : Shared) (H : Hp) (C : Addr) (cl : List (Str × Addr)) (fp : List Addr), DE (X.blk s H scope (compEnvC scope cl C X.env) fp) W0 elt te)
    (hsw : swapsWith (.ListComp elt [⟨tg, iter, ifs, 0⟩] scope pos) (some (.Name y py)) spos.line X.env = pure true) (hy : X.N[i]? = some y := by rfl) (hyl : X.env.scope.names.lookup y = some .local := by rfl) (hc : X.calm = true := by rfl) (hs : ∀ x, foldedSetIterable iter X.env x = pure x := by intro _; rfl) :
    DS X W (.Assign [.Name y py] (.ListComp elt [⟨tg, iter, ifs, 0⟩] scope pos) spos) (sSet i (eComp ti g tt te (own.map (fun (p : Str × Nat) => p.2)))) :=
  PS.imp (ps_setLc (g := LG X.K X.mg (own.map (fun (p : Str × Nat) => p.2)) g) (tt := LT X.K X.mg W0 tt) (te := LE X.K X.mg W0 te) hc hN hy hyl hsw hi ok hg ht he hs) fun D σ H ⟨G, F, m, sd, h, k, R, S, t, a⟩ => lc_read _ (a.at R S) t fun F' m' h' H' p vacc acc le gp R r q => by
    obtain ⟨l, R', _, _, _⟩ := R.ownOut gp
    exact a.nx _ _ ⟨_, m', _, h', le.trans l, R', SRel.set (.lst upd_same (Rps.mono l r)) i (S.mono (le.trans l)), q⟩
theorem ds_setLcR {i : Nat} {y : Str} {py spos : Pos} (hN : X.N.Nodup) (hi : DI X W tg iter ti) (ok : BlkOk X.N X.env.scope scope own)
    (hg : ∀ (s : Shared) (H : Hp) (C : Addr) (cl : List (Str × Addr)) (fp : List Addr), DG (X.blk s H scope (compEnvC scope cl C X.env) fp) (own.map (fun (p : Str × Nat) => p.2)) tg g)
    (ht : ∀ (s : Shared) (H : Hp) (C : Addr) (cl : List (Str × Addr)) (fp : List Addr), DTs (X.blk s H scope (compEnvC scope cl C X.env) fp) ifs tt)
    (he : ∀ (s : Shared) (H : Hp) (C : Addr) (cl : List (Str × Addr)) (fp : List Addr), DE (X.blk s H scope (compEnvC scope cl C X.env) fp) W0 elt te)
    (hsw : swapsWith (.ListComp elt [⟨tg, iter, ifs, 0⟩] scope pos) (some (.Name y py)) spos.line X.env = pure true) (hy : X.N[i]? = some y := by rfl) (hyl : X.env.scope.names.lookup y = some .local := by rfl) (hc : X.calm = true := by rfl) (hs : ∀ x, foldedSetIterable iter X.env x = pure x := by intro _; rfl) :
    DS X W (.Assign [.Name y py] (.ListComp elt [⟨tg, iter, ifs, 0⟩] scope pos) spos) (sSet i (eCompR ti g tt te (own.map (fun (p : Str × Nat) => p.2)))) :=
  PS.imp (ps_setLc (g := LG X.K X.mg (own.map (fun (p : Str × Nat) => p.2)) g) (tt := LT X.K X.mg W0 tt) (te := LE X.K X.mg W0 te) hc hN hy hyl hsw hi ok hg ht he hs) fun D σ H ⟨G, F, m, sd, h, k, R, S, t, a⟩ => lc_read _ (a.at R S) t fun F' m' h' H' p vacc acc le gp R r q => by
    obtain ⟨l, R', rp⟩ := R.ownRef gp r
    exact a.nx _ _ ⟨_, _, _, _, le.trans l, R', SRel.set rp i (S.mono (le.trans l)), q⟩
end
/-! ## a def's promise, its call -/
def LSp (K : PySem.W.Frag) (mg : Str → Option Value) (n : Nat) (f : SpD) : Sp := fun vs H Q E => vs.length = n ∧ ∃ G F m h ds QD ED, Rel K mg G F m h H ∧ Rps K mg F m vs ds ∧ f ds h QD ED ∧ (∀ v H', QV K mg G F m QD v H' → Q v H') ∧ ∀ cls dx H', QE K mg G F m ED cls dx H' → E cls dx H'
/-- the def at its entry -/
def startD (n : Nat) (ds : List D) : Sg := ds.map some ++ List.replicate (n - ds.length) none
def bodyD (n : Nat) (t : TSD) : SpD := fun ds h Q E => t { nx := fun _ h' => Q .non h', rt := Q, er := fun nm ns fs _ h' => E nm ns fs h' } (startD n ds) h
def eFn (f : SpD) (t : TAD) : TED := fun sd h Q E => t sd h (fun ds h1 => f ds h1 Q E) E
section
variable {X : Cx} {W : WX} {k : Nat} {f : Addr} {fd : FuncData} {ps : List Str} {n : Nat} {sp : SpD} {x : Str} {p pos : Pos} {e : Expr} {es : List Expr} {t : TAD}
theorem de_call (F : FnOk X.prog X.w X.K X.mg X.base (L2.CX X.prog X.w) k f fd ps (LSp X.K X.mg n sp)) (hr : Room k X.A) (hg : Gl X x) (hm : X.mg x = some (.ref f)) (hk : PySem.W.keepIn X.K (.ref f) = true) (hb : Binds X.K fd ps []) (tk : Takes X W)
    (ha : DA X W (e :: es) t) (hn : (e :: es).length = n := by rfl) (hdb : (x == ("__debug__" : Str)) = false := by decide) (he : starEach (e :: es) X.env = (false, eval e X.env) :: starEach es X.env := by rfl) (hpl : (backTo pos (starEach es X.env)).any (·.1) = false := by rfl) :
    DE X W (.Call (.Name x p) (e :: es) [] pos) (eFn sp t) :=
  PE.imp (pe_callS F hr hg hm hk hb (fun σ => passAt tk σ) ha hdb he hpl) fun σ H Q ⟨G, F, m, sd, h, QD, E, at_, t, hQ⟩ => LA.step at_ t fun F' m' h' H' vs ds hl le a' rp q =>
    ⟨hl.trans hn, G, F', m', h', ds, QD, E, a'.R, rp, q, fun v H'' z => hQ _ _ (z.mono le), fun cls dx H'' z => a'.E _ _ _ z⟩
end
section
variable {P : Program} {w : World} {K : PySem.W.Frag} {mg : Str → Option Value} {base : Heap}
theorem startD_rel {G F : Hp} {m : List Addr} {N : List Str} {vs : List V} {ds : List D} (r : Rps K mg F m vs ds) : SRel K mg F m (L2.start N vs) (startD N.length ds) := by
  unfold L2.start startD
  rw [Paired.len r]
  have h1 : ∀ {vs : List V} {ds : List D}, Rps K mg F m vs ds → SRel K mg F m (vs.map some) (ds.map some) := by
    intro vs ds r
    induction r with
    | nil => exact .nil
    | cons p _ ih => exact .cons p ih
  have h2 : ∀ k : Nat, SRel K mg F m (List.replicate k none) (List.replicate k none) := fun k => by
    induction k with
    | zero => exact .nil
    | succ k ih => rw [List.replicate_succ, List.replicate_succ]; exact .cons True.intro ih
  have h3 : ∀ {a b : L2.St} {c d : Sg}, SRel K mg F m a c → SRel K mg F m b d → SRel K mg F m (a ++ b) (c ++ d) := by
    intro a b c d r s
    induction r with
    | nil => exact s
    | cons p _ ih => exact .cons p ih
  exact h3 (h1 r) (h2 _)
/-- a def by its body -/
theorem fn_ok {x qual : Str} {st : Stmt} {f : Addr} {fd : FuncData} {N ps : List Str} {k : Nat} {t : TSD} (F : Fun K x qual st f fd) (S : FnScope N ps (defScope st))
    (hbody : ∀ (cdv : Value) (A : Around) (outer : List Env) (s : Shared) (H : Hp) (E : XK), Room k (A.deeper (PyProof.Rows.envOfC qual (defScope st) s.heap.objs.size f cdv)) →
      DSs (cxOf (L2.CX P w) P w K mg base N qual (defScope st) f cdv A outer s H E) (fun cls d _ H' => E cls d H') (defBody st) t) : FnOk P w K mg base (L2.CX P w) (k + 1) f fd ps (LSp K mg ps.length (bodyD N.length t)) := by
  refine F.okX S (fun vs H Q E h => h.1) (fun cdv A outer s H vs Q E hr h => ?_)
  obtain ⟨hl, G, F, m, h, ds, QD, ED, R, rp, q, hQ, hE⟩ := h
  refine ⟨_, hbody cdv A outer s H E hr, G, F, m, _, h, _, R, startD_rel (G := G) rp, q, ?_⟩
  refine ⟨?_, fun v H' z => hQ _ _ z, fun σ' H' z => ?_, fun σ' H' z => ?_, fun cls dx σ' H' z => ?_⟩
  · rintro σ' H' ⟨F', m', sd', h', le, R', S', q'⟩
    exact hQ _ _ ⟨F', m', h', .non, le, R', .non, q'⟩
  · obtain ⟨_, _, _, _, _, _, _, z⟩ := z; exact z.elim
  · obtain ⟨_, _, _, _, _, _, _, z⟩ := z; exact z.elim
  · obtain ⟨F', m', sd', h', nm, ns, fs, le, R', S', x, q'⟩ := z
    exact hE _ _ _ ⟨F', m', h', nm, ns, fs, le, R', x, q'⟩
/-- a promise that says less -/
theorem fn_imp {f : Addr} {fd : FuncData} {ps : List Str} {k n : Nat} {sp sp' : SpD} (F : FnOk P w K mg base (L2.CX P w) k f fd ps (LSp K mg n sp)) (h : ∀ ds h Q E, ds.length = n → sp' ds h Q E → sp ds h Q E) : FnOk P w K mg base (L2.CX P w) k f fd ps (LSp K mg n sp') :=
  F.imp fun vs H Q E ⟨hl, G, F, m, h', ds, QD, ED, R, rp, q, hQ, hE⟩ => ⟨hl, G, F, m, h', ds, QD, ED, R, rp, h _ _ _ _ ((Paired.len rp).symm.trans hl) q, hQ, hE⟩
end
end DL
end

section
set_option maxRecDepth 100000
set_option maxHeartbeats 4000000
namespace DL
open PySem PySem.Spec L2
/-! ## letting go of the small heap's end -/
mutual
/-- no refs from n on -/
def nrD (n : Nat) : D → Bool
  | .ref k => decide (k < n)
  | .tup xs => nrDs n xs
  | .lst xs => nrDs n xs
  | .scr xs => nrDs n xs
  | .dic _ xs => nrDs n xs
  | .obj _ _ xs => nrDs n xs
  | .exc _ _ _ _ _ xs => nrDs n xs
  | _ => true
def nrDs (n : Nat) : List D → Bool
  | [] => true
  | x :: r => nrD n x && nrDs n r
end
def nrO (n : Nat) : O → Bool
  | .dead => true
  | .lst xs => nrDs n xs
  | .dk _ xs => nrDs n xs
  | .dt _ xs => nrDs n xs
  | .ins _ _ xs => nrDs n xs
def popQ (n : Nat) (Q : VD) : VD := fun d h => nrD n d = true ∧ (h.take n).all (nrO n) = true ∧ n ≤ h.length ∧ Q d (h.take n)
def popE (n : Nat) (E : ED) : ED := fun nm ns fs h => nrDs n fs = true ∧ (h.take n).all (nrO n) = true ∧ n ≤ h.length ∧ E nm ns fs (h.take n)
def popF (f : SpD) : SpD := fun ds h Q E => f ds h (popQ h.length Q) (popE h.length E)
section
variable {K : PySem.W.Frag} {mg : Str → Option Value} {G F : Hp} {m : List Addr} {h : DH} {H : Hp}
mutual
theorem Rp.shrink (n : Nat) : ∀ {v : V} {d : D}, Rp K mg F m v d → nrD n d = true → Rp K mg F (m.take n) v d
  | _, _, .non, _ => .non
  | _, _, .bl b, _ => .bl b
  | _, _, .int i, _ => .int i
  | _, _, .str x, _ => .str x
  | _, _, .ty x, _ => .ty x
  | _, .tup _, .tup s p, e => .tup s (Rps.shrink n p (by simpa only [nrD] using e))
  | _, .lst _, .lst s p, e => .lst s (Rps.shrink n p (by simpa only [nrD] using e))
  | _, .scr _, .scr s p, e => .scr s (Rps.shrink n p (by simpa only [nrD] using e))
  | _, .dic _ _, .dic a b p, e => .dic a b (Rps.shrink n p (by simpa only [nrD] using e))
  | _, .obj _ _ _, .obj a b c p, e => .obj a b c (Rps.shrink n p (by simpa only [nrD] using e))
  | _, .ref k, .ref e, h => .ref (by
      have hk : k < n := by simpa only [nrD, decide_eq_true_eq] using h
      rw [List.getElem?_take_of_lt hk]; exact e)
  | _, _, .glb e, _ => .glb e
  | _, _, .exc0 g, _ => .exc0 g
  | _, .exc _ _ _ _ _ _, .exc1 g e f p, h => .exc1 g e f (Rps.shrink n p (by simpa only [nrD] using h))
theorem Rps.shrink (n : Nat) : ∀ {vs : List V} {ds : List D}, Paired (Rp K mg F m) vs ds → nrDs n ds = true → Paired (Rp K mg F (m.take n)) vs ds
  | _, _, .nil, _ => .nil
  | _, x :: r', .cons p r, e => by
    have e' : nrD n x = true ∧ nrDs n r' = true := by simpa only [nrDs, Bool.and_eq_true] using e
    exact .cons (Rp.shrink n p e'.1) (Rps.shrink n r e'.2)
end
theorem Ro.shrink (n : Nat) {x : Option HO} {o : O} (r : Ro K mg F m x o) (e : nrO n o = true) : Ro K mg F (m.take n) x o := by
  cases r with
  | dead => exact .dead _
  | lst p => exact .lst (Rps.shrink n p e)
  | dk a p => exact .dk a (Rps.shrink n p e)
  | dt a p => exact .dt a (Rps.shrink n p e)
  | ins a b p => exact .ins a b (Rps.shrink n p e)
theorem Rel.shrink (R : Rel K mg G F m h H) (n : Nat) (e : (h.take n).all (nrO n) = true) : Rel K mg G F (m.take n) (h.take n) H := by
  have tk : ∀ {α : Type} {l : List α} {i : Nat} {x : α}, (l.take n)[i]? = some x → l[i]? = some x ∧ i < n := fun {α l i x} q => by
    have hi := (List.getElem?_eq_some_iff.mp q).1
    rw [List.length_take] at hi
    rw [List.getElem?_take_of_lt (by omega)] at q
    exact ⟨q, by omega⟩
  refine ⟨R.sg, R.gk, R.gf, fun i a o e1 e2 ne => R.gl i a o (tk e1).1 (tk e2).1 ne, R.sf, by rw [List.length_take, List.length_take, R.ln], fun i o e1 ne => ?_, fun i j a o u e1 e2 g1 g2 n1 n2 => R.ij i j a o u (tk e1).1 (tk e2).1 (tk g1).1 (tk g2).1 n1 n2⟩
  obtain ⟨a, f1, f2, r⟩ := R.lv i o (tk e1).1 ne
  refine ⟨a, by rw [List.getElem?_take_of_lt (tk e1).2]; exact f1, f2, r.shrink n ?_⟩
  exact List.all_eq_true.mp e o (List.mem_of_getElem? e1)
theorem WLe.shrink {F' : Hp} {m' : List Addr} {h : DH} (R : m.length = h.length) (le : WLe F m F' m') : WLe F m F' (m'.take h.length) := by
  obtain ⟨k, rfl⟩ := le.m
  exact ⟨le.f, [], by rw [← R]; simp⟩
theorem QV.pop {Q : VD} {v : V} {H' : Hp} (R : m.length = h.length) (q : QV K mg G F m (popQ h.length Q) v H') : QV K mg G F m Q v H' := by
  obtain ⟨F', m', h', d, le, R', rp, q1, q2, q3, q4⟩ := q
  exact ⟨F', _, _, d, le.shrink R, R'.shrink _ q2, rp.shrink _ q1, q4⟩
theorem QE.pop {E : ED} {c : Value} {dx : Option Addr} {H' : Hp} (R : m.length = h.length) (q : QE K mg G F m (popE h.length E) c dx H') : QE K mg G F m E c dx H' := by
  obtain ⟨F', m', h', nm, ns, fs, le, R', x, q1, q2, q3, q4⟩ := q
  refine ⟨F', _, _, nm, ns, fs, le.shrink R, R'.shrink _ q2, ?_, q4⟩
  obtain ⟨C, a, b, c⟩ := x
  refine ⟨C, a, b, ?_⟩
  rcases c with c | ⟨x, vs, e1, e2, e3, p⟩
  · exact .inl c
  · exact .inr ⟨x, vs, e1, e2, e3, Rps.shrink _ p q1⟩
end
section
variable {P : Program} {w : World} {K : PySem.W.Frag} {mg : Str → Option Value} {base : Heap}
theorem fn_pop {f : Addr} {fd : FuncData} {ps : List Str} {k n : Nat} {sp : SpD} (F : FnOk P w K mg base (L2.CX P w) k f fd ps (LSp K mg n sp)) : FnOk P w K mg base (L2.CX P w) k f fd ps (LSp K mg n (popF sp)) :=
  F.imp fun vs H Q E ⟨hl, G, F, m, h', ds, QD, ED, R, rp, q, hQ, hE⟩ => ⟨hl, G, F, m, h', ds, _, _, R, rp, q, fun v H' z => hQ _ _ (z.pop R.ln), fun c dx H' z => hE _ _ _ (z.pop R.ln)⟩
end
/-! ## fields -/
theorem ofString_inj {a b : String} (h : Str.ofString a = Str.ofString b) : a = b := by
  rw [Str.ofString_eq_toList, Str.ofString_eq_toList] at h
  have h1 : (a.toList.map Char.toNat) = (b.toList.map Char.toNat) := by
    injection h with h
    simpa using h
  have inj : ∀ {l r : List Char}, l.map Char.toNat = r.map Char.toNat → l = r := by
    intro l
    induction l with
    | nil => intro r e; cases r with
      | nil => rfl
      | cons _ _ => cases e
    | cons x l ih => intro r e; cases r with
      | nil => cases e
      | cons y r =>
        rw [List.map_cons, List.map_cons] at e
        injection e with e1 e2
        rw [ih e2, Char.toNat_inj.mp e1]
  exact String.toList_inj.mp (inj h1)
def fget : List String → List D → String → Option D
  | k :: ks, x :: xs, f => if k = f then some x else fget ks xs f
  | _, _, _ => none
def fput : List String → List D → String → D → List String × List D
  | k :: ks, x :: xs, f, d => if k = f then (k :: ks, d :: xs) else ((k :: (fput ks xs f d).1), (x :: (fput ks xs f d).2))
  | _, _, f, d => ([f], [d])
section
variable {K : PySem.W.Frag} {mg : Str → Option Value} {G F : Hp} {m : List Addr} {h : DH} {H : Hp}
theorem fget_lk {f : String} {d : D} : ∀ {ns : List String} {vs : List V} {ds : List D}, ns.length = vs.length → Rps K mg F m vs ds → fget ns ds f = some d → ∃ v, ((ns.map Str.ofString).zip vs).lookup (Str.ofString f) = some v ∧ Rp K mg F m v d
  | [], _, _, _, _, e => by simp [fget] at e
  | _ :: _, _, [], _, _, e => by simp [fget] at e
  | _ :: _, [], _ :: _, el, _, e => by simp at el
  | k :: ks, v :: vs, x :: xs, el, .cons p r, e => by
    unfold fget at e
    have e1 : (((k :: ks).map Str.ofString).zip (v :: vs)) = (Str.ofString k, v) :: (ks.map Str.ofString).zip vs := rfl
    rw [e1, List.lookup_cons]
    by_cases hk : k = f
    · subst hk
      rw [if_pos rfl] at e; cases e
      refine ⟨v, ?_, p⟩
      rw [beq_self_eq_true]
    · rw [if_neg hk] at e
      have : (Str.ofString f == Str.ofString k) = false := beq_eq_false_iff_ne.mpr fun q => hk (ofString_inj q).symm
      rw [this]
      exact fget_lk (by simpa using el) r e
theorem fget_no {f : String} : ∀ {ns : List String} {vs : List V}, ns.length = vs.length → f ∉ ns → ((ns.map Str.ofString).zip vs).lookup (Str.ofString f) = none
  | [], _, _, _ => rfl
  | k :: ks, v :: vs, e, h => by
    have e1 : (((k :: ks).map Str.ofString).zip (v :: vs)) = (Str.ofString k, v) :: (ks.map Str.ofString).zip vs := rfl
    rw [e1, List.lookup_cons]
    have hk : k ≠ f := fun q => h (q ▸ List.mem_cons_self)
    have : (Str.ofString f == Str.ofString k) = false := beq_eq_false_iff_ne.mpr fun q => hk (ofString_inj q).symm
    rw [this]
    exact fget_no (by simpa using e) (fun q => h (List.mem_cons_of_mem _ q))
theorem fput_put {f : String} {v : V} {d : D} (q : Rp K mg F m v d) : ∀ {ns : List String} {vs : List V} {ds : List D}, ns.length = vs.length → Rps K mg F m vs ds →
    ∃ vs', (fput ns ds f d).1.length = vs'.length ∧ putF (Str.ofString f) v ((ns.map Str.ofString).zip vs) = ((fput ns ds f d).1.map Str.ofString).zip vs' ∧ Rps K mg F m vs' (fput ns ds f d).2
  | [], [], _, _, .nil => ⟨[v], rfl, rfl, .cons q .nil⟩
  | k :: ks, w :: ws, x :: xs, e, .cons p r => by
    unfold fput
    have e1 : (((k :: ks).map Str.ofString).zip (w :: ws)) = (Str.ofString k, w) :: (ks.map Str.ofString).zip ws := rfl
    rw [e1]
    by_cases hk : k = f
    · subst hk
      rw [if_pos rfl]
      refine ⟨v :: ws, by simpa using e, ?_, .cons q r⟩
      unfold putF
      rw [if_pos rfl]; rfl
    · rw [if_neg hk]
      obtain ⟨vs', a, b, c⟩ := fput_put (f := f) q (ns := ks) (by simpa using e) r
      refine ⟨w :: vs', by simpa using a, ?_, .cons p c⟩
      unfold putF
      rw [if_neg (fun z => hk (ofString_inj z)), b]; rfl
/-- class, fields' names and values of an instance -/
def insOf (d : D) (h : DH) : Option (String × List String × List D) := match d with
  | .obj c ns xs => some (c, ns, xs)
  | .ref n => match h[n]? with
    | some (.ins c ns xs) => some (c, ns, xs)
    | _ => none
  | _ => none
theorem Rel.ins (R : Rel K mg G F m h H) {v : V} {d : D} {c : String} {ns : List String} {xs : List D} (r : Rp K mg F m v d) (e : insOf d h = some (c, ns, xs)) :
    ∃ a C dx vs, v = .ref a ∧ H a = some (.ins C dx ((ns.map Str.ofString).zip vs)) ∧ mg (Str.ofString c) = some (.ref C) ∧ ns.length = vs.length ∧ Rps K mg F m vs xs := by
  cases r with
  | obj a b c p => cases e; exact ⟨_, _, _, _, rfl, R.sf _ _ b, c, a, p⟩
  | ref hn =>
    simp only [insOf] at e
    split at e
    · rename_i n c' ns' ys q
      cases e
      obtain ⟨a, e1, e2, r⟩ := R.lv _ _ q (fun q => nomatch q)
      rw [hn] at e1; cases e1
      generalize z : H _ = o at r
      cases r with
      | ins a b p => exact ⟨_, _, _, _, rfl, z, b, a, p⟩
    · cases e
  | _ => cases e
end
/-- what the text says of a class's field -/
structure FldT (K : PySem.W.Frag) (mg : Str → Option Value) (c f : String) : Prop where
  cl : ∀ C, mg (Str.ofString c) = some (.ref C) → Cls K C
  no : ∀ C, mg (Str.ofString c) = some (.ref C) → NoAttr K C (Str.ofString f)
/-- e.f, e of a class among cs -/
def eFld (cs : List String) (f : String) (t : TED) : TED := fun sd h Q E => t sd h (fun d h1 => match insOf d h1 with
  | some (c, ns, xs) => c ∈ cs ∧ (match fget ns xs f with
    | some y => Q y h1
    | none => False)
  | none => False) E
/-- e.f = v -/
def sFldD (cs : List String) (f : String) (t u : TED) : TSD := fun k sd h => u sd h (fun y h1 => t sd h1 (fun d h2 => match d with
  | .ref n => match h2[n]? with
    | some (.ins c ns xs) => c ∈ cs ∧ ns.length < 1000 ∧ k.nx sd (h2.set n (.ins c (fput ns xs f y).1 (fput ns xs f y).2))
    | _ => False
  | _ => False) (k.E sd)) (k.E sd)
section
variable {X : Cx} {W : WX} {o e : Expr} {to te : TED} {f : String} {cs : List String} {pos pos' : Pos}
theorem de_fld (T : ∀ c ∈ cs, FldT X.K X.mg c f) (he : DE X W e te) (hb : attributeBase e (Str.ofString f) X.env (eval e X.env) = eval e X.env := by rfl) : DE X W (.Attribute e (Str.ofString f) pos) (eFld cs f te) :=
  PE.imp (pe_fld he hb) fun σ H Q ⟨G, F, m, sd, h, QD, E, at_, t, hQ⟩ => LE.step at_ t fun F' m' h' H' v d le a' rp q => by
    split at q
    · rename_i c ns xs ei
      obtain ⟨a, C, dx, vs, rfl, hH, hC, hl, p⟩ := a'.R.ins rp ei
      obtain ⟨hc, q⟩ := q
      split at q
      · rename_i y ey
        obtain ⟨w, l, rw'⟩ := fget_lk hl p ey
        exact ⟨a, C, dx, _, w, rfl, hH, (T c hc).cl C hC, (T c hc).no C hC, l, hQ _ _ ⟨F', m', h', y, le, a'.R, rw', q⟩⟩
      · exact q.elim
    · exact q.elim
theorem ds_fld (T : ∀ c ∈ cs, FldT X.K X.mg c f) (ho : DE X W o to) (he : DE X W e te) (hs : swapsWith e (some (.Attribute o (Str.ofString f) pos')) pos.line X.env = pure false := by rfl) : DS X W (.Assign [.Attribute o (Str.ofString f) pos'] e pos) (sFldD cs f to te) :=
  PS.imp (ps_fld ho he hs) fun D σ H ⟨G, F, m, sd, h, k, R, S, t, a⟩ => LE.step (a.at R S) t fun F1 m1 h1 H1 v d le1 a1 rv q1 => LE.step a1 q1 fun F2 m2 h2 H2 ov od le2 a2 ro q2 => by
    split at q2
    · rename_i n
      split at q2
      · rename_i c ns xs hn
        obtain ⟨hc, hl, q3⟩ := q2
        cases ro with
        | ref hm =>
        obtain ⟨b, e1, e2, r⟩ := a2.R.lv n _ hn (fun q => nomatch q)
        rw [hm] at e1; cases e1
        generalize z : H2 _ = oo at r
        cases r with
        | ins el hC p =>
        rename_i C dx ws
        obtain ⟨vs', g1, g2, g3⟩ := fput_put (f := f) (rv.mono le2) el p
        refine ⟨_, C, dx, _, rfl, z, (T c hc).cl C hC, (T c hc).no C hC, ?_, ?_⟩
        · rw [List.length_zip, List.length_map, ← el, Nat.min_self]; exact hl
        · rw [g2]
          exact a.nx _ _ ⟨F2, m2, sd, _, le1.trans le2, a2.R.put hn (fun q => nomatch q) hm (.ins g1 hC g3), a2.S, q3⟩
      · exact q2.elim
    · exact q2.elim
end
end DL
end

section
set_option maxRecDepth 100000
set_option maxHeartbeats 4000000
namespace DL
open PySem PySem.Spec L2
/-! ## isinstance -/
def tyNs : List String := ["int", "bool", "tuple", "list", "str", "dict"]
def tyB (d : D) (h : DH) : Option String := match d with
  | .non => some "NoneType"
  | .bl _ => some "bool"
  | .int _ => some "int"
  | .str _ => some "str"
  | .tup _ => some "tuple"
  | .lst _ => some "list"
  | .dic _ _ => some "dict"
  | .ref n => match h[n]? with
    | some (.lst _) => some "list"
    | some (.dk _ _) => some "dict"
    | some (.dt _ _) => some "dict"
    | _ => none
  | _ => none
def tyIs (a b : String) : Bool := a == b || (a == "bool" && b == "int")
def ownB (d : D) (h : DH) : Option String := (insOf d h).map (·.1)
structure OwnT (K : PySem.W.Frag) (mg : Str → Option Value) (cs : List String) : Prop where
  cl : ∀ c ∈ cs, ∀ C, mg (Str.ofString c) = some (.ref C) → Cls K C
  ha : ∀ c ∈ cs, ∀ C, mg (Str.ofString c) = some (.ref C) → PySem.W.findIn K (.ref C) "__class__" = some (some (.builtin "object.__class__"))
  hm : ∀ c ∈ cs, ∀ C, mg (Str.ofString c) = some (.ref C) → PySem.W.mroIn K C (.type "object") = some true
  hn : PySem.W.specialIn K (.builtin "object.__class__") "__get__" = some (some (.builtin "getset_descriptor.__get__"))
  ht : PySem.W.takesIn K (.builtin "object.__class__") = some true
  ob : ∀ c ∈ cs, ∀ C, mg (Str.ofString c) = some (.ref C) → ∀ n ∈ tyNs, PySem.W.kitOne K (.ref C) (.type n) = some false
  bo : ∀ c ∈ cs, ∀ C, mg (Str.ofString c) = some (.ref C) → ∀ n ∈ "NoneType" :: tyNs, PySem.W.kitOne K (.type n) (.ref C) = some false
  oo : ∀ c ∈ cs, ∀ C, mg (Str.ofString c) = some (.ref C) → ∀ c' ∈ cs, ∀ C', mg (Str.ofString c') = some (.ref C') → PySem.W.kitOne K (.ref C') (.ref C) = some (decide (c' = c))
  ex : ∀ c ∈ cs, ∃ C, mg (Str.ofString c) = some (.ref C)
def fIsi (cs : List String) : FC := fun ds h Q => match ds with
  | [x, .ty n] => n ∈ tyNs ∧ (match tyB x h with
    | some t => Q (.bl (tyIs t n)) h
    | none => match ownB x h with
      | some c => c ∈ cs ∧ Q (.bl false) h
      | none => False)
  | [x, .glb c] => c ∈ cs ∧ (match tyB x h with
    | some _ => Q (.bl false) h
    | none => match ownB x h with
      | some c' => c' ∈ cs ∧ Q (.bl (decide (c' = c))) h
      | none => False)
  | _ => False
theorem kitB_tab : (("NoneType" :: tyNs).all fun a => tyNs.all fun b => kitB a b == some (tyIs a b)) = true := by decide +kernel
theorem kitB_of {a b : String} (ha : a ∈ "NoneType" :: tyNs) (hb : b ∈ tyNs) : kitB a b = some (tyIs a b) := by
  have h := List.all_eq_true.mp (List.all_eq_true.mp kitB_tab a ha) b hb
  exact beq_iff_eq.mp h
section
variable {K : PySem.W.Frag} {mg : Str → Option Value} {G F : Hp} {m : List Addr} {h : DH} {H : Hp}
theorem Rel.tyB (R : Rel K mg G F m h H) {v : V} {d : D} {t : String} (r : Rp K mg F m v d) (e : DL.tyB d h = some t) : TyX K H v (.type t) ∧ t ∈ "NoneType" :: tyNs := by
  cases r with
  | non => cases e; exact ⟨.base .non, by decide⟩
  | bl b => cases e; exact ⟨.base (.bl b), by decide⟩
  | int b => cases e; exact ⟨.base (.int b), by decide⟩
  | str b => cases e; exact ⟨.base (.str b), by decide⟩
  | tup s p =>
    cases e
    refine ⟨?_, by decide⟩
    rcases s with s | ⟨o, its, n, e1, e2, _⟩
    · exact .base (.tup (R.sf _ _ s))
    · exact .kTuple e1 e2
  | lst s p => cases e; exact ⟨.base (.lst (R.sf _ _ s)), by decide⟩
  | dic a b c => cases e; exact ⟨.base (.dK (R.sf _ _ b)), by decide⟩
  | ref hn =>
    simp only [DL.tyB] at e
    split at e
    · rename_i n xs q
      cases e
      obtain ⟨a', vs, e1, _, e3, p⟩ := R.lst q
      rw [hn] at e1; cases e1
      exact ⟨.base (.lst e3), by decide⟩
    · rename_i n ks xs q
      cases e
      obtain ⟨a, e1, e2, r⟩ := R.lv _ _ q (fun q => nomatch q)
      rw [hn] at e1; cases e1
      generalize z : H _ = o at r
      cases r with
      | dk a b => exact ⟨.base (.dK z), by decide⟩
    · rename_i n ks xs q
      cases e
      obtain ⟨a, e1, e2, r⟩ := R.lv _ _ q (fun q => nomatch q)
      rw [hn] at e1; cases e1
      generalize z : H _ = o at r
      cases r with
      | dt a b => exact ⟨.base (.dT z), by decide⟩
    · cases e
  | _ => cases e
theorem Rel.ownB {cs : List String} (T : OwnT K mg cs) (R : Rel K mg G F m h H) {v : V} {d : D} {c : String} (r : Rp K mg F m v d) (e : DL.ownB d h = some c) (hc : c ∈ cs) : ∃ C, mg (Str.ofString c) = some (.ref C) ∧ TyX K H v (.ref C) := by
  unfold DL.ownB at e
  rw [Option.map_eq_some_iff] at e
  obtain ⟨⟨c', ns, xs⟩, e1, rfl⟩ := e
  obtain ⟨a, C, dx, vs, rfl, hH, hC, hl, p⟩ := R.ins r e1
  exact ⟨C, hC, .base (.ins hH (T.cl _ hc C hC) (T.ha _ hc C hC) T.hn T.ht (T.hm _ hc C hC))⟩
end
section
variable {X : Cx}
theorem dc_isi {cs : List String} (T : OwnT X.K X.mg cs) : CallDD X (.builtin "isinstance") (fIsi cs) := ⟨_, call_isi, fun G F m h H vs ds QD Q R rp q hQ => by
  unfold fIsi at q
  split at q
  · rename_i x n
    obtain ⟨v, w, rfl, r1, r2⟩ := Rps.two rp
    cases r2
    obtain ⟨hn, q⟩ := q
    split at q
    · rename_i t et
      obtain ⟨ty, ht⟩ := R.tyB r1 et
      exact ⟨v, .ty n, _, .type n, _, rfl, .ty n, ty, kit_ty (kitB_of ht hn), hQ _ _ ⟨F, m, h, _, WLe.refl, R, .bl _, q⟩⟩
    · split at q
      · rename_i c ec
        obtain ⟨hc, q⟩ := q
        obtain ⟨C, hC, ty⟩ := R.ownB T r1 ec hc
        exact ⟨v, .ty n, _, .type n, _, rfl, .ty n, ty, T.ob c hc C hC n hn, hQ _ _ ⟨F, m, h, _, WLe.refl, R, .bl _, q⟩⟩
      · exact q.elim
  · rename_i x c
    obtain ⟨v, w, rfl, r1, r2⟩ := Rps.two rp
    cases r2 with
    | glb hg =>
    rename_i A
    obtain ⟨hc, q⟩ := q
    split at q
    · rename_i t et
      obtain ⟨ty, ht⟩ := R.tyB r1 et
      exact ⟨v, .ref A, _, .ref A, _, rfl, .own A, ty, T.bo c hc A hg t ht, hQ _ _ ⟨F, m, h, _, WLe.refl, R, .bl _, q⟩⟩
    · split at q
      · rename_i c' ec
        obtain ⟨hc', q⟩ := q
        obtain ⟨C, hC, ty⟩ := R.ownB T r1 ec hc'
        exact ⟨v, .ref A, _, .ref A, _, rfl, .own A, ty, T.oo c hc A hg c' hc' C hC, hQ _ _ ⟨F, m, h, _, WLe.refl, R, .bl _, q⟩⟩
      · exact q.elim
  · exact q.elim⟩
/-- isinstance(x, (T, ..)), built-in types alone -/
def tysOf : List D → Option (List String)
  | [] => some []
  | .ty n :: r => (tysOf r).map fun l => n :: l
  | _ :: _ => none
def fIsiT (cs : List String) : FC := fun ds h Q => match ds with
  | [x, .tup ts] => match tysOf ts with
    | some ns => (∀ n ∈ ns, n ∈ tyNs) ∧ (match tyB x h with
      | some t => Q (.bl (ns.any fun n => tyIs t n)) h
      | none => match ownB x h with
        | some c => c ∈ cs ∧ Q (.bl false) h
        | none => False)
    | none => False
  | _ => False
theorem kitAny_of {K : PySem.W.Frag} {t : Value} {f : String → Bool} : ∀ {ns : List String}, (∀ n ∈ ns, PySem.W.kitOne K t (.type n) = some (f n)) → PySem.W.kitAny K t (ns.map Value.type) = some (ns.any f)
  | [], _ => rfl
  | n :: r, h => by
    have h1 := h n List.mem_cons_self
    have h2 := kitAny_of (ns := r) fun x hx => h x (List.mem_cons_of_mem _ hx)
    show PySem.W.kitAny K t (.type n :: r.map Value.type) = _
    unfold PySem.W.kitAny
    rw [h1, List.any_cons]
    cases f n with
    | true => rfl
    | false => simpa using h2
theorem tysOf_some : ∀ {ts : List D} {ns : List String}, tysOf ts = some ns → ts = ns.map D.ty
  | [], _, e => by cases e; rfl
  | d :: r, ns, e => by
    cases d with
    | ty n =>
      simp only [tysOf, Option.map_eq_some_iff] at e
      obtain ⟨l, e1, rfl⟩ := e
      rw [tysOf_some e1]; rfl
    | _ => simp only [tysOf] at e; cases e
theorem Rps.tys {K mg} {F : Hp} {m : List Addr} : ∀ {vs : List V} {ns : List String}, Rps K mg F m vs (ns.map D.ty) → vs = ns.map V.ty
  | _, [], .nil => rfl
  | _, _ :: _, .cons p r => by cases p; rw [Rps.tys r]; rfl
theorem clsV_tys : ∀ ns : List String, Paired ClsV (ns.map V.ty) (ns.map Value.type)
  | [] => .nil
  | n :: r => .cons (.ty n) (clsV_tys r)
theorem dc_isiT {cs : List String} (T : OwnT X.K X.mg cs) : CallDD X (.builtin "isinstance") (fIsiT cs) := ⟨_, CallR.or call_isiT call_isiK, fun G F m h H vs ds QD Q R rp q hQ => by
  unfold fIsiT at q
  split at q
  · rename_i x ts
    obtain ⟨v, w, rfl, r1, r2⟩ := Rps.two rp
    cases r2 with
    | tup s p =>
    rename_i A ws
    split at q
    · rename_i ns e
      rw [tysOf_some e] at p
      have ew := Rps.tys p
      subst ew
      obtain ⟨hn, q⟩ := q
      have go : ∀ (t : Value) (b : Bool), TyX X.K H v t → PySem.W.kitAny X.K t (ns.map Value.type) = some b → Q (.bl b) H → rIsiT X.K [v, .ref A] H Q ∨ rIsiK X.K [v, .ref A] H Q := fun t b ty k z => by
        rcases s with s | ⟨o, its, n, e1, e2, e3, e4, e5⟩
        · exact .inl ⟨v, A, _, t, _, b, rfl, R.sf _ _ s, clsV_tys ns, ty, k, z⟩
        · have ev := ClsV.all (clsV_tys ns) e5
          obtain ⟨c0, d0, dt0, sl0⟩ := o
          cases (show c0 = .type "tuple" from e2)
          cases (show dt0 = .seq its n from e3)
          exact .inr ⟨v, A, d0, ns.map Value.type, n, sl0, t, b, rfl, by rw [← ev]; exact e1, ty, k, z⟩
      split at q
      · rename_i t et
        obtain ⟨ty, ht⟩ := R.tyB r1 et
        exact go _ _ ty (kitAny_of fun n h' => kit_ty (kitB_of ht (hn n h'))) (hQ _ _ ⟨F, m, h, _, WLe.refl, R, .bl _, q⟩)
      · split at q
        · rename_i c ec
          obtain ⟨hc, q⟩ := q
          obtain ⟨C, hC, ty⟩ := R.ownB T r1 ec hc
          refine go _ false ty ?_ (hQ _ _ ⟨F, m, h, _, WLe.refl, R, .bl _, q⟩)
          rw [kitAny_of (f := fun _ => false) fun n h' => T.ob c hc C hC n (hn n h')]
          simp
        · exact q.elim
    · exact q.elim
  · exact q.elim⟩
end
end DL
end

section
set_option maxRecDepth 100000
set_option maxHeartbeats 4000000
namespace DL
open PySem PySem.Spec L2
/-! ## C(..), C a class of the text with its __init__ -/
section
variable {K : PySem.W.Frag} {mg : Str → Option Value} {G F : Hp} {m : List Addr} {h : DH} {H : Hp}
/-- something new that no world tells of -/
theorem Rel.skip {p : Addr} {o : HO} (R : Rel K mg G F m h H) (hp : H p = none) : Rel K mg G F m h (upd H p o) := by
  refine ⟨fun b u e => ?_, R.gk, R.gf, R.gl, fun b u e => ?_, R.ln, fun n x e ne => ?_, R.ij⟩
  · rw [upd_ne (ne_of_none (R.sg _ _ e) hp)]; exact R.sg _ _ e
  · rw [upd_ne (ne_of_none (R.sf _ _ e) hp)]; exact R.sf _ _ e
  · obtain ⟨a, f1, f2, r⟩ := R.lv n x e ne
    have ha : a ≠ p := by
      rintro rfl
      rw [hp] at r
      cases r; exact ne rfl
    exact ⟨a, f1, f2, by rw [upd_ne ha]; exact r⟩
end
section
variable {X : Cx} {CX : CXT} {k : Nat} {f C : Addr} {fd : FuncData} {ps : List Str} {sp : Sp} {E : St → XK} {x : Str} {p pos : Pos} {e : Expr} {es : List Expr} {t : TA}
theorem run_makeS {pins : List (Addr × Obj)} {σ : L2.St} {H : Hp} {s : Shared} {Q : VK} {us : List Value} {vs : List V} {E : XK} (M : Mk X.K C f) (F : FnOk X.prog X.w X.K X.mg X.base CX k f fd ps sp) (hr : Room (k + 1) X.A) (hb : Binds X.K fd ps [])
    (hx : PassesAt CX X σ E) (I : Inv X pins σ H s) (r : Vals vs us)
    (h : ∀ x dx, H x = none → H dx = none → dx ≠ x → sp (.ref x :: vs) (upd (upd H dx (.own x)) x (.ins C dx [])) (fun v H2 => v = .non ∧ Q (.ref x) H2) E) :
    wpAny (model X.prog X.w) X.A (call (.ref C) us) (EP X pins σ Q) X.xe s := by
  have hq := h (s.heap.objs.size + 1) s.heap.objs.size (I.hok.fresh (Nat.le_succ _)) (I.hok.fresh (Nat.le_refl _)) (Nat.ne_of_lt (Nat.lt_succ_self _))
  have I2 := Inv.made (C := C) I
  have r2 : Vals (V.ref (s.heap.objs.size + 1) :: vs) (Value.ref (s.heap.objs.size + 1) :: us) := .cons rfl r
  have hl : (Value.ref (s.heap.objs.size + 1) :: us ++ []).length = ps.length := by
    have e := r2.length
    rw [F.len _ _ _ _ hq] at e
    rw [List.append_nil]
    exact e.symm
  have bb := hb _ (Value.ref (s.heap.objs.size + 1) :: us) I2.kIn hl
  rw [List.append_nil] at bb
  refine wpAny_call (make_map (f := f) I.kIn M.makes M.init (beq_iff_eq.mp M.fn) (codeAny_mono (F.run _ X.stack _ _ ⟨Value.ref (s.heap.objs.size + 1) :: us, []⟩ (Value.ref (s.heap.objs.size + 1) :: us) _ _ E (hr.make C us [])
    (I2.env0.make C us []) bb r2 hq) fun r s' hq' => ?_))
  cases r with
  | error e => exact hx pins _ _ e s' I2 hq'
  | ok fl =>
    cases fl with
    | ret u =>
      obtain ⟨v, H', I3, rv, ev, q3⟩ := I2.after hq'
      subst ev
      exact ⟨rv, ⟨V.ref (s.heap.objs.size + 1), H', I3, rfl, q3⟩⟩
    | next => exact False.elim hq'
    | brk => exact False.elim hq'
    | cont => exact False.elim hq'
def tMakeS (C : Addr) (sp : Sp) (E : St → XK) (t : TA) : TE := fun σ H Q => t σ H fun vs H1 => ∀ x dx, H1 x = none → H1 dx = none → dx ≠ x →
  sp (.ref x :: vs) (upd (upd H1 dx (.own x)) x (.ins C dx [])) (fun v H2 => v = .non ∧ Q (.ref x) H2) (E σ)
theorem pe_makeS (M : Mk X.K C f) (F : FnOk X.prog X.w X.K X.mg X.base CX k f fd ps sp) (hr : Room (k + 1) X.A) (hg : Gl X x) (hm : X.mg x = some (.ref C)) (hb : Binds X.K fd ps []) (hx : ∀ σ, PassesAt CX X σ (E σ))
    (ha : PA X (e :: es) t) (hdb : (x == ("__debug__" : Str)) = false := by decide) (he : starEach (e :: es) X.env = (false, eval e X.env) :: starEach es X.env := by rfl) (hpl : (backTo pos (starEach es X.env)).any (·.1) = false := by rfl) :
    PE X (.Call (.Name x p) (e :: es) [] pos) (tMakeS C sp E t) := by
  refine ⟨fun pins s σ H Q I h => ?_⟩
  refine wpAny_Call_Name_kw (ld_glob I hg hm ?_ hdb)
  refine PySem.W.callWith_K (h₀ := X.base) I.ok.mod.kin M.kp (L2.thn (ha.run pos pins s σ H _ I h) fun us s1 hh => ?_) he hpl
  obtain ⟨vs, H1, I1, r, q⟩ := hh
  refine ⟨I1.kIn, ?_⟩
  exact run_makeS M F hr hb (hx σ) I1 r q
end
/-- C(..): an object of the small heap -/
def eMk (c : String) (sp : SpD) (t : TAD) : TED := fun sd h Q E => t sd h (fun ds h1 => sp (.ref h1.length :: ds) (h1 ++ [.ins c [] []]) (fun d h2 => match d with
  | .non => Q (.ref h1.length) h2
  | _ => False) E) E
/-- .. that is never changed from now on, and let go of in the small heap -/
def eMkV (c : String) (sp : SpD) (t : TAD) : TED := fun sd h Q E => t sd h (fun ds h1 => sp (.ref h1.length :: ds) (h1 ++ [.ins c [] []]) (fun d h2 => match d with
  | .non => match h2[h1.length]? with
    | some (.ins c' ns xs) => nrDs h1.length xs = true ∧ (h2.take h1.length).all (nrO h1.length) = true ∧ Q (.obj c' ns xs) (h2.take h1.length)
    | _ => False
  | _ => False) (popE h1.length E)) E
section
variable {X : Cx} {W : WX} {k : Nat} {f C : Addr} {fd : FuncData} {ps : List Str} {n : Nat} {sp : SpD} {c : String} {p pos : Pos} {e : Expr} {es : List Expr} {t : TAD}
theorem Rel.freezeI {K mg} {G F : Hp} {m : List Addr} {h : DH} {H : Hp} {n : Nat} {c : String} {ns : List String} {xs : List D} (R : Rel K mg G F m h H) (hn : h[n]? = some (.ins c ns xs)) :
    ∃ a F', m[n]? = some a ∧ WLe F m F' m ∧ Rel K mg G F' m (h.set n .dead) H ∧ ∃ C dx vs, ns.length = vs.length ∧ F' a = some (.ins C dx ((ns.map Str.ofString).zip vs)) ∧ mg (Str.ofString c) = some (.ref C) ∧ Rps K mg F' m vs xs := by
  obtain ⟨a, ha, fa, r⟩ := R.lv n _ hn (fun q => nomatch q)
  generalize e : H a = o at r
  cases r with
  | ins el hC p =>
    rename_i C dx vs
    have le : WLe F m (upd F a (.ins C dx ((ns.map Str.ofString).zip vs))) m := ⟨fun b u e => by rw [upd_ne (ne_of_none e fa)]; exact e, [], by simp⟩
    have ga := R.gl n a _ ha hn (fun q => nomatch q)
    have hl := (List.getElem?_eq_some_iff.mp hn).1
    have old : ∀ {k : Nat} {y : O}, (h.set n .dead)[k]? = some y → y ≠ .dead → h[k]? = some y := fun {k y} g ne => by
      by_cases hk : k = n
      · subst hk; rw [List.getElem?_set_self hl] at g; exact absurd (Option.some.inj g).symm ne
      · rw [List.getElem?_set_ne (Ne.symm hk)] at g; exact g
    refine ⟨a, _, ha, le, ⟨R.sg, R.gk, fun b u q => ?_, fun k y z e1 e2 ne => R.gl k y z e1 (old e2 ne) ne, fun b u q => ?_, by simp [R.ln], fun k y g ne => ?_, fun i j y o1 o2 e1 e2 g1 g2 n1 n2 => ?_⟩, C, dx, vs, el, upd_same, hC, Rps.mono le p⟩
    · rw [upd_ne (ne_of_none q ga)]; exact R.gf _ _ q
    · by_cases hb : b = a
      · subst hb; rw [upd_same] at q; rw [e]; exact q
      · rw [upd_ne hb] at q; exact R.sf _ _ q
    · by_cases hk : k = n
      · subst hk; rw [List.getElem?_set_self hl] at g; exact absurd (Option.some.inj g).symm ne
      · rw [List.getElem?_set_ne (Ne.symm hk)] at g
        obtain ⟨y', e1, e2, r'⟩ := R.lv k y g ne
        have hy : y' ≠ a := by
          rintro rfl
          exact hk (R.ij k n _ _ _ e1 ha g hn ne (fun q => nomatch q))
        exact ⟨y', e1, by rw [upd_ne hy]; exact e2, r'.mono le⟩
    · exact R.ij i j _ _ _ e1 e2 (old g1 n1) (old g2 n2) n1 n2
theorem Rel.newIns {K mg} {G F : Hp} {m : List Addr} {h : DH} {H : Hp} {x dx C : Addr} (R : Rel K mg G F m h H) (hx : H x = none) (hd : H dx = none) (ne : dx ≠ x) (hC : mg (Str.ofString c) = some (.ref C)) :
    WLe F m F (m ++ [x]) ∧ Rel K mg G F (m ++ [x]) (h ++ [.ins c [] []]) (upd (upd H dx (.own x)) x (.ins C dx [])) ∧ Rp K mg F (m ++ [x]) (.ref x) (.ref h.length) := by
  have R1 := R.skip (o := .own x) hd
  obtain ⟨le, R2⟩ := R1.newR (a := x) (o := .ins C dx []) (u := .ins c [] []) (by rw [upd_ne (Ne.symm ne)]; exact hx) (by have := Ro.ins (K := K) (mg := mg) (F := F) (m := m) (C := C) (dx := dx) (c := c) (ns := []) (vs := []) (ds := []) rfl hC .nil; exact this) (fun q => nomatch q)
  exact ⟨le, R2, .ref (by rw [← R.ln]; simp)⟩
theorem de_mk (F : FnOk X.prog X.w X.K X.mg X.base (L2.CX X.prog X.w) k f fd ps (LSp X.K X.mg n sp)) (M : Mk X.K C f) (hr : Room (k + 1) X.A) (hg : Gl X (Str.ofString c)) (hm : X.mg (Str.ofString c) = some (.ref C)) (hb : Binds X.K fd ps []) (tk : Takes X W)
    (ha : DA X W (e :: es) t) (hn : (e :: es).length + 1 = n := by rfl) (hdb : ((Str.ofString c) == ("__debug__" : Str)) = false := by decide) (he : starEach (e :: es) X.env = (false, eval e X.env) :: starEach es X.env := by rfl) (hpl : (backTo pos (starEach es X.env)).any (·.1) = false := by rfl) :
    DE X W (.Call (.Name (Str.ofString c) p) (e :: es) [] pos) (eMk c sp t) :=
  PE.imp (pe_makeS M F hr hg hm hb (fun σ => passAt tk σ) ha hdb he hpl) fun σ H Q ⟨G, F, m, sd, h, QD, E, at_, t, hQ⟩ => LA.step at_ t fun F' m' h' H' vs ds hl le a' rp q => by
    intro x dx hx hd ne
    obtain ⟨l, R2, rx⟩ := a'.R.newIns hx hd ne hm
    refine ⟨by rw [List.length_cons, hl]; exact hn, G, F', _, _, _, _, E, R2, .cons rx (Rps.mono l rp), q, ?_, fun cls dx H'' z => a'.E _ _ _ (z.mono l)⟩
    rintro v H'' ⟨F3, m3, h3, d, le3, R3, rv, q3⟩
    split at q3
    · cases rv
      exact ⟨rfl, hQ _ _ ⟨F3, m3, h3, _, le.trans (l.trans le3), R3, rx.mono le3, q3⟩⟩
    · exact q3.elim
theorem de_mkV (F : FnOk X.prog X.w X.K X.mg X.base (L2.CX X.prog X.w) k f fd ps (LSp X.K X.mg n sp)) (M : Mk X.K C f) (hr : Room (k + 1) X.A) (hg : Gl X (Str.ofString c)) (hm : X.mg (Str.ofString c) = some (.ref C)) (hb : Binds X.K fd ps []) (tk : Takes X W)
    (ha : DA X W (e :: es) t) (hn : (e :: es).length + 1 = n := by rfl) (hdb : ((Str.ofString c) == ("__debug__" : Str)) = false := by decide) (he : starEach (e :: es) X.env = (false, eval e X.env) :: starEach es X.env := by rfl) (hpl : (backTo pos (starEach es X.env)).any (·.1) = false := by rfl) :
    DE X W (.Call (.Name (Str.ofString c) p) (e :: es) [] pos) (eMkV c sp t) :=
  PE.imp (pe_makeS M F hr hg hm hb (fun σ => passAt tk σ) ha hdb he hpl) fun σ H Q ⟨G, F, m, sd, h, QD, E, at_, t, hQ⟩ => LA.step at_ t fun F' m' h' H' vs ds hl le a' rp q => by
    intro x dx hx hd ne
    obtain ⟨l, R2, rx⟩ := a'.R.newIns hx hd ne hm
    have ln' := a'.R.ln
    have mt : ∀ {F3 : Hp} {m3 : List Addr}, WLe F' (m' ++ [x]) F3 m3 → WLe F' m' F3 (m3.take h'.length) := fun {F3 m3} le3 => WLe.shrink ln' (l.trans le3)
    refine ⟨by rw [List.length_cons, hl]; exact hn, G, F', _, _, _, _, popE h'.length E, R2, .cons rx (Rps.mono l rp), q, ?_, fun cls dx H'' z => a'.E _ _ _ ((z.mono l).pop ln')⟩
    rintro v H'' ⟨F3, m3, h3, d, le3, R3, rv, q3⟩
    split at q3
    · cases rv
      refine ⟨rfl, ?_⟩
      split at q3
      · rename_i c' ns xs hh
        obtain ⟨q1, q2, q3⟩ := q3
        obtain ⟨a, F4, e1, le4, R4, C', dx', vs', el, f1, hC, rps⟩ := R3.freezeI hh
        have ea : a = x := by
          have z : m3[h'.length]? = some x := le3.get (by rw [← ln']; simp)
          rw [z] at e1; cases e1; rfl
        subst ea
        have tk0 : (h3.set h'.length O.dead).take h'.length = h3.take h'.length := by rw [List.take_set_of_le (Nat.le_refl _)]
        have R5 := R4.shrink h'.length (by rw [tk0]; exact q2)
        rw [tk0] at R5
        have le5 : WLe F' m' F4 (m3.take h'.length) := ⟨(l.trans le3).f.trans le4.f, (mt le3).m⟩
        exact hQ _ _ ⟨F4, _, _, _, le.trans le5, R5, .obj el f1 hC (Rps.shrink _ rps q1), q3⟩
      · exact q3.elim
    · exact q3.elim
end
end DL
end

section
set_option maxRecDepth 100000
set_option maxHeartbeats 4000000
namespace L2
open PySem PySem.Spec PyProof.Rows
/-- X(), X an own exception class without own __init__ -/
theorem pmk_own0 {X : Cx} {C : Addr} {bmB : List Value} {B newId initId : String} {x : Str} {p pos : Pos} (F : ExcBaseFacts B newId initId bmB) (q : PySem.W.excIn X.K C bmB newId = true) (gC : X.mg x = some (.ref C))
    (kC : PySem.W.keepIn X.K (.ref C) = true) (r : Raises X (.ref C)) (hg : Gl X x) (hdb : (x == ("__debug__" : Str)) = false := by decide) :
    PMk X (.Call (.Name x p) [] [] pos) (fun σ H Q => Q (.ref C) none H) := by
  intro pins s σ H Q I h
  refine wpAny_Call_Name_kw (ld_glob I hg gC ?_ hdb)
  refine PySem.W.callWith_K0 I.kIn kC ?_
  obtain ⟨bm, N, nm, qn, bs, hdct, sn, sub, ab, col, dd, k0, k1, k2, k3, k5, mN, hC, hN, hni, T⟩ := exc_obj I.kIn q
  refine wpAny_call_exc_subT F T hC hN hni (fun h' e hm => ?_) (by show 0 ≤ sizeLine; exact Nat.zero_le _)
  exact mk_of I hm r h (I.hok.gone hm.new)
/-- isinstance(e, c), e the exception that the suite holds, with or without a dict -/
def rIsX (K : PySem.W.Frag) (cls : Value) (d : Option Addr) (a : Addr) : List V → Hp → VK → Prop := fun xs H Q => ∃ (c : V) (cv : Value) (b : Bool) (D : Addr), xs = [.ref a, c] ∧ cls = .ref D ∧ (∀ dd, d = some dd → ∃ fs, H dd = some (.xd fs)) ∧ ClsV c cv ∧ PySem.W.kitOne K (.ref D) cv = some b ∧ ExcC K D ∧ Q (.bl b) H
theorem call_isX {X : Cx} {a : Addr} {oe : Obj} {cls : Value} {d : Option Addr} {pn : List (Addr × Obj)} (hz : Zc cls d oe) (hf : ∃ vs, oe.data = .fields vs) : CallR (X.suite a ((a, oe) :: pn)) (.builtin "isinstance") (rIsX X.K cls d a) := by
  intro pins s σ H xs us Q I r h
  obtain ⟨c, cv, b, D, rfl, rfl, hd, hcv, e, C, q⟩ := h
  cases r with
  | cons rx rr =>
    cases rr with
    | cons rt rr =>
      cases rr
      cases rx
      have ec := hcv.eq rt
      subst ec
      obtain ⟨hget, _⟩ := I.pin (a, oe) (List.mem_append.mpr (.inl List.mem_cons_self))
      obtain ⟨vs, hv⟩ := hf
      have J : ∃ od, PySem.W.InstAt s.heap a oe D od := by
        obtain ⟨oc, od, oda, osl⟩ := oe
        obtain ⟨h1, h2⟩ := hz
        dsimp only at h1 h2 hv
        subst h1 h2 hv
        cases od with
        | none => exact ⟨none, hget, rfl, rfl, trivial⟩
        | some dd =>
          obtain ⟨fs, hx⟩ := hd dd rfl
          obtain ⟨mA, hns, _⟩ := I.hok dd _ hx
          obtain ⟨od, ho, _⟩ := lookIn_ns hns
          exact ⟨some od, hget, rfl, rfl, ho⟩
      obtain ⟨od, J⟩ := J
      have hcl : (PySem.W.clsIn X.K D).isSome = true := by
        have hh := C.hd
        unfold PySem.W.hasDictIn at hh
        cases z : PySem.W.clsIn X.K D with
        | none => rw [z] at hh; cases hh
        | some _ => rfl
      exact PySem.W.kia_one (PySem.W.kitx_exc hcl C.hg C.hk C.hs C.ha C.hn C.ht C.hm) I.kIn J e (fun z => nomatch z) fun tk => ⟨.bl b, H, I.kept (t' := tk) fun _ _ z => z, rfl, q⟩
/-! ### an own exception class whose __init__ stores one or two fields -/
def spX1 (K : PySem.W.Frag) (f1 : Str) : Sp := fun vs H Q _ => ∃ (a C : Addr) (v1 : V), vs = [.ref a, v1] ∧ OexC K C ∧ PySem.W.findIn K (.ref C) f1 = some none ∧ H a = some (exo a C none) ∧
  ∀ dx, H dx = none → dx ≠ a → Q .non (upd (upd H dx (exd dx [(f1, v1)])) a (exo a C (some dx)))
def spX2 (K : PySem.W.Frag) (f1 f2 : Str) : Sp := fun vs H Q _ => ∃ (a C : Addr) (v1 v2 : V), vs = [.ref a, v1, v2] ∧ OexC K C ∧ PySem.W.findIn K (.ref C) f1 = some none ∧ PySem.W.findIn K (.ref C) f2 = some none ∧ H a = some (exo a C none) ∧
  ∀ dx, H dx = none → dx ≠ a → Q .non (upd (upd (upd H dx (exd dx [(f1, v1)])) a (exo a C (some dx))) dx (exd dx [(f2, v2), (f1, v1)]))
section
variable {P : Program} {w : World} {K : PySem.W.Frag} {mg : Str → Option Value} {base : Heap}
theorem ok_x1 {x qual : Str} {st : Stmt} {f : Addr} {fd : FuncData} {N : List Str} {f1 : Str} (F : Fun K x qual st f fd) (S : FnScope N N (defScope st)) (hN : N.length = 2)
    (hb : ∀ (cdv : Value) (A : Around) (outer : List Env) (s : Shared) (H : Hp) (E : XK), PSs (cxOf (L2.CX P w) P w K mg base N qual (defScope st) f cdv A outer s H E) (defBody st) (tOst K f1 (tVar 0) (tVar 1))) : FnOk P w K mg base (L2.CX P w) 1 f fd N (spX1 K f1) := by
  refine F.okX S (fun vs H Q E h => ?_) (fun cdv A outer s H vs Q E hr h => ⟨_, hb cdv A outer s H E, ?_⟩)
  · obtain ⟨a, C, v1, rfl, _⟩ := h; rw [hN]; rfl
  · obtain ⟨a, C, v1, rfl, T, n1, ha, k⟩ := h
    have e : L2.start N [V.ref a, v1] = [some (.ref a), some v1] := by unfold L2.start; rw [hN]; rfl
    rw [e]
    exact ⟨v1, rfl, _, rfl, a, C, rfl, T, n1, .inl ⟨ha, k⟩⟩
theorem exo_exd {e d C : Addr} {o : Option Addr} {fs : List (Str × V)} (h : e = d) : True := True.intro
theorem ok_x2 {x qual : Str} {st : Stmt} {f : Addr} {fd : FuncData} {N : List Str} {f1 f2 : Str} (F : Fun K x qual st f fd) (S : FnScope N N (defScope st)) (hN : N.length = 3)
    (hb : ∀ (cdv : Value) (A : Around) (outer : List Env) (s : Shared) (H : Hp) (E : XK), PSs (cxOf (L2.CX P w) P w K mg base N qual (defScope st) f cdv A outer s H E) (defBody st) (tSeq (tOst K f1 (tVar 0) (tVar 1)) (tOst K f2 (tVar 0) (tVar 2)))) : FnOk P w K mg base (L2.CX P w) 1 f fd N (spX2 K f1 f2) := by
  refine F.okX S (fun vs H Q E h => ?_) (fun cdv A outer s H vs Q E hr h => ⟨_, hb cdv A outer s H E, ?_⟩)
  · obtain ⟨a, C, v1, v2, rfl, _⟩ := h; rw [hN]; rfl
  · obtain ⟨a, C, v1, v2, rfl, T, n1, n2, ha, k⟩ := h
    have e : L2.start N [V.ref a, v1, v2] = [some (.ref a), some v1, some v2] := by unfold L2.start; rw [hN]; rfl
    rw [e]
    refine ⟨v1, rfl, _, rfl, a, C, rfl, T, n1, .inl ⟨ha, fun dx hd ne => ?_⟩⟩
    refine ⟨v2, rfl, _, rfl, a, C, rfl, T, n2, .inr ⟨dx, [(f1, v1)], upd_same, by rw [upd_ne ne, upd_same], by show 1 ≤ 900; decide, ?_⟩⟩
    exact k dx hd ne
end
end L2
namespace DL
open PySem PySem.Spec L2
/-! ## raise -/
def sRaise (nm : String) : TSD := fun k sd h => k.er nm [] [] sd h
/-- what the text says of an exception class without fields -/
structure ExT0 (K : PySem.W.Frag) (mg : Str → Option Value) (nm : String) (C : Addr) : Prop where
  gC : mg (Str.ofString nm) = some (.ref C)
  xC : PySem.W.excIn K C [.type "ValueError", .type "Exception", .type "BaseException", .type "object"] "ValueError.__new__" = true
  kC : PySem.W.keepIn K (.ref C) = true
  bC : PySem.W.subIn K (.ref C) (.type "BaseException") = some true
  tC : PySem.W.typeIn K (.ref C) = some (.type "type")
theorem ds_raise0 {X : Cx} {W : WX} {nm : String} {C : Addr} {p pos pos2 : Pos} (T : ExT0 X.K X.mg nm C) (tk : Takes X W) (hg : Gl X (Str.ofString nm) := by rfl) (hdb : ((Str.ofString nm) == ("__debug__" : Str)) = false := by decide) (hc : X.calm = true := by rfl) :
    DS X W (.Raise (some (.Call (.Name (Str.ofString nm) p) [] [] pos)) none pos2) (sRaise nm) :=
  PS.imp (ps_raise hc tk (pmk_own0 PySem.F.excBase_ValueError T.xC T.gC T.kC (raises_own T.bC T.tC) hg hdb)) fun D σ H ⟨G, F, m, sd, h, k, R, S, t, a⟩ =>
    a.er _ _ _ _ ⟨F, m, sd, h, nm, [], [], WLe.refl, R, S, ⟨C, T.gC, rfl, .inl ⟨rfl, rfl, rfl⟩⟩, t⟩
/-- raise X(e, ..): the fields' names, the last first -/
def sRaiseF (nm : String) (ns : List String) (t : TAD) : TSD := fun k sd h => t sd h (fun ds h' => k.er nm ns ds.reverse sd h') (k.E sd)
structure ExT (K : PySem.W.Frag) (mg : Str → Option Value) (nm : String) (fs : List String) (C fI : Addr) : Prop where
  gC : mg (Str.ofString nm) = some (.ref C)
  oe : OexC K C
  iC : PySem.W.findIn K (.ref C) "__init__" = some (some (.ref fI))
  tI : PySem.W.typeIn K (.ref fI) = some (.type "function")
  no : ∀ f ∈ fs, PySem.W.findIn K (.ref C) (Str.ofString f) = some none
theorem Rel.agree {K mg} {G F : Hp} {m : List Addr} {h : DH} {H H' : Hp} (R : Rel K mg G F m h H) (e : ∀ a o, H a = some o → H' a = some o) : Rel K mg G F m h H' := by
  refine ⟨fun b u x => e _ _ (R.sg _ _ x), R.gk, R.gf, R.gl, fun b u x => e _ _ (R.sf _ _ x), R.ln, fun n o x ne => ?_, R.ij⟩
  obtain ⟨a, f1, f2, r⟩ := R.lv n o x ne
  refine ⟨a, f1, f2, ?_⟩
  cases z : H a with
  | none => rw [z] at r; cases r; exact absurd rfl ne
  | some u => rw [e _ _ z, ← z]; exact r
theorem ds_raise1 {X : Cx} {W : WX} {nm f1 : String} {C fI : Addr} {fd : FuncData} {ps : List Str} {e : Expr} {te : TAD} {p pos pos2 : Pos} (T : ExT X.K X.mg nm [f1] C fI) (F1 : FnOk X.prog X.w X.K X.mg X.base (L2.CX X.prog X.w) 1 fI fd ps (spX1 X.K (Str.ofString f1))) (hb : Binds X.K fd ps []) (hr : Room 2 X.A) (tk : Takes X W) (ha : DA X W [e] te) (hg : Gl X (Str.ofString nm) := by rfl) (hc : X.calm = true := by rfl) (hdb : ((Str.ofString nm) == ("__debug__" : Str)) = false := by decide)
    (he : starEach [e] X.env = (false, eval e X.env) :: starEach [] X.env := by rfl) (hpl : (backTo pos (starEach [] X.env)).any (·.1) = false := by rfl)
    (hx : Passes (L2.CX X.prog X.w) X (fun _ _ _ => False) := by exact passL) : DS X W (.Raise (some (.Call (.Name (Str.ofString nm) p) [e] [] pos)) none pos2) (sRaiseF nm [f1] te) :=
  PS.imp (ps_raise hc tk (pmk_oex T.oe T.iC T.tI F1 hr hb .nil hx hg T.gC ha hdb he hpl)) fun D σ H ⟨G, F, m, sd, h, k, R, S, t, a⟩ => LA.step (a.at R S) t fun F' m' h' H' vs ds hl le a' rp q => by
    have hl' : vs.length = 1 := hl
    cases rp with
    | nil => simp at hl'
    | cons rv r =>
    cases r with
    | cons _ _ => simp at hl'
    | nil =>
    rename_i v d
    refine ⟨by show 1 ≤ 1000; decide, fun b hb => ⟨b, C, v, rfl, T.oe, T.no f1 (by simp), upd_same, fun dx hd ne => ⟨rfl, dx, _, upd_same, by rw [upd_ne ne, upd_same], ?_, ?_⟩⟩⟩
    · rw [upd_ne ne] at hd; exact hd
    · rw [upd_ne ne] at hd
      refine a.er _ _ _ _ ⟨F', m', sd, h', nm, [f1], [d], le, a'.R.agree fun c o z => ?_, a'.S, ⟨C, T.gC, rfl, .inr ⟨dx, [v], rfl, rfl, upd_same, .cons rv .nil⟩⟩, q⟩
      have c1 : c ≠ dx := ne_of_none z hd
      have c2 : c ≠ b := ne_of_none z hb
      rw [upd_ne c1, del_ne c2, upd_ne c2, upd_ne c1, upd_ne c2]; exact z
theorem ds_raise2 {X : Cx} {W : WX} {nm f1 f2 : String} {C fI : Addr} {fd : FuncData} {ps : List Str} {e e2 : Expr} {te : TAD} {p pos pos2 : Pos} (T : ExT X.K X.mg nm [f1, f2] C fI) (F1 : FnOk X.prog X.w X.K X.mg X.base (L2.CX X.prog X.w) 1 fI fd ps (spX2 X.K (Str.ofString f1) (Str.ofString f2))) (hb : Binds X.K fd ps []) (hr : Room 2 X.A) (tk : Takes X W) (ha : DA X W [e, e2] te) (hg : Gl X (Str.ofString nm) := by rfl) (hc : X.calm = true := by rfl) (hdb : ((Str.ofString nm) == ("__debug__" : Str)) = false := by decide)
    (he : starEach [e, e2] X.env = (false, eval e X.env) :: starEach [e2] X.env := by rfl) (hpl : (backTo pos (starEach [e2] X.env)).any (·.1) = false := by rfl)
    (hx : Passes (L2.CX X.prog X.w) X (fun _ _ _ => False) := by exact passL) : DS X W (.Raise (some (.Call (.Name (Str.ofString nm) p) [e, e2] [] pos)) none pos2) (sRaiseF nm [f2, f1] te) :=
  PS.imp (ps_raise hc tk (pmk_oex T.oe T.iC T.tI F1 hr hb .nil hx hg T.gC ha hdb he hpl)) fun D σ H ⟨G, F, m, sd, h, k, R, S, t, a⟩ => LA.step (a.at R S) t fun F' m' h' H' vs ds hl le a' rp q => by
    have hl' : vs.length = 2 := hl
    cases rp with
    | nil => simp at hl'
    | cons rv r =>
    cases r with
    | nil => simp at hl'
    | cons rw_ r =>
    cases r with
    | cons _ _ => simp at hl'
    | nil =>
    rename_i v d v2 d2
    refine ⟨by show 2 ≤ 1000; decide, fun b hb => ⟨b, C, v, v2, rfl, T.oe, T.no f1 (by simp), T.no f2 (by simp), upd_same, fun dx hd ne => ⟨rfl, dx, _, by rw [upd_ne (Ne.symm ne), upd_same], upd_same, ?_, ?_⟩⟩⟩
    · rw [upd_ne ne] at hd; exact hd
    · rw [upd_ne ne] at hd
      refine a.er _ _ _ _ ⟨F', m', sd, h', nm, [f2, f1], [d2, d], le, a'.R.agree fun c o z => ?_, a'.S, ⟨C, T.gC, rfl, .inr ⟨dx, [v2, v], rfl, rfl, upd_same, .cons rw_ (.cons rv .nil)⟩⟩, q⟩
      have c1 : c ≠ dx := ne_of_none z hd
      have c2 : c ≠ b := ne_of_none z hb
      rw [upd_ne c1, del_ne c2, upd_ne c1, upd_ne c2, upd_ne c1, upd_ne c2]; exact z
end DL
end

section
set_option maxRecDepth 100000
set_option maxHeartbeats 4000000
namespace DL
open PySem PySem.Spec L2
/-! ## try -/
def isErr (nm c : String) : Bool := nm == c || c == "PostFault"
/-- which of the errors nms a clause of the class c takes -/
structure ErrT (K : PySem.W.Frag) (mg : Str → Option Value) (nms : List String) (c : String) : Prop where
  gc : ∃ C, mg (Str.ofString c) = some (.ref C)
  ex : ∀ nm ∈ nms, ∀ D C, mg (Str.ofString nm) = some (.ref D) → mg (Str.ofString c) = some (.ref C) → PySem.W.exmOne K (.ref D) (.ref C) = some (isErr nm c)
abbrev TXD := Addr → Value → Option Addr → String → List String → List D → TSD
/-- try: body except c: suite -/
def sTry (nms : List String) (c : String) (tb : TSD) (ts : TSD) : TSD := fun k sd h => tb { k with er := fun nm ns fs sd' h' => nm ∈ nms ∧ (if isErr nm c = true then ts { k with er := fun _ _ _ _ _ => False } sd' h' else k.er nm ns fs sd' h') } sd h
/-- try: body except c as n: suite, n in slot i -/
def sTryAs (nms : List String) (c : String) (i : Nat) (tb : TSD) (ts : TXD) : TSD := fun k sd h => tb { k with er := fun nm ns fs sd' h' => nm ∈ nms ∧ (if isErr nm c = true then ∀ a cls d, ts a cls d nm ns fs { nx := fun s h => k.nx (s.set i none) h, rt := k.rt, bk := fun s h => k.bk (s.set i none) h, ct := fun s h => k.ct (s.set i none) h, er := fun _ _ _ _ _ => False } (sd'.set i (some (.exc a cls d nm ns fs))) h' else k.er nm ns fs sd' h') } sd h
section
variable {X : Cx} {W : WX} {c : String} {body suite : List Stmt} {b₀ : Stmt} {np pos pos' : Pos} {tb : TSD} {nms : List String}
/-- the error's dict is kept as it is -/
theorem ExR.hold {K mg} {G F : Hp} {m : List Addr} {h : DH} {H : Hp} {cls : Value} {dx : Option Addr} {nm : String} {ns : List String} {fs : List D} (R : Rel K mg G F m h H) (x : ExR K mg F m H cls dx nm ns fs) (a : Addr) :
    ∃ F', WLe F m F' m ∧ Rel K mg G F' m h H ∧ Rp K mg F' m (.ref a) (.exc a cls dx nm ns fs) := by
  obtain ⟨C, hC, rfl, z⟩ := x
  rcases z with ⟨rfl, rfl, rfl⟩ | ⟨d, vs, el, rfl, hd, rp⟩
  · exact ⟨F, WLe.refl, R, .exc0 hC⟩
  · by_cases hF : ∃ o, F d = some o
    · obtain ⟨o, ho⟩ := hF
      have := R.sf _ _ ho
      rw [hd] at this; cases this
      exact ⟨F, WLe.refl, R, .exc1 hC el ho rp⟩
    · have fd : F d = none := by
        cases z : F d with
        | none => rfl
        | some o => exact absurd ⟨o, z⟩ hF
      have le : WLe F m (upd F d (.xd ((ns.map Str.ofString).zip vs))) m := ⟨fun b u e => by rw [upd_ne (ne_of_none e fd)]; exact e, [], by simp⟩
      refine ⟨_, le, ⟨R.sg, R.gk, fun b u e => ?_, R.gl, fun b u e => ?_, R.ln, fun n o e ne => ?_, R.ij⟩, .exc1 hC el upd_same (Rps.mono le rp)⟩
      · have hb : b ≠ d := by
          rintro rfl
          obtain ⟨xs, rfl⟩ := R.gk _ _ e
          have := R.sg _ _ e
          rw [hd] at this; cases this
        rw [upd_ne hb]; exact R.gf _ _ e
      · by_cases hb : b = d
        · subst hb; rw [upd_same] at e; rw [hd]; exact e
        · rw [upd_ne hb] at e; exact R.sf _ _ e
      · obtain ⟨b, f1, f2, r⟩ := R.lv n o e ne
        have hb : b ≠ d := by
          rintro rfl
          rw [hd] at r
          cases r; exact ne rfl
        exact ⟨b, f1, by rw [upd_ne hb]; exact f2, r.mono le⟩
theorem ds_try {ts : TSD} (T : ErrT X.K X.mg nms c) (tk : Takes X W) (hg : Gl X (Str.ofString c))
    (hb : ∀ (V : WX) (pn : List (Addr × Obj)) (xe : Value → Shared → Prop), Takes (X.tr pn xe) V → PassesOwn (model X.prog X.w) X.A X.env xe → DSs (X.tr pn xe) V body tb)
    (hsu : ∀ (a : Addr) (oe : Obj) (pn : List (Addr × Obj)), DSs (X.suite a ((a, oe) :: pn)) W0 (b₀ :: suite) ts)
    (hs : X.stack = X.env :: X.outer := by rfl) (hf : X.env.frame = some X.env.locals := by rfl) (hdb : ((Str.ofString c) == ("__debug__" : Str)) = false := by decide) :
    DS X W (.Try body [.ExceptHandler (some (.Name (Str.ofString c) np)) none (b₀ :: suite) pos'] [] [] pos) (sTry nms c tb ts) := by
  obtain ⟨C, hC⟩ := T.gc
  refine PS.imp (ps_try_only (ts := fun a cls d => LS X.K X.mg W0 ts) (tb := fun V => LS X.K X.mg V tb) hs hf ⟨hg, hdb, .inl hC⟩ tk hb (fun a oe cls d pn hz hf => hsu a oe pn)) fun D σ H ⟨G, F, m, sd, h, k, R, S, t, a⟩ => ?_
  refine ⟨G, F, m, sd, h, _, R, S, t, ⟨a.nx, a.rt, a.bk, a.ct, ?_⟩⟩
  rintro cls dx σ' H' ⟨F', m', sd', h', nm, ns, fs, le, R', S', x, hn, q⟩
  obtain ⟨E, hE, rfl, _⟩ := id x
  refine ⟨_, T.ex nm hn E C hE hC, fun hb => ?_, fun hb => ?_⟩
  · rw [if_pos hb] at q
    intro e he
    refine ⟨G, F', m', sd', h', _, R', S', q, ⟨fun s H q => a.nx _ _ (q.mono le), fun s H q => a.rt _ _ (q.mono le), fun s H q => a.bk _ _ (q.mono le), fun s H q => a.ct _ _ (q.mono le), ?_⟩⟩
    rintro c' d' s H ⟨_, _, _, _, _, _, _, _, _, _, _, z⟩
    exact z
  · rw [if_neg (by rw [hb]; exact Bool.false_ne_true)] at q
    exact a.er _ _ _ _ ⟨F', m', sd', h', nm, ns, fs, le, R', S', x, q⟩
theorem ds_tryAs {i : Nat} {n : Str} {ts : TXD} (T : ErrT X.K X.mg nms c) (tk : Takes X W) (hN : X.N.Nodup) (hg : Gl X (Str.ofString c))
    (hb : ∀ (V : WX) (pn : List (Addr × Obj)) (xe : Value → Shared → Prop), Takes (X.tr pn xe) V → PassesOwn (model X.prog X.w) X.A X.env xe → DSs (X.tr pn xe) V body tb)
    (hsu : ∀ (a : Addr) (oe : Obj) (cls : Value) (d : Option Addr) (pn : List (Addr × Obj)), Zc cls d oe → (∃ vs, oe.data = .fields vs) → ∀ nm ns fs, DSs (X.suite a ((a, oe) :: pn)) W0 (b₀ :: suite) (ts a cls d nm ns fs))
    (hs : X.stack = X.env :: X.outer := by rfl) (hf : X.env.frame = some X.env.locals := by rfl) (hi : X.N[i]? = some n := by rfl) (hln : X.env.kindOf n = some .local := by rfl) (hdb : ((Str.ofString c) == ("__debug__" : Str)) = false := by decide) :
    DS X W (.Try body [.ExceptHandler (some (.Name (Str.ofString c) np)) (some n) (b₀ :: suite) pos'] [] [] pos) (sTryAs nms c i tb ts) := by
  obtain ⟨C, hC⟩ := T.gc
  refine PS.imp (ps_try_as (ts := fun a cls d D σ H => ∃ nm ns fs, LS X.K X.mg W0 (ts a cls d nm ns fs) D σ H) (tb := fun V => LS X.K X.mg V tb) hs hf hN hi hln ⟨hg, hdb, .inl hC⟩ tk hb
    (fun a oe cls d pn hz hf => ⟨fun pins s σ H D I ⟨nm, ns, fs, q⟩ => (hsu a oe cls d pn hz hf nm ns fs).run pins s σ H D I q⟩)) fun D σ H ⟨G, F, m, sd, h, k, R, S, t, a⟩ => ?_
  refine ⟨G, F, m, sd, h, _, R, S, t, ⟨a.nx, a.rt, a.bk, a.ct, ?_⟩⟩
  rintro cls dx σ' H' ⟨F', m', sd', h', nm, ns, fs, le, R', S', x, hn, q⟩
  obtain ⟨E, hE, rfl, _⟩ := id x
  refine ⟨_, T.ex nm hn E C hE hC, fun hb => ?_, fun hb => ?_⟩
  · rw [if_pos hb] at q
    intro e he
    obtain ⟨F2, le2, R2, rp⟩ := x.hold R' e
    have lt := le.trans le2
    refine ⟨nm, ns, fs, G, F2, m', _, h', _, R2, SRel.set rp i (S'.mono le2), q e _ _, ⟨?_, fun s H q => a.rt _ _ (q.mono lt), ?_, ?_, ?_⟩⟩
    · rintro s H ⟨F3, m3, s3, h3, l3, R3, S3, z⟩
      exact a.nx _ _ ⟨F3, m3, _, h3, lt.trans l3, R3, SRel.setN none i S3, z⟩
    · rintro s H ⟨F3, m3, s3, h3, l3, R3, S3, z⟩
      exact a.bk _ _ ⟨F3, m3, _, h3, lt.trans l3, R3, SRel.setN none i S3, z⟩
    · rintro s H ⟨F3, m3, s3, h3, l3, R3, S3, z⟩
      exact a.ct _ _ ⟨F3, m3, _, h3, lt.trans l3, R3, SRel.setN none i S3, z⟩
    · rintro c' d' s H ⟨_, _, _, _, _, _, _, _, _, _, _, z⟩
      exact z
  · rw [if_neg (by rw [hb]; exact Bool.false_ne_true)] at q
    exact a.er _ _ _ _ ⟨F', m', sd', h', nm, ns, fs, le, R', S', x, q⟩
end
/-! ## within a suite: e.f, isinstance(e, C) -/
/-- what the text says of the classes nms, whose instances are asked -/
structure ExcT (K : PySem.W.Frag) (mg : Str → Option Value) (nms : List String) (cls : List String) : Prop where
  ec : ∀ nm ∈ nms, ∀ D, mg (Str.ofString nm) = some (.ref D) → ExcC K D
  ko : ∀ nm ∈ nms, ∀ D, mg (Str.ofString nm) = some (.ref D) → ∀ c ∈ cls, ∀ C, mg (Str.ofString c) = some (.ref C) → PySem.W.kitOne K (.ref D) (.ref C) = some (isErr nm c)
  kv : ∀ nm ∈ nms, ∀ D, mg (Str.ofString nm) = some (.ref D) → PySem.W.kitOne K (.ref D) (.type "ValueError") = some true
def fIsX (nms cs : List String) (a : Addr) (cls : Value) (d : Option Addr) : FC := fun ds h Q => match ds with
  | [.exc a' cls' d' nm _ _, .glb c] => (a' = a ∧ cls' = cls ∧ d' = d) ∧ nm ∈ nms ∧ c ∈ cs ∧ Q (.bl (isErr nm c)) h
  | [.exc a' cls' d' nm _ _, .ty n] => (a' = a ∧ cls' = cls ∧ d' = d) ∧ nm ∈ nms ∧ n = "ValueError" ∧ Q (.bl true) h
  | _ => False
theorem dc_isX {X : Cx} {a : Addr} {oe : Obj} {cls : Value} {d : Option Addr} {pn : List (Addr × Obj)} {nms cs : List String} (T : ExcT X.K X.mg nms cs) (hz : Zc cls d oe) (hf : ∃ vs, oe.data = .fields vs) :
    CallDD (X.suite a ((a, oe) :: pn)) (.builtin "isinstance") (fIsX nms cs a cls d) := ⟨_, call_isX hz hf, fun G F m h H vs ds QD Q R rp q hQ => by
  unfold fIsX at q
  split at q
  · rename_i a' cls' d' nm _ _ c
    obtain ⟨v, w, rfl, r1, r2⟩ := Rps.two rp
    obtain ⟨⟨rfl, rfl, rfl⟩, hn, hc, q⟩ := q
    cases r2 with
    | glb hg =>
    cases r1 with
    | exc0 hC => exact ⟨_, _, _, _, rfl, rfl, (fun dd e => nomatch e), .own _, T.ko nm hn _ hC c hc _ hg, T.ec nm hn _ hC, hQ _ _ ⟨F, m, h, _, WLe.refl, R, .bl _, q⟩⟩
    | exc1 hC el hd rps => exact ⟨_, _, _, _, rfl, rfl, (fun dd e => by cases e; exact ⟨_, R.sf _ _ hd⟩), .own _, T.ko nm hn _ hC c hc _ hg, T.ec nm hn _ hC, hQ _ _ ⟨F, m, h, _, WLe.refl, R, .bl _, q⟩⟩
  · rename_i a' cls' d' nm _ _ n
    obtain ⟨v, w, rfl, r1, r2⟩ := Rps.two rp
    obtain ⟨⟨rfl, rfl, rfl⟩, hn, rfl, q⟩ := q
    cases r2
    cases r1 with
    | exc0 hC => exact ⟨_, _, _, _, rfl, rfl, (fun dd e => nomatch e), .ty _, T.kv nm hn _ hC, T.ec nm hn _ hC, hQ _ _ ⟨F, m, h, _, WLe.refl, R, .bl _, q⟩⟩
    | exc1 hC el hd rps => exact ⟨_, _, _, _, rfl, rfl, (fun dd e => by cases e; exact ⟨_, R.sf _ _ hd⟩), .ty _, T.kv nm hn _ hC, T.ec nm hn _ hC, hQ _ _ ⟨F, m, h, _, WLe.refl, R, .bl _, q⟩⟩
  · exact q.elim⟩
/-- e.f, the class of e among nms -/
def eXf (nms : List String) (a : Addr) (cls : Value) (d : Option Addr) (f : String) (t : TED) : TED := fun sd h Q E => t sd h (fun x h1 => match x with
  | .exc a' cls' d' nm ns fs => (a' = a ∧ cls' = cls ∧ d' = d) ∧ nm ∈ nms ∧ (match fget ns fs f with
    | some y => Q y h1
    | none => False)
  | _ => False) E
structure XfT (K : PySem.W.Frag) (mg : Str → Option Value) (nms : List String) (f : String) : Prop where
  xf : ∀ nm ∈ nms, ∀ D, mg (Str.ofString nm) = some (.ref D) → XfC K D
  no : ∀ nm ∈ nms, ∀ D, mg (Str.ofString nm) = some (.ref D) → PySem.W.findIn K (.ref D) (Str.ofString f) = some none
/-- pe_xf where the class is told by the error itself -/
theorem pe_xfA {X : Cx} {a : Addr} {oe : Obj} {cls : Value} {d : Option Addr} {pn : List (Addr × Obj)} {e : Expr} {te : TE} {pos : Pos} {n : Str}
    (hz : Zc cls d oe) (hf : ∃ vs, oe.data = .fields vs) (he : PE (X.suite a ((a, oe) :: pn)) e te) (hb : attributeBase e n X.env (eval e X.env) = eval e X.env := by rfl) :
    PE (X.suite a ((a, oe) :: pn)) (.Attribute e n pos) (fun σ H Q => te σ H fun x H1 => x = .ref a ∧ ∃ (C : Addr), XfC X.K C ∧ PySem.W.findIn X.K (.ref C) n = some none ∧ cls = .ref C ∧ ∃ (dd : Addr) (fs : List (Str × V)) (v : V), d = some dd ∧ H1 dd = some (.xd fs) ∧ fs.lookup n = some v ∧ Q v H1) := by
  refine ⟨fun pins s σ H Q I h => ?_⟩
  refine attr_of hb (L2.thn (he.run pins s σ H _ I h) fun u s1 hh => ?_)
  obtain ⟨x, H1, I1, rx, ex, C, T, hno, ec, dd, fs, v, ed, ea, l, q⟩ := hh
  subst ex
  obtain rfl : u = Value.ref a := rx
  subst ec
  subst ed
  obtain ⟨ha, _⟩ := I1.pin (a, oe) (List.mem_append_left _ List.mem_cons_self)
  obtain ⟨vs, hd⟩ := hf
  have hx : ObjOk X.prog X.w H1 s1.heap dd (.xd fs) := I1.hok dd _ ea
  obtain ⟨mA, hns, hr⟩ := hx
  obtain ⟨od, ho, hl⟩ := lookIn_ns hns
  obtain ⟨u, hu, ru⟩ := RelO.some_of (v := v) (o := mA n) (by rw [← l]; exact hr n)
  have J : PySem.W.InstAt s1.heap a oe C (some od) := ⟨ha, hz.1, by unfold PySem.W.notCls; rw [hd] <;> rfl, by rw [hz.2]; exact ho⟩
  exact HandSPX.exc_get I1.kIn J T.ga T.gg T.exC (PySem.W.findObj_own T.hdC hno rfl (by rw [hl, hu])) (handed_of ru) ⟨v, H1, I1.tok _, ru, q⟩
theorem de_xf {X : Cx} {a : Addr} {oe : Obj} {cls : Value} {d : Option Addr} {pn : List (Addr × Obj)} {e : Expr} {te : TED} {pos : Pos} {f : String} {nms : List String} (T : XfT X.K X.mg nms f)
    (hz : Zc cls d oe) (hf : ∃ vs, oe.data = .fields vs) (he : DE (X.suite a ((a, oe) :: pn)) W0 e te) (hb : attributeBase e (Str.ofString f) X.env (eval e X.env) = eval e X.env := by rfl) :
    DE (X.suite a ((a, oe) :: pn)) W0 (.Attribute e (Str.ofString f) pos) (eXf nms a cls d f te) :=
  PE.imp (pe_xfA hz hf he hb) fun σ H Q ⟨G, F, m, sd, h, QD, E, at_, t, hQ⟩ => LE.step at_ t fun F' m' h' H' v x le a' rp q => by
    split at q
    · obtain ⟨⟨rfl, rfl, rfl⟩, hn, q⟩ := q
      split at q
      · rename_i y ey
        cases rp with
        | exc0 hC => simp [fget] at ey
        | exc1 hC el hd rps =>
          obtain ⟨w, l, rw'⟩ := fget_lk el rps ey
          exact ⟨rfl, _, T.xf _ hn _ hC, T.no _ hn _ hC, rfl, _, _, w, rfl, a'.R.sf _ _ hd, l, hQ _ _ ⟨F', m', h', y, le, a'.R, rw', q⟩⟩
      · exact q.elim
    · exact q.elim
end DL
end

section
set_option maxRecDepth 100000
set_option maxHeartbeats 4000000
namespace DL
open PySem PySem.Spec L2
/-! ## o.m(..) of built-in types -/
abbrev FM := D → List D → DH → VD → Prop
def isList (d : D) (h : DH) : Bool := match d with
  | .lst _ => true
  | .scr _ => true
  | .ref n => match h[n]? with
    | some (.lst _) => true
    | _ => false
  | _ => false
def isStr (d : D) : Bool := match d with
  | .str _ => true
  | _ => false
def eM (ty : D → DH → Bool) (f : FM) (to : TED) (t : TAD) : TED := fun sd h Q E => to sd h (fun o h1 => ty o h1 = true ∧ t sd h1 (fun ds h2 => f o ds h2 Q) E) E
section
variable (X : Cx)
def MtDD (T : String) (ty : D → DH → Bool) (id : String) (f : FM) : Prop := (∀ (G F : Hp) (m : List Addr) (h : DH) (H : Hp) (v : V) (d : D), Rel X.K X.mg G F m h H → Rp X.K X.mg F m v d → ty d h = true → tyV X.K T v H) ∧
  ∃ r, MtR X id r ∧ ∀ (G F : Hp) (m : List Addr) (h : DH) (H : Hp) (v : V) (d : D) (vs : List V) (ds : List D) (QD : VD) (Q : VK), Rel X.K X.mg G F m h H → Rp X.K X.mg F m v d → Rps X.K X.mg F m vs ds → f d ds h QD → (∀ v H', QV X.K X.mg G F m QD v H' → Q v H') → r v vs H Q
end
section
variable {X : Cx} {W : WX} {o e : Expr} {es : List Expr} {to : TED} {t : TAD} {name : Str} {apos cpos : Pos} {T id : String} {ty : D → DH → Bool} {f : FM}
theorem de_m (pa : PlainAttrs T) (slot : Slot T name id) (hty : typeOf (.builtin id) = pure (.type "method_descriptor")) (hm : MtDD X T ty id f) (ho : DE X W o to) (ha : DA X W (e :: es) t)
    (hbase : attributeBase o name X.env (eval o X.env) = eval o X.env := by rfl)
    (hfew : ((backTo cpos (starEach (e :: es) X.env)).all (fun x => !x.1) && (backToKw cpos (keywordEach [] X.env)).all (fun x => x.1.isSome)
      && decide ((e :: es).length + ([] : List Keyword).length + (if ([] : List Keyword).isEmpty then 0 else 1) < 30)) = true := by rfl)
    (hline : (apos.endLine == cpos.line) = true := by rfl) (hs : starEach (e :: es) X.env = (false, eval e X.env) :: starEach es X.env := by rfl) (hplain : (backTo cpos (starEach es X.env)).any (·.1) = false := by rfl) :
    DE X W (.Call (.Attribute o name apos) (e :: es) [] cpos) (eM ty f to t) := by
  obtain ⟨h1, r, hr, hf⟩ := hm
  exact PE.imp (pe_bm pa slot hty hr ho ha hbase hfew hline hs hplain) fun σ H Q ⟨G, F, m, sd, h, QD, E, at_, t, hQ⟩ => LE.step at_ t fun F1 m1 h1' H1 v d le1 a1 rp q => ⟨h1 _ _ _ _ _ _ _ a1.R rp q.1, LA.step a1 q.2 fun F2 m2 h2 H2 vs ds hl le2 a2 rps q2 =>
    hf _ _ _ _ _ _ _ _ _ _ _ a2.R (rp.mono le2) rps q2 fun v H' z => hQ _ _ (z.mono (le1.trans le2))⟩
theorem de_m0 (pa : PlainAttrs T) (slot : Slot T name id) (hty : typeOf (.builtin id) = pure (.type "method_descriptor")) (hm : MtDD X T ty id f) (ho : DE X W o to)
    (hbase : attributeBase o name X.env (eval o X.env) = eval o X.env := by rfl) (hline : (apos.endLine == cpos.line) = true := by rfl) : DE X W (.Call (.Attribute o name apos) [] [] cpos) (eM ty f to eNil) := by
  obtain ⟨h1, r, hr, hf⟩ := hm
  exact PE.imp (pe_bm0 pa slot hty hr ho hbase hline) fun σ H Q ⟨G, F, m, sd, h, QD, E, at_, t, hQ⟩ => LE.step at_ t fun F1 m1 h1' H1 v d le1 a1 rp q => ⟨h1 _ _ _ _ _ _ _ a1.R rp q.1, hf _ _ _ _ _ _ _ _ _ _ _ a1.R rp .nil q.2 fun v H' z => hQ _ _ (z.mono le1)⟩
theorem ty_list (G F : Hp) (m : List Addr) (h : DH) (H : Hp) (v : V) (d : D) (R : Rel X.K X.mg G F m h H) (r : Rp X.K X.mg F m v d) (e : isList d h = true) : tyV X.K "list" v H := by
  cases r with
  | lst s p => exact .inl ⟨rfl, _, .inl (.inl (R.sf _ _ s))⟩
  | scr s p => exact .inl ⟨rfl, _, sqL_mono R.sf s⟩
  | ref hn =>
    simp only [isList] at e
    split at e
    · rename_i n xs q
      obtain ⟨a', vs, e1, _, e3, p⟩ := R.lst q
      rw [hn] at e1; cases e1
      exact .inl ⟨rfl, _, .inl (.inl e3)⟩
    · cases e
  | _ => cases e
theorem ty_str (G F : Hp) (m : List Addr) (h : DH) (H : Hp) (v : V) (d : D) (R : Rel X.K X.mg G F m h H) (r : Rp X.K X.mg F m v d) (e : isStr d = true) : tyV X.K "str" v H := by
  cases r with
  | str x => rfl
  | _ => cases e
end
def mAppend : FM := fun o ds h Q => match o, ds with
  | .ref n, [d] => match h[n]? with
    | some (.lst xs) => xs.length < sizeLine ∧ Q .non (h.set n (.lst (xs ++ [d])))
    | _ => False
  | _, _ => False
/-- ys: a list that is never changed, or another one of the small heap -/
def mExtend : FM := fun o ds h Q => match o, ds with
  | .ref n, [d] => match h[n]?, lstOf d h with
    | some (.lst xs), some ys => xs.length + ys.length ≤ sizeLine ∧ Q .non (h.set n (.lst (xs ++ ys)))
    | _, _ => False
  | _, _ => False
def mPop : FM := fun o ds h Q => match o, ds with
  | .ref n, [] => match h[n]? with
    | some (.lst xs) => match xs[xs.length - 1]? with
      | some y => Q y (h.set n (.lst xs.dropLast))
      | none => False
    | _ => False
  | _, _ => False
def mPopAt : FM := fun o ds h Q => match o, ds with
  | .ref n, [.int i] => match h[n]? with
    | some (.lst xs) => xs.length ≤ sizeLine ∧ match ixN xs.length i with
      | some k => match xs[k]? with
        | some y => Q y (h.set n (.lst (xs.eraseIdx k)))
        | none => False
      | none => False
    | _ => False
  | _, _ => False
def mReverse : FM := fun o ds h Q => match o, ds with
  | .ref n, [] => match h[n]? with
    | some (.lst xs) => Q .non (h.set n (.lst xs.reverse))
    | _ => False
  | _, _ => False
/-- the first place of x -/
def idxD (x : D) : List D → Option Nat
  | [] => none
  | y :: r => if eqF y x = true then some 0 else (idxD x r).map (· + 1)
def mIndex : FM := fun o ds h Q => match ds with
  | [d] => match listOf o h with
    | some xs => flatD d = true ∧ xs.all flatD = true ∧ (match idxD d xs with
      | some j => Q (.int (j : Nat)) h
      | none => False)
    | none => False
  | _ => False
theorem idxD_spec {x : D} : ∀ {xs : List D} {j : Nat}, idxD x xs = some j → ∃ y, xs[j]? = some y ∧ eqF y x = true ∧ ∀ m z, m < j → xs[m]? = some z → eqF z x = false
  | [], _, e => by simp [idxD] at e
  | y :: r, j, e => by
    unfold idxD at e
    by_cases h : eqF y x = true
    · rw [if_pos h] at e; cases e
      exact ⟨y, rfl, h, fun m z hm => absurd hm (Nat.not_lt_zero _)⟩
    · rw [if_neg h, Option.map_eq_some_iff] at e
      obtain ⟨i, e1, rfl⟩ := e
      obtain ⟨z, h1, h2, h3⟩ := idxD_spec e1
      refine ⟨z, by simpa using h1, h2, fun m w hm hw => ?_⟩
      cases m with
      | zero => simp at hw; subst hw; exact Bool.eq_false_iff.mpr h
      | succ m => exact h3 m w (by omega) (by simpa using hw)
section
variable {X : Cx}
theorem dm_append : MtDD X "list" isList "list.append" mAppend := ⟨ty_list, _, mt_append, fun G F m h H v d vs ds QD Q R r rs q hQ => by
  unfold mAppend at q
  split at q
  · rename_i n e
    split at q
    · rename_i xs hn
      cases r with
      | ref hm =>
      obtain ⟨w, rfl, rw_⟩ := Rps.one rs
      obtain ⟨a, ws, e1, _, e3, p⟩ := R.lst hn
      rw [hm] at e1; cases e1
      exact ⟨_, ws, w, rfl, rfl, e3, by rw [Paired.len p]; exact q.1, hQ _ _ ⟨F, m, _, _, WLe.refl, R.put hn (fun q => nomatch q) hm (.lst (Rps.snoc p rw_)), .non, q.2⟩⟩
    · exact q.elim
  · exact q.elim⟩
theorem dm_extend : MtDD X "list" isList "list.extend" mExtend := ⟨ty_list, _, mt_extend, fun G F m h H v d vs ds QD Q R r rs q hQ => by
  unfold mExtend at q
  split at q
  · rename_i n e
    split at q
    · rename_i xs ys hn hy
      cases r with
      | ref hm =>
      obtain ⟨w, rfl, rw_⟩ := Rps.one rs
      obtain ⟨a, ws, e1, _, e3, p⟩ := R.lst hn
      rw [hm] at e1; cases e1
      obtain ⟨b, zs, rfl, hb, p2⟩ := R.lstOf rw_ hy
      exact ⟨_, b, ws, zs, rfl, rfl, e3, hb, by rw [Paired.len p, Paired.len p2]; exact q.1, hQ _ _ ⟨F, m, _, _, WLe.refl, R.put hn (fun q => nomatch q) hm (.lst (Rps.app p p2)), .non, q.2⟩⟩
    · exact q.elim
  · exact q.elim⟩
theorem dm_pop : MtDD X "list" isList "list.pop" mPop := ⟨ty_list, _, mt_pop, fun G F m h H v d vs ds QD Q R r rs q hQ => by
  unfold mPop at q
  split at q
  · rename_i n
    split at q
    · rename_i xs hn
      cases r with
      | ref hm =>
      cases rs
      obtain ⟨a, ws, e1, _, e3, p⟩ := R.lst hn
      rw [hm] at e1; cases e1
      split at q
      · rename_i y ey
        obtain ⟨w, ew, rw_⟩ := Rps.get p ey
        exact ⟨_, ws, w, rfl, rfl, e3, by rw [Paired.len p]; exact ew, hQ _ _ ⟨F, m, _, _, WLe.refl, R.put hn (fun q => nomatch q) hm (.lst (Rps.dropLast p)), rw_, q⟩⟩
      · exact q.elim
    · exact q.elim
  · exact q.elim⟩
theorem dm_popAt : MtDD X "list" isList "list.pop" mPopAt := ⟨ty_list, _, mt_popAt, fun G F m h H v d vs ds QD Q R r rs q hQ => by
  unfold mPopAt at q
  split at q
  · rename_i n i
    split at q
    · rename_i xs hn
      cases r with
      | ref hm =>
      obtain ⟨w, rfl, ri⟩ := Rps.one rs
      cases ri
      obtain ⟨a, ws, e1, _, e3, p⟩ := R.lst hn
      rw [hm] at e1; cases e1
      obtain ⟨hz, q⟩ := q
      split at q
      · rename_i k hk
        split at q
        · rename_i y ey
          obtain ⟨w, ew, rw_⟩ := Rps.get p ey
          obtain ⟨s1, s2, s3, s4⟩ := ixN_seq hk
          have hz2 : (xs.length : Int) ≤ 16777216 := by
            have := hz
            simp only [sizeLine] at this
            omega
          exact ⟨_, ws, i, k, w, rfl, rfl, e3, by omega, by omega, by rw [Paired.len p]; exact s1, ew, hQ _ _ ⟨F, m, _, _, WLe.refl, R.put hn (fun q => nomatch q) hm (.lst (Rps.eraseIdx k p)), rw_, q⟩⟩
        · exact q.elim
      · exact q.elim
    · exact q.elim
  · exact q.elim⟩
theorem dm_reverse : MtDD X "list" isList "list.reverse" mReverse := ⟨ty_list, _, mt_reverse, fun G F m h H v d vs ds QD Q R r rs q hQ => by
  unfold mReverse at q
  split at q
  · rename_i n
    split at q
    · rename_i xs hn
      cases r with
      | ref hm =>
      cases rs
      obtain ⟨a, ws, e1, _, e3, p⟩ := R.lst hn
      rw [hm] at e1; cases e1
      exact ⟨_, ws, rfl, rfl, e3, hQ _ _ ⟨F, m, _, _, WLe.refl, R.put hn (fun q => nomatch q) hm (.lst (Rps.reverse p)), .non, q⟩⟩
    · exact q.elim
  · exact q.elim⟩
theorem dm_index : MtDD X "list" isList "list.index" mIndex := ⟨ty_list, _, mt_index, fun G F m h H v d vs ds QD Q R r rs q hQ => by
  unfold mIndex at q
  split at q
  · split at q
    · rename_i xs hx
      obtain ⟨w, rfl, ri⟩ := Rps.one rs
      obtain ⟨a, ws, rfl, hv, p⟩ := R.listOf r hx
      obtain ⟨q1, q2, q3⟩ := q
      split at q3
      · rename_i j ej
        obtain ⟨y, h1, h2, h3⟩ := idxD_spec ej
        obtain ⟨z, ez, rz⟩ := Rps.get p h1
        exact ⟨a, ws, w, j, z, rfl, rfl, hv, by rw [ri.flat]; exact q1, by rw [Rps.flat p]; exact q2, ez, by rw [rz.eqF ri]; exact h2, fun m z' hm hz => by
          obtain ⟨d', e', r'⟩ := Rps.getV p hz
          rw [r'.eqF ri]; exact h3 m d' hm e', hQ _ _ ⟨F, m, _, _, WLe.refl, R, .int _, q3⟩⟩
      · exact q3.elim
    · exact q.elim
  · exact q.elim⟩
end
end DL
end

section
set_option maxRecDepth 100000
set_option maxHeartbeats 4000000
namespace L2
open PySem PySem.Spec PyProof.Rows
/-! set(xs) of ints, a list or a tuple -/
section
variable {P : Program} {w : World} {A : Around} {E : Value → Shared → Prop} {s : Shared}
theorem call_set_listI {l : Addr} {items : Array Value} (ns : List Int) {Q : Value → Shared → Prop} (hh : A.handled = none) (hl : s.heap.IsList l items) (hit : IntsAre items.toList ns) (hb : ns.length + 1 < scanBound)
    (h : ∀ (h' : Heap) (tk c : Nat), SetR w h' s.heap.objs.size (fun j => decide (j ∈ ns)) c → c ≤ ns.length → (∀ b o, s.heap.get? b = some o → h'.get? b = some o) → Q (.ref s.heap.objs.size) { s with heap := h', toks := tk }) :
    wpAny (model P w) A (call (.type "set") [.ref l]) Q E s := by
  have hisz : items.size = ns.length := by
    have q := IntsAre.length hit
    rw [Array.length_toList] at q
    exact q
  obtain ⟨c, tl, hmro⟩ := F.called_set.mro
  have hmade := F.called_set.made
  have hsub := F.called_set.sub
  refine wpAny_call (codeAny_of_tree ?_)
  show wpAny _ _ (callAny (.type "set") _) _ _ _
  refine wpAny_pure ⟨Code.quiet_builtin _ (by decide +kernel), codeAny_builtin F.entry_type_call ?_⟩
  rw [Around.under_plain (weight_type_call_type "set" [.ref l] []) rfl]
  have h1 := F.called_set.notType
  have h2 := F.called_set.canCreate
  have hct := F.typeCall_set_1 (.ref l)
  repeat (any_goals (first | assumption | wp_step))

  refine codeAny_mono (code_set_led1 (.ref l) (E := E) (Q₁ := fun obj s₁ => obj = .ref s.heap.objs.size ∧ s₁ = { s with heap := s.heap.push { cls := .type "set", dict := none, data := .set #[] 0 (.fresh 0 0 (!w.params.followText "set-order")) } }) ⟨rfl, rfl⟩) fun r s₁ hr => ?_
  cases r with
  | error e => exact hr
  | ok fl =>
    cases fl with
    | ret obj =>
      obtain ⟨rfl, rfl⟩ := hr
      have hS : (s.heap.push { cls := .type "set", dict := none, data := .set #[] 0 (.fresh 0 0 (!w.params.followText "set-order")) }).get? s.heap.objs.size = some { cls := .type "set", dict := none, data := .set #[] 0 (.fresh 0 0 (!w.params.followText "set-order")) } := Heap.get?_push_size _ rfl
      have hT : Shared.TypeIs { s with heap := s.heap.push { cls := .type "set", dict := none, data := .set #[] 0 (.fresh 0 0 (!w.params.followText "set-order")) } } (.ref s.heap.objs.size) "set" := ⟨_, hS, rfl⟩
      have hli := F.called_set.init.lookup
      have hbi := F.called_set.init.bind (.ref s.heap.objs.size)
      repeat (any_goals (first | assumption | wp_step))

      refine codeAny_mono (codeAny_call_builtin (R := wants (fun r s₂ => r = .none ∧ ∃ h' tk c, s₂ = { s with heap := h', toks := tk } ∧ SetR w h' s.heap.objs.size (fun j => decide (j ∈ ns)) c ∧ c ≤ ns.length ∧
          (∀ b o, s.heap.get? b = some o → h'.get? b = some o)) E) F.called_set.init.plain F.entry_set_init (check_set_init_1 hT ?_)) fun r₂ s₂ hr₂ => ?_
      · obtain ⟨ol, hol, hcl, nl, hdl⟩ := hl
        obtain ⟨ocls, odict, odata, oslots⟩ := ol
        simp only at hcl hdl
        subst hcl; subst hdl
        have hol' : (s.heap.push { cls := .type "set", dict := none, data := .set #[] 0 (.fresh 0 0 (!w.params.followText "set-order")) }).get? l = some { cls := .type "list", dict := odict, data := .seq items nl, slots := oslots } := Heap.get?_push_of_some _ hol
        have hsls := F.sub_list_set
        have hslf := F.sub_list_frozenset
        have hne : (Value.type "list" == Value.type "dict") = false := by decide
        have hl1 : (s.heap.push { cls := .type "set", dict := none, data := .set #[] 0 (.fresh 0 0 (!w.params.followText "set-order")) }).IsList l items := ⟨_, hol', rfl, nl, rfl⟩
        unfold Builtin.«set.__init__» noKeywords Builtin.Frozenset.updateFrom
        generalize hPI : pyIter = PI
        wp_walk
        subst hPI

        refine wpAny_pyIter_list hl1 ?_
        refine wpAny_bind (wpAny_runValue ?_)
        have hlS : l < s.heap.objs.size := Heap.lt_size hol
        have hh3 : A.in1.in1.in1.handled = none := by simp [hh]
        have hz1 : (s.heap.push { cls := .type "set", dict := none, data := .set #[] 0 (.fresh 0 0 (!w.params.followText "set-order")) }).objs.size = s.heap.objs.size + 1 := Heap.size_push ..
        have hneI : l ≠ (s.heap.push { cls := .type "set", dict := none, data := .set #[] 0 (.fresh 0 0 (!w.params.followText "set-order")) }).objs.size := by
          rw [Heap.size_push]; exact Nat.ne_of_lt (Nat.lt_succ_of_lt hlS)
        have hSf : s.heap.objs.size ∉ [(s.heap.push { cls := .type "set", dict := none, data := .set #[] 0 (.fresh 0 0 (!w.params.followText "set-order")) }).objs.size, l] := by
          rw [Heap.size_push]; simp only [List.mem_cons, List.mem_singleton, List.not_mem_nil, or_false, not_or]
          exact ⟨Nat.ne_of_lt (Nat.lt_succ_self _), Nat.ne_of_gt hlS⟩
        have hval : ∀ (i : Nat) (v : Value), items[i]? = some v → ∃ k t, ns[i]? = some k ∧ v = .int k t := fun i v hv => by
          have hi : i < ns.length := by rw [← hisz]; exact (Array.getElem?_eq_some_iff.mp hv).1
          obtain ⟨t, e⟩ := PyProof.Rows.IntsAre.int_at hit i v (by rw [Array.getElem?_toList]; exact hv)
          refine ⟨ns[i], t, List.getElem?_eq_getElem hi, ?_⟩
          rw [e, List.getD_eq_getElem?_getD, List.getElem?_eq_getElem hi] <;> rfl
        refine set_update_ints ((Walks.list hh3 _ l hneI items).toS) s.heap.objs.size
          hSf ns hisz hb hval (items.size - 0) 0 _ (by omega) (Nat.zero_le _)
          ⟨⟨_, Heap.get?_push_size _ rfl, rfl, rfl⟩, (hl1.push _)⟩ ?hS0 ?hR
        case hS0 =>
          have hget : ((s.heap.push { cls := .type "set", dict := none, data := .set #[] 0 (.fresh 0 0 (!w.params.followText "set-order")) }).push { cls := .type "list_iterator", data := .fields #[.ref l, .int 0 0] }).get? s.heap.objs.size
              = some { cls := .type "set", dict := none, data := .set #[] 0 (.fresh 0 0 (!w.params.followText "set-order")) } := Heap.get?_push_of_some _ hS
          exact ⟨0, Nat.le_refl 0, setR_new_at hget⟩
        case hR =>
          intro s' c' hm hc' hS'
          obtain ⟨h', g2, d', tk', os'⟩ := s'
          have eg : g2 = s.gens := hm.gens
          have ed : d' = s.drawn := hm.drawn
          have eo : os' = s.os := hm.os
          subst eg; subst ed; subst eo
          show wpAny _ _ _ _ _ _
          refine wpAny_pure ?_
          show wpAny _ _ (ret Value.none) _ _ _
          rw [hisz] at hc'
          refine wpAny_pure ⟨rfl, h', tk', c', rfl, hS', hc', fun b o e => ?_⟩
          have hb0 : b < s.heap.objs.size := Heap.lt_size e
          have hb1 : b ≠ s.heap.objs.size := Nat.ne_of_lt hb0
          have hb2 : b ≠ (s.heap.push { cls := .type "set", dict := none, data := .set #[] 0 (.fresh 0 0 (!w.params.followText "set-order")) }).objs.size := by
            rw [Heap.size_push]; exact Nat.ne_of_lt (Nat.lt_succ_of_lt hb0)
          exact hm.heap b o (by simp only [List.mem_cons, List.mem_singleton, List.not_mem_nil, or_false, not_or]; exact ⟨hb1, hb2⟩) (Heap.get?_push_of_some _ (Heap.get?_push_of_some _ e))

      · cases r₂ with
        | error e => exact hr₂
        | ok fl₂ =>
          cases fl₂ with
          | ret r =>
            obtain ⟨rfl, h', tk, c', rfl, hS', hc', hk'⟩ := hr₂
            repeat (any_goals (first | assumption | wp_step))
            exact h _ _ _ hS' hc' hk'
          | _ => exact hr₂.elim
    | _ => exact hr.elim
end
/-- so many unlike ones -/
def CntOf (ns : List Int) (c : Nat) : Prop := ∃ l : List Int, l.Nodup ∧ (∀ k, k ∈ l ↔ k ∈ ns) ∧ l.length = c
theorem setR_cnt {w : World} {h : Heap} {a : Addr} {ns : List Int} {c : Nat} (R : SetR w h a (fun j => decide (j ∈ ns)) c) : CntOf ns c := by
  obtain ⟨o, es, ep, t, ho, hex, hd, g, nd, hm, hb, hf, hn, hr, hl⟩ := R
  refine ⟨_, nd, fun k => ?_, ?_⟩
  · rw [← hm k, decide_eq_true_eq]
  · rw [List.length_map, Array.length_toList]; exact hn
section
variable {X : Cx}
def rSetI (K : PySem.W.Frag) (w : World) : List V → Hp → VK → Prop := fun xs H Q => ∃ (l : Addr) (ns : List Int), xs = [V.ref l] ∧ (SqL K H l (ns.map V.int) ∨ SqT K H l (ns.map V.int)) ∧ ns.length ≤ 1000 ∧
  ∀ p c, H p = none → CntOf ns c → Q (.ref p) (upd H p (SetO w p (fun j => decide (j ∈ ns)) c))
theorem cr_setI (hc : X.calm = true) : CallR X (.type "set") (rSetI X.K X.w) := by
  intro pins s σ H xs us Q I r h
  obtain ⟨l, ns, rfl, hq, hl, q⟩ := h
  rw [Vals.ref1 r]
  have fin : ∀ (h' : Heap) (tk c : Nat), SetR X.w h' s.heap.objs.size (fun j => decide (j ∈ ns)) c → c ≤ ns.length → (∀ b o, s.heap.get? b = some o → h'.get? b = some o) →
      ∃ v H', Inv X pins σ H' { s with heap := h', toks := tk } ∧ RelV v (.ref s.heap.objs.size) ∧ Q v H' := fun h' tk c R _ k =>
    ⟨.ref _, upd H s.heap.objs.size (SetO X.w s.heap.objs.size (fun j => decide (j ∈ ns)) c), I.laid (t' := tk) k (Nat.le_refl _) (setO_new R), rfl, q _ c (I.hok.fresh (Nat.le_refl _)) (setR_cnt R)⟩
  rcases hq with hq | hq
  · obtain ⟨its, rv, pt, hz⟩ := I.list hq
    exact call_set_listI ns (I.ok.hd hc) pt.isList (ints_of_vals rv) (by unfold scanBound; omega) fin
  · obtain ⟨its, rv, pt, hz⟩ := I.tuple hq
    exact call_set_tupI ns (I.ok.hd hc) (show s.heap.IsTuple l its.toArray from pt) (ints_of_vals rv) (by unfold scanBound; omega) fin
theorem cr_lenSet : CallR X (.builtin "len") (fun xs H Q => ∃ (a : Addr) (S : Int → Bool) (n : Nat), xs = [V.ref a] ∧ H a = some (SetO X.w a S n) ∧ Q (.int n) H) := by
  intro pins s σ H xs us Q I r h
  obtain ⟨a, S, n, rfl, ha, q⟩ := h
  rw [Vals.ref1 r]
  obtain ⟨o, es, ep, t, ho, hex, hd, _, _, _, hb, hf, hn, _, _⟩ := setO_get I ha
  exact call_len_set ho hex hd hf (by unfold scanBound at hb; omega) ⟨.int n, H, I.tok _, ⟨_, by rw [hn]⟩, q⟩
end
end L2
end

section
set_option maxRecDepth 100000
set_option maxHeartbeats 4000000
namespace L2
open PySem PySem.Spec PyProof.Rows
section
variable {prog : Program} {w : World} {A : Around} {E : Value → Shared → Prop} {s : Shared} {l : Addr} {xs : Array (Int × Tok)}
theorem old_keptT {h' : Heap} (hk : ∀ b o, b ∉ [s.heap.objs.size] → (s.heap.push { cls := .type "tuple_iterator", data := .fields #[.ref l, .int 0 0] }).get? b = some o → h'.get? b = some o) :
    ∀ b o, s.heap.get? b = some o → h'.get? b = some o := fun b o e =>
  hk b o (fun hm => absurd (List.mem_singleton.mp hm ▸ Heap.lt_size e) (Nat.lt_irrefl _)) (Heap.get?_push_of_some _ e)
theorem min_intTup {Q : Value → Shared → Prop} (hh : A.handled = none) (hl : s.heap.IsTuple l (intItems xs)) (hne : 0 < xs.size)
    (h : ∀ v h' tk, (intItems xs)[argBest (fun i j => decide (numAt xs i < numAt xs j)) (xs.size - 1)]? = some v → (∀ b o, s.heap.get? b = some o → h'.get? b = some o) → Q v { s with heap := h', toks := tk }) :
    wpAny (model prog w) A (call (.builtin "min") [.ref l]) Q E s := by
  have hlt : l < s.heap.objs.size := by obtain ⟨_, e, _⟩ := hl; exact Heap.lt_size e
  refine call_min_walk (wpAny_pyIter_tuple hl ?_)
  refine ⟨_, [_, l], [_], _, _, _, _, rfl, Walks.tuple (A := A.in1) hh _ l (Nat.ne_of_lt hlt) (intItems xs), ⟨⟨_, Heap.get?_push_size _ rfl, rfl, rfl⟩, hl.push _⟩, fun b hb => ?_, by simpa [intItems] using hne, CmpOf.ints_lt (numAt xs) (fun _ _ => intItems_at), fun v h' tk hP hk => ?_⟩
  · show b < (s.heap.push _).objs.size
    rw [Heap.size_push]
    rcases List.mem_cons.mp hb with rfl | hb
    · exact Nat.lt_succ_self _
    · obtain rfl := List.mem_singleton.mp hb
      exact Nat.lt_succ_of_lt hlt
  · exact h v h' tk (by simpa [intItems] using hP) (old_keptT hk)
theorem max_intTup {Q : Value → Shared → Prop} (hh : A.handled = none) (hl : s.heap.IsTuple l (intItems xs)) (hne : 0 < xs.size)
    (h : ∀ v h' tk, (intItems xs)[argBest (fun i j => decide (numAt xs i > numAt xs j)) (xs.size - 1)]? = some v → (∀ b o, s.heap.get? b = some o → h'.get? b = some o) → Q v { s with heap := h', toks := tk }) :
    wpAny (model prog w) A (call (.builtin "max") [.ref l]) Q E s := by
  have hlt : l < s.heap.objs.size := by obtain ⟨_, e, _⟩ := hl; exact Heap.lt_size e
  refine call_max_walk (wpAny_pyIter_tuple hl ?_)
  refine ⟨_, [_, l], [_], _, _, _, _, rfl, Walks.tuple (A := A.in1) hh _ l (Nat.ne_of_lt hlt) (intItems xs), ⟨⟨_, Heap.get?_push_size _ rfl, rfl, rfl⟩, hl.push _⟩, fun b hb => ?_, by simpa [intItems] using hne, CmpOf.ints_gt (numAt xs) (fun _ _ => intItems_at), fun v h' tk hP hk => ?_⟩
  · show b < (s.heap.push _).objs.size
    rw [Heap.size_push]
    rcases List.mem_cons.mp hb with rfl | hb
    · exact Nat.lt_succ_self _
    · obtain rfl := List.mem_singleton.mp hb
      exact Nat.lt_succ_of_lt hlt
  · exact h v h' tk (by simpa [intItems] using hP) (old_keptT hk)
end
section
variable {prog : Program} {w : World} {A : Around} {E : Value → Shared → Prop} {s : Shared} {l : Addr} {its : List Value} {ns : List Int} {Q : Value → Shared → Prop}
theorem min_rawT (hh : A.handled = none) (hl : s.heap.IsTuple l its.toArray) (hi : IntsAre its ns) (hne : 0 < ns.length)
    (h : ∀ h' tk M t', (∀ b o, s.heap.get? b = some o → h'.get? b = some o) → M ∈ ns → (∀ a, a ∈ ns → M ≤ a) → Q (.int M t') { s with heap := h', toks := tk }) : wpAny (model prog w) A (call (.builtin "min") [.ref l]) Q E s := by
  obtain ⟨xs, e⟩ := hi.allInts.items
  have hn : numsOf (intItems xs).toList = ns := by rw [← e]; exact hi.numsOf
  rw [nums_intItems] at hn
  subst hn
  rw [e] at hl
  have hsz : 0 < xs.size := by simpa using hne
  refine min_intTup hh hl hsz fun v h' tk hv hk => ?_
  obtain ⟨t, rfl⟩ := intItems_at hv
  obtain ⟨h1, h2⟩ := argBest_lt (numAt xs) (xs.size - 1)
  refine h h' tk _ t hk ?_ fun a ha => ?_
  · rw [numAt_eq]; exact PySem.getD_mem (by rw [List.length_map, Array.length_toList]; omega)
  · obtain ⟨j, hj, rfl⟩ := mem_getD ha
    rw [List.length_map, Array.length_toList] at hj
    rw [← numAt_eq]; exact h2 j (by omega)
theorem max_rawT (hh : A.handled = none) (hl : s.heap.IsTuple l its.toArray) (hi : IntsAre its ns) (hne : 0 < ns.length)
    (h : ∀ h' tk M t', (∀ b o, s.heap.get? b = some o → h'.get? b = some o) → M ∈ ns → (∀ a, a ∈ ns → a ≤ M) → Q (.int M t') { s with heap := h', toks := tk }) : wpAny (model prog w) A (call (.builtin "max") [.ref l]) Q E s := by
  obtain ⟨xs, e⟩ := hi.allInts.items
  have hn : numsOf (intItems xs).toList = ns := by rw [← e]; exact hi.numsOf
  rw [nums_intItems] at hn
  subst hn
  rw [e] at hl
  have hsz : 0 < xs.size := by simpa using hne
  refine max_intTup hh hl hsz fun v h' tk hv hk => ?_
  obtain ⟨t, rfl⟩ := intItems_at hv
  obtain ⟨h1, h2⟩ := argBest_gt (numAt xs) (xs.size - 1)
  refine h h' tk _ t hk ?_ fun a ha => ?_
  · rw [numAt_eq]; exact PySem.getD_mem (by rw [List.length_map, Array.length_toList]; omega)
  · obtain ⟨j, hj, rfl⟩ := mem_getD ha
    rw [List.length_map, Array.length_toList] at hj
    rw [← numAt_eq]; exact h2 j (by omega)
end
section
variable {X : Cx}
def rMaxT (K : PySem.W.Frag) : List V → Hp → VK → Prop := fun vs H Q => ∃ (a : Addr) (ns : List Int), vs = [V.ref a] ∧ SqT K H a (ns.map V.int) ∧ 0 < ns.length ∧ ∀ m, m ∈ ns → (∀ y, y ∈ ns → y ≤ m) → Q (.int m) H
def rMinT (K : PySem.W.Frag) : List V → Hp → VK → Prop := fun vs H Q => ∃ (a : Addr) (ns : List Int), vs = [V.ref a] ∧ SqT K H a (ns.map V.int) ∧ 0 < ns.length ∧ ∀ m, m ∈ ns → (∀ y, y ∈ ns → m ≤ y) → Q (.int m) H
theorem cr_maxT (hc : X.calm = true) : CallR X (.builtin "max") (rMaxT X.K) := by
  intro pins s σ H vs us Q I r h
  obtain ⟨a, ns, rfl, hs, hne, q⟩ := h
  obtain ⟨its, rv, hl, _⟩ := I.tuple hs
  rw [Vals.ref1 r]
  exact max_rawT (I.ok.hd hc) hl rv.ints hne fun h' tk m t' hk h1 h2 => ⟨.int _, H, I.kept hk, ⟨_, rfl⟩, q m h1 h2⟩
theorem cr_minT (hc : X.calm = true) : CallR X (.builtin "min") (rMinT X.K) := by
  intro pins s σ H vs us Q I r h
  obtain ⟨a, ns, rfl, hs, hne, q⟩ := h
  obtain ⟨its, rv, hl, _⟩ := I.tuple hs
  rw [Vals.ref1 r]
  exact min_rawT (I.ok.hd hc) hl rv.ints hne fun h' tk m t' hk h1 h2 => ⟨.int _, H, I.kept hk, ⟨_, rfl⟩, q m h1 h2⟩
end
end L2
end

section
set_option maxRecDepth 100000
set_option maxHeartbeats 4000000
namespace DL
open PySem PySem.Spec L2
/-! ## len(set(..)), sorted(set(..)) of ints -/
def dedI : List Int → List Int
  | [] => []
  | x :: r => if x ∈ r then dedI r else x :: dedI r
theorem mem_dedI {k : Int} : ∀ {l : List Int}, k ∈ dedI l ↔ k ∈ l
  | [] => Iff.rfl
  | x :: r => by
    unfold dedI
    have ih := mem_dedI (k := k) (l := r)
    split
    · rename_i hx
      rw [ih]
      constructor
      · exact fun h => List.mem_cons_of_mem _ h
      · intro h
        rcases List.mem_cons.mp h with rfl | h
        · exact hx
        · exact h
    · rw [List.mem_cons, List.mem_cons, ih]
theorem nodup_dedI : ∀ l : List Int, (dedI l).Nodup
  | [] => List.nodup_nil
  | x :: r => by
    unfold dedI
    split
    · exact nodup_dedI r
    · rename_i hx
      exact List.nodup_cons.mpr ⟨fun h => hx (mem_dedI.mp h), nodup_dedI r⟩
theorem dedI_of_nodup : ∀ {l : List Int}, l.Nodup → dedI l = l
  | [], _ => rfl
  | x :: r, h => by
    obtain ⟨h1, h2⟩ := List.nodup_cons.mp h
    unfold dedI
    rw [if_neg h1, dedI_of_nodup h2]
theorem dedI_le : ∀ l : List Int, (dedI l).length ≤ l.length
  | [] => Nat.le_refl _
  | x :: r => by
    have ih := dedI_le r
    unfold dedI
    split
    · rw [List.length_cons]; omega
    · rw [List.length_cons, List.length_cons]; omega
theorem dedI_len : ∀ {l : List Int}, (dedI l).length = l.length ↔ l.Nodup
  | [] => ⟨fun _ => List.nodup_nil, fun _ => rfl⟩
  | x :: r => by
    have ih := dedI_len (l := r)
    have le := dedI_le r
    rw [List.nodup_cons]
    unfold dedI
    split
    · rename_i hx
      constructor
      · intro h; rw [List.length_cons] at h; omega
      · exact fun h => absurd hx h.1
    · rename_i hx
      rw [List.length_cons, List.length_cons]
      constructor
      · exact fun h => ⟨hx, ih.mp (by omega)⟩
      · intro h; rw [ih.mpr h.2]
theorem perm_of_mem {a b : List Int} (h1 : a.Nodup) (h2 : b.Nodup) (h : ∀ x, x ∈ a ↔ x ∈ b) : a.Perm b := (List.perm_ext_iff_of_nodup h1 h2).mpr h
theorem cntOf {ns : List Int} {c : Nat} (h : CntOf ns c) : c = (dedI ns).length := by
  obtain ⟨l, h1, h2, h3⟩ := h
  rw [← h3]
  exact (perm_of_mem h1 (nodup_dedI ns) fun x => (h2 x).trans mem_dedI.symm).length_eq
/-- the ints of a list or tuple -/
def intsIn (d : D) (h : DH) : Option (List Int) := (itemsOf d h).bind intsOf
def eLenSet (t : TED) : TED := fun sd h Q E => t sd h (fun d h1 => match intsIn d h1 with
  | some ns => ns.length ≤ 1000 ∧ Q (.int (dedI ns).length) h1
  | none => False) E
def eSortedSet (t : TED) : TED := fun sd h Q E => t sd h (fun d h1 => match intsIn d h1 with
  | some ns => ns.length ≤ 1000 ∧ (dedI ns).length < 64 ∧ Q (.lst ((sortI (dedI ns)).map .int)) h1
  | none => False) E
section
variable {X : Cx} {W : WX} {e : Expr} {te : TED} {p p2 q pos : Pos}
theorem Rel.intsIn {K mg G F m h H v d} {ns : List Int} (R : Rel K mg G F m h H) (r : Rp K mg F m v d) (e : DL.intsIn d h = some ns) : ∃ a, v = .ref a ∧ (SqL K H a (ns.map V.int) ∨ SqT K H a (ns.map V.int)) := by
  unfold DL.intsIn at e
  cases e1 : itemsOf d h with
  | none => rw [e1] at e; cases e
  | some xs =>
    rw [e1] at e
    have e2 : intsOf xs = some ns := e
    obtain ⟨a, vs, rfl, hs, p⟩ := R.items r e1
    rw [intsOf_some e2] at p
    rw [Rps.ints p] at hs
    exact ⟨a, rfl, hs⟩
theorem de_lenSet (hl : Gl X "len") (ml : X.mg "len" = none) (hs : Gl X "set") (ms : X.mg "set" = none) (he : DE X W e te) (hc : X.calm = true := by rfl)
    (h1 : starEach [e] X.env = (false, eval e X.env) :: starEach [] X.env := by rfl)
    (h2 : starEach [.Call (.Name "set" p2) [e] [] q] X.env = (false, eval (.Call (.Name "set" p2) [e] [] q) X.env) :: starEach [] X.env := by rfl)
    (h3 : (backTo q (starEach [] X.env)).any (·.1) = false := by rfl) (h4 : (backTo pos (starEach [] X.env)).any (·.1) = false := by rfl) :
    DE X W (.Call (.Name "len" p) [.Call (.Name "set" p2) [e] [] q] [] pos) (eLenSet te) :=
  PE.imp (pe_callB cr_lenSet hl ml PySem.boot_len (pa_cons (pe_callTy (cr_setI hc) hs ms PyProof.Rows.boot_set (pa_cons he pa_nil h1) (by decide) (by decide) h1 h3) pa_nil h2) (by decide) (by decide) h2 h4) fun σ H Q ⟨G, F, m, sd, h, QD, E, at_, t, hQ⟩ => LE.step at_ t fun F1 m1 h1 H1 v d le a1 rp t1 => by
    revert t1
    cases e1 : intsIn d h1 with
    | none => exact fun t1 => t1.elim
    | some ns =>
      rintro ⟨hz, t1⟩
      obtain ⟨a, rfl, hs⟩ := a1.R.intsIn rp e1
      refine ⟨a, ns, rfl, hs, hz, fun p c hp hcn => ⟨p, _, c, rfl, upd_same, ?_⟩⟩
      rw [cntOf hcn]
      exact hQ _ _ ⟨F1, m1, h1, _, le, a1.R.skip hp, .int _, t1⟩
theorem de_sortedSet (hl : Gl X "sorted") (ml : X.mg "sorted" = none) (hs : Gl X "set") (ms : X.mg "set" = none) (he : DE X W e te) (hc : X.calm = true := by rfl)
    (h1 : starEach [e] X.env = (false, eval e X.env) :: starEach [] X.env := by rfl)
    (h2 : starEach [.Call (.Name "set" p2) [e] [] q] X.env = (false, eval (.Call (.Name "set" p2) [e] [] q) X.env) :: starEach [] X.env := by rfl)
    (h3 : (backTo q (starEach [] X.env)).any (·.1) = false := by rfl) (h4 : (backTo pos (starEach [] X.env)).any (·.1) = false := by rfl) :
    DE X W (.Call (.Name "sorted" p) [.Call (.Name "set" p2) [e] [] q] [] pos) (eSortedSet te) :=
  PE.imp (pe_callB (cr_sortedSet hc) hl ml PyProof.Rows.boot_sorted (pa_cons (pe_callTy (cr_setI hc) hs ms PyProof.Rows.boot_set (pa_cons he pa_nil h1) (by decide) (by decide) h1 h3) pa_nil h2) (by decide) (by decide) h2 h4) fun σ H Q ⟨G, F, m, sd, h, QD, E, at_, t, hQ⟩ => LE.step at_ t fun F1 m1 h1 H1 v d le a1 rp t1 => by
    revert t1
    cases e1 : intsIn d h1 with
    | none => exact fun t1 => t1.elim
    | some ns =>
      rintro ⟨hz, h64, t1⟩
      obtain ⟨a, rfl, hs⟩ := a1.R.intsIn rp e1
      refine ⟨a, ns, rfl, hs, hz, fun p c hp hcn => ⟨p, _, c, rfl, upd_same, by rw [cntOf hcn]; exact h64, fun ns' p' so mem hl' hp' => ?_⟩⟩
      have nd : ns'.Nodup := so.imp (fun h => Int.ne_of_lt h)
      have e2 : ns' = sortI (dedI ns) := sortI_unique (perm_of_mem nd (nodup_dedI ns) fun x => by rw [mem x, decide_eq_true_eq, mem_dedI]) (so.imp fun h => Int.le_of_lt h)
      rw [e2]
      have R2 := a1.R.skip (o := SetO X.w p (fun j => decide (j ∈ ns)) c) hp
      obtain ⟨F', le', R', rq⟩ := R2.lstN hp' (Rps.of_ints (K := X.K) (mg := X.mg) (F := F1) (m := m1) (sortI (dedI ns)))
      exact hQ _ _ ⟨F', m1, h1, _, le.trans le', R', rq, t1⟩
end
/-! ## min, max of a tuple too -/
def fIntsI (f : List Int → Int) : FC := fun ds h Q => match ds with
  | [x] => match intsIn x h with
    | some ns => 0 < ns.length ∧ Q (.int (f ns)) h
    | none => False
  | _ => False
section
variable {X : Cx}
theorem dc_minI (hc : X.calm = true) : CallDD X (.builtin "min") (fIntsI minL) := ⟨_, CallR.or (cr_min hc) (cr_minT hc), fun G F m h H vs ds QD Q R rp q hQ => by
  unfold fIntsI at q
  split at q
  · obtain ⟨v, rfl, r⟩ := Rps.one rp
    split at q
    · rename_i ns e
      obtain ⟨a, rfl, hs⟩ := R.intsIn r e
      have key : ∀ z, z ∈ ns → (∀ y, y ∈ ns → z ≤ y) → Q (.int z) H := fun z h1 h2 => by
        have s := minL_spec q.1
        have ez : z = minL ns := Int.le_antisymm (h2 _ s.1) (s.2 z h1)
        rw [ez]
        exact hQ _ _ ⟨F, m, h, _, WLe.refl, R, .int _, q.2⟩
      rcases hs with hs | hs
      · exact .inl ⟨a, ns, rfl, hs, q.1, key⟩
      · exact .inr ⟨a, ns, rfl, hs, q.1, key⟩
    · exact q.elim
  · exact q.elim⟩
theorem dc_maxI (hc : X.calm = true) : CallDD X (.builtin "max") (fIntsI maxL) := ⟨_, CallR.or (cr_max hc) (cr_maxT hc), fun G F m h H vs ds QD Q R rp q hQ => by
  unfold fIntsI at q
  split at q
  · obtain ⟨v, rfl, r⟩ := Rps.one rp
    split at q
    · rename_i ns e
      obtain ⟨a, rfl, hs⟩ := R.intsIn r e
      have key : ∀ z, z ∈ ns → (∀ y, y ∈ ns → y ≤ z) → Q (.int z) H := fun z h1 h2 => by
        have s := maxL_spec q.1
        have ez : z = maxL ns := Int.le_antisymm (s.2 z h1) (h2 _ s.1)
        rw [ez]
        exact hQ _ _ ⟨F, m, h, _, WLe.refl, R, .int _, q.2⟩
      rcases hs with hs | hs
      · exact .inl ⟨a, ns, rfl, hs, q.1, key⟩
      · exact .inr ⟨a, ns, rfl, hs, q.1, key⟩
    · exact q.elim
  · exact q.elim⟩
end
/-! ## list * k as an object of the small heap, tuple * k -/
def dMulR : F2 := fun x y h Q => match lstOf x h, y with
  | some xs, .int k => k < 2 ^ 20 ∧ -(2 ^ 20) < k ∧ xs.length * k.toNat ≤ sizeLine ∧ Q (.ref h.length) (h ++ [.lst (List.replicate k.toNat xs).flatten])
  | _, _ => False
def dMulT : F2 := fun x y h Q => match x, y with
  | .tup xs, .int k => 0 < xs.length ∧ 2 ≤ k ∧ k ≤ 1000 ∧ xs.length ≤ 1000 ∧ Q (.tup (List.replicate k.toNat xs).flatten) h
  | _, _ => False
section
variable {X : Cx}
theorem do_mulR : OpDD X (binaryOp .Mult) dMulR := by
  refine .of _ op_rep fun G F m h H x y d e QD Q R rx ry q hQ => ?_
  unfold dMulR at q
  split at q
  · rename_i xs k e1
    obtain ⟨a, vs, rfl, h1, p1⟩ := R.lstOf rx e1
    cases ry
    refine ⟨_, _, _, rfl, rfl, h1, by omega, by omega, by rw [Paired.len p1]; exact q.2.2.1, fun p hp => ?_⟩
    obtain ⟨m', le, R', rp⟩ := R.refN hp (Rps.rep p1 _)
    exact hQ _ _ ⟨F, m', _, _, le, R', rp, q.2.2.2⟩
  · exact q.elim
theorem do_mulT : OpDD X (binaryOp .Mult) dMulT := by
  refine .of _ op_repT fun G F m h H x y d e QD Q R rx ry q hQ => ?_
  unfold dMulT at q
  split at q
  · rename_i xs k
    cases ry
    cases rx with
    | tup s p =>
      rename_i a vs
      refine ⟨_, _, _, rfl, rfl, sqT_mono R.sf s, fun hn => ?_, q.2.1, q.2.2.1, by rw [Paired.len p]; exact q.2.2.2.1, fun p' hp => ?_⟩
      · have := Paired.len p
        rw [hn, List.length_nil] at this
        omega
      · obtain ⟨F', le, R', rp⟩ := R.tupN hp (Rps.rep p _)
        exact hQ _ _ ⟨F', m, h, _, le, R', rp, q.2.2.2.2⟩
  · exact q.elim
end
/-! ## list(range(..)), tuple(range(..)) -/
abbrev TRD := Sg → DH → (Int → Int → DH → Prop) → ED → Prop
def rg1 (t : TED) : TRD := fun sd h Q E => t sd h (fun d h1 => match d with | .int n => Q 0 n h1 | _ => False) E
def rg2 (t u : TED) : TRD := fun sd h Q E => t sd h (fun d h1 => u sd h1 (fun e h2 => match d, e with | .int i, .int j => Q i j h2 | _, _ => False) E) E
def eTupRg (t : TRD) : TED := fun sd h Q E => t sd h (fun a b h1 => RgOk a b ∧ Q (.tup (rngL a (b - a).toNat)) h1) E
def eLstRg (t : TRD) : TED := fun sd h Q E => t sd h (fun a b h1 => RgOk a b ∧ Q (.lst (rngL a (b - a).toNat)) h1) E
def eRefRg (t : TRD) : TED := fun sd h Q E => t sd h (fun a b h1 => RgOk a b ∧ Q (.ref h1.length) (h1 ++ [.lst (rngL a (b - a).toNat)])) E
def LR (K : PySem.W.Frag) (mg : Str → Option Value) (W : WX) (t : TRD) : St → Hp → (Int → Int → Hp → Prop) → Prop := fun σ H Q => ∃ G F m sd h QD E, At K mg G W F m sd h σ H E ∧ t sd h QD E ∧ ∀ a b H', (∃ F' m' h', WLe F m F' m' ∧ Rel K mg G F' m' h' H' ∧ QD a b h') → Q a b H'
def DR (X : Cx) (W : WX) (e : Expr) (t : TRD) : Prop := PRg X e (LR X.K X.mg W t)
section
variable {X : Cx} {W : WX} {a b e : Expr} {ta tb : TED} {t : TRD} {p pos : Pos}
theorem PRg.imp {t t' : St → Hp → (Int → Int → Hp → Prop) → Prop} (p : PRg X e t) (h : ∀ σ H Q, t' σ H Q → t σ H Q) : PRg X e t' := fun pins s σ H Q I k => p pins s σ H Q I (h _ _ _ k)
theorem LR.step {K mg G F m sd h σ H} {QD : Int → Int → DH → Prop} {E : ED} {Q : Int → Int → Hp → Prop} (at_ : At K mg G W F m sd h σ H E) (ht : t sd h QD E)
    (k : ∀ F' m' h' H' a b, WLe F m F' m' → At K mg G W F' m' sd h' σ H' E → QD a b h' → Q a b H') : LR K mg W t σ H Q :=
  ⟨G, F, m, sd, h, QD, E, at_, ht, fun a b H' ⟨F', m', h', le, R, q⟩ => k F' m' h' H' a b le (at_.mv le R) q⟩
theorem dr_1 (hg : Gl X "range") (hm : X.mg "range" = none) (ha : DE X W a ta) (na : starEach [a] X.env = (false, eval a X.env) :: starEach [] X.env := by rfl) : DR X W (.Call (.Name "range" p) [a] [] pos) (rg1 ta) :=
  PRg.imp (prg_1 hg hm ha na) fun σ H Q ⟨G, F, m, sd, h, QD, E, at_, t, hQ⟩ => LE.step at_ t fun F1 m1 h1 H1 v d le a1 rp t1 => by
    revert t1
    split
    · intro t1; cases rp; exact ⟨_, rfl, hQ _ _ _ ⟨F1, m1, h1, le, a1.R, t1⟩⟩
    · exact fun t1 => t1.elim
theorem dr_2 (hg : Gl X "range") (hm : X.mg "range" = none) (ha : DE X W a ta) (hb : DE X W b tb) (na : starEach [a, b] X.env = (false, eval a X.env) :: starEach [b] X.env := by rfl)
    (nb : starEach [b] X.env = (false, eval b X.env) :: starEach [] X.env := by rfl) (hp : (backTo pos (starEach [b] X.env)).any (·.1) = false := by rfl) : DR X W (.Call (.Name "range" p) [a, b] [] pos) (rg2 ta tb) :=
  PRg.imp (prg_2 hg hm ha hb na nb hp) fun σ H Q ⟨G, F, m, sd, h, QD, E, at_, t, hQ⟩ => LE.step at_ t fun F1 m1 h1 H1 v d le a1 rp t1 => LE.step a1 t1 fun F2 m2 h2 H2 w e le2 a2 rq t2 => by
    have rp' := rp.mono le2
    revert t2
    split
    · intro t2; cases rp'; cases rq; exact ⟨_, _, rfl, rfl, hQ _ _ _ ⟨F2, m2, h2, le.trans le2, a2.R, t2⟩⟩
    · exact fun t2 => t2.elim
theorem rps_rg {K mg} {F : Hp} {m : List Addr} (a b : Int) : Rps K mg F m (rgV a b) (rngL a (b - a).toNat) := by
  unfold rgV rngL
  induction List.range (b - a).toNat with
  | nil => exact .nil
  | cons x r ih => exact .cons (.int _) ih
theorem de_tupRg (hg : Gl X "tuple") (hm : X.mg "tuple" = none) (he : DR X W e t) (hc : X.calm = true := by rfl) (na : starEach [e] X.env = (false, eval e X.env) :: starEach [] X.env := by rfl) : DE X W (.Call (.Name "tuple" p) [e] [] pos) (eTupRg t) :=
  PE.imp (pe_tupRg hc hg hm he na) fun σ H Q ⟨G, F, m, sd, h, QD, E, at_, t, hQ⟩ => LR.step at_ t fun F1 m1 h1 H1 a b le a1 t1 => ⟨t1.1, fun q hq => by
    obtain ⟨F', le', R', rp⟩ := a1.R.tupN hq (rps_rg a b)
    exact hQ _ _ ⟨F', m1, h1, _, le.trans le', R', rp, t1.2⟩⟩
theorem de_lstRg (hg : Gl X "list") (hm : X.mg "list" = none) (he : DR X W e t) (hc : X.calm = true := by rfl) (na : starEach [e] X.env = (false, eval e X.env) :: starEach [] X.env := by rfl) : DE X W (.Call (.Name "list" p) [e] [] pos) (eLstRg t) :=
  PE.imp (pe_listRg hc hg hm he na) fun σ H Q ⟨G, F, m, sd, h, QD, E, at_, t, hQ⟩ => LR.step at_ t fun F1 m1 h1 H1 a b le a1 t1 => ⟨t1.1, fun q hq => by
    obtain ⟨F', le', R', rp⟩ := a1.R.lstN hq (rps_rg a b)
    exact hQ _ _ ⟨F', m1, h1, _, le.trans le', R', rp, t1.2⟩⟩
theorem de_refRg (hg : Gl X "list") (hm : X.mg "list" = none) (he : DR X W e t) (hc : X.calm = true := by rfl) (na : starEach [e] X.env = (false, eval e X.env) :: starEach [] X.env := by rfl) : DE X W (.Call (.Name "list" p) [e] [] pos) (eRefRg t) :=
  PE.imp (pe_listRg hc hg hm he na) fun σ H Q ⟨G, F, m, sd, h, QD, E, at_, t, hQ⟩ => LR.step at_ t fun F1 m1 h1 H1 a b le a1 t1 => ⟨t1.1, fun q hq => by
    obtain ⟨m', le', R', rp⟩ := a1.R.refN hq (rps_rg a b)
    exact hQ _ _ ⟨F1, m', _, _, le.trans le', R', rp, t1.2⟩⟩
end
/-! ## x in a list of data -/
def dInD (neg : Bool) : F2 := fun x y h Q => match pyTop h x, pyTop h y with
  | some d, some (.list ds) => SeqAt.shaped d = true ∧ SeqAt.shaped (.list ds) = true ∧ Q (.bl (if neg then !ds.any fun z => PyData.eqv z d else ds.any fun z => PyData.eqv z d)) h
  | _, _ => False
section
variable {X : Cx}
theorem do_inD (hu : X.A.units + 65 < cLine) : OpDD X (compareOp .In) (dInD false) := .of _ (op_inD hu) fun G F m h H x y d e QD Q R rx ry q hQ => by
  unfold dInD at q
  split at q
  · rename_i a b e1 e2
    exact ⟨a, b, R.dp rx e1, R.dp ry e2, q.1, q.2.1, hQ _ _ ⟨F, m, h, _, WLe.refl, R, .bl _, q.2.2⟩⟩
  · exact q.elim
theorem do_notinD (hu : X.A.units + 65 < cLine) : OpDD X (compareOp .NotIn) (dInD true) := .of _ (op_notInD hu) fun G F m h H x y d e QD Q R rx ry q hQ => by
  unfold dInD at q
  split at q
  · rename_i a b e1 e2
    exact ⟨a, b, R.dp rx e1, R.dp ry e2, q.1, q.2.1, hQ _ _ ⟨F, m, h, _, WLe.refl, R, .bl _, q.2.2⟩⟩
  · exact q.elim
end
end DL
end

section
set_option maxRecDepth 100000
set_option maxHeartbeats 4000000
namespace DL
open PySem PySem.Spec L2
/-! ## comprehensions of two clauses -/
def compB (keep : DH → Prop) (g : TGD) (tt : TTD) (te : TED) (sd : Sg) : List D → List D → DH → LD → Prop
  | [], acc, h, Q => keep h ∧ Q acc h
  | x :: r, acc, h, Q => keep h ∧ g x sd h fun sd' h1 => tt sd' h1 (fun b h2 => if b = true then te sd' h2 (fun d h3 => acc.length < sizeLine ∧ compB keep g tt te sd r (acc ++ [d]) h3 Q) EF else compB keep g tt te sd r acc h2 Q) EF
def comp2 (keep : DH → Prop) (g : TGD) (tt : TTD) (ti1 : TID) (g1 : TGD) (tt1 : TTD) (te : TED) (vs1 : List Nat) (sd : Sg) : List D → List D → DH → LD → Prop
  | [], acc, h, Q => keep h ∧ Q acc h
  | x :: r, acc, h, Q => keep h ∧ g x sd h fun sd' h1 => tt sd' h1 (fun b h2 => if b = true then ti1 sd' h2 (fun items1 keep1 h3 => compB keep1 g1 tt1 te (wipeD sd' vs1) items1 acc h3 fun acc' h4 => comp2 keep g tt ti1 g1 tt1 te vs1 sd r acc' h4 Q) EF
      else comp2 keep g tt ti1 g1 tt1 te vs1 sd r acc h2 Q) EF
def eComp2 (ti : TID) (g : TGD) (tt : TTD) (ti1 : TID) (g1 : TGD) (tt1 : TTD) (te : TED) (vs vs1 : List Nat) : TED := fun sd h Q E => ti sd h (fun items keep h1 => comp2 keep g tt ti1 g1 tt1 te vs1 (wipeD sd vs) items [] h1 fun acc h2 => Q (.lst acc) h2) E
def eComp2R (ti : TID) (g : TGD) (tt : TTD) (ti1 : TID) (g1 : TGD) (tt1 : TTD) (te : TED) (vs vs1 : List Nat) : TED := fun sd h Q E => ti sd h (fun items keep h1 => comp2 keep g tt ti1 g1 tt1 te vs1 (wipeD sd vs) items [] h1 fun acc h2 => Q (.ref h2.length) (h2 ++ [.lst acc])) E
theorem drop_cons {α : Type} {l : List α} {i : Nat} {x : α} {r : List α} (h : l.drop i = x :: r) : i < l.length ∧ l[i]? = some x ∧ l.drop (i + 1) = r := by
  refine ⟨?_, ?_, ?_⟩
  · have := congrArg List.length h
    rw [List.length_drop, List.length_cons] at this
    omega
  · have := congrArg (fun l => l[0]?) h
    simpa using this
  · have := congrArg List.tail h
    simpa using this
section
variable {X : Cx} {W : WX}
theorem lc2_read {ti ti1 : TID} {g g1 : TGD} {tt tt1 : TTD} {te : TED} {vs vs1 : List Nat} {σ : L2.St} {H : Hp} {Q : VK} {G F : Hp} {m : List Addr} {sd : Sg} {h : DH} {E : ED} (QL' : LD) (at_ : At X.K X.mg G W F m sd h σ H E)
    (t : ti sd h (fun items keep h1 => comp2 keep g tt ti1 g1 tt1 te vs1 (wipeD sd vs) items [] h1 QL') E)
    (fin : ∀ F' m' h' H' p vacc acc, WLe F m F' m' → G p = none → Rel X.K X.mg (upd G p (.lst vacc)) F' m' h' H' → Rps X.K X.mg F' m' vacc acc → QL' acc h' → Q (.ref p) H') :
    tLc2 (LI X.K X.mg W ti) (LG X.K X.mg vs g) (LT X.K X.mg W0 tt) (LI X.K X.mg W0 ti1) (LG X.K X.mg vs1 g1) (LT X.K X.mg W0 tt1) (LE X.K X.mg W0 te) vs vs1 σ H Q := by
  refine ⟨G, F, m, sd, h, _, _, at_, t, ?_⟩
  rintro J H1 ⟨F1, m1, h1, items, keep, le1, R1, Y, q⟩
  intro p hp
  have gp : G p = none := by
    cases e : G p with
    | none => rfl
    | some u => exact absurd (R1.sg _ _ e) (by rw [hp]; exact fun q => nomatch q)
  have S1 := at_.S.mono le1
  refine ⟨fun i n H => i + n = items.length ∧ ∃ F2 m2 h2 vacc acc, WLe F1 m1 F2 m2 ∧ Rel X.K X.mg (upd G p (.lst vacc)) F2 m2 h2 H ∧ Rps X.K X.mg F2 m2 vacc acc ∧ comp2 keep g tt ti1 g1 tt1 te vs1 (wipeD sd vs) (items.drop i) acc h2 QL',
    ⟨items.length, by omega, F1, m1, h1, [], [], WLe.refl, R1.own hp, .nil, q⟩, ?_⟩
  rintro i n H2 ⟨hin, F2, m2, h2, vacc, acc, le2, R2, racc, q2⟩
  have le12 := le1.trans le2
  cases hr : items.drop i with
  | nil =>
    rw [hr] at q2
    have hlen : items.length ≤ i := List.drop_eq_nil_iff.mp hr
    exact .inl ⟨(Y.2 _ F2 m2 h2 H2 i le2 trivial R2 q2.1).2 hlen (by omega), fin F2 m2 h2 H2 p vacc acc le12 gp R2 racc q2.2⟩
  | cons x r =>
    rw [hr] at q2
    obtain ⟨hi, hx, hr'⟩ := drop_cons hr
    obtain ⟨go, yl⟩ := (Y.2 _ F2 m2 h2 H2 i le2 trivial R2 q2.1).1 hi
    refine .inr ⟨go, fun H' => ∃ F3 m3 h3 vacc acc, WLe F1 m1 F3 m3 ∧ Rel X.K X.mg (upd G p (.lst vacc)) F3 m3 h3 H' ∧ Rps X.K X.mg F3 m3 vacc acc ∧ comp2 keep g tt ti1 g1 tt1 te vs1 (wipeD sd vs) r acc h3 QL', ?_, ?_⟩
    · rintro H' ⟨F3, m3, h3, va, ac, l3, R3, ra, q3⟩
      exact ⟨n - 1, by omega, by omega, F3, m3, h3, va, ac, l3, R3, ra, by rw [hr']; exact q3⟩
    · intro y H' hy
      obtain ⟨F3, d, le3, R3, ed, rp⟩ := yl y H' hy
      rw [hx] at ed; cases ed
      have S3 : SRel X.K X.mg F3 m2 (wipe σ vs) (wipeD sd vs) := (S1.mono (le2.trans le3)).wipe vs
      refine ⟨upd G p (.lst vacc), F3, m2, _, h2, _, x, R3, S3, rp, q2.2, ?_⟩
      rintro σ4 H4 hw ⟨F4, m4, sd4, h4, le4, R4, S4, q4⟩
      refine ⟨by rw [hw, wipe_idem], ?_⟩
      refine LT.step (⟨R4, S4, fun c dx H' ⟨_, _, _, _, _, _, _, _, _, z⟩ => z⟩ : At X.K X.mg (upd G p (.lst vacc)) W0 F4 m4 sd4 h4 σ4 H4 EF) q4 fun F5 m5 h5 H5 b le5 a5 q5 => ?_
      have le35 := le3.trans (le4.trans le5)
      cases b with
      | false =>
        rw [if_neg Bool.false_ne_true] at q5 ⊢
        exact ⟨F5, m5, h5, vacc, acc, le2.trans le35, a5.R, Rps.mono le35 racc, q5⟩
      | true =>
        rw [if_pos rfl] at q5 ⊢
        refine ⟨upd G p (.lst vacc), F5, m5, sd4, h5, _, EF, a5, q5, ?_⟩
        rintro J1 H6 ⟨F6, m6, h6, items1, keep1, le6, R6, Y1, q6⟩
        have le36 := le35.trans le6
        refine ⟨fun j k H => j + k = items1.length ∧ ∃ F7 m7 h7 vacc acc, WLe F6 m6 F7 m7 ∧ Rel X.K X.mg (upd G p (.lst vacc)) F7 m7 h7 H ∧ Rps X.K X.mg F7 m7 vacc acc ∧
          compB keep1 g1 tt1 te (wipeD sd4 vs1) (items1.drop j) acc h7 (fun acc' h4 => comp2 keep g tt ti1 g1 tt1 te vs1 (wipeD sd vs) r acc' h4 QL'),
          ⟨items1.length, by omega, F6, m6, h6, vacc, acc, WLe.refl, R6, Rps.mono le36 racc, q6⟩, ?_⟩
        rintro j k H7 ⟨hjk, F7, m7, h7, vacc7, acc7, le7, R7, racc7, q7⟩
        cases hs : items1.drop j with
        | nil =>
          rw [hs] at q7
          have hlen : items1.length ≤ j := List.drop_eq_nil_iff.mp hs
          exact .inl ⟨(Y1.2 _ F7 m7 h7 H7 j le7 trivial R7 q7.1).2 hlen (by omega), F7, m7, h7, vacc7, acc7, le2.trans (le36.trans le7), R7, racc7, q7.2⟩
        | cons x1 r1 =>
          rw [hs] at q7
          obtain ⟨hj, hx1, hr1⟩ := drop_cons hs
          obtain ⟨go1, yl1⟩ := (Y1.2 _ F7 m7 h7 H7 j le7 trivial R7 q7.1).1 hj
          refine .inr ⟨go1, fun H' => ∃ F8 m8 h8 vacc acc, WLe F6 m6 F8 m8 ∧ Rel X.K X.mg (upd G p (.lst vacc)) F8 m8 h8 H' ∧ Rps X.K X.mg F8 m8 vacc acc ∧
            compB keep1 g1 tt1 te (wipeD sd4 vs1) r1 acc h8 (fun acc' h4 => comp2 keep g tt ti1 g1 tt1 te vs1 (wipeD sd vs) r acc' h4 QL'), ?_, ?_⟩
          · rintro H' ⟨F8, m8, h8, va, ac, l8, R8, ra, q8⟩
            exact ⟨k - 1, by omega, by omega, F8, m8, h8, va, ac, l8, R8, ra, by rw [hr1]; exact q8⟩
          · intro y1 H8 hy1
            obtain ⟨F8, d1, le8, R8, ed1, rp1⟩ := yl1 y1 H8 hy1
            rw [hx1] at ed1; cases ed1
            have S8 : SRel X.K X.mg F8 m7 (wipe σ4 vs1) (wipeD sd4 vs1) := (a5.S.mono (le6.trans (le7.trans le8))).wipe vs1
            refine ⟨upd G p (.lst vacc7), F8, m7, _, h7, _, x1, R8, S8, rp1, q7.2, ?_⟩
            rintro σ9 H9 hw9 ⟨F9, m9, sd9, h9, le9, R9, S9, q9⟩
            refine ⟨by rw [hw9, wipe_idem], ?_⟩
            refine LT.step (⟨R9, S9, fun c dx H' ⟨_, _, _, _, _, _, _, _, _, z⟩ => z⟩ : At X.K X.mg (upd G p (.lst vacc7)) W0 F9 m9 sd9 h9 σ9 H9 EF) q9 fun Fa ma ha Ha b lea aa qa => ?_
            have le8a := le8.trans (le9.trans lea)
            cases b with
            | false =>
              rw [if_neg Bool.false_ne_true] at qa ⊢
              exact ⟨Fa, ma, ha, vacc7, acc7, le7.trans le8a, aa.R, Rps.mono le8a racc7, qa⟩
            | true =>
              rw [if_pos rfl] at qa ⊢
              refine LE.step aa qa fun Fb mb hb Hb v d leb ab rv qb => ?_
              have le8b := le8a.trans leb
              have ra := Rps.mono le8b racc7
              have hD : Hb p = some (.lst vacc7) := ab.R.sg p _ upd_same
              exact ⟨vacc7, hD, by rw [Paired.len ra]; exact qb.1, Fb, mb, hb, vacc7 ++ [v], acc7 ++ [d], le7.trans le8b, ab.R.ownSet, ra.snoc rv, qb.2⟩
variable {elt tg iter tg1 iter1 : Expr} {ifs ifs1 : List Expr} {scope : Scope} {own : List (Str × Nat)} {vs1 : List Nat} {pos : Pos} {ti ti1 : TID} {g g1 : TGD} {tt tt1 : TTD} {te : TED}
theorem de_lc2 (hN : X.N.Nodup) (hi : DI X W tg iter ti) (ok : BlkOk X.N X.env.scope scope own) (hv : ∀ i ∈ vs1, i ∈ own.map (fun (p : Str × Nat) => p.2))
    (hg : ∀ (s : Shared) (H : Hp) (C : Addr) (cl : List (Str × Addr)) (fp : List Addr), DG (X.blk s H scope (compEnvC scope cl C X.env) fp) (own.map (fun (p : Str × Nat) => p.2)) tg g)
    (ht : ∀ (s : Shared) (H : Hp) (C : Addr) (cl : List (Str × Addr)) (fp : List Addr), DTs (X.blk s H scope (compEnvC scope cl C X.env) fp) ifs tt)
    (hi1 : ∀ (s : Shared) (H : Hp) (C : Addr) (cl : List (Str × Addr)) (fp : List Addr), DI (X.blk s H scope (compEnvC scope cl C X.env) fp) W0 tg1 iter1 ti1)
    (hg1 : ∀ (s : Shared) (H : Hp) (C : Addr) (cl : List (Str × Addr)) (fp : List Addr), DG (X.blk s H scope (compEnvC scope cl C X.env) fp) vs1 tg1 g1)
    (ht1 : ∀ (s : Shared) (H : Hp) (C : Addr) (cl : List (Str × Addr)) (fp : List Addr), DTs (X.blk s H scope (compEnvC scope cl C X.env) fp) ifs1 tt1)
    (he : ∀ (s : Shared) (H : Hp) (C : Addr) (cl : List (Str × Addr)) (fp : List Addr), DE (X.blk s H scope (compEnvC scope cl C X.env) fp) W0 elt te) (hc : X.calm = true := by rfl) (hs : ∀ x, foldedSetIterable iter X.env x = pure x := by intro _; rfl) (hs1 : ∀ env x, foldedSetIterable iter1 env x = pure x := by intro _ _; rfl) :
    DE X W (.ListComp elt [⟨tg, iter, ifs, 0⟩, ⟨tg1, iter1, ifs1, 0⟩] scope pos) (eComp2 ti g tt ti1 g1 tt1 te (own.map (fun (p : Str × Nat) => p.2)) vs1) :=
  PE.imp (pe_lc2 (g := LG X.K X.mg (own.map (fun (p : Str × Nat) => p.2)) g) (wi1 := LI X.K X.mg W0 ti1) (g1 := LG X.K X.mg vs1 g1) (tt := LT X.K X.mg W0 tt) (tt1 := LT X.K X.mg W0 tt1) (te := LE X.K X.mg W0 te) hc hN hi ok hv hg ht hi1 hg1 ht1 he hs hs1) fun σ H Q ⟨G, F, m, sd, h, QD, E, at_, t, hQ⟩ => lc2_read _ at_ t fun F' m' h' H' p vacc acc le gp R r q => by
    obtain ⟨l, R', _, _, _⟩ := R.ownOut gp
    exact hQ _ _ ⟨_, m', h', _, le.trans l, R', .lst upd_same (Rps.mono l r), q⟩
theorem de_lc2R (hN : X.N.Nodup) (hi : DI X W tg iter ti) (ok : BlkOk X.N X.env.scope scope own) (hv : ∀ i ∈ vs1, i ∈ own.map (fun (p : Str × Nat) => p.2))
    (hg : ∀ (s : Shared) (H : Hp) (C : Addr) (cl : List (Str × Addr)) (fp : List Addr), DG (X.blk s H scope (compEnvC scope cl C X.env) fp) (own.map (fun (p : Str × Nat) => p.2)) tg g)
    (ht : ∀ (s : Shared) (H : Hp) (C : Addr) (cl : List (Str × Addr)) (fp : List Addr), DTs (X.blk s H scope (compEnvC scope cl C X.env) fp) ifs tt)
    (hi1 : ∀ (s : Shared) (H : Hp) (C : Addr) (cl : List (Str × Addr)) (fp : List Addr), DI (X.blk s H scope (compEnvC scope cl C X.env) fp) W0 tg1 iter1 ti1)
    (hg1 : ∀ (s : Shared) (H : Hp) (C : Addr) (cl : List (Str × Addr)) (fp : List Addr), DG (X.blk s H scope (compEnvC scope cl C X.env) fp) vs1 tg1 g1)
    (ht1 : ∀ (s : Shared) (H : Hp) (C : Addr) (cl : List (Str × Addr)) (fp : List Addr), DTs (X.blk s H scope (compEnvC scope cl C X.env) fp) ifs1 tt1)
    (he : ∀ (s : Shared) (H : Hp) (C : Addr) (cl : List (Str × Addr)) (fp : List Addr), DE (X.blk s H scope (compEnvC scope cl C X.env) fp) W0 elt te) (hc : X.calm = true := by rfl) (hs : ∀ x, foldedSetIterable iter X.env x = pure x := by intro _; rfl) (hs1 : ∀ env x, foldedSetIterable iter1 env x = pure x := by intro _ _; rfl) :
    DE X W (.ListComp elt [⟨tg, iter, ifs, 0⟩, ⟨tg1, iter1, ifs1, 0⟩] scope pos) (eComp2R ti g tt ti1 g1 tt1 te (own.map (fun (p : Str × Nat) => p.2)) vs1) :=
  PE.imp (pe_lc2 (g := LG X.K X.mg (own.map (fun (p : Str × Nat) => p.2)) g) (wi1 := LI X.K X.mg W0 ti1) (g1 := LG X.K X.mg vs1 g1) (tt := LT X.K X.mg W0 tt) (tt1 := LT X.K X.mg W0 tt1) (te := LE X.K X.mg W0 te) hc hN hi ok hv hg ht hi1 hg1 ht1 he hs hs1) fun σ H Q ⟨G, F, m, sd, h, QD, E, at_, t, hQ⟩ => lc2_read _ at_ t fun F' m' h' H' p vacc acc le gp R r q => by
    obtain ⟨l, R', rp⟩ := R.ownRef gp r
    exact hQ _ _ ⟨_, _, _, _, le.trans l, R', rp, q⟩
theorem ds_setLc2 {i : Nat} {y : Str} {py spos : Pos} (hN : X.N.Nodup) (hi : DI X W tg iter ti) (ok : BlkOk X.N X.env.scope scope own) (hv : ∀ i ∈ vs1, i ∈ own.map (fun (p : Str × Nat) => p.2))
    (hg : ∀ (s : Shared) (H : Hp) (C : Addr) (cl : List (Str × Addr)) (fp : List Addr), DG (X.blk s H scope (compEnvC scope cl C X.env) fp) (own.map (fun (p : Str × Nat) => p.2)) tg g)
    (ht : ∀ (s : Shared) (H : Hp) (C : Addr) (cl : List (Str × Addr)) (fp : List Addr), DTs (X.blk s H scope (compEnvC scope cl C X.env) fp) ifs tt)
    (hi1 : ∀ (s : Shared) (H : Hp) (C : Addr) (cl : List (Str × Addr)) (fp : List Addr), DI (X.blk s H scope (compEnvC scope cl C X.env) fp) W0 tg1 iter1 ti1)
    (hg1 : ∀ (s : Shared) (H : Hp) (C : Addr) (cl : List (Str × Addr)) (fp : List Addr), DG (X.blk s H scope (compEnvC scope cl C X.env) fp) vs1 tg1 g1)
    (ht1 : ∀ (s : Shared) (H : Hp) (C : Addr) (cl : List (Str × Addr)) (fp : List Addr), DTs (X.blk s H scope (compEnvC scope cl C X.env) fp) ifs1 tt1)
    (he : ∀ (s : Shared) (H : Hp) (C : Addr) (cl : List (Str × Addr)) (fp : List Addr), DE (X.blk s H scope (compEnvC scope cl C X.env) fp) W0 elt te)
    (hsw : swapsWith (.ListComp elt [⟨tg, iter, ifs, 0⟩, ⟨tg1, iter1, ifs1, 0⟩] scope pos) (some (.Name y py)) spos.line X.env = pure true) (hy : X.N[i]? = some y := by rfl) (hyl : X.env.scope.names.lookup y = some .local := by rfl) (hc : X.calm = true := by rfl) (hs : ∀ x, foldedSetIterable iter X.env x = pure x := by intro _; rfl) (hs1 : ∀ env x, foldedSetIterable iter1 env x = pure x := by intro _ _; rfl) :
    DS X W (.Assign [.Name y py] (.ListComp elt [⟨tg, iter, ifs, 0⟩, ⟨tg1, iter1, ifs1, 0⟩] scope pos) spos) (sSet i (eComp2 ti g tt ti1 g1 tt1 te (own.map (fun (p : Str × Nat) => p.2)) vs1)) :=
  PS.imp (ps_setLc2 (g := LG X.K X.mg (own.map (fun (p : Str × Nat) => p.2)) g) (wi1 := LI X.K X.mg W0 ti1) (g1 := LG X.K X.mg vs1 g1) (tt := LT X.K X.mg W0 tt) (tt1 := LT X.K X.mg W0 tt1) (te := LE X.K X.mg W0 te) hc hN hy hyl hsw hi ok hv hg ht hi1 hg1 ht1 he hs hs1) fun D σ H ⟨G, F, m, sd, h, k, R, S, t, a⟩ => lc2_read _ (a.at R S) t fun F' m' h' H' p vacc acc le gp R r q => by
    obtain ⟨l, R', _, _, _⟩ := R.ownOut gp
    exact a.nx _ _ ⟨_, m', _, h', le.trans l, R', (S.mono (le.trans l)).set (.lst upd_same (Rps.mono l r)) i, q⟩
end
/-! ## letting go of the small heap's end but one list, that is told -/
def popRQ (n : Nat) (Q : VD) : VD := fun d h => match d with
  | .ref j => match h[j]? with
    | some o => n ≤ j ∧ o ≠ .dead ∧ nrO n o = true ∧ (h.take n).all (nrO n) = true ∧ Q (.ref n) (h.take n ++ [o])
    | none => False
  | _ => False
def popFR (f : SpD) : SpD := fun ds h Q E => f ds h (popRQ h.length Q) (popE h.length E)
section
variable {K : PySem.W.Frag} {mg : Str → Option Value} {G F : Hp} {m : List Addr} {h : DH} {H : Hp}
theorem QV.popR {Q : VD} {v : V} {H' : Hp} (R : m.length = h.length) (q : QV K mg G F m (popRQ h.length Q) v H') : QV K mg G F m Q v H' := by
  obtain ⟨F', m', h', d, le, R', rp, q⟩ := q
  unfold popRQ at q
  split at q
  · rename_i j
    split at q
    · rename_i o ho
      obtain ⟨hj, hd, hn, ha, q⟩ := q
      cases rp with
      | ref hm =>
      rename_i a
      obtain ⟨a', e1, e2, e3⟩ := R'.lv j o ho hd
      rw [hm] at e1; cases e1
      have Rs := R'.shrink h.length ha
      have eo := Ro.shrink h.length e3 hn
      have lm : (m'.take h.length).length = h.length := by
        have := R'.ln
        have h1 : j < h'.length := (List.getElem?_eq_some_iff.mp ho).1
        rw [List.length_take]; omega
      have lh : (h'.take h.length).length = h.length := by
        have h1 : j < h'.length := (List.getElem?_eq_some_iff.mp ho).1
        rw [List.length_take]; omega
      have l0 := WLe.shrink R le
      have lek : WLe F' (m'.take h.length) F' (m'.take h.length ++ [a]) := ⟨Same.refl _, _, rfl⟩
      have notold : ∀ (i : Nat) (b : Addr) (u : O), (m'.take h.length)[i]? = some b → (h'.take h.length)[i]? = some u → u ≠ .dead → b ≠ a := by
        intro i b u h1 h2 h3 e
        have hi : i < h.length := by
          have := (List.getElem?_eq_some_iff.mp h2).1
          omega
        rw [List.getElem?_take_of_lt hi] at h1 h2
        subst e
        have := R'.ij i j b u o h1 hm h2 ho h3 hd
        omega
      refine ⟨F', m'.take h.length ++ [a], h'.take h.length ++ [o], .ref h.length, l0.trans lek, ?_, .ref (by rw [List.getElem?_append_right (by omega), lm, Nat.sub_self] <;> rfl), q⟩
      refine ⟨Rs.sg, Rs.gk, Rs.gf, fun n b u h1 h2 h3 => ?_, Rs.sf, by rw [List.length_append, List.length_append, lm, lh] <;> rfl, fun n u h2 h3 => ?_, fun i k b u w h1 h2 h3 h4 h5 h6 => ?_⟩
      · by_cases hn' : n < h.length
        · rw [List.getElem?_append_left (by omega)] at h1 h2
          exact Rs.gl n b u h1 h2 h3
        · by_cases he : n = h.length
          · subst he
            rw [List.getElem?_append_right (by omega), lm, Nat.sub_self] at h1
            have : b = a := by simpa using h1.symm
            rw [this]
            exact R'.gl j a o hm ho hd
          · have := (List.getElem?_eq_some_iff.mp h1).1
            rw [List.length_append, lm, List.length_singleton] at this
            omega
      · by_cases hn' : n < h.length
        · rw [List.getElem?_append_left (by omega)] at h2
          obtain ⟨b, q1, q2, q3⟩ := Rs.lv n u h2 h3
          exact ⟨b, by rw [List.getElem?_append_left (by omega)]; exact q1, q2, q3.mono lek⟩
        · by_cases he : n = h.length
          · subst he
            rw [List.getElem?_append_right (by omega), lh, Nat.sub_self] at h2
            have : u = o := by simpa using h2.symm
            subst this
            exact ⟨a, by rw [List.getElem?_append_right (by omega), lm, Nat.sub_self] <;> rfl, e2, eo.mono lek⟩
          · have := (List.getElem?_eq_some_iff.mp h2).1
            rw [List.length_append, lh, List.length_singleton] at this
            omega
      · by_cases hi : i < h.length
        · rw [List.getElem?_append_left (by omega)] at h1 h3
          by_cases hk : k < h.length
          · rw [List.getElem?_append_left (by omega)] at h2 h4
            exact Rs.ij i k b u w h1 h2 h3 h4 h5 h6
          · have hk2 : k = h.length := by
              have := (List.getElem?_eq_some_iff.mp h2).1
              rw [List.length_append, lm, List.length_singleton] at this
              omega
            subst hk2
            rw [List.getElem?_append_right (by omega), lm, Nat.sub_self] at h2
            have : b = a := by simpa using h2.symm
            exact absurd this (notold i b u h1 h3 h5)
        · have hi2 : i = h.length := by
            have := (List.getElem?_eq_some_iff.mp h1).1
            rw [List.length_append, lm, List.length_singleton] at this
            omega
          subst hi2
          by_cases hk : k < h.length
          · rw [List.getElem?_append_left (by omega)] at h2 h4
            rw [List.getElem?_append_right (by omega), lm, Nat.sub_self] at h1
            have : b = a := by simpa using h1.symm
            exact absurd this (notold k b w h2 h4 h6)
          · have := (List.getElem?_eq_some_iff.mp h2).1
            rw [List.length_append, lm, List.length_singleton] at this
            omega
    · exact q.elim
  · exact q.elim
end
section
variable {P : Program} {w : World} {K : PySem.W.Frag} {mg : Str → Option Value} {base : Heap}
theorem fn_popR {f : Addr} {fd : FuncData} {ps : List Str} {k n : Nat} {sp : SpD} (F : FnOk P w K mg base (L2.CX P w) k f fd ps (LSp K mg n sp)) : FnOk P w K mg base (L2.CX P w) k f fd ps (LSp K mg n (popFR sp)) :=
  F.imp fun vs H Q E ⟨hl, G, F, m, h', ds, QD, ED, R, rp, q, hQ, hE⟩ => ⟨hl, G, F, m, h', ds, _, _, R, rp, q, fun v H' z => hQ _ _ (z.popR R.ln), fun c dx H' z => hE _ _ _ (z.pop R.ln)⟩
end
end DL
end

section
set_option maxRecDepth 100000
set_option maxHeartbeats 4000000
namespace DL
open PySem PySem.Spec L2
/-! ## what the text gives, in one word each -/
section
variable (P : Program) (w : World) (K : PySem.W.Frag) (mg : Str → Option Value) (base : Heap)
/-- a def of the text that may be called by its name -/
def Def (k : Nat) (x : Str) (ps : List Str) (sp : SpD) : Prop :=
  ∃ f fd, FnOk P w K mg base (L2.CX P w) k f fd ps (LSp K mg ps.length sp) ∧ mg x = some (.ref f) ∧ PySem.W.keepIn K (.ref f) = true ∧ Binds K fd ps []
/-- a class of the text that may be made -/
def Ctor (k : Nat) (c : String) (ps : List Str) (sp : SpD) : Prop :=
  ∃ f C fd, FnOk P w K mg base (L2.CX P w) k f fd ps (LSp K mg ps.length sp) ∧ Mk K C f ∧ mg (Str.ofString c) = some (.ref C) ∧ Binds K fd ps []
def Xc0 (nm : String) : Prop := ∃ C, ExT0 K mg nm C
def Xc1 (nm f1 : String) : Prop := ∃ C fI fd ps, ExT K mg nm [f1] C fI ∧ FnOk P w K mg base (L2.CX P w) 1 fI fd ps (spX1 K (Str.ofString f1)) ∧ Binds K fd ps []
def Xc2 (nm f1 f2 : String) : Prop := ∃ C fI fd ps, ExT K mg nm [f1, f2] C fI ∧ FnOk P w K mg base (L2.CX P w) 1 fI fd ps (spX2 K (Str.ofString f1) (Str.ofString f2)) ∧ Binds K fd ps []
end
theorem Def.imp {P w K mg base k x ps} {sp sp' : SpD} (c : Def P w K mg base k x ps sp) (h : ∀ ds h Q E, ds.length = ps.length → sp' ds h Q E → sp ds h Q E) : Def P w K mg base k x ps sp' := by
  obtain ⟨f, fd, F, a, b, d⟩ := c
  exact ⟨f, fd, fn_imp F h, a, b, d⟩
theorem Def.pop {P w K mg base k x ps} {sp : SpD} (c : Def P w K mg base k x ps sp) : Def P w K mg base k x ps (popF sp) := by
  obtain ⟨f, fd, F, a, b, d⟩ := c
  exact ⟨f, fd, fn_pop F, a, b, d⟩
theorem Def.popR {P w K mg base k x ps} {sp : SpD} (c : Def P w K mg base k x ps sp) : Def P w K mg base k x ps (popFR sp) := by
  obtain ⟨f, fd, F, a, b, d⟩ := c
  exact ⟨f, fd, fn_popR F, a, b, d⟩
theorem Ctor.imp {P w K mg base k x ps} {sp sp' : SpD} (c : Ctor P w K mg base k x ps sp) (h : ∀ ds h Q E, ds.length = ps.length → sp' ds h Q E → sp ds h Q E) : Ctor P w K mg base k x ps sp' := by
  obtain ⟨f, C, fd, F, a, b, d⟩ := c
  exact ⟨f, C, fd, fn_imp F h, a, b, d⟩
section
variable {P : Program} {w : World} {K : PySem.W.Frag} {mg : Str → Option Value} {base : Heap}
theorem tkC {N : List Str} {qual : Str} {scope : Scope} {f : Addr} {cd : Value} {A : Around} {outer : List Env} {s : Shared} {H : Hp} {E : XK} : Takes (cxOf (L2.CX P w) P w K mg base N qual scope f cd A outer s H E) (fun cls d _ H' => E cls d H') := takes_of rfl rfl rfl rfl
theorem poC {N : List Str} {qual : Str} {scope : Scope} {f : Addr} {cd : Value} {A : Around} {outer : List Env} {s : Shared} {H : Hp} {E : XK} : PassesOwn (model P w) (cxOf (L2.CX P w) P w K mg base N qual scope f cd A outer s H E).A (cxOf (L2.CX P w) P w K mg base N qual scope f cd A outer s H E).env (cxOf (L2.CX P w) P w K mg base N qual scope f cd A outer s H E).xe := passes_of (E₁ := fun e' s'' => L2.CX P w outer H s E e' s'') rfl
theorem def_mk {x qual : Str} {st : Stmt} {f : Addr} {fd : FuncData} {N ps : List Str} {k : Nat} {t : TSD} (F : Fun K x qual st f fd) (S : FnScope N ps (defScope st)) (hm : mg x = some (.ref f)) (hb : Binds K fd ps [])
    (hbody : ∀ (cdv : Value) (A : Around) (outer : List Env) (s : Shared) (H : Hp) (E : XK), Room k (A.deeper (PyProof.Rows.envOfC qual (defScope st) s.heap.objs.size f cdv)) →
      DSs (cxOf (L2.CX P w) P w K mg base N qual (defScope st) f cdv A outer s H E) (fun cls d _ H' => E cls d H') (defBody st) t) : Def P w K mg base (k + 1) x ps (bodyD N.length t) := ⟨f, fd, fn_ok F S hbody, hm, F.kp, hb⟩
theorem ctor_mk {x qual : Str} {c : String} {C : Addr} {st : Stmt} {f : Addr} {fd : FuncData} {N ps : List Str} {k : Nat} {t : TSD} (F : Fun K x qual st f fd) (S : FnScope N ps (defScope st)) (hm : mg (Str.ofString c) = some (.ref C)) (M : Mk K C f) (hb : Binds K fd ps [])
    (hbody : ∀ (cdv : Value) (A : Around) (outer : List Env) (s : Shared) (H : Hp) (E : XK), Room k (A.deeper (PyProof.Rows.envOfC qual (defScope st) s.heap.objs.size f cdv)) →
      DSs (cxOf (L2.CX P w) P w K mg base N qual (defScope st) f cdv A outer s H E) (fun cls d _ H' => E cls d H') (defBody st) t) : Ctor P w K mg base (k + 1) c ps (bodyD N.length t) := ⟨f, C, fd, fn_ok F S hbody, M, hm, hb⟩
end
section
variable {X : Cx} {W : WX} {k j : Nat} {ps : List Str} {sp : SpD} {x : Str} {p pos pos2 : Pos} {e : Expr} {es : List Expr} {t : TAD}
theorem de_callD (c : Def X.prog X.w X.K X.mg X.base j x ps sp) (hr : Room k X.A) (tk : Takes X W) (ha : DA X W (e :: es) t) (hj : j ≤ k := by first | decide | omega) (hg : Gl X x := by rfl) (hn : (e :: es).length = ps.length := by rfl)
    (hdb : (x == ("__debug__" : Str)) = false := by decide) (he : starEach (e :: es) X.env = (false, eval e X.env) :: starEach es X.env := by rfl) (hpl : (backTo pos (starEach es X.env)).any (·.1) = false := by rfl) :
    DE X W (.Call (.Name x p) (e :: es) [] pos) (eFn sp t) := by
  obtain ⟨f, fd, F, a, b, d⟩ := c
  exact de_call F (hr.mono hj) hg a b d tk ha hn hdb he hpl
theorem de_mkVD {c : String} (C : Ctor X.prog X.w X.K X.mg X.base j c ps sp) (hr : Room k X.A) (tk : Takes X W) (ha : DA X W (e :: es) t) (hj : j + 1 ≤ k := by first | decide | omega) (hg : Gl X (Str.ofString c) := by rfl) (hn : (e :: es).length + 1 = ps.length := by rfl)
    (hdb : ((Str.ofString c) == ("__debug__" : Str)) = false := by decide) (he : starEach (e :: es) X.env = (false, eval e X.env) :: starEach es X.env := by rfl) (hpl : (backTo pos (starEach es X.env)).any (·.1) = false := by rfl) :
    DE X W (.Call (.Name (Str.ofString c) p) (e :: es) [] pos) (eMkV c sp t) := by
  obtain ⟨f, C, fd, F, M, a, b⟩ := C
  exact de_mkV F M (hr.mono hj) hg a b tk ha hn hdb he hpl
theorem de_mkD {c : String} (C : Ctor X.prog X.w X.K X.mg X.base j c ps sp) (hr : Room k X.A) (tk : Takes X W) (ha : DA X W (e :: es) t) (hj : j + 1 ≤ k := by first | decide | omega) (hg : Gl X (Str.ofString c) := by rfl) (hn : (e :: es).length + 1 = ps.length := by rfl)
    (hdb : ((Str.ofString c) == ("__debug__" : Str)) = false := by decide) (he : starEach (e :: es) X.env = (false, eval e X.env) :: starEach es X.env := by rfl) (hpl : (backTo pos (starEach es X.env)).any (·.1) = false := by rfl) :
    DE X W (.Call (.Name (Str.ofString c) p) (e :: es) [] pos) (eMk c sp t) := by
  obtain ⟨f, C, fd, F, M, a, b⟩ := C
  exact de_mk F M (hr.mono hj) hg a b tk ha hn hdb he hpl
theorem ds_raise0D {nm : String} (T : Xc0 X.K X.mg nm) (tk : Takes X W) (hg : Gl X (Str.ofString nm) := by rfl) (hdb : ((Str.ofString nm) == ("__debug__" : Str)) = false := by decide) (hc : X.calm = true := by rfl) :
    DS X W (.Raise (some (.Call (.Name (Str.ofString nm) p) [] [] pos)) none pos2) (sRaise nm) := by
  obtain ⟨C, T⟩ := T
  exact ds_raise0 T tk hg hdb hc
theorem ds_raise1D {nm f1 : String} (T : Xc1 X.prog X.w X.K X.mg X.base nm f1) (hr : Room k X.A) (tk : Takes X W) (ha : DA X W [e] t) (hk : 2 ≤ k := by first | decide | omega) (hg : Gl X (Str.ofString nm) := by rfl) (hc : X.calm = true := by rfl) (hdb : ((Str.ofString nm) == ("__debug__" : Str)) = false := by decide)
    (he : starEach [e] X.env = (false, eval e X.env) :: starEach [] X.env := by rfl) (hpl : (backTo pos (starEach [] X.env)).any (·.1) = false := by rfl)
    (hx : Passes (L2.CX X.prog X.w) X (fun _ _ _ => False) := by exact passL) : DS X W (.Raise (some (.Call (.Name (Str.ofString nm) p) [e] [] pos)) none pos2) (sRaiseF nm [f1] t) := by
  obtain ⟨C, fI, fd, ps, T, F, b⟩ := T
  exact ds_raise1 T F b (hr.mono hk) tk ha hg hc hdb he hpl hx
theorem ds_raise2D {e2 : Expr} {nm f1 f2 : String} (T : Xc2 X.prog X.w X.K X.mg X.base nm f1 f2) (hr : Room k X.A) (tk : Takes X W) (ha : DA X W [e, e2] t) (hk : 2 ≤ k := by first | decide | omega) (hg : Gl X (Str.ofString nm) := by rfl) (hc : X.calm = true := by rfl) (hdb : ((Str.ofString nm) == ("__debug__" : Str)) = false := by decide)
    (he : starEach [e, e2] X.env = (false, eval e X.env) :: starEach [e2] X.env := by rfl) (hpl : (backTo pos (starEach [e2] X.env)).any (·.1) = false := by rfl)
    (hx : Passes (L2.CX X.prog X.w) X (fun _ _ _ => False) := by exact passL) : DS X W (.Raise (some (.Call (.Name (Str.ofString nm) p) [e, e2] [] pos)) none pos2) (sRaiseF nm [f2, f1] t) := by
  obtain ⟨C, fI, fd, ps, T, F, b⟩ := T
  exact ds_raise2 T F b (hr.mono hk) tk ha hg hc hdb he hpl hx
/-- a module's number; a class or def as a value -/
theorem de_gint {i : Int} (hm : ∃ t, X.mg x = some (.int i t)) (hg : Gl X x := by rfl) (hd : (x == ("__debug__" : Str)) = false := by decide) : DE X W (.Name x p) (eC (.int i)) := by
  obtain ⟨t, hm⟩ := hm
  exact de_glob (v := .int i) hg hm ⟨t, rfl⟩ (fun _ _ => .int i) hd
theorem de_gcls {c : String} (hm : ∃ C, X.mg (Str.ofString c) = some (.ref C)) (hg : Gl X (Str.ofString c) := by rfl) (hd : ((Str.ofString c) == ("__debug__" : Str)) = false := by decide) : DE X W (.Name (Str.ofString c) p) (eC (.glb c)) := by
  obtain ⟨C, hm⟩ := hm
  exact de_glob (v := .ref C) hg hm rfl (fun _ _ => .glb hm) hd
theorem de_negc {i : Int} {j : Nat} {pp : Pos} : DE X W (.UnaryOp .USub (.Constant (.int i) j pp) pos) (eC (.int (-i))) :=
  de_const (v := .int (-i)) (PE.imp (pe_un un_neg pe_int) fun σ H Q q => ⟨i, rfl, q⟩) fun _ _ => .int _
/-- f(..) of built-in functions and types -/
theorem de_B {id : String} {f : FC} (hc : CallDD X (.builtin id) f) (hm : X.mg x = none) (hv : bootBuiltins x = some (.builtin id)) (ha : DA X W (e :: es) t) (hg : Gl X x := by rfl) (hn : x ≠ "__name__" := by decide) (hdb : (x == ("__debug__" : Str)) = false := by decide)
    (he : starEach (e :: es) X.env = (false, eval e X.env) :: starEach es X.env := by rfl) (hpl : (backTo pos (starEach es X.env)).any (·.1) = false := by rfl) : DE X W (.Call (.Name x p) (e :: es) [] pos) (eCall f t) := de_callB hc hg hm hv ha hn hdb he hpl
theorem de_T {id : String} {f : FC} (hc : CallDD X (.type id) f) (hm : X.mg x = none) (hv : bootBuiltins x = some (.type id)) (ha : DA X W (e :: es) t) (hg : Gl X x := by rfl) (hn : x ≠ "__name__" := by decide) (hdb : (x == ("__debug__" : Str)) = false := by decide)
    (he : starEach (e :: es) X.env = (false, eval e X.env) :: starEach es X.env := by rfl) (hpl : (backTo pos (starEach es X.env)).any (·.1) = false := by rfl) : DE X W (.Call (.Name x p) (e :: es) [] pos) (eCall f t) := de_callTy hc hg hm hv ha hn hdb he hpl
end
end DL
end

section
set_option maxRecDepth 100000
set_option maxHeartbeats 4000000
namespace DL
open PySem PySem.Spec L2
theorem b_len : bootBuiltins "len" = some (.builtin "len") := by first | exact PySem.boot_len | exact PyProof.Rows.boot_len | decide +kernel
theorem b_sorted : bootBuiltins "sorted" = some (.builtin "sorted") := by first | exact PySem.boot_sorted | exact PyProof.Rows.boot_sorted | decide +kernel
theorem b_abs : bootBuiltins "abs" = some (.builtin "abs") := by first | exact PySem.boot_abs | exact PyProof.Rows.boot_abs | decide +kernel
theorem b_max : bootBuiltins "max" = some (.builtin "max") := by first | exact PySem.boot_max | exact PyProof.Rows.boot_max | decide +kernel
theorem b_min : bootBuiltins "min" = some (.builtin "min") := by first | exact PySem.boot_min | exact PyProof.Rows.boot_min | decide +kernel
theorem b_all : bootBuiltins "all" = some (.builtin "all") := by first | exact PySem.boot_all | exact PyProof.Rows.boot_all | decide +kernel
theorem b_any : bootBuiltins "any" = some (.builtin "any") := by first | exact PySem.boot_any | exact PyProof.Rows.boot_any | decide +kernel
theorem b_sum : bootBuiltins "sum" = some (.builtin "sum") := by first | exact PySem.boot_sum | exact PyProof.Rows.boot_sum | decide +kernel
theorem b_isinstance : bootBuiltins "isinstance" = some (.builtin "isinstance") := by first | exact PySem.boot_isinstance | exact PyProof.Rows.boot_isinstance | decide +kernel
theorem b_repr : bootBuiltins "repr" = some (.builtin "repr") := by first | exact PySem.boot_repr | exact PyProof.Rows.boot_repr | decide +kernel
theorem b_list : bootBuiltins "list" = some (.type "list") := by first | exact PySem.boot_list | exact PyProof.Rows.boot_list | decide +kernel
theorem b_tuple : bootBuiltins "tuple" = some (.type "tuple") := by first | exact PySem.boot_tuple | exact PyProof.Rows.boot_tuple | decide +kernel
theorem b_set : bootBuiltins "set" = some (.type "set") := by first | exact PySem.boot_set | exact PyProof.Rows.boot_set | decide +kernel
theorem b_int : bootBuiltins "int" = some (.type "int") := by first | exact PySem.boot_int | exact PyProof.Rows.boot_int | decide +kernel
theorem b_bool : bootBuiltins "bool" = some (.type "bool") := by first | exact PySem.boot_bool | exact PyProof.Rows.boot_bool | decide +kernel
theorem b_str : bootBuiltins "str" = some (.type "str") := by first | exact PySem.boot_str | exact PyProof.Rows.boot_str | decide +kernel
theorem b_dict : bootBuiltins "dict" = some (.type "dict") := by first | exact PySem.boot_dict | exact PyProof.Rows.boot_dict | decide +kernel
theorem b_range : bootBuiltins "range" = some (.type "range") := by first | exact PySem.boot_range | exact PyProof.Rows.boot_range | decide +kernel
theorem b_zip : bootBuiltins "zip" = some (.type "zip") := by first | exact PySem.boot_zip | exact PyProof.Rows.boot_zip | decide +kernel
theorem b_enumerate : bootBuiltins "enumerate" = some (.type "enumerate") := by first | exact PySem.boot_enumerate | exact PyProof.Rows.boot_enumerate | decide +kernel
theorem u65 {k : Nat} {A : Around} (r : Room k A) : A.units + 65 < cLine := by have := r.un; omega
section
variable {X : Cx} {W : WX} {a b c : Expr} {ta tb tc : TED} {tA : TTD} {pos : Pos} {f g : F2}
theorem dt_cmp {op : CmpOp} (o : OpDD X (compareOp op) f) (ha : DE X W a ta) (hb : DE X W b tb) (hm : behindInMarks op b = false := by first | exact nomark _ | rfl | with_unfolding_all rfl) : DT X W (.Compare a [op] [b] pos) (tTst (eOp2 f ta tb)) := by
  obtain ⟨r, ho, hf⟩ := o
  exact PT.imp (pt_cmpR ho ha hb hm) fun σ H Q ⟨G, F, m, sd, h, QD, E, at_, t, hQ⟩ => LE.two at_ t fun F' m' h' H' x y d e le a' rx ry q => hf _ _ _ _ _ _ _ _ _ _ _ a'.R rx ry q fun v H' qv => by
    obtain ⟨k, rfl, z⟩ := (qv.mono le).bl
    exact ⟨k, rfl, hQ _ _ z⟩
theorem dt_chain {op op' : CmpOp} (o : OpDD X (compareOp op) f) (o' : OpDD X (compareOp op') g) (ha : DE X W a ta) (hb : DE X W b tb) (hc : DE X W c tc) (hm : lastMarks [op, op'] [b, c] = false := by with_unfolding_all rfl) :
    DT X W (.Compare a [op, op'] [b, c] pos) (tTst (eChain f g ta tb tc)) := by
  obtain ⟨r, ho, hf⟩ := o
  obtain ⟨r', ho', hf'⟩ := o'
  refine PT.imp (pt_chain ho ho' ha hb hc hm) fun σ H Q ⟨G, F, m, sd, h, QD, E, at_, t, hQ⟩ => ?_
  refine LE.step at_ t fun F1 m1 h1 H1 x d le1 a1 rp1 t1 => LE.step a1 t1 fun F2 m2 h2 H2 y e le2 a2 rp2 t2 => ?_
  refine hf _ _ _ _ _ _ _ _ _ _ _ a2.R (rp1.mono le2) rp2 t2 fun v H' ⟨F3, m3, h3, z, le3, R3, rz, q⟩ => ?_
  cases rz with
  | bl k =>
    refine ⟨k, rfl, ?_⟩
    cases k with
    | true =>
      rw [if_pos rfl]
      exact LE.step (a2.mv le3 R3) q fun F4 m4 h4 H4 w' u le4 a4 rp4 t4 => hf' _ _ _ _ _ _ _ _ _ _ _ a4.R (rp2.mono (le3.trans le4)) rp4 t4 fun v H' qv => by
        obtain ⟨k, rfl, z⟩ := (qv.mono (le1.trans (le2.trans (le3.trans le4)))).bl
        exact ⟨k, rfl, hQ _ _ z⟩
    | false =>
      rw [if_neg Bool.false_ne_true]
      exact ⟨false, rfl, hQ _ _ ⟨F3, m3, h3, le1.trans (le2.trans le3), R3, q⟩⟩
  | _ => exact q.elim
end
end DL
end

section
set_option maxRecDepth 100000
set_option maxHeartbeats 4000000
namespace DL
open PySem PySem.Spec L2
/-! ## walks read by an invariant -/
theorem forL_ind {keep : DH → Prop} {g : TGD} {tb : TSD} {k : KD} (I : List D → Sg → DH → Prop) (h0 : ∀ sd h, I [] sd h → keep h ∧ k.nx sd h)
    (hs : ∀ (x : D) (r : List D) (sd : Sg) (h : DH) (N : Sg → DH → Prop), I (x :: r) sd h → (∀ sd h, I r sd h → N sd h) → keep h ∧ g x sd h fun sd' h' => tb { k with nx := N, ct := N, bk := k.nx } sd' h') :
    ∀ (items : List D) (sd : Sg) (h : DH), I items sd h → forL keep g tb k items sd h
  | [], sd, h, i => h0 sd h i
  | x :: r, sd, h, i => hs x r sd h _ i fun sd h j => forL_ind I h0 hs r sd h j
theorem compL_ind {keep : DH → Prop} {g : TGD} {tt : TTD} {te : TED} {sd : Sg} {Q : LD} (I : List D → List D → DH → Prop) (h0 : ∀ acc h, I [] acc h → keep h ∧ Q acc h)
    (hs : ∀ (x : D) (r acc : List D) (h : DH) (N : List D → DH → Prop), I (x :: r) acc h → (∀ acc h, I r acc h → N acc h) →
      keep h ∧ g x sd h fun sd' h1 => tt sd' h1 (fun b h2 => if b = true then te sd' h2 (fun d h3 => N (acc ++ [d]) h3) EF else N acc h2) EF) :
    ∀ (items acc : List D) (h : DH), I items acc h → compL keep g tt te sd items acc h Q
  | [], acc, h, i => h0 acc h i
  | x :: r, acc, h, i => hs x r acc h (fun acc h => compL keep g tt te sd r acc h Q) i fun acc h j => compL_ind I h0 hs r acc h j
theorem compB_ind {keep : DH → Prop} {g : TGD} {tt : TTD} {te : TED} {sd : Sg} {Q : LD} (I : List D → List D → DH → Prop) (h0 : ∀ acc h, I [] acc h → keep h ∧ Q acc h)
    (hs : ∀ (x : D) (r acc : List D) (h : DH) (N : List D → DH → Prop), I (x :: r) acc h → (∀ acc h, I r acc h → N acc h) →
      keep h ∧ g x sd h fun sd' h1 => tt sd' h1 (fun b h2 => if b = true then te sd' h2 (fun d h3 => acc.length < sizeLine ∧ N (acc ++ [d]) h3) EF else N acc h2) EF) :
    ∀ (items acc : List D) (h : DH), I items acc h → compB keep g tt te sd items acc h Q
  | [], acc, h, i => h0 acc h i
  | x :: r, acc, h, i => hs x r acc h (fun acc h => compB keep g tt te sd r acc h Q) i fun acc h j => compB_ind I h0 hs r acc h j
theorem comp2_ind {keep : DH → Prop} {g : TGD} {tt : TTD} {ti1 : TID} {g1 : TGD} {tt1 : TTD} {te : TED} {vs1 : List Nat} {sd : Sg} {Q : LD} (I : List D → List D → DH → Prop) (h0 : ∀ acc h, I [] acc h → keep h ∧ Q acc h)
    (hs : ∀ (x : D) (r acc : List D) (h : DH) (N : List D → DH → Prop), I (x :: r) acc h → (∀ acc h, I r acc h → N acc h) →
      keep h ∧ g x sd h fun sd' h1 => tt sd' h1 (fun b h2 => if b = true then ti1 sd' h2 (fun items1 keep1 h3 => compB keep1 g1 tt1 te (wipeD sd' vs1) items1 acc h3 fun acc' h4 => N acc' h4) EF else N acc h2) EF) :
    ∀ (items acc : List D) (h : DH), I items acc h → comp2 keep g tt ti1 g1 tt1 te vs1 sd items acc h Q
  | [], acc, h, i => h0 acc h i
  | x :: r, acc, h, i => hs x r acc h (fun acc h => comp2 keep g tt ti1 g1 tt1 te vs1 sd r acc h Q) i fun acc h j => comp2_ind I h0 hs r acc h j
/-- where nothing is changed: each item gives a list (none, or one), as fo tells -/
theorem compL_fm {keep : DH → Prop} {g : TGD} {tt : TTD} {te : TED} {sd : Sg} {Q : LD} {h : DH} (fo : D → Option D) {items : List D} {acc : List D} (hk : keep h) (q : Q (acc ++ items.filterMap fo) h)
    (hs : ∀ x ∈ items, ∀ (N : D → Prop) (M : Prop), (∀ y, fo x = some y → N y) → (fo x = none → M) → g x sd h fun sd' h1 => tt sd' h1 (fun b h2 => if b = true then te sd' h2 (fun d h3 => h3 = h ∧ N d) EF else h2 = h ∧ M) EF)
    (mono : ∀ x ∈ items, ∀ (P1 P2 : D → DH → Prop) (M1 M2 : DH → Prop), (∀ d h, P1 d h → P2 d h) → (∀ h, M1 h → M2 h) → (g x sd h fun sd' h1 => tt sd' h1 (fun b h2 => if b = true then te sd' h2 (fun d h3 => P1 d h3) EF else M1 h2) EF) → g x sd h fun sd' h1 => tt sd' h1 (fun b h2 => if b = true then te sd' h2 (fun d h3 => P2 d h3) EF else M2 h2) EF) :
    compL keep g tt te sd items acc h Q := by
  induction items generalizing acc with
  | nil => exact ⟨hk, by simpa using q⟩
  | cons x r ih =>
    refine ⟨hk, ?_⟩
    refine mono x List.mem_cons_self _ _ _ _ (fun d h3 p => ?_) (fun h2 p => ?_) (hs x List.mem_cons_self (fun d => compL keep g tt te sd r (acc ++ [d]) h Q) (compL keep g tt te sd r acc h Q) (fun y e => ?_) (fun e => ?_))
    · exact (show h3 = h ∧ compL keep g tt te sd r (acc ++ [d]) h Q from p).1 ▸ (show h3 = h ∧ compL keep g tt te sd r (acc ++ [d]) h Q from p).2
    · exact (show h2 = h ∧ compL keep g tt te sd r acc h Q from p).1 ▸ (show h2 = h ∧ compL keep g tt te sd r acc h Q from p).2
    · refine ih ?_ (fun z hz => hs z (List.mem_cons_of_mem _ hz)) (fun z hz => mono z (List.mem_cons_of_mem _ hz))
      rw [List.filterMap_cons, e] at q
      simpa using q
    · refine ih ?_ (fun z hz => hs z (List.mem_cons_of_mem _ hz)) (fun z hz => mono z (List.mem_cons_of_mem _ hz))
      rw [List.filterMap_cons, e] at q
      simpa using q
/-- the same, where the items are the values of a list by f -/
theorem compL_map {α : Type} {keep : DH → Prop} {g : TGD} {tt : TTD} {te : TED} {sd : Sg} {Q : LD} {h : DH} (f : α → D) (fo : α → Option D) {xs : List α} {acc : List D} (hk : keep h) (q : Q (acc ++ xs.filterMap fo) h)
    (hs : ∀ x ∈ xs, ∀ (N : List D → DH → Prop) (acc : List D), (match fo x with | some y => N (acc ++ [y]) h | none => N acc h) → g (f x) sd h fun sd' h1 => tt sd' h1 (fun b h2 => if b = true then te sd' h2 (fun d h3 => N (acc ++ [d]) h3) EF else N acc h2) EF) :
    compL keep g tt te sd (xs.map f) acc h Q := by
  induction xs generalizing acc with
  | nil => exact ⟨hk, by simpa using q⟩
  | cons x r ih =>
    refine ⟨hk, ?_⟩
    refine hs x List.mem_cons_self (fun acc h => compL keep g tt te sd (r.map f) acc h Q) acc ?_
    rw [List.filterMap_cons] at q
    cases e : fo x with
    | none =>
      rw [e] at q
      exact ih q fun z hz => hs z (List.mem_cons_of_mem _ hz)
    | some y =>
      rw [e] at q
      exact ih (by simpa using q) fun z hz => hs z (List.mem_cons_of_mem _ hz)
theorem compB_map {α : Type} {keep : DH → Prop} {g : TGD} {tt : TTD} {te : TED} {sd : Sg} {Q : LD} {h : DH} (f : α → D) (fo : α → Option D) {xs : List α} {acc : List D} (hk : keep h) (q : Q (acc ++ xs.filterMap fo) h) (hz : acc.length + xs.length ≤ sizeLine)
    (hs : ∀ x ∈ xs, ∀ (N : List D → DH → Prop) (acc : List D), acc.length < sizeLine → (match fo x with | some y => N (acc ++ [y]) h | none => N acc h) → g (f x) sd h fun sd' h1 => tt sd' h1 (fun b h2 => if b = true then te sd' h2 (fun d h3 => acc.length < sizeLine ∧ N (acc ++ [d]) h3) EF else N acc h2) EF) :
    compB keep g tt te sd (xs.map f) acc h Q := by
  induction xs generalizing acc with
  | nil => exact ⟨hk, by simpa using q⟩
  | cons x r ih =>
    rw [List.length_cons] at hz
    refine ⟨hk, ?_⟩
    refine hs x List.mem_cons_self (fun acc h => compB keep g tt te sd (r.map f) acc h Q) acc (by omega) ?_
    rw [List.filterMap_cons] at q
    cases e : fo x with
    | none =>
      rw [e] at q
      exact ih q (by omega) fun z hz => hs z (List.mem_cons_of_mem _ hz)
    | some y =>
      rw [e] at q
      exact ih (by simpa using q) (by rw [List.length_append, List.length_singleton]; omega) fun z hz => hs z (List.mem_cons_of_mem _ hz)
theorem comp2_map {α : Type} (B : Nat) {keep : DH → Prop} {g : TGD} {tt : TTD} {ti1 : TID} {g1 : TGD} {tt1 : TTD} {te : TED} {vs1 : List Nat} {sd : Sg} {Q : LD} {h : DH} (f : α → D) (fo : α → List D) {xs : List α} {acc : List D} (hk : keep h) (q : Q (acc ++ xs.flatMap fo) h)
    (hz : acc.length + (xs.flatMap fo).length ≤ B)
    (hs : ∀ x ∈ xs, ∀ (N : List D → DH → Prop) (acc : List D), acc.length + (fo x).length ≤ B → N (acc ++ fo x) h → g (f x) sd h fun sd' h1 => tt sd' h1 (fun b h2 => if b = true then ti1 sd' h2 (fun items1 keep1 h3 => compB keep1 g1 tt1 te (wipeD sd' vs1) items1 acc h3 fun acc' h4 => N acc' h4) EF else N acc h2) EF) :
    comp2 keep g tt ti1 g1 tt1 te vs1 sd (xs.map f) acc h Q := by
  induction xs generalizing acc with
  | nil => exact ⟨hk, by simpa using q⟩
  | cons x r ih =>
    rw [List.flatMap_cons, List.length_append] at hz
    refine ⟨hk, ?_⟩
    refine hs x List.mem_cons_self (fun acc h => comp2 keep g tt ti1 g1 tt1 te vs1 sd (r.map f) acc h Q) acc (by omega) ?_
    rw [List.flatMap_cons] at q
    exact ih (by simpa using q) (by rw [List.length_append]; omega) fun z hz => hs z (List.mem_cons_of_mem _ hz)
theorem rngL_eq (lo : Int) (n : Nat) : rngL lo n = (List.range n).map fun i => D.int (lo + (i : Nat)) := rfl
theorem size_le {n : Nat} (h : n ≤ 16777216) : n ≤ sizeLine := by rw [sizeLine_eq]; exact h
theorem size_lt {n : Nat} (h : n < 16777216) : n < sizeLine := by rw [sizeLine_eq]; exact h
end DL
namespace DL
open PySem PySem.Spec L2
/-! ## one statement after the other -/
theorem sSeq_i {t u : TSD} {k : KD} {sd : Sg} {h : DH} (q : ∀ N : Sg → DH → Prop, (∀ sd h, u k sd h → N sd h) → t { k with nx := N } sd h) : sSeq t u k sd h := q (u k) fun _ _ x => x
theorem sSeq_inv {t u : TSD} {k : KD} {sd : Sg} {h : DH} (I : Sg → DH → Prop) (q : ∀ N : Sg → DH → Prop, (∀ sd h, I sd h → N sd h) → t { k with nx := N } sd h) (r : ∀ sd h, I sd h → u k sd h) : sSeq t u k sd h := q (u k) r
def brB (b : Bool) (A B : Prop) : Prop := if b = true then A else B
theorem brB_t {A B : Prop} : brB true A B = A := if_pos rfl
theorem brB_f {A B : Prop} : brB false A B = B := if_neg Bool.false_ne_true
theorem brB_i {b : Bool} {A B : Prop} (x : b = true → A) (y : b = false → B) : brB b A B := by
  cases b with
  | true => rw [brB_t]; exact x rfl
  | false => rw [brB_f]; exact y rfl
theorem sIf_i {c : TTD} {t u : TSD} {k : KD} {sd : Sg} {h : DH} (q : ∀ A B : DH → Prop, (∀ h, t k sd h → A h) → (∀ h, u k sd h → B h) → c sd h (fun b h' => brB b (A h') (B h')) (k.E sd)) : sIf c t u k sd h := q (t k sd) (u k sd) (fun _ x => x) fun _ x => x
theorem sFor_i {ti : TID} {g : TGD} {tb : TSD} {k : KD} {sd : Sg} {h : DH} (q : ∀ L : List D → (DH → Prop) → DH → Prop, (∀ items keep h, forL keep g tb k items sd h → L items keep h) → ti sd h L (k.E sd)) : sFor ti g tb k sd h := q _ fun _ _ _ x => x
/-! ## == of ints, truths -/
section
variable {h : DH} {Q : VD}
theorem eqv_int (a b : Int) : PyData.eqv (.int a) (.int b) = (a == b) := by
  unfold PyData.eqv; first | rfl | simp
theorem eqv_bool (a b : Bool) : PyData.eqv (.bool a) (.bool b) = (a == b) := by
  unfold PyData.eqv; first | rfl | (cases a <;> cases b <;> rfl)
theorem shaped_int (a : Int) : SeqAt.shaped (.int a) = true := by rfl
theorem shaped_bool (a : Bool) : SeqAt.shaped (.bool a) = true := by rfl
theorem dEq_int (a b : Int) : dEq (.int a) (.int b) h Q = Q (.bl (a == b)) h := by
  show (SeqAt.shaped (.int a) = true ∧ SeqAt.shaped (.int b) = true ∧ Q (.bl (PyData.eqv (.int a) (.int b))) h) = _
  rw [eqv_int, shaped_int, shaped_int]; simp
theorem dNe_int (a b : Int) : dNe (.int a) (.int b) h Q = Q (.bl (!(a == b))) h := by
  show (SeqAt.shaped (.int a) = true ∧ SeqAt.shaped (.int b) = true ∧ Q (.bl (!PyData.eqv (.int a) (.int b))) h) = _
  rw [eqv_int, shaped_int, shaped_int]; simp
theorem dEq_bl (a b : Bool) : dEq (.bl a) (.bl b) h Q = Q (.bl (a == b)) h := by
  show (SeqAt.shaped (.bool a) = true ∧ SeqAt.shaped (.bool b) = true ∧ Q (.bl (PyData.eqv (.bool a) (.bool b))) h) = _
  rw [eqv_bool, shaped_bool, shaped_bool]; simp
theorem dNe_bl (a b : Bool) : dNe (.bl a) (.bl b) h Q = Q (.bl (!(a == b))) h := by
  show (SeqAt.shaped (.bool a) = true ∧ SeqAt.shaped (.bool b) = true ∧ Q (.bl (!PyData.eqv (.bool a) (.bool b))) h) = _
  rw [eqv_bool, shaped_bool, shaped_bool]; simp
end
end DL
end

section
set_option maxRecDepth 100000
set_option maxHeartbeats 4000000
namespace DL
open PySem PySem.Spec L2
/-! ## what is told stands: no ref from the heap's end on -/
section
variable {K : PySem.W.Frag} {mg : Str → Option Value} {G F : Hp} {m : List Addr} {h : DH} {H : Hp}
mutual
theorem Rp.nr : ∀ {v : V} {d : D}, Rp K mg F m v d → nrD m.length d = true
  | _, _, .non => rfl
  | _, _, .bl _ => rfl
  | _, _, .int _ => rfl
  | _, _, .str _ => rfl
  | _, _, .ty _ => rfl
  | _, .tup _, .tup _ p => by simpa only [nrD] using Rps.nr p
  | _, .lst _, .lst _ p => by simpa only [nrD] using Rps.nr p
  | _, .scr _, .scr _ p => by simpa only [nrD] using Rps.nr p
  | _, .dic _ _, .dic _ _ p => by simpa only [nrD] using Rps.nr p
  | _, .obj _ _ _, .obj _ _ _ p => by simpa only [nrD] using Rps.nr p
  | _, .ref _, .ref e => by
    simp only [nrD, decide_eq_true_eq]
    exact (List.getElem?_eq_some_iff.mp e).1
  | _, _, .glb _ => rfl
  | _, _, .exc0 _ => rfl
  | _, .exc _ _ _ _ _ _, .exc1 _ _ _ p => by simpa only [nrD] using Rps.nr p
theorem Rps.nr : ∀ {vs : List V} {ds : List D}, Paired (Rp K mg F m) vs ds → nrDs m.length ds = true
  | _, _, .nil => rfl
  | _, _ :: _, .cons p r => by
    simp only [nrDs, Bool.and_eq_true]
    exact ⟨Rp.nr p, Rps.nr r⟩
end
theorem Ro.nr {x : Option HO} {o : O} (r : Ro K mg F m x o) : nrO m.length o = true := by
  cases r with
  | dead => rfl
  | lst p => exact Rps.nr p
  | dk a p => exact Rps.nr p
  | dt a p => exact Rps.nr p
  | ins a b p => exact Rps.nr p
abbrev WF (h : DH) : Prop := ∀ o ∈ h, nrO h.length o = true
theorem Rel.wf (R : Rel K mg G F m h H) : WF h := fun o ho => by
  obtain ⟨n, hn⟩ := List.getElem?_of_mem ho
  cases e : o with
  | dead => rfl
  | _ =>
    obtain ⟨a, _, _, r⟩ := R.lv n o hn (by rw [e]; exact fun q => nomatch q)
    rw [← e, ← R.ln]
    exact r.nr
end
mutual
theorem nrD_mono {n k : Nat} (hk : n ≤ k) : ∀ {d : D}, nrD n d = true → nrD k d = true
  | .ref j, e => by
    simp only [nrD, decide_eq_true_eq] at e ⊢
    omega
  | .tup xs, e => nrDs_mono (ds := xs) hk e
  | .lst xs, e => nrDs_mono (ds := xs) hk e
  | .scr xs, e => nrDs_mono (ds := xs) hk e
  | .dic _ xs, e => nrDs_mono (ds := xs) hk e
  | .obj _ _ xs, e => nrDs_mono (ds := xs) hk e
  | .exc _ _ _ _ _ xs, e => nrDs_mono (ds := xs) hk e
  | .non, _ => rfl
  | .bl _, _ => rfl
  | .int _, _ => rfl
  | .str _, _ => rfl
  | .ty _, _ => rfl
  | .glb _, _ => rfl
theorem nrDs_mono {n k : Nat} (hk : n ≤ k) : ∀ {ds : List D}, nrDs n ds = true → nrDs k ds = true
  | [], _ => rfl
  | x :: r, e => by
    simp only [nrDs, Bool.and_eq_true] at e ⊢
    exact ⟨nrD_mono hk e.1, nrDs_mono hk e.2⟩
end
theorem nrO_mono {n k : Nat} (hk : n ≤ k) {o : O} (e : nrO n o = true) : nrO k o = true := by
  cases o <;> first | rfl | exact nrDs_mono hk e
theorem nrDs_iff {n : Nat} : ∀ {ds : List D}, nrDs n ds = true ↔ ∀ d ∈ ds, nrD n d = true
  | [] => by simp [nrDs]
  | x :: r => by simp [nrDs, nrDs_iff (n := n) (ds := r)]
/-- a promise whose entry is known to be whole, and that lets go of what it made -/
def popW (f : SpD) : SpD := fun ds h Q E => nrDs h.length ds = true → WF h → popF f ds h Q E
def popWR (f : SpD) : SpD := fun ds h Q E => nrDs h.length ds = true → WF h → popFR f ds h Q E
section
variable {P : Program} {w : World} {K : PySem.W.Frag} {mg : Str → Option Value} {base : Heap}
theorem fn_wf {f : Addr} {fd : FuncData} {ps : List Str} {k n : Nat} {sp : SpD} (F : FnOk P w K mg base (L2.CX P w) k f fd ps (LSp K mg n sp)) : FnOk P w K mg base (L2.CX P w) k f fd ps (LSp K mg n (fun ds h Q E => nrDs h.length ds = true → WF h → sp ds h Q E)) :=
  F.imp fun vs H Q E ⟨hl, G, F, m, h', ds, QD, ED, R, rp, q, hQ, hE⟩ => ⟨hl, G, F, m, h', ds, _, _, R, rp, q (by rw [← R.ln]; exact Rps.nr rp) R.wf, hQ, hE⟩
theorem Def.popW {base k x ps} {sp : SpD} (c : Def P w K mg base k x ps sp) : Def P w K mg base k x ps (DL.popW sp) := by
  obtain ⟨f, fd, F, a, b, d⟩ := c
  exact ⟨f, fd, fn_wf (fn_pop F), a, b, d⟩
theorem Def.popWR {base k x ps} {sp : SpD} (c : Def P w K mg base k x ps sp) : Def P w K mg base k x ps (DL.popWR sp) := by
  obtain ⟨f, fd, F, a, b, d⟩ := c
  exact ⟨f, fd, fn_wf (fn_popR F), a, b, d⟩
end
end DL
end

section
set_option maxRecDepth 100000
set_option maxHeartbeats 4000000
namespace DL
open PySem PySem.Spec L2
/-! ## the end's parts -/
section
variable {P : Program} {w : World} {K : PySem.W.Frag} {mg : Str → Option Value} {base : Heap}
/-- a def that promises nothing yet -/
theorem Def.zero {x qual : Str} {st : Stmt} {f : Addr} {fd : FuncData} {ps : List Str} (k : Nat) (F : Fun K x qual st f fd) (hm : mg x = some (.ref f)) (hb : Binds K fd ps []) : Def P w K mg base k x ps (fun _ _ _ _ => False) :=
  ⟨f, fd, ⟨fun _ _ _ _ ⟨h, _⟩ => h, fun _ _ _ _ _ _ _ _ _ _ _ _ _ ⟨_, _, _, _, _, _, _, _, _, _, z, _⟩ => z.elim⟩, hm, F.kp, hb⟩
theorem mem1 {α : Type} {p : α → Prop} {a : α} (h : p a) : ∀ x ∈ [a], p x := fun x hx => by rw [List.mem_singleton.mp hx]; exact h
theorem kit_own {C : Addr} {t : String} {b : Bool} (hm : PySem.W.kitMeta t = true) (h : PySem.W.subIn K (.ref C) (.type t) = some b) : PySem.W.kitOne K (.ref C) (.type t) = some b := by
  unfold PySem.W.kitOne
  have e : (Value.ref C == Value.type t) = false := beq_eq_false_iff_ne.mpr (fun q => by cases q)
  rw [e, if_neg Bool.false_ne_true]
  unfold PySem.W.kitCls
  simp only [hm, if_true]
  exact h
theorem kit_blt {C : Addr} {t : String} {b : Bool} (hc : PySem.W.isClsIn K C = true) (ht : PySem.W.typeIn K (.ref C) = some (.type "type")) (h : PySem.W.subIn K (.type t) (.ref C) = some b) : PySem.W.kitOne K (.type t) (.ref C) = some b := by
  unfold PySem.W.kitOne
  have e : (Value.type t == Value.ref C) = false := beq_eq_false_iff_ne.mpr (fun q => by cases q)
  rw [e, if_neg Bool.false_ne_true]
  unfold PySem.W.kitCls
  have e2 : ((PySem.W.clsIn K C).isSome && PySem.W.typeIn K (.ref C) == some (.type "type")) = true := by
    have h2 : (PySem.W.clsIn K C).isSome = true := hc
    rw [h2, ht]; rfl
  simp only [e2, if_true]
  exact h
theorem kit_self {C : Addr} : PySem.W.kitOne K (.ref C) (.ref C) = some true := by
  unfold PySem.W.kitOne
  rw [if_pos (beq_self_eq_true _)]
theorem ownT1 {c : String} {C : Addr} (gC : mg (Str.ofString c) = some (.ref C)) (cl : Cls K C) (ha : PySem.W.findIn K (.ref C) "__class__" = some (some (.builtin "object.__class__"))) (hm : PySem.W.mroIn K C (.type "object") = some true)
    (hn : PySem.W.specialIn K (.builtin "object.__class__") "__get__" = some (some (.builtin "getset_descriptor.__get__"))) (ht : PySem.W.takesIn K (.builtin "object.__class__") = some true) (hic : PySem.W.isClsIn K C = true) (hty : PySem.W.typeIn K (.ref C) = some (.type "type"))
    (o1 : PySem.W.subIn K (.ref C) (.type "int") = some false) (o2 : PySem.W.subIn K (.ref C) (.type "bool") = some false) (o3 : PySem.W.subIn K (.ref C) (.type "tuple") = some false) (o4 : PySem.W.subIn K (.ref C) (.type "list") = some false) (o5 : PySem.W.subIn K (.ref C) (.type "str") = some false) (o6 : PySem.W.subIn K (.ref C) (.type "dict") = some false)
    (b0 : PySem.W.subIn K (.type "NoneType") (.ref C) = some false) (b1 : PySem.W.subIn K (.type "int") (.ref C) = some false) (b2 : PySem.W.subIn K (.type "bool") (.ref C) = some false) (b3 : PySem.W.subIn K (.type "tuple") (.ref C) = some false) (b4 : PySem.W.subIn K (.type "list") (.ref C) = some false) (b5 : PySem.W.subIn K (.type "str") (.ref C) = some false) (b6 : PySem.W.subIn K (.type "dict") (.ref C) = some false) : OwnT K mg [c] := by
  have un : ∀ c' ∈ [c], ∀ C', mg (Str.ofString c') = some (.ref C') → c' = c ∧ C' = C := fun c' hc C' h => by
    obtain rfl := List.mem_singleton.mp hc
    rw [gC] at h
    cases h
    exact ⟨rfl, rfl⟩
  refine ⟨fun c' hc C' h => ?_, fun c' hc C' h => ?_, fun c' hc C' h => ?_, hn, ht, fun c' hc C' h n hn => ?_, fun c' hc C' h n hn => ?_, fun c' hc C' h c'' hc' C'' h' => ?_, mem1 ⟨C, gC⟩⟩
  · rw [(un c' hc C' h).2]; exact cl
  · rw [(un c' hc C' h).2]; exact ha
  · rw [(un c' hc C' h).2]; exact hm
  · rw [(un c' hc C' h).2]
    simp only [tyNs, List.mem_cons, List.not_mem_nil, or_false] at hn
    rcases hn with rfl | rfl | rfl | rfl | rfl | rfl <;> exact kit_own (by decide +kernel) (by assumption)
  · rw [(un c' hc C' h).2]
    simp only [tyNs, List.mem_cons, List.not_mem_nil, or_false] at hn
    rcases hn with rfl | rfl | rfl | rfl | rfl | rfl | rfl <;> exact kit_blt hic hty (by assumption)
  · rw [(un c' hc C' h).2, (un c'' hc' C'' h').2, (un c' hc C' h).1, (un c'' hc' C'' h').1, kit_self]
    simp
theorem fldT {c f : String} {C : Addr} (gC : mg (Str.ofString c) = some (.ref C)) (cl : Cls K C) (no : NoAttr K C (Str.ofString f)) : FldT K mg c f := by
  refine ⟨fun C' h => ?_, fun C' h => ?_⟩ <;> (rw [gC] at h; cases h; assumption)
/-- the law's own promise, with no small heap in sight -/
def spLaw (K : PySem.W.Frag) : Sp := fun vs H Q _ => ∃ (a : Addr) (ns : List Int), vs = [.ref a] ∧ SqL K H a (ns.map V.int) ∧ ns.length ≤ 63 ∧ ∀ H', Q (.bl true) H'
def spLawD : SpD := fun ds h Q _ => ∃ ns : List Int, ds = [.scr (ns.map .int)] ∧ ns.length ≤ 63 ∧ h = [] ∧ ∀ h', Q (.bl true) h'
theorem law_end {f : Addr} {fd : FuncData} {ps : List Str} {k : Nat} {sp : SpD} (F : FnOk P w K mg base (L2.CX P w) k f fd ps (LSp K mg 1 sp)) (h : ∀ ds h Q E, spLawD ds h Q E → sp ds h Q E) : FnOk P w K mg base (L2.CX P w) k f fd ps (spLaw K) := by
  refine F.imp fun vs H Q E ⟨a, ns, e, hs, hl, q⟩ => ?_
  subst e
  refine ⟨rfl, fun _ => none, H, [], [], [.scr (ns.map .int)], fun d _ => d = .bl true, fun _ _ _ _ => False, ?_, .cons (.scr hs (Rps.of_ints ns)) .nil, h _ _ _ _ ⟨ns, rfl, hl, rfl, fun _ => rfl⟩, ?_, ?_⟩
  · exact ⟨(fun _ _ e => by cases e), (fun _ _ e => by cases e), (fun _ _ e => by cases e), (fun _ _ _ e => by cases e), (fun _ _ e => e), rfl, (fun _ _ e => by cases e), (fun _ _ _ _ _ e => by cases e)⟩
  · rintro v H' ⟨F', m', h', d, _, _, r, rfl⟩
    cases r
    exact q H'
  · rintro cls dx H' ⟨_, _, _, _, _, _, _, _, _, z⟩
    exact z.elim
end
theorem walkD {l : PySem.W.OpenLaw} {k : Nat} {q : Program} {loose : List Str} {XP : (Str → Option Value) → Heap → Prop} {YP : World → Heap → Prop} {d : DefRec} {K : Params → PySem.W.Frag} (hn : l.most = some 63) (hdf : d.params.defaults = []) (hr : Room k callerA)
    (hY : ∀ (w : World) (h : Heap), YP w h → (K w.params).In h)
    (F : ∀ (w : World) (mg : Str → Option Value) (fa : Addr) (h : Heap), (K w.params).In h → h.Ns mainGlobals mg → mg d.name = some (.ref fa) →
      ∃ fd : FuncData, (∀ (s : Shared) (u : Value), BindsTo s fd ⟨[u], []⟩ [("script", u)]) ∧ ∀ base : Heap, (K w.params).In base → base.Ns mainGlobals mg → FnOk l.prog w (K w.params) mg base (L2.CX l.prog w) k fa fd ["script"] (spLaw (K w.params))) :
    PySem.W.WalkO q loose XP YP l.row.toRowW d [] (fun f vs => PySem.call f vs) :=
  L2.walk_of (n := 63) (k := k) (x := "script") (CX := fun w => L2.CX l.prog w) (sp := fun w => spLaw (K w.params)) hn (by decide) hdf hr hY F (fun _ _ a ns hl _ hS => ⟨a, ns, rfl, hS, hl, fun _ => rfl⟩) fun _ _ _ _ _ z => by
    obtain ⟨_, _, _, _, _, _, _, _, _, _, _, _, z⟩ := z
    exact z
end DL
end

section
set_option maxRecDepth 100000
set_option maxHeartbeats 4000000
namespace DL
open PySem PySem.Spec L2
def top (i : Nat) : Stmt := PySem.Challenge.pw_chordswaps_k10_whole_swaps_listed.main.body.getD i (.Pass ⟨0, 0, 0, 0⟩)
structure Txt (K : PySem.W.Frag) (mg : Str → Option Value) : Prop where
  own : OwnT K mg ["Book"]
  n_abs : mg "abs" = none
  n_all : mg "all" = none
  n_any : mg "any" = none
  n_bool : mg "bool" = none
  n_enumerate : mg "enumerate" = none
  n_int : mg "int" = none
  n_isinstance : mg "isinstance" = none
  n_len : mg "len" = none
  n_list : mg "list" = none
  n_max : mg "max" = none
  n_min : mg "min" = none
  n_range : mg "range" = none
  n_set : mg "set" = none
  n_sorted : mg "sorted" = none
  n_str : mg "str" = none
  n_tuple : mg "tuple" = none
  n_zip : mg "zip" = none
  c_MOST_PERSONS : ∃ t, mg "MOST_PERSONS" = some (.int 12 t)
  c_MOST_POSTS : ∃ t, mg "MOST_POSTS" = some (.int 12 t)
  c_MOST_SIZE : ∃ t, mg "MOST_SIZE" = some (.int 12 t)
  g_Book : ∃ C, mg (Str.ofString "Book") = some (.ref C)
  f_may : ∀ c ∈ ["Book"], FldT K mg c "may"
  f_posts : ∀ c ∈ ["Book"], FldT K mg c "posts"
  x_BadExchange : Xc0 K mg "BadExchange"
  x_BadFilling : Xc0 K mg "BadFilling"
  x_NoBook : Xc0 K mg "NoBook"
/-- a thing whose kind the text can ask -/
def Kn (x : D) (h : DH) : Prop := (∃ t, tyB x h = some t) ∨ tyB x h = none ∧ ownB x h = some "Book"
theorem cutD_map {α : Type} (f : α → D) (xs : List α) (lo hi : Option Int) : ∃ a b, cutD (xs.map f) lo hi = ((xs.drop a).take b).map f := by
  refine ⟨HT.sIx (xs.map f).length 0 lo, HT.sIx (xs.map f).length (xs.map f).length hi - HT.sIx (xs.map f).length 0 lo, ?_⟩
  unfold cutD
  rw [← List.map_drop, ← List.map_take]
theorem get_last {α : Type} (h : List α) (o : α) : (h ++ [o])[h.length]? = some o := by simp
theorem fmod_nn (a : Int) {b : Int} (hb : 0 < b) : 0 ≤ Int.fmod a b := Int.fmod_nonneg_of_pos a hb
theorem fmod_lt (a : Int) {b : Int} (hb : 0 < b) : Int.fmod a b < b := Int.fmod_lt_of_pos a hb
theorem get_set_self {α : Type} {h : List α} {n : Nat} {o u : α} (e : h[n]? = some u) : (h.set n o)[n]? = some o := by
  obtain ⟨hn, _⟩ := List.getElem?_eq_some_iff.mp e
  simp [hn]
theorem set_set' {α : Type} (h : List α) (n : Nat) (a b : α) : (h.set n a).set n b = h.set n b := List.set_set ..
theorem atI_0 {α : Type} (x : α) (r : List α) : atI (x :: r) 0 = some x := by
  unfold atI ixN
  simp only [List.length_cons]
  rw [if_pos (by decide), if_pos (by omega)]; rfl
theorem atI_nat {α : Type} {xs : List α} {i : Int} {x : α} (h0 : 0 ≤ i) (e : xs[i.toNat]? = some x) : atI xs i = some x := by
  obtain ⟨hl, _⟩ := List.getElem?_eq_some_iff.mp e
  unfold atI ixN
  rw [if_pos h0, if_pos (by omega)]
  exact e
theorem ixN_nat {n : Nat} {i : Int} (h0 : 0 ≤ i) (h : i < n) : ixN n i = some i.toNat := by
  unfold ixN
  rw [if_pos h0, if_pos h]
theorem sIx_none (n d : Nat) : HT.sIx n d none = d := rfl
theorem sIx_nat (n d k : Nat) : HT.sIx n d (some (k : Int)) = min k n := by
  show (if (k : Int) < 0 then ((k : Int) + (n : Int)).toNat else min (k : Int).toNat n) = min k n
  rw [if_neg (by omega), Int.toNat_natCast]
theorem cutD_from (xs : List D) (k : Nat) : cutD xs (some (k : Int)) none = xs.drop k := by
  unfold cutD
  rw [sIx_none, sIx_nat, List.take_of_length_le (by rw [List.length_drop]; omega)]
  by_cases h : k ≤ xs.length
  · rw [Nat.min_eq_left h]
  · rw [Nat.min_eq_right (by omega), List.drop_eq_nil_of_le (Nat.le_refl _), List.drop_eq_nil_of_le (by omega)]
theorem cutD_upto (xs : List D) (k : Nat) : cutD xs none (some (k : Int)) = xs.take k := by
  unfold cutD
  rw [sIx_none, sIx_nat, List.drop_zero, Nat.sub_zero]
  by_cases h : k ≤ xs.length
  · rw [Nat.min_eq_left h]
  · rw [Nat.min_eq_right (by omega), List.take_of_length_le (Nat.le_refl _), List.take_of_length_le (by omega)]
theorem zipL_map {α β : Type} (f : α → D) (g : β → D) : ∀ (xs : List α) (ys : List β), zipL (xs.map f) (ys.map g) = (xs.zip ys).map fun p => .tup [f p.1, g p.2]
  | [], _ => rfl
  | _ :: _, [] => rfl
  | x :: xs, y :: ys => by
    have ih := zipL_map f g xs ys
    unfold zipL at ih ⊢
    simp only [List.map_cons, List.zipWith_cons_cons, List.zip_cons_cons]
    rw [ih]
theorem wz_tup {xs ys : List D} {h : DH} {Q : QIt} : wZip [.tup xs, .tup ys] h Q = Q (zipL xs ys) (fun _ => True) h := rfl
theorem blsOf_p {α : Type} (p : α → Bool) : ∀ xs : List α, blsOf (xs.map fun x => D.bl (p x)) = some (xs.map p)
  | [] => rfl
  | x :: r => by
    simp only [List.map_cons, blsOf, blsOf_p p r, Option.map_some]
theorem all_bls {α : Type} (p : α → Bool) (xs : List α) {h : DH} {Q : VD} : fAll (fun bs => bs.all id) [.lst (xs.map fun x => D.bl (p x))] h Q = Q (.bl (xs.all p)) h := by
  have e : (List.map p xs).all id = xs.all p := by rw [List.all_map]; rfl
  unfold fAll
  simp only [lstOf, blsOf_p, e]
theorem any_bls {α : Type} (p : α → Bool) (xs : List α) {h : DH} {Q : VD} : fAll (fun bs => bs.any id) [.lst (xs.map fun x => D.bl (p x))] h Q = Q (.bl (xs.any p)) h := by
  have e : (List.map p xs).any id = xs.any p := by rw [List.any_map]; rfl
  unfold fAll
  simp only [lstOf, blsOf_p, e]
theorem fm_some {α β : Type} (f : α → β) (xs : List α) : xs.filterMap (fun x => some (f x)) = xs.map f := by rw [List.filterMap_eq_map']
def enumFrom : Nat → List D → List D
  | _, [] => []
  | i, x :: r => .tup [.int (i : Nat), x] :: enumFrom (i + 1) r
theorem enumL_from (xs : List D) : enumL xs = enumFrom 0 xs := by
  have key : ∀ (xs : List D) (i : Nat), (List.range' i xs.length).zipWith (fun i x => D.tup [.int (i : Nat), x]) xs = enumFrom i xs := by
    intro xs
    induction xs with
    | nil => intro i; rfl
    | cons x r ih =>
      intro i
      simp only [List.length_cons, List.range'_succ, List.zipWith_cons_cons, enumFrom]
      rw [ih]
  unfold enumL
  rw [List.range_eq_range']
  exact key xs 0
def mayD (may : List (List Int)) : D := .tup (may.map fun s => .tup (s.map .int))
/-- a book as a value -/
def bookD (posts : Int) (may : List (List Int)) : D := .obj "Book" ["posts", "may"] [.int posts, mayD may]
theorem ins_book {posts : Int} {may : List (List Int)} {h : DH} : insOf (bookD posts may) h = some ("Book", ["posts", "may"], [.int posts, mayD may]) := rfl
theorem fget_posts {a b : D} : fget ["posts", "may"] [a, b] "posts" = some a := rfl
theorem fget_may {a b : D} : fget ["posts", "may"] [a, b] "may" = some b := rfl
theorem mem_Book : ("Book" ∈ ["Book"]) = True := by simp
theorem it_tup {xs : List D} {h : DH} : itemsOf (.tup xs) h = some xs := rfl
theorem it_lst {xs : List D} {h : DH} : itemsOf (.lst xs) h = some xs := rfl
theorem it_scr {xs : List D} {h : DH} : itemsOf (.scr xs) h = some xs := rfl
theorem it_ref {n : Nat} {h : DH} : itemsOf (.ref n) h = (match h[n]? with | some (.lst xs) => some xs | _ => none) := rfl
theorem it_may {may : List (List Int)} {h : DH} : itemsOf (mayD may) h = some (may.map fun s => .tup (s.map .int)) := rfl
theorem it_int {i : Int} {h : DH} : itemsOf (.int i) h = none := rfl
theorem it_str {i : Str} {h : DH} : itemsOf (.str i) h = none := rfl
theorem lo_lst {xs : List D} {h : DH} : lstOf (.lst xs) h = some xs := rfl
theorem lo_tup {xs : List D} {h : DH} : lstOf (.tup xs) h = none := rfl
theorem lo_int {xs : Int} {h : DH} : lstOf (.int xs) h = none := rfl
theorem lo_ref {n : Nat} {h : DH} : lstOf (.ref n) h = (match h[n]? with | some (.lst xs) => some xs | _ => none) := rfl
theorem li_lst {xs : List D} {h : DH} : listOf (.lst xs) h = some xs := rfl
theorem li_scr {xs : List D} {h : DH} : listOf (.scr xs) h = some xs := rfl
theorem li_tup {xs : List D} {h : DH} : listOf (.tup xs) h = none := rfl
theorem li_ref {n : Nat} {h : DH} : listOf (.ref n) h = (match h[n]? with | some (.lst xs) => some xs | _ => none) := rfl
theorem enumFrom_zip : ∀ (xs : List D) (i : Nat), enumFrom i xs = (xs.zipIdx i).map fun p => .tup [.int (p.2 : Nat), p.1]
  | [], _ => rfl
  | x :: r, i => by rw [enumFrom, List.zipIdx_cons, List.map_cons, enumFrom_zip r (i + 1)]
theorem enumL_zip (xs : List D) : enumL xs = xs.zipIdx.map fun p => .tup [.int (p.2 : Nat), p.1] := by rw [enumL_from, enumFrom_zip]
def oI : Option Int → D
  | none => .non
  | some i => .int i
/-- a filling as a value -/
def filD (f : List (Option Int)) : D := .tup (f.map oI)
theorem it_fil {f : List (Option Int)} {h : DH} : itemsOf (filD f) h = some (f.map oI) := rfl
theorem atI_map {α : Type} {f : α → D} {xs : List α} {i : Int} {x : α} (h0 : 0 ≤ i) (e : xs[i.toNat]? = some x) : atI (xs.map f) i = some (f x) := atI_nat h0 (by rw [List.getElem?_map, e]; rfl)
theorem kn_int {i : Int} {h : DH} : Kn (.int i) h := .inl ⟨_, rfl⟩
theorem kn_bl {i : Bool} {h : DH} : Kn (.bl i) h := .inl ⟨_, rfl⟩
theorem kn_non {h : DH} : Kn .non h := .inl ⟨_, rfl⟩
theorem kn_str {i : Str} {h : DH} : Kn (.str i) h := .inl ⟨_, rfl⟩
theorem kn_tup {i : List D} {h : DH} : Kn (.tup i) h := .inl ⟨_, rfl⟩
theorem kn_lst {i : List D} {h : DH} : Kn (.lst i) h := .inl ⟨_, rfl⟩
theorem kn_oI {o : Option Int} {h : DH} : Kn (oI o) h := by cases o; exact kn_non; exact kn_int
theorem kn_book {a : Int} {b : List (List Int)} {h : DH} : Kn (bookD a b) h := .inr ⟨rfl, rfl⟩
theorem kn_ref {n : Nat} {xs : List D} {h : DH} (e : h[n]? = some (.lst xs)) : Kn (.ref n) h := .inl ⟨"list", by unfold tyB; simp only [e]⟩
theorem isNon_oI (o : Option Int) : isNon (oI o) = !o.isSome := by cases o <;> rfl
theorem isNon_non : isNon .non = true := rfl
theorem isNon_int {i : Int} : isNon (.int i) = false := rfl
theorem isNon_bl {i : Bool} : isNon (.bl i) = false := rfl
theorem isNon_str {i : Str} : isNon (.str i) = false := rfl
theorem isNon_ty {i : String} : isNon (.ty i) = false := rfl
theorem isNon_tup {i : List D} : isNon (.tup i) = false := rfl
theorem isNon_lst {i : List D} : isNon (.lst i) = false := rfl
theorem isNon_scr {i : List D} : isNon (.scr i) = false := rfl
theorem isNon_dic {a : List Key} {i : List D} : isNon (.dic a i) = false := rfl
theorem isNon_obj {c : String} {a : List String} {i : List D} : isNon (.obj c a i) = false := rfl
theorem isNon_ref {i : Nat} : isNon (.ref i) = false := rfl
theorem isNon_glb {i : String} : isNon (.glb i) = false := rfl
theorem isNon_exc {a : Addr} {b : Value} {c : Option Addr} {d : String} {e : List String} {f : List D} : isNon (.exc a b c d e f) = false := rfl
theorem isNon_book {a : Int} {b : List (List Int)} : isNon (bookD a b) = false := rfl
theorem put_nat {xs : List D} {i : Int} {d : D} {k : O → Prop} (h0 : 0 ≤ i) (h : i.toNat < xs.length) : put (.lst xs) (.int i) d k = k (.lst (xs.set i.toNat d)) := by
  unfold put
  simp only [ixN_nat h0 (show i < (xs.length : Int) by omega)]
theorem nrDs_oI {n : Nat} : ∀ f : List (Option Int), nrDs n (f.map oI) = true
  | [] => rfl
  | none :: r => by simp only [List.map_cons, oI, nrDs, nrD, Bool.true_and]; exact nrDs_oI r
  | some _ :: r => by simp only [List.map_cons, oI, nrDs, nrD, Bool.true_and]; exact nrDs_oI r
theorem nrD_fil {n : Nat} (f : List (Option Int)) : nrD n (filD f) = true := nrDs_oI f
theorem wf_take {h : DH} (w : WF h) {o : O} : ((h ++ [o]).take h.length).all (nrO h.length) = true := by
  rw [List.take_left]
  exact List.all_eq_true.mpr w
theorem set_last {h : DH} {o u : O} : (h ++ [o]).set h.length u = h ++ [u] := by simp
/-! the heap's end: own objects behind what stood -/
theorem ga {α : Type} {h0 t : List α} {L : Nat} (c : Nat) (e : h0.length = L) : (h0 ++ t)[L + c]? = t[c]? := by
  rw [List.getElem?_append_right (by omega)]
  congr 1
  omega
theorem ga0 {α : Type} {h0 t : List α} {L : Nat} (e : h0.length = L) : (h0 ++ t)[L]? = t[0]? := ga 0 e
theorem gl {α : Type} {h0 t : List α} {n : Nat} (h : n < h0.length) : (h0 ++ t)[n]? = h0[n]? := List.getElem?_append_left h
theorem sa {α : Type} {h0 t : List α} {L : Nat} {o : α} (c : Nat) (e : h0.length = L) : (h0 ++ t).set (L + c) o = h0 ++ t.set c o := by
  rw [List.set_append_right _ _ (by omega)]
  congr 2
  omega
theorem sa0 {α : Type} {h0 t : List α} {L : Nat} {o : α} (e : h0.length = L) : (h0 ++ t).set L o = h0 ++ t.set 0 o := sa 0 e
theorem nrDs_ints {n : Nat} : ∀ l : List Int, nrDs n (l.map D.int) = true
  | [] => rfl
  | i :: r => by simp only [List.map_cons, nrDs, nrD, Bool.true_and]; exact nrDs_ints r
theorem items_nr {d : D} {h : DH} {xs : List D} (w : WF h) (hd : nrD h.length d = true) (e : itemsOf d h = some xs) : nrDs h.length xs = true := by
  unfold itemsOf at e
  cases d with
  | tup ys => cases e; exact hd
  | lst ys => cases e; exact hd
  | scr ys => cases e; exact hd
  | ref n =>
    simp only at e
    cases e1 : h[n]? with
    | none => rw [e1] at e; cases e
    | some o =>
      rw [e1] at e
      have := w o (List.mem_of_getElem? e1)
      cases o <;> first | (cases e; exact this) | cases e
  | _ => cases e
theorem erase_perm {α : Type} {l : List α} {i : Nat} (h : i < l.length) : (l[i] :: l.eraseIdx i).Perm l := by
  have e : l.take i ++ l[i] :: l.drop (i + 1) = l := by rw [List.getElem_cons_drop h, List.take_append_drop]
  rw [List.eraseIdx_eq_take_drop_succ]
  refine List.Perm.trans (List.perm_middle.symm) ?_
  rw [e]
theorem lstOf_cases {x : D} {h : DH} {xs : List D} (e : lstOf x h = some xs) : x = .lst xs ∨ ∃ n, x = .ref n ∧ h[n]? = some (.lst xs) := by
  unfold lstOf at e
  cases x with
  | lst ys => cases e; exact .inl rfl
  | ref n =>
    simp only at e
    cases e1 : h[n]? with
    | none => rw [e1] at e; cases e
    | some o => rw [e1] at e; cases o <;> first | (cases e; exact .inr ⟨n, rfl, e1⟩) | cases e
  | _ => cases e
def fillsD (may : List (List Int)) (person : Nat) (post : D) : Bool := match post with
  | .non => true
  | .int i => decide (i ∈ may.getD person [])
  | _ => false
def isI (x : D) : Option Int := match x with
  | .int i => some i
  | _ => none
/-- whether a thing is a filling -/
def rightD (may : List (List Int)) (thing : D) : Bool := match thing with
  | .tup xs => decide (xs.length = may.length) && xs.zipIdx.all (fun p => fillsD may p.2 p.1) && decide (xs.filterMap isI).Nodup
  | _ => false
theorem mem_zipIdx0 {xs : List D} {p : D × Nat} (h : p ∈ xs.zipIdx) : xs[p.2]? = some p.1 := List.mem_zipIdx_iff_getElem?.mp h
/-- C(..) with these arguments -/
def mkK (c : String) (sp : SpD) (Q : VD) (E : ED) (ds : List D) (h1 : DH) : Prop := sp (.ref h1.length :: ds) (h1 ++ [.ins c [] []]) (fun d h2 => match d with
  | .non => match h2[h1.length]? with
    | some (.ins c' ns xs) => nrDs h1.length xs = true ∧ (h2.take h1.length).all (nrO h1.length) = true ∧ Q (.obj c' ns xs) (h2.take h1.length)
    | _ => False
  | _ => False) (popE h1.length E)
theorem eMkV_eq (c : String) (sp : SpD) (t : TAD) : eMkV c sp t = fun sd h Q E => t sd h (fun ds h1 => mkK c sp Q E ds h1) E := rfl

/-! is_integer -/
def t_is_integer : TSD :=
    (sRet (eAndV (eCall (fIsi ["Book"]) (eCons (eVar 0) (eCons (eC (.ty "int")) eNil))) (eNotV (eCall (fIsi ["Book"]) (eCons (eVar 0) (eCons (eC (.ty "bool")) eNil))))))
def isT (n : String) (x : D) (h : DH) : Bool := match tyB x h with
  | some t => tyIs t n
  | none => false
theorem isi_eq {x : D} {h : DH} {n : String} {Q : VD} (hk : Kn x h) (hn : n ∈ tyNs) : fIsi ["Book"] [x, .ty n] h Q = Q (.bl (isT n x h)) h := by
  unfold fIsi isT
  rcases hk with ⟨t, e⟩ | ⟨e, e2⟩
  · simp only [e, hn, true_and]
  · simp only [e, e2, hn, true_and]
    simp
def isInt : D → Bool
  | .int _ => true
  | _ => false
theorem isInt_eq {x : D} {h : DH} : (isT "int" x h && !isT "bool" x h) = isInt x := by
  unfold isT
  cases x with
  | ref n =>
    unfold tyB
    cases e : h[n]? with
    | none => simp only [e]; rfl
    | some o => cases o <;> simp only [e] <;> rfl
  | _ => first | rfl | (simp only [tyB]; rfl)
def sp_is_integer : SpD := fun ds h Q _ => ∃ x, ds = [x] ∧ Kn x h ∧ Q (.bl (isInt x)) h
theorem pl_is_integer (ds : List D) (h : DH) (Q : VD) (E : ED) (w : sp_is_integer ds h Q E) : bodyD 1 t_is_integer ds h Q E := by
  obtain ⟨x, rfl, hk, q⟩ := w
  unfold t_is_integer
  simp only [dEq_int, dNe_int, dEq_bl, dNe_bl, bodyD, startD, sNext, sBreak, sCont, sDrop, sRet, sRetN, sSet, sPar, sAsg, sSub, sFldD, iSeq, iCall, wEnum, wRange1, wRange2, wz_tup, eComp, eCompR, eComp2, eComp2R, gN, gT, gTcons, gTnil, tTst, tNotD, tAndD, tOrD, eNotV, eAndV, eOrV, eIf, eNil, eCons, eTup, eLst, eRef, eFrz, eCall, eFn, eMkV_eq, eMk, eFld, eSl, oNone, oSome, eOp2, eOp1, eChain, dAdd, dInt, dIntC, dIntB, dSub, dFdiv, dMod, dPow, dLt, dLe, dGt, dGe, dMul, dMulR, dMulT, dIs, dIx, isNon_oI, isNon_non, isNon_int, isNon_bl, isNon_str, isNon_ty, isNon_tup, isNon_lst, isNon_scr, isNon_dic, isNon_obj, isNon_ref, isNon_glb, isNon_exc, isNon_book, eVar, eC, fLen, fAbs, fInt, fMax2, fMin2, fIntsI, fSorted, fTuple, fList, fListR, eLenSet, eSortedSet, eTupRg, eLstRg, eRefRg, rg1, rg2, tYesD, sRaise, sRaiseF, eM, KD.E, wipeD, ins_book, fget_posts, fget_may, mem_Book, it_tup, it_lst, it_scr, it_ref, it_may, it_fil, it_int, it_str, lo_lst, lo_tup, lo_int, lo_ref, li_lst, li_scr, li_tup, li_ref, true_and, List.set_cons_zero, List.set_cons_succ, List.getElem?_cons_zero, List.getElem?_cons_succ, List.map_cons, List.map_nil, List.length_cons, List.length_nil, List.replicate_succ, List.replicate_zero, List.cons_append, List.nil_append, List.zip_cons_cons, List.zip_nil_left, List.foldl_cons, List.foldl_nil, Nat.reduceSub, Nat.reduceAdd, Nat.zero_add, brB_t, brB_f, Bool.not_true, Bool.not_false, if_true, if_false, Bool.false_eq_true, ↓reduceIte]
  rw [isi_eq hk (by decide)]
  have e := isInt_eq (x := x) (h := h)
  cases h1 : isT "int" x h with
  | false =>
    rw [h1] at e
    simp only [dEq_int, dNe_int, dEq_bl, dNe_bl, bodyD, startD, sNext, sBreak, sCont, sDrop, sRet, sRetN, sSet, sPar, sAsg, sSub, sFldD, iSeq, iCall, wEnum, wRange1, wRange2, wz_tup, eComp, eCompR, eComp2, eComp2R, gN, gT, gTcons, gTnil, tTst, tNotD, tAndD, tOrD, eNotV, eAndV, eOrV, eIf, eNil, eCons, eTup, eLst, eRef, eFrz, eCall, eFn, eMkV_eq, eMk, eFld, eSl, oNone, oSome, eOp2, eOp1, eChain, dAdd, dInt, dIntC, dIntB, dSub, dFdiv, dMod, dPow, dLt, dLe, dGt, dGe, dMul, dMulR, dMulT, dIs, dIx, isNon_oI, isNon_non, isNon_int, isNon_bl, isNon_str, isNon_ty, isNon_tup, isNon_lst, isNon_scr, isNon_dic, isNon_obj, isNon_ref, isNon_glb, isNon_exc, isNon_book, eVar, eC, fLen, fAbs, fInt, fMax2, fMin2, fIntsI, fSorted, fTuple, fList, fListR, eLenSet, eSortedSet, eTupRg, eLstRg, eRefRg, rg1, rg2, tYesD, sRaise, sRaiseF, eM, KD.E, wipeD, ins_book, fget_posts, fget_may, mem_Book, it_tup, it_lst, it_scr, it_ref, it_may, it_fil, it_int, it_str, lo_lst, lo_tup, lo_int, lo_ref, li_lst, li_scr, li_tup, li_ref, true_and, List.set_cons_zero, List.set_cons_succ, List.getElem?_cons_zero, List.getElem?_cons_succ, List.map_cons, List.map_nil, List.length_cons, List.length_nil, List.replicate_succ, List.replicate_zero, List.cons_append, List.nil_append, List.zip_cons_cons, List.zip_nil_left, List.foldl_cons, List.foldl_nil, Nat.reduceSub, Nat.reduceAdd, Nat.zero_add, brB_t, brB_f, Bool.not_true, Bool.not_false, if_true, if_false, Bool.false_eq_true, ↓reduceIte]
    rw [← e] at q
    exact q
  | true =>
    rw [h1] at e
    simp only [dEq_int, dNe_int, dEq_bl, dNe_bl, bodyD, startD, sNext, sBreak, sCont, sDrop, sRet, sRetN, sSet, sPar, sAsg, sSub, sFldD, iSeq, iCall, wEnum, wRange1, wRange2, wz_tup, eComp, eCompR, eComp2, eComp2R, gN, gT, gTcons, gTnil, tTst, tNotD, tAndD, tOrD, eNotV, eAndV, eOrV, eIf, eNil, eCons, eTup, eLst, eRef, eFrz, eCall, eFn, eMkV_eq, eMk, eFld, eSl, oNone, oSome, eOp2, eOp1, eChain, dAdd, dInt, dIntC, dIntB, dSub, dFdiv, dMod, dPow, dLt, dLe, dGt, dGe, dMul, dMulR, dMulT, dIs, dIx, isNon_oI, isNon_non, isNon_int, isNon_bl, isNon_str, isNon_ty, isNon_tup, isNon_lst, isNon_scr, isNon_dic, isNon_obj, isNon_ref, isNon_glb, isNon_exc, isNon_book, eVar, eC, fLen, fAbs, fInt, fMax2, fMin2, fIntsI, fSorted, fTuple, fList, fListR, eLenSet, eSortedSet, eTupRg, eLstRg, eRefRg, rg1, rg2, tYesD, sRaise, sRaiseF, eM, KD.E, wipeD, ins_book, fget_posts, fget_may, mem_Book, it_tup, it_lst, it_scr, it_ref, it_may, it_fil, it_int, it_str, lo_lst, lo_tup, lo_int, lo_ref, li_lst, li_scr, li_tup, li_ref, true_and, List.set_cons_zero, List.set_cons_succ, List.getElem?_cons_zero, List.getElem?_cons_succ, List.map_cons, List.map_nil, List.length_cons, List.length_nil, List.replicate_succ, List.replicate_zero, List.cons_append, List.nil_append, List.zip_cons_cons, List.zip_nil_left, List.foldl_cons, List.foldl_nil, Nat.reduceSub, Nat.reduceAdd, Nat.zero_add, brB_t, brB_f, Bool.not_true, Bool.not_false, if_true, if_false, Bool.false_eq_true, ↓reduceIte]
    rw [isi_eq hk (by decide)]
    simp only [dEq_int, dNe_int, dEq_bl, dNe_bl, bodyD, startD, sNext, sBreak, sCont, sDrop, sRet, sRetN, sSet, sPar, sAsg, sSub, sFldD, iSeq, iCall, wEnum, wRange1, wRange2, wz_tup, eComp, eCompR, eComp2, eComp2R, gN, gT, gTcons, gTnil, tTst, tNotD, tAndD, tOrD, eNotV, eAndV, eOrV, eIf, eNil, eCons, eTup, eLst, eRef, eFrz, eCall, eFn, eMkV_eq, eMk, eFld, eSl, oNone, oSome, eOp2, eOp1, eChain, dAdd, dInt, dIntC, dIntB, dSub, dFdiv, dMod, dPow, dLt, dLe, dGt, dGe, dMul, dMulR, dMulT, dIs, dIx, isNon_oI, isNon_non, isNon_int, isNon_bl, isNon_str, isNon_ty, isNon_tup, isNon_lst, isNon_scr, isNon_dic, isNon_obj, isNon_ref, isNon_glb, isNon_exc, isNon_book, eVar, eC, fLen, fAbs, fInt, fMax2, fMin2, fIntsI, fSorted, fTuple, fList, fListR, eLenSet, eSortedSet, eTupRg, eLstRg, eRefRg, rg1, rg2, tYesD, sRaise, sRaiseF, eM, KD.E, wipeD, ins_book, fget_posts, fget_may, mem_Book, it_tup, it_lst, it_scr, it_ref, it_may, it_fil, it_int, it_str, lo_lst, lo_tup, lo_int, lo_ref, li_lst, li_scr, li_tup, li_ref, true_and, List.set_cons_zero, List.set_cons_succ, List.getElem?_cons_zero, List.getElem?_cons_succ, List.map_cons, List.map_nil, List.length_cons, List.length_nil, List.replicate_succ, List.replicate_zero, List.cons_append, List.nil_append, List.zip_cons_cons, List.zip_nil_left, List.foldl_cons, List.foldl_nil, Nat.reduceSub, Nat.reduceAdd, Nat.zero_add, brB_t, brB_f, Bool.not_true, Bool.not_false, if_true, if_false, Bool.false_eq_true, ↓reduceIte]
    rw [← e] at q
    exact q
/-! is_within -/
def t_is_within : TSD :=
    (sRet (eAndV (eFn sp_is_integer (eCons (eVar 0) eNil)) (eChain dLe dLe (eVar 1) (eVar 0) (eVar 2))))
def wiD (x : D) (lo hi : Int) : Bool := match x with
  | .int i => decide (lo ≤ i) && decide (i ≤ hi)
  | _ => false
def sp_is_within : SpD := fun ds h Q _ => ∃ x lo hi, ds = [x, .int lo, .int hi] ∧ Kn x h ∧ Q (.bl (wiD x lo hi)) h
theorem pl_is_within (ds : List D) (h : DH) (Q : VD) (E : ED) (w : sp_is_within ds h Q E) : bodyD 3 t_is_within ds h Q E := by
  obtain ⟨x, lo, hi, rfl, hk, q⟩ := w
  unfold t_is_within
  simp only [dEq_int, dNe_int, dEq_bl, dNe_bl, bodyD, startD, sNext, sBreak, sCont, sDrop, sRet, sRetN, sSet, sPar, sAsg, sSub, sFldD, iSeq, iCall, wEnum, wRange1, wRange2, wz_tup, eComp, eCompR, eComp2, eComp2R, gN, gT, gTcons, gTnil, tTst, tNotD, tAndD, tOrD, eNotV, eAndV, eOrV, eIf, eNil, eCons, eTup, eLst, eRef, eFrz, eCall, eFn, eMkV_eq, eMk, eFld, eSl, oNone, oSome, eOp2, eOp1, eChain, dAdd, dInt, dIntC, dIntB, dSub, dFdiv, dMod, dPow, dLt, dLe, dGt, dGe, dMul, dMulR, dMulT, dIs, dIx, isNon_oI, isNon_non, isNon_int, isNon_bl, isNon_str, isNon_ty, isNon_tup, isNon_lst, isNon_scr, isNon_dic, isNon_obj, isNon_ref, isNon_glb, isNon_exc, isNon_book, eVar, eC, fLen, fAbs, fInt, fMax2, fMin2, fIntsI, fSorted, fTuple, fList, fListR, eLenSet, eSortedSet, eTupRg, eLstRg, eRefRg, rg1, rg2, tYesD, sRaise, sRaiseF, eM, KD.E, wipeD, ins_book, fget_posts, fget_may, mem_Book, it_tup, it_lst, it_scr, it_ref, it_may, it_fil, it_int, it_str, lo_lst, lo_tup, lo_int, lo_ref, li_lst, li_scr, li_tup, li_ref, true_and, List.set_cons_zero, List.set_cons_succ, List.getElem?_cons_zero, List.getElem?_cons_succ, List.map_cons, List.map_nil, List.length_cons, List.length_nil, List.replicate_succ, List.replicate_zero, List.cons_append, List.nil_append, List.zip_cons_cons, List.zip_nil_left, List.foldl_cons, List.foldl_nil, Nat.reduceSub, Nat.reduceAdd, Nat.zero_add, brB_t, brB_f, Bool.not_true, Bool.not_false, if_true, if_false, Bool.false_eq_true, ↓reduceIte]
  refine ⟨x, rfl, hk, ?_⟩
  cases x with
  | int i =>
    simp only [isInt, dEq_int, dNe_int, dEq_bl, dNe_bl, bodyD, startD, sNext, sBreak, sCont, sDrop, sRet, sRetN, sSet, sPar, sAsg, sSub, sFldD, iSeq, iCall, wEnum, wRange1, wRange2, wz_tup, eComp, eCompR, eComp2, eComp2R, gN, gT, gTcons, gTnil, tTst, tNotD, tAndD, tOrD, eNotV, eAndV, eOrV, eIf, eNil, eCons, eTup, eLst, eRef, eFrz, eCall, eFn, eMkV_eq, eMk, eFld, eSl, oNone, oSome, eOp2, eOp1, eChain, dAdd, dInt, dIntC, dIntB, dSub, dFdiv, dMod, dPow, dLt, dLe, dGt, dGe, dMul, dMulR, dMulT, dIs, dIx, isNon_oI, isNon_non, isNon_int, isNon_bl, isNon_str, isNon_ty, isNon_tup, isNon_lst, isNon_scr, isNon_dic, isNon_obj, isNon_ref, isNon_glb, isNon_exc, isNon_book, eVar, eC, fLen, fAbs, fInt, fMax2, fMin2, fIntsI, fSorted, fTuple, fList, fListR, eLenSet, eSortedSet, eTupRg, eLstRg, eRefRg, rg1, rg2, tYesD, sRaise, sRaiseF, eM, KD.E, wipeD, ins_book, fget_posts, fget_may, mem_Book, it_tup, it_lst, it_scr, it_ref, it_may, it_fil, it_int, it_str, lo_lst, lo_tup, lo_int, lo_ref, li_lst, li_scr, li_tup, li_ref, true_and, List.set_cons_zero, List.set_cons_succ, List.getElem?_cons_zero, List.getElem?_cons_succ, List.map_cons, List.map_nil, List.length_cons, List.length_nil, List.replicate_succ, List.replicate_zero, List.cons_append, List.nil_append, List.zip_cons_cons, List.zip_nil_left, List.foldl_cons, List.foldl_nil, Nat.reduceSub, Nat.reduceAdd, Nat.zero_add, brB_t, brB_f, Bool.not_true, Bool.not_false, if_true, if_false, Bool.false_eq_true, ↓reduceIte]
    have q' : Q (.bl (decide (lo ≤ i) && decide (i ≤ hi))) h := q
    cases hb : decide (lo ≤ i) with
    | false => rw [hb] at q'; exact q'
    | true => rw [hb] at q'; exact q'
  | _ => exact q
/-! is_rising -/
def t_is_rising : TSD :=
    (sSeq (sIf (tOrD (tNotD (tTst (eCall (fIsi ["Book"]) (eCons (eVar 0) (eCons (eC (.ty "tuple")) eNil))))) (tNotD (tTst (eCall (fAll fun bs => bs.all id) (eCons (eComp (iSeq (eVar 0)) (gN 2) tYesD (eFn sp_is_within (eCons (eVar 2) (eCons (eC (.int 0)) (eCons (eOp2 dSub (eVar 1) (eC (.int 1))) eNil)))) [2]) eNil))))) (sRet (eC (.bl false))) sNext)
    (sRet (eCall (fAll fun bs => bs.all id) (eCons (eComp (iCall wZip (eCons (eVar 0) (eCons (eSl (eVar 0) (oSome (eC (.int 1))) oNone) eNil))) (gT 2 (gTcons (gN 2) (gTcons (gN 3) gTnil))) tYesD (eOp2 dLt (eVar 2) (eVar 3)) [2, 3]) eNil))))
def strictB : List Int → Bool
  | a :: b :: r => decide (a < b) && strictB (b :: r)
  | _ => true
theorem strictB_iff : ∀ {l : List Int}, strictB l = true ↔ l.Pairwise (· < ·)
  | [] => by simp [strictB]
  | [a] => by simp [strictB]
  | a :: b :: r => by
    rw [strictB, Bool.and_eq_true, decide_eq_true_eq, strictB_iff (l := b :: r)]
    constructor
    · rintro ⟨h1, h2⟩
      refine List.pairwise_cons.mpr ⟨fun x hx => ?_, h2⟩
      rcases List.mem_cons.mp hx with rfl | hx
      · exact h1
      · exact Int.lt_trans h1 ((List.pairwise_cons.mp h2).1 x hx)
    · exact fun h => ⟨(List.pairwise_cons.mp h).1 b List.mem_cons_self, (List.pairwise_cons.mp h).2⟩
theorem strictB_zip : ∀ l : List Int, ((l.zip (l.drop 1)).all fun p => decide (p.1 < p.2)) = strictB l
  | [] => rfl
  | [a] => rfl
  | a :: b :: r => by
    have ih := strictB_zip (b :: r)
    simp only [List.drop_succ_cons, List.drop_zero, List.zip_cons_cons, List.all_cons] at ih ⊢
    rw [strictB, ← ih]
/-- whether a thing is an ascending tuple of ints below many -/
def risD (x : D) (many : Int) : Bool := match x with
  | .tup xs => match intsOf xs with
    | some ns => ns.all (fun i => wiD (.int i) 0 (many - 1)) && strictB ns
    | none => false
  | _ => false
theorem all_wi {xs : List D} {a b : Int} : xs.all (fun x => wiD x a b) = (match intsOf xs with | some ns => ns.all (fun i => wiD (.int i) a b) | none => false) := by
  induction xs with
  | nil => rfl
  | cons x r ih =>
    cases x with
    | int i =>
      simp only [intsOf, List.all_cons, ih]
      cases intsOf r with
      | none => simp
      | some ns => simp
    | _ => simp [intsOf, wiD]
def sp_is_rising : SpD := fun ds h Q _ => ∃ x many, ds = [x, .int many] ∧ Kn x h ∧ (∀ xs, x = .tup xs → ∀ y ∈ xs, Kn y h) ∧ Q (.bl (risD x many)) h
theorem pl_is_rising (ds : List D) (h : DH) (Q : VD) (E : ED) (w : sp_is_rising ds h Q E) : bodyD 4 t_is_rising ds h Q E := by
  obtain ⟨x, many, rfl, hk, hks, q⟩ := w
  unfold t_is_rising bodyD
  refine sSeq_i fun N hN => ?_
  refine sIf_i fun A B hA hB => ?_
  simp only [dEq_int, dNe_int, dEq_bl, dNe_bl, bodyD, startD, sNext, sBreak, sCont, sDrop, sRet, sRetN, sSet, sPar, sAsg, sSub, sFldD, iSeq, iCall, wEnum, wRange1, wRange2, wz_tup, eComp, eCompR, eComp2, eComp2R, gN, gT, gTcons, gTnil, tTst, tNotD, tAndD, tOrD, eNotV, eAndV, eOrV, eIf, eNil, eCons, eTup, eLst, eRef, eFrz, eCall, eFn, eMkV_eq, eMk, eFld, eSl, oNone, oSome, eOp2, eOp1, eChain, dAdd, dInt, dIntC, dIntB, dSub, dFdiv, dMod, dPow, dLt, dLe, dGt, dGe, dMul, dMulR, dMulT, dIs, dIx, isNon_oI, isNon_non, isNon_int, isNon_bl, isNon_str, isNon_ty, isNon_tup, isNon_lst, isNon_scr, isNon_dic, isNon_obj, isNon_ref, isNon_glb, isNon_exc, isNon_book, eVar, eC, fLen, fAbs, fInt, fMax2, fMin2, fIntsI, fSorted, fTuple, fList, fListR, eLenSet, eSortedSet, eTupRg, eLstRg, eRefRg, rg1, rg2, tYesD, sRaise, sRaiseF, eM, KD.E, wipeD, ins_book, fget_posts, fget_may, mem_Book, it_tup, it_lst, it_scr, it_ref, it_may, it_fil, it_int, it_str, lo_lst, lo_tup, lo_int, lo_ref, li_lst, li_scr, li_tup, li_ref, true_and, List.set_cons_zero, List.set_cons_succ, List.getElem?_cons_zero, List.getElem?_cons_succ, List.map_cons, List.map_nil, List.length_cons, List.length_nil, List.replicate_succ, List.replicate_zero, List.cons_append, List.nil_append, List.zip_cons_cons, List.zip_nil_left, List.foldl_cons, List.foldl_nil, Nat.reduceSub, Nat.reduceAdd, Nat.zero_add, brB_t, brB_f, Bool.not_true, Bool.not_false, if_true, if_false, Bool.false_eq_true, ↓reduceIte]
  rw [isi_eq hk (by decide)]
  simp only [dEq_int, dNe_int, dEq_bl, dNe_bl, bodyD, startD, sNext, sBreak, sCont, sDrop, sRet, sRetN, sSet, sPar, sAsg, sSub, sFldD, iSeq, iCall, wEnum, wRange1, wRange2, wz_tup, eComp, eCompR, eComp2, eComp2R, gN, gT, gTcons, gTnil, tTst, tNotD, tAndD, tOrD, eNotV, eAndV, eOrV, eIf, eNil, eCons, eTup, eLst, eRef, eFrz, eCall, eFn, eMkV_eq, eMk, eFld, eSl, oNone, oSome, eOp2, eOp1, eChain, dAdd, dInt, dIntC, dIntB, dSub, dFdiv, dMod, dPow, dLt, dLe, dGt, dGe, dMul, dMulR, dMulT, dIs, dIx, isNon_oI, isNon_non, isNon_int, isNon_bl, isNon_str, isNon_ty, isNon_tup, isNon_lst, isNon_scr, isNon_dic, isNon_obj, isNon_ref, isNon_glb, isNon_exc, isNon_book, eVar, eC, fLen, fAbs, fInt, fMax2, fMin2, fIntsI, fSorted, fTuple, fList, fListR, eLenSet, eSortedSet, eTupRg, eLstRg, eRefRg, rg1, rg2, tYesD, sRaise, sRaiseF, eM, KD.E, wipeD, ins_book, fget_posts, fget_may, mem_Book, it_tup, it_lst, it_scr, it_ref, it_may, it_fil, it_int, it_str, lo_lst, lo_tup, lo_int, lo_ref, li_lst, li_scr, li_tup, li_ref, true_and, List.set_cons_zero, List.set_cons_succ, List.getElem?_cons_zero, List.getElem?_cons_succ, List.map_cons, List.map_nil, List.length_cons, List.length_nil, List.replicate_succ, List.replicate_zero, List.cons_append, List.nil_append, List.zip_cons_cons, List.zip_nil_left, List.foldl_cons, List.foldl_nil, Nat.reduceSub, Nat.reduceAdd, Nat.zero_add, brB_t, brB_f, Bool.not_true, Bool.not_false, if_true, if_false, Bool.false_eq_true, ↓reduceIte]
  have hno : ∀ y, risD x many = y → y = false → A h := fun y e e2 => hA h (by
    simp only [dEq_int, dNe_int, dEq_bl, dNe_bl, bodyD, startD, sNext, sBreak, sCont, sDrop, sRet, sRetN, sSet, sPar, sAsg, sSub, sFldD, iSeq, iCall, wEnum, wRange1, wRange2, wz_tup, eComp, eCompR, eComp2, eComp2R, gN, gT, gTcons, gTnil, tTst, tNotD, tAndD, tOrD, eNotV, eAndV, eOrV, eIf, eNil, eCons, eTup, eLst, eRef, eFrz, eCall, eFn, eMkV_eq, eMk, eFld, eSl, oNone, oSome, eOp2, eOp1, eChain, dAdd, dInt, dIntC, dIntB, dSub, dFdiv, dMod, dPow, dLt, dLe, dGt, dGe, dMul, dMulR, dMulT, dIs, dIx, isNon_oI, isNon_non, isNon_int, isNon_bl, isNon_str, isNon_ty, isNon_tup, isNon_lst, isNon_scr, isNon_dic, isNon_obj, isNon_ref, isNon_glb, isNon_exc, isNon_book, eVar, eC, fLen, fAbs, fInt, fMax2, fMin2, fIntsI, fSorted, fTuple, fList, fListR, eLenSet, eSortedSet, eTupRg, eLstRg, eRefRg, rg1, rg2, tYesD, sRaise, sRaiseF, eM, KD.E, wipeD, ins_book, fget_posts, fget_may, mem_Book, it_tup, it_lst, it_scr, it_ref, it_may, it_fil, it_int, it_str, lo_lst, lo_tup, lo_int, lo_ref, li_lst, li_scr, li_tup, li_ref, true_and, List.set_cons_zero, List.set_cons_succ, List.getElem?_cons_zero, List.getElem?_cons_succ, List.map_cons, List.map_nil, List.length_cons, List.length_nil, List.replicate_succ, List.replicate_zero, List.cons_append, List.nil_append, List.zip_cons_cons, List.zip_nil_left, List.foldl_cons, List.foldl_nil, Nat.reduceSub, Nat.reduceAdd, Nat.zero_add, brB_t, brB_f, Bool.not_true, Bool.not_false, if_true, if_false, Bool.false_eq_true, ↓reduceIte]
    rw [e, e2] at q
    exact q)
  cases h1 : isT "tuple" x h with
  | false =>
    simp only [dEq_int, dNe_int, dEq_bl, dNe_bl, bodyD, startD, sNext, sBreak, sCont, sDrop, sRet, sRetN, sSet, sPar, sAsg, sSub, sFldD, iSeq, iCall, wEnum, wRange1, wRange2, wz_tup, eComp, eCompR, eComp2, eComp2R, gN, gT, gTcons, gTnil, tTst, tNotD, tAndD, tOrD, eNotV, eAndV, eOrV, eIf, eNil, eCons, eTup, eLst, eRef, eFrz, eCall, eFn, eMkV_eq, eMk, eFld, eSl, oNone, oSome, eOp2, eOp1, eChain, dAdd, dInt, dIntC, dIntB, dSub, dFdiv, dMod, dPow, dLt, dLe, dGt, dGe, dMul, dMulR, dMulT, dIs, dIx, isNon_oI, isNon_non, isNon_int, isNon_bl, isNon_str, isNon_ty, isNon_tup, isNon_lst, isNon_scr, isNon_dic, isNon_obj, isNon_ref, isNon_glb, isNon_exc, isNon_book, eVar, eC, fLen, fAbs, fInt, fMax2, fMin2, fIntsI, fSorted, fTuple, fList, fListR, eLenSet, eSortedSet, eTupRg, eLstRg, eRefRg, rg1, rg2, tYesD, sRaise, sRaiseF, eM, KD.E, wipeD, ins_book, fget_posts, fget_may, mem_Book, it_tup, it_lst, it_scr, it_ref, it_may, it_fil, it_int, it_str, lo_lst, lo_tup, lo_int, lo_ref, li_lst, li_scr, li_tup, li_ref, true_and, List.set_cons_zero, List.set_cons_succ, List.getElem?_cons_zero, List.getElem?_cons_succ, List.map_cons, List.map_nil, List.length_cons, List.length_nil, List.replicate_succ, List.replicate_zero, List.cons_append, List.nil_append, List.zip_cons_cons, List.zip_nil_left, List.foldl_cons, List.foldl_nil, Nat.reduceSub, Nat.reduceAdd, Nat.zero_add, brB_t, brB_f, Bool.not_true, Bool.not_false, if_true, if_false, Bool.false_eq_true, ↓reduceIte, Bool.not_false]
    refine hno _ rfl ?_
    cases x with
    | tup xs => cases h1
    | _ => rfl
  | true =>
    simp only [dEq_int, dNe_int, dEq_bl, dNe_bl, bodyD, startD, sNext, sBreak, sCont, sDrop, sRet, sRetN, sSet, sPar, sAsg, sSub, sFldD, iSeq, iCall, wEnum, wRange1, wRange2, wz_tup, eComp, eCompR, eComp2, eComp2R, gN, gT, gTcons, gTnil, tTst, tNotD, tAndD, tOrD, eNotV, eAndV, eOrV, eIf, eNil, eCons, eTup, eLst, eRef, eFrz, eCall, eFn, eMkV_eq, eMk, eFld, eSl, oNone, oSome, eOp2, eOp1, eChain, dAdd, dInt, dIntC, dIntB, dSub, dFdiv, dMod, dPow, dLt, dLe, dGt, dGe, dMul, dMulR, dMulT, dIs, dIx, isNon_oI, isNon_non, isNon_int, isNon_bl, isNon_str, isNon_ty, isNon_tup, isNon_lst, isNon_scr, isNon_dic, isNon_obj, isNon_ref, isNon_glb, isNon_exc, isNon_book, eVar, eC, fLen, fAbs, fInt, fMax2, fMin2, fIntsI, fSorted, fTuple, fList, fListR, eLenSet, eSortedSet, eTupRg, eLstRg, eRefRg, rg1, rg2, tYesD, sRaise, sRaiseF, eM, KD.E, wipeD, ins_book, fget_posts, fget_may, mem_Book, it_tup, it_lst, it_scr, it_ref, it_may, it_fil, it_int, it_str, lo_lst, lo_tup, lo_int, lo_ref, li_lst, li_scr, li_tup, li_ref, true_and, List.set_cons_zero, List.set_cons_succ, List.getElem?_cons_zero, List.getElem?_cons_succ, List.map_cons, List.map_nil, List.length_cons, List.length_nil, List.replicate_succ, List.replicate_zero, List.cons_append, List.nil_append, List.zip_cons_cons, List.zip_nil_left, List.foldl_cons, List.foldl_nil, Nat.reduceSub, Nat.reduceAdd, Nat.zero_add, brB_t, brB_f, Bool.not_true, Bool.not_false, if_true, if_false, Bool.false_eq_true, ↓reduceIte, Bool.not_true]
    obtain ⟨xs, rfl⟩ : ∃ xs, x = .tup xs := by
      unfold isT at h1
      cases x with
      | tup xs => exact ⟨xs, rfl⟩
      | ref n =>
        unfold tyB at h1
        cases e : h[n]? with
        | none => simp only [e] at h1; cases h1
        | some o => cases o <;> simp only [e] at h1 <;> cases h1
      | _ => first | (cases h1; done) | (simp only [tyB] at h1; cases h1)
    rw [← List.map_id xs]
    refine compL_map (α := D) id (fun x => some (.bl (wiD x 0 (many - 1)))) trivial ?_ ?_
    · rw [List.nil_append, fm_some]
      rw [all_bls]
      simp only [dEq_int, dNe_int, dEq_bl, dNe_bl, bodyD, startD, sNext, sBreak, sCont, sDrop, sRet, sRetN, sSet, sPar, sAsg, sSub, sFldD, iSeq, iCall, wEnum, wRange1, wRange2, wz_tup, eComp, eCompR, eComp2, eComp2R, gN, gT, gTcons, gTnil, tTst, tNotD, tAndD, tOrD, eNotV, eAndV, eOrV, eIf, eNil, eCons, eTup, eLst, eRef, eFrz, eCall, eFn, eMkV_eq, eMk, eFld, eSl, oNone, oSome, eOp2, eOp1, eChain, dAdd, dInt, dIntC, dIntB, dSub, dFdiv, dMod, dPow, dLt, dLe, dGt, dGe, dMul, dMulR, dMulT, dIs, dIx, isNon_oI, isNon_non, isNon_int, isNon_bl, isNon_str, isNon_ty, isNon_tup, isNon_lst, isNon_scr, isNon_dic, isNon_obj, isNon_ref, isNon_glb, isNon_exc, isNon_book, eVar, eC, fLen, fAbs, fInt, fMax2, fMin2, fIntsI, fSorted, fTuple, fList, fListR, eLenSet, eSortedSet, eTupRg, eLstRg, eRefRg, rg1, rg2, tYesD, sRaise, sRaiseF, eM, KD.E, wipeD, ins_book, fget_posts, fget_may, mem_Book, it_tup, it_lst, it_scr, it_ref, it_may, it_fil, it_int, it_str, lo_lst, lo_tup, lo_int, lo_ref, li_lst, li_scr, li_tup, li_ref, true_and, List.set_cons_zero, List.set_cons_succ, List.getElem?_cons_zero, List.getElem?_cons_succ, List.map_cons, List.map_nil, List.length_cons, List.length_nil, List.replicate_succ, List.replicate_zero, List.cons_append, List.nil_append, List.zip_cons_cons, List.zip_nil_left, List.foldl_cons, List.foldl_nil, Nat.reduceSub, Nat.reduceAdd, Nat.zero_add, brB_t, brB_f, Bool.not_true, Bool.not_false, if_true, if_false, Bool.false_eq_true, ↓reduceIte]
      rw [all_wi]
      unfold risD at q
      cases hi : intsOf xs with
      | none =>
        simp only [dEq_int, dNe_int, dEq_bl, dNe_bl, bodyD, startD, sNext, sBreak, sCont, sDrop, sRet, sRetN, sSet, sPar, sAsg, sSub, sFldD, iSeq, iCall, wEnum, wRange1, wRange2, wz_tup, eComp, eCompR, eComp2, eComp2R, gN, gT, gTcons, gTnil, tTst, tNotD, tAndD, tOrD, eNotV, eAndV, eOrV, eIf, eNil, eCons, eTup, eLst, eRef, eFrz, eCall, eFn, eMkV_eq, eMk, eFld, eSl, oNone, oSome, eOp2, eOp1, eChain, dAdd, dInt, dIntC, dIntB, dSub, dFdiv, dMod, dPow, dLt, dLe, dGt, dGe, dMul, dMulR, dMulT, dIs, dIx, isNon_oI, isNon_non, isNon_int, isNon_bl, isNon_str, isNon_ty, isNon_tup, isNon_lst, isNon_scr, isNon_dic, isNon_obj, isNon_ref, isNon_glb, isNon_exc, isNon_book, eVar, eC, fLen, fAbs, fInt, fMax2, fMin2, fIntsI, fSorted, fTuple, fList, fListR, eLenSet, eSortedSet, eTupRg, eLstRg, eRefRg, rg1, rg2, tYesD, sRaise, sRaiseF, eM, KD.E, wipeD, ins_book, fget_posts, fget_may, mem_Book, it_tup, it_lst, it_scr, it_ref, it_may, it_fil, it_int, it_str, lo_lst, lo_tup, lo_int, lo_ref, li_lst, li_scr, li_tup, li_ref, true_and, List.set_cons_zero, List.set_cons_succ, List.getElem?_cons_zero, List.getElem?_cons_succ, List.map_cons, List.map_nil, List.length_cons, List.length_nil, List.replicate_succ, List.replicate_zero, List.cons_append, List.nil_append, List.zip_cons_cons, List.zip_nil_left, List.foldl_cons, List.foldl_nil, Nat.reduceSub, Nat.reduceAdd, Nat.zero_add, brB_t, brB_f, Bool.not_true, Bool.not_false, if_true, if_false, Bool.false_eq_true, ↓reduceIte, Bool.not_false]
        refine hno _ rfl ?_
        simp only [risD, hi]
      | some ns =>
        simp only [hi] at q ⊢
        rcases Bool.eq_false_or_eq_true (ns.all (fun i => wiD (.int i) 0 (many - 1))) with ha | ha
        · rw [ha, Bool.true_and] at q
          simp only [ha, dEq_int, dNe_int, dEq_bl, dNe_bl, bodyD, startD, sNext, sBreak, sCont, sDrop, sRet, sRetN, sSet, sPar, sAsg, sSub, sFldD, iSeq, iCall, wEnum, wRange1, wRange2, wz_tup, eComp, eCompR, eComp2, eComp2R, gN, gT, gTcons, gTnil, tTst, tNotD, tAndD, tOrD, eNotV, eAndV, eOrV, eIf, eNil, eCons, eTup, eLst, eRef, eFrz, eCall, eFn, eMkV_eq, eMk, eFld, eSl, oNone, oSome, eOp2, eOp1, eChain, dAdd, dInt, dIntC, dIntB, dSub, dFdiv, dMod, dPow, dLt, dLe, dGt, dGe, dMul, dMulR, dMulT, dIs, dIx, isNon_oI, isNon_non, isNon_int, isNon_bl, isNon_str, isNon_ty, isNon_tup, isNon_lst, isNon_scr, isNon_dic, isNon_obj, isNon_ref, isNon_glb, isNon_exc, isNon_book, eVar, eC, fLen, fAbs, fInt, fMax2, fMin2, fIntsI, fSorted, fTuple, fList, fListR, eLenSet, eSortedSet, eTupRg, eLstRg, eRefRg, rg1, rg2, tYesD, sRaise, sRaiseF, eM, KD.E, wipeD, ins_book, fget_posts, fget_may, mem_Book, it_tup, it_lst, it_scr, it_ref, it_may, it_fil, it_int, it_str, lo_lst, lo_tup, lo_int, lo_ref, li_lst, li_scr, li_tup, li_ref, true_and, List.set_cons_zero, List.set_cons_succ, List.getElem?_cons_zero, List.getElem?_cons_succ, List.map_cons, List.map_nil, List.length_cons, List.length_nil, List.replicate_succ, List.replicate_zero, List.cons_append, List.nil_append, List.zip_cons_cons, List.zip_nil_left, List.foldl_cons, List.foldl_nil, Nat.reduceSub, Nat.reduceAdd, Nat.zero_add, brB_t, brB_f, Bool.not_true, Bool.not_false, if_true, if_false, Bool.false_eq_true, ↓reduceIte, Bool.not_true]
          refine hB h (hN _ _ ?_)
          have ex := intsOf_some hi
          subst ex
          simp only [dEq_int, dNe_int, dEq_bl, dNe_bl, bodyD, startD, sNext, sBreak, sCont, sDrop, sRet, sRetN, sSet, sPar, sAsg, sSub, sFldD, iSeq, iCall, wEnum, wRange1, wRange2, wz_tup, eComp, eCompR, eComp2, eComp2R, gN, gT, gTcons, gTnil, tTst, tNotD, tAndD, tOrD, eNotV, eAndV, eOrV, eIf, eNil, eCons, eTup, eLst, eRef, eFrz, eCall, eFn, eMkV_eq, eMk, eFld, eSl, oNone, oSome, eOp2, eOp1, eChain, dAdd, dInt, dIntC, dIntB, dSub, dFdiv, dMod, dPow, dLt, dLe, dGt, dGe, dMul, dMulR, dMulT, dIs, dIx, isNon_oI, isNon_non, isNon_int, isNon_bl, isNon_str, isNon_ty, isNon_tup, isNon_lst, isNon_scr, isNon_dic, isNon_obj, isNon_ref, isNon_glb, isNon_exc, isNon_book, eVar, eC, fLen, fAbs, fInt, fMax2, fMin2, fIntsI, fSorted, fTuple, fList, fListR, eLenSet, eSortedSet, eTupRg, eLstRg, eRefRg, rg1, rg2, tYesD, sRaise, sRaiseF, eM, KD.E, wipeD, ins_book, fget_posts, fget_may, mem_Book, it_tup, it_lst, it_scr, it_ref, it_may, it_fil, it_int, it_str, lo_lst, lo_tup, lo_int, lo_ref, li_lst, li_scr, li_tup, li_ref, true_and, List.set_cons_zero, List.set_cons_succ, List.getElem?_cons_zero, List.getElem?_cons_succ, List.map_cons, List.map_nil, List.length_cons, List.length_nil, List.replicate_succ, List.replicate_zero, List.cons_append, List.nil_append, List.zip_cons_cons, List.zip_nil_left, List.foldl_cons, List.foldl_nil, Nat.reduceSub, Nat.reduceAdd, Nat.zero_add, brB_t, brB_f, Bool.not_true, Bool.not_false, if_true, if_false, Bool.false_eq_true, ↓reduceIte]
          rw [show cutD (ns.map D.int) (some 1) none = (ns.drop 1).map D.int by rw [List.map_drop]; exact cutD_from _ 1, zipL_map]
          refine compL_map (α := Int × Int) _ (fun p => some (.bl (decide (p.1 < p.2)))) trivial ?_ ?_
          · rw [List.nil_append, fm_some, all_bls, strictB_zip]
            exact q
          · intro p _ N acc hN
            simp only [dEq_int, dNe_int, dEq_bl, dNe_bl, bodyD, startD, sNext, sBreak, sCont, sDrop, sRet, sRetN, sSet, sPar, sAsg, sSub, sFldD, iSeq, iCall, wEnum, wRange1, wRange2, wz_tup, eComp, eCompR, eComp2, eComp2R, gN, gT, gTcons, gTnil, tTst, tNotD, tAndD, tOrD, eNotV, eAndV, eOrV, eIf, eNil, eCons, eTup, eLst, eRef, eFrz, eCall, eFn, eMkV_eq, eMk, eFld, eSl, oNone, oSome, eOp2, eOp1, eChain, dAdd, dInt, dIntC, dIntB, dSub, dFdiv, dMod, dPow, dLt, dLe, dGt, dGe, dMul, dMulR, dMulT, dIs, dIx, isNon_oI, isNon_non, isNon_int, isNon_bl, isNon_str, isNon_ty, isNon_tup, isNon_lst, isNon_scr, isNon_dic, isNon_obj, isNon_ref, isNon_glb, isNon_exc, isNon_book, eVar, eC, fLen, fAbs, fInt, fMax2, fMin2, fIntsI, fSorted, fTuple, fList, fListR, eLenSet, eSortedSet, eTupRg, eLstRg, eRefRg, rg1, rg2, tYesD, sRaise, sRaiseF, eM, KD.E, wipeD, ins_book, fget_posts, fget_may, mem_Book, it_tup, it_lst, it_scr, it_ref, it_may, it_fil, it_int, it_str, lo_lst, lo_tup, lo_int, lo_ref, li_lst, li_scr, li_tup, li_ref, true_and, List.set_cons_zero, List.set_cons_succ, List.getElem?_cons_zero, List.getElem?_cons_succ, List.map_cons, List.map_nil, List.length_cons, List.length_nil, List.replicate_succ, List.replicate_zero, List.cons_append, List.nil_append, List.zip_cons_cons, List.zip_nil_left, List.foldl_cons, List.foldl_nil, Nat.reduceSub, Nat.reduceAdd, Nat.zero_add, brB_t, brB_f, Bool.not_true, Bool.not_false, if_true, if_false, Bool.false_eq_true, ↓reduceIte]
            exact hN
        · simp only [ha, dEq_int, dNe_int, dEq_bl, dNe_bl, bodyD, startD, sNext, sBreak, sCont, sDrop, sRet, sRetN, sSet, sPar, sAsg, sSub, sFldD, iSeq, iCall, wEnum, wRange1, wRange2, wz_tup, eComp, eCompR, eComp2, eComp2R, gN, gT, gTcons, gTnil, tTst, tNotD, tAndD, tOrD, eNotV, eAndV, eOrV, eIf, eNil, eCons, eTup, eLst, eRef, eFrz, eCall, eFn, eMkV_eq, eMk, eFld, eSl, oNone, oSome, eOp2, eOp1, eChain, dAdd, dInt, dIntC, dIntB, dSub, dFdiv, dMod, dPow, dLt, dLe, dGt, dGe, dMul, dMulR, dMulT, dIs, dIx, isNon_oI, isNon_non, isNon_int, isNon_bl, isNon_str, isNon_ty, isNon_tup, isNon_lst, isNon_scr, isNon_dic, isNon_obj, isNon_ref, isNon_glb, isNon_exc, isNon_book, eVar, eC, fLen, fAbs, fInt, fMax2, fMin2, fIntsI, fSorted, fTuple, fList, fListR, eLenSet, eSortedSet, eTupRg, eLstRg, eRefRg, rg1, rg2, tYesD, sRaise, sRaiseF, eM, KD.E, wipeD, ins_book, fget_posts, fget_may, mem_Book, it_tup, it_lst, it_scr, it_ref, it_may, it_fil, it_int, it_str, lo_lst, lo_tup, lo_int, lo_ref, li_lst, li_scr, li_tup, li_ref, true_and, List.set_cons_zero, List.set_cons_succ, List.getElem?_cons_zero, List.getElem?_cons_succ, List.map_cons, List.map_nil, List.length_cons, List.length_nil, List.replicate_succ, List.replicate_zero, List.cons_append, List.nil_append, List.zip_cons_cons, List.zip_nil_left, List.foldl_cons, List.foldl_nil, Nat.reduceSub, Nat.reduceAdd, Nat.zero_add, brB_t, brB_f, Bool.not_true, Bool.not_false, if_true, if_false, Bool.false_eq_true, ↓reduceIte, Bool.not_false]
          refine hno _ rfl ?_
          simp only [risD, hi, ha, Bool.false_and]
    · intro y hy N acc hN
      simp only [dEq_int, dNe_int, dEq_bl, dNe_bl, bodyD, startD, sNext, sBreak, sCont, sDrop, sRet, sRetN, sSet, sPar, sAsg, sSub, sFldD, iSeq, iCall, wEnum, wRange1, wRange2, wz_tup, eComp, eCompR, eComp2, eComp2R, gN, gT, gTcons, gTnil, tTst, tNotD, tAndD, tOrD, eNotV, eAndV, eOrV, eIf, eNil, eCons, eTup, eLst, eRef, eFrz, eCall, eFn, eMkV_eq, eMk, eFld, eSl, oNone, oSome, eOp2, eOp1, eChain, dAdd, dInt, dIntC, dIntB, dSub, dFdiv, dMod, dPow, dLt, dLe, dGt, dGe, dMul, dMulR, dMulT, dIs, dIx, isNon_oI, isNon_non, isNon_int, isNon_bl, isNon_str, isNon_ty, isNon_tup, isNon_lst, isNon_scr, isNon_dic, isNon_obj, isNon_ref, isNon_glb, isNon_exc, isNon_book, eVar, eC, fLen, fAbs, fInt, fMax2, fMin2, fIntsI, fSorted, fTuple, fList, fListR, eLenSet, eSortedSet, eTupRg, eLstRg, eRefRg, rg1, rg2, tYesD, sRaise, sRaiseF, eM, KD.E, wipeD, ins_book, fget_posts, fget_may, mem_Book, it_tup, it_lst, it_scr, it_ref, it_may, it_fil, it_int, it_str, lo_lst, lo_tup, lo_int, lo_ref, li_lst, li_scr, li_tup, li_ref, true_and, List.set_cons_zero, List.set_cons_succ, List.getElem?_cons_zero, List.getElem?_cons_succ, List.map_cons, List.map_nil, List.length_cons, List.length_nil, List.replicate_succ, List.replicate_zero, List.cons_append, List.nil_append, List.zip_cons_cons, List.zip_nil_left, List.foldl_cons, List.foldl_nil, Nat.reduceSub, Nat.reduceAdd, Nat.zero_add, brB_t, brB_f, Bool.not_true, Bool.not_false, if_true, if_false, Bool.false_eq_true, ↓reduceIte, id]
      exact ⟨_, _, _, rfl, hks xs rfl y hy, hN⟩
/-! init_Book -/
def t_init_Book : TSD :=
    (sSeq (sIf (tNotD (tTst (eFn sp_is_within (eCons (eVar 1) (eCons (eC (.int 0)) (eCons (eC (.int 12)) eNil)))))) (sRaiseF "BadBook" ["at", "what"] (eCons (eC (.str "posts")) (eCons (eC (.int (-1))) eNil))) sNext)
    (sSeq (sIf (tNotD (tTst (eCall (fIsi ["Book"]) (eCons (eVar 2) (eCons (eC (.ty "tuple")) eNil))))) (sRaiseF "BadBook" ["at", "what"] (eCons (eC (.str "may")) (eCons (eC (.int (-1))) eNil))) sNext)
    (sSeq (sFor (iCall wEnum (eCons (eVar 2) eNil)) (gT 2 (gTcons (gN 3) (gTcons (gN 4) gTnil))) (sIf (tOrD (tTst (eOp2 dGe (eVar 3) (eC (.int 12)))) (tNotD (tTst (eFn sp_is_rising (eCons (eVar 4) (eCons (eVar 1) eNil)))))) (sRaiseF "BadBook" ["at", "what"] (eCons (eC (.str "may")) (eCons (eVar 3) eNil))) sNext))
    (sSeq (sFldD ["Book"] "posts" (eVar 0) (eVar 1))
    (sFldD ["Book"] "may" (eVar 0) (eVar 2))))))
/-- the posts of the persons from the i-th on: which one is none -/
def mayFault (posts : Int) : Nat → List D → Option Nat
  | _, [] => none
  | i, s :: r => if 12 ≤ i || !risD s posts then some i else mayFault posts (i + 1) r
/-- what BadBook tells -/
def bookFault (posts may : D) : Option (Str × Int) := match posts with
  | .int p => if wiD posts 0 12 = true then (match may with
    | .tup ms => (mayFault p 0 ms).map fun i => (("may" : Str), ((i : Nat) : Int))
    | _ => some (("may" : Str), (-1 : Int))) else some (("posts" : Str), (-1 : Int))
  | _ => some (("posts" : Str), (-1 : Int))
def sp_init_Book : SpD := fun ds h Q E => ∃ n posts may, ds = [.ref n, posts, may] ∧ h[n]? = some (.ins "Book" [] []) ∧ Kn posts h ∧ Kn may h ∧ (∀ ms, may = .tup ms → ∀ s ∈ ms, Kn s h ∧ ∀ xs, s = .tup xs → ∀ y ∈ xs, Kn y h) ∧
  (match bookFault posts may with
    | none => Q .non (h.set n (.ins "Book" ["posts", "may"] [posts, may]))
    | some (w, a) => E "BadBook" ["at", "what"] [.int a, .str w] h)
theorem isT_tup {x : D} {h : DH} : isT "tuple" x h = (match x with | .tup _ => true | _ => false) := by
  unfold isT
  cases x with
  | ref n =>
    unfold tyB
    cases e : h[n]? with
    | none => simp only [e]
    | some o => cases o <;> simp only [e] <;> rfl
  | _ => first | rfl | (simp only [tyB]; rfl)
theorem pl_init_Book (ds : List D) (h : DH) (Q : VD) (E : ED) (w : sp_init_Book ds h Q E) : bodyD 5 t_init_Book ds h Q E := by
  obtain ⟨n, posts, may, rfl, hn, hp, hm, hms, q⟩ := w
  unfold t_init_Book bodyD
  refine sSeq_i fun N hN => ?_
  refine sIf_i fun A B hA hB => ?_
  simp only [dEq_int, dNe_int, dEq_bl, dNe_bl, bodyD, startD, sNext, sBreak, sCont, sDrop, sRet, sRetN, sSet, sPar, sAsg, sSub, sFldD, iSeq, iCall, wEnum, wRange1, wRange2, wz_tup, eComp, eCompR, eComp2, eComp2R, gN, gT, gTcons, gTnil, tTst, tNotD, tAndD, tOrD, eNotV, eAndV, eOrV, eIf, eNil, eCons, eTup, eLst, eRef, eFrz, eCall, eFn, eMkV_eq, eMk, eFld, eSl, oNone, oSome, eOp2, eOp1, eChain, dAdd, dInt, dIntC, dIntB, dSub, dFdiv, dMod, dPow, dLt, dLe, dGt, dGe, dMul, dMulR, dMulT, dIs, dIx, isNon_oI, isNon_non, isNon_int, isNon_bl, isNon_str, isNon_ty, isNon_tup, isNon_lst, isNon_scr, isNon_dic, isNon_obj, isNon_ref, isNon_glb, isNon_exc, isNon_book, eVar, eC, fLen, fAbs, fInt, fMax2, fMin2, fIntsI, fSorted, fTuple, fList, fListR, eLenSet, eSortedSet, eTupRg, eLstRg, eRefRg, rg1, rg2, tYesD, sRaise, sRaiseF, eM, KD.E, wipeD, ins_book, fget_posts, fget_may, mem_Book, it_tup, it_lst, it_scr, it_ref, it_may, it_fil, it_int, it_str, lo_lst, lo_tup, lo_int, lo_ref, li_lst, li_scr, li_tup, li_ref, true_and, List.set_cons_zero, List.set_cons_succ, List.getElem?_cons_zero, List.getElem?_cons_succ, List.map_cons, List.map_nil, List.length_cons, List.length_nil, List.replicate_succ, List.replicate_zero, List.cons_append, List.nil_append, List.zip_cons_cons, List.zip_nil_left, List.foldl_cons, List.foldl_nil, Nat.reduceSub, Nat.reduceAdd, Nat.zero_add, brB_t, brB_f, Bool.not_true, Bool.not_false, if_true, if_false, Bool.false_eq_true, ↓reduceIte]
  refine ⟨posts, 0, 12, rfl, hp, ?_⟩
  simp only [dEq_int, dNe_int, dEq_bl, dNe_bl, bodyD, startD, sNext, sBreak, sCont, sDrop, sRet, sRetN, sSet, sPar, sAsg, sSub, sFldD, iSeq, iCall, wEnum, wRange1, wRange2, wz_tup, eComp, eCompR, eComp2, eComp2R, gN, gT, gTcons, gTnil, tTst, tNotD, tAndD, tOrD, eNotV, eAndV, eOrV, eIf, eNil, eCons, eTup, eLst, eRef, eFrz, eCall, eFn, eMkV_eq, eMk, eFld, eSl, oNone, oSome, eOp2, eOp1, eChain, dAdd, dInt, dIntC, dIntB, dSub, dFdiv, dMod, dPow, dLt, dLe, dGt, dGe, dMul, dMulR, dMulT, dIs, dIx, isNon_oI, isNon_non, isNon_int, isNon_bl, isNon_str, isNon_ty, isNon_tup, isNon_lst, isNon_scr, isNon_dic, isNon_obj, isNon_ref, isNon_glb, isNon_exc, isNon_book, eVar, eC, fLen, fAbs, fInt, fMax2, fMin2, fIntsI, fSorted, fTuple, fList, fListR, eLenSet, eSortedSet, eTupRg, eLstRg, eRefRg, rg1, rg2, tYesD, sRaise, sRaiseF, eM, KD.E, wipeD, ins_book, fget_posts, fget_may, mem_Book, it_tup, it_lst, it_scr, it_ref, it_may, it_fil, it_int, it_str, lo_lst, lo_tup, lo_int, lo_ref, li_lst, li_scr, li_tup, li_ref, true_and, List.set_cons_zero, List.set_cons_succ, List.getElem?_cons_zero, List.getElem?_cons_succ, List.map_cons, List.map_nil, List.length_cons, List.length_nil, List.replicate_succ, List.replicate_zero, List.cons_append, List.nil_append, List.zip_cons_cons, List.zip_nil_left, List.foldl_cons, List.foldl_nil, Nat.reduceSub, Nat.reduceAdd, Nat.zero_add, brB_t, brB_f, Bool.not_true, Bool.not_false, if_true, if_false, Bool.false_eq_true, ↓reduceIte]
  cases h1 : wiD posts 0 12 with
  | false =>
    simp only [dEq_int, dNe_int, dEq_bl, dNe_bl, bodyD, startD, sNext, sBreak, sCont, sDrop, sRet, sRetN, sSet, sPar, sAsg, sSub, sFldD, iSeq, iCall, wEnum, wRange1, wRange2, wz_tup, eComp, eCompR, eComp2, eComp2R, gN, gT, gTcons, gTnil, tTst, tNotD, tAndD, tOrD, eNotV, eAndV, eOrV, eIf, eNil, eCons, eTup, eLst, eRef, eFrz, eCall, eFn, eMkV_eq, eMk, eFld, eSl, oNone, oSome, eOp2, eOp1, eChain, dAdd, dInt, dIntC, dIntB, dSub, dFdiv, dMod, dPow, dLt, dLe, dGt, dGe, dMul, dMulR, dMulT, dIs, dIx, isNon_oI, isNon_non, isNon_int, isNon_bl, isNon_str, isNon_ty, isNon_tup, isNon_lst, isNon_scr, isNon_dic, isNon_obj, isNon_ref, isNon_glb, isNon_exc, isNon_book, eVar, eC, fLen, fAbs, fInt, fMax2, fMin2, fIntsI, fSorted, fTuple, fList, fListR, eLenSet, eSortedSet, eTupRg, eLstRg, eRefRg, rg1, rg2, tYesD, sRaise, sRaiseF, eM, KD.E, wipeD, ins_book, fget_posts, fget_may, mem_Book, it_tup, it_lst, it_scr, it_ref, it_may, it_fil, it_int, it_str, lo_lst, lo_tup, lo_int, lo_ref, li_lst, li_scr, li_tup, li_ref, true_and, List.set_cons_zero, List.set_cons_succ, List.getElem?_cons_zero, List.getElem?_cons_succ, List.map_cons, List.map_nil, List.length_cons, List.length_nil, List.replicate_succ, List.replicate_zero, List.cons_append, List.nil_append, List.zip_cons_cons, List.zip_nil_left, List.foldl_cons, List.foldl_nil, Nat.reduceSub, Nat.reduceAdd, Nat.zero_add, brB_t, brB_f, Bool.not_true, Bool.not_false, if_true, if_false, Bool.false_eq_true, ↓reduceIte, Bool.not_false]
    refine hA h ?_
    simp only [dEq_int, dNe_int, dEq_bl, dNe_bl, bodyD, startD, sNext, sBreak, sCont, sDrop, sRet, sRetN, sSet, sPar, sAsg, sSub, sFldD, iSeq, iCall, wEnum, wRange1, wRange2, wz_tup, eComp, eCompR, eComp2, eComp2R, gN, gT, gTcons, gTnil, tTst, tNotD, tAndD, tOrD, eNotV, eAndV, eOrV, eIf, eNil, eCons, eTup, eLst, eRef, eFrz, eCall, eFn, eMkV_eq, eMk, eFld, eSl, oNone, oSome, eOp2, eOp1, eChain, dAdd, dInt, dIntC, dIntB, dSub, dFdiv, dMod, dPow, dLt, dLe, dGt, dGe, dMul, dMulR, dMulT, dIs, dIx, isNon_oI, isNon_non, isNon_int, isNon_bl, isNon_str, isNon_ty, isNon_tup, isNon_lst, isNon_scr, isNon_dic, isNon_obj, isNon_ref, isNon_glb, isNon_exc, isNon_book, eVar, eC, fLen, fAbs, fInt, fMax2, fMin2, fIntsI, fSorted, fTuple, fList, fListR, eLenSet, eSortedSet, eTupRg, eLstRg, eRefRg, rg1, rg2, tYesD, sRaise, sRaiseF, eM, KD.E, wipeD, ins_book, fget_posts, fget_may, mem_Book, it_tup, it_lst, it_scr, it_ref, it_may, it_fil, it_int, it_str, lo_lst, lo_tup, lo_int, lo_ref, li_lst, li_scr, li_tup, li_ref, true_and, List.set_cons_zero, List.set_cons_succ, List.getElem?_cons_zero, List.getElem?_cons_succ, List.map_cons, List.map_nil, List.length_cons, List.length_nil, List.replicate_succ, List.replicate_zero, List.cons_append, List.nil_append, List.zip_cons_cons, List.zip_nil_left, List.foldl_cons, List.foldl_nil, Nat.reduceSub, Nat.reduceAdd, Nat.zero_add, brB_t, brB_f, Bool.not_true, Bool.not_false, if_true, if_false, Bool.false_eq_true, ↓reduceIte]
    have e : bookFault posts may = some (("posts" : Str), (-1 : Int)) := by
      unfold bookFault
      cases posts <;> first | rfl | simp only [h1, dEq_int, dNe_int, dEq_bl, dNe_bl, bodyD, startD, sNext, sBreak, sCont, sDrop, sRet, sRetN, sSet, sPar, sAsg, sSub, sFldD, iSeq, iCall, wEnum, wRange1, wRange2, wz_tup, eComp, eCompR, eComp2, eComp2R, gN, gT, gTcons, gTnil, tTst, tNotD, tAndD, tOrD, eNotV, eAndV, eOrV, eIf, eNil, eCons, eTup, eLst, eRef, eFrz, eCall, eFn, eMkV_eq, eMk, eFld, eSl, oNone, oSome, eOp2, eOp1, eChain, dAdd, dInt, dIntC, dIntB, dSub, dFdiv, dMod, dPow, dLt, dLe, dGt, dGe, dMul, dMulR, dMulT, dIs, dIx, isNon_oI, isNon_non, isNon_int, isNon_bl, isNon_str, isNon_ty, isNon_tup, isNon_lst, isNon_scr, isNon_dic, isNon_obj, isNon_ref, isNon_glb, isNon_exc, isNon_book, eVar, eC, fLen, fAbs, fInt, fMax2, fMin2, fIntsI, fSorted, fTuple, fList, fListR, eLenSet, eSortedSet, eTupRg, eLstRg, eRefRg, rg1, rg2, tYesD, sRaise, sRaiseF, eM, KD.E, wipeD, ins_book, fget_posts, fget_may, mem_Book, it_tup, it_lst, it_scr, it_ref, it_may, it_fil, it_int, it_str, lo_lst, lo_tup, lo_int, lo_ref, li_lst, li_scr, li_tup, li_ref, true_and, List.set_cons_zero, List.set_cons_succ, List.getElem?_cons_zero, List.getElem?_cons_succ, List.map_cons, List.map_nil, List.length_cons, List.length_nil, List.replicate_succ, List.replicate_zero, List.cons_append, List.nil_append, List.zip_cons_cons, List.zip_nil_left, List.foldl_cons, List.foldl_nil, Nat.reduceSub, Nat.reduceAdd, Nat.zero_add, brB_t, brB_f, Bool.not_true, Bool.not_false, if_true, if_false, Bool.false_eq_true, ↓reduceIte]
    rw [e] at q
    exact q
  | true =>
    obtain ⟨p, rfl⟩ : ∃ p, posts = .int p := by
      cases posts with
      | int p => exact ⟨p, rfl⟩
      | _ => cases h1
    simp only [dEq_int, dNe_int, dEq_bl, dNe_bl, bodyD, startD, sNext, sBreak, sCont, sDrop, sRet, sRetN, sSet, sPar, sAsg, sSub, sFldD, iSeq, iCall, wEnum, wRange1, wRange2, wz_tup, eComp, eCompR, eComp2, eComp2R, gN, gT, gTcons, gTnil, tTst, tNotD, tAndD, tOrD, eNotV, eAndV, eOrV, eIf, eNil, eCons, eTup, eLst, eRef, eFrz, eCall, eFn, eMkV_eq, eMk, eFld, eSl, oNone, oSome, eOp2, eOp1, eChain, dAdd, dInt, dIntC, dIntB, dSub, dFdiv, dMod, dPow, dLt, dLe, dGt, dGe, dMul, dMulR, dMulT, dIs, dIx, isNon_oI, isNon_non, isNon_int, isNon_bl, isNon_str, isNon_ty, isNon_tup, isNon_lst, isNon_scr, isNon_dic, isNon_obj, isNon_ref, isNon_glb, isNon_exc, isNon_book, eVar, eC, fLen, fAbs, fInt, fMax2, fMin2, fIntsI, fSorted, fTuple, fList, fListR, eLenSet, eSortedSet, eTupRg, eLstRg, eRefRg, rg1, rg2, tYesD, sRaise, sRaiseF, eM, KD.E, wipeD, ins_book, fget_posts, fget_may, mem_Book, it_tup, it_lst, it_scr, it_ref, it_may, it_fil, it_int, it_str, lo_lst, lo_tup, lo_int, lo_ref, li_lst, li_scr, li_tup, li_ref, true_and, List.set_cons_zero, List.set_cons_succ, List.getElem?_cons_zero, List.getElem?_cons_succ, List.map_cons, List.map_nil, List.length_cons, List.length_nil, List.replicate_succ, List.replicate_zero, List.cons_append, List.nil_append, List.zip_cons_cons, List.zip_nil_left, List.foldl_cons, List.foldl_nil, Nat.reduceSub, Nat.reduceAdd, Nat.zero_add, brB_t, brB_f, Bool.not_true, Bool.not_false, if_true, if_false, Bool.false_eq_true, ↓reduceIte, Bool.not_true]
    refine hB h (hN _ _ ?_)
    unfold bookFault at q
    simp only [h1, if_true] at q
    refine sSeq_i fun N2 hN2 => ?_
    refine sIf_i fun A2 B2 hA2 hB2 => ?_
    simp only [dEq_int, dNe_int, dEq_bl, dNe_bl, bodyD, startD, sNext, sBreak, sCont, sDrop, sRet, sRetN, sSet, sPar, sAsg, sSub, sFldD, iSeq, iCall, wEnum, wRange1, wRange2, wz_tup, eComp, eCompR, eComp2, eComp2R, gN, gT, gTcons, gTnil, tTst, tNotD, tAndD, tOrD, eNotV, eAndV, eOrV, eIf, eNil, eCons, eTup, eLst, eRef, eFrz, eCall, eFn, eMkV_eq, eMk, eFld, eSl, oNone, oSome, eOp2, eOp1, eChain, dAdd, dInt, dIntC, dIntB, dSub, dFdiv, dMod, dPow, dLt, dLe, dGt, dGe, dMul, dMulR, dMulT, dIs, dIx, isNon_oI, isNon_non, isNon_int, isNon_bl, isNon_str, isNon_ty, isNon_tup, isNon_lst, isNon_scr, isNon_dic, isNon_obj, isNon_ref, isNon_glb, isNon_exc, isNon_book, eVar, eC, fLen, fAbs, fInt, fMax2, fMin2, fIntsI, fSorted, fTuple, fList, fListR, eLenSet, eSortedSet, eTupRg, eLstRg, eRefRg, rg1, rg2, tYesD, sRaise, sRaiseF, eM, KD.E, wipeD, ins_book, fget_posts, fget_may, mem_Book, it_tup, it_lst, it_scr, it_ref, it_may, it_fil, it_int, it_str, lo_lst, lo_tup, lo_int, lo_ref, li_lst, li_scr, li_tup, li_ref, true_and, List.set_cons_zero, List.set_cons_succ, List.getElem?_cons_zero, List.getElem?_cons_succ, List.map_cons, List.map_nil, List.length_cons, List.length_nil, List.replicate_succ, List.replicate_zero, List.cons_append, List.nil_append, List.zip_cons_cons, List.zip_nil_left, List.foldl_cons, List.foldl_nil, Nat.reduceSub, Nat.reduceAdd, Nat.zero_add, brB_t, brB_f, Bool.not_true, Bool.not_false, if_true, if_false, Bool.false_eq_true, ↓reduceIte]
    rw [isi_eq hm (by decide), isT_tup]
    have no : (∀ ms, may ≠ .tup ms) → A2 h := fun hh => by
      refine hA2 h ?_
      simp only [dEq_int, dNe_int, dEq_bl, dNe_bl, bodyD, startD, sNext, sBreak, sCont, sDrop, sRet, sRetN, sSet, sPar, sAsg, sSub, sFldD, iSeq, iCall, wEnum, wRange1, wRange2, wz_tup, eComp, eCompR, eComp2, eComp2R, gN, gT, gTcons, gTnil, tTst, tNotD, tAndD, tOrD, eNotV, eAndV, eOrV, eIf, eNil, eCons, eTup, eLst, eRef, eFrz, eCall, eFn, eMkV_eq, eMk, eFld, eSl, oNone, oSome, eOp2, eOp1, eChain, dAdd, dInt, dIntC, dIntB, dSub, dFdiv, dMod, dPow, dLt, dLe, dGt, dGe, dMul, dMulR, dMulT, dIs, dIx, isNon_oI, isNon_non, isNon_int, isNon_bl, isNon_str, isNon_ty, isNon_tup, isNon_lst, isNon_scr, isNon_dic, isNon_obj, isNon_ref, isNon_glb, isNon_exc, isNon_book, eVar, eC, fLen, fAbs, fInt, fMax2, fMin2, fIntsI, fSorted, fTuple, fList, fListR, eLenSet, eSortedSet, eTupRg, eLstRg, eRefRg, rg1, rg2, tYesD, sRaise, sRaiseF, eM, KD.E, wipeD, ins_book, fget_posts, fget_may, mem_Book, it_tup, it_lst, it_scr, it_ref, it_may, it_fil, it_int, it_str, lo_lst, lo_tup, lo_int, lo_ref, li_lst, li_scr, li_tup, li_ref, true_and, List.set_cons_zero, List.set_cons_succ, List.getElem?_cons_zero, List.getElem?_cons_succ, List.map_cons, List.map_nil, List.length_cons, List.length_nil, List.replicate_succ, List.replicate_zero, List.cons_append, List.nil_append, List.zip_cons_cons, List.zip_nil_left, List.foldl_cons, List.foldl_nil, Nat.reduceSub, Nat.reduceAdd, Nat.zero_add, brB_t, brB_f, Bool.not_true, Bool.not_false, if_true, if_false, Bool.false_eq_true, ↓reduceIte]
      cases may with
      | tup ms => exact absurd rfl (hh ms)
      | _ => exact q
    cases may with
    | tup ms =>
      simp only [dEq_int, dNe_int, dEq_bl, dNe_bl, bodyD, startD, sNext, sBreak, sCont, sDrop, sRet, sRetN, sSet, sPar, sAsg, sSub, sFldD, iSeq, iCall, wEnum, wRange1, wRange2, wz_tup, eComp, eCompR, eComp2, eComp2R, gN, gT, gTcons, gTnil, tTst, tNotD, tAndD, tOrD, eNotV, eAndV, eOrV, eIf, eNil, eCons, eTup, eLst, eRef, eFrz, eCall, eFn, eMkV_eq, eMk, eFld, eSl, oNone, oSome, eOp2, eOp1, eChain, dAdd, dInt, dIntC, dIntB, dSub, dFdiv, dMod, dPow, dLt, dLe, dGt, dGe, dMul, dMulR, dMulT, dIs, dIx, isNon_oI, isNon_non, isNon_int, isNon_bl, isNon_str, isNon_ty, isNon_tup, isNon_lst, isNon_scr, isNon_dic, isNon_obj, isNon_ref, isNon_glb, isNon_exc, isNon_book, eVar, eC, fLen, fAbs, fInt, fMax2, fMin2, fIntsI, fSorted, fTuple, fList, fListR, eLenSet, eSortedSet, eTupRg, eLstRg, eRefRg, rg1, rg2, tYesD, sRaise, sRaiseF, eM, KD.E, wipeD, ins_book, fget_posts, fget_may, mem_Book, it_tup, it_lst, it_scr, it_ref, it_may, it_fil, it_int, it_str, lo_lst, lo_tup, lo_int, lo_ref, li_lst, li_scr, li_tup, li_ref, true_and, List.set_cons_zero, List.set_cons_succ, List.getElem?_cons_zero, List.getElem?_cons_succ, List.map_cons, List.map_nil, List.length_cons, List.length_nil, List.replicate_succ, List.replicate_zero, List.cons_append, List.nil_append, List.zip_cons_cons, List.zip_nil_left, List.foldl_cons, List.foldl_nil, Nat.reduceSub, Nat.reduceAdd, Nat.zero_add, brB_t, brB_f, Bool.not_true, Bool.not_false, if_true, if_false, Bool.false_eq_true, ↓reduceIte, Bool.not_true]
      refine hB2 h (hN2 _ _ ?_)
      refine sSeq_i fun N3 hN3 => ?_
      refine sFor_i fun L hL => ?_
      simp only [dEq_int, dNe_int, dEq_bl, dNe_bl, bodyD, startD, sNext, sBreak, sCont, sDrop, sRet, sRetN, sSet, sPar, sAsg, sSub, sFldD, iSeq, iCall, wEnum, wRange1, wRange2, wz_tup, eComp, eCompR, eComp2, eComp2R, gN, gT, gTcons, gTnil, tTst, tNotD, tAndD, tOrD, eNotV, eAndV, eOrV, eIf, eNil, eCons, eTup, eLst, eRef, eFrz, eCall, eFn, eMkV_eq, eMk, eFld, eSl, oNone, oSome, eOp2, eOp1, eChain, dAdd, dInt, dIntC, dIntB, dSub, dFdiv, dMod, dPow, dLt, dLe, dGt, dGe, dMul, dMulR, dMulT, dIs, dIx, isNon_oI, isNon_non, isNon_int, isNon_bl, isNon_str, isNon_ty, isNon_tup, isNon_lst, isNon_scr, isNon_dic, isNon_obj, isNon_ref, isNon_glb, isNon_exc, isNon_book, eVar, eC, fLen, fAbs, fInt, fMax2, fMin2, fIntsI, fSorted, fTuple, fList, fListR, eLenSet, eSortedSet, eTupRg, eLstRg, eRefRg, rg1, rg2, tYesD, sRaise, sRaiseF, eM, KD.E, wipeD, ins_book, fget_posts, fget_may, mem_Book, it_tup, it_lst, it_scr, it_ref, it_may, it_fil, it_int, it_str, lo_lst, lo_tup, lo_int, lo_ref, li_lst, li_scr, li_tup, li_ref, true_and, List.set_cons_zero, List.set_cons_succ, List.getElem?_cons_zero, List.getElem?_cons_succ, List.map_cons, List.map_nil, List.length_cons, List.length_nil, List.replicate_succ, List.replicate_zero, List.cons_append, List.nil_append, List.zip_cons_cons, List.zip_nil_left, List.foldl_cons, List.foldl_nil, Nat.reduceSub, Nat.reduceAdd, Nat.zero_add, brB_t, brB_f, Bool.not_true, Bool.not_false, if_true, if_false, Bool.false_eq_true, ↓reduceIte]
      refine hL _ _ _ ?_
      rw [enumL_from]
      have key : ∀ (r : List D) (i : Nat) (x y : Option D), (∀ s ∈ r, Kn s h ∧ ∀ xs, s = .tup xs → ∀ y ∈ xs, Kn y h) →
          (match (mayFault p i r).map fun i => (("may" : Str), ((i : Nat) : Int)) with
            | none => Q .non (h.set n (.ins "Book" ["posts", "may"] [.int p, .tup ms]))
            | some (w, a) => E "BadBook" ["at", "what"] [.int a, .str w] h) →
          forL (keepOf (.tup ms) ms) (gT 2 (gTcons (gN 3) (gTcons (gN 4) gTnil))) (sIf (tOrD (tTst (eOp2 dGe (eVar 3) (eC (.int 12)))) (tNotD (tTst (eFn sp_is_rising (eCons (eVar 4) (eCons (eVar 1) eNil)))))) (sRaiseF "BadBook" ["at", "what"] (eCons (eC (.str "may")) (eCons (eVar 3) eNil))) sNext)
            { nx := N3, rt := Q, er := fun nm ns fs x h' => E nm ns fs h' } (enumFrom i r) [some (.ref n), some (.int p), some (.tup ms), x, y] h := by
        intro r
        induction r with
        | nil =>
          intro i x y _ hq
          refine ⟨trivial, hN3 _ _ ?_⟩
          refine sSeq_i fun N4 hN4 => ?_
          simp only [dEq_int, dNe_int, dEq_bl, dNe_bl, bodyD, startD, sNext, sBreak, sCont, sDrop, sRet, sRetN, sSet, sPar, sAsg, sSub, sFldD, iSeq, iCall, wEnum, wRange1, wRange2, wz_tup, eComp, eCompR, eComp2, eComp2R, gN, gT, gTcons, gTnil, tTst, tNotD, tAndD, tOrD, eNotV, eAndV, eOrV, eIf, eNil, eCons, eTup, eLst, eRef, eFrz, eCall, eFn, eMkV_eq, eMk, eFld, eSl, oNone, oSome, eOp2, eOp1, eChain, dAdd, dInt, dIntC, dIntB, dSub, dFdiv, dMod, dPow, dLt, dLe, dGt, dGe, dMul, dMulR, dMulT, dIs, dIx, isNon_oI, isNon_non, isNon_int, isNon_bl, isNon_str, isNon_ty, isNon_tup, isNon_lst, isNon_scr, isNon_dic, isNon_obj, isNon_ref, isNon_glb, isNon_exc, isNon_book, eVar, eC, fLen, fAbs, fInt, fMax2, fMin2, fIntsI, fSorted, fTuple, fList, fListR, eLenSet, eSortedSet, eTupRg, eLstRg, eRefRg, rg1, rg2, tYesD, sRaise, sRaiseF, eM, KD.E, wipeD, ins_book, fget_posts, fget_may, mem_Book, it_tup, it_lst, it_scr, it_ref, it_may, it_fil, it_int, it_str, lo_lst, lo_tup, lo_int, lo_ref, li_lst, li_scr, li_tup, li_ref, true_and, List.set_cons_zero, List.set_cons_succ, List.getElem?_cons_zero, List.getElem?_cons_succ, List.map_cons, List.map_nil, List.length_cons, List.length_nil, List.replicate_succ, List.replicate_zero, List.cons_append, List.nil_append, List.zip_cons_cons, List.zip_nil_left, List.foldl_cons, List.foldl_nil, Nat.reduceSub, Nat.reduceAdd, Nat.zero_add, brB_t, brB_f, Bool.not_true, Bool.not_false, if_true, if_false, Bool.false_eq_true, ↓reduceIte, hn]
          refine ⟨by decide, hN4 _ _ ?_⟩
          simp only [dEq_int, dNe_int, dEq_bl, dNe_bl, bodyD, startD, sNext, sBreak, sCont, sDrop, sRet, sRetN, sSet, sPar, sAsg, sSub, sFldD, iSeq, iCall, wEnum, wRange1, wRange2, wz_tup, eComp, eCompR, eComp2, eComp2R, gN, gT, gTcons, gTnil, tTst, tNotD, tAndD, tOrD, eNotV, eAndV, eOrV, eIf, eNil, eCons, eTup, eLst, eRef, eFrz, eCall, eFn, eMkV_eq, eMk, eFld, eSl, oNone, oSome, eOp2, eOp1, eChain, dAdd, dInt, dIntC, dIntB, dSub, dFdiv, dMod, dPow, dLt, dLe, dGt, dGe, dMul, dMulR, dMulT, dIs, dIx, isNon_oI, isNon_non, isNon_int, isNon_bl, isNon_str, isNon_ty, isNon_tup, isNon_lst, isNon_scr, isNon_dic, isNon_obj, isNon_ref, isNon_glb, isNon_exc, isNon_book, eVar, eC, fLen, fAbs, fInt, fMax2, fMin2, fIntsI, fSorted, fTuple, fList, fListR, eLenSet, eSortedSet, eTupRg, eLstRg, eRefRg, rg1, rg2, tYesD, sRaise, sRaiseF, eM, KD.E, wipeD, ins_book, fget_posts, fget_may, mem_Book, it_tup, it_lst, it_scr, it_ref, it_may, it_fil, it_int, it_str, lo_lst, lo_tup, lo_int, lo_ref, li_lst, li_scr, li_tup, li_ref, true_and, List.set_cons_zero, List.set_cons_succ, List.getElem?_cons_zero, List.getElem?_cons_succ, List.map_cons, List.map_nil, List.length_cons, List.length_nil, List.replicate_succ, List.replicate_zero, List.cons_append, List.nil_append, List.zip_cons_cons, List.zip_nil_left, List.foldl_cons, List.foldl_nil, Nat.reduceSub, Nat.reduceAdd, Nat.zero_add, brB_t, brB_f, Bool.not_true, Bool.not_false, if_true, if_false, Bool.false_eq_true, ↓reduceIte, get_set_self hn, set_set']
          exact ⟨by show 1 < 1000; decide, hq⟩
        | cons s r ih =>
          intro i x y hk hq
          refine ⟨trivial, ?_⟩
          simp only [dEq_int, dNe_int, dEq_bl, dNe_bl, bodyD, startD, sNext, sBreak, sCont, sDrop, sRet, sRetN, sSet, sPar, sAsg, sSub, sFldD, iSeq, iCall, wEnum, wRange1, wRange2, wz_tup, eComp, eCompR, eComp2, eComp2R, gN, gT, gTcons, gTnil, tTst, tNotD, tAndD, tOrD, eNotV, eAndV, eOrV, eIf, eNil, eCons, eTup, eLst, eRef, eFrz, eCall, eFn, eMkV_eq, eMk, eFld, eSl, oNone, oSome, eOp2, eOp1, eChain, dAdd, dInt, dIntC, dIntB, dSub, dFdiv, dMod, dPow, dLt, dLe, dGt, dGe, dMul, dMulR, dMulT, dIs, dIx, isNon_oI, isNon_non, isNon_int, isNon_bl, isNon_str, isNon_ty, isNon_tup, isNon_lst, isNon_scr, isNon_dic, isNon_obj, isNon_ref, isNon_glb, isNon_exc, isNon_book, eVar, eC, fLen, fAbs, fInt, fMax2, fMin2, fIntsI, fSorted, fTuple, fList, fListR, eLenSet, eSortedSet, eTupRg, eLstRg, eRefRg, rg1, rg2, tYesD, sRaise, sRaiseF, eM, KD.E, wipeD, ins_book, fget_posts, fget_may, mem_Book, it_tup, it_lst, it_scr, it_ref, it_may, it_fil, it_int, it_str, lo_lst, lo_tup, lo_int, lo_ref, li_lst, li_scr, li_tup, li_ref, true_and, List.set_cons_zero, List.set_cons_succ, List.getElem?_cons_zero, List.getElem?_cons_succ, List.map_cons, List.map_nil, List.length_cons, List.length_nil, List.replicate_succ, List.replicate_zero, List.cons_append, List.nil_append, List.zip_cons_cons, List.zip_nil_left, List.foldl_cons, List.foldl_nil, Nat.reduceSub, Nat.reduceAdd, Nat.zero_add, brB_t, brB_f, Bool.not_true, Bool.not_false, if_true, if_false, Bool.false_eq_true, ↓reduceIte]
          refine sIf_i fun A4 B4 hA4 hB4 => ?_
          simp only [dEq_int, dNe_int, dEq_bl, dNe_bl, bodyD, startD, sNext, sBreak, sCont, sDrop, sRet, sRetN, sSet, sPar, sAsg, sSub, sFldD, iSeq, iCall, wEnum, wRange1, wRange2, wz_tup, eComp, eCompR, eComp2, eComp2R, gN, gT, gTcons, gTnil, tTst, tNotD, tAndD, tOrD, eNotV, eAndV, eOrV, eIf, eNil, eCons, eTup, eLst, eRef, eFrz, eCall, eFn, eMkV_eq, eMk, eFld, eSl, oNone, oSome, eOp2, eOp1, eChain, dAdd, dInt, dIntC, dIntB, dSub, dFdiv, dMod, dPow, dLt, dLe, dGt, dGe, dMul, dMulR, dMulT, dIs, dIx, isNon_oI, isNon_non, isNon_int, isNon_bl, isNon_str, isNon_ty, isNon_tup, isNon_lst, isNon_scr, isNon_dic, isNon_obj, isNon_ref, isNon_glb, isNon_exc, isNon_book, eVar, eC, fLen, fAbs, fInt, fMax2, fMin2, fIntsI, fSorted, fTuple, fList, fListR, eLenSet, eSortedSet, eTupRg, eLstRg, eRefRg, rg1, rg2, tYesD, sRaise, sRaiseF, eM, KD.E, wipeD, ins_book, fget_posts, fget_may, mem_Book, it_tup, it_lst, it_scr, it_ref, it_may, it_fil, it_int, it_str, lo_lst, lo_tup, lo_int, lo_ref, li_lst, li_scr, li_tup, li_ref, true_and, List.set_cons_zero, List.set_cons_succ, List.getElem?_cons_zero, List.getElem?_cons_succ, List.map_cons, List.map_nil, List.length_cons, List.length_nil, List.replicate_succ, List.replicate_zero, List.cons_append, List.nil_append, List.zip_cons_cons, List.zip_nil_left, List.foldl_cons, List.foldl_nil, Nat.reduceSub, Nat.reduceAdd, Nat.zero_add, brB_t, brB_f, Bool.not_true, Bool.not_false, if_true, if_false, Bool.false_eq_true, ↓reduceIte]
          have hf : (12 ≤ i || !risD s p) = true → A4 h := fun hh => by
            refine hA4 h ?_
            simp only [dEq_int, dNe_int, dEq_bl, dNe_bl, bodyD, startD, sNext, sBreak, sCont, sDrop, sRet, sRetN, sSet, sPar, sAsg, sSub, sFldD, iSeq, iCall, wEnum, wRange1, wRange2, wz_tup, eComp, eCompR, eComp2, eComp2R, gN, gT, gTcons, gTnil, tTst, tNotD, tAndD, tOrD, eNotV, eAndV, eOrV, eIf, eNil, eCons, eTup, eLst, eRef, eFrz, eCall, eFn, eMkV_eq, eMk, eFld, eSl, oNone, oSome, eOp2, eOp1, eChain, dAdd, dInt, dIntC, dIntB, dSub, dFdiv, dMod, dPow, dLt, dLe, dGt, dGe, dMul, dMulR, dMulT, dIs, dIx, isNon_oI, isNon_non, isNon_int, isNon_bl, isNon_str, isNon_ty, isNon_tup, isNon_lst, isNon_scr, isNon_dic, isNon_obj, isNon_ref, isNon_glb, isNon_exc, isNon_book, eVar, eC, fLen, fAbs, fInt, fMax2, fMin2, fIntsI, fSorted, fTuple, fList, fListR, eLenSet, eSortedSet, eTupRg, eLstRg, eRefRg, rg1, rg2, tYesD, sRaise, sRaiseF, eM, KD.E, wipeD, ins_book, fget_posts, fget_may, mem_Book, it_tup, it_lst, it_scr, it_ref, it_may, it_fil, it_int, it_str, lo_lst, lo_tup, lo_int, lo_ref, li_lst, li_scr, li_tup, li_ref, true_and, List.set_cons_zero, List.set_cons_succ, List.getElem?_cons_zero, List.getElem?_cons_succ, List.map_cons, List.map_nil, List.length_cons, List.length_nil, List.replicate_succ, List.replicate_zero, List.cons_append, List.nil_append, List.zip_cons_cons, List.zip_nil_left, List.foldl_cons, List.foldl_nil, Nat.reduceSub, Nat.reduceAdd, Nat.zero_add, brB_t, brB_f, Bool.not_true, Bool.not_false, if_true, if_false, Bool.false_eq_true, ↓reduceIte]
            unfold mayFault at hq
            rw [if_pos hh] at hq
            exact hq
          split
          · rename_i e
            exact hf (by
              have : (12 : Int) ≤ (i : Nat) := by simpa using e
              rw [Bool.or_eq_true]
              exact .inl (decide_eq_true (by omega)))
          · rename_i e
            obtain ⟨k1, k2⟩ := hk s List.mem_cons_self
            refine ⟨s, p, rfl, k1, k2, ?_⟩
            simp only [dEq_int, dNe_int, dEq_bl, dNe_bl, bodyD, startD, sNext, sBreak, sCont, sDrop, sRet, sRetN, sSet, sPar, sAsg, sSub, sFldD, iSeq, iCall, wEnum, wRange1, wRange2, wz_tup, eComp, eCompR, eComp2, eComp2R, gN, gT, gTcons, gTnil, tTst, tNotD, tAndD, tOrD, eNotV, eAndV, eOrV, eIf, eNil, eCons, eTup, eLst, eRef, eFrz, eCall, eFn, eMkV_eq, eMk, eFld, eSl, oNone, oSome, eOp2, eOp1, eChain, dAdd, dInt, dIntC, dIntB, dSub, dFdiv, dMod, dPow, dLt, dLe, dGt, dGe, dMul, dMulR, dMulT, dIs, dIx, isNon_oI, isNon_non, isNon_int, isNon_bl, isNon_str, isNon_ty, isNon_tup, isNon_lst, isNon_scr, isNon_dic, isNon_obj, isNon_ref, isNon_glb, isNon_exc, isNon_book, eVar, eC, fLen, fAbs, fInt, fMax2, fMin2, fIntsI, fSorted, fTuple, fList, fListR, eLenSet, eSortedSet, eTupRg, eLstRg, eRefRg, rg1, rg2, tYesD, sRaise, sRaiseF, eM, KD.E, wipeD, ins_book, fget_posts, fget_may, mem_Book, it_tup, it_lst, it_scr, it_ref, it_may, it_fil, it_int, it_str, lo_lst, lo_tup, lo_int, lo_ref, li_lst, li_scr, li_tup, li_ref, true_and, List.set_cons_zero, List.set_cons_succ, List.getElem?_cons_zero, List.getElem?_cons_succ, List.map_cons, List.map_nil, List.length_cons, List.length_nil, List.replicate_succ, List.replicate_zero, List.cons_append, List.nil_append, List.zip_cons_cons, List.zip_nil_left, List.foldl_cons, List.foldl_nil, Nat.reduceSub, Nat.reduceAdd, Nat.zero_add, brB_t, brB_f, Bool.not_true, Bool.not_false, if_true, if_false, Bool.false_eq_true, ↓reduceIte]
            cases hr : risD s p with
            | false =>
              simp only [dEq_int, dNe_int, dEq_bl, dNe_bl, bodyD, startD, sNext, sBreak, sCont, sDrop, sRet, sRetN, sSet, sPar, sAsg, sSub, sFldD, iSeq, iCall, wEnum, wRange1, wRange2, wz_tup, eComp, eCompR, eComp2, eComp2R, gN, gT, gTcons, gTnil, tTst, tNotD, tAndD, tOrD, eNotV, eAndV, eOrV, eIf, eNil, eCons, eTup, eLst, eRef, eFrz, eCall, eFn, eMkV_eq, eMk, eFld, eSl, oNone, oSome, eOp2, eOp1, eChain, dAdd, dInt, dIntC, dIntB, dSub, dFdiv, dMod, dPow, dLt, dLe, dGt, dGe, dMul, dMulR, dMulT, dIs, dIx, isNon_oI, isNon_non, isNon_int, isNon_bl, isNon_str, isNon_ty, isNon_tup, isNon_lst, isNon_scr, isNon_dic, isNon_obj, isNon_ref, isNon_glb, isNon_exc, isNon_book, eVar, eC, fLen, fAbs, fInt, fMax2, fMin2, fIntsI, fSorted, fTuple, fList, fListR, eLenSet, eSortedSet, eTupRg, eLstRg, eRefRg, rg1, rg2, tYesD, sRaise, sRaiseF, eM, KD.E, wipeD, ins_book, fget_posts, fget_may, mem_Book, it_tup, it_lst, it_scr, it_ref, it_may, it_fil, it_int, it_str, lo_lst, lo_tup, lo_int, lo_ref, li_lst, li_scr, li_tup, li_ref, true_and, List.set_cons_zero, List.set_cons_succ, List.getElem?_cons_zero, List.getElem?_cons_succ, List.map_cons, List.map_nil, List.length_cons, List.length_nil, List.replicate_succ, List.replicate_zero, List.cons_append, List.nil_append, List.zip_cons_cons, List.zip_nil_left, List.foldl_cons, List.foldl_nil, Nat.reduceSub, Nat.reduceAdd, Nat.zero_add, brB_t, brB_f, Bool.not_true, Bool.not_false, if_true, if_false, Bool.false_eq_true, ↓reduceIte, Bool.not_false]
              exact hf (by rw [hr]; simp)
            | true =>
              simp only [dEq_int, dNe_int, dEq_bl, dNe_bl, bodyD, startD, sNext, sBreak, sCont, sDrop, sRet, sRetN, sSet, sPar, sAsg, sSub, sFldD, iSeq, iCall, wEnum, wRange1, wRange2, wz_tup, eComp, eCompR, eComp2, eComp2R, gN, gT, gTcons, gTnil, tTst, tNotD, tAndD, tOrD, eNotV, eAndV, eOrV, eIf, eNil, eCons, eTup, eLst, eRef, eFrz, eCall, eFn, eMkV_eq, eMk, eFld, eSl, oNone, oSome, eOp2, eOp1, eChain, dAdd, dInt, dIntC, dIntB, dSub, dFdiv, dMod, dPow, dLt, dLe, dGt, dGe, dMul, dMulR, dMulT, dIs, dIx, isNon_oI, isNon_non, isNon_int, isNon_bl, isNon_str, isNon_ty, isNon_tup, isNon_lst, isNon_scr, isNon_dic, isNon_obj, isNon_ref, isNon_glb, isNon_exc, isNon_book, eVar, eC, fLen, fAbs, fInt, fMax2, fMin2, fIntsI, fSorted, fTuple, fList, fListR, eLenSet, eSortedSet, eTupRg, eLstRg, eRefRg, rg1, rg2, tYesD, sRaise, sRaiseF, eM, KD.E, wipeD, ins_book, fget_posts, fget_may, mem_Book, it_tup, it_lst, it_scr, it_ref, it_may, it_fil, it_int, it_str, lo_lst, lo_tup, lo_int, lo_ref, li_lst, li_scr, li_tup, li_ref, true_and, List.set_cons_zero, List.set_cons_succ, List.getElem?_cons_zero, List.getElem?_cons_succ, List.map_cons, List.map_nil, List.length_cons, List.length_nil, List.replicate_succ, List.replicate_zero, List.cons_append, List.nil_append, List.zip_cons_cons, List.zip_nil_left, List.foldl_cons, List.foldl_nil, Nat.reduceSub, Nat.reduceAdd, Nat.zero_add, brB_t, brB_f, Bool.not_true, Bool.not_false, if_true, if_false, Bool.false_eq_true, ↓reduceIte, Bool.not_true]
              refine hB4 h (ih (i + 1) _ _ (fun z hz => hk z (List.mem_cons_of_mem _ hz)) ?_)
              unfold mayFault at hq
              rw [if_neg (by
                rw [hr]
                have : ¬ (12 : Int) ≤ (i : Nat) := by simpa using e
                simp; omega)] at hq
              exact hq
      exact key ms 0 _ _ (hms ms rfl) q
    | _ =>
      simp only [dEq_int, dNe_int, dEq_bl, dNe_bl, bodyD, startD, sNext, sBreak, sCont, sDrop, sRet, sRetN, sSet, sPar, sAsg, sSub, sFldD, iSeq, iCall, wEnum, wRange1, wRange2, wz_tup, eComp, eCompR, eComp2, eComp2R, gN, gT, gTcons, gTnil, tTst, tNotD, tAndD, tOrD, eNotV, eAndV, eOrV, eIf, eNil, eCons, eTup, eLst, eRef, eFrz, eCall, eFn, eMkV_eq, eMk, eFld, eSl, oNone, oSome, eOp2, eOp1, eChain, dAdd, dInt, dIntC, dIntB, dSub, dFdiv, dMod, dPow, dLt, dLe, dGt, dGe, dMul, dMulR, dMulT, dIs, dIx, isNon_oI, isNon_non, isNon_int, isNon_bl, isNon_str, isNon_ty, isNon_tup, isNon_lst, isNon_scr, isNon_dic, isNon_obj, isNon_ref, isNon_glb, isNon_exc, isNon_book, eVar, eC, fLen, fAbs, fInt, fMax2, fMin2, fIntsI, fSorted, fTuple, fList, fListR, eLenSet, eSortedSet, eTupRg, eLstRg, eRefRg, rg1, rg2, tYesD, sRaise, sRaiseF, eM, KD.E, wipeD, ins_book, fget_posts, fget_may, mem_Book, it_tup, it_lst, it_scr, it_ref, it_may, it_fil, it_int, it_str, lo_lst, lo_tup, lo_int, lo_ref, li_lst, li_scr, li_tup, li_ref, true_and, List.set_cons_zero, List.set_cons_succ, List.getElem?_cons_zero, List.getElem?_cons_succ, List.map_cons, List.map_nil, List.length_cons, List.length_nil, List.replicate_succ, List.replicate_zero, List.cons_append, List.nil_append, List.zip_cons_cons, List.zip_nil_left, List.foldl_cons, List.foldl_nil, Nat.reduceSub, Nat.reduceAdd, Nat.zero_add, brB_t, brB_f, Bool.not_true, Bool.not_false, if_true, if_false, Bool.false_eq_true, ↓reduceIte, Bool.not_false]
      exact no fun ms e => nomatch e
/-! check_book -/
def t_check_book : TSD :=
    (sIf (tNotD (tTst (eCall (fIsi ["Book"]) (eCons (eVar 0) (eCons (eC (.glb "Book")) eNil))))) (sRaise "NoBook") sNext)
def isBook (x : D) (h : DH) : Bool := match tyB x h with
  | some _ => false
  | none => true
theorem isi_book {x : D} {h : DH} {Q : VD} (hk : Kn x h) : fIsi ["Book"] [x, .glb "Book"] h Q = Q (.bl (isBook x h)) h := by
  unfold fIsi isBook
  rcases hk with ⟨t, e⟩ | ⟨e, e2⟩
  · simp only [e]; simp
  · simp only [e, e2]; simp
def sp_check_book : SpD := fun ds h Q E => ∃ x, ds = [x] ∧ Kn x h ∧ if isBook x h = true then Q .non h else E "NoBook" [] [] h
theorem pl_check_book (ds : List D) (h : DH) (Q : VD) (E : ED) (w : sp_check_book ds h Q E) : bodyD 1 t_check_book ds h Q E := by
  obtain ⟨x, rfl, hk, q⟩ := w
  unfold t_check_book bodyD
  refine sIf_i fun A B hA hB => ?_
  simp only [dEq_int, dNe_int, dEq_bl, dNe_bl, bodyD, startD, sNext, sBreak, sCont, sDrop, sRet, sRetN, sSet, sPar, sAsg, sSub, sFldD, iSeq, iCall, wEnum, wRange1, wRange2, wz_tup, eComp, eCompR, eComp2, eComp2R, gN, gT, gTcons, gTnil, tTst, tNotD, tAndD, tOrD, eNotV, eAndV, eOrV, eIf, eNil, eCons, eTup, eLst, eRef, eFrz, eCall, eFn, eMkV_eq, eMk, eFld, eSl, oNone, oSome, eOp2, eOp1, eChain, dAdd, dInt, dIntC, dIntB, dSub, dFdiv, dMod, dPow, dLt, dLe, dGt, dGe, dMul, dMulR, dMulT, dIs, dIx, isNon_oI, isNon_non, isNon_int, isNon_bl, isNon_str, isNon_ty, isNon_tup, isNon_lst, isNon_scr, isNon_dic, isNon_obj, isNon_ref, isNon_glb, isNon_exc, isNon_book, eVar, eC, fLen, fAbs, fInt, fMax2, fMin2, fIntsI, fSorted, fTuple, fList, fListR, eLenSet, eSortedSet, eTupRg, eLstRg, eRefRg, rg1, rg2, tYesD, sRaise, sRaiseF, eM, KD.E, wipeD, ins_book, fget_posts, fget_may, mem_Book, it_tup, it_lst, it_scr, it_ref, it_may, it_fil, it_int, it_str, lo_lst, lo_tup, lo_int, lo_ref, li_lst, li_scr, li_tup, li_ref, true_and, List.set_cons_zero, List.set_cons_succ, List.getElem?_cons_zero, List.getElem?_cons_succ, List.map_cons, List.map_nil, List.length_cons, List.length_nil, List.replicate_succ, List.replicate_zero, List.cons_append, List.nil_append, List.zip_cons_cons, List.zip_nil_left, List.foldl_cons, List.foldl_nil, Nat.reduceSub, Nat.reduceAdd, Nat.zero_add, brB_t, brB_f, Bool.not_true, Bool.not_false, if_true, if_false, Bool.false_eq_true, ↓reduceIte]
  rw [isi_book hk]
  rcases Bool.eq_false_or_eq_true (isBook x h) with e | e
  · simp only [e, dEq_int, dNe_int, dEq_bl, dNe_bl, bodyD, startD, sNext, sBreak, sCont, sDrop, sRet, sRetN, sSet, sPar, sAsg, sSub, sFldD, iSeq, iCall, wEnum, wRange1, wRange2, wz_tup, eComp, eCompR, eComp2, eComp2R, gN, gT, gTcons, gTnil, tTst, tNotD, tAndD, tOrD, eNotV, eAndV, eOrV, eIf, eNil, eCons, eTup, eLst, eRef, eFrz, eCall, eFn, eMkV_eq, eMk, eFld, eSl, oNone, oSome, eOp2, eOp1, eChain, dAdd, dInt, dIntC, dIntB, dSub, dFdiv, dMod, dPow, dLt, dLe, dGt, dGe, dMul, dMulR, dMulT, dIs, dIx, isNon_oI, isNon_non, isNon_int, isNon_bl, isNon_str, isNon_ty, isNon_tup, isNon_lst, isNon_scr, isNon_dic, isNon_obj, isNon_ref, isNon_glb, isNon_exc, isNon_book, eVar, eC, fLen, fAbs, fInt, fMax2, fMin2, fIntsI, fSorted, fTuple, fList, fListR, eLenSet, eSortedSet, eTupRg, eLstRg, eRefRg, rg1, rg2, tYesD, sRaise, sRaiseF, eM, KD.E, wipeD, ins_book, fget_posts, fget_may, mem_Book, it_tup, it_lst, it_scr, it_ref, it_may, it_fil, it_int, it_str, lo_lst, lo_tup, lo_int, lo_ref, li_lst, li_scr, li_tup, li_ref, true_and, List.set_cons_zero, List.set_cons_succ, List.getElem?_cons_zero, List.getElem?_cons_succ, List.map_cons, List.map_nil, List.length_cons, List.length_nil, List.replicate_succ, List.replicate_zero, List.cons_append, List.nil_append, List.zip_cons_cons, List.zip_nil_left, List.foldl_cons, List.foldl_nil, Nat.reduceSub, Nat.reduceAdd, Nat.zero_add, brB_t, brB_f, Bool.not_true, Bool.not_false, if_true, if_false, Bool.false_eq_true, ↓reduceIte, Bool.not_true] at q ⊢
    exact hB h q
  · simp only [e, dEq_int, dNe_int, dEq_bl, dNe_bl, bodyD, startD, sNext, sBreak, sCont, sDrop, sRet, sRetN, sSet, sPar, sAsg, sSub, sFldD, iSeq, iCall, wEnum, wRange1, wRange2, wz_tup, eComp, eCompR, eComp2, eComp2R, gN, gT, gTcons, gTnil, tTst, tNotD, tAndD, tOrD, eNotV, eAndV, eOrV, eIf, eNil, eCons, eTup, eLst, eRef, eFrz, eCall, eFn, eMkV_eq, eMk, eFld, eSl, oNone, oSome, eOp2, eOp1, eChain, dAdd, dInt, dIntC, dIntB, dSub, dFdiv, dMod, dPow, dLt, dLe, dGt, dGe, dMul, dMulR, dMulT, dIs, dIx, isNon_oI, isNon_non, isNon_int, isNon_bl, isNon_str, isNon_ty, isNon_tup, isNon_lst, isNon_scr, isNon_dic, isNon_obj, isNon_ref, isNon_glb, isNon_exc, isNon_book, eVar, eC, fLen, fAbs, fInt, fMax2, fMin2, fIntsI, fSorted, fTuple, fList, fListR, eLenSet, eSortedSet, eTupRg, eLstRg, eRefRg, rg1, rg2, tYesD, sRaise, sRaiseF, eM, KD.E, wipeD, ins_book, fget_posts, fget_may, mem_Book, it_tup, it_lst, it_scr, it_ref, it_may, it_fil, it_int, it_str, lo_lst, lo_tup, lo_int, lo_ref, li_lst, li_scr, li_tup, li_ref, true_and, List.set_cons_zero, List.set_cons_succ, List.getElem?_cons_zero, List.getElem?_cons_succ, List.map_cons, List.map_nil, List.length_cons, List.length_nil, List.replicate_succ, List.replicate_zero, List.cons_append, List.nil_append, List.zip_cons_cons, List.zip_nil_left, List.foldl_cons, List.foldl_nil, Nat.reduceSub, Nat.reduceAdd, Nat.zero_add, brB_t, brB_f, Bool.not_true, Bool.not_false, if_true, if_false, Bool.false_eq_true, ↓reduceIte, Bool.not_false] at q ⊢
    exact hA h q
/-! fills -/
def t_fills : TSD :=
    (sRet (eOrV (eOp2 (dIs false) (eVar 2) (eC .non)) (eAndV (eFn sp_is_integer (eCons (eVar 2) eNil)) (eOp2 (dIn false) (eVar 2) (eOp2 dIx (eFld ["Book"] "may" (eVar 0)) (eVar 1))))))
theorem mayD_at {may : List (List Int)} {i : Int} {s : List Int} (h0 : 0 ≤ i) (e : may[i.toNat]? = some s) : atI (may.map fun s => D.tup (s.map .int)) i = some (.tup (s.map .int)) :=
  atI_nat h0 (by rw [List.getElem?_map, e]; rfl)
theorem eqF_int (a b : Int) : eqF (.int a) (.int b) = (a == b) := rfl
theorem any_eqF (i : Int) (s : List Int) : ((s.map D.int).any fun z => eqF z (.int i)) = decide (i ∈ s) := by
  induction s with
  | nil => rfl
  | cons a r ih =>
    have e : decide (i ∈ a :: r) = (decide (i = a) || decide (i ∈ r)) := by simp
    rw [List.map_cons, List.any_cons, ih, eqF_int, e]
    by_cases h : i = a
    · subst h; simp
    · have : (a == i) = false := by simpa using (Ne.symm h)
      simp [h, this]
theorem all_flat (s : List Int) : (s.map D.int).all flatD = true := by rw [List.all_map]; simp [flatD]
theorem dIn_ints (i : Int) (s : List Int) {h : DH} {Q : VD} {x : D} (hx : itemsOf x h = some (s.map D.int)) : dIn false (.int i) x h Q = Q (.bl (decide (i ∈ s))) h := by
  unfold dIn
  rw [hx]
  simp only [any_eqF, all_flat]
  simp [flatD]
def sp_fills : SpD := fun ds h Q _ => ∃ posts may person post, ds = [bookD posts may, .int (person : Nat), post] ∧ Kn post h ∧ person < may.length ∧ Q (.bl (fillsD may person post)) h
theorem pl_fills (ds : List D) (h : DH) (Q : VD) (E : ED) (w : sp_fills ds h Q E) : bodyD 3 t_fills ds h Q E := by
  obtain ⟨posts, may, person, post, rfl, hk, hp, q⟩ := w
  unfold t_fills
  simp only [dEq_int, dNe_int, dEq_bl, dNe_bl, bodyD, startD, sNext, sBreak, sCont, sDrop, sRet, sRetN, sSet, sPar, sAsg, sSub, sFldD, iSeq, iCall, wEnum, wRange1, wRange2, wz_tup, eComp, eCompR, eComp2, eComp2R, gN, gT, gTcons, gTnil, tTst, tNotD, tAndD, tOrD, eNotV, eAndV, eOrV, eIf, eNil, eCons, eTup, eLst, eRef, eFrz, eCall, eFn, eMkV_eq, eMk, eFld, eSl, oNone, oSome, eOp2, eOp1, eChain, dAdd, dInt, dIntC, dIntB, dSub, dFdiv, dMod, dPow, dLt, dLe, dGt, dGe, dMul, dMulR, dMulT, dIs, dIx, isNon_oI, isNon_non, isNon_int, isNon_bl, isNon_str, isNon_ty, isNon_tup, isNon_lst, isNon_scr, isNon_dic, isNon_obj, isNon_ref, isNon_glb, isNon_exc, isNon_book, eVar, eC, fLen, fAbs, fInt, fMax2, fMin2, fIntsI, fSorted, fTuple, fList, fListR, eLenSet, eSortedSet, eTupRg, eLstRg, eRefRg, rg1, rg2, tYesD, sRaise, sRaiseF, eM, KD.E, wipeD, ins_book, fget_posts, fget_may, mem_Book, it_tup, it_lst, it_scr, it_ref, it_may, it_fil, it_int, it_str, lo_lst, lo_tup, lo_int, lo_ref, li_lst, li_scr, li_tup, li_ref, true_and, List.set_cons_zero, List.set_cons_succ, List.getElem?_cons_zero, List.getElem?_cons_succ, List.map_cons, List.map_nil, List.length_cons, List.length_nil, List.replicate_succ, List.replicate_zero, List.cons_append, List.nil_append, List.zip_cons_cons, List.zip_nil_left, List.foldl_cons, List.foldl_nil, Nat.reduceSub, Nat.reduceAdd, Nat.zero_add, brB_t, brB_f, Bool.not_true, Bool.not_false, if_true, if_false, Bool.false_eq_true, ↓reduceIte]
  have other : ∀ b, isInt post = b → b = false → fillsD may person post = false → Q (.bl false) h := fun b _ _ e => by rw [e] at q; exact q
  cases post with
  | non => exact q
  | int i =>
    simp only [dEq_int, dNe_int, dEq_bl, dNe_bl, bodyD, startD, sNext, sBreak, sCont, sDrop, sRet, sRetN, sSet, sPar, sAsg, sSub, sFldD, iSeq, iCall, wEnum, wRange1, wRange2, wz_tup, eComp, eCompR, eComp2, eComp2R, gN, gT, gTcons, gTnil, tTst, tNotD, tAndD, tOrD, eNotV, eAndV, eOrV, eIf, eNil, eCons, eTup, eLst, eRef, eFrz, eCall, eFn, eMkV_eq, eMk, eFld, eSl, oNone, oSome, eOp2, eOp1, eChain, dAdd, dInt, dIntC, dIntB, dSub, dFdiv, dMod, dPow, dLt, dLe, dGt, dGe, dMul, dMulR, dMulT, dIs, dIx, isNon_oI, isNon_non, isNon_int, isNon_bl, isNon_str, isNon_ty, isNon_tup, isNon_lst, isNon_scr, isNon_dic, isNon_obj, isNon_ref, isNon_glb, isNon_exc, isNon_book, eVar, eC, fLen, fAbs, fInt, fMax2, fMin2, fIntsI, fSorted, fTuple, fList, fListR, eLenSet, eSortedSet, eTupRg, eLstRg, eRefRg, rg1, rg2, tYesD, sRaise, sRaiseF, eM, KD.E, wipeD, ins_book, fget_posts, fget_may, mem_Book, it_tup, it_lst, it_scr, it_ref, it_may, it_fil, it_int, it_str, lo_lst, lo_tup, lo_int, lo_ref, li_lst, li_scr, li_tup, li_ref, true_and, List.set_cons_zero, List.set_cons_succ, List.getElem?_cons_zero, List.getElem?_cons_succ, List.map_cons, List.map_nil, List.length_cons, List.length_nil, List.replicate_succ, List.replicate_zero, List.cons_append, List.nil_append, List.zip_cons_cons, List.zip_nil_left, List.foldl_cons, List.foldl_nil, Nat.reduceSub, Nat.reduceAdd, Nat.zero_add, brB_t, brB_f, Bool.not_true, Bool.not_false, if_true, if_false, Bool.false_eq_true, ↓reduceIte]
    refine ⟨.int i, rfl, hk, ?_⟩
    simp only [isInt, dEq_int, dNe_int, dEq_bl, dNe_bl, bodyD, startD, sNext, sBreak, sCont, sDrop, sRet, sRetN, sSet, sPar, sAsg, sSub, sFldD, iSeq, iCall, wEnum, wRange1, wRange2, wz_tup, eComp, eCompR, eComp2, eComp2R, gN, gT, gTcons, gTnil, tTst, tNotD, tAndD, tOrD, eNotV, eAndV, eOrV, eIf, eNil, eCons, eTup, eLst, eRef, eFrz, eCall, eFn, eMkV_eq, eMk, eFld, eSl, oNone, oSome, eOp2, eOp1, eChain, dAdd, dInt, dIntC, dIntB, dSub, dFdiv, dMod, dPow, dLt, dLe, dGt, dGe, dMul, dMulR, dMulT, dIs, dIx, isNon_oI, isNon_non, isNon_int, isNon_bl, isNon_str, isNon_ty, isNon_tup, isNon_lst, isNon_scr, isNon_dic, isNon_obj, isNon_ref, isNon_glb, isNon_exc, isNon_book, eVar, eC, fLen, fAbs, fInt, fMax2, fMin2, fIntsI, fSorted, fTuple, fList, fListR, eLenSet, eSortedSet, eTupRg, eLstRg, eRefRg, rg1, rg2, tYesD, sRaise, sRaiseF, eM, KD.E, wipeD, ins_book, fget_posts, fget_may, mem_Book, it_tup, it_lst, it_scr, it_ref, it_may, it_fil, it_int, it_str, lo_lst, lo_tup, lo_int, lo_ref, li_lst, li_scr, li_tup, li_ref, true_and, List.set_cons_zero, List.set_cons_succ, List.getElem?_cons_zero, List.getElem?_cons_succ, List.map_cons, List.map_nil, List.length_cons, List.length_nil, List.replicate_succ, List.replicate_zero, List.cons_append, List.nil_append, List.zip_cons_cons, List.zip_nil_left, List.foldl_cons, List.foldl_nil, Nat.reduceSub, Nat.reduceAdd, Nat.zero_add, brB_t, brB_f, Bool.not_true, Bool.not_false, if_true, if_false, Bool.false_eq_true, ↓reduceIte]
    rw [mayD_at (s := may[person]) (by omega) (by rw [Int.toNat_natCast]; exact List.getElem?_eq_getElem hp)]
    simp only []
    rw [dIn_ints i may[person] (by rfl)]
    have e : fillsD may person (.int i) = decide (i ∈ may[person]) := by
      unfold fillsD
      simp only [List.getD_eq_getElem?_getD, List.getElem?_eq_getElem hp, Option.getD_some]
    rw [e] at q
    exact q
  | _ =>
    simp only [dEq_int, dNe_int, dEq_bl, dNe_bl, bodyD, startD, sNext, sBreak, sCont, sDrop, sRet, sRetN, sSet, sPar, sAsg, sSub, sFldD, iSeq, iCall, wEnum, wRange1, wRange2, wz_tup, eComp, eCompR, eComp2, eComp2R, gN, gT, gTcons, gTnil, tTst, tNotD, tAndD, tOrD, eNotV, eAndV, eOrV, eIf, eNil, eCons, eTup, eLst, eRef, eFrz, eCall, eFn, eMkV_eq, eMk, eFld, eSl, oNone, oSome, eOp2, eOp1, eChain, dAdd, dInt, dIntC, dIntB, dSub, dFdiv, dMod, dPow, dLt, dLe, dGt, dGe, dMul, dMulR, dMulT, dIs, dIx, isNon_oI, isNon_non, isNon_int, isNon_bl, isNon_str, isNon_ty, isNon_tup, isNon_lst, isNon_scr, isNon_dic, isNon_obj, isNon_ref, isNon_glb, isNon_exc, isNon_book, eVar, eC, fLen, fAbs, fInt, fMax2, fMin2, fIntsI, fSorted, fTuple, fList, fListR, eLenSet, eSortedSet, eTupRg, eLstRg, eRefRg, rg1, rg2, tYesD, sRaise, sRaiseF, eM, KD.E, wipeD, ins_book, fget_posts, fget_may, mem_Book, it_tup, it_lst, it_scr, it_ref, it_may, it_fil, it_int, it_str, lo_lst, lo_tup, lo_int, lo_ref, li_lst, li_scr, li_tup, li_ref, true_and, List.set_cons_zero, List.set_cons_succ, List.getElem?_cons_zero, List.getElem?_cons_succ, List.map_cons, List.map_nil, List.length_cons, List.length_nil, List.replicate_succ, List.replicate_zero, List.cons_append, List.nil_append, List.zip_cons_cons, List.zip_nil_left, List.foldl_cons, List.foldl_nil, Nat.reduceSub, Nat.reduceAdd, Nat.zero_add, brB_t, brB_f, Bool.not_true, Bool.not_false, if_true, if_false, Bool.false_eq_true, ↓reduceIte]
    exact ⟨_, rfl, hk, q⟩
/-! is_right -/
def t_is_right : TSD :=
    (sSeq (sIf (tOrD (tNotD (tTst (eCall (fIsi ["Book"]) (eCons (eVar 1) (eCons (eC (.ty "tuple")) eNil))))) (tTst (eOp2 dNe (eCall fLen (eCons (eVar 1) eNil)) (eCall fLen (eCons (eFld ["Book"] "may" (eVar 0)) eNil))))) (sRet (eC (.bl false))) sNext)
    (sSeq (sIf (tNotD (tTst (eCall (fAll fun bs => bs.all id) (eCons (eComp (iCall wEnum (eCons (eVar 1) eNil)) (gT 2 (gTcons (gN 4) (gTcons (gN 3) gTnil))) tYesD (eFn sp_fills (eCons (eVar 0) (eCons (eVar 4) (eCons (eVar 3) eNil)))) [4, 3]) eNil)))) (sRet (eC (.bl false))) sNext)
    (sSeq (sSet 2 (eComp (iSeq (eVar 1)) (gN 3) (tTst (eOp2 (dIs true) (eVar 3) (eC .non))) (eVar 3) [3]))
    (sRet (eOp2 dEq (eLenSet (eVar 2)) (eCall fLen (eCons (eVar 2) eNil)))))))
theorem told_ints {may : List (List Int)} : ∀ {xs : List D} {i : Nat}, (xs.zipIdx i).all (fun p => fillsD may p.2 p.1) = true → xs.filterMap (fun x => if isNon x then none else some x) = (xs.filterMap isI).map .int
  | [], _, _ => rfl
  | x :: r, i, h => by
    rw [List.zipIdx_cons, List.all_cons, Bool.and_eq_true] at h
    have ih := told_ints h.2
    cases x with
    | non => simpa [List.filterMap_cons, isNon, isI] using ih
    | int j => simpa [List.filterMap_cons, isNon, isI] using ih
    | _ => exact absurd h.1 (by simp [fillsD])
theorem filterMap_len {xs : List D} : (xs.filterMap isI).length ≤ xs.length := List.length_filterMap_le _ _
def sp_is_right : SpD := fun ds h Q _ => ∃ posts may thing, ds = [bookD posts may, thing] ∧ Kn thing h ∧ (∀ xs, thing = .tup xs → ∀ y ∈ xs, Kn y h) ∧ may.length ≤ 1000 ∧ Q (.bl (rightD may thing)) h
theorem pl_is_right (ds : List D) (h : DH) (Q : VD) (E : ED) (w : sp_is_right ds h Q E) : bodyD 5 t_is_right ds h Q E := by
  obtain ⟨posts, may, thing, rfl, hk, hks, hlen, q⟩ := w
  unfold t_is_right bodyD
  refine sSeq_i fun N hN => ?_
  refine sIf_i fun A B hA hB => ?_
  simp only [dEq_int, dNe_int, dEq_bl, dNe_bl, bodyD, startD, sNext, sBreak, sCont, sDrop, sRet, sRetN, sSet, sPar, sAsg, sSub, sFldD, iSeq, iCall, wEnum, wRange1, wRange2, wz_tup, eComp, eCompR, eComp2, eComp2R, gN, gT, gTcons, gTnil, tTst, tNotD, tAndD, tOrD, eNotV, eAndV, eOrV, eIf, eNil, eCons, eTup, eLst, eRef, eFrz, eCall, eFn, eMkV_eq, eMk, eFld, eSl, oNone, oSome, eOp2, eOp1, eChain, dAdd, dInt, dIntC, dIntB, dSub, dFdiv, dMod, dPow, dLt, dLe, dGt, dGe, dMul, dMulR, dMulT, dIs, dIx, isNon_oI, isNon_non, isNon_int, isNon_bl, isNon_str, isNon_ty, isNon_tup, isNon_lst, isNon_scr, isNon_dic, isNon_obj, isNon_ref, isNon_glb, isNon_exc, isNon_book, eVar, eC, fLen, fAbs, fInt, fMax2, fMin2, fIntsI, fSorted, fTuple, fList, fListR, eLenSet, eSortedSet, eTupRg, eLstRg, eRefRg, rg1, rg2, tYesD, sRaise, sRaiseF, eM, KD.E, wipeD, ins_book, fget_posts, fget_may, mem_Book, it_tup, it_lst, it_scr, it_ref, it_may, it_fil, it_int, it_str, lo_lst, lo_tup, lo_int, lo_ref, li_lst, li_scr, li_tup, li_ref, true_and, List.set_cons_zero, List.set_cons_succ, List.getElem?_cons_zero, List.getElem?_cons_succ, List.map_cons, List.map_nil, List.length_cons, List.length_nil, List.replicate_succ, List.replicate_zero, List.cons_append, List.nil_append, List.zip_cons_cons, List.zip_nil_left, List.foldl_cons, List.foldl_nil, Nat.reduceSub, Nat.reduceAdd, Nat.zero_add, brB_t, brB_f, Bool.not_true, Bool.not_false, if_true, if_false, Bool.false_eq_true, ↓reduceIte]
  rw [isi_eq hk (by decide), isT_tup]
  have no : rightD may thing = false → A h := fun e => hA h (by
    simp only [dEq_int, dNe_int, dEq_bl, dNe_bl, bodyD, startD, sNext, sBreak, sCont, sDrop, sRet, sRetN, sSet, sPar, sAsg, sSub, sFldD, iSeq, iCall, wEnum, wRange1, wRange2, wz_tup, eComp, eCompR, eComp2, eComp2R, gN, gT, gTcons, gTnil, tTst, tNotD, tAndD, tOrD, eNotV, eAndV, eOrV, eIf, eNil, eCons, eTup, eLst, eRef, eFrz, eCall, eFn, eMkV_eq, eMk, eFld, eSl, oNone, oSome, eOp2, eOp1, eChain, dAdd, dInt, dIntC, dIntB, dSub, dFdiv, dMod, dPow, dLt, dLe, dGt, dGe, dMul, dMulR, dMulT, dIs, dIx, isNon_oI, isNon_non, isNon_int, isNon_bl, isNon_str, isNon_ty, isNon_tup, isNon_lst, isNon_scr, isNon_dic, isNon_obj, isNon_ref, isNon_glb, isNon_exc, isNon_book, eVar, eC, fLen, fAbs, fInt, fMax2, fMin2, fIntsI, fSorted, fTuple, fList, fListR, eLenSet, eSortedSet, eTupRg, eLstRg, eRefRg, rg1, rg2, tYesD, sRaise, sRaiseF, eM, KD.E, wipeD, ins_book, fget_posts, fget_may, mem_Book, it_tup, it_lst, it_scr, it_ref, it_may, it_fil, it_int, it_str, lo_lst, lo_tup, lo_int, lo_ref, li_lst, li_scr, li_tup, li_ref, true_and, List.set_cons_zero, List.set_cons_succ, List.getElem?_cons_zero, List.getElem?_cons_succ, List.map_cons, List.map_nil, List.length_cons, List.length_nil, List.replicate_succ, List.replicate_zero, List.cons_append, List.nil_append, List.zip_cons_cons, List.zip_nil_left, List.foldl_cons, List.foldl_nil, Nat.reduceSub, Nat.reduceAdd, Nat.zero_add, brB_t, brB_f, Bool.not_true, Bool.not_false, if_true, if_false, Bool.false_eq_true, ↓reduceIte]
    rw [e] at q
    exact q)
  cases thing with
  | tup xs =>
    simp only [dEq_int, dNe_int, dEq_bl, dNe_bl, bodyD, startD, sNext, sBreak, sCont, sDrop, sRet, sRetN, sSet, sPar, sAsg, sSub, sFldD, iSeq, iCall, wEnum, wRange1, wRange2, wz_tup, eComp, eCompR, eComp2, eComp2R, gN, gT, gTcons, gTnil, tTst, tNotD, tAndD, tOrD, eNotV, eAndV, eOrV, eIf, eNil, eCons, eTup, eLst, eRef, eFrz, eCall, eFn, eMkV_eq, eMk, eFld, eSl, oNone, oSome, eOp2, eOp1, eChain, dAdd, dInt, dIntC, dIntB, dSub, dFdiv, dMod, dPow, dLt, dLe, dGt, dGe, dMul, dMulR, dMulT, dIs, dIx, isNon_oI, isNon_non, isNon_int, isNon_bl, isNon_str, isNon_ty, isNon_tup, isNon_lst, isNon_scr, isNon_dic, isNon_obj, isNon_ref, isNon_glb, isNon_exc, isNon_book, eVar, eC, fLen, fAbs, fInt, fMax2, fMin2, fIntsI, fSorted, fTuple, fList, fListR, eLenSet, eSortedSet, eTupRg, eLstRg, eRefRg, rg1, rg2, tYesD, sRaise, sRaiseF, eM, KD.E, wipeD, ins_book, fget_posts, fget_may, mem_Book, it_tup, it_lst, it_scr, it_ref, it_may, it_fil, it_int, it_str, lo_lst, lo_tup, lo_int, lo_ref, li_lst, li_scr, li_tup, li_ref, true_and, List.set_cons_zero, List.set_cons_succ, List.getElem?_cons_zero, List.getElem?_cons_succ, List.map_cons, List.map_nil, List.length_cons, List.length_nil, List.replicate_succ, List.replicate_zero, List.cons_append, List.nil_append, List.zip_cons_cons, List.zip_nil_left, List.foldl_cons, List.foldl_nil, Nat.reduceSub, Nat.reduceAdd, Nat.zero_add, brB_t, brB_f, Bool.not_true, Bool.not_false, if_true, if_false, Bool.false_eq_true, ↓reduceIte, Bool.not_true, List.length_map]
    unfold rightD at q no
    simp only at q no
    by_cases hl : xs.length = may.length
    · rw [decide_eq_true hl, Bool.true_and] at q no
      have e0 : ((xs.length : Int) == (may.length : Int)) = true := by simp [hl]
      simp only [e0, Bool.not_true, dEq_int, dNe_int, dEq_bl, dNe_bl, bodyD, startD, sNext, sBreak, sCont, sDrop, sRet, sRetN, sSet, sPar, sAsg, sSub, sFldD, iSeq, iCall, wEnum, wRange1, wRange2, wz_tup, eComp, eCompR, eComp2, eComp2R, gN, gT, gTcons, gTnil, tTst, tNotD, tAndD, tOrD, eNotV, eAndV, eOrV, eIf, eNil, eCons, eTup, eLst, eRef, eFrz, eCall, eFn, eMkV_eq, eMk, eFld, eSl, oNone, oSome, eOp2, eOp1, eChain, dAdd, dInt, dIntC, dIntB, dSub, dFdiv, dMod, dPow, dLt, dLe, dGt, dGe, dMul, dMulR, dMulT, dIs, dIx, isNon_oI, isNon_non, isNon_int, isNon_bl, isNon_str, isNon_ty, isNon_tup, isNon_lst, isNon_scr, isNon_dic, isNon_obj, isNon_ref, isNon_glb, isNon_exc, isNon_book, eVar, eC, fLen, fAbs, fInt, fMax2, fMin2, fIntsI, fSorted, fTuple, fList, fListR, eLenSet, eSortedSet, eTupRg, eLstRg, eRefRg, rg1, rg2, tYesD, sRaise, sRaiseF, eM, KD.E, wipeD, ins_book, fget_posts, fget_may, mem_Book, it_tup, it_lst, it_scr, it_ref, it_may, it_fil, it_int, it_str, lo_lst, lo_tup, lo_int, lo_ref, li_lst, li_scr, li_tup, li_ref, true_and, List.set_cons_zero, List.set_cons_succ, List.getElem?_cons_zero, List.getElem?_cons_succ, List.map_cons, List.map_nil, List.length_cons, List.length_nil, List.replicate_succ, List.replicate_zero, List.cons_append, List.nil_append, List.zip_cons_cons, List.zip_nil_left, List.foldl_cons, List.foldl_nil, Nat.reduceSub, Nat.reduceAdd, Nat.zero_add, brB_t, brB_f, Bool.not_true, Bool.not_false, if_true, if_false, Bool.false_eq_true, ↓reduceIte]
      refine hB h (hN _ _ ?_)
      refine sSeq_i fun N2 hN2 => ?_
      refine sIf_i fun A2 B2 hA2 hB2 => ?_
      simp only [dEq_int, dNe_int, dEq_bl, dNe_bl, bodyD, startD, sNext, sBreak, sCont, sDrop, sRet, sRetN, sSet, sPar, sAsg, sSub, sFldD, iSeq, iCall, wEnum, wRange1, wRange2, wz_tup, eComp, eCompR, eComp2, eComp2R, gN, gT, gTcons, gTnil, tTst, tNotD, tAndD, tOrD, eNotV, eAndV, eOrV, eIf, eNil, eCons, eTup, eLst, eRef, eFrz, eCall, eFn, eMkV_eq, eMk, eFld, eSl, oNone, oSome, eOp2, eOp1, eChain, dAdd, dInt, dIntC, dIntB, dSub, dFdiv, dMod, dPow, dLt, dLe, dGt, dGe, dMul, dMulR, dMulT, dIs, dIx, isNon_oI, isNon_non, isNon_int, isNon_bl, isNon_str, isNon_ty, isNon_tup, isNon_lst, isNon_scr, isNon_dic, isNon_obj, isNon_ref, isNon_glb, isNon_exc, isNon_book, eVar, eC, fLen, fAbs, fInt, fMax2, fMin2, fIntsI, fSorted, fTuple, fList, fListR, eLenSet, eSortedSet, eTupRg, eLstRg, eRefRg, rg1, rg2, tYesD, sRaise, sRaiseF, eM, KD.E, wipeD, ins_book, fget_posts, fget_may, mem_Book, it_tup, it_lst, it_scr, it_ref, it_may, it_fil, it_int, it_str, lo_lst, lo_tup, lo_int, lo_ref, li_lst, li_scr, li_tup, li_ref, true_and, List.set_cons_zero, List.set_cons_succ, List.getElem?_cons_zero, List.getElem?_cons_succ, List.map_cons, List.map_nil, List.length_cons, List.length_nil, List.replicate_succ, List.replicate_zero, List.cons_append, List.nil_append, List.zip_cons_cons, List.zip_nil_left, List.foldl_cons, List.foldl_nil, Nat.reduceSub, Nat.reduceAdd, Nat.zero_add, brB_t, brB_f, Bool.not_true, Bool.not_false, if_true, if_false, Bool.false_eq_true, ↓reduceIte]
      have no2 : (xs.zipIdx.all (fun p => fillsD may p.2 p.1)) = false → A2 h := fun e => hA2 h (by
        simp only [dEq_int, dNe_int, dEq_bl, dNe_bl, bodyD, startD, sNext, sBreak, sCont, sDrop, sRet, sRetN, sSet, sPar, sAsg, sSub, sFldD, iSeq, iCall, wEnum, wRange1, wRange2, wz_tup, eComp, eCompR, eComp2, eComp2R, gN, gT, gTcons, gTnil, tTst, tNotD, tAndD, tOrD, eNotV, eAndV, eOrV, eIf, eNil, eCons, eTup, eLst, eRef, eFrz, eCall, eFn, eMkV_eq, eMk, eFld, eSl, oNone, oSome, eOp2, eOp1, eChain, dAdd, dInt, dIntC, dIntB, dSub, dFdiv, dMod, dPow, dLt, dLe, dGt, dGe, dMul, dMulR, dMulT, dIs, dIx, isNon_oI, isNon_non, isNon_int, isNon_bl, isNon_str, isNon_ty, isNon_tup, isNon_lst, isNon_scr, isNon_dic, isNon_obj, isNon_ref, isNon_glb, isNon_exc, isNon_book, eVar, eC, fLen, fAbs, fInt, fMax2, fMin2, fIntsI, fSorted, fTuple, fList, fListR, eLenSet, eSortedSet, eTupRg, eLstRg, eRefRg, rg1, rg2, tYesD, sRaise, sRaiseF, eM, KD.E, wipeD, ins_book, fget_posts, fget_may, mem_Book, it_tup, it_lst, it_scr, it_ref, it_may, it_fil, it_int, it_str, lo_lst, lo_tup, lo_int, lo_ref, li_lst, li_scr, li_tup, li_ref, true_and, List.set_cons_zero, List.set_cons_succ, List.getElem?_cons_zero, List.getElem?_cons_succ, List.map_cons, List.map_nil, List.length_cons, List.length_nil, List.replicate_succ, List.replicate_zero, List.cons_append, List.nil_append, List.zip_cons_cons, List.zip_nil_left, List.foldl_cons, List.foldl_nil, Nat.reduceSub, Nat.reduceAdd, Nat.zero_add, brB_t, brB_f, Bool.not_true, Bool.not_false, if_true, if_false, Bool.false_eq_true, ↓reduceIte]
        rw [e, Bool.false_and] at q
        exact q)
      rw [enumL_zip]
      refine compL_map (α := D × Nat) _ (fun p => some (.bl (fillsD may p.2 p.1))) trivial ?_ ?_
      · rw [List.nil_append, fm_some, all_bls]
        rcases Bool.eq_false_or_eq_true (xs.zipIdx.all (fun p => fillsD may p.2 p.1)) with e | e
        · simp only [e, Bool.not_true, dEq_int, dNe_int, dEq_bl, dNe_bl, bodyD, startD, sNext, sBreak, sCont, sDrop, sRet, sRetN, sSet, sPar, sAsg, sSub, sFldD, iSeq, iCall, wEnum, wRange1, wRange2, wz_tup, eComp, eCompR, eComp2, eComp2R, gN, gT, gTcons, gTnil, tTst, tNotD, tAndD, tOrD, eNotV, eAndV, eOrV, eIf, eNil, eCons, eTup, eLst, eRef, eFrz, eCall, eFn, eMkV_eq, eMk, eFld, eSl, oNone, oSome, eOp2, eOp1, eChain, dAdd, dInt, dIntC, dIntB, dSub, dFdiv, dMod, dPow, dLt, dLe, dGt, dGe, dMul, dMulR, dMulT, dIs, dIx, isNon_oI, isNon_non, isNon_int, isNon_bl, isNon_str, isNon_ty, isNon_tup, isNon_lst, isNon_scr, isNon_dic, isNon_obj, isNon_ref, isNon_glb, isNon_exc, isNon_book, eVar, eC, fLen, fAbs, fInt, fMax2, fMin2, fIntsI, fSorted, fTuple, fList, fListR, eLenSet, eSortedSet, eTupRg, eLstRg, eRefRg, rg1, rg2, tYesD, sRaise, sRaiseF, eM, KD.E, wipeD, ins_book, fget_posts, fget_may, mem_Book, it_tup, it_lst, it_scr, it_ref, it_may, it_fil, it_int, it_str, lo_lst, lo_tup, lo_int, lo_ref, li_lst, li_scr, li_tup, li_ref, true_and, List.set_cons_zero, List.set_cons_succ, List.getElem?_cons_zero, List.getElem?_cons_succ, List.map_cons, List.map_nil, List.length_cons, List.length_nil, List.replicate_succ, List.replicate_zero, List.cons_append, List.nil_append, List.zip_cons_cons, List.zip_nil_left, List.foldl_cons, List.foldl_nil, Nat.reduceSub, Nat.reduceAdd, Nat.zero_add, brB_t, brB_f, Bool.not_true, Bool.not_false, if_true, if_false, Bool.false_eq_true, ↓reduceIte]
          rw [e, Bool.true_and] at q
          refine hB2 h (hN2 _ _ ?_)
          refine sSeq_i fun N3 hN3 => ?_
          simp only [dEq_int, dNe_int, dEq_bl, dNe_bl, bodyD, startD, sNext, sBreak, sCont, sDrop, sRet, sRetN, sSet, sPar, sAsg, sSub, sFldD, iSeq, iCall, wEnum, wRange1, wRange2, wz_tup, eComp, eCompR, eComp2, eComp2R, gN, gT, gTcons, gTnil, tTst, tNotD, tAndD, tOrD, eNotV, eAndV, eOrV, eIf, eNil, eCons, eTup, eLst, eRef, eFrz, eCall, eFn, eMkV_eq, eMk, eFld, eSl, oNone, oSome, eOp2, eOp1, eChain, dAdd, dInt, dIntC, dIntB, dSub, dFdiv, dMod, dPow, dLt, dLe, dGt, dGe, dMul, dMulR, dMulT, dIs, dIx, isNon_oI, isNon_non, isNon_int, isNon_bl, isNon_str, isNon_ty, isNon_tup, isNon_lst, isNon_scr, isNon_dic, isNon_obj, isNon_ref, isNon_glb, isNon_exc, isNon_book, eVar, eC, fLen, fAbs, fInt, fMax2, fMin2, fIntsI, fSorted, fTuple, fList, fListR, eLenSet, eSortedSet, eTupRg, eLstRg, eRefRg, rg1, rg2, tYesD, sRaise, sRaiseF, eM, KD.E, wipeD, ins_book, fget_posts, fget_may, mem_Book, it_tup, it_lst, it_scr, it_ref, it_may, it_fil, it_int, it_str, lo_lst, lo_tup, lo_int, lo_ref, li_lst, li_scr, li_tup, li_ref, true_and, List.set_cons_zero, List.set_cons_succ, List.getElem?_cons_zero, List.getElem?_cons_succ, List.map_cons, List.map_nil, List.length_cons, List.length_nil, List.replicate_succ, List.replicate_zero, List.cons_append, List.nil_append, List.zip_cons_cons, List.zip_nil_left, List.foldl_cons, List.foldl_nil, Nat.reduceSub, Nat.reduceAdd, Nat.zero_add, brB_t, brB_f, Bool.not_true, Bool.not_false, if_true, if_false, Bool.false_eq_true, ↓reduceIte]
          rw [← List.map_id xs]
          refine compL_map (α := D) id (fun x => if isNon x then none else some x) trivial ?_ ?_
          · rw [List.nil_append, told_ints e]
            refine hN3 _ _ ?_
            have hi : intsIn (.lst ((xs.filterMap isI).map .int)) h = some (xs.filterMap isI) := by
              unfold intsIn
              rw [it_lst]
              exact intsOf_map _
            have hz : (xs.filterMap isI).length ≤ 1000 := Nat.le_trans filterMap_len (by omega)
            simp only [dEq_int, dNe_int, dEq_bl, dNe_bl, bodyD, startD, sNext, sBreak, sCont, sDrop, sRet, sRetN, sSet, sPar, sAsg, sSub, sFldD, iSeq, iCall, wEnum, wRange1, wRange2, wz_tup, eComp, eCompR, eComp2, eComp2R, gN, gT, gTcons, gTnil, tTst, tNotD, tAndD, tOrD, eNotV, eAndV, eOrV, eIf, eNil, eCons, eTup, eLst, eRef, eFrz, eCall, eFn, eMkV_eq, eMk, eFld, eSl, oNone, oSome, eOp2, eOp1, eChain, dAdd, dInt, dIntC, dIntB, dSub, dFdiv, dMod, dPow, dLt, dLe, dGt, dGe, dMul, dMulR, dMulT, dIs, dIx, isNon_oI, isNon_non, isNon_int, isNon_bl, isNon_str, isNon_ty, isNon_tup, isNon_lst, isNon_scr, isNon_dic, isNon_obj, isNon_ref, isNon_glb, isNon_exc, isNon_book, eVar, eC, fLen, fAbs, fInt, fMax2, fMin2, fIntsI, fSorted, fTuple, fList, fListR, eLenSet, eSortedSet, eTupRg, eLstRg, eRefRg, rg1, rg2, tYesD, sRaise, sRaiseF, eM, KD.E, wipeD, ins_book, fget_posts, fget_may, mem_Book, it_tup, it_lst, it_scr, it_ref, it_may, it_fil, it_int, it_str, lo_lst, lo_tup, lo_int, lo_ref, li_lst, li_scr, li_tup, li_ref, true_and, List.set_cons_zero, List.set_cons_succ, List.getElem?_cons_zero, List.getElem?_cons_succ, List.map_cons, List.map_nil, List.length_cons, List.length_nil, List.replicate_succ, List.replicate_zero, List.cons_append, List.nil_append, List.zip_cons_cons, List.zip_nil_left, List.foldl_cons, List.foldl_nil, Nat.reduceSub, Nat.reduceAdd, Nat.zero_add, brB_t, brB_f, Bool.not_true, Bool.not_false, if_true, if_false, Bool.false_eq_true, ↓reduceIte, hi, hz, List.length_map]
            have e3 : (((dedI (xs.filterMap isI)).length : Int) == ((xs.filterMap isI).length : Int)) = decide (xs.filterMap isI).Nodup := by
              by_cases hn : (xs.filterMap isI).Nodup
              · rw [decide_eq_true hn, dedI_of_nodup hn]; simp
              · rw [decide_eq_false hn]
                have : (dedI (xs.filterMap isI)).length ≠ (xs.filterMap isI).length := fun e => hn (dedI_len.mp e)
                simp only [beq_eq_false_iff_ne, ne_eq]
                omega
            rw [e3]
            exact q
          · intro x _ N acc hN
            simp only [dEq_int, dNe_int, dEq_bl, dNe_bl, bodyD, startD, sNext, sBreak, sCont, sDrop, sRet, sRetN, sSet, sPar, sAsg, sSub, sFldD, iSeq, iCall, wEnum, wRange1, wRange2, wz_tup, eComp, eCompR, eComp2, eComp2R, gN, gT, gTcons, gTnil, tTst, tNotD, tAndD, tOrD, eNotV, eAndV, eOrV, eIf, eNil, eCons, eTup, eLst, eRef, eFrz, eCall, eFn, eMkV_eq, eMk, eFld, eSl, oNone, oSome, eOp2, eOp1, eChain, dAdd, dInt, dIntC, dIntB, dSub, dFdiv, dMod, dPow, dLt, dLe, dGt, dGe, dMul, dMulR, dMulT, dIs, dIx, isNon_oI, isNon_non, isNon_int, isNon_bl, isNon_str, isNon_ty, isNon_tup, isNon_lst, isNon_scr, isNon_dic, isNon_obj, isNon_ref, isNon_glb, isNon_exc, isNon_book, eVar, eC, fLen, fAbs, fInt, fMax2, fMin2, fIntsI, fSorted, fTuple, fList, fListR, eLenSet, eSortedSet, eTupRg, eLstRg, eRefRg, rg1, rg2, tYesD, sRaise, sRaiseF, eM, KD.E, wipeD, ins_book, fget_posts, fget_may, mem_Book, it_tup, it_lst, it_scr, it_ref, it_may, it_fil, it_int, it_str, lo_lst, lo_tup, lo_int, lo_ref, li_lst, li_scr, li_tup, li_ref, true_and, List.set_cons_zero, List.set_cons_succ, List.getElem?_cons_zero, List.getElem?_cons_succ, List.map_cons, List.map_nil, List.length_cons, List.length_nil, List.replicate_succ, List.replicate_zero, List.cons_append, List.nil_append, List.zip_cons_cons, List.zip_nil_left, List.foldl_cons, List.foldl_nil, Nat.reduceSub, Nat.reduceAdd, Nat.zero_add, brB_t, brB_f, Bool.not_true, Bool.not_false, if_true, if_false, Bool.false_eq_true, ↓reduceIte, id]
            cases x <;> exact hN
        · simp only [e, Bool.not_false, dEq_int, dNe_int, dEq_bl, dNe_bl, bodyD, startD, sNext, sBreak, sCont, sDrop, sRet, sRetN, sSet, sPar, sAsg, sSub, sFldD, iSeq, iCall, wEnum, wRange1, wRange2, wz_tup, eComp, eCompR, eComp2, eComp2R, gN, gT, gTcons, gTnil, tTst, tNotD, tAndD, tOrD, eNotV, eAndV, eOrV, eIf, eNil, eCons, eTup, eLst, eRef, eFrz, eCall, eFn, eMkV_eq, eMk, eFld, eSl, oNone, oSome, eOp2, eOp1, eChain, dAdd, dInt, dIntC, dIntB, dSub, dFdiv, dMod, dPow, dLt, dLe, dGt, dGe, dMul, dMulR, dMulT, dIs, dIx, isNon_oI, isNon_non, isNon_int, isNon_bl, isNon_str, isNon_ty, isNon_tup, isNon_lst, isNon_scr, isNon_dic, isNon_obj, isNon_ref, isNon_glb, isNon_exc, isNon_book, eVar, eC, fLen, fAbs, fInt, fMax2, fMin2, fIntsI, fSorted, fTuple, fList, fListR, eLenSet, eSortedSet, eTupRg, eLstRg, eRefRg, rg1, rg2, tYesD, sRaise, sRaiseF, eM, KD.E, wipeD, ins_book, fget_posts, fget_may, mem_Book, it_tup, it_lst, it_scr, it_ref, it_may, it_fil, it_int, it_str, lo_lst, lo_tup, lo_int, lo_ref, li_lst, li_scr, li_tup, li_ref, true_and, List.set_cons_zero, List.set_cons_succ, List.getElem?_cons_zero, List.getElem?_cons_succ, List.map_cons, List.map_nil, List.length_cons, List.length_nil, List.replicate_succ, List.replicate_zero, List.cons_append, List.nil_append, List.zip_cons_cons, List.zip_nil_left, List.foldl_cons, List.foldl_nil, Nat.reduceSub, Nat.reduceAdd, Nat.zero_add, brB_t, brB_f, Bool.not_true, Bool.not_false, if_true, if_false, Bool.false_eq_true, ↓reduceIte]
          exact no2 e
      · intro p hp N acc hN
        simp only [dEq_int, dNe_int, dEq_bl, dNe_bl, bodyD, startD, sNext, sBreak, sCont, sDrop, sRet, sRetN, sSet, sPar, sAsg, sSub, sFldD, iSeq, iCall, wEnum, wRange1, wRange2, wz_tup, eComp, eCompR, eComp2, eComp2R, gN, gT, gTcons, gTnil, tTst, tNotD, tAndD, tOrD, eNotV, eAndV, eOrV, eIf, eNil, eCons, eTup, eLst, eRef, eFrz, eCall, eFn, eMkV_eq, eMk, eFld, eSl, oNone, oSome, eOp2, eOp1, eChain, dAdd, dInt, dIntC, dIntB, dSub, dFdiv, dMod, dPow, dLt, dLe, dGt, dGe, dMul, dMulR, dMulT, dIs, dIx, isNon_oI, isNon_non, isNon_int, isNon_bl, isNon_str, isNon_ty, isNon_tup, isNon_lst, isNon_scr, isNon_dic, isNon_obj, isNon_ref, isNon_glb, isNon_exc, isNon_book, eVar, eC, fLen, fAbs, fInt, fMax2, fMin2, fIntsI, fSorted, fTuple, fList, fListR, eLenSet, eSortedSet, eTupRg, eLstRg, eRefRg, rg1, rg2, tYesD, sRaise, sRaiseF, eM, KD.E, wipeD, ins_book, fget_posts, fget_may, mem_Book, it_tup, it_lst, it_scr, it_ref, it_may, it_fil, it_int, it_str, lo_lst, lo_tup, lo_int, lo_ref, li_lst, li_scr, li_tup, li_ref, true_and, List.set_cons_zero, List.set_cons_succ, List.getElem?_cons_zero, List.getElem?_cons_succ, List.map_cons, List.map_nil, List.length_cons, List.length_nil, List.replicate_succ, List.replicate_zero, List.cons_append, List.nil_append, List.zip_cons_cons, List.zip_nil_left, List.foldl_cons, List.foldl_nil, Nat.reduceSub, Nat.reduceAdd, Nat.zero_add, brB_t, brB_f, Bool.not_true, Bool.not_false, if_true, if_false, Bool.false_eq_true, ↓reduceIte]
        have hx := mem_zipIdx0 hp
        refine ⟨posts, may, p.2, p.1, rfl, hks xs rfl _ (List.mem_of_getElem? hx), ?_, hN⟩
        have := (List.getElem?_eq_some_iff.mp hx).1
        omega
    · have e0 : ((xs.length : Int) == (may.length : Int)) = false := by
        simp only [beq_eq_false_iff_ne, ne_eq]
        omega
      simp only [e0, Bool.not_false, dEq_int, dNe_int, dEq_bl, dNe_bl, bodyD, startD, sNext, sBreak, sCont, sDrop, sRet, sRetN, sSet, sPar, sAsg, sSub, sFldD, iSeq, iCall, wEnum, wRange1, wRange2, wz_tup, eComp, eCompR, eComp2, eComp2R, gN, gT, gTcons, gTnil, tTst, tNotD, tAndD, tOrD, eNotV, eAndV, eOrV, eIf, eNil, eCons, eTup, eLst, eRef, eFrz, eCall, eFn, eMkV_eq, eMk, eFld, eSl, oNone, oSome, eOp2, eOp1, eChain, dAdd, dInt, dIntC, dIntB, dSub, dFdiv, dMod, dPow, dLt, dLe, dGt, dGe, dMul, dMulR, dMulT, dIs, dIx, isNon_oI, isNon_non, isNon_int, isNon_bl, isNon_str, isNon_ty, isNon_tup, isNon_lst, isNon_scr, isNon_dic, isNon_obj, isNon_ref, isNon_glb, isNon_exc, isNon_book, eVar, eC, fLen, fAbs, fInt, fMax2, fMin2, fIntsI, fSorted, fTuple, fList, fListR, eLenSet, eSortedSet, eTupRg, eLstRg, eRefRg, rg1, rg2, tYesD, sRaise, sRaiseF, eM, KD.E, wipeD, ins_book, fget_posts, fget_may, mem_Book, it_tup, it_lst, it_scr, it_ref, it_may, it_fil, it_int, it_str, lo_lst, lo_tup, lo_int, lo_ref, li_lst, li_scr, li_tup, li_ref, true_and, List.set_cons_zero, List.set_cons_succ, List.getElem?_cons_zero, List.getElem?_cons_succ, List.map_cons, List.map_nil, List.length_cons, List.length_nil, List.replicate_succ, List.replicate_zero, List.cons_append, List.nil_append, List.zip_cons_cons, List.zip_nil_left, List.foldl_cons, List.foldl_nil, Nat.reduceSub, Nat.reduceAdd, Nat.zero_add, brB_t, brB_f, Bool.not_true, Bool.not_false, if_true, if_false, Bool.false_eq_true, ↓reduceIte]
      exact no (by rw [decide_eq_false hl]; rfl)
  | _ =>
    simp only [dEq_int, dNe_int, dEq_bl, dNe_bl, bodyD, startD, sNext, sBreak, sCont, sDrop, sRet, sRetN, sSet, sPar, sAsg, sSub, sFldD, iSeq, iCall, wEnum, wRange1, wRange2, wz_tup, eComp, eCompR, eComp2, eComp2R, gN, gT, gTcons, gTnil, tTst, tNotD, tAndD, tOrD, eNotV, eAndV, eOrV, eIf, eNil, eCons, eTup, eLst, eRef, eFrz, eCall, eFn, eMkV_eq, eMk, eFld, eSl, oNone, oSome, eOp2, eOp1, eChain, dAdd, dInt, dIntC, dIntB, dSub, dFdiv, dMod, dPow, dLt, dLe, dGt, dGe, dMul, dMulR, dMulT, dIs, dIx, isNon_oI, isNon_non, isNon_int, isNon_bl, isNon_str, isNon_ty, isNon_tup, isNon_lst, isNon_scr, isNon_dic, isNon_obj, isNon_ref, isNon_glb, isNon_exc, isNon_book, eVar, eC, fLen, fAbs, fInt, fMax2, fMin2, fIntsI, fSorted, fTuple, fList, fListR, eLenSet, eSortedSet, eTupRg, eLstRg, eRefRg, rg1, rg2, tYesD, sRaise, sRaiseF, eM, KD.E, wipeD, ins_book, fget_posts, fget_may, mem_Book, it_tup, it_lst, it_scr, it_ref, it_may, it_fil, it_int, it_str, lo_lst, lo_tup, lo_int, lo_ref, li_lst, li_scr, li_tup, li_ref, true_and, List.set_cons_zero, List.set_cons_succ, List.getElem?_cons_zero, List.getElem?_cons_succ, List.map_cons, List.map_nil, List.length_cons, List.length_nil, List.replicate_succ, List.replicate_zero, List.cons_append, List.nil_append, List.zip_cons_cons, List.zip_nil_left, List.foldl_cons, List.foldl_nil, Nat.reduceSub, Nat.reduceAdd, Nat.zero_add, brB_t, brB_f, Bool.not_true, Bool.not_false, if_true, if_false, Bool.false_eq_true, ↓reduceIte, Bool.not_false]
    exact no rfl
/-! check_filling -/
def t_check_filling : TSD :=
    (sSeq (sDrop (eFn sp_check_book (eCons (eVar 0) eNil)))
    (sIf (tNotD (tTst (eFn sp_is_right (eCons (eVar 0) (eCons (eVar 1) eNil))))) (sRaise "BadFilling") sNext))
theorem right_len {may : List (List Int)} {f : List (Option Int)} (h : rightD may (filD f) = true) : f.length = may.length := by
  unfold rightD filD at h
  simp only [Bool.and_eq_true, decide_eq_true_eq, List.length_map] at h
  exact h.1.1
theorem kn_fil {f : List (Option Int)} {h : DH} : Kn (filD f) h := .inl ⟨_, rfl⟩
theorem kn_fils {f : List (Option Int)} {h : DH} {xs : List D} (e : filD f = .tup xs) : ∀ y ∈ xs, Kn y h := by
  unfold filD at e
  cases e
  intro y hy
  obtain ⟨o, _, rfl⟩ := List.mem_map.mp hy
  exact kn_oI
def sp_check_filling : SpD := fun ds h Q E => ∃ posts may thing, ds = [bookD posts may, thing] ∧ Kn thing h ∧ (∀ xs, thing = .tup xs → ∀ y ∈ xs, Kn y h) ∧ may.length ≤ 1000 ∧ if rightD may thing = true then Q .non h else E "BadFilling" [] [] h
theorem pl_check_filling (ds : List D) (h : DH) (Q : VD) (E : ED) (w : sp_check_filling ds h Q E) : bodyD 2 t_check_filling ds h Q E := by
  obtain ⟨posts, may, thing, rfl, hk, hks, hlen, q⟩ := w
  unfold t_check_filling bodyD
  refine sSeq_i fun N hN => ?_
  simp only [dEq_int, dNe_int, dEq_bl, dNe_bl, bodyD, startD, sNext, sBreak, sCont, sDrop, sRet, sRetN, sSet, sPar, sAsg, sSub, sFldD, iSeq, iCall, wEnum, wRange1, wRange2, wz_tup, eComp, eCompR, eComp2, eComp2R, gN, gT, gTcons, gTnil, tTst, tNotD, tAndD, tOrD, eNotV, eAndV, eOrV, eIf, eNil, eCons, eTup, eLst, eRef, eFrz, eCall, eFn, eMkV_eq, eMk, eFld, eSl, oNone, oSome, eOp2, eOp1, eChain, dAdd, dInt, dIntC, dIntB, dSub, dFdiv, dMod, dPow, dLt, dLe, dGt, dGe, dMul, dMulR, dMulT, dIs, dIx, isNon_oI, isNon_non, isNon_int, isNon_bl, isNon_str, isNon_ty, isNon_tup, isNon_lst, isNon_scr, isNon_dic, isNon_obj, isNon_ref, isNon_glb, isNon_exc, isNon_book, eVar, eC, fLen, fAbs, fInt, fMax2, fMin2, fIntsI, fSorted, fTuple, fList, fListR, eLenSet, eSortedSet, eTupRg, eLstRg, eRefRg, rg1, rg2, tYesD, sRaise, sRaiseF, eM, KD.E, wipeD, ins_book, fget_posts, fget_may, mem_Book, it_tup, it_lst, it_scr, it_ref, it_may, it_fil, it_int, it_str, lo_lst, lo_tup, lo_int, lo_ref, li_lst, li_scr, li_tup, li_ref, true_and, List.set_cons_zero, List.set_cons_succ, List.getElem?_cons_zero, List.getElem?_cons_succ, List.map_cons, List.map_nil, List.length_cons, List.length_nil, List.replicate_succ, List.replicate_zero, List.cons_append, List.nil_append, List.zip_cons_cons, List.zip_nil_left, List.foldl_cons, List.foldl_nil, Nat.reduceSub, Nat.reduceAdd, Nat.zero_add, brB_t, brB_f, Bool.not_true, Bool.not_false, if_true, if_false, Bool.false_eq_true, ↓reduceIte]
  refine ⟨_, rfl, kn_book, ?_⟩
  rw [show isBook (bookD posts may) h = true from rfl, if_pos rfl]
  refine hN _ _ ?_
  refine sIf_i fun A B hA hB => ?_
  simp only [dEq_int, dNe_int, dEq_bl, dNe_bl, bodyD, startD, sNext, sBreak, sCont, sDrop, sRet, sRetN, sSet, sPar, sAsg, sSub, sFldD, iSeq, iCall, wEnum, wRange1, wRange2, wz_tup, eComp, eCompR, eComp2, eComp2R, gN, gT, gTcons, gTnil, tTst, tNotD, tAndD, tOrD, eNotV, eAndV, eOrV, eIf, eNil, eCons, eTup, eLst, eRef, eFrz, eCall, eFn, eMkV_eq, eMk, eFld, eSl, oNone, oSome, eOp2, eOp1, eChain, dAdd, dInt, dIntC, dIntB, dSub, dFdiv, dMod, dPow, dLt, dLe, dGt, dGe, dMul, dMulR, dMulT, dIs, dIx, isNon_oI, isNon_non, isNon_int, isNon_bl, isNon_str, isNon_ty, isNon_tup, isNon_lst, isNon_scr, isNon_dic, isNon_obj, isNon_ref, isNon_glb, isNon_exc, isNon_book, eVar, eC, fLen, fAbs, fInt, fMax2, fMin2, fIntsI, fSorted, fTuple, fList, fListR, eLenSet, eSortedSet, eTupRg, eLstRg, eRefRg, rg1, rg2, tYesD, sRaise, sRaiseF, eM, KD.E, wipeD, ins_book, fget_posts, fget_may, mem_Book, it_tup, it_lst, it_scr, it_ref, it_may, it_fil, it_int, it_str, lo_lst, lo_tup, lo_int, lo_ref, li_lst, li_scr, li_tup, li_ref, true_and, List.set_cons_zero, List.set_cons_succ, List.getElem?_cons_zero, List.getElem?_cons_succ, List.map_cons, List.map_nil, List.length_cons, List.length_nil, List.replicate_succ, List.replicate_zero, List.cons_append, List.nil_append, List.zip_cons_cons, List.zip_nil_left, List.foldl_cons, List.foldl_nil, Nat.reduceSub, Nat.reduceAdd, Nat.zero_add, brB_t, brB_f, Bool.not_true, Bool.not_false, if_true, if_false, Bool.false_eq_true, ↓reduceIte]
  refine ⟨posts, may, thing, rfl, hk, hks, hlen, ?_⟩
  rcases Bool.eq_false_or_eq_true (rightD may thing) with e | e
  · simp only [e, dEq_int, dNe_int, dEq_bl, dNe_bl, bodyD, startD, sNext, sBreak, sCont, sDrop, sRet, sRetN, sSet, sPar, sAsg, sSub, sFldD, iSeq, iCall, wEnum, wRange1, wRange2, wz_tup, eComp, eCompR, eComp2, eComp2R, gN, gT, gTcons, gTnil, tTst, tNotD, tAndD, tOrD, eNotV, eAndV, eOrV, eIf, eNil, eCons, eTup, eLst, eRef, eFrz, eCall, eFn, eMkV_eq, eMk, eFld, eSl, oNone, oSome, eOp2, eOp1, eChain, dAdd, dInt, dIntC, dIntB, dSub, dFdiv, dMod, dPow, dLt, dLe, dGt, dGe, dMul, dMulR, dMulT, dIs, dIx, isNon_oI, isNon_non, isNon_int, isNon_bl, isNon_str, isNon_ty, isNon_tup, isNon_lst, isNon_scr, isNon_dic, isNon_obj, isNon_ref, isNon_glb, isNon_exc, isNon_book, eVar, eC, fLen, fAbs, fInt, fMax2, fMin2, fIntsI, fSorted, fTuple, fList, fListR, eLenSet, eSortedSet, eTupRg, eLstRg, eRefRg, rg1, rg2, tYesD, sRaise, sRaiseF, eM, KD.E, wipeD, ins_book, fget_posts, fget_may, mem_Book, it_tup, it_lst, it_scr, it_ref, it_may, it_fil, it_int, it_str, lo_lst, lo_tup, lo_int, lo_ref, li_lst, li_scr, li_tup, li_ref, true_and, List.set_cons_zero, List.set_cons_succ, List.getElem?_cons_zero, List.getElem?_cons_succ, List.map_cons, List.map_nil, List.length_cons, List.length_nil, List.replicate_succ, List.replicate_zero, List.cons_append, List.nil_append, List.zip_cons_cons, List.zip_nil_left, List.foldl_cons, List.foldl_nil, Nat.reduceSub, Nat.reduceAdd, Nat.zero_add, brB_t, brB_f, Bool.not_true, Bool.not_false, if_true, if_false, Bool.false_eq_true, ↓reduceIte, Bool.not_true] at q ⊢
    exact hB h q
  · simp only [e, dEq_int, dNe_int, dEq_bl, dNe_bl, bodyD, startD, sNext, sBreak, sCont, sDrop, sRet, sRetN, sSet, sPar, sAsg, sSub, sFldD, iSeq, iCall, wEnum, wRange1, wRange2, wz_tup, eComp, eCompR, eComp2, eComp2R, gN, gT, gTcons, gTnil, tTst, tNotD, tAndD, tOrD, eNotV, eAndV, eOrV, eIf, eNil, eCons, eTup, eLst, eRef, eFrz, eCall, eFn, eMkV_eq, eMk, eFld, eSl, oNone, oSome, eOp2, eOp1, eChain, dAdd, dInt, dIntC, dIntB, dSub, dFdiv, dMod, dPow, dLt, dLe, dGt, dGe, dMul, dMulR, dMulT, dIs, dIx, isNon_oI, isNon_non, isNon_int, isNon_bl, isNon_str, isNon_ty, isNon_tup, isNon_lst, isNon_scr, isNon_dic, isNon_obj, isNon_ref, isNon_glb, isNon_exc, isNon_book, eVar, eC, fLen, fAbs, fInt, fMax2, fMin2, fIntsI, fSorted, fTuple, fList, fListR, eLenSet, eSortedSet, eTupRg, eLstRg, eRefRg, rg1, rg2, tYesD, sRaise, sRaiseF, eM, KD.E, wipeD, ins_book, fget_posts, fget_may, mem_Book, it_tup, it_lst, it_scr, it_ref, it_may, it_fil, it_int, it_str, lo_lst, lo_tup, lo_int, lo_ref, li_lst, li_scr, li_tup, li_ref, true_and, List.set_cons_zero, List.set_cons_succ, List.getElem?_cons_zero, List.getElem?_cons_succ, List.map_cons, List.map_nil, List.length_cons, List.length_nil, List.replicate_succ, List.replicate_zero, List.cons_append, List.nil_append, List.zip_cons_cons, List.zip_nil_left, List.foldl_cons, List.foldl_nil, Nat.reduceSub, Nat.reduceAdd, Nat.zero_add, brB_t, brB_f, Bool.not_true, Bool.not_false, if_true, if_false, Bool.false_eq_true, ↓reduceIte, Bool.not_false] at q ⊢
    exact hA h q
/-! is_form -/
def t_is_form : TSD :=
    (sSeq (sIf (tOrD (tNotD (tTst (eCall (fIsi ["Book"]) (eCons (eVar 1) (eCons (eC (.ty "tuple")) eNil))))) (tNotD (tTst (eChain dLe dLe (eC (.int 2)) (eCall fLen (eCons (eVar 1) eNil)) (eC (.int 12)))))) (sRet (eC (.bl false))) sNext)
    (sSeq (sIf (tNotD (tTst (eCall (fAll fun bs => bs.all id) (eCons (eComp (iSeq (eVar 1)) (gN 2) tYesD (eFn sp_is_within (eCons (eVar 2) (eCons (eC (.int 0)) (eCons (eOp2 dSub (eCall fLen (eCons (eFld ["Book"] "may" (eVar 0)) eNil)) (eC (.int 1))) eNil)))) [2]) eNil)))) (sRet (eC (.bl false))) sNext)
    (sRet (eAndV (eOp2 dEq (eLenSet (eVar 1)) (eCall fLen (eCons (eVar 1) eNil))) (eOp2 dEq (eOp2 dIx (eVar 1) (eC (.int 0))) (eCall (fIntsI minL) (eCons (eVar 1) eNil)))))))
/-- whether numbers are an exchange's form, of so many persons -/
def formI (n : Nat) (ns : List Int) : Bool := decide (2 ≤ ns.length ∧ ns.length ≤ 12) && ns.all (fun i => wiD (.int i) 0 ((n : Int) - 1)) && decide ns.Nodup && (ns.headD 0 == minL ns)
def formD (n : Nat) (thing : D) : Bool := match thing with
  | .tup xs => match intsOf xs with
    | some ns => formI n ns
    | none => false
  | _ => false
theorem intsOf_len : ∀ {xs : List D} {ns : List Int}, intsOf xs = some ns → xs.length = ns.length := fun h => by rw [intsOf_some h, List.length_map]
def sp_is_form : SpD := fun ds h Q _ => ∃ posts may thing, ds = [bookD posts may, thing] ∧ Kn thing h ∧ (∀ xs, thing = .tup xs → ∀ y ∈ xs, Kn y h) ∧ Q (.bl (formD may.length thing)) h
theorem pl_is_form (ds : List D) (h : DH) (Q : VD) (E : ED) (w : sp_is_form ds h Q E) : bodyD 3 t_is_form ds h Q E := by
  obtain ⟨posts, may, thing, rfl, hk, hks, q⟩ := w
  unfold t_is_form bodyD
  refine sSeq_i fun N hN => ?_
  refine sIf_i fun A B hA hB => ?_
  simp only [dEq_int, dNe_int, dEq_bl, dNe_bl, bodyD, startD, sNext, sBreak, sCont, sDrop, sRet, sRetN, sSet, sPar, sAsg, sSub, sFldD, iSeq, iCall, wEnum, wRange1, wRange2, wz_tup, eComp, eCompR, eComp2, eComp2R, gN, gT, gTcons, gTnil, tTst, tNotD, tAndD, tOrD, eNotV, eAndV, eOrV, eIf, eNil, eCons, eTup, eLst, eRef, eFrz, eCall, eFn, eMkV_eq, eMk, eFld, eSl, oNone, oSome, eOp2, eOp1, eChain, dAdd, dInt, dIntC, dIntB, dSub, dFdiv, dMod, dPow, dLt, dLe, dGt, dGe, dMul, dMulR, dMulT, dIs, dIx, isNon_oI, isNon_non, isNon_int, isNon_bl, isNon_str, isNon_ty, isNon_tup, isNon_lst, isNon_scr, isNon_dic, isNon_obj, isNon_ref, isNon_glb, isNon_exc, isNon_book, eVar, eC, fLen, fAbs, fInt, fMax2, fMin2, fIntsI, fSorted, fTuple, fList, fListR, eLenSet, eSortedSet, eTupRg, eLstRg, eRefRg, rg1, rg2, tYesD, sRaise, sRaiseF, eM, KD.E, wipeD, ins_book, fget_posts, fget_may, mem_Book, it_tup, it_lst, it_scr, it_ref, it_may, it_fil, it_int, it_str, lo_lst, lo_tup, lo_int, lo_ref, li_lst, li_scr, li_tup, li_ref, true_and, List.set_cons_zero, List.set_cons_succ, List.getElem?_cons_zero, List.getElem?_cons_succ, List.map_cons, List.map_nil, List.length_cons, List.length_nil, List.replicate_succ, List.replicate_zero, List.cons_append, List.nil_append, List.zip_cons_cons, List.zip_nil_left, List.foldl_cons, List.foldl_nil, Nat.reduceSub, Nat.reduceAdd, Nat.zero_add, brB_t, brB_f, Bool.not_true, Bool.not_false, if_true, if_false, Bool.false_eq_true, ↓reduceIte]
  rw [isi_eq hk (by decide), isT_tup]
  have no : formD may.length thing = false → A h := fun e => hA h (by
    simp only [dEq_int, dNe_int, dEq_bl, dNe_bl, bodyD, startD, sNext, sBreak, sCont, sDrop, sRet, sRetN, sSet, sPar, sAsg, sSub, sFldD, iSeq, iCall, wEnum, wRange1, wRange2, wz_tup, eComp, eCompR, eComp2, eComp2R, gN, gT, gTcons, gTnil, tTst, tNotD, tAndD, tOrD, eNotV, eAndV, eOrV, eIf, eNil, eCons, eTup, eLst, eRef, eFrz, eCall, eFn, eMkV_eq, eMk, eFld, eSl, oNone, oSome, eOp2, eOp1, eChain, dAdd, dInt, dIntC, dIntB, dSub, dFdiv, dMod, dPow, dLt, dLe, dGt, dGe, dMul, dMulR, dMulT, dIs, dIx, isNon_oI, isNon_non, isNon_int, isNon_bl, isNon_str, isNon_ty, isNon_tup, isNon_lst, isNon_scr, isNon_dic, isNon_obj, isNon_ref, isNon_glb, isNon_exc, isNon_book, eVar, eC, fLen, fAbs, fInt, fMax2, fMin2, fIntsI, fSorted, fTuple, fList, fListR, eLenSet, eSortedSet, eTupRg, eLstRg, eRefRg, rg1, rg2, tYesD, sRaise, sRaiseF, eM, KD.E, wipeD, ins_book, fget_posts, fget_may, mem_Book, it_tup, it_lst, it_scr, it_ref, it_may, it_fil, it_int, it_str, lo_lst, lo_tup, lo_int, lo_ref, li_lst, li_scr, li_tup, li_ref, true_and, List.set_cons_zero, List.set_cons_succ, List.getElem?_cons_zero, List.getElem?_cons_succ, List.map_cons, List.map_nil, List.length_cons, List.length_nil, List.replicate_succ, List.replicate_zero, List.cons_append, List.nil_append, List.zip_cons_cons, List.zip_nil_left, List.foldl_cons, List.foldl_nil, Nat.reduceSub, Nat.reduceAdd, Nat.zero_add, brB_t, brB_f, Bool.not_true, Bool.not_false, if_true, if_false, Bool.false_eq_true, ↓reduceIte]
    rw [e] at q
    exact q)
  cases thing with
  | tup xs =>
    simp only [dEq_int, dNe_int, dEq_bl, dNe_bl, bodyD, startD, sNext, sBreak, sCont, sDrop, sRet, sRetN, sSet, sPar, sAsg, sSub, sFldD, iSeq, iCall, wEnum, wRange1, wRange2, wz_tup, eComp, eCompR, eComp2, eComp2R, gN, gT, gTcons, gTnil, tTst, tNotD, tAndD, tOrD, eNotV, eAndV, eOrV, eIf, eNil, eCons, eTup, eLst, eRef, eFrz, eCall, eFn, eMkV_eq, eMk, eFld, eSl, oNone, oSome, eOp2, eOp1, eChain, dAdd, dInt, dIntC, dIntB, dSub, dFdiv, dMod, dPow, dLt, dLe, dGt, dGe, dMul, dMulR, dMulT, dIs, dIx, isNon_oI, isNon_non, isNon_int, isNon_bl, isNon_str, isNon_ty, isNon_tup, isNon_lst, isNon_scr, isNon_dic, isNon_obj, isNon_ref, isNon_glb, isNon_exc, isNon_book, eVar, eC, fLen, fAbs, fInt, fMax2, fMin2, fIntsI, fSorted, fTuple, fList, fListR, eLenSet, eSortedSet, eTupRg, eLstRg, eRefRg, rg1, rg2, tYesD, sRaise, sRaiseF, eM, KD.E, wipeD, ins_book, fget_posts, fget_may, mem_Book, it_tup, it_lst, it_scr, it_ref, it_may, it_fil, it_int, it_str, lo_lst, lo_tup, lo_int, lo_ref, li_lst, li_scr, li_tup, li_ref, true_and, List.set_cons_zero, List.set_cons_succ, List.getElem?_cons_zero, List.getElem?_cons_succ, List.map_cons, List.map_nil, List.length_cons, List.length_nil, List.replicate_succ, List.replicate_zero, List.cons_append, List.nil_append, List.zip_cons_cons, List.zip_nil_left, List.foldl_cons, List.foldl_nil, Nat.reduceSub, Nat.reduceAdd, Nat.zero_add, brB_t, brB_f, Bool.not_true, Bool.not_false, if_true, if_false, Bool.false_eq_true, ↓reduceIte, Bool.not_true]
    have e2 : decide ((2 : Int) ≤ (xs.length : Int)) = decide (2 ≤ xs.length) := by congr 1; simp only [eq_iff_iff]; omega
    have e12 : decide ((xs.length : Int) ≤ 12) = decide (xs.length ≤ 12) := by congr 1; simp only [eq_iff_iff]; omega
    have nof : ¬ (2 ≤ xs.length ∧ xs.length ≤ 12) → formD may.length (.tup xs) = false := fun hh => by
      unfold formD
      cases hi : intsOf xs with
      | none => simp only [hi]
      | some ns =>
        simp only [hi]
        rw [intsOf_len hi] at hh
        unfold formI
        rw [decide_eq_false hh]
        simp
    simp only [e2]
    by_cases h2 : 2 ≤ xs.length
    · simp only [decide_eq_true h2, dEq_int, dNe_int, dEq_bl, dNe_bl, bodyD, startD, sNext, sBreak, sCont, sDrop, sRet, sRetN, sSet, sPar, sAsg, sSub, sFldD, iSeq, iCall, wEnum, wRange1, wRange2, wz_tup, eComp, eCompR, eComp2, eComp2R, gN, gT, gTcons, gTnil, tTst, tNotD, tAndD, tOrD, eNotV, eAndV, eOrV, eIf, eNil, eCons, eTup, eLst, eRef, eFrz, eCall, eFn, eMkV_eq, eMk, eFld, eSl, oNone, oSome, eOp2, eOp1, eChain, dAdd, dInt, dIntC, dIntB, dSub, dFdiv, dMod, dPow, dLt, dLe, dGt, dGe, dMul, dMulR, dMulT, dIs, dIx, isNon_oI, isNon_non, isNon_int, isNon_bl, isNon_str, isNon_ty, isNon_tup, isNon_lst, isNon_scr, isNon_dic, isNon_obj, isNon_ref, isNon_glb, isNon_exc, isNon_book, eVar, eC, fLen, fAbs, fInt, fMax2, fMin2, fIntsI, fSorted, fTuple, fList, fListR, eLenSet, eSortedSet, eTupRg, eLstRg, eRefRg, rg1, rg2, tYesD, sRaise, sRaiseF, eM, KD.E, wipeD, ins_book, fget_posts, fget_may, mem_Book, it_tup, it_lst, it_scr, it_ref, it_may, it_fil, it_int, it_str, lo_lst, lo_tup, lo_int, lo_ref, li_lst, li_scr, li_tup, li_ref, true_and, List.set_cons_zero, List.set_cons_succ, List.getElem?_cons_zero, List.getElem?_cons_succ, List.map_cons, List.map_nil, List.length_cons, List.length_nil, List.replicate_succ, List.replicate_zero, List.cons_append, List.nil_append, List.zip_cons_cons, List.zip_nil_left, List.foldl_cons, List.foldl_nil, Nat.reduceSub, Nat.reduceAdd, Nat.zero_add, brB_t, brB_f, Bool.not_true, Bool.not_false, if_true, if_false, Bool.false_eq_true, ↓reduceIte]
      simp only [e12]
      by_cases h12 : xs.length ≤ 12
      · simp only [decide_eq_true h12, dEq_int, dNe_int, dEq_bl, dNe_bl, bodyD, startD, sNext, sBreak, sCont, sDrop, sRet, sRetN, sSet, sPar, sAsg, sSub, sFldD, iSeq, iCall, wEnum, wRange1, wRange2, wz_tup, eComp, eCompR, eComp2, eComp2R, gN, gT, gTcons, gTnil, tTst, tNotD, tAndD, tOrD, eNotV, eAndV, eOrV, eIf, eNil, eCons, eTup, eLst, eRef, eFrz, eCall, eFn, eMkV_eq, eMk, eFld, eSl, oNone, oSome, eOp2, eOp1, eChain, dAdd, dInt, dIntC, dIntB, dSub, dFdiv, dMod, dPow, dLt, dLe, dGt, dGe, dMul, dMulR, dMulT, dIs, dIx, isNon_oI, isNon_non, isNon_int, isNon_bl, isNon_str, isNon_ty, isNon_tup, isNon_lst, isNon_scr, isNon_dic, isNon_obj, isNon_ref, isNon_glb, isNon_exc, isNon_book, eVar, eC, fLen, fAbs, fInt, fMax2, fMin2, fIntsI, fSorted, fTuple, fList, fListR, eLenSet, eSortedSet, eTupRg, eLstRg, eRefRg, rg1, rg2, tYesD, sRaise, sRaiseF, eM, KD.E, wipeD, ins_book, fget_posts, fget_may, mem_Book, it_tup, it_lst, it_scr, it_ref, it_may, it_fil, it_int, it_str, lo_lst, lo_tup, lo_int, lo_ref, li_lst, li_scr, li_tup, li_ref, true_and, List.set_cons_zero, List.set_cons_succ, List.getElem?_cons_zero, List.getElem?_cons_succ, List.map_cons, List.map_nil, List.length_cons, List.length_nil, List.replicate_succ, List.replicate_zero, List.cons_append, List.nil_append, List.zip_cons_cons, List.zip_nil_left, List.foldl_cons, List.foldl_nil, Nat.reduceSub, Nat.reduceAdd, Nat.zero_add, brB_t, brB_f, Bool.not_true, Bool.not_false, if_true, if_false, Bool.false_eq_true, ↓reduceIte, Bool.not_true]
        refine hB h (hN _ _ ?_)
        refine sSeq_i fun N2 hN2 => ?_
        refine sIf_i fun A2 B2 hA2 hB2 => ?_
        simp only [dEq_int, dNe_int, dEq_bl, dNe_bl, bodyD, startD, sNext, sBreak, sCont, sDrop, sRet, sRetN, sSet, sPar, sAsg, sSub, sFldD, iSeq, iCall, wEnum, wRange1, wRange2, wz_tup, eComp, eCompR, eComp2, eComp2R, gN, gT, gTcons, gTnil, tTst, tNotD, tAndD, tOrD, eNotV, eAndV, eOrV, eIf, eNil, eCons, eTup, eLst, eRef, eFrz, eCall, eFn, eMkV_eq, eMk, eFld, eSl, oNone, oSome, eOp2, eOp1, eChain, dAdd, dInt, dIntC, dIntB, dSub, dFdiv, dMod, dPow, dLt, dLe, dGt, dGe, dMul, dMulR, dMulT, dIs, dIx, isNon_oI, isNon_non, isNon_int, isNon_bl, isNon_str, isNon_ty, isNon_tup, isNon_lst, isNon_scr, isNon_dic, isNon_obj, isNon_ref, isNon_glb, isNon_exc, isNon_book, eVar, eC, fLen, fAbs, fInt, fMax2, fMin2, fIntsI, fSorted, fTuple, fList, fListR, eLenSet, eSortedSet, eTupRg, eLstRg, eRefRg, rg1, rg2, tYesD, sRaise, sRaiseF, eM, KD.E, wipeD, ins_book, fget_posts, fget_may, mem_Book, it_tup, it_lst, it_scr, it_ref, it_may, it_fil, it_int, it_str, lo_lst, lo_tup, lo_int, lo_ref, li_lst, li_scr, li_tup, li_ref, true_and, List.set_cons_zero, List.set_cons_succ, List.getElem?_cons_zero, List.getElem?_cons_succ, List.map_cons, List.map_nil, List.length_cons, List.length_nil, List.replicate_succ, List.replicate_zero, List.cons_append, List.nil_append, List.zip_cons_cons, List.zip_nil_left, List.foldl_cons, List.foldl_nil, Nat.reduceSub, Nat.reduceAdd, Nat.zero_add, brB_t, brB_f, Bool.not_true, Bool.not_false, if_true, if_false, Bool.false_eq_true, ↓reduceIte, List.length_map]
        have no2 : formD may.length (.tup xs) = false → A2 h := fun e => hA2 h (by
          simp only [dEq_int, dNe_int, dEq_bl, dNe_bl, bodyD, startD, sNext, sBreak, sCont, sDrop, sRet, sRetN, sSet, sPar, sAsg, sSub, sFldD, iSeq, iCall, wEnum, wRange1, wRange2, wz_tup, eComp, eCompR, eComp2, eComp2R, gN, gT, gTcons, gTnil, tTst, tNotD, tAndD, tOrD, eNotV, eAndV, eOrV, eIf, eNil, eCons, eTup, eLst, eRef, eFrz, eCall, eFn, eMkV_eq, eMk, eFld, eSl, oNone, oSome, eOp2, eOp1, eChain, dAdd, dInt, dIntC, dIntB, dSub, dFdiv, dMod, dPow, dLt, dLe, dGt, dGe, dMul, dMulR, dMulT, dIs, dIx, isNon_oI, isNon_non, isNon_int, isNon_bl, isNon_str, isNon_ty, isNon_tup, isNon_lst, isNon_scr, isNon_dic, isNon_obj, isNon_ref, isNon_glb, isNon_exc, isNon_book, eVar, eC, fLen, fAbs, fInt, fMax2, fMin2, fIntsI, fSorted, fTuple, fList, fListR, eLenSet, eSortedSet, eTupRg, eLstRg, eRefRg, rg1, rg2, tYesD, sRaise, sRaiseF, eM, KD.E, wipeD, ins_book, fget_posts, fget_may, mem_Book, it_tup, it_lst, it_scr, it_ref, it_may, it_fil, it_int, it_str, lo_lst, lo_tup, lo_int, lo_ref, li_lst, li_scr, li_tup, li_ref, true_and, List.set_cons_zero, List.set_cons_succ, List.getElem?_cons_zero, List.getElem?_cons_succ, List.map_cons, List.map_nil, List.length_cons, List.length_nil, List.replicate_succ, List.replicate_zero, List.cons_append, List.nil_append, List.zip_cons_cons, List.zip_nil_left, List.foldl_cons, List.foldl_nil, Nat.reduceSub, Nat.reduceAdd, Nat.zero_add, brB_t, brB_f, Bool.not_true, Bool.not_false, if_true, if_false, Bool.false_eq_true, ↓reduceIte]
          rw [e] at q
          exact q)
        rw [← List.map_id xs]
        refine compL_map (α := D) id (fun x => some (.bl (wiD x 0 ((may.length : Int) - 1)))) trivial ?_ ?_
        · rw [List.nil_append, fm_some, all_bls, all_wi]
          unfold formD at q no2
          cases hi : intsOf xs with
          | none =>
            simp only [hi] at no2
            simp only [dEq_int, dNe_int, dEq_bl, dNe_bl, bodyD, startD, sNext, sBreak, sCont, sDrop, sRet, sRetN, sSet, sPar, sAsg, sSub, sFldD, iSeq, iCall, wEnum, wRange1, wRange2, wz_tup, eComp, eCompR, eComp2, eComp2R, gN, gT, gTcons, gTnil, tTst, tNotD, tAndD, tOrD, eNotV, eAndV, eOrV, eIf, eNil, eCons, eTup, eLst, eRef, eFrz, eCall, eFn, eMkV_eq, eMk, eFld, eSl, oNone, oSome, eOp2, eOp1, eChain, dAdd, dInt, dIntC, dIntB, dSub, dFdiv, dMod, dPow, dLt, dLe, dGt, dGe, dMul, dMulR, dMulT, dIs, dIx, isNon_oI, isNon_non, isNon_int, isNon_bl, isNon_str, isNon_ty, isNon_tup, isNon_lst, isNon_scr, isNon_dic, isNon_obj, isNon_ref, isNon_glb, isNon_exc, isNon_book, eVar, eC, fLen, fAbs, fInt, fMax2, fMin2, fIntsI, fSorted, fTuple, fList, fListR, eLenSet, eSortedSet, eTupRg, eLstRg, eRefRg, rg1, rg2, tYesD, sRaise, sRaiseF, eM, KD.E, wipeD, ins_book, fget_posts, fget_may, mem_Book, it_tup, it_lst, it_scr, it_ref, it_may, it_fil, it_int, it_str, lo_lst, lo_tup, lo_int, lo_ref, li_lst, li_scr, li_tup, li_ref, true_and, List.set_cons_zero, List.set_cons_succ, List.getElem?_cons_zero, List.getElem?_cons_succ, List.map_cons, List.map_nil, List.length_cons, List.length_nil, List.replicate_succ, List.replicate_zero, List.cons_append, List.nil_append, List.zip_cons_cons, List.zip_nil_left, List.foldl_cons, List.foldl_nil, Nat.reduceSub, Nat.reduceAdd, Nat.zero_add, brB_t, brB_f, Bool.not_true, Bool.not_false, if_true, if_false, Bool.false_eq_true, ↓reduceIte, Bool.not_false]
            exact no2 trivial
          | some ns =>
            simp only [hi] at q no2
            have hlen := intsOf_len hi
            unfold formI at q no2
            rw [decide_eq_true (by omega : 2 ≤ ns.length ∧ ns.length ≤ 12), Bool.true_and] at q no2
            rcases Bool.eq_false_or_eq_true (ns.all (fun i => wiD (.int i) 0 ((may.length : Int) - 1))) with ha | ha
            · simp only [ha, dEq_int, dNe_int, dEq_bl, dNe_bl, bodyD, startD, sNext, sBreak, sCont, sDrop, sRet, sRetN, sSet, sPar, sAsg, sSub, sFldD, iSeq, iCall, wEnum, wRange1, wRange2, wz_tup, eComp, eCompR, eComp2, eComp2R, gN, gT, gTcons, gTnil, tTst, tNotD, tAndD, tOrD, eNotV, eAndV, eOrV, eIf, eNil, eCons, eTup, eLst, eRef, eFrz, eCall, eFn, eMkV_eq, eMk, eFld, eSl, oNone, oSome, eOp2, eOp1, eChain, dAdd, dInt, dIntC, dIntB, dSub, dFdiv, dMod, dPow, dLt, dLe, dGt, dGe, dMul, dMulR, dMulT, dIs, dIx, isNon_oI, isNon_non, isNon_int, isNon_bl, isNon_str, isNon_ty, isNon_tup, isNon_lst, isNon_scr, isNon_dic, isNon_obj, isNon_ref, isNon_glb, isNon_exc, isNon_book, eVar, eC, fLen, fAbs, fInt, fMax2, fMin2, fIntsI, fSorted, fTuple, fList, fListR, eLenSet, eSortedSet, eTupRg, eLstRg, eRefRg, rg1, rg2, tYesD, sRaise, sRaiseF, eM, KD.E, wipeD, ins_book, fget_posts, fget_may, mem_Book, it_tup, it_lst, it_scr, it_ref, it_may, it_fil, it_int, it_str, lo_lst, lo_tup, lo_int, lo_ref, li_lst, li_scr, li_tup, li_ref, true_and, List.set_cons_zero, List.set_cons_succ, List.getElem?_cons_zero, List.getElem?_cons_succ, List.map_cons, List.map_nil, List.length_cons, List.length_nil, List.replicate_succ, List.replicate_zero, List.cons_append, List.nil_append, List.zip_cons_cons, List.zip_nil_left, List.foldl_cons, List.foldl_nil, Nat.reduceSub, Nat.reduceAdd, Nat.zero_add, brB_t, brB_f, Bool.not_true, Bool.not_false, if_true, if_false, Bool.false_eq_true, ↓reduceIte, Bool.not_true]
              rw [ha, Bool.true_and] at q
              refine hB2 h (hN2 _ _ ?_)
              have hin : intsIn (.tup xs) h = some ns := by unfold intsIn; rw [it_tup]; exact hi
              have ex := intsOf_some hi
              have hz : ns.length ≤ 1000 := by omega
              simp only [dEq_int, dNe_int, dEq_bl, dNe_bl, bodyD, startD, sNext, sBreak, sCont, sDrop, sRet, sRetN, sSet, sPar, sAsg, sSub, sFldD, iSeq, iCall, wEnum, wRange1, wRange2, wz_tup, eComp, eCompR, eComp2, eComp2R, gN, gT, gTcons, gTnil, tTst, tNotD, tAndD, tOrD, eNotV, eAndV, eOrV, eIf, eNil, eCons, eTup, eLst, eRef, eFrz, eCall, eFn, eMkV_eq, eMk, eFld, eSl, oNone, oSome, eOp2, eOp1, eChain, dAdd, dInt, dIntC, dIntB, dSub, dFdiv, dMod, dPow, dLt, dLe, dGt, dGe, dMul, dMulR, dMulT, dIs, dIx, isNon_oI, isNon_non, isNon_int, isNon_bl, isNon_str, isNon_ty, isNon_tup, isNon_lst, isNon_scr, isNon_dic, isNon_obj, isNon_ref, isNon_glb, isNon_exc, isNon_book, eVar, eC, fLen, fAbs, fInt, fMax2, fMin2, fIntsI, fSorted, fTuple, fList, fListR, eLenSet, eSortedSet, eTupRg, eLstRg, eRefRg, rg1, rg2, tYesD, sRaise, sRaiseF, eM, KD.E, wipeD, ins_book, fget_posts, fget_may, mem_Book, it_tup, it_lst, it_scr, it_ref, it_may, it_fil, it_int, it_str, lo_lst, lo_tup, lo_int, lo_ref, li_lst, li_scr, li_tup, li_ref, true_and, List.set_cons_zero, List.set_cons_succ, List.getElem?_cons_zero, List.getElem?_cons_succ, List.map_cons, List.map_nil, List.length_cons, List.length_nil, List.replicate_succ, List.replicate_zero, List.cons_append, List.nil_append, List.zip_cons_cons, List.zip_nil_left, List.foldl_cons, List.foldl_nil, Nat.reduceSub, Nat.reduceAdd, Nat.zero_add, brB_t, brB_f, Bool.not_true, Bool.not_false, if_true, if_false, Bool.false_eq_true, ↓reduceIte, hin, hz]
              have e3 : (((dedI ns).length : Int) == (xs.length : Int)) = decide ns.Nodup := by
                rw [hlen]
                by_cases hn : ns.Nodup
                · rw [decide_eq_true hn, dedI_of_nodup hn]; simp
                · rw [decide_eq_false hn]
                  have : (dedI ns).length ≠ ns.length := fun e => hn (dedI_len.mp e)
                  simp only [beq_eq_false_iff_ne, ne_eq]
                  omega
              rw [e3]
              by_cases hn : ns.Nodup
              · rw [decide_eq_true hn, Bool.true_and] at q
                simp only [decide_eq_true hn, dEq_int, dNe_int, dEq_bl, dNe_bl, bodyD, startD, sNext, sBreak, sCont, sDrop, sRet, sRetN, sSet, sPar, sAsg, sSub, sFldD, iSeq, iCall, wEnum, wRange1, wRange2, wz_tup, eComp, eCompR, eComp2, eComp2R, gN, gT, gTcons, gTnil, tTst, tNotD, tAndD, tOrD, eNotV, eAndV, eOrV, eIf, eNil, eCons, eTup, eLst, eRef, eFrz, eCall, eFn, eMkV_eq, eMk, eFld, eSl, oNone, oSome, eOp2, eOp1, eChain, dAdd, dInt, dIntC, dIntB, dSub, dFdiv, dMod, dPow, dLt, dLe, dGt, dGe, dMul, dMulR, dMulT, dIs, dIx, isNon_oI, isNon_non, isNon_int, isNon_bl, isNon_str, isNon_ty, isNon_tup, isNon_lst, isNon_scr, isNon_dic, isNon_obj, isNon_ref, isNon_glb, isNon_exc, isNon_book, eVar, eC, fLen, fAbs, fInt, fMax2, fMin2, fIntsI, fSorted, fTuple, fList, fListR, eLenSet, eSortedSet, eTupRg, eLstRg, eRefRg, rg1, rg2, tYesD, sRaise, sRaiseF, eM, KD.E, wipeD, ins_book, fget_posts, fget_may, mem_Book, it_tup, it_lst, it_scr, it_ref, it_may, it_fil, it_int, it_str, lo_lst, lo_tup, lo_int, lo_ref, li_lst, li_scr, li_tup, li_ref, true_and, List.set_cons_zero, List.set_cons_succ, List.getElem?_cons_zero, List.getElem?_cons_succ, List.map_cons, List.map_nil, List.length_cons, List.length_nil, List.replicate_succ, List.replicate_zero, List.cons_append, List.nil_append, List.zip_cons_cons, List.zip_nil_left, List.foldl_cons, List.foldl_nil, Nat.reduceSub, Nat.reduceAdd, Nat.zero_add, brB_t, brB_f, Bool.not_true, Bool.not_false, if_true, if_false, Bool.false_eq_true, ↓reduceIte]
                subst ex
                cases ns with
                | nil => simp at h2
                | cons n0 nr =>
                  rw [List.map_cons, atI_0]
                  simp only [dEq_int, dNe_int, dEq_bl, dNe_bl, bodyD, startD, sNext, sBreak, sCont, sDrop, sRet, sRetN, sSet, sPar, sAsg, sSub, sFldD, iSeq, iCall, wEnum, wRange1, wRange2, wz_tup, eComp, eCompR, eComp2, eComp2R, gN, gT, gTcons, gTnil, tTst, tNotD, tAndD, tOrD, eNotV, eAndV, eOrV, eIf, eNil, eCons, eTup, eLst, eRef, eFrz, eCall, eFn, eMkV_eq, eMk, eFld, eSl, oNone, oSome, eOp2, eOp1, eChain, dAdd, dInt, dIntC, dIntB, dSub, dFdiv, dMod, dPow, dLt, dLe, dGt, dGe, dMul, dMulR, dMulT, dIs, dIx, isNon_oI, isNon_non, isNon_int, isNon_bl, isNon_str, isNon_ty, isNon_tup, isNon_lst, isNon_scr, isNon_dic, isNon_obj, isNon_ref, isNon_glb, isNon_exc, isNon_book, eVar, eC, fLen, fAbs, fInt, fMax2, fMin2, fIntsI, fSorted, fTuple, fList, fListR, eLenSet, eSortedSet, eTupRg, eLstRg, eRefRg, rg1, rg2, tYesD, sRaise, sRaiseF, eM, KD.E, wipeD, ins_book, fget_posts, fget_may, mem_Book, it_tup, it_lst, it_scr, it_ref, it_may, it_fil, it_int, it_str, lo_lst, lo_tup, lo_int, lo_ref, li_lst, li_scr, li_tup, li_ref, true_and, List.set_cons_zero, List.set_cons_succ, List.getElem?_cons_zero, List.getElem?_cons_succ, List.map_cons, List.map_nil, List.length_cons, List.length_nil, List.replicate_succ, List.replicate_zero, List.cons_append, List.nil_append, List.zip_cons_cons, List.zip_nil_left, List.foldl_cons, List.foldl_nil, Nat.reduceSub, Nat.reduceAdd, Nat.zero_add, brB_t, brB_f, Bool.not_true, Bool.not_false, if_true, if_false, Bool.false_eq_true, ↓reduceIte]
                  exact ⟨Nat.succ_pos _, q⟩
              · rw [decide_eq_false hn, Bool.false_and] at q
                simp only [decide_eq_false hn, dEq_int, dNe_int, dEq_bl, dNe_bl, bodyD, startD, sNext, sBreak, sCont, sDrop, sRet, sRetN, sSet, sPar, sAsg, sSub, sFldD, iSeq, iCall, wEnum, wRange1, wRange2, wz_tup, eComp, eCompR, eComp2, eComp2R, gN, gT, gTcons, gTnil, tTst, tNotD, tAndD, tOrD, eNotV, eAndV, eOrV, eIf, eNil, eCons, eTup, eLst, eRef, eFrz, eCall, eFn, eMkV_eq, eMk, eFld, eSl, oNone, oSome, eOp2, eOp1, eChain, dAdd, dInt, dIntC, dIntB, dSub, dFdiv, dMod, dPow, dLt, dLe, dGt, dGe, dMul, dMulR, dMulT, dIs, dIx, isNon_oI, isNon_non, isNon_int, isNon_bl, isNon_str, isNon_ty, isNon_tup, isNon_lst, isNon_scr, isNon_dic, isNon_obj, isNon_ref, isNon_glb, isNon_exc, isNon_book, eVar, eC, fLen, fAbs, fInt, fMax2, fMin2, fIntsI, fSorted, fTuple, fList, fListR, eLenSet, eSortedSet, eTupRg, eLstRg, eRefRg, rg1, rg2, tYesD, sRaise, sRaiseF, eM, KD.E, wipeD, ins_book, fget_posts, fget_may, mem_Book, it_tup, it_lst, it_scr, it_ref, it_may, it_fil, it_int, it_str, lo_lst, lo_tup, lo_int, lo_ref, li_lst, li_scr, li_tup, li_ref, true_and, List.set_cons_zero, List.set_cons_succ, List.getElem?_cons_zero, List.getElem?_cons_succ, List.map_cons, List.map_nil, List.length_cons, List.length_nil, List.replicate_succ, List.replicate_zero, List.cons_append, List.nil_append, List.zip_cons_cons, List.zip_nil_left, List.foldl_cons, List.foldl_nil, Nat.reduceSub, Nat.reduceAdd, Nat.zero_add, brB_t, brB_f, Bool.not_true, Bool.not_false, if_true, if_false, Bool.false_eq_true, ↓reduceIte]
                exact q
            · simp only [ha, dEq_int, dNe_int, dEq_bl, dNe_bl, bodyD, startD, sNext, sBreak, sCont, sDrop, sRet, sRetN, sSet, sPar, sAsg, sSub, sFldD, iSeq, iCall, wEnum, wRange1, wRange2, wz_tup, eComp, eCompR, eComp2, eComp2R, gN, gT, gTcons, gTnil, tTst, tNotD, tAndD, tOrD, eNotV, eAndV, eOrV, eIf, eNil, eCons, eTup, eLst, eRef, eFrz, eCall, eFn, eMkV_eq, eMk, eFld, eSl, oNone, oSome, eOp2, eOp1, eChain, dAdd, dInt, dIntC, dIntB, dSub, dFdiv, dMod, dPow, dLt, dLe, dGt, dGe, dMul, dMulR, dMulT, dIs, dIx, isNon_oI, isNon_non, isNon_int, isNon_bl, isNon_str, isNon_ty, isNon_tup, isNon_lst, isNon_scr, isNon_dic, isNon_obj, isNon_ref, isNon_glb, isNon_exc, isNon_book, eVar, eC, fLen, fAbs, fInt, fMax2, fMin2, fIntsI, fSorted, fTuple, fList, fListR, eLenSet, eSortedSet, eTupRg, eLstRg, eRefRg, rg1, rg2, tYesD, sRaise, sRaiseF, eM, KD.E, wipeD, ins_book, fget_posts, fget_may, mem_Book, it_tup, it_lst, it_scr, it_ref, it_may, it_fil, it_int, it_str, lo_lst, lo_tup, lo_int, lo_ref, li_lst, li_scr, li_tup, li_ref, true_and, List.set_cons_zero, List.set_cons_succ, List.getElem?_cons_zero, List.getElem?_cons_succ, List.map_cons, List.map_nil, List.length_cons, List.length_nil, List.replicate_succ, List.replicate_zero, List.cons_append, List.nil_append, List.zip_cons_cons, List.zip_nil_left, List.foldl_cons, List.foldl_nil, Nat.reduceSub, Nat.reduceAdd, Nat.zero_add, brB_t, brB_f, Bool.not_true, Bool.not_false, if_true, if_false, Bool.false_eq_true, ↓reduceIte, Bool.not_false]
              exact no2 (by rw [ha]; rfl)
        · intro y hy N acc hN
          simp only [dEq_int, dNe_int, dEq_bl, dNe_bl, bodyD, startD, sNext, sBreak, sCont, sDrop, sRet, sRetN, sSet, sPar, sAsg, sSub, sFldD, iSeq, iCall, wEnum, wRange1, wRange2, wz_tup, eComp, eCompR, eComp2, eComp2R, gN, gT, gTcons, gTnil, tTst, tNotD, tAndD, tOrD, eNotV, eAndV, eOrV, eIf, eNil, eCons, eTup, eLst, eRef, eFrz, eCall, eFn, eMkV_eq, eMk, eFld, eSl, oNone, oSome, eOp2, eOp1, eChain, dAdd, dInt, dIntC, dIntB, dSub, dFdiv, dMod, dPow, dLt, dLe, dGt, dGe, dMul, dMulR, dMulT, dIs, dIx, isNon_oI, isNon_non, isNon_int, isNon_bl, isNon_str, isNon_ty, isNon_tup, isNon_lst, isNon_scr, isNon_dic, isNon_obj, isNon_ref, isNon_glb, isNon_exc, isNon_book, eVar, eC, fLen, fAbs, fInt, fMax2, fMin2, fIntsI, fSorted, fTuple, fList, fListR, eLenSet, eSortedSet, eTupRg, eLstRg, eRefRg, rg1, rg2, tYesD, sRaise, sRaiseF, eM, KD.E, wipeD, ins_book, fget_posts, fget_may, mem_Book, it_tup, it_lst, it_scr, it_ref, it_may, it_fil, it_int, it_str, lo_lst, lo_tup, lo_int, lo_ref, li_lst, li_scr, li_tup, li_ref, true_and, List.set_cons_zero, List.set_cons_succ, List.getElem?_cons_zero, List.getElem?_cons_succ, List.map_cons, List.map_nil, List.length_cons, List.length_nil, List.replicate_succ, List.replicate_zero, List.cons_append, List.nil_append, List.zip_cons_cons, List.zip_nil_left, List.foldl_cons, List.foldl_nil, Nat.reduceSub, Nat.reduceAdd, Nat.zero_add, brB_t, brB_f, Bool.not_true, Bool.not_false, if_true, if_false, Bool.false_eq_true, ↓reduceIte, id, List.length_map]
          exact ⟨_, _, _, rfl, hks xs rfl y hy, hN⟩
      · simp only [decide_eq_false h12, dEq_int, dNe_int, dEq_bl, dNe_bl, bodyD, startD, sNext, sBreak, sCont, sDrop, sRet, sRetN, sSet, sPar, sAsg, sSub, sFldD, iSeq, iCall, wEnum, wRange1, wRange2, wz_tup, eComp, eCompR, eComp2, eComp2R, gN, gT, gTcons, gTnil, tTst, tNotD, tAndD, tOrD, eNotV, eAndV, eOrV, eIf, eNil, eCons, eTup, eLst, eRef, eFrz, eCall, eFn, eMkV_eq, eMk, eFld, eSl, oNone, oSome, eOp2, eOp1, eChain, dAdd, dInt, dIntC, dIntB, dSub, dFdiv, dMod, dPow, dLt, dLe, dGt, dGe, dMul, dMulR, dMulT, dIs, dIx, isNon_oI, isNon_non, isNon_int, isNon_bl, isNon_str, isNon_ty, isNon_tup, isNon_lst, isNon_scr, isNon_dic, isNon_obj, isNon_ref, isNon_glb, isNon_exc, isNon_book, eVar, eC, fLen, fAbs, fInt, fMax2, fMin2, fIntsI, fSorted, fTuple, fList, fListR, eLenSet, eSortedSet, eTupRg, eLstRg, eRefRg, rg1, rg2, tYesD, sRaise, sRaiseF, eM, KD.E, wipeD, ins_book, fget_posts, fget_may, mem_Book, it_tup, it_lst, it_scr, it_ref, it_may, it_fil, it_int, it_str, lo_lst, lo_tup, lo_int, lo_ref, li_lst, li_scr, li_tup, li_ref, true_and, List.set_cons_zero, List.set_cons_succ, List.getElem?_cons_zero, List.getElem?_cons_succ, List.map_cons, List.map_nil, List.length_cons, List.length_nil, List.replicate_succ, List.replicate_zero, List.cons_append, List.nil_append, List.zip_cons_cons, List.zip_nil_left, List.foldl_cons, List.foldl_nil, Nat.reduceSub, Nat.reduceAdd, Nat.zero_add, brB_t, brB_f, Bool.not_true, Bool.not_false, if_true, if_false, Bool.false_eq_true, ↓reduceIte, Bool.not_false]
        exact no (nof (by omega))
    · simp only [decide_eq_false h2, dEq_int, dNe_int, dEq_bl, dNe_bl, bodyD, startD, sNext, sBreak, sCont, sDrop, sRet, sRetN, sSet, sPar, sAsg, sSub, sFldD, iSeq, iCall, wEnum, wRange1, wRange2, wz_tup, eComp, eCompR, eComp2, eComp2R, gN, gT, gTcons, gTnil, tTst, tNotD, tAndD, tOrD, eNotV, eAndV, eOrV, eIf, eNil, eCons, eTup, eLst, eRef, eFrz, eCall, eFn, eMkV_eq, eMk, eFld, eSl, oNone, oSome, eOp2, eOp1, eChain, dAdd, dInt, dIntC, dIntB, dSub, dFdiv, dMod, dPow, dLt, dLe, dGt, dGe, dMul, dMulR, dMulT, dIs, dIx, isNon_oI, isNon_non, isNon_int, isNon_bl, isNon_str, isNon_ty, isNon_tup, isNon_lst, isNon_scr, isNon_dic, isNon_obj, isNon_ref, isNon_glb, isNon_exc, isNon_book, eVar, eC, fLen, fAbs, fInt, fMax2, fMin2, fIntsI, fSorted, fTuple, fList, fListR, eLenSet, eSortedSet, eTupRg, eLstRg, eRefRg, rg1, rg2, tYesD, sRaise, sRaiseF, eM, KD.E, wipeD, ins_book, fget_posts, fget_may, mem_Book, it_tup, it_lst, it_scr, it_ref, it_may, it_fil, it_int, it_str, lo_lst, lo_tup, lo_int, lo_ref, li_lst, li_scr, li_tup, li_ref, true_and, List.set_cons_zero, List.set_cons_succ, List.getElem?_cons_zero, List.getElem?_cons_succ, List.map_cons, List.map_nil, List.length_cons, List.length_nil, List.replicate_succ, List.replicate_zero, List.cons_append, List.nil_append, List.zip_cons_cons, List.zip_nil_left, List.foldl_cons, List.foldl_nil, Nat.reduceSub, Nat.reduceAdd, Nat.zero_add, brB_t, brB_f, Bool.not_true, Bool.not_false, if_true, if_false, Bool.false_eq_true, ↓reduceIte, Bool.not_false]
      exact no (nof (by omega))
  | _ =>
    simp only [dEq_int, dNe_int, dEq_bl, dNe_bl, bodyD, startD, sNext, sBreak, sCont, sDrop, sRet, sRetN, sSet, sPar, sAsg, sSub, sFldD, iSeq, iCall, wEnum, wRange1, wRange2, wz_tup, eComp, eCompR, eComp2, eComp2R, gN, gT, gTcons, gTnil, tTst, tNotD, tAndD, tOrD, eNotV, eAndV, eOrV, eIf, eNil, eCons, eTup, eLst, eRef, eFrz, eCall, eFn, eMkV_eq, eMk, eFld, eSl, oNone, oSome, eOp2, eOp1, eChain, dAdd, dInt, dIntC, dIntB, dSub, dFdiv, dMod, dPow, dLt, dLe, dGt, dGe, dMul, dMulR, dMulT, dIs, dIx, isNon_oI, isNon_non, isNon_int, isNon_bl, isNon_str, isNon_ty, isNon_tup, isNon_lst, isNon_scr, isNon_dic, isNon_obj, isNon_ref, isNon_glb, isNon_exc, isNon_book, eVar, eC, fLen, fAbs, fInt, fMax2, fMin2, fIntsI, fSorted, fTuple, fList, fListR, eLenSet, eSortedSet, eTupRg, eLstRg, eRefRg, rg1, rg2, tYesD, sRaise, sRaiseF, eM, KD.E, wipeD, ins_book, fget_posts, fget_may, mem_Book, it_tup, it_lst, it_scr, it_ref, it_may, it_fil, it_int, it_str, lo_lst, lo_tup, lo_int, lo_ref, li_lst, li_scr, li_tup, li_ref, true_and, List.set_cons_zero, List.set_cons_succ, List.getElem?_cons_zero, List.getElem?_cons_succ, List.map_cons, List.map_nil, List.length_cons, List.length_nil, List.replicate_succ, List.replicate_zero, List.cons_append, List.nil_append, List.zip_cons_cons, List.zip_nil_left, List.foldl_cons, List.foldl_nil, Nat.reduceSub, Nat.reduceAdd, Nat.zero_add, brB_t, brB_f, Bool.not_true, Bool.not_false, if_true, if_false, Bool.false_eq_true, ↓reduceIte, Bool.not_false]
    exact no rfl
/-! goes -/
def t_goes : TSD :=
    (sSeq (sIf (tOrD (tNotD (tTst (eFn sp_is_form (eCons (eVar 0) (eCons (eVar 2) eNil))))) (tTst (eCall (fAll fun bs => bs.any id) (eCons (eComp (iSeq (eVar 2)) (gN 3) tYesD (eOp2 (dIs false) (eOp2 dIx (eVar 1) (eVar 3)) (eC .non)) [3]) eNil)))) (sRet (eC (.bl false))) sNext)
    (sRet (eCall (fAll fun bs => bs.all id) (eCons (eComp (iCall wZip (eCons (eVar 2) (eCons (eOp2 dAdd (eSl (eVar 2) (oSome (eC (.int 1))) oNone) (eSl (eVar 2) oNone (oSome (eC (.int 1))))) eNil))) (gT 2 (gTcons (gN 3) (gTcons (gN 4) gTnil))) tYesD (eOp2 (dIn false) (eOp2 dIx (eVar 1) (eVar 4)) (eOp2 dIx (eFld ["Book"] "may" (eVar 0)) (eVar 3))) [3, 4]) eNil))))
/-- who takes whose post -/
def rot (ns : List Int) : List Int := ns.drop 1 ++ ns.take 1
def pairs (ns : List Int) : List (Int × Int) := ns.zip (rot ns)
def at_ (f : List (Option Int)) (i : Int) : Option Int := f.getD i.toNat none
def goesI (may : List (List Int)) (f : List (Option Int)) (ns : List Int) : Bool :=
  formI may.length ns && (ns.all fun i => (at_ f i).isSome) && (pairs ns).all fun p => decide ((at_ f p.2).getD 0 ∈ may.getD p.1.toNat [])
/-- whether a thing is an exchange that goes -/
def goesD (may : List (List Int)) (f : List (Option Int)) (thing : D) : Bool := match thing with
  | .tup xs => match intsOf xs with
    | some ns => goesI may f ns
    | none => false
  | _ => false
theorem formI_in {n : Nat} {ns : List Int} (h : formI n ns = true) : ∀ i ∈ ns, 0 ≤ i ∧ i.toNat < n := fun i hi => by
  unfold formI at h
  simp only [Bool.and_eq_true, List.all_eq_true, decide_eq_true_eq] at h
  have := h.1.1.2 i hi
  simp only [wiD, Bool.and_eq_true, decide_eq_true_eq] at this
  omega
theorem rot_mem {ns : List Int} {i : Int} (h : i ∈ rot ns) : i ∈ ns := by
  unfold rot at h
  rcases List.mem_append.mp h with h | h
  · exact List.mem_of_mem_drop h
  · exact List.mem_of_mem_take h
theorem pairs_mem {ns : List Int} {p : Int × Int} (h : p ∈ pairs ns) : p.1 ∈ ns ∧ p.2 ∈ ns := ⟨(List.of_mem_zip h).1, rot_mem (List.of_mem_zip h).2⟩
theorem fil_at {f : List (Option Int)} {i : Int} (h0 : 0 ≤ i) (h : i.toNat < f.length) : atI (f.map oI) i = some (oI (at_ f i)) :=
  atI_map h0 (by unfold at_; rw [List.getD_eq_getElem?_getD, List.getElem?_eq_getElem h]; rfl)
theorem rot_cut (ns : List Int) : cutD (ns.map D.int) (some 1) none ++ cutD (ns.map D.int) none (some 1) = (rot ns).map D.int := by
  have a := cutD_from (ns.map D.int) 1
  have b := cutD_upto (ns.map D.int) 1
  unfold rot
  rw [List.map_append, List.map_drop, List.map_take, ← a, ← b]; rfl
theorem rot_len (ns : List Int) : (rot ns).length = ns.length := by
  unfold rot
  rw [List.length_append, List.length_drop, List.length_take]; omega
theorem cut_len (ns : List Int) : (cutD (ns.map D.int) (some 1) none).length + (cutD (ns.map D.int) none (some 1)).length = ns.length := by
  rw [← List.length_append, rot_cut, List.length_map, rot_len]
def sp_goes : SpD := fun ds h Q _ => ∃ posts may f thing, ds = [bookD posts may, filD f, thing] ∧ Kn thing h ∧ (∀ xs, thing = .tup xs → ∀ y ∈ xs, Kn y h) ∧ f.length = may.length ∧ Q (.bl (goesD may f thing)) h
theorem pl_goes (ds : List D) (h : DH) (Q : VD) (E : ED) (w : sp_goes ds h Q E) : bodyD 5 t_goes ds h Q E := by
  obtain ⟨posts, may, f, thing, rfl, hk, hks, hlen, q⟩ := w
  unfold t_goes bodyD
  refine sSeq_i fun N hN => ?_
  refine sIf_i fun A B hA hB => ?_
  simp only [dEq_int, dNe_int, dEq_bl, dNe_bl, bodyD, startD, sNext, sBreak, sCont, sDrop, sRet, sRetN, sSet, sPar, sAsg, sSub, sFldD, iSeq, iCall, wEnum, wRange1, wRange2, wz_tup, eComp, eCompR, eComp2, eComp2R, gN, gT, gTcons, gTnil, tTst, tNotD, tAndD, tOrD, eNotV, eAndV, eOrV, eIf, eNil, eCons, eTup, eLst, eRef, eFrz, eCall, eFn, eMkV_eq, eMk, eFld, eSl, oNone, oSome, eOp2, eOp1, eChain, dAdd, dInt, dIntC, dIntB, dSub, dFdiv, dMod, dPow, dLt, dLe, dGt, dGe, dMul, dMulR, dMulT, dIs, dIx, isNon_oI, isNon_non, isNon_int, isNon_bl, isNon_str, isNon_ty, isNon_tup, isNon_lst, isNon_scr, isNon_dic, isNon_obj, isNon_ref, isNon_glb, isNon_exc, isNon_book, eVar, eC, fLen, fAbs, fInt, fMax2, fMin2, fIntsI, fSorted, fTuple, fList, fListR, eLenSet, eSortedSet, eTupRg, eLstRg, eRefRg, rg1, rg2, tYesD, sRaise, sRaiseF, eM, KD.E, wipeD, ins_book, fget_posts, fget_may, mem_Book, it_tup, it_lst, it_scr, it_ref, it_may, it_fil, it_int, it_str, lo_lst, lo_tup, lo_int, lo_ref, li_lst, li_scr, li_tup, li_ref, true_and, List.set_cons_zero, List.set_cons_succ, List.getElem?_cons_zero, List.getElem?_cons_succ, List.map_cons, List.map_nil, List.length_cons, List.length_nil, List.replicate_succ, List.replicate_zero, List.cons_append, List.nil_append, List.zip_cons_cons, List.zip_nil_left, List.foldl_cons, List.foldl_nil, Nat.reduceSub, Nat.reduceAdd, Nat.zero_add, brB_t, brB_f, Bool.not_true, Bool.not_false, if_true, if_false, Bool.false_eq_true, ↓reduceIte]
  refine ⟨posts, may, thing, rfl, hk, hks, ?_⟩
  have no : goesD may f thing = false → A h := fun e => hA h (by
    simp only [dEq_int, dNe_int, dEq_bl, dNe_bl, bodyD, startD, sNext, sBreak, sCont, sDrop, sRet, sRetN, sSet, sPar, sAsg, sSub, sFldD, iSeq, iCall, wEnum, wRange1, wRange2, wz_tup, eComp, eCompR, eComp2, eComp2R, gN, gT, gTcons, gTnil, tTst, tNotD, tAndD, tOrD, eNotV, eAndV, eOrV, eIf, eNil, eCons, eTup, eLst, eRef, eFrz, eCall, eFn, eMkV_eq, eMk, eFld, eSl, oNone, oSome, eOp2, eOp1, eChain, dAdd, dInt, dIntC, dIntB, dSub, dFdiv, dMod, dPow, dLt, dLe, dGt, dGe, dMul, dMulR, dMulT, dIs, dIx, isNon_oI, isNon_non, isNon_int, isNon_bl, isNon_str, isNon_ty, isNon_tup, isNon_lst, isNon_scr, isNon_dic, isNon_obj, isNon_ref, isNon_glb, isNon_exc, isNon_book, eVar, eC, fLen, fAbs, fInt, fMax2, fMin2, fIntsI, fSorted, fTuple, fList, fListR, eLenSet, eSortedSet, eTupRg, eLstRg, eRefRg, rg1, rg2, tYesD, sRaise, sRaiseF, eM, KD.E, wipeD, ins_book, fget_posts, fget_may, mem_Book, it_tup, it_lst, it_scr, it_ref, it_may, it_fil, it_int, it_str, lo_lst, lo_tup, lo_int, lo_ref, li_lst, li_scr, li_tup, li_ref, true_and, List.set_cons_zero, List.set_cons_succ, List.getElem?_cons_zero, List.getElem?_cons_succ, List.map_cons, List.map_nil, List.length_cons, List.length_nil, List.replicate_succ, List.replicate_zero, List.cons_append, List.nil_append, List.zip_cons_cons, List.zip_nil_left, List.foldl_cons, List.foldl_nil, Nat.reduceSub, Nat.reduceAdd, Nat.zero_add, brB_t, brB_f, Bool.not_true, Bool.not_false, if_true, if_false, Bool.false_eq_true, ↓reduceIte]
    rw [e] at q
    exact q)
  rcases Bool.eq_false_or_eq_true (formD may.length thing) with e | e
  · simp only [e, dEq_int, dNe_int, dEq_bl, dNe_bl, bodyD, startD, sNext, sBreak, sCont, sDrop, sRet, sRetN, sSet, sPar, sAsg, sSub, sFldD, iSeq, iCall, wEnum, wRange1, wRange2, wz_tup, eComp, eCompR, eComp2, eComp2R, gN, gT, gTcons, gTnil, tTst, tNotD, tAndD, tOrD, eNotV, eAndV, eOrV, eIf, eNil, eCons, eTup, eLst, eRef, eFrz, eCall, eFn, eMkV_eq, eMk, eFld, eSl, oNone, oSome, eOp2, eOp1, eChain, dAdd, dInt, dIntC, dIntB, dSub, dFdiv, dMod, dPow, dLt, dLe, dGt, dGe, dMul, dMulR, dMulT, dIs, dIx, isNon_oI, isNon_non, isNon_int, isNon_bl, isNon_str, isNon_ty, isNon_tup, isNon_lst, isNon_scr, isNon_dic, isNon_obj, isNon_ref, isNon_glb, isNon_exc, isNon_book, eVar, eC, fLen, fAbs, fInt, fMax2, fMin2, fIntsI, fSorted, fTuple, fList, fListR, eLenSet, eSortedSet, eTupRg, eLstRg, eRefRg, rg1, rg2, tYesD, sRaise, sRaiseF, eM, KD.E, wipeD, ins_book, fget_posts, fget_may, mem_Book, it_tup, it_lst, it_scr, it_ref, it_may, it_fil, it_int, it_str, lo_lst, lo_tup, lo_int, lo_ref, li_lst, li_scr, li_tup, li_ref, true_and, List.set_cons_zero, List.set_cons_succ, List.getElem?_cons_zero, List.getElem?_cons_succ, List.map_cons, List.map_nil, List.length_cons, List.length_nil, List.replicate_succ, List.replicate_zero, List.cons_append, List.nil_append, List.zip_cons_cons, List.zip_nil_left, List.foldl_cons, List.foldl_nil, Nat.reduceSub, Nat.reduceAdd, Nat.zero_add, brB_t, brB_f, Bool.not_true, Bool.not_false, if_true, if_false, Bool.false_eq_true, ↓reduceIte]
    obtain ⟨ns, rfl⟩ : ∃ ns : List Int, thing = .tup (ns.map .int) := by
      unfold formD at e
      cases thing with
      | tup xs =>
        cases hi : intsOf xs with
        | none => simp only [hi] at e; cases e
        | some ns => exact ⟨ns, by rw [intsOf_some hi]⟩
      | _ => cases e
    have e' : formI may.length ns = true := by
      unfold formD at e
      simp only [intsOf_map] at e
      exact e
    have hin := formI_in e'
    unfold goesD goesI at q no
    simp only [intsOf_map, e', Bool.true_and] at q no
    refine compL_map (α := Int) D.int (fun i => some (.bl (!(at_ f i).isSome))) trivial ?_ ?_
    · rw [List.nil_append, fm_some, any_bls]
      have ea : (ns.any fun i => !(at_ f i).isSome) = !(ns.all fun i => (at_ f i).isSome) := by
        rw [List.any_eq_not_all_not]; simp
      rw [ea]
      rcases Bool.eq_false_or_eq_true (ns.all fun i => (at_ f i).isSome) with e2 | e2
      · simp only [e2, dEq_int, dNe_int, dEq_bl, dNe_bl, bodyD, startD, sNext, sBreak, sCont, sDrop, sRet, sRetN, sSet, sPar, sAsg, sSub, sFldD, iSeq, iCall, wEnum, wRange1, wRange2, wz_tup, eComp, eCompR, eComp2, eComp2R, gN, gT, gTcons, gTnil, tTst, tNotD, tAndD, tOrD, eNotV, eAndV, eOrV, eIf, eNil, eCons, eTup, eLst, eRef, eFrz, eCall, eFn, eMkV_eq, eMk, eFld, eSl, oNone, oSome, eOp2, eOp1, eChain, dAdd, dInt, dIntC, dIntB, dSub, dFdiv, dMod, dPow, dLt, dLe, dGt, dGe, dMul, dMulR, dMulT, dIs, dIx, isNon_oI, isNon_non, isNon_int, isNon_bl, isNon_str, isNon_ty, isNon_tup, isNon_lst, isNon_scr, isNon_dic, isNon_obj, isNon_ref, isNon_glb, isNon_exc, isNon_book, eVar, eC, fLen, fAbs, fInt, fMax2, fMin2, fIntsI, fSorted, fTuple, fList, fListR, eLenSet, eSortedSet, eTupRg, eLstRg, eRefRg, rg1, rg2, tYesD, sRaise, sRaiseF, eM, KD.E, wipeD, ins_book, fget_posts, fget_may, mem_Book, it_tup, it_lst, it_scr, it_ref, it_may, it_fil, it_int, it_str, lo_lst, lo_tup, lo_int, lo_ref, li_lst, li_scr, li_tup, li_ref, true_and, List.set_cons_zero, List.set_cons_succ, List.getElem?_cons_zero, List.getElem?_cons_succ, List.map_cons, List.map_nil, List.length_cons, List.length_nil, List.replicate_succ, List.replicate_zero, List.cons_append, List.nil_append, List.zip_cons_cons, List.zip_nil_left, List.foldl_cons, List.foldl_nil, Nat.reduceSub, Nat.reduceAdd, Nat.zero_add, brB_t, brB_f, Bool.not_true, Bool.not_false, if_true, if_false, Bool.false_eq_true, ↓reduceIte]
        rw [e2, Bool.true_and] at q
        refine hB h (hN _ _ ?_)
        simp only [dEq_int, dNe_int, dEq_bl, dNe_bl, bodyD, startD, sNext, sBreak, sCont, sDrop, sRet, sRetN, sSet, sPar, sAsg, sSub, sFldD, iSeq, iCall, wEnum, wRange1, wRange2, wz_tup, eComp, eCompR, eComp2, eComp2R, gN, gT, gTcons, gTnil, tTst, tNotD, tAndD, tOrD, eNotV, eAndV, eOrV, eIf, eNil, eCons, eTup, eLst, eRef, eFrz, eCall, eFn, eMkV_eq, eMk, eFld, eSl, oNone, oSome, eOp2, eOp1, eChain, dAdd, dInt, dIntC, dIntB, dSub, dFdiv, dMod, dPow, dLt, dLe, dGt, dGe, dMul, dMulR, dMulT, dIs, dIx, isNon_oI, isNon_non, isNon_int, isNon_bl, isNon_str, isNon_ty, isNon_tup, isNon_lst, isNon_scr, isNon_dic, isNon_obj, isNon_ref, isNon_glb, isNon_exc, isNon_book, eVar, eC, fLen, fAbs, fInt, fMax2, fMin2, fIntsI, fSorted, fTuple, fList, fListR, eLenSet, eSortedSet, eTupRg, eLstRg, eRefRg, rg1, rg2, tYesD, sRaise, sRaiseF, eM, KD.E, wipeD, ins_book, fget_posts, fget_may, mem_Book, it_tup, it_lst, it_scr, it_ref, it_may, it_fil, it_int, it_str, lo_lst, lo_tup, lo_int, lo_ref, li_lst, li_scr, li_tup, li_ref, true_and, List.set_cons_zero, List.set_cons_succ, List.getElem?_cons_zero, List.getElem?_cons_succ, List.map_cons, List.map_nil, List.length_cons, List.length_nil, List.replicate_succ, List.replicate_zero, List.cons_append, List.nil_append, List.zip_cons_cons, List.zip_nil_left, List.foldl_cons, List.foldl_nil, Nat.reduceSub, Nat.reduceAdd, Nat.zero_add, brB_t, brB_f, Bool.not_true, Bool.not_false, if_true, if_false, Bool.false_eq_true, ↓reduceIte, rot_cut, cut_len, zipL_map]
        have hz : ns.length ≤ sizeLine := size_le (by
          unfold formI at e'
          simp only [Bool.and_eq_true, decide_eq_true_eq] at e'
          omega)
        simp only [hz, dEq_int, dNe_int, dEq_bl, dNe_bl, bodyD, startD, sNext, sBreak, sCont, sDrop, sRet, sRetN, sSet, sPar, sAsg, sSub, sFldD, iSeq, iCall, wEnum, wRange1, wRange2, wz_tup, eComp, eCompR, eComp2, eComp2R, gN, gT, gTcons, gTnil, tTst, tNotD, tAndD, tOrD, eNotV, eAndV, eOrV, eIf, eNil, eCons, eTup, eLst, eRef, eFrz, eCall, eFn, eMkV_eq, eMk, eFld, eSl, oNone, oSome, eOp2, eOp1, eChain, dAdd, dInt, dIntC, dIntB, dSub, dFdiv, dMod, dPow, dLt, dLe, dGt, dGe, dMul, dMulR, dMulT, dIs, dIx, isNon_oI, isNon_non, isNon_int, isNon_bl, isNon_str, isNon_ty, isNon_tup, isNon_lst, isNon_scr, isNon_dic, isNon_obj, isNon_ref, isNon_glb, isNon_exc, isNon_book, eVar, eC, fLen, fAbs, fInt, fMax2, fMin2, fIntsI, fSorted, fTuple, fList, fListR, eLenSet, eSortedSet, eTupRg, eLstRg, eRefRg, rg1, rg2, tYesD, sRaise, sRaiseF, eM, KD.E, wipeD, ins_book, fget_posts, fget_may, mem_Book, it_tup, it_lst, it_scr, it_ref, it_may, it_fil, it_int, it_str, lo_lst, lo_tup, lo_int, lo_ref, li_lst, li_scr, li_tup, li_ref, true_and, List.set_cons_zero, List.set_cons_succ, List.getElem?_cons_zero, List.getElem?_cons_succ, List.map_cons, List.map_nil, List.length_cons, List.length_nil, List.replicate_succ, List.replicate_zero, List.cons_append, List.nil_append, List.zip_cons_cons, List.zip_nil_left, List.foldl_cons, List.foldl_nil, Nat.reduceSub, Nat.reduceAdd, Nat.zero_add, brB_t, brB_f, Bool.not_true, Bool.not_false, if_true, if_false, Bool.false_eq_true, ↓reduceIte]
        refine compL_map (α := Int × Int) _ (fun p => some (.bl (decide ((at_ f p.2).getD 0 ∈ may.getD p.1.toNat [])))) trivial ?_ ?_
        · rw [List.nil_append, fm_some, all_bls]
          exact q
        · intro p hp N acc hN
          obtain ⟨m1, m2⟩ := pairs_mem hp
          have i1 := hin _ m1
          have i2 := hin _ m2
          simp only [dEq_int, dNe_int, dEq_bl, dNe_bl, bodyD, startD, sNext, sBreak, sCont, sDrop, sRet, sRetN, sSet, sPar, sAsg, sSub, sFldD, iSeq, iCall, wEnum, wRange1, wRange2, wz_tup, eComp, eCompR, eComp2, eComp2R, gN, gT, gTcons, gTnil, tTst, tNotD, tAndD, tOrD, eNotV, eAndV, eOrV, eIf, eNil, eCons, eTup, eLst, eRef, eFrz, eCall, eFn, eMkV_eq, eMk, eFld, eSl, oNone, oSome, eOp2, eOp1, eChain, dAdd, dInt, dIntC, dIntB, dSub, dFdiv, dMod, dPow, dLt, dLe, dGt, dGe, dMul, dMulR, dMulT, dIs, dIx, isNon_oI, isNon_non, isNon_int, isNon_bl, isNon_str, isNon_ty, isNon_tup, isNon_lst, isNon_scr, isNon_dic, isNon_obj, isNon_ref, isNon_glb, isNon_exc, isNon_book, eVar, eC, fLen, fAbs, fInt, fMax2, fMin2, fIntsI, fSorted, fTuple, fList, fListR, eLenSet, eSortedSet, eTupRg, eLstRg, eRefRg, rg1, rg2, tYesD, sRaise, sRaiseF, eM, KD.E, wipeD, ins_book, fget_posts, fget_may, mem_Book, it_tup, it_lst, it_scr, it_ref, it_may, it_fil, it_int, it_str, lo_lst, lo_tup, lo_int, lo_ref, li_lst, li_scr, li_tup, li_ref, true_and, List.set_cons_zero, List.set_cons_succ, List.getElem?_cons_zero, List.getElem?_cons_succ, List.map_cons, List.map_nil, List.length_cons, List.length_nil, List.replicate_succ, List.replicate_zero, List.cons_append, List.nil_append, List.zip_cons_cons, List.zip_nil_left, List.foldl_cons, List.foldl_nil, Nat.reduceSub, Nat.reduceAdd, Nat.zero_add, brB_t, brB_f, Bool.not_true, Bool.not_false, if_true, if_false, Bool.false_eq_true, ↓reduceIte]
          rw [fil_at i2.1 (by rw [hlen]; exact i2.2), mayD_at (s := may.getD p.1.toNat []) i1.1 (by rw [List.getD_eq_getElem?_getD, List.getElem?_eq_getElem i1.2]; rfl)]
          simp only [dEq_int, dNe_int, dEq_bl, dNe_bl, bodyD, startD, sNext, sBreak, sCont, sDrop, sRet, sRetN, sSet, sPar, sAsg, sSub, sFldD, iSeq, iCall, wEnum, wRange1, wRange2, wz_tup, eComp, eCompR, eComp2, eComp2R, gN, gT, gTcons, gTnil, tTst, tNotD, tAndD, tOrD, eNotV, eAndV, eOrV, eIf, eNil, eCons, eTup, eLst, eRef, eFrz, eCall, eFn, eMkV_eq, eMk, eFld, eSl, oNone, oSome, eOp2, eOp1, eChain, dAdd, dInt, dIntC, dIntB, dSub, dFdiv, dMod, dPow, dLt, dLe, dGt, dGe, dMul, dMulR, dMulT, dIs, dIx, isNon_oI, isNon_non, isNon_int, isNon_bl, isNon_str, isNon_ty, isNon_tup, isNon_lst, isNon_scr, isNon_dic, isNon_obj, isNon_ref, isNon_glb, isNon_exc, isNon_book, eVar, eC, fLen, fAbs, fInt, fMax2, fMin2, fIntsI, fSorted, fTuple, fList, fListR, eLenSet, eSortedSet, eTupRg, eLstRg, eRefRg, rg1, rg2, tYesD, sRaise, sRaiseF, eM, KD.E, wipeD, ins_book, fget_posts, fget_may, mem_Book, it_tup, it_lst, it_scr, it_ref, it_may, it_fil, it_int, it_str, lo_lst, lo_tup, lo_int, lo_ref, li_lst, li_scr, li_tup, li_ref, true_and, List.set_cons_zero, List.set_cons_succ, List.getElem?_cons_zero, List.getElem?_cons_succ, List.map_cons, List.map_nil, List.length_cons, List.length_nil, List.replicate_succ, List.replicate_zero, List.cons_append, List.nil_append, List.zip_cons_cons, List.zip_nil_left, List.foldl_cons, List.foldl_nil, Nat.reduceSub, Nat.reduceAdd, Nat.zero_add, brB_t, brB_f, Bool.not_true, Bool.not_false, if_true, if_false, Bool.false_eq_true, ↓reduceIte]
          have hs : (at_ f p.2).isSome = true := List.all_eq_true.mp e2 _ m2
          cases ho : at_ f p.2 with
          | none => rw [ho] at hs; cases hs
          | some v =>
            simp only [oI]
            rw [dIn_ints v (may.getD p.1.toNat []) rfl]
            rw [ho] at hN
            exact hN
      · simp only [e2, dEq_int, dNe_int, dEq_bl, dNe_bl, bodyD, startD, sNext, sBreak, sCont, sDrop, sRet, sRetN, sSet, sPar, sAsg, sSub, sFldD, iSeq, iCall, wEnum, wRange1, wRange2, wz_tup, eComp, eCompR, eComp2, eComp2R, gN, gT, gTcons, gTnil, tTst, tNotD, tAndD, tOrD, eNotV, eAndV, eOrV, eIf, eNil, eCons, eTup, eLst, eRef, eFrz, eCall, eFn, eMkV_eq, eMk, eFld, eSl, oNone, oSome, eOp2, eOp1, eChain, dAdd, dInt, dIntC, dIntB, dSub, dFdiv, dMod, dPow, dLt, dLe, dGt, dGe, dMul, dMulR, dMulT, dIs, dIx, isNon_oI, isNon_non, isNon_int, isNon_bl, isNon_str, isNon_ty, isNon_tup, isNon_lst, isNon_scr, isNon_dic, isNon_obj, isNon_ref, isNon_glb, isNon_exc, isNon_book, eVar, eC, fLen, fAbs, fInt, fMax2, fMin2, fIntsI, fSorted, fTuple, fList, fListR, eLenSet, eSortedSet, eTupRg, eLstRg, eRefRg, rg1, rg2, tYesD, sRaise, sRaiseF, eM, KD.E, wipeD, ins_book, fget_posts, fget_may, mem_Book, it_tup, it_lst, it_scr, it_ref, it_may, it_fil, it_int, it_str, lo_lst, lo_tup, lo_int, lo_ref, li_lst, li_scr, li_tup, li_ref, true_and, List.set_cons_zero, List.set_cons_succ, List.getElem?_cons_zero, List.getElem?_cons_succ, List.map_cons, List.map_nil, List.length_cons, List.length_nil, List.replicate_succ, List.replicate_zero, List.cons_append, List.nil_append, List.zip_cons_cons, List.zip_nil_left, List.foldl_cons, List.foldl_nil, Nat.reduceSub, Nat.reduceAdd, Nat.zero_add, brB_t, brB_f, Bool.not_true, Bool.not_false, if_true, if_false, Bool.false_eq_true, ↓reduceIte]
        exact no (by rw [e2]; rfl)
    · intro i hi N acc hN
      obtain ⟨i1, i2⟩ := hin i hi
      simp only [dEq_int, dNe_int, dEq_bl, dNe_bl, bodyD, startD, sNext, sBreak, sCont, sDrop, sRet, sRetN, sSet, sPar, sAsg, sSub, sFldD, iSeq, iCall, wEnum, wRange1, wRange2, wz_tup, eComp, eCompR, eComp2, eComp2R, gN, gT, gTcons, gTnil, tTst, tNotD, tAndD, tOrD, eNotV, eAndV, eOrV, eIf, eNil, eCons, eTup, eLst, eRef, eFrz, eCall, eFn, eMkV_eq, eMk, eFld, eSl, oNone, oSome, eOp2, eOp1, eChain, dAdd, dInt, dIntC, dIntB, dSub, dFdiv, dMod, dPow, dLt, dLe, dGt, dGe, dMul, dMulR, dMulT, dIs, dIx, isNon_oI, isNon_non, isNon_int, isNon_bl, isNon_str, isNon_ty, isNon_tup, isNon_lst, isNon_scr, isNon_dic, isNon_obj, isNon_ref, isNon_glb, isNon_exc, isNon_book, eVar, eC, fLen, fAbs, fInt, fMax2, fMin2, fIntsI, fSorted, fTuple, fList, fListR, eLenSet, eSortedSet, eTupRg, eLstRg, eRefRg, rg1, rg2, tYesD, sRaise, sRaiseF, eM, KD.E, wipeD, ins_book, fget_posts, fget_may, mem_Book, it_tup, it_lst, it_scr, it_ref, it_may, it_fil, it_int, it_str, lo_lst, lo_tup, lo_int, lo_ref, li_lst, li_scr, li_tup, li_ref, true_and, List.set_cons_zero, List.set_cons_succ, List.getElem?_cons_zero, List.getElem?_cons_succ, List.map_cons, List.map_nil, List.length_cons, List.length_nil, List.replicate_succ, List.replicate_zero, List.cons_append, List.nil_append, List.zip_cons_cons, List.zip_nil_left, List.foldl_cons, List.foldl_nil, Nat.reduceSub, Nat.reduceAdd, Nat.zero_add, brB_t, brB_f, Bool.not_true, Bool.not_false, if_true, if_false, Bool.false_eq_true, ↓reduceIte]
      rw [fil_at i1 (by rw [hlen]; exact i2)]
      simp only [dEq_int, dNe_int, dEq_bl, dNe_bl, bodyD, startD, sNext, sBreak, sCont, sDrop, sRet, sRetN, sSet, sPar, sAsg, sSub, sFldD, iSeq, iCall, wEnum, wRange1, wRange2, wz_tup, eComp, eCompR, eComp2, eComp2R, gN, gT, gTcons, gTnil, tTst, tNotD, tAndD, tOrD, eNotV, eAndV, eOrV, eIf, eNil, eCons, eTup, eLst, eRef, eFrz, eCall, eFn, eMkV_eq, eMk, eFld, eSl, oNone, oSome, eOp2, eOp1, eChain, dAdd, dInt, dIntC, dIntB, dSub, dFdiv, dMod, dPow, dLt, dLe, dGt, dGe, dMul, dMulR, dMulT, dIs, dIx, isNon_oI, isNon_non, isNon_int, isNon_bl, isNon_str, isNon_ty, isNon_tup, isNon_lst, isNon_scr, isNon_dic, isNon_obj, isNon_ref, isNon_glb, isNon_exc, isNon_book, eVar, eC, fLen, fAbs, fInt, fMax2, fMin2, fIntsI, fSorted, fTuple, fList, fListR, eLenSet, eSortedSet, eTupRg, eLstRg, eRefRg, rg1, rg2, tYesD, sRaise, sRaiseF, eM, KD.E, wipeD, ins_book, fget_posts, fget_may, mem_Book, it_tup, it_lst, it_scr, it_ref, it_may, it_fil, it_int, it_str, lo_lst, lo_tup, lo_int, lo_ref, li_lst, li_scr, li_tup, li_ref, true_and, List.set_cons_zero, List.set_cons_succ, List.getElem?_cons_zero, List.getElem?_cons_succ, List.map_cons, List.map_nil, List.length_cons, List.length_nil, List.replicate_succ, List.replicate_zero, List.cons_append, List.nil_append, List.zip_cons_cons, List.zip_nil_left, List.foldl_cons, List.foldl_nil, Nat.reduceSub, Nat.reduceAdd, Nat.zero_add, brB_t, brB_f, Bool.not_true, Bool.not_false, if_true, if_false, Bool.false_eq_true, ↓reduceIte, isNon_oI]
      exact hN
  · simp only [e, dEq_int, dNe_int, dEq_bl, dNe_bl, bodyD, startD, sNext, sBreak, sCont, sDrop, sRet, sRetN, sSet, sPar, sAsg, sSub, sFldD, iSeq, iCall, wEnum, wRange1, wRange2, wz_tup, eComp, eCompR, eComp2, eComp2R, gN, gT, gTcons, gTnil, tTst, tNotD, tAndD, tOrD, eNotV, eAndV, eOrV, eIf, eNil, eCons, eTup, eLst, eRef, eFrz, eCall, eFn, eMkV_eq, eMk, eFld, eSl, oNone, oSome, eOp2, eOp1, eChain, dAdd, dInt, dIntC, dIntB, dSub, dFdiv, dMod, dPow, dLt, dLe, dGt, dGe, dMul, dMulR, dMulT, dIs, dIx, isNon_oI, isNon_non, isNon_int, isNon_bl, isNon_str, isNon_ty, isNon_tup, isNon_lst, isNon_scr, isNon_dic, isNon_obj, isNon_ref, isNon_glb, isNon_exc, isNon_book, eVar, eC, fLen, fAbs, fInt, fMax2, fMin2, fIntsI, fSorted, fTuple, fList, fListR, eLenSet, eSortedSet, eTupRg, eLstRg, eRefRg, rg1, rg2, tYesD, sRaise, sRaiseF, eM, KD.E, wipeD, ins_book, fget_posts, fget_may, mem_Book, it_tup, it_lst, it_scr, it_ref, it_may, it_fil, it_int, it_str, lo_lst, lo_tup, lo_int, lo_ref, li_lst, li_scr, li_tup, li_ref, true_and, List.set_cons_zero, List.set_cons_succ, List.getElem?_cons_zero, List.getElem?_cons_succ, List.map_cons, List.map_nil, List.length_cons, List.length_nil, List.replicate_succ, List.replicate_zero, List.cons_append, List.nil_append, List.zip_cons_cons, List.zip_nil_left, List.foldl_cons, List.foldl_nil, Nat.reduceSub, Nat.reduceAdd, Nat.zero_add, brB_t, brB_f, Bool.not_true, Bool.not_false, if_true, if_false, Bool.false_eq_true, ↓reduceIte]
    refine no ?_
    unfold formD at e
    unfold goesD
    cases thing with
    | tup xs =>
      cases hi : intsOf xs with
      | none => simp only [hi]
      | some ns =>
        simp only [hi] at e ⊢
        unfold goesI
        rw [e]; rfl
    | _ => rfl
/-! swaps_of -/
def t_swaps_of : TSD :=
    (sSeq (sSet 2 (eCall fLen (eCons (eFld ["Book"] "may" (eVar 0)) eNil)))
    (sRet (eComp2R (iCall wRange1 (eCons (eVar 2) eNil)) (gN 3) tYesD (iCall wRange2 (eCons (eOp2 dAdd (eVar 3) (eC (.int 1))) (eCons (eVar 2) eNil))) (gN 4) (tTst (eFn sp_goes (eCons (eVar 0) (eCons (eVar 1) (eCons (eTup (eCons (eVar 3) (eCons (eVar 4) eNil))) eNil))))) (eTup (eCons (eVar 3) (eCons (eVar 4) eNil))) [3, 4] [4])))
-- use: popR
def pairD (p : Int × Int) : D := .tup [.int p.1, .int p.2]
/-- the swaps that go, ascending -/
def swapsI (may : List (List Int)) (f : List (Option Int)) : List (Int × Int) :=
  (List.range may.length).flatMap fun x => ((List.range (may.length - (x + 1))).map fun y => (((x : Nat) : Int), ((x + 1 + y : Nat) : Int))).filter fun p => goesI may f [p.1, p.2]
def sp_swaps_of : SpD := fun ds h Q _ => ∃ posts may f, ds = [bookD posts may, filD f] ∧ f.length = may.length ∧ may.length ≤ 1000 ∧ Q (.ref h.length) (h ++ [.lst ((swapsI may f).map pairD)])
theorem goesD_pair {may : List (List Int)} {f : List (Option Int)} {x y : Int} : goesD may f (.tup [.int x, .int y]) = goesI may f [x, y] := rfl
theorem nrDs_pairs {n : Nat} : ∀ l : List (Int × Int), nrDs n (l.map pairD) = true
  | [] => rfl
  | p :: r => by
    simp only [List.map_cons, nrDs, pairD, nrD, Bool.true_and]
    exact nrDs_pairs r
theorem swaps_len (may : List (List Int)) (f : List (Option Int)) : (swapsI may f).length ≤ may.length * may.length := by
  unfold swapsI
  have : ∀ (l : List Nat) (g : Nat → List (Int × Int)) (b : Nat), (∀ x ∈ l, (g x).length ≤ b) → (l.flatMap g).length ≤ l.length * b := by
    intro l g b
    induction l with
    | nil => intro _; simp
    | cons x r ih =>
      intro hh
      rw [List.flatMap_cons, List.length_append, List.length_cons, Nat.succ_mul]
      have := hh x List.mem_cons_self
      have := ih fun y hy => hh y (List.mem_cons_of_mem _ hy)
      omega
  have := this (List.range may.length) (fun x => ((List.range (may.length - (x + 1))).map fun y => (((x : Nat) : Int), ((x + 1 + y : Nat) : Int))).filter fun p => goesI may f [p.1, p.2]) may.length fun x _ => by
    refine Nat.le_trans (List.length_filter_le _ _) ?_
    rw [List.length_map, List.length_range]; omega
  rw [List.length_range] at this
  exact this
theorem pl_swaps_of (ds : List D) (h : DH) (Q : VD) (E : ED) (w : sp_swaps_of ds h Q E) : popWR (bodyD 5 t_swaps_of) ds h Q E := by
  obtain ⟨posts, may, f, rfl, hlen, hz, q⟩ := w
  intro _ wf
  unfold popFR t_swaps_of bodyD
  refine sSeq_i fun N hN => ?_
  simp only [dEq_int, dNe_int, dEq_bl, dNe_bl, bodyD, startD, sNext, sBreak, sCont, sDrop, sRet, sRetN, sSet, sPar, sAsg, sSub, sFldD, iSeq, iCall, wEnum, wRange1, wRange2, wz_tup, eComp, eCompR, eComp2, eComp2R, gN, gT, gTcons, gTnil, tTst, tNotD, tAndD, tOrD, eNotV, eAndV, eOrV, eIf, eNil, eCons, eTup, eLst, eRef, eFrz, eCall, eFn, eMkV_eq, eMk, eFld, eSl, oNone, oSome, eOp2, eOp1, eChain, dAdd, dInt, dIntC, dIntB, dSub, dFdiv, dMod, dPow, dLt, dLe, dGt, dGe, dMul, dMulR, dMulT, dIs, dIx, isNon_oI, isNon_non, isNon_int, isNon_bl, isNon_str, isNon_ty, isNon_tup, isNon_lst, isNon_scr, isNon_dic, isNon_obj, isNon_ref, isNon_glb, isNon_exc, isNon_book, eVar, eC, fLen, fAbs, fInt, fMax2, fMin2, fIntsI, fSorted, fTuple, fList, fListR, eLenSet, eSortedSet, eTupRg, eLstRg, eRefRg, rg1, rg2, tYesD, sRaise, sRaiseF, eM, KD.E, wipeD, ins_book, fget_posts, fget_may, mem_Book, it_tup, it_lst, it_scr, it_ref, it_may, it_fil, it_int, it_str, lo_lst, lo_tup, lo_int, lo_ref, li_lst, li_scr, li_tup, li_ref, true_and, List.set_cons_zero, List.set_cons_succ, List.getElem?_cons_zero, List.getElem?_cons_succ, List.map_cons, List.map_nil, List.length_cons, List.length_nil, List.replicate_succ, List.replicate_zero, List.cons_append, List.nil_append, List.zip_cons_cons, List.zip_nil_left, List.foldl_cons, List.foldl_nil, Nat.reduceSub, Nat.reduceAdd, Nat.zero_add, brB_t, brB_f, Bool.not_true, Bool.not_false, if_true, if_false, Bool.false_eq_true, ↓reduceIte, List.length_map]
  refine hN _ _ ?_
  simp only [dEq_int, dNe_int, dEq_bl, dNe_bl, bodyD, startD, sNext, sBreak, sCont, sDrop, sRet, sRetN, sSet, sPar, sAsg, sSub, sFldD, iSeq, iCall, wEnum, wRange1, wRange2, wz_tup, eComp, eCompR, eComp2, eComp2R, gN, gT, gTcons, gTnil, tTst, tNotD, tAndD, tOrD, eNotV, eAndV, eOrV, eIf, eNil, eCons, eTup, eLst, eRef, eFrz, eCall, eFn, eMkV_eq, eMk, eFld, eSl, oNone, oSome, eOp2, eOp1, eChain, dAdd, dInt, dIntC, dIntB, dSub, dFdiv, dMod, dPow, dLt, dLe, dGt, dGe, dMul, dMulR, dMulT, dIs, dIx, isNon_oI, isNon_non, isNon_int, isNon_bl, isNon_str, isNon_ty, isNon_tup, isNon_lst, isNon_scr, isNon_dic, isNon_obj, isNon_ref, isNon_glb, isNon_exc, isNon_book, eVar, eC, fLen, fAbs, fInt, fMax2, fMin2, fIntsI, fSorted, fTuple, fList, fListR, eLenSet, eSortedSet, eTupRg, eLstRg, eRefRg, rg1, rg2, tYesD, sRaise, sRaiseF, eM, KD.E, wipeD, ins_book, fget_posts, fget_may, mem_Book, it_tup, it_lst, it_scr, it_ref, it_may, it_fil, it_int, it_str, lo_lst, lo_tup, lo_int, lo_ref, li_lst, li_scr, li_tup, li_ref, true_and, List.set_cons_zero, List.set_cons_succ, List.getElem?_cons_zero, List.getElem?_cons_succ, List.map_cons, List.map_nil, List.length_cons, List.length_nil, List.replicate_succ, List.replicate_zero, List.cons_append, List.nil_append, List.zip_cons_cons, List.zip_nil_left, List.foldl_cons, List.foldl_nil, Nat.reduceSub, Nat.reduceAdd, Nat.zero_add, brB_t, brB_f, Bool.not_true, Bool.not_false, if_true, if_false, Bool.false_eq_true, ↓reduceIte]
  refine ⟨by omega, ?_⟩
  rw [rngL_eq, Int.toNat_natCast]
  have e1 : (List.range may.length).flatMap (fun x => (((List.range (may.length - (x + 1))).map fun y => (((x : Nat) : Int), ((x + 1 + y : Nat) : Int))).filter fun p => goesI may f [p.1, p.2]).map pairD) = (swapsI may f).map pairD := by
    unfold swapsI
    rw [List.map_flatMap]
  have hsz : ((swapsI may f).map pairD).length ≤ 1000000 := by
    rw [List.length_map]
    have := swaps_len may f
    have : may.length * may.length ≤ 1000 * 1000 := Nat.mul_le_mul hz hz
    omega
  refine comp2_map (α := Nat) 1000000 _ (fun x => (((List.range (may.length - (x + 1))).map fun y => (((x : Nat) : Int), ((x + 1 + y : Nat) : Int))).filter fun p => goesI may f [p.1, p.2]).map pairD) trivial ?_ ?_ ?_
  · rw [List.nil_append, e1]
    have hnr : nrO h.length (.lst ((swapsI may f).map pairD)) = true := nrDs_pairs _
    unfold popRQ
    simp only [get_last]
    refine ⟨Nat.le_refl _, (fun q => by cases q), hnr, wf_take wf, ?_⟩
    rw [List.take_left]
    exact q
  · rw [List.length_nil, Nat.zero_add, e1]
    exact hsz
  · intro x hx N acc hacc hN
    simp only [dEq_int, dNe_int, dEq_bl, dNe_bl, bodyD, startD, sNext, sBreak, sCont, sDrop, sRet, sRetN, sSet, sPar, sAsg, sSub, sFldD, iSeq, iCall, wEnum, wRange1, wRange2, wz_tup, eComp, eCompR, eComp2, eComp2R, gN, gT, gTcons, gTnil, tTst, tNotD, tAndD, tOrD, eNotV, eAndV, eOrV, eIf, eNil, eCons, eTup, eLst, eRef, eFrz, eCall, eFn, eMkV_eq, eMk, eFld, eSl, oNone, oSome, eOp2, eOp1, eChain, dAdd, dInt, dIntC, dIntB, dSub, dFdiv, dMod, dPow, dLt, dLe, dGt, dGe, dMul, dMulR, dMulT, dIs, dIx, isNon_oI, isNon_non, isNon_int, isNon_bl, isNon_str, isNon_ty, isNon_tup, isNon_lst, isNon_scr, isNon_dic, isNon_obj, isNon_ref, isNon_glb, isNon_exc, isNon_book, eVar, eC, fLen, fAbs, fInt, fMax2, fMin2, fIntsI, fSorted, fTuple, fList, fListR, eLenSet, eSortedSet, eTupRg, eLstRg, eRefRg, rg1, rg2, tYesD, sRaise, sRaiseF, eM, KD.E, wipeD, ins_book, fget_posts, fget_may, mem_Book, it_tup, it_lst, it_scr, it_ref, it_may, it_fil, it_int, it_str, lo_lst, lo_tup, lo_int, lo_ref, li_lst, li_scr, li_tup, li_ref, true_and, List.set_cons_zero, List.set_cons_succ, List.getElem?_cons_zero, List.getElem?_cons_succ, List.map_cons, List.map_nil, List.length_cons, List.length_nil, List.replicate_succ, List.replicate_zero, List.cons_append, List.nil_append, List.zip_cons_cons, List.zip_nil_left, List.foldl_cons, List.foldl_nil, Nat.reduceSub, Nat.reduceAdd, Nat.zero_add, brB_t, brB_f, Bool.not_true, Bool.not_false, if_true, if_false, Bool.false_eq_true, ↓reduceIte]
    have hx' := List.mem_range.mp hx
    refine ⟨by omega, ?_⟩
    rw [rngL_eq]
    have e2 : ((may.length : Int) - (0 + (x : Int) + 1)).toNat = may.length - (x + 1) := by omega
    rw [e2]
    have e3 : (List.range (may.length - (x + 1))).filterMap (fun y => if goesI may f [((x : Nat) : Int), ((x + 1 + y : Nat) : Int)] = true then some (pairD (((x : Nat) : Int), ((x + 1 + y : Nat) : Int))) else none) =
        (((List.range (may.length - (x + 1))).map fun y => (((x : Nat) : Int), ((x + 1 + y : Nat) : Int))).filter fun p => goesI may f [p.1, p.2]).map pairD := by
      induction List.range (may.length - (x + 1)) with
      | nil => rfl
      | cons y r ih =>
        rw [List.filterMap_cons, List.map_cons, List.filter_cons]
        split
        · rename_i e
          split at e
          · cases e
          · rename_i e'
            rw [if_neg e', ih]
        · rename_i z e
          split at e
          · rename_i e'
            cases e
            rw [if_pos e', List.map_cons, ih]
          · cases e
    refine compB_map (α := Nat) _ (fun y => if goesI may f [((x : Nat) : Int), ((x + 1 + y : Nat) : Int)] = true then some (pairD (((x : Nat) : Int), ((x + 1 + y : Nat) : Int))) else none) trivial ?_ ?_ ?_
    · rw [e3]; exact hN
    · rw [List.length_range]; exact size_le (by omega)
    · intro y hy N acc hacc hN
      simp only [dEq_int, dNe_int, dEq_bl, dNe_bl, bodyD, startD, sNext, sBreak, sCont, sDrop, sRet, sRetN, sSet, sPar, sAsg, sSub, sFldD, iSeq, iCall, wEnum, wRange1, wRange2, wz_tup, eComp, eCompR, eComp2, eComp2R, gN, gT, gTcons, gTnil, tTst, tNotD, tAndD, tOrD, eNotV, eAndV, eOrV, eIf, eNil, eCons, eTup, eLst, eRef, eFrz, eCall, eFn, eMkV_eq, eMk, eFld, eSl, oNone, oSome, eOp2, eOp1, eChain, dAdd, dInt, dIntC, dIntB, dSub, dFdiv, dMod, dPow, dLt, dLe, dGt, dGe, dMul, dMulR, dMulT, dIs, dIx, isNon_oI, isNon_non, isNon_int, isNon_bl, isNon_str, isNon_ty, isNon_tup, isNon_lst, isNon_scr, isNon_dic, isNon_obj, isNon_ref, isNon_glb, isNon_exc, isNon_book, eVar, eC, fLen, fAbs, fInt, fMax2, fMin2, fIntsI, fSorted, fTuple, fList, fListR, eLenSet, eSortedSet, eTupRg, eLstRg, eRefRg, rg1, rg2, tYesD, sRaise, sRaiseF, eM, KD.E, wipeD, ins_book, fget_posts, fget_may, mem_Book, it_tup, it_lst, it_scr, it_ref, it_may, it_fil, it_int, it_str, lo_lst, lo_tup, lo_int, lo_ref, li_lst, li_scr, li_tup, li_ref, true_and, List.set_cons_zero, List.set_cons_succ, List.getElem?_cons_zero, List.getElem?_cons_succ, List.map_cons, List.map_nil, List.length_cons, List.length_nil, List.replicate_succ, List.replicate_zero, List.cons_append, List.nil_append, List.zip_cons_cons, List.zip_nil_left, List.foldl_cons, List.foldl_nil, Nat.reduceSub, Nat.reduceAdd, Nat.zero_add, brB_t, brB_f, Bool.not_true, Bool.not_false, if_true, if_false, Bool.false_eq_true, ↓reduceIte]
      have ex : (0 + (x : Int)) = ((x : Nat) : Int) := by omega
      have ey : (0 + (x : Int) + 1 + (y : Int)) = ((x + 1 + y : Nat) : Int) := by omega
      rw [ey, ex]
      refine ⟨posts, may, f, _, rfl, kn_tup, fun xs e => ?_, hlen, ?_⟩
      · cases e
        intro z hz
        simp only [List.mem_cons, List.not_mem_nil, or_false] at hz
        rcases hz with rfl | rfl <;> exact kn_int
      · rw [goesD_pair]
        simp only [dEq_int, dNe_int, dEq_bl, dNe_bl, bodyD, startD, sNext, sBreak, sCont, sDrop, sRet, sRetN, sSet, sPar, sAsg, sSub, sFldD, iSeq, iCall, wEnum, wRange1, wRange2, wz_tup, eComp, eCompR, eComp2, eComp2R, gN, gT, gTcons, gTnil, tTst, tNotD, tAndD, tOrD, eNotV, eAndV, eOrV, eIf, eNil, eCons, eTup, eLst, eRef, eFrz, eCall, eFn, eMkV_eq, eMk, eFld, eSl, oNone, oSome, eOp2, eOp1, eChain, dAdd, dInt, dIntC, dIntB, dSub, dFdiv, dMod, dPow, dLt, dLe, dGt, dGe, dMul, dMulR, dMulT, dIs, dIx, isNon_oI, isNon_non, isNon_int, isNon_bl, isNon_str, isNon_ty, isNon_tup, isNon_lst, isNon_scr, isNon_dic, isNon_obj, isNon_ref, isNon_glb, isNon_exc, isNon_book, eVar, eC, fLen, fAbs, fInt, fMax2, fMin2, fIntsI, fSorted, fTuple, fList, fListR, eLenSet, eSortedSet, eTupRg, eLstRg, eRefRg, rg1, rg2, tYesD, sRaise, sRaiseF, eM, KD.E, wipeD, ins_book, fget_posts, fget_may, mem_Book, it_tup, it_lst, it_scr, it_ref, it_may, it_fil, it_int, it_str, lo_lst, lo_tup, lo_int, lo_ref, li_lst, li_scr, li_tup, li_ref, true_and, List.set_cons_zero, List.set_cons_succ, List.getElem?_cons_zero, List.getElem?_cons_succ, List.map_cons, List.map_nil, List.length_cons, List.length_nil, List.replicate_succ, List.replicate_zero, List.cons_append, List.nil_append, List.zip_cons_cons, List.zip_nil_left, List.foldl_cons, List.foldl_nil, Nat.reduceSub, Nat.reduceAdd, Nat.zero_add, brB_t, brB_f, Bool.not_true, Bool.not_false, if_true, if_false, Bool.false_eq_true, ↓reduceIte]
        split
        · rename_i e
          rw [if_pos e] at hN
          exact ⟨hacc, hN⟩
        · rename_i e
          rw [if_neg e] at hN
          exact hN
/-! swaps -/
def t_swaps : TSD :=
    (sSeq (sDrop (eFn sp_check_filling (eCons (eVar 0) (eCons (eVar 1) eNil))))
    (sRet (eFn sp_swaps_of (eCons (eVar 0) (eCons (eVar 1) eNil)))))
def sp_swaps : SpD := fun ds h Q _ => ∃ posts may f, ds = [bookD posts may, filD f] ∧ rightD may (filD f) = true ∧ may.length ≤ 1000 ∧ Q (.ref h.length) (h ++ [.lst ((swapsI may f).map pairD)])
theorem pl_swaps (ds : List D) (h : DH) (Q : VD) (E : ED) (w : sp_swaps ds h Q E) : bodyD 2 t_swaps ds h Q E := by
  obtain ⟨posts, may, f, rfl, hr, hz, q⟩ := w
  unfold t_swaps bodyD
  refine sSeq_i fun N hN => ?_
  simp only [dEq_int, dNe_int, dEq_bl, dNe_bl, bodyD, startD, sNext, sBreak, sCont, sDrop, sRet, sRetN, sSet, sPar, sAsg, sSub, sFldD, iSeq, iCall, wEnum, wRange1, wRange2, wz_tup, eComp, eCompR, eComp2, eComp2R, gN, gT, gTcons, gTnil, tTst, tNotD, tAndD, tOrD, eNotV, eAndV, eOrV, eIf, eNil, eCons, eTup, eLst, eRef, eFrz, eCall, eFn, eMkV_eq, eMk, eFld, eSl, oNone, oSome, eOp2, eOp1, eChain, dAdd, dInt, dIntC, dIntB, dSub, dFdiv, dMod, dPow, dLt, dLe, dGt, dGe, dMul, dMulR, dMulT, dIs, dIx, isNon_oI, isNon_non, isNon_int, isNon_bl, isNon_str, isNon_ty, isNon_tup, isNon_lst, isNon_scr, isNon_dic, isNon_obj, isNon_ref, isNon_glb, isNon_exc, isNon_book, eVar, eC, fLen, fAbs, fInt, fMax2, fMin2, fIntsI, fSorted, fTuple, fList, fListR, eLenSet, eSortedSet, eTupRg, eLstRg, eRefRg, rg1, rg2, tYesD, sRaise, sRaiseF, eM, KD.E, wipeD, ins_book, fget_posts, fget_may, mem_Book, it_tup, it_lst, it_scr, it_ref, it_may, it_fil, it_int, it_str, lo_lst, lo_tup, lo_int, lo_ref, li_lst, li_scr, li_tup, li_ref, true_and, List.set_cons_zero, List.set_cons_succ, List.getElem?_cons_zero, List.getElem?_cons_succ, List.map_cons, List.map_nil, List.length_cons, List.length_nil, List.replicate_succ, List.replicate_zero, List.cons_append, List.nil_append, List.zip_cons_cons, List.zip_nil_left, List.foldl_cons, List.foldl_nil, Nat.reduceSub, Nat.reduceAdd, Nat.zero_add, brB_t, brB_f, Bool.not_true, Bool.not_false, if_true, if_false, Bool.false_eq_true, ↓reduceIte]
  refine ⟨posts, may, _, rfl, kn_fil, fun xs e => kn_fils e, hz, ?_⟩
  rw [if_pos hr]
  refine hN _ _ ?_
  simp only [dEq_int, dNe_int, dEq_bl, dNe_bl, bodyD, startD, sNext, sBreak, sCont, sDrop, sRet, sRetN, sSet, sPar, sAsg, sSub, sFldD, iSeq, iCall, wEnum, wRange1, wRange2, wz_tup, eComp, eCompR, eComp2, eComp2R, gN, gT, gTcons, gTnil, tTst, tNotD, tAndD, tOrD, eNotV, eAndV, eOrV, eIf, eNil, eCons, eTup, eLst, eRef, eFrz, eCall, eFn, eMkV_eq, eMk, eFld, eSl, oNone, oSome, eOp2, eOp1, eChain, dAdd, dInt, dIntC, dIntB, dSub, dFdiv, dMod, dPow, dLt, dLe, dGt, dGe, dMul, dMulR, dMulT, dIs, dIx, isNon_oI, isNon_non, isNon_int, isNon_bl, isNon_str, isNon_ty, isNon_tup, isNon_lst, isNon_scr, isNon_dic, isNon_obj, isNon_ref, isNon_glb, isNon_exc, isNon_book, eVar, eC, fLen, fAbs, fInt, fMax2, fMin2, fIntsI, fSorted, fTuple, fList, fListR, eLenSet, eSortedSet, eTupRg, eLstRg, eRefRg, rg1, rg2, tYesD, sRaise, sRaiseF, eM, KD.E, wipeD, ins_book, fget_posts, fget_may, mem_Book, it_tup, it_lst, it_scr, it_ref, it_may, it_fil, it_int, it_str, lo_lst, lo_tup, lo_int, lo_ref, li_lst, li_scr, li_tup, li_ref, true_and, List.set_cons_zero, List.set_cons_succ, List.getElem?_cons_zero, List.getElem?_cons_succ, List.map_cons, List.map_nil, List.length_cons, List.length_nil, List.replicate_succ, List.replicate_zero, List.cons_append, List.nil_append, List.zip_cons_cons, List.zip_nil_left, List.foldl_cons, List.foldl_nil, Nat.reduceSub, Nat.reduceAdd, Nat.zero_add, brB_t, brB_f, Bool.not_true, Bool.not_false, if_true, if_false, Bool.false_eq_true, ↓reduceIte]
  exact ⟨posts, may, f, rfl, right_len hr, hz, q⟩
/-! is_exchange -/
def t_is_exchange : TSD :=
    (sSeq (sDrop (eFn sp_check_filling (eCons (eVar 0) (eCons (eVar 1) eNil))))
    (sRet (eFn sp_goes (eCons (eVar 0) (eCons (eVar 1) (eCons (eVar 2) eNil))))))
def sp_is_exchange : SpD := fun ds h Q E => ∃ posts may f thing, ds = [bookD posts may, filD f, thing] ∧ Kn thing h ∧ (∀ xs, thing = .tup xs → ∀ y ∈ xs, Kn y h) ∧ rightD may (filD f) = true ∧ may.length ≤ 1000 ∧ Q (.bl (goesD may f thing)) h
theorem pl_is_exchange (ds : List D) (h : DH) (Q : VD) (E : ED) (w : sp_is_exchange ds h Q E) : bodyD 3 t_is_exchange ds h Q E := by
  obtain ⟨posts, may, f, thing, rfl, hk, hks, hr, hz, q⟩ := w
  unfold t_is_exchange bodyD
  refine sSeq_i fun N hN => ?_
  simp only [dEq_int, dNe_int, dEq_bl, dNe_bl, bodyD, startD, sNext, sBreak, sCont, sDrop, sRet, sRetN, sSet, sPar, sAsg, sSub, sFldD, iSeq, iCall, wEnum, wRange1, wRange2, wz_tup, eComp, eCompR, eComp2, eComp2R, gN, gT, gTcons, gTnil, tTst, tNotD, tAndD, tOrD, eNotV, eAndV, eOrV, eIf, eNil, eCons, eTup, eLst, eRef, eFrz, eCall, eFn, eMkV_eq, eMk, eFld, eSl, oNone, oSome, eOp2, eOp1, eChain, dAdd, dInt, dIntC, dIntB, dSub, dFdiv, dMod, dPow, dLt, dLe, dGt, dGe, dMul, dMulR, dMulT, dIs, dIx, isNon_oI, isNon_non, isNon_int, isNon_bl, isNon_str, isNon_ty, isNon_tup, isNon_lst, isNon_scr, isNon_dic, isNon_obj, isNon_ref, isNon_glb, isNon_exc, isNon_book, eVar, eC, fLen, fAbs, fInt, fMax2, fMin2, fIntsI, fSorted, fTuple, fList, fListR, eLenSet, eSortedSet, eTupRg, eLstRg, eRefRg, rg1, rg2, tYesD, sRaise, sRaiseF, eM, KD.E, wipeD, ins_book, fget_posts, fget_may, mem_Book, it_tup, it_lst, it_scr, it_ref, it_may, it_fil, it_int, it_str, lo_lst, lo_tup, lo_int, lo_ref, li_lst, li_scr, li_tup, li_ref, true_and, List.set_cons_zero, List.set_cons_succ, List.getElem?_cons_zero, List.getElem?_cons_succ, List.map_cons, List.map_nil, List.length_cons, List.length_nil, List.replicate_succ, List.replicate_zero, List.cons_append, List.nil_append, List.zip_cons_cons, List.zip_nil_left, List.foldl_cons, List.foldl_nil, Nat.reduceSub, Nat.reduceAdd, Nat.zero_add, brB_t, brB_f, Bool.not_true, Bool.not_false, if_true, if_false, Bool.false_eq_true, ↓reduceIte]
  refine ⟨posts, may, _, rfl, kn_fil, fun xs e => kn_fils e, hz, ?_⟩
  rw [if_pos hr]
  refine hN _ _ ?_
  simp only [dEq_int, dNe_int, dEq_bl, dNe_bl, bodyD, startD, sNext, sBreak, sCont, sDrop, sRet, sRetN, sSet, sPar, sAsg, sSub, sFldD, iSeq, iCall, wEnum, wRange1, wRange2, wz_tup, eComp, eCompR, eComp2, eComp2R, gN, gT, gTcons, gTnil, tTst, tNotD, tAndD, tOrD, eNotV, eAndV, eOrV, eIf, eNil, eCons, eTup, eLst, eRef, eFrz, eCall, eFn, eMkV_eq, eMk, eFld, eSl, oNone, oSome, eOp2, eOp1, eChain, dAdd, dInt, dIntC, dIntB, dSub, dFdiv, dMod, dPow, dLt, dLe, dGt, dGe, dMul, dMulR, dMulT, dIs, dIx, isNon_oI, isNon_non, isNon_int, isNon_bl, isNon_str, isNon_ty, isNon_tup, isNon_lst, isNon_scr, isNon_dic, isNon_obj, isNon_ref, isNon_glb, isNon_exc, isNon_book, eVar, eC, fLen, fAbs, fInt, fMax2, fMin2, fIntsI, fSorted, fTuple, fList, fListR, eLenSet, eSortedSet, eTupRg, eLstRg, eRefRg, rg1, rg2, tYesD, sRaise, sRaiseF, eM, KD.E, wipeD, ins_book, fget_posts, fget_may, mem_Book, it_tup, it_lst, it_scr, it_ref, it_may, it_fil, it_int, it_str, lo_lst, lo_tup, lo_int, lo_ref, li_lst, li_scr, li_tup, li_ref, true_and, List.set_cons_zero, List.set_cons_succ, List.getElem?_cons_zero, List.getElem?_cons_succ, List.map_cons, List.map_nil, List.length_cons, List.length_nil, List.replicate_succ, List.replicate_zero, List.cons_append, List.nil_append, List.zip_cons_cons, List.zip_nil_left, List.foldl_cons, List.foldl_nil, Nat.reduceSub, Nat.reduceAdd, Nat.zero_add, brB_t, brB_f, Bool.not_true, Bool.not_false, if_true, if_false, Bool.false_eq_true, ↓reduceIte]
  exact ⟨posts, may, f, thing, rfl, hk, hks, right_len hr, q⟩
/-! behind -/
def t_behind : TSD :=
    (sSeq (sSet 2 (eCall fListR (eCons (eVar 0) eNil)))
    (sSeq (sFor (iCall wZip (eCons (eVar 1) (eCons (eOp2 dAdd (eSl (eVar 1) (oSome (eC (.int 1))) oNone) (eSl (eVar 1) oNone (oSome (eC (.int 1))))) eNil))) (gT 2 (gTcons (gN 3) (gTcons (gN 4) gTnil))) (sSub (eVar 2) (eVar 3) (eOp2 dIx (eVar 0) (eVar 4))))
    (sRet (eCall fTuple (eCons (eVar 2) eNil)))))
-- use: pop
def behindI (f : List (Option Int)) (ns : List Int) : List (Option Int) := (pairs ns).foldl (fun g p => g.set p.1.toNat (at_ f p.2)) f
theorem behindI_len (f : List (Option Int)) (ns : List Int) : (behindI f ns).length = f.length := by
  unfold behindI
  have : ∀ (l : List (Int × Int)) (g : List (Option Int)), (l.foldl (fun g p => g.set p.1.toNat (at_ f p.2)) g).length = g.length := by
    intro l
    induction l with
    | nil => intro g; rfl
    | cons p r ih => intro g; rw [List.foldl_cons, ih, List.length_set]
  exact this _ _
def sp_behind : SpD := fun ds h Q _ => ∃ f ns, ds = [filD f, .tup (ns.map .int)] ∧ (∀ i ∈ ns, 0 ≤ i ∧ i.toNat < f.length) ∧ ns.length ≤ 1000 ∧ Q (filD (behindI f ns)) h
theorem pl_behind (ds : List D) (h : DH) (Q : VD) (E : ED) (w : sp_behind ds h Q E) : popW (bodyD 5 t_behind) ds h Q E := by
  obtain ⟨f, ns, rfl, hin, hlen, q⟩ := w
  intro _ wf
  unfold popF t_behind bodyD
  refine sSeq_i fun N hN => ?_
  simp only [dEq_int, dNe_int, dEq_bl, dNe_bl, bodyD, startD, sNext, sBreak, sCont, sDrop, sRet, sRetN, sSet, sPar, sAsg, sSub, sFldD, iSeq, iCall, wEnum, wRange1, wRange2, wz_tup, eComp, eCompR, eComp2, eComp2R, gN, gT, gTcons, gTnil, tTst, tNotD, tAndD, tOrD, eNotV, eAndV, eOrV, eIf, eNil, eCons, eTup, eLst, eRef, eFrz, eCall, eFn, eMkV_eq, eMk, eFld, eSl, oNone, oSome, eOp2, eOp1, eChain, dAdd, dInt, dIntC, dIntB, dSub, dFdiv, dMod, dPow, dLt, dLe, dGt, dGe, dMul, dMulR, dMulT, dIs, dIx, isNon_oI, isNon_non, isNon_int, isNon_bl, isNon_str, isNon_ty, isNon_tup, isNon_lst, isNon_scr, isNon_dic, isNon_obj, isNon_ref, isNon_glb, isNon_exc, isNon_book, eVar, eC, fLen, fAbs, fInt, fMax2, fMin2, fIntsI, fSorted, fTuple, fList, fListR, eLenSet, eSortedSet, eTupRg, eLstRg, eRefRg, rg1, rg2, tYesD, sRaise, sRaiseF, eM, KD.E, wipeD, ins_book, fget_posts, fget_may, mem_Book, it_tup, it_lst, it_scr, it_ref, it_may, it_fil, it_int, it_str, lo_lst, lo_tup, lo_int, lo_ref, li_lst, li_scr, li_tup, li_ref, true_and, List.set_cons_zero, List.set_cons_succ, List.getElem?_cons_zero, List.getElem?_cons_succ, List.map_cons, List.map_nil, List.length_cons, List.length_nil, List.replicate_succ, List.replicate_zero, List.cons_append, List.nil_append, List.zip_cons_cons, List.zip_nil_left, List.foldl_cons, List.foldl_nil, Nat.reduceSub, Nat.reduceAdd, Nat.zero_add, brB_t, brB_f, Bool.not_true, Bool.not_false, if_true, if_false, Bool.false_eq_true, ↓reduceIte]
  refine hN _ _ ?_
  refine sSeq_i fun N2 hN2 => ?_
  refine sFor_i fun L hL => ?_
  have hz : ns.length ≤ sizeLine := size_le (by omega)
  simp only [dEq_int, dNe_int, dEq_bl, dNe_bl, bodyD, startD, sNext, sBreak, sCont, sDrop, sRet, sRetN, sSet, sPar, sAsg, sSub, sFldD, iSeq, iCall, wEnum, wRange1, wRange2, wz_tup, eComp, eCompR, eComp2, eComp2R, gN, gT, gTcons, gTnil, tTst, tNotD, tAndD, tOrD, eNotV, eAndV, eOrV, eIf, eNil, eCons, eTup, eLst, eRef, eFrz, eCall, eFn, eMkV_eq, eMk, eFld, eSl, oNone, oSome, eOp2, eOp1, eChain, dAdd, dInt, dIntC, dIntB, dSub, dFdiv, dMod, dPow, dLt, dLe, dGt, dGe, dMul, dMulR, dMulT, dIs, dIx, isNon_oI, isNon_non, isNon_int, isNon_bl, isNon_str, isNon_ty, isNon_tup, isNon_lst, isNon_scr, isNon_dic, isNon_obj, isNon_ref, isNon_glb, isNon_exc, isNon_book, eVar, eC, fLen, fAbs, fInt, fMax2, fMin2, fIntsI, fSorted, fTuple, fList, fListR, eLenSet, eSortedSet, eTupRg, eLstRg, eRefRg, rg1, rg2, tYesD, sRaise, sRaiseF, eM, KD.E, wipeD, ins_book, fget_posts, fget_may, mem_Book, it_tup, it_lst, it_scr, it_ref, it_may, it_fil, it_int, it_str, lo_lst, lo_tup, lo_int, lo_ref, li_lst, li_scr, li_tup, li_ref, true_and, List.set_cons_zero, List.set_cons_succ, List.getElem?_cons_zero, List.getElem?_cons_succ, List.map_cons, List.map_nil, List.length_cons, List.length_nil, List.replicate_succ, List.replicate_zero, List.cons_append, List.nil_append, List.zip_cons_cons, List.zip_nil_left, List.foldl_cons, List.foldl_nil, Nat.reduceSub, Nat.reduceAdd, Nat.zero_add, brB_t, brB_f, Bool.not_true, Bool.not_false, if_true, if_false, Bool.false_eq_true, ↓reduceIte, rot_cut, cut_len, zipL_map, hz]
  refine hL _ _ _ ?_
  have key : ∀ (l : List (Int × Int)) (g : List (Option Int)) (x y : Option D), (∀ p ∈ l, (0 ≤ p.1 ∧ p.1.toNat < f.length) ∧ 0 ≤ p.2 ∧ p.2.toNat < f.length) → g.length = f.length →
      (∀ x y, N2 [some (filD f), some (.tup (ns.map .int)), some (.ref h.length), x, y] (h ++ [.lst ((l.foldl (fun g p => g.set p.1.toNat (at_ f p.2)) g).map oI)])) →
      forL (fun _ => True) (gT 2 (gTcons (gN 3) (gTcons (gN 4) gTnil))) (sSub (eVar 2) (eVar 3) (eOp2 dIx (eVar 0) (eVar 4)))
        { nx := N2, rt := popQ h.length Q, er := fun nm ns fs x h' => popE h.length E nm ns fs h' } (l.map fun p => .tup [.int p.1, .int p.2]) [some (filD f), some (.tup (ns.map .int)), some (.ref h.length), x, y] (h ++ [.lst (g.map oI)]) := by
    intro l
    induction l with
    | nil => intro g x y _ _ hq; exact ⟨trivial, hq _ _⟩
    | cons p r ih =>
      intro g x y hl hg hq
      refine ⟨trivial, ?_⟩
      obtain ⟨⟨a1, a2⟩, b1, b2⟩ := hl p List.mem_cons_self
      simp only [dEq_int, dNe_int, dEq_bl, dNe_bl, bodyD, startD, sNext, sBreak, sCont, sDrop, sRet, sRetN, sSet, sPar, sAsg, sSub, sFldD, iSeq, iCall, wEnum, wRange1, wRange2, wz_tup, eComp, eCompR, eComp2, eComp2R, gN, gT, gTcons, gTnil, tTst, tNotD, tAndD, tOrD, eNotV, eAndV, eOrV, eIf, eNil, eCons, eTup, eLst, eRef, eFrz, eCall, eFn, eMkV_eq, eMk, eFld, eSl, oNone, oSome, eOp2, eOp1, eChain, dAdd, dInt, dIntC, dIntB, dSub, dFdiv, dMod, dPow, dLt, dLe, dGt, dGe, dMul, dMulR, dMulT, dIs, dIx, isNon_oI, isNon_non, isNon_int, isNon_bl, isNon_str, isNon_ty, isNon_tup, isNon_lst, isNon_scr, isNon_dic, isNon_obj, isNon_ref, isNon_glb, isNon_exc, isNon_book, eVar, eC, fLen, fAbs, fInt, fMax2, fMin2, fIntsI, fSorted, fTuple, fList, fListR, eLenSet, eSortedSet, eTupRg, eLstRg, eRefRg, rg1, rg2, tYesD, sRaise, sRaiseF, eM, KD.E, wipeD, ins_book, fget_posts, fget_may, mem_Book, it_tup, it_lst, it_scr, it_ref, it_may, it_fil, it_int, it_str, lo_lst, lo_tup, lo_int, lo_ref, li_lst, li_scr, li_tup, li_ref, true_and, List.set_cons_zero, List.set_cons_succ, List.getElem?_cons_zero, List.getElem?_cons_succ, List.map_cons, List.map_nil, List.length_cons, List.length_nil, List.replicate_succ, List.replicate_zero, List.cons_append, List.nil_append, List.zip_cons_cons, List.zip_nil_left, List.foldl_cons, List.foldl_nil, Nat.reduceSub, Nat.reduceAdd, Nat.zero_add, brB_t, brB_f, Bool.not_true, Bool.not_false, if_true, if_false, Bool.false_eq_true, ↓reduceIte]
      rw [fil_at b1 b2]
      simp only [dEq_int, dNe_int, dEq_bl, dNe_bl, bodyD, startD, sNext, sBreak, sCont, sDrop, sRet, sRetN, sSet, sPar, sAsg, sSub, sFldD, iSeq, iCall, wEnum, wRange1, wRange2, wz_tup, eComp, eCompR, eComp2, eComp2R, gN, gT, gTcons, gTnil, tTst, tNotD, tAndD, tOrD, eNotV, eAndV, eOrV, eIf, eNil, eCons, eTup, eLst, eRef, eFrz, eCall, eFn, eMkV_eq, eMk, eFld, eSl, oNone, oSome, eOp2, eOp1, eChain, dAdd, dInt, dIntC, dIntB, dSub, dFdiv, dMod, dPow, dLt, dLe, dGt, dGe, dMul, dMulR, dMulT, dIs, dIx, isNon_oI, isNon_non, isNon_int, isNon_bl, isNon_str, isNon_ty, isNon_tup, isNon_lst, isNon_scr, isNon_dic, isNon_obj, isNon_ref, isNon_glb, isNon_exc, isNon_book, eVar, eC, fLen, fAbs, fInt, fMax2, fMin2, fIntsI, fSorted, fTuple, fList, fListR, eLenSet, eSortedSet, eTupRg, eLstRg, eRefRg, rg1, rg2, tYesD, sRaise, sRaiseF, eM, KD.E, wipeD, ins_book, fget_posts, fget_may, mem_Book, it_tup, it_lst, it_scr, it_ref, it_may, it_fil, it_int, it_str, lo_lst, lo_tup, lo_int, lo_ref, li_lst, li_scr, li_tup, li_ref, true_and, List.set_cons_zero, List.set_cons_succ, List.getElem?_cons_zero, List.getElem?_cons_succ, List.map_cons, List.map_nil, List.length_cons, List.length_nil, List.replicate_succ, List.replicate_zero, List.cons_append, List.nil_append, List.zip_cons_cons, List.zip_nil_left, List.foldl_cons, List.foldl_nil, Nat.reduceSub, Nat.reduceAdd, Nat.zero_add, brB_t, brB_f, Bool.not_true, Bool.not_false, if_true, if_false, Bool.false_eq_true, ↓reduceIte, get_last]
      rw [put_nat a1 (by rw [List.length_map, hg]; exact a2), set_last, ← List.map_set]
      refine ih (g.set p.1.toNat (at_ f p.2)) _ _ (fun z hz => hl z (List.mem_cons_of_mem _ hz)) (by rw [List.length_set, hg]) fun x y => ?_
      exact hq x y
  refine key (pairs ns) f _ _ (fun p hp => ⟨hin _ (pairs_mem hp).1, hin _ (pairs_mem hp).2⟩) rfl fun x y => hN2 _ _ ?_
  simp only [dEq_int, dNe_int, dEq_bl, dNe_bl, bodyD, startD, sNext, sBreak, sCont, sDrop, sRet, sRetN, sSet, sPar, sAsg, sSub, sFldD, iSeq, iCall, wEnum, wRange1, wRange2, wz_tup, eComp, eCompR, eComp2, eComp2R, gN, gT, gTcons, gTnil, tTst, tNotD, tAndD, tOrD, eNotV, eAndV, eOrV, eIf, eNil, eCons, eTup, eLst, eRef, eFrz, eCall, eFn, eMkV_eq, eMk, eFld, eSl, oNone, oSome, eOp2, eOp1, eChain, dAdd, dInt, dIntC, dIntB, dSub, dFdiv, dMod, dPow, dLt, dLe, dGt, dGe, dMul, dMulR, dMulT, dIs, dIx, isNon_oI, isNon_non, isNon_int, isNon_bl, isNon_str, isNon_ty, isNon_tup, isNon_lst, isNon_scr, isNon_dic, isNon_obj, isNon_ref, isNon_glb, isNon_exc, isNon_book, eVar, eC, fLen, fAbs, fInt, fMax2, fMin2, fIntsI, fSorted, fTuple, fList, fListR, eLenSet, eSortedSet, eTupRg, eLstRg, eRefRg, rg1, rg2, tYesD, sRaise, sRaiseF, eM, KD.E, wipeD, ins_book, fget_posts, fget_may, mem_Book, it_tup, it_lst, it_scr, it_ref, it_may, it_fil, it_int, it_str, lo_lst, lo_tup, lo_int, lo_ref, li_lst, li_scr, li_tup, li_ref, true_and, List.set_cons_zero, List.set_cons_succ, List.getElem?_cons_zero, List.getElem?_cons_succ, List.map_cons, List.map_nil, List.length_cons, List.length_nil, List.replicate_succ, List.replicate_zero, List.cons_append, List.nil_append, List.zip_cons_cons, List.zip_nil_left, List.foldl_cons, List.foldl_nil, Nat.reduceSub, Nat.reduceAdd, Nat.zero_add, brB_t, brB_f, Bool.not_true, Bool.not_false, if_true, if_false, Bool.false_eq_true, ↓reduceIte, get_last]
  refine ⟨nrD_fil (behindI f ns), wf_take wf, by simp, ?_⟩
  rw [List.take_left]
  exact q
/-! exchanged -/
def t_exchanged : TSD :=
    (sSeq (sDrop (eFn sp_check_filling (eCons (eVar 0) (eCons (eVar 1) eNil))))
    (sSeq (sIf (tNotD (tTst (eFn sp_goes (eCons (eVar 0) (eCons (eVar 1) (eCons (eVar 2) eNil)))))) (sRaise "BadExchange") sNext)
    (sRet (eFn sp_behind (eCons (eVar 1) (eCons (eVar 2) eNil))))))
def sp_exchanged : SpD := fun ds h Q E => ∃ posts may f thing, ds = [bookD posts may, filD f, thing] ∧ Kn thing h ∧ (∀ xs, thing = .tup xs → ∀ y ∈ xs, Kn y h) ∧ rightD may (filD f) = true ∧ may.length ≤ 1000 ∧
  (goesD may f thing = true → ∀ ns, thing = .tup (ns.map .int) → goesI may f ns = true → Q (filD (behindI f ns)) h) ∧ (goesD may f thing = false → E "BadExchange" [] [] h)
theorem goesD_ints {may : List (List Int)} {f : List (Option Int)} {thing : D} (h : goesD may f thing = true) : ∃ ns : List Int, thing = .tup (ns.map .int) ∧ goesI may f ns = true := by
  unfold goesD at h
  cases thing with
  | tup xs =>
    cases hi : intsOf xs with
    | none => simp only [hi] at h; cases h
    | some ns => simp only [hi] at h; exact ⟨ns, by rw [intsOf_some hi], h⟩
  | _ => cases h
theorem goesI_form {may : List (List Int)} {f : List (Option Int)} {ns : List Int} (h : goesI may f ns = true) : formI may.length ns = true := by
  unfold goesI at h
  simp only [Bool.and_eq_true] at h
  exact h.1.1
theorem form_len {n : Nat} {ns : List Int} (h : formI n ns = true) : 2 ≤ ns.length ∧ ns.length ≤ 12 := by
  unfold formI at h
  simp only [Bool.and_eq_true, decide_eq_true_eq] at h
  exact h.1.1.1
theorem pl_exchanged (ds : List D) (h : DH) (Q : VD) (E : ED) (w : sp_exchanged ds h Q E) : bodyD 3 t_exchanged ds h Q E := by
  obtain ⟨posts, may, f, thing, rfl, hk, hks, hr, hz, q1, q2⟩ := w
  unfold t_exchanged bodyD
  refine sSeq_i fun N hN => ?_
  simp only [dEq_int, dNe_int, dEq_bl, dNe_bl, bodyD, startD, sNext, sBreak, sCont, sDrop, sRet, sRetN, sSet, sPar, sAsg, sSub, sFldD, iSeq, iCall, wEnum, wRange1, wRange2, wz_tup, eComp, eCompR, eComp2, eComp2R, gN, gT, gTcons, gTnil, tTst, tNotD, tAndD, tOrD, eNotV, eAndV, eOrV, eIf, eNil, eCons, eTup, eLst, eRef, eFrz, eCall, eFn, eMkV_eq, eMk, eFld, eSl, oNone, oSome, eOp2, eOp1, eChain, dAdd, dInt, dIntC, dIntB, dSub, dFdiv, dMod, dPow, dLt, dLe, dGt, dGe, dMul, dMulR, dMulT, dIs, dIx, isNon_oI, isNon_non, isNon_int, isNon_bl, isNon_str, isNon_ty, isNon_tup, isNon_lst, isNon_scr, isNon_dic, isNon_obj, isNon_ref, isNon_glb, isNon_exc, isNon_book, eVar, eC, fLen, fAbs, fInt, fMax2, fMin2, fIntsI, fSorted, fTuple, fList, fListR, eLenSet, eSortedSet, eTupRg, eLstRg, eRefRg, rg1, rg2, tYesD, sRaise, sRaiseF, eM, KD.E, wipeD, ins_book, fget_posts, fget_may, mem_Book, it_tup, it_lst, it_scr, it_ref, it_may, it_fil, it_int, it_str, lo_lst, lo_tup, lo_int, lo_ref, li_lst, li_scr, li_tup, li_ref, true_and, List.set_cons_zero, List.set_cons_succ, List.getElem?_cons_zero, List.getElem?_cons_succ, List.map_cons, List.map_nil, List.length_cons, List.length_nil, List.replicate_succ, List.replicate_zero, List.cons_append, List.nil_append, List.zip_cons_cons, List.zip_nil_left, List.foldl_cons, List.foldl_nil, Nat.reduceSub, Nat.reduceAdd, Nat.zero_add, brB_t, brB_f, Bool.not_true, Bool.not_false, if_true, if_false, Bool.false_eq_true, ↓reduceIte]
  refine ⟨posts, may, _, rfl, kn_fil, fun xs e => kn_fils e, hz, ?_⟩
  rw [if_pos hr]
  refine hN _ _ ?_
  refine sSeq_i fun N2 hN2 => ?_
  refine sIf_i fun A B hA hB => ?_
  simp only [dEq_int, dNe_int, dEq_bl, dNe_bl, bodyD, startD, sNext, sBreak, sCont, sDrop, sRet, sRetN, sSet, sPar, sAsg, sSub, sFldD, iSeq, iCall, wEnum, wRange1, wRange2, wz_tup, eComp, eCompR, eComp2, eComp2R, gN, gT, gTcons, gTnil, tTst, tNotD, tAndD, tOrD, eNotV, eAndV, eOrV, eIf, eNil, eCons, eTup, eLst, eRef, eFrz, eCall, eFn, eMkV_eq, eMk, eFld, eSl, oNone, oSome, eOp2, eOp1, eChain, dAdd, dInt, dIntC, dIntB, dSub, dFdiv, dMod, dPow, dLt, dLe, dGt, dGe, dMul, dMulR, dMulT, dIs, dIx, isNon_oI, isNon_non, isNon_int, isNon_bl, isNon_str, isNon_ty, isNon_tup, isNon_lst, isNon_scr, isNon_dic, isNon_obj, isNon_ref, isNon_glb, isNon_exc, isNon_book, eVar, eC, fLen, fAbs, fInt, fMax2, fMin2, fIntsI, fSorted, fTuple, fList, fListR, eLenSet, eSortedSet, eTupRg, eLstRg, eRefRg, rg1, rg2, tYesD, sRaise, sRaiseF, eM, KD.E, wipeD, ins_book, fget_posts, fget_may, mem_Book, it_tup, it_lst, it_scr, it_ref, it_may, it_fil, it_int, it_str, lo_lst, lo_tup, lo_int, lo_ref, li_lst, li_scr, li_tup, li_ref, true_and, List.set_cons_zero, List.set_cons_succ, List.getElem?_cons_zero, List.getElem?_cons_succ, List.map_cons, List.map_nil, List.length_cons, List.length_nil, List.replicate_succ, List.replicate_zero, List.cons_append, List.nil_append, List.zip_cons_cons, List.zip_nil_left, List.foldl_cons, List.foldl_nil, Nat.reduceSub, Nat.reduceAdd, Nat.zero_add, brB_t, brB_f, Bool.not_true, Bool.not_false, if_true, if_false, Bool.false_eq_true, ↓reduceIte]
  refine ⟨posts, may, f, thing, rfl, hk, hks, right_len hr, ?_⟩
  rcases Bool.eq_false_or_eq_true (goesD may f thing) with e | e
  · simp only [e, dEq_int, dNe_int, dEq_bl, dNe_bl, bodyD, startD, sNext, sBreak, sCont, sDrop, sRet, sRetN, sSet, sPar, sAsg, sSub, sFldD, iSeq, iCall, wEnum, wRange1, wRange2, wz_tup, eComp, eCompR, eComp2, eComp2R, gN, gT, gTcons, gTnil, tTst, tNotD, tAndD, tOrD, eNotV, eAndV, eOrV, eIf, eNil, eCons, eTup, eLst, eRef, eFrz, eCall, eFn, eMkV_eq, eMk, eFld, eSl, oNone, oSome, eOp2, eOp1, eChain, dAdd, dInt, dIntC, dIntB, dSub, dFdiv, dMod, dPow, dLt, dLe, dGt, dGe, dMul, dMulR, dMulT, dIs, dIx, isNon_oI, isNon_non, isNon_int, isNon_bl, isNon_str, isNon_ty, isNon_tup, isNon_lst, isNon_scr, isNon_dic, isNon_obj, isNon_ref, isNon_glb, isNon_exc, isNon_book, eVar, eC, fLen, fAbs, fInt, fMax2, fMin2, fIntsI, fSorted, fTuple, fList, fListR, eLenSet, eSortedSet, eTupRg, eLstRg, eRefRg, rg1, rg2, tYesD, sRaise, sRaiseF, eM, KD.E, wipeD, ins_book, fget_posts, fget_may, mem_Book, it_tup, it_lst, it_scr, it_ref, it_may, it_fil, it_int, it_str, lo_lst, lo_tup, lo_int, lo_ref, li_lst, li_scr, li_tup, li_ref, true_and, List.set_cons_zero, List.set_cons_succ, List.getElem?_cons_zero, List.getElem?_cons_succ, List.map_cons, List.map_nil, List.length_cons, List.length_nil, List.replicate_succ, List.replicate_zero, List.cons_append, List.nil_append, List.zip_cons_cons, List.zip_nil_left, List.foldl_cons, List.foldl_nil, Nat.reduceSub, Nat.reduceAdd, Nat.zero_add, brB_t, brB_f, Bool.not_true, Bool.not_false, if_true, if_false, Bool.false_eq_true, ↓reduceIte]
    refine hB h (hN2 _ _ ?_)
    obtain ⟨ns, rfl, hg⟩ := goesD_ints e
    simp only [dEq_int, dNe_int, dEq_bl, dNe_bl, bodyD, startD, sNext, sBreak, sCont, sDrop, sRet, sRetN, sSet, sPar, sAsg, sSub, sFldD, iSeq, iCall, wEnum, wRange1, wRange2, wz_tup, eComp, eCompR, eComp2, eComp2R, gN, gT, gTcons, gTnil, tTst, tNotD, tAndD, tOrD, eNotV, eAndV, eOrV, eIf, eNil, eCons, eTup, eLst, eRef, eFrz, eCall, eFn, eMkV_eq, eMk, eFld, eSl, oNone, oSome, eOp2, eOp1, eChain, dAdd, dInt, dIntC, dIntB, dSub, dFdiv, dMod, dPow, dLt, dLe, dGt, dGe, dMul, dMulR, dMulT, dIs, dIx, isNon_oI, isNon_non, isNon_int, isNon_bl, isNon_str, isNon_ty, isNon_tup, isNon_lst, isNon_scr, isNon_dic, isNon_obj, isNon_ref, isNon_glb, isNon_exc, isNon_book, eVar, eC, fLen, fAbs, fInt, fMax2, fMin2, fIntsI, fSorted, fTuple, fList, fListR, eLenSet, eSortedSet, eTupRg, eLstRg, eRefRg, rg1, rg2, tYesD, sRaise, sRaiseF, eM, KD.E, wipeD, ins_book, fget_posts, fget_may, mem_Book, it_tup, it_lst, it_scr, it_ref, it_may, it_fil, it_int, it_str, lo_lst, lo_tup, lo_int, lo_ref, li_lst, li_scr, li_tup, li_ref, true_and, List.set_cons_zero, List.set_cons_succ, List.getElem?_cons_zero, List.getElem?_cons_succ, List.map_cons, List.map_nil, List.length_cons, List.length_nil, List.replicate_succ, List.replicate_zero, List.cons_append, List.nil_append, List.zip_cons_cons, List.zip_nil_left, List.foldl_cons, List.foldl_nil, Nat.reduceSub, Nat.reduceAdd, Nat.zero_add, brB_t, brB_f, Bool.not_true, Bool.not_false, if_true, if_false, Bool.false_eq_true, ↓reduceIte]
    have hf := goesI_form hg
    refine ⟨f, ns, rfl, fun i hi => ?_, by have := form_len hf; omega, q1 e ns rfl hg⟩
    rw [right_len hr]
    exact formI_in hf i hi
  · simp only [e, dEq_int, dNe_int, dEq_bl, dNe_bl, bodyD, startD, sNext, sBreak, sCont, sDrop, sRet, sRetN, sSet, sPar, sAsg, sSub, sFldD, iSeq, iCall, wEnum, wRange1, wRange2, wz_tup, eComp, eCompR, eComp2, eComp2R, gN, gT, gTcons, gTnil, tTst, tNotD, tAndD, tOrD, eNotV, eAndV, eOrV, eIf, eNil, eCons, eTup, eLst, eRef, eFrz, eCall, eFn, eMkV_eq, eMk, eFld, eSl, oNone, oSome, eOp2, eOp1, eChain, dAdd, dInt, dIntC, dIntB, dSub, dFdiv, dMod, dPow, dLt, dLe, dGt, dGe, dMul, dMulR, dMulT, dIs, dIx, isNon_oI, isNon_non, isNon_int, isNon_bl, isNon_str, isNon_ty, isNon_tup, isNon_lst, isNon_scr, isNon_dic, isNon_obj, isNon_ref, isNon_glb, isNon_exc, isNon_book, eVar, eC, fLen, fAbs, fInt, fMax2, fMin2, fIntsI, fSorted, fTuple, fList, fListR, eLenSet, eSortedSet, eTupRg, eLstRg, eRefRg, rg1, rg2, tYesD, sRaise, sRaiseF, eM, KD.E, wipeD, ins_book, fget_posts, fget_may, mem_Book, it_tup, it_lst, it_scr, it_ref, it_may, it_fil, it_int, it_str, lo_lst, lo_tup, lo_int, lo_ref, li_lst, li_scr, li_tup, li_ref, true_and, List.set_cons_zero, List.set_cons_succ, List.getElem?_cons_zero, List.getElem?_cons_succ, List.map_cons, List.map_nil, List.length_cons, List.length_nil, List.replicate_succ, List.replicate_zero, List.cons_append, List.nil_append, List.zip_cons_cons, List.zip_nil_left, List.foldl_cons, List.foldl_nil, Nat.reduceSub, Nat.reduceAdd, Nat.zero_add, brB_t, brB_f, Bool.not_true, Bool.not_false, if_true, if_false, Bool.false_eq_true, ↓reduceIte]
    exact hA h (q2 e)
/-! _law_hand -/
def t__law_hand : TSD :=
    (sSeq (sSet 1 (eComp (iSeq (eSl (eVar 0) oNone (oSome (eC (.int 63))))) (gN 2) tYesD (eCall fAbs (eCons (eCall fInt (eCons (eVar 2) eNil)) eNil)) [2]))
    (sRet (eRef (eCons (eVar 1) (eCons (eC (.int 0)) (eCons (eC (.int 0)) (eCons (eOp2 dAdd (eC (.int 67)) (eOp2 dMul (eC (.int 5)) (eCall fLen (eCons (eVar 1) eNil)))) (eCons (eC (.int 0)) eNil))))))))
/-- a hand of numbers stands at n -/
def IsHand (h : DH) (n : Nat) : Prop := ∃ (cells : List Int) (a b c d : Int), h[n]? = some (.lst [.lst (cells.map .int), .int a, .int b, .int c, .int d]) ∧ 0 ≤ a
def sp__law_hand : SpD := fun ds h Q _ => ∃ ns : List Int, ds = [.scr (ns.map .int)] ∧ ns.length ≤ 63 ∧ ∀ h', (∃ o, h' = h ++ [o]) → IsHand h' h.length → Q (.ref h.length) h'
theorem pl__law_hand (ds : List D) (h : DH) (Q : VD) (E : ED) (w : sp__law_hand ds h Q E) : bodyD 3 t__law_hand ds h Q E := by
  obtain ⟨ns, rfl, hl, q⟩ := w
  unfold t__law_hand bodyD
  refine sSeq_i fun N hN => ?_
  simp only [dEq_int, dNe_int, dEq_bl, dNe_bl, bodyD, startD, sNext, sBreak, sCont, sDrop, sRet, sRetN, sSet, sPar, sAsg, sSub, sFldD, iSeq, iCall, wEnum, wRange1, wRange2, wz_tup, eComp, eCompR, eComp2, eComp2R, gN, gT, gTcons, gTnil, tTst, tNotD, tAndD, tOrD, eNotV, eAndV, eOrV, eIf, eNil, eCons, eTup, eLst, eRef, eFrz, eCall, eFn, eMkV_eq, eMk, eFld, eSl, oNone, oSome, eOp2, eOp1, eChain, dAdd, dInt, dIntC, dIntB, dSub, dFdiv, dMod, dPow, dLt, dLe, dGt, dGe, dMul, dMulR, dMulT, dIs, dIx, isNon_oI, isNon_non, isNon_int, isNon_bl, isNon_str, isNon_ty, isNon_tup, isNon_lst, isNon_scr, isNon_dic, isNon_obj, isNon_ref, isNon_glb, isNon_exc, isNon_book, eVar, eC, fLen, fAbs, fInt, fMax2, fMin2, fIntsI, fSorted, fTuple, fList, fListR, eLenSet, eSortedSet, eTupRg, eLstRg, eRefRg, rg1, rg2, tYesD, sRaise, sRaiseF, eM, KD.E, wipeD, ins_book, fget_posts, fget_may, mem_Book, it_tup, it_lst, it_scr, it_ref, it_may, it_fil, it_int, it_str, lo_lst, lo_tup, lo_int, lo_ref, li_lst, li_scr, li_tup, li_ref, true_and, List.set_cons_zero, List.set_cons_succ, List.getElem?_cons_zero, List.getElem?_cons_succ, List.map_cons, List.map_nil, List.length_cons, List.length_nil, List.replicate_succ, List.replicate_zero, List.cons_append, List.nil_append, List.zip_cons_cons, List.zip_nil_left, List.foldl_cons, List.foldl_nil, Nat.reduceSub, Nat.reduceAdd, Nat.zero_add, brB_t, brB_f, Bool.not_true, Bool.not_false, if_true, if_false, Bool.false_eq_true, ↓reduceIte]
  obtain ⟨a, b, e⟩ := cutD_map D.int ns none (some 63)
  rw [e]
  refine compL_map (α := Int) D.int (fun i => some (.int (if i < 0 then -i else i))) trivial ?_ ?_
  · have hm : (((ns.drop a).take b).filterMap fun i => some (D.int (if i < 0 then -i else i))) = (((ns.drop a).take b).map fun i => if i < 0 then -i else i).map D.int := by
      rw [List.filterMap_eq_map', List.map_map]; rfl
    rw [hm]
    refine hN _ _ ?_
    simp only [dEq_int, dNe_int, dEq_bl, dNe_bl, bodyD, startD, sNext, sBreak, sCont, sDrop, sRet, sRetN, sSet, sPar, sAsg, sSub, sFldD, iSeq, iCall, wEnum, wRange1, wRange2, wz_tup, eComp, eCompR, eComp2, eComp2R, gN, gT, gTcons, gTnil, tTst, tNotD, tAndD, tOrD, eNotV, eAndV, eOrV, eIf, eNil, eCons, eTup, eLst, eRef, eFrz, eCall, eFn, eMkV_eq, eMk, eFld, eSl, oNone, oSome, eOp2, eOp1, eChain, dAdd, dInt, dIntC, dIntB, dSub, dFdiv, dMod, dPow, dLt, dLe, dGt, dGe, dMul, dMulR, dMulT, dIs, dIx, isNon_oI, isNon_non, isNon_int, isNon_bl, isNon_str, isNon_ty, isNon_tup, isNon_lst, isNon_scr, isNon_dic, isNon_obj, isNon_ref, isNon_glb, isNon_exc, isNon_book, eVar, eC, fLen, fAbs, fInt, fMax2, fMin2, fIntsI, fSorted, fTuple, fList, fListR, eLenSet, eSortedSet, eTupRg, eLstRg, eRefRg, rg1, rg2, tYesD, sRaise, sRaiseF, eM, KD.E, wipeD, ins_book, fget_posts, fget_may, mem_Book, it_tup, it_lst, it_scr, it_ref, it_may, it_fil, it_int, it_str, lo_lst, lo_tup, lo_int, lo_ref, li_lst, li_scr, li_tup, li_ref, true_and, List.set_cons_zero, List.set_cons_succ, List.getElem?_cons_zero, List.getElem?_cons_succ, List.map_cons, List.map_nil, List.length_cons, List.length_nil, List.replicate_succ, List.replicate_zero, List.cons_append, List.nil_append, List.zip_cons_cons, List.zip_nil_left, List.foldl_cons, List.foldl_nil, Nat.reduceSub, Nat.reduceAdd, Nat.zero_add, brB_t, brB_f, Bool.not_true, Bool.not_false, if_true, if_false, Bool.false_eq_true, ↓reduceIte]
    exact ⟨.inl ⟨by decide, by decide⟩, q _ ⟨_, rfl⟩ ⟨_, _, _, _, _, get_last _ _, Int.le_refl 0⟩⟩
  · intro x _ N acc hN
    simp only [dEq_int, dNe_int, dEq_bl, dNe_bl, bodyD, startD, sNext, sBreak, sCont, sDrop, sRet, sRetN, sSet, sPar, sAsg, sSub, sFldD, iSeq, iCall, wEnum, wRange1, wRange2, wz_tup, eComp, eCompR, eComp2, eComp2R, gN, gT, gTcons, gTnil, tTst, tNotD, tAndD, tOrD, eNotV, eAndV, eOrV, eIf, eNil, eCons, eTup, eLst, eRef, eFrz, eCall, eFn, eMkV_eq, eMk, eFld, eSl, oNone, oSome, eOp2, eOp1, eChain, dAdd, dInt, dIntC, dIntB, dSub, dFdiv, dMod, dPow, dLt, dLe, dGt, dGe, dMul, dMulR, dMulT, dIs, dIx, isNon_oI, isNon_non, isNon_int, isNon_bl, isNon_str, isNon_ty, isNon_tup, isNon_lst, isNon_scr, isNon_dic, isNon_obj, isNon_ref, isNon_glb, isNon_exc, isNon_book, eVar, eC, fLen, fAbs, fInt, fMax2, fMin2, fIntsI, fSorted, fTuple, fList, fListR, eLenSet, eSortedSet, eTupRg, eLstRg, eRefRg, rg1, rg2, tYesD, sRaise, sRaiseF, eM, KD.E, wipeD, ins_book, fget_posts, fget_may, mem_Book, it_tup, it_lst, it_scr, it_ref, it_may, it_fil, it_int, it_str, lo_lst, lo_tup, lo_int, lo_ref, li_lst, li_scr, li_tup, li_ref, true_and, List.set_cons_zero, List.set_cons_succ, List.getElem?_cons_zero, List.getElem?_cons_succ, List.map_cons, List.map_nil, List.length_cons, List.length_nil, List.replicate_succ, List.replicate_zero, List.cons_append, List.nil_append, List.zip_cons_cons, List.zip_nil_left, List.foldl_cons, List.foldl_nil, Nat.reduceSub, Nat.reduceAdd, Nat.zero_add, brB_t, brB_f, Bool.not_true, Bool.not_false, if_true, if_false, Bool.false_eq_true, ↓reduceIte]
    exact hN
/-! _law_same -/
def t__law_same (self : SpD) : TSD :=
    (sSeq (sIf (tTst (eCall (fIsiT ["Book"]) (eCons (eVar 1) (eCons (eTup (eCons (eC (.ty "tuple")) (eCons (eC (.ty "list")) eNil))) eNil)))) (sSeq (sIf (tOrD (tTst (eOp2 dNe (eCall (fIsi ["Book"]) (eCons (eVar 0) (eCons (eC (.ty "tuple")) eNil))) (eCall (fIsi ["Book"]) (eCons (eVar 1) (eCons (eC (.ty "tuple")) eNil))))) (tNotD (tTst (eCall (fIsiT ["Book"]) (eCons (eVar 0) (eCons (eTup (eCons (eC (.ty "tuple")) (eCons (eC (.ty "list")) eNil))) eNil)))))) (sRet (eC (.bl false))) sNext)
    (sRet (eAndV (eOp2 dEq (eCall fLen (eCons (eVar 0) eNil)) (eCall fLen (eCons (eVar 1) eNil))) (eCall (fAll fun bs => bs.all id) (eCons (eComp (iCall wZip (eCons (eVar 0) (eCons (eVar 1) eNil))) (gT 2 (gTcons (gN 2) (gTcons (gN 3) gTnil))) tYesD (eFn self (eCons (eVar 2) (eCons (eVar 3) eNil))) [2, 3]) eNil))))) sNext)
    (sSeq (sIf (tOrD (tTst (eCall (fIsi ["Book"]) (eCons (eVar 1) (eCons (eC (.ty "bool")) eNil)))) (tOrD (tTst (eCall (fIsi ["Book"]) (eCons (eVar 0) (eCons (eC (.ty "bool")) eNil)))) (tOrD (tTst (eOp2 (dIs false) (eVar 1) (eC .non))) (tTst (eOp2 (dIs false) (eVar 0) (eC .non)))))) (sRet (eAndV (eOp2 dEq (eCall (fIsi ["Book"]) (eCons (eVar 0) (eCons (eC (.ty "bool")) eNil))) (eCall (fIsi ["Book"]) (eCons (eVar 1) (eCons (eC (.ty "bool")) eNil)))) (eAndV (eOp2 dEq (eOp2 (dIs false) (eVar 0) (eC .non)) (eOp2 (dIs false) (eVar 1) (eC .non))) (eOp2 dEq (eVar 0) (eVar 1))))) sNext)
    (sRet (eAndV (eOp2 dEq (eCall (fIsi ["Book"]) (eCons (eVar 0) (eCons (eC (.ty "str")) eNil))) (eCall (fIsi ["Book"]) (eCons (eVar 1) (eCons (eC (.ty "str")) eNil)))) (eAndV (eCall (fIsiT ["Book"]) (eCons (eVar 0) (eCons (eTup (eCons (eC (.ty "int")) (eCons (eC (.ty "str")) eNil))) eNil))) (eOp2 dEq (eVar 0) (eVar 1)))))))
/-- equal, and alike in kind, through and through, so deep -/
def SameN (h : DH) : Nat → D → D → Prop
  | 0, _, _ => False
  | n + 1, x, y => match x, y with
    | .non, .non => True
    | .bl a, .bl b => a = b
    | .int a, .int b => a = b
    | .str a, .str b => a = b ∧ PyData.strOk a = true
    | .tup xs, .tup ys => xs.length = ys.length ∧ ∀ p ∈ xs.zip ys, SameN h n p.1 p.2
    | x, y => match lstOf x h, lstOf y h with
      | some xs, some ys => xs.length = ys.length ∧ ∀ p ∈ xs.zip ys, SameN h n p.1 p.2
      | _, _ => False
def sp__law_sameN (n : Nat) : SpD := fun ds h Q _ => ∃ x y, ds = [x, y] ∧ SameN h n x y ∧ Q (.bl true) h
def sp__law_same : SpD := sp__law_sameN 6
theorem isiT_eq {x : D} {h : DH} {a b : String} {Q : VD} (hk : Kn x h) (ha : a ∈ tyNs) (hb : b ∈ tyNs) : fIsiT ["Book"] [x, .tup [.ty a, .ty b]] h Q = Q (.bl (isT a x h || isT b x h)) h := by
  have e : tysOf [.ty a, .ty b] = some [a, b] := rfl
  have all : (∀ n ∈ [a, b], n ∈ tyNs) = True := by simp [ha, hb]
  unfold fIsiT isT
  simp only [e, all, true_and]
  rcases hk with ⟨t, e⟩ | ⟨e, e2⟩
  · simp only [e, List.any_cons, List.any_nil, Bool.or_false]
  · simp only [e, e2]
    simp
theorem isT_lst {x : D} {h : DH} {xs : List D} (e : lstOf x h = some xs) : isT "list" x h = true ∧ isT "tuple" x h = false := by
  unfold lstOf at e
  unfold isT
  cases x with
  | lst ys => exact ⟨rfl, rfl⟩
  | ref n =>
    simp only at e
    unfold tyB
    cases e1 : h[n]? with
    | none => rw [e1] at e; cases e
    | some o => rw [e1] at e; cases o <;> first | (simp only [e1]; exact ⟨rfl, rfl⟩) | cases e
  | _ => cases e
theorem kn_lstOf {x : D} {h : DH} {xs : List D} (e : lstOf x h = some xs) : Kn x h := by
  unfold lstOf at e
  cases x with
  | lst ys => exact kn_lst
  | ref n =>
    simp only at e
    cases e1 : h[n]? with
    | none => rw [e1] at e; cases e
    | some o => rw [e1] at e; cases o <;> first | exact kn_ref e1 | cases e
  | _ => cases e
theorem listOf_lst {x : D} {h : DH} {xs : List D} (e : lstOf x h = some xs) : listOf x h = some xs ∧ itemsOf x h = some xs ∧ (∀ ys, x ≠ .tup ys) := by
  unfold lstOf at e
  unfold listOf itemsOf
  cases x with
  | lst ys => exact ⟨e, e, fun _ q => nomatch q⟩
  | ref n => exact ⟨e, e, fun _ q => nomatch q⟩
  | _ => cases e
theorem keep_items {x : D} {h : DH} {xs : List D} (e : itemsOf x h = some xs) : keepOf x xs h := by
  unfold keepOf
  cases x <;> first | exact trivial | exact e
theorem eqv_non : PyData.eqv .none .none = true := by unfold PyData.eqv; rfl
theorem eqv_str (a : Str) : PyData.eqv (.str a) (.str a) = true := by unfold PyData.eqv; simp
theorem dEq_non {h : DH} {Q : VD} : dEq .non .non h Q = Q (.bl true) h := by
  show (SeqAt.shaped .none = true ∧ SeqAt.shaped .none = true ∧ Q (.bl (PyData.eqv .none .none)) h) = _
  rw [eqv_non]
  simp [show SeqAt.shaped .none = true from rfl]
theorem dEq_str {a : Str} {h : DH} {Q : VD} (ok : PyData.strOk a = true) : dEq (.str a) (.str a) h Q = Q (.bl true) h := by
  show (SeqAt.shaped (.str a) = true ∧ SeqAt.shaped (.str a) = true ∧ Q (.bl (PyData.eqv (.str a) (.str a))) h) = _
  rw [eqv_str]
  have e : SeqAt.shaped (.str a) = true := by unfold SeqAt.shaped; simp [PyData.canLay0, PyData.depth, ok]
  simp [e]
theorem zip_lists {x y : D} {h : DH} {xs ys : List D} {Q : QIt} (e1 : lstOf x h = some xs) (e2 : lstOf y h = some ys) (q : Q (zipL xs ys) (fun h => keepOf x xs h ∧ keepOf y ys h) h) : wZip [x, y] h Q := by
  rcases lstOf_cases e1 with rfl | ⟨n, rfl, hn⟩ <;> rcases lstOf_cases e2 with rfl | ⟨m, rfl, hm⟩ <;> simp only [wZip, li_lst, li_ref, *] <;> exact q
theorem zipL_zip (xs ys : List D) : zipL xs ys = (xs.zip ys).map fun p => .tup [p.1, p.2] := by
  have := zipL_map id id xs ys
  rw [List.map_id, List.map_id] at this
  exact this
theorem eqv_intS (a : Int) : PyData.eqv (.int a) (.int a) = true := by rw [eqv_int]; simp
theorem SameN.kn {h : DH} {n : Nat} {x y : D} (s : SameN h n x y) : Kn x h ∧ Kn y h := by
  cases n with
  | zero => exact s.elim
  | succ n =>
    unfold SameN at s
    split at s
    · exact ⟨kn_non, kn_non⟩
    · exact ⟨kn_bl, kn_bl⟩
    · exact ⟨kn_int, kn_int⟩
    · exact ⟨kn_str, kn_str⟩
    · exact ⟨kn_tup, kn_tup⟩
    · split at s
      · rename_i e1 e2
        exact ⟨kn_lstOf e1, kn_lstOf e2⟩
      · exact s.elim
theorem SameN.cases {h : DH} {n : Nat} {x y : D} (s : SameN h (n + 1) x y) : (x = .non ∧ y = .non) ∨ (∃ b, x = .bl b ∧ y = .bl b) ∨ (∃ b, x = .int b ∧ y = .int b) ∨ (∃ b, x = .str b ∧ y = .str b ∧ PyData.strOk b = true) ∨
    (∃ xs ys, x = .tup xs ∧ y = .tup ys ∧ xs.length = ys.length ∧ ∀ p ∈ xs.zip ys, SameN h n p.1 p.2) ∨ (∃ xs ys, lstOf x h = some xs ∧ lstOf y h = some ys ∧ xs.length = ys.length ∧ ∀ p ∈ xs.zip ys, SameN h n p.1 p.2) := by
  unfold SameN at s
  split at s
  · exact .inl ⟨rfl, rfl⟩
  · exact .inr (.inl ⟨_, by rw [s], rfl⟩)
  · exact .inr (.inr (.inl ⟨_, by rw [s], rfl⟩))
  · exact .inr (.inr (.inr (.inl ⟨_, by rw [s.1], rfl, s.1 ▸ s.2⟩)))
  · exact .inr (.inr (.inr (.inr (.inl ⟨_, _, rfl, rfl, s⟩))))
  · split at s
    · rename_i e1 e2
      exact .inr (.inr (.inr (.inr (.inr ⟨_, _, e1, e2, s⟩))))
    · exact s.elim
theorem all_true {α : Type} (xs : List α) {h : DH} {Q : VD} (q : Q (.bl true) h) : fAll (fun bs => bs.all id) [.lst (xs.map fun _ => D.bl true)] h Q := by
  rw [all_bls]
  have : (xs.all fun _ => true) = true := by simp
  rw [this]
  exact q
theorem pl__law_same (n : Nat) (ds : List D) (h : DH) (Q : VD) (E : ED) (w : sp__law_sameN (n + 1) ds h Q E) : bodyD 4 (t__law_same (sp__law_sameN n)) ds h Q E := by
  obtain ⟨x, y, rfl, hs, q⟩ := w
  obtain ⟨kx, ky⟩ := hs.kn
  unfold t__law_same bodyD
  refine sSeq_i fun N hN => ?_
  refine sIf_i fun A B hA hB => ?_
  simp only [dEq_int, dNe_int, dEq_bl, dNe_bl, bodyD, startD, sNext, sBreak, sCont, sDrop, sRet, sRetN, sSet, sPar, sAsg, sSub, sFldD, iSeq, iCall, wEnum, wRange1, wRange2, wz_tup, eComp, eCompR, eComp2, eComp2R, gN, gT, gTcons, gTnil, tTst, tNotD, tAndD, tOrD, eNotV, eAndV, eOrV, eIf, eNil, eCons, eTup, eLst, eRef, eFrz, eCall, eFn, eMkV_eq, eMk, eFld, eSl, oNone, oSome, eOp2, eOp1, eChain, dAdd, dInt, dIntC, dIntB, dSub, dFdiv, dMod, dPow, dLt, dLe, dGt, dGe, dMul, dMulR, dMulT, dIs, dIx, isNon_oI, isNon_non, isNon_int, isNon_bl, isNon_str, isNon_ty, isNon_tup, isNon_lst, isNon_scr, isNon_dic, isNon_obj, isNon_ref, isNon_glb, isNon_exc, isNon_book, eVar, eC, fLen, fAbs, fInt, fMax2, fMin2, fIntsI, fSorted, fTuple, fList, fListR, eLenSet, eSortedSet, eTupRg, eLstRg, eRefRg, rg1, rg2, tYesD, sRaise, sRaiseF, eM, KD.E, wipeD, ins_book, fget_posts, fget_may, mem_Book, it_tup, it_lst, it_scr, it_ref, it_may, it_fil, it_int, it_str, lo_lst, lo_tup, lo_int, lo_ref, li_lst, li_scr, li_tup, li_ref, true_and, List.set_cons_zero, List.set_cons_succ, List.getElem?_cons_zero, List.getElem?_cons_succ, List.map_cons, List.map_nil, List.length_cons, List.length_nil, List.replicate_succ, List.replicate_zero, List.cons_append, List.nil_append, List.zip_cons_cons, List.zip_nil_left, List.foldl_cons, List.foldl_nil, Nat.reduceSub, Nat.reduceAdd, Nat.zero_add, brB_t, brB_f, Bool.not_true, Bool.not_false, if_true, if_false, Bool.false_eq_true, ↓reduceIte]
  rw [isiT_eq ky (by decide) (by decide)]
  simp only [dEq_int, dNe_int, dEq_bl, dNe_bl, bodyD, startD, sNext, sBreak, sCont, sDrop, sRet, sRetN, sSet, sPar, sAsg, sSub, sFldD, iSeq, iCall, wEnum, wRange1, wRange2, wz_tup, eComp, eCompR, eComp2, eComp2R, gN, gT, gTcons, gTnil, tTst, tNotD, tAndD, tOrD, eNotV, eAndV, eOrV, eIf, eNil, eCons, eTup, eLst, eRef, eFrz, eCall, eFn, eMkV_eq, eMk, eFld, eSl, oNone, oSome, eOp2, eOp1, eChain, dAdd, dInt, dIntC, dIntB, dSub, dFdiv, dMod, dPow, dLt, dLe, dGt, dGe, dMul, dMulR, dMulT, dIs, dIx, isNon_oI, isNon_non, isNon_int, isNon_bl, isNon_str, isNon_ty, isNon_tup, isNon_lst, isNon_scr, isNon_dic, isNon_obj, isNon_ref, isNon_glb, isNon_exc, isNon_book, eVar, eC, fLen, fAbs, fInt, fMax2, fMin2, fIntsI, fSorted, fTuple, fList, fListR, eLenSet, eSortedSet, eTupRg, eLstRg, eRefRg, rg1, rg2, tYesD, sRaise, sRaiseF, eM, KD.E, wipeD, ins_book, fget_posts, fget_may, mem_Book, it_tup, it_lst, it_scr, it_ref, it_may, it_fil, it_int, it_str, lo_lst, lo_tup, lo_int, lo_ref, li_lst, li_scr, li_tup, li_ref, true_and, List.set_cons_zero, List.set_cons_succ, List.getElem?_cons_zero, List.getElem?_cons_succ, List.map_cons, List.map_nil, List.length_cons, List.length_nil, List.replicate_succ, List.replicate_zero, List.cons_append, List.nil_append, List.zip_cons_cons, List.zip_nil_left, List.foldl_cons, List.foldl_nil, Nat.reduceSub, Nat.reduceAdd, Nat.zero_add, brB_t, brB_f, Bool.not_true, Bool.not_false, if_true, if_false, Bool.false_eq_true, ↓reduceIte]
  rcases hs.cases with ⟨rfl, rfl⟩ | ⟨b, rfl, rfl⟩ | ⟨b, rfl, rfl⟩ | ⟨b, rfl, rfl, ok⟩ | ⟨xs, ys, rfl, rfl, hl, hz⟩ | ⟨xs, ys, e1, e2, hl, hz⟩
  · refine hB h (hN _ _ ?_)
    refine sSeq_i fun N2 hN2 => ?_
    refine sIf_i fun A2 B2 hA2 hB2 => ?_
    simp only [dEq_int, dNe_int, dEq_bl, dNe_bl, bodyD, startD, sNext, sBreak, sCont, sDrop, sRet, sRetN, sSet, sPar, sAsg, sSub, sFldD, iSeq, iCall, wEnum, wRange1, wRange2, wz_tup, eComp, eCompR, eComp2, eComp2R, gN, gT, gTcons, gTnil, tTst, tNotD, tAndD, tOrD, eNotV, eAndV, eOrV, eIf, eNil, eCons, eTup, eLst, eRef, eFrz, eCall, eFn, eMkV_eq, eMk, eFld, eSl, oNone, oSome, eOp2, eOp1, eChain, dAdd, dInt, dIntC, dIntB, dSub, dFdiv, dMod, dPow, dLt, dLe, dGt, dGe, dMul, dMulR, dMulT, dIs, dIx, isNon_oI, isNon_non, isNon_int, isNon_bl, isNon_str, isNon_ty, isNon_tup, isNon_lst, isNon_scr, isNon_dic, isNon_obj, isNon_ref, isNon_glb, isNon_exc, isNon_book, eVar, eC, fLen, fAbs, fInt, fMax2, fMin2, fIntsI, fSorted, fTuple, fList, fListR, eLenSet, eSortedSet, eTupRg, eLstRg, eRefRg, rg1, rg2, tYesD, sRaise, sRaiseF, eM, KD.E, wipeD, ins_book, fget_posts, fget_may, mem_Book, it_tup, it_lst, it_scr, it_ref, it_may, it_fil, it_int, it_str, lo_lst, lo_tup, lo_int, lo_ref, li_lst, li_scr, li_tup, li_ref, true_and, List.set_cons_zero, List.set_cons_succ, List.getElem?_cons_zero, List.getElem?_cons_succ, List.map_cons, List.map_nil, List.length_cons, List.length_nil, List.replicate_succ, List.replicate_zero, List.cons_append, List.nil_append, List.zip_cons_cons, List.zip_nil_left, List.foldl_cons, List.foldl_nil, Nat.reduceSub, Nat.reduceAdd, Nat.zero_add, brB_t, brB_f, Bool.not_true, Bool.not_false, if_true, if_false, Bool.false_eq_true, ↓reduceIte]
    simp only [isi_eq kx (by decide : "bool" ∈ tyNs)]
    refine hA2 h ?_
    simp only [dEq_int, dNe_int, dEq_bl, dNe_bl, bodyD, startD, sNext, sBreak, sCont, sDrop, sRet, sRetN, sSet, sPar, sAsg, sSub, sFldD, iSeq, iCall, wEnum, wRange1, wRange2, wz_tup, eComp, eCompR, eComp2, eComp2R, gN, gT, gTcons, gTnil, tTst, tNotD, tAndD, tOrD, eNotV, eAndV, eOrV, eIf, eNil, eCons, eTup, eLst, eRef, eFrz, eCall, eFn, eMkV_eq, eMk, eFld, eSl, oNone, oSome, eOp2, eOp1, eChain, dAdd, dInt, dIntC, dIntB, dSub, dFdiv, dMod, dPow, dLt, dLe, dGt, dGe, dMul, dMulR, dMulT, dIs, dIx, isNon_oI, isNon_non, isNon_int, isNon_bl, isNon_str, isNon_ty, isNon_tup, isNon_lst, isNon_scr, isNon_dic, isNon_obj, isNon_ref, isNon_glb, isNon_exc, isNon_book, eVar, eC, fLen, fAbs, fInt, fMax2, fMin2, fIntsI, fSorted, fTuple, fList, fListR, eLenSet, eSortedSet, eTupRg, eLstRg, eRefRg, rg1, rg2, tYesD, sRaise, sRaiseF, eM, KD.E, wipeD, ins_book, fget_posts, fget_may, mem_Book, it_tup, it_lst, it_scr, it_ref, it_may, it_fil, it_int, it_str, lo_lst, lo_tup, lo_int, lo_ref, li_lst, li_scr, li_tup, li_ref, true_and, List.set_cons_zero, List.set_cons_succ, List.getElem?_cons_zero, List.getElem?_cons_succ, List.map_cons, List.map_nil, List.length_cons, List.length_nil, List.replicate_succ, List.replicate_zero, List.cons_append, List.nil_append, List.zip_cons_cons, List.zip_nil_left, List.foldl_cons, List.foldl_nil, Nat.reduceSub, Nat.reduceAdd, Nat.zero_add, brB_t, brB_f, Bool.not_true, Bool.not_false, if_true, if_false, Bool.false_eq_true, ↓reduceIte]
    simp only [isi_eq kx (by decide : "bool" ∈ tyNs), dEq_int, dNe_int, dEq_bl, dNe_bl, bodyD, startD, sNext, sBreak, sCont, sDrop, sRet, sRetN, sSet, sPar, sAsg, sSub, sFldD, iSeq, iCall, wEnum, wRange1, wRange2, wz_tup, eComp, eCompR, eComp2, eComp2R, gN, gT, gTcons, gTnil, tTst, tNotD, tAndD, tOrD, eNotV, eAndV, eOrV, eIf, eNil, eCons, eTup, eLst, eRef, eFrz, eCall, eFn, eMkV_eq, eMk, eFld, eSl, oNone, oSome, eOp2, eOp1, eChain, dAdd, dInt, dIntC, dIntB, dSub, dFdiv, dMod, dPow, dLt, dLe, dGt, dGe, dMul, dMulR, dMulT, dIs, dIx, isNon_oI, isNon_non, isNon_int, isNon_bl, isNon_str, isNon_ty, isNon_tup, isNon_lst, isNon_scr, isNon_dic, isNon_obj, isNon_ref, isNon_glb, isNon_exc, isNon_book, eVar, eC, fLen, fAbs, fInt, fMax2, fMin2, fIntsI, fSorted, fTuple, fList, fListR, eLenSet, eSortedSet, eTupRg, eLstRg, eRefRg, rg1, rg2, tYesD, sRaise, sRaiseF, eM, KD.E, wipeD, ins_book, fget_posts, fget_may, mem_Book, it_tup, it_lst, it_scr, it_ref, it_may, it_fil, it_int, it_str, lo_lst, lo_tup, lo_int, lo_ref, li_lst, li_scr, li_tup, li_ref, true_and, List.set_cons_zero, List.set_cons_succ, List.getElem?_cons_zero, List.getElem?_cons_succ, List.map_cons, List.map_nil, List.length_cons, List.length_nil, List.replicate_succ, List.replicate_zero, List.cons_append, List.nil_append, List.zip_cons_cons, List.zip_nil_left, List.foldl_cons, List.foldl_nil, Nat.reduceSub, Nat.reduceAdd, Nat.zero_add, brB_t, brB_f, Bool.not_true, Bool.not_false, if_true, if_false, Bool.false_eq_true, ↓reduceIte]
    simp only [beq_self_eq_true, dEq_int, dNe_int, dEq_bl, dNe_bl, bodyD, startD, sNext, sBreak, sCont, sDrop, sRet, sRetN, sSet, sPar, sAsg, sSub, sFldD, iSeq, iCall, wEnum, wRange1, wRange2, wz_tup, eComp, eCompR, eComp2, eComp2R, gN, gT, gTcons, gTnil, tTst, tNotD, tAndD, tOrD, eNotV, eAndV, eOrV, eIf, eNil, eCons, eTup, eLst, eRef, eFrz, eCall, eFn, eMkV_eq, eMk, eFld, eSl, oNone, oSome, eOp2, eOp1, eChain, dAdd, dInt, dIntC, dIntB, dSub, dFdiv, dMod, dPow, dLt, dLe, dGt, dGe, dMul, dMulR, dMulT, dIs, dIx, isNon_oI, isNon_non, isNon_int, isNon_bl, isNon_str, isNon_ty, isNon_tup, isNon_lst, isNon_scr, isNon_dic, isNon_obj, isNon_ref, isNon_glb, isNon_exc, isNon_book, eVar, eC, fLen, fAbs, fInt, fMax2, fMin2, fIntsI, fSorted, fTuple, fList, fListR, eLenSet, eSortedSet, eTupRg, eLstRg, eRefRg, rg1, rg2, tYesD, sRaise, sRaiseF, eM, KD.E, wipeD, ins_book, fget_posts, fget_may, mem_Book, it_tup, it_lst, it_scr, it_ref, it_may, it_fil, it_int, it_str, lo_lst, lo_tup, lo_int, lo_ref, li_lst, li_scr, li_tup, li_ref, true_and, List.set_cons_zero, List.set_cons_succ, List.getElem?_cons_zero, List.getElem?_cons_succ, List.map_cons, List.map_nil, List.length_cons, List.length_nil, List.replicate_succ, List.replicate_zero, List.cons_append, List.nil_append, List.zip_cons_cons, List.zip_nil_left, List.foldl_cons, List.foldl_nil, Nat.reduceSub, Nat.reduceAdd, Nat.zero_add, brB_t, brB_f, Bool.not_true, Bool.not_false, if_true, if_false, Bool.false_eq_true, ↓reduceIte, dEq_non]
    exact q
  · refine hB h (hN _ _ ?_)
    refine sSeq_i fun N2 hN2 => ?_
    refine sIf_i fun A2 B2 hA2 hB2 => ?_
    simp only [dEq_int, dNe_int, dEq_bl, dNe_bl, bodyD, startD, sNext, sBreak, sCont, sDrop, sRet, sRetN, sSet, sPar, sAsg, sSub, sFldD, iSeq, iCall, wEnum, wRange1, wRange2, wz_tup, eComp, eCompR, eComp2, eComp2R, gN, gT, gTcons, gTnil, tTst, tNotD, tAndD, tOrD, eNotV, eAndV, eOrV, eIf, eNil, eCons, eTup, eLst, eRef, eFrz, eCall, eFn, eMkV_eq, eMk, eFld, eSl, oNone, oSome, eOp2, eOp1, eChain, dAdd, dInt, dIntC, dIntB, dSub, dFdiv, dMod, dPow, dLt, dLe, dGt, dGe, dMul, dMulR, dMulT, dIs, dIx, isNon_oI, isNon_non, isNon_int, isNon_bl, isNon_str, isNon_ty, isNon_tup, isNon_lst, isNon_scr, isNon_dic, isNon_obj, isNon_ref, isNon_glb, isNon_exc, isNon_book, eVar, eC, fLen, fAbs, fInt, fMax2, fMin2, fIntsI, fSorted, fTuple, fList, fListR, eLenSet, eSortedSet, eTupRg, eLstRg, eRefRg, rg1, rg2, tYesD, sRaise, sRaiseF, eM, KD.E, wipeD, ins_book, fget_posts, fget_may, mem_Book, it_tup, it_lst, it_scr, it_ref, it_may, it_fil, it_int, it_str, lo_lst, lo_tup, lo_int, lo_ref, li_lst, li_scr, li_tup, li_ref, true_and, List.set_cons_zero, List.set_cons_succ, List.getElem?_cons_zero, List.getElem?_cons_succ, List.map_cons, List.map_nil, List.length_cons, List.length_nil, List.replicate_succ, List.replicate_zero, List.cons_append, List.nil_append, List.zip_cons_cons, List.zip_nil_left, List.foldl_cons, List.foldl_nil, Nat.reduceSub, Nat.reduceAdd, Nat.zero_add, brB_t, brB_f, Bool.not_true, Bool.not_false, if_true, if_false, Bool.false_eq_true, ↓reduceIte]
    simp only [isi_eq kx (by decide : "bool" ∈ tyNs)]
    refine hA2 h ?_
    simp only [dEq_int, dNe_int, dEq_bl, dNe_bl, bodyD, startD, sNext, sBreak, sCont, sDrop, sRet, sRetN, sSet, sPar, sAsg, sSub, sFldD, iSeq, iCall, wEnum, wRange1, wRange2, wz_tup, eComp, eCompR, eComp2, eComp2R, gN, gT, gTcons, gTnil, tTst, tNotD, tAndD, tOrD, eNotV, eAndV, eOrV, eIf, eNil, eCons, eTup, eLst, eRef, eFrz, eCall, eFn, eMkV_eq, eMk, eFld, eSl, oNone, oSome, eOp2, eOp1, eChain, dAdd, dInt, dIntC, dIntB, dSub, dFdiv, dMod, dPow, dLt, dLe, dGt, dGe, dMul, dMulR, dMulT, dIs, dIx, isNon_oI, isNon_non, isNon_int, isNon_bl, isNon_str, isNon_ty, isNon_tup, isNon_lst, isNon_scr, isNon_dic, isNon_obj, isNon_ref, isNon_glb, isNon_exc, isNon_book, eVar, eC, fLen, fAbs, fInt, fMax2, fMin2, fIntsI, fSorted, fTuple, fList, fListR, eLenSet, eSortedSet, eTupRg, eLstRg, eRefRg, rg1, rg2, tYesD, sRaise, sRaiseF, eM, KD.E, wipeD, ins_book, fget_posts, fget_may, mem_Book, it_tup, it_lst, it_scr, it_ref, it_may, it_fil, it_int, it_str, lo_lst, lo_tup, lo_int, lo_ref, li_lst, li_scr, li_tup, li_ref, true_and, List.set_cons_zero, List.set_cons_succ, List.getElem?_cons_zero, List.getElem?_cons_succ, List.map_cons, List.map_nil, List.length_cons, List.length_nil, List.replicate_succ, List.replicate_zero, List.cons_append, List.nil_append, List.zip_cons_cons, List.zip_nil_left, List.foldl_cons, List.foldl_nil, Nat.reduceSub, Nat.reduceAdd, Nat.zero_add, brB_t, brB_f, Bool.not_true, Bool.not_false, if_true, if_false, Bool.false_eq_true, ↓reduceIte]
    simp only [isi_eq kx (by decide : "bool" ∈ tyNs), dEq_int, dNe_int, dEq_bl, dNe_bl, bodyD, startD, sNext, sBreak, sCont, sDrop, sRet, sRetN, sSet, sPar, sAsg, sSub, sFldD, iSeq, iCall, wEnum, wRange1, wRange2, wz_tup, eComp, eCompR, eComp2, eComp2R, gN, gT, gTcons, gTnil, tTst, tNotD, tAndD, tOrD, eNotV, eAndV, eOrV, eIf, eNil, eCons, eTup, eLst, eRef, eFrz, eCall, eFn, eMkV_eq, eMk, eFld, eSl, oNone, oSome, eOp2, eOp1, eChain, dAdd, dInt, dIntC, dIntB, dSub, dFdiv, dMod, dPow, dLt, dLe, dGt, dGe, dMul, dMulR, dMulT, dIs, dIx, isNon_oI, isNon_non, isNon_int, isNon_bl, isNon_str, isNon_ty, isNon_tup, isNon_lst, isNon_scr, isNon_dic, isNon_obj, isNon_ref, isNon_glb, isNon_exc, isNon_book, eVar, eC, fLen, fAbs, fInt, fMax2, fMin2, fIntsI, fSorted, fTuple, fList, fListR, eLenSet, eSortedSet, eTupRg, eLstRg, eRefRg, rg1, rg2, tYesD, sRaise, sRaiseF, eM, KD.E, wipeD, ins_book, fget_posts, fget_may, mem_Book, it_tup, it_lst, it_scr, it_ref, it_may, it_fil, it_int, it_str, lo_lst, lo_tup, lo_int, lo_ref, li_lst, li_scr, li_tup, li_ref, true_and, List.set_cons_zero, List.set_cons_succ, List.getElem?_cons_zero, List.getElem?_cons_succ, List.map_cons, List.map_nil, List.length_cons, List.length_nil, List.replicate_succ, List.replicate_zero, List.cons_append, List.nil_append, List.zip_cons_cons, List.zip_nil_left, List.foldl_cons, List.foldl_nil, Nat.reduceSub, Nat.reduceAdd, Nat.zero_add, brB_t, brB_f, Bool.not_true, Bool.not_false, if_true, if_false, Bool.false_eq_true, ↓reduceIte]
    simp only [beq_self_eq_true, dEq_int, dNe_int, dEq_bl, dNe_bl, bodyD, startD, sNext, sBreak, sCont, sDrop, sRet, sRetN, sSet, sPar, sAsg, sSub, sFldD, iSeq, iCall, wEnum, wRange1, wRange2, wz_tup, eComp, eCompR, eComp2, eComp2R, gN, gT, gTcons, gTnil, tTst, tNotD, tAndD, tOrD, eNotV, eAndV, eOrV, eIf, eNil, eCons, eTup, eLst, eRef, eFrz, eCall, eFn, eMkV_eq, eMk, eFld, eSl, oNone, oSome, eOp2, eOp1, eChain, dAdd, dInt, dIntC, dIntB, dSub, dFdiv, dMod, dPow, dLt, dLe, dGt, dGe, dMul, dMulR, dMulT, dIs, dIx, isNon_oI, isNon_non, isNon_int, isNon_bl, isNon_str, isNon_ty, isNon_tup, isNon_lst, isNon_scr, isNon_dic, isNon_obj, isNon_ref, isNon_glb, isNon_exc, isNon_book, eVar, eC, fLen, fAbs, fInt, fMax2, fMin2, fIntsI, fSorted, fTuple, fList, fListR, eLenSet, eSortedSet, eTupRg, eLstRg, eRefRg, rg1, rg2, tYesD, sRaise, sRaiseF, eM, KD.E, wipeD, ins_book, fget_posts, fget_may, mem_Book, it_tup, it_lst, it_scr, it_ref, it_may, it_fil, it_int, it_str, lo_lst, lo_tup, lo_int, lo_ref, li_lst, li_scr, li_tup, li_ref, true_and, List.set_cons_zero, List.set_cons_succ, List.getElem?_cons_zero, List.getElem?_cons_succ, List.map_cons, List.map_nil, List.length_cons, List.length_nil, List.replicate_succ, List.replicate_zero, List.cons_append, List.nil_append, List.zip_cons_cons, List.zip_nil_left, List.foldl_cons, List.foldl_nil, Nat.reduceSub, Nat.reduceAdd, Nat.zero_add, brB_t, brB_f, Bool.not_true, Bool.not_false, if_true, if_false, Bool.false_eq_true, ↓reduceIte]
    exact q
  · refine hB h (hN _ _ ?_)
    refine sSeq_i fun N2 hN2 => ?_
    refine sIf_i fun A2 B2 hA2 hB2 => ?_
    simp only [dEq_int, dNe_int, dEq_bl, dNe_bl, bodyD, startD, sNext, sBreak, sCont, sDrop, sRet, sRetN, sSet, sPar, sAsg, sSub, sFldD, iSeq, iCall, wEnum, wRange1, wRange2, wz_tup, eComp, eCompR, eComp2, eComp2R, gN, gT, gTcons, gTnil, tTst, tNotD, tAndD, tOrD, eNotV, eAndV, eOrV, eIf, eNil, eCons, eTup, eLst, eRef, eFrz, eCall, eFn, eMkV_eq, eMk, eFld, eSl, oNone, oSome, eOp2, eOp1, eChain, dAdd, dInt, dIntC, dIntB, dSub, dFdiv, dMod, dPow, dLt, dLe, dGt, dGe, dMul, dMulR, dMulT, dIs, dIx, isNon_oI, isNon_non, isNon_int, isNon_bl, isNon_str, isNon_ty, isNon_tup, isNon_lst, isNon_scr, isNon_dic, isNon_obj, isNon_ref, isNon_glb, isNon_exc, isNon_book, eVar, eC, fLen, fAbs, fInt, fMax2, fMin2, fIntsI, fSorted, fTuple, fList, fListR, eLenSet, eSortedSet, eTupRg, eLstRg, eRefRg, rg1, rg2, tYesD, sRaise, sRaiseF, eM, KD.E, wipeD, ins_book, fget_posts, fget_may, mem_Book, it_tup, it_lst, it_scr, it_ref, it_may, it_fil, it_int, it_str, lo_lst, lo_tup, lo_int, lo_ref, li_lst, li_scr, li_tup, li_ref, true_and, List.set_cons_zero, List.set_cons_succ, List.getElem?_cons_zero, List.getElem?_cons_succ, List.map_cons, List.map_nil, List.length_cons, List.length_nil, List.replicate_succ, List.replicate_zero, List.cons_append, List.nil_append, List.zip_cons_cons, List.zip_nil_left, List.foldl_cons, List.foldl_nil, Nat.reduceSub, Nat.reduceAdd, Nat.zero_add, brB_t, brB_f, Bool.not_true, Bool.not_false, if_true, if_false, Bool.false_eq_true, ↓reduceIte]
    simp only [isi_eq kx (by decide : "bool" ∈ tyNs)]
    refine hB2 h (hN2 _ _ ?_)
    simp only [dEq_int, dNe_int, dEq_bl, dNe_bl, bodyD, startD, sNext, sBreak, sCont, sDrop, sRet, sRetN, sSet, sPar, sAsg, sSub, sFldD, iSeq, iCall, wEnum, wRange1, wRange2, wz_tup, eComp, eCompR, eComp2, eComp2R, gN, gT, gTcons, gTnil, tTst, tNotD, tAndD, tOrD, eNotV, eAndV, eOrV, eIf, eNil, eCons, eTup, eLst, eRef, eFrz, eCall, eFn, eMkV_eq, eMk, eFld, eSl, oNone, oSome, eOp2, eOp1, eChain, dAdd, dInt, dIntC, dIntB, dSub, dFdiv, dMod, dPow, dLt, dLe, dGt, dGe, dMul, dMulR, dMulT, dIs, dIx, isNon_oI, isNon_non, isNon_int, isNon_bl, isNon_str, isNon_ty, isNon_tup, isNon_lst, isNon_scr, isNon_dic, isNon_obj, isNon_ref, isNon_glb, isNon_exc, isNon_book, eVar, eC, fLen, fAbs, fInt, fMax2, fMin2, fIntsI, fSorted, fTuple, fList, fListR, eLenSet, eSortedSet, eTupRg, eLstRg, eRefRg, rg1, rg2, tYesD, sRaise, sRaiseF, eM, KD.E, wipeD, ins_book, fget_posts, fget_may, mem_Book, it_tup, it_lst, it_scr, it_ref, it_may, it_fil, it_int, it_str, lo_lst, lo_tup, lo_int, lo_ref, li_lst, li_scr, li_tup, li_ref, true_and, List.set_cons_zero, List.set_cons_succ, List.getElem?_cons_zero, List.getElem?_cons_succ, List.map_cons, List.map_nil, List.length_cons, List.length_nil, List.replicate_succ, List.replicate_zero, List.cons_append, List.nil_append, List.zip_cons_cons, List.zip_nil_left, List.foldl_cons, List.foldl_nil, Nat.reduceSub, Nat.reduceAdd, Nat.zero_add, brB_t, brB_f, Bool.not_true, Bool.not_false, if_true, if_false, Bool.false_eq_true, ↓reduceIte]
    simp only [isi_eq kx (by decide : "str" ∈ tyNs), dEq_int, dNe_int, dEq_bl, dNe_bl, bodyD, startD, sNext, sBreak, sCont, sDrop, sRet, sRetN, sSet, sPar, sAsg, sSub, sFldD, iSeq, iCall, wEnum, wRange1, wRange2, wz_tup, eComp, eCompR, eComp2, eComp2R, gN, gT, gTcons, gTnil, tTst, tNotD, tAndD, tOrD, eNotV, eAndV, eOrV, eIf, eNil, eCons, eTup, eLst, eRef, eFrz, eCall, eFn, eMkV_eq, eMk, eFld, eSl, oNone, oSome, eOp2, eOp1, eChain, dAdd, dInt, dIntC, dIntB, dSub, dFdiv, dMod, dPow, dLt, dLe, dGt, dGe, dMul, dMulR, dMulT, dIs, dIx, isNon_oI, isNon_non, isNon_int, isNon_bl, isNon_str, isNon_ty, isNon_tup, isNon_lst, isNon_scr, isNon_dic, isNon_obj, isNon_ref, isNon_glb, isNon_exc, isNon_book, eVar, eC, fLen, fAbs, fInt, fMax2, fMin2, fIntsI, fSorted, fTuple, fList, fListR, eLenSet, eSortedSet, eTupRg, eLstRg, eRefRg, rg1, rg2, tYesD, sRaise, sRaiseF, eM, KD.E, wipeD, ins_book, fget_posts, fget_may, mem_Book, it_tup, it_lst, it_scr, it_ref, it_may, it_fil, it_int, it_str, lo_lst, lo_tup, lo_int, lo_ref, li_lst, li_scr, li_tup, li_ref, true_and, List.set_cons_zero, List.set_cons_succ, List.getElem?_cons_zero, List.getElem?_cons_succ, List.map_cons, List.map_nil, List.length_cons, List.length_nil, List.replicate_succ, List.replicate_zero, List.cons_append, List.nil_append, List.zip_cons_cons, List.zip_nil_left, List.foldl_cons, List.foldl_nil, Nat.reduceSub, Nat.reduceAdd, Nat.zero_add, brB_t, brB_f, Bool.not_true, Bool.not_false, if_true, if_false, Bool.false_eq_true, ↓reduceIte]
    simp only [beq_self_eq_true, dEq_int, dNe_int, dEq_bl, dNe_bl, bodyD, startD, sNext, sBreak, sCont, sDrop, sRet, sRetN, sSet, sPar, sAsg, sSub, sFldD, iSeq, iCall, wEnum, wRange1, wRange2, wz_tup, eComp, eCompR, eComp2, eComp2R, gN, gT, gTcons, gTnil, tTst, tNotD, tAndD, tOrD, eNotV, eAndV, eOrV, eIf, eNil, eCons, eTup, eLst, eRef, eFrz, eCall, eFn, eMkV_eq, eMk, eFld, eSl, oNone, oSome, eOp2, eOp1, eChain, dAdd, dInt, dIntC, dIntB, dSub, dFdiv, dMod, dPow, dLt, dLe, dGt, dGe, dMul, dMulR, dMulT, dIs, dIx, isNon_oI, isNon_non, isNon_int, isNon_bl, isNon_str, isNon_ty, isNon_tup, isNon_lst, isNon_scr, isNon_dic, isNon_obj, isNon_ref, isNon_glb, isNon_exc, isNon_book, eVar, eC, fLen, fAbs, fInt, fMax2, fMin2, fIntsI, fSorted, fTuple, fList, fListR, eLenSet, eSortedSet, eTupRg, eLstRg, eRefRg, rg1, rg2, tYesD, sRaise, sRaiseF, eM, KD.E, wipeD, ins_book, fget_posts, fget_may, mem_Book, it_tup, it_lst, it_scr, it_ref, it_may, it_fil, it_int, it_str, lo_lst, lo_tup, lo_int, lo_ref, li_lst, li_scr, li_tup, li_ref, true_and, List.set_cons_zero, List.set_cons_succ, List.getElem?_cons_zero, List.getElem?_cons_succ, List.map_cons, List.map_nil, List.length_cons, List.length_nil, List.replicate_succ, List.replicate_zero, List.cons_append, List.nil_append, List.zip_cons_cons, List.zip_nil_left, List.foldl_cons, List.foldl_nil, Nat.reduceSub, Nat.reduceAdd, Nat.zero_add, brB_t, brB_f, Bool.not_true, Bool.not_false, if_true, if_false, Bool.false_eq_true, ↓reduceIte]
    simp only [isiT_eq kx (by decide : "int" ∈ tyNs) (by decide : "str" ∈ tyNs)]
    exact q
  · refine hB h (hN _ _ ?_)
    refine sSeq_i fun N2 hN2 => ?_
    refine sIf_i fun A2 B2 hA2 hB2 => ?_
    simp only [dEq_int, dNe_int, dEq_bl, dNe_bl, bodyD, startD, sNext, sBreak, sCont, sDrop, sRet, sRetN, sSet, sPar, sAsg, sSub, sFldD, iSeq, iCall, wEnum, wRange1, wRange2, wz_tup, eComp, eCompR, eComp2, eComp2R, gN, gT, gTcons, gTnil, tTst, tNotD, tAndD, tOrD, eNotV, eAndV, eOrV, eIf, eNil, eCons, eTup, eLst, eRef, eFrz, eCall, eFn, eMkV_eq, eMk, eFld, eSl, oNone, oSome, eOp2, eOp1, eChain, dAdd, dInt, dIntC, dIntB, dSub, dFdiv, dMod, dPow, dLt, dLe, dGt, dGe, dMul, dMulR, dMulT, dIs, dIx, isNon_oI, isNon_non, isNon_int, isNon_bl, isNon_str, isNon_ty, isNon_tup, isNon_lst, isNon_scr, isNon_dic, isNon_obj, isNon_ref, isNon_glb, isNon_exc, isNon_book, eVar, eC, fLen, fAbs, fInt, fMax2, fMin2, fIntsI, fSorted, fTuple, fList, fListR, eLenSet, eSortedSet, eTupRg, eLstRg, eRefRg, rg1, rg2, tYesD, sRaise, sRaiseF, eM, KD.E, wipeD, ins_book, fget_posts, fget_may, mem_Book, it_tup, it_lst, it_scr, it_ref, it_may, it_fil, it_int, it_str, lo_lst, lo_tup, lo_int, lo_ref, li_lst, li_scr, li_tup, li_ref, true_and, List.set_cons_zero, List.set_cons_succ, List.getElem?_cons_zero, List.getElem?_cons_succ, List.map_cons, List.map_nil, List.length_cons, List.length_nil, List.replicate_succ, List.replicate_zero, List.cons_append, List.nil_append, List.zip_cons_cons, List.zip_nil_left, List.foldl_cons, List.foldl_nil, Nat.reduceSub, Nat.reduceAdd, Nat.zero_add, brB_t, brB_f, Bool.not_true, Bool.not_false, if_true, if_false, Bool.false_eq_true, ↓reduceIte]
    simp only [isi_eq kx (by decide : "bool" ∈ tyNs)]
    refine hB2 h (hN2 _ _ ?_)
    simp only [dEq_int, dNe_int, dEq_bl, dNe_bl, bodyD, startD, sNext, sBreak, sCont, sDrop, sRet, sRetN, sSet, sPar, sAsg, sSub, sFldD, iSeq, iCall, wEnum, wRange1, wRange2, wz_tup, eComp, eCompR, eComp2, eComp2R, gN, gT, gTcons, gTnil, tTst, tNotD, tAndD, tOrD, eNotV, eAndV, eOrV, eIf, eNil, eCons, eTup, eLst, eRef, eFrz, eCall, eFn, eMkV_eq, eMk, eFld, eSl, oNone, oSome, eOp2, eOp1, eChain, dAdd, dInt, dIntC, dIntB, dSub, dFdiv, dMod, dPow, dLt, dLe, dGt, dGe, dMul, dMulR, dMulT, dIs, dIx, isNon_oI, isNon_non, isNon_int, isNon_bl, isNon_str, isNon_ty, isNon_tup, isNon_lst, isNon_scr, isNon_dic, isNon_obj, isNon_ref, isNon_glb, isNon_exc, isNon_book, eVar, eC, fLen, fAbs, fInt, fMax2, fMin2, fIntsI, fSorted, fTuple, fList, fListR, eLenSet, eSortedSet, eTupRg, eLstRg, eRefRg, rg1, rg2, tYesD, sRaise, sRaiseF, eM, KD.E, wipeD, ins_book, fget_posts, fget_may, mem_Book, it_tup, it_lst, it_scr, it_ref, it_may, it_fil, it_int, it_str, lo_lst, lo_tup, lo_int, lo_ref, li_lst, li_scr, li_tup, li_ref, true_and, List.set_cons_zero, List.set_cons_succ, List.getElem?_cons_zero, List.getElem?_cons_succ, List.map_cons, List.map_nil, List.length_cons, List.length_nil, List.replicate_succ, List.replicate_zero, List.cons_append, List.nil_append, List.zip_cons_cons, List.zip_nil_left, List.foldl_cons, List.foldl_nil, Nat.reduceSub, Nat.reduceAdd, Nat.zero_add, brB_t, brB_f, Bool.not_true, Bool.not_false, if_true, if_false, Bool.false_eq_true, ↓reduceIte]
    simp only [isi_eq kx (by decide : "str" ∈ tyNs), dEq_int, dNe_int, dEq_bl, dNe_bl, bodyD, startD, sNext, sBreak, sCont, sDrop, sRet, sRetN, sSet, sPar, sAsg, sSub, sFldD, iSeq, iCall, wEnum, wRange1, wRange2, wz_tup, eComp, eCompR, eComp2, eComp2R, gN, gT, gTcons, gTnil, tTst, tNotD, tAndD, tOrD, eNotV, eAndV, eOrV, eIf, eNil, eCons, eTup, eLst, eRef, eFrz, eCall, eFn, eMkV_eq, eMk, eFld, eSl, oNone, oSome, eOp2, eOp1, eChain, dAdd, dInt, dIntC, dIntB, dSub, dFdiv, dMod, dPow, dLt, dLe, dGt, dGe, dMul, dMulR, dMulT, dIs, dIx, isNon_oI, isNon_non, isNon_int, isNon_bl, isNon_str, isNon_ty, isNon_tup, isNon_lst, isNon_scr, isNon_dic, isNon_obj, isNon_ref, isNon_glb, isNon_exc, isNon_book, eVar, eC, fLen, fAbs, fInt, fMax2, fMin2, fIntsI, fSorted, fTuple, fList, fListR, eLenSet, eSortedSet, eTupRg, eLstRg, eRefRg, rg1, rg2, tYesD, sRaise, sRaiseF, eM, KD.E, wipeD, ins_book, fget_posts, fget_may, mem_Book, it_tup, it_lst, it_scr, it_ref, it_may, it_fil, it_int, it_str, lo_lst, lo_tup, lo_int, lo_ref, li_lst, li_scr, li_tup, li_ref, true_and, List.set_cons_zero, List.set_cons_succ, List.getElem?_cons_zero, List.getElem?_cons_succ, List.map_cons, List.map_nil, List.length_cons, List.length_nil, List.replicate_succ, List.replicate_zero, List.cons_append, List.nil_append, List.zip_cons_cons, List.zip_nil_left, List.foldl_cons, List.foldl_nil, Nat.reduceSub, Nat.reduceAdd, Nat.zero_add, brB_t, brB_f, Bool.not_true, Bool.not_false, if_true, if_false, Bool.false_eq_true, ↓reduceIte]
    simp only [beq_self_eq_true, dEq_int, dNe_int, dEq_bl, dNe_bl, bodyD, startD, sNext, sBreak, sCont, sDrop, sRet, sRetN, sSet, sPar, sAsg, sSub, sFldD, iSeq, iCall, wEnum, wRange1, wRange2, wz_tup, eComp, eCompR, eComp2, eComp2R, gN, gT, gTcons, gTnil, tTst, tNotD, tAndD, tOrD, eNotV, eAndV, eOrV, eIf, eNil, eCons, eTup, eLst, eRef, eFrz, eCall, eFn, eMkV_eq, eMk, eFld, eSl, oNone, oSome, eOp2, eOp1, eChain, dAdd, dInt, dIntC, dIntB, dSub, dFdiv, dMod, dPow, dLt, dLe, dGt, dGe, dMul, dMulR, dMulT, dIs, dIx, isNon_oI, isNon_non, isNon_int, isNon_bl, isNon_str, isNon_ty, isNon_tup, isNon_lst, isNon_scr, isNon_dic, isNon_obj, isNon_ref, isNon_glb, isNon_exc, isNon_book, eVar, eC, fLen, fAbs, fInt, fMax2, fMin2, fIntsI, fSorted, fTuple, fList, fListR, eLenSet, eSortedSet, eTupRg, eLstRg, eRefRg, rg1, rg2, tYesD, sRaise, sRaiseF, eM, KD.E, wipeD, ins_book, fget_posts, fget_may, mem_Book, it_tup, it_lst, it_scr, it_ref, it_may, it_fil, it_int, it_str, lo_lst, lo_tup, lo_int, lo_ref, li_lst, li_scr, li_tup, li_ref, true_and, List.set_cons_zero, List.set_cons_succ, List.getElem?_cons_zero, List.getElem?_cons_succ, List.map_cons, List.map_nil, List.length_cons, List.length_nil, List.replicate_succ, List.replicate_zero, List.cons_append, List.nil_append, List.zip_cons_cons, List.zip_nil_left, List.foldl_cons, List.foldl_nil, Nat.reduceSub, Nat.reduceAdd, Nat.zero_add, brB_t, brB_f, Bool.not_true, Bool.not_false, if_true, if_false, Bool.false_eq_true, ↓reduceIte]
    simp only [isiT_eq kx (by decide : "int" ∈ tyNs) (by decide : "str" ∈ tyNs), dEq_str ok]
    exact q
  · refine hA h ?_
    refine sSeq_i fun N2 hN2 => ?_
    refine sIf_i fun A2 B2 hA2 hB2 => ?_
    simp only [dEq_int, dNe_int, dEq_bl, dNe_bl, bodyD, startD, sNext, sBreak, sCont, sDrop, sRet, sRetN, sSet, sPar, sAsg, sSub, sFldD, iSeq, iCall, wEnum, wRange1, wRange2, wz_tup, eComp, eCompR, eComp2, eComp2R, gN, gT, gTcons, gTnil, tTst, tNotD, tAndD, tOrD, eNotV, eAndV, eOrV, eIf, eNil, eCons, eTup, eLst, eRef, eFrz, eCall, eFn, eMkV_eq, eMk, eFld, eSl, oNone, oSome, eOp2, eOp1, eChain, dAdd, dInt, dIntC, dIntB, dSub, dFdiv, dMod, dPow, dLt, dLe, dGt, dGe, dMul, dMulR, dMulT, dIs, dIx, isNon_oI, isNon_non, isNon_int, isNon_bl, isNon_str, isNon_ty, isNon_tup, isNon_lst, isNon_scr, isNon_dic, isNon_obj, isNon_ref, isNon_glb, isNon_exc, isNon_book, eVar, eC, fLen, fAbs, fInt, fMax2, fMin2, fIntsI, fSorted, fTuple, fList, fListR, eLenSet, eSortedSet, eTupRg, eLstRg, eRefRg, rg1, rg2, tYesD, sRaise, sRaiseF, eM, KD.E, wipeD, ins_book, fget_posts, fget_may, mem_Book, it_tup, it_lst, it_scr, it_ref, it_may, it_fil, it_int, it_str, lo_lst, lo_tup, lo_int, lo_ref, li_lst, li_scr, li_tup, li_ref, true_and, List.set_cons_zero, List.set_cons_succ, List.getElem?_cons_zero, List.getElem?_cons_succ, List.map_cons, List.map_nil, List.length_cons, List.length_nil, List.replicate_succ, List.replicate_zero, List.cons_append, List.nil_append, List.zip_cons_cons, List.zip_nil_left, List.foldl_cons, List.foldl_nil, Nat.reduceSub, Nat.reduceAdd, Nat.zero_add, brB_t, brB_f, Bool.not_true, Bool.not_false, if_true, if_false, Bool.false_eq_true, ↓reduceIte]
    simp only [isi_eq kx (by decide : "tuple" ∈ tyNs), isi_eq ky (by decide : "tuple" ∈ tyNs), isiT_eq kx (by decide : "tuple" ∈ tyNs) (by decide : "list" ∈ tyNs), dEq_int, dNe_int, dEq_bl, dNe_bl, bodyD, startD, sNext, sBreak, sCont, sDrop, sRet, sRetN, sSet, sPar, sAsg, sSub, sFldD, iSeq, iCall, wEnum, wRange1, wRange2, wz_tup, eComp, eCompR, eComp2, eComp2R, gN, gT, gTcons, gTnil, tTst, tNotD, tAndD, tOrD, eNotV, eAndV, eOrV, eIf, eNil, eCons, eTup, eLst, eRef, eFrz, eCall, eFn, eMkV_eq, eMk, eFld, eSl, oNone, oSome, eOp2, eOp1, eChain, dAdd, dInt, dIntC, dIntB, dSub, dFdiv, dMod, dPow, dLt, dLe, dGt, dGe, dMul, dMulR, dMulT, dIs, dIx, isNon_oI, isNon_non, isNon_int, isNon_bl, isNon_str, isNon_ty, isNon_tup, isNon_lst, isNon_scr, isNon_dic, isNon_obj, isNon_ref, isNon_glb, isNon_exc, isNon_book, eVar, eC, fLen, fAbs, fInt, fMax2, fMin2, fIntsI, fSorted, fTuple, fList, fListR, eLenSet, eSortedSet, eTupRg, eLstRg, eRefRg, rg1, rg2, tYesD, sRaise, sRaiseF, eM, KD.E, wipeD, ins_book, fget_posts, fget_may, mem_Book, it_tup, it_lst, it_scr, it_ref, it_may, it_fil, it_int, it_str, lo_lst, lo_tup, lo_int, lo_ref, li_lst, li_scr, li_tup, li_ref, true_and, List.set_cons_zero, List.set_cons_succ, List.getElem?_cons_zero, List.getElem?_cons_succ, List.map_cons, List.map_nil, List.length_cons, List.length_nil, List.replicate_succ, List.replicate_zero, List.cons_append, List.nil_append, List.zip_cons_cons, List.zip_nil_left, List.foldl_cons, List.foldl_nil, Nat.reduceSub, Nat.reduceAdd, Nat.zero_add, brB_t, brB_f, Bool.not_true, Bool.not_false, if_true, if_false, Bool.false_eq_true, ↓reduceIte]
    refine hB2 h (hN2 _ _ ?_)
    simp only [dEq_int, dNe_int, dEq_bl, dNe_bl, bodyD, startD, sNext, sBreak, sCont, sDrop, sRet, sRetN, sSet, sPar, sAsg, sSub, sFldD, iSeq, iCall, wEnum, wRange1, wRange2, wz_tup, eComp, eCompR, eComp2, eComp2R, gN, gT, gTcons, gTnil, tTst, tNotD, tAndD, tOrD, eNotV, eAndV, eOrV, eIf, eNil, eCons, eTup, eLst, eRef, eFrz, eCall, eFn, eMkV_eq, eMk, eFld, eSl, oNone, oSome, eOp2, eOp1, eChain, dAdd, dInt, dIntC, dIntB, dSub, dFdiv, dMod, dPow, dLt, dLe, dGt, dGe, dMul, dMulR, dMulT, dIs, dIx, isNon_oI, isNon_non, isNon_int, isNon_bl, isNon_str, isNon_ty, isNon_tup, isNon_lst, isNon_scr, isNon_dic, isNon_obj, isNon_ref, isNon_glb, isNon_exc, isNon_book, eVar, eC, fLen, fAbs, fInt, fMax2, fMin2, fIntsI, fSorted, fTuple, fList, fListR, eLenSet, eSortedSet, eTupRg, eLstRg, eRefRg, rg1, rg2, tYesD, sRaise, sRaiseF, eM, KD.E, wipeD, ins_book, fget_posts, fget_may, mem_Book, it_tup, it_lst, it_scr, it_ref, it_may, it_fil, it_int, it_str, lo_lst, lo_tup, lo_int, lo_ref, li_lst, li_scr, li_tup, li_ref, true_and, List.set_cons_zero, List.set_cons_succ, List.getElem?_cons_zero, List.getElem?_cons_succ, List.map_cons, List.map_nil, List.length_cons, List.length_nil, List.replicate_succ, List.replicate_zero, List.cons_append, List.nil_append, List.zip_cons_cons, List.zip_nil_left, List.foldl_cons, List.foldl_nil, Nat.reduceSub, Nat.reduceAdd, Nat.zero_add, brB_t, brB_f, Bool.not_true, Bool.not_false, if_true, if_false, Bool.false_eq_true, ↓reduceIte, hl]
    simp only [beq_self_eq_true, dEq_int, dNe_int, dEq_bl, dNe_bl, bodyD, startD, sNext, sBreak, sCont, sDrop, sRet, sRetN, sSet, sPar, sAsg, sSub, sFldD, iSeq, iCall, wEnum, wRange1, wRange2, wz_tup, eComp, eCompR, eComp2, eComp2R, gN, gT, gTcons, gTnil, tTst, tNotD, tAndD, tOrD, eNotV, eAndV, eOrV, eIf, eNil, eCons, eTup, eLst, eRef, eFrz, eCall, eFn, eMkV_eq, eMk, eFld, eSl, oNone, oSome, eOp2, eOp1, eChain, dAdd, dInt, dIntC, dIntB, dSub, dFdiv, dMod, dPow, dLt, dLe, dGt, dGe, dMul, dMulR, dMulT, dIs, dIx, isNon_oI, isNon_non, isNon_int, isNon_bl, isNon_str, isNon_ty, isNon_tup, isNon_lst, isNon_scr, isNon_dic, isNon_obj, isNon_ref, isNon_glb, isNon_exc, isNon_book, eVar, eC, fLen, fAbs, fInt, fMax2, fMin2, fIntsI, fSorted, fTuple, fList, fListR, eLenSet, eSortedSet, eTupRg, eLstRg, eRefRg, rg1, rg2, tYesD, sRaise, sRaiseF, eM, KD.E, wipeD, ins_book, fget_posts, fget_may, mem_Book, it_tup, it_lst, it_scr, it_ref, it_may, it_fil, it_int, it_str, lo_lst, lo_tup, lo_int, lo_ref, li_lst, li_scr, li_tup, li_ref, true_and, List.set_cons_zero, List.set_cons_succ, List.getElem?_cons_zero, List.getElem?_cons_succ, List.map_cons, List.map_nil, List.length_cons, List.length_nil, List.replicate_succ, List.replicate_zero, List.cons_append, List.nil_append, List.zip_cons_cons, List.zip_nil_left, List.foldl_cons, List.foldl_nil, Nat.reduceSub, Nat.reduceAdd, Nat.zero_add, brB_t, brB_f, Bool.not_true, Bool.not_false, if_true, if_false, Bool.false_eq_true, ↓reduceIte]
    rw [zipL_zip]
    refine compL_map (α := D × D) _ (fun _ => some (.bl true)) trivial ?_ ?_
    · rw [List.nil_append, fm_some]
      exact all_true _ q
    · intro p hp N acc hN
      simp only [dEq_int, dNe_int, dEq_bl, dNe_bl, bodyD, startD, sNext, sBreak, sCont, sDrop, sRet, sRetN, sSet, sPar, sAsg, sSub, sFldD, iSeq, iCall, wEnum, wRange1, wRange2, wz_tup, eComp, eCompR, eComp2, eComp2R, gN, gT, gTcons, gTnil, tTst, tNotD, tAndD, tOrD, eNotV, eAndV, eOrV, eIf, eNil, eCons, eTup, eLst, eRef, eFrz, eCall, eFn, eMkV_eq, eMk, eFld, eSl, oNone, oSome, eOp2, eOp1, eChain, dAdd, dInt, dIntC, dIntB, dSub, dFdiv, dMod, dPow, dLt, dLe, dGt, dGe, dMul, dMulR, dMulT, dIs, dIx, isNon_oI, isNon_non, isNon_int, isNon_bl, isNon_str, isNon_ty, isNon_tup, isNon_lst, isNon_scr, isNon_dic, isNon_obj, isNon_ref, isNon_glb, isNon_exc, isNon_book, eVar, eC, fLen, fAbs, fInt, fMax2, fMin2, fIntsI, fSorted, fTuple, fList, fListR, eLenSet, eSortedSet, eTupRg, eLstRg, eRefRg, rg1, rg2, tYesD, sRaise, sRaiseF, eM, KD.E, wipeD, ins_book, fget_posts, fget_may, mem_Book, it_tup, it_lst, it_scr, it_ref, it_may, it_fil, it_int, it_str, lo_lst, lo_tup, lo_int, lo_ref, li_lst, li_scr, li_tup, li_ref, true_and, List.set_cons_zero, List.set_cons_succ, List.getElem?_cons_zero, List.getElem?_cons_succ, List.map_cons, List.map_nil, List.length_cons, List.length_nil, List.replicate_succ, List.replicate_zero, List.cons_append, List.nil_append, List.zip_cons_cons, List.zip_nil_left, List.foldl_cons, List.foldl_nil, Nat.reduceSub, Nat.reduceAdd, Nat.zero_add, brB_t, brB_f, Bool.not_true, Bool.not_false, if_true, if_false, Bool.false_eq_true, ↓reduceIte]
      exact ⟨_, _, rfl, hz p hp, hN⟩
  · obtain ⟨t1, t2⟩ := isT_lst e1
    obtain ⟨u1, u2⟩ := isT_lst e2
    obtain ⟨a1, a2, a3⟩ := listOf_lst e1
    obtain ⟨b1, b2, b3⟩ := listOf_lst e2
    rw [u1, u2, Bool.or_true]
    simp only [dEq_int, dNe_int, dEq_bl, dNe_bl, bodyD, startD, sNext, sBreak, sCont, sDrop, sRet, sRetN, sSet, sPar, sAsg, sSub, sFldD, iSeq, iCall, wEnum, wRange1, wRange2, wz_tup, eComp, eCompR, eComp2, eComp2R, gN, gT, gTcons, gTnil, tTst, tNotD, tAndD, tOrD, eNotV, eAndV, eOrV, eIf, eNil, eCons, eTup, eLst, eRef, eFrz, eCall, eFn, eMkV_eq, eMk, eFld, eSl, oNone, oSome, eOp2, eOp1, eChain, dAdd, dInt, dIntC, dIntB, dSub, dFdiv, dMod, dPow, dLt, dLe, dGt, dGe, dMul, dMulR, dMulT, dIs, dIx, isNon_oI, isNon_non, isNon_int, isNon_bl, isNon_str, isNon_ty, isNon_tup, isNon_lst, isNon_scr, isNon_dic, isNon_obj, isNon_ref, isNon_glb, isNon_exc, isNon_book, eVar, eC, fLen, fAbs, fInt, fMax2, fMin2, fIntsI, fSorted, fTuple, fList, fListR, eLenSet, eSortedSet, eTupRg, eLstRg, eRefRg, rg1, rg2, tYesD, sRaise, sRaiseF, eM, KD.E, wipeD, ins_book, fget_posts, fget_may, mem_Book, it_tup, it_lst, it_scr, it_ref, it_may, it_fil, it_int, it_str, lo_lst, lo_tup, lo_int, lo_ref, li_lst, li_scr, li_tup, li_ref, true_and, List.set_cons_zero, List.set_cons_succ, List.getElem?_cons_zero, List.getElem?_cons_succ, List.map_cons, List.map_nil, List.length_cons, List.length_nil, List.replicate_succ, List.replicate_zero, List.cons_append, List.nil_append, List.zip_cons_cons, List.zip_nil_left, List.foldl_cons, List.foldl_nil, Nat.reduceSub, Nat.reduceAdd, Nat.zero_add, brB_t, brB_f, Bool.not_true, Bool.not_false, if_true, if_false, Bool.false_eq_true, ↓reduceIte]
    refine hA h ?_
    refine sSeq_i fun N2 hN2 => ?_
    refine sIf_i fun A2 B2 hA2 hB2 => ?_
    simp only [dEq_int, dNe_int, dEq_bl, dNe_bl, bodyD, startD, sNext, sBreak, sCont, sDrop, sRet, sRetN, sSet, sPar, sAsg, sSub, sFldD, iSeq, iCall, wEnum, wRange1, wRange2, wz_tup, eComp, eCompR, eComp2, eComp2R, gN, gT, gTcons, gTnil, tTst, tNotD, tAndD, tOrD, eNotV, eAndV, eOrV, eIf, eNil, eCons, eTup, eLst, eRef, eFrz, eCall, eFn, eMkV_eq, eMk, eFld, eSl, oNone, oSome, eOp2, eOp1, eChain, dAdd, dInt, dIntC, dIntB, dSub, dFdiv, dMod, dPow, dLt, dLe, dGt, dGe, dMul, dMulR, dMulT, dIs, dIx, isNon_oI, isNon_non, isNon_int, isNon_bl, isNon_str, isNon_ty, isNon_tup, isNon_lst, isNon_scr, isNon_dic, isNon_obj, isNon_ref, isNon_glb, isNon_exc, isNon_book, eVar, eC, fLen, fAbs, fInt, fMax2, fMin2, fIntsI, fSorted, fTuple, fList, fListR, eLenSet, eSortedSet, eTupRg, eLstRg, eRefRg, rg1, rg2, tYesD, sRaise, sRaiseF, eM, KD.E, wipeD, ins_book, fget_posts, fget_may, mem_Book, it_tup, it_lst, it_scr, it_ref, it_may, it_fil, it_int, it_str, lo_lst, lo_tup, lo_int, lo_ref, li_lst, li_scr, li_tup, li_ref, true_and, List.set_cons_zero, List.set_cons_succ, List.getElem?_cons_zero, List.getElem?_cons_succ, List.map_cons, List.map_nil, List.length_cons, List.length_nil, List.replicate_succ, List.replicate_zero, List.cons_append, List.nil_append, List.zip_cons_cons, List.zip_nil_left, List.foldl_cons, List.foldl_nil, Nat.reduceSub, Nat.reduceAdd, Nat.zero_add, brB_t, brB_f, Bool.not_true, Bool.not_false, if_true, if_false, Bool.false_eq_true, ↓reduceIte]
    simp only [isi_eq kx (by decide : "tuple" ∈ tyNs), isi_eq ky (by decide : "tuple" ∈ tyNs), isiT_eq kx (by decide : "tuple" ∈ tyNs) (by decide : "list" ∈ tyNs), dEq_int, dNe_int, dEq_bl, dNe_bl, bodyD, startD, sNext, sBreak, sCont, sDrop, sRet, sRetN, sSet, sPar, sAsg, sSub, sFldD, iSeq, iCall, wEnum, wRange1, wRange2, wz_tup, eComp, eCompR, eComp2, eComp2R, gN, gT, gTcons, gTnil, tTst, tNotD, tAndD, tOrD, eNotV, eAndV, eOrV, eIf, eNil, eCons, eTup, eLst, eRef, eFrz, eCall, eFn, eMkV_eq, eMk, eFld, eSl, oNone, oSome, eOp2, eOp1, eChain, dAdd, dInt, dIntC, dIntB, dSub, dFdiv, dMod, dPow, dLt, dLe, dGt, dGe, dMul, dMulR, dMulT, dIs, dIx, isNon_oI, isNon_non, isNon_int, isNon_bl, isNon_str, isNon_ty, isNon_tup, isNon_lst, isNon_scr, isNon_dic, isNon_obj, isNon_ref, isNon_glb, isNon_exc, isNon_book, eVar, eC, fLen, fAbs, fInt, fMax2, fMin2, fIntsI, fSorted, fTuple, fList, fListR, eLenSet, eSortedSet, eTupRg, eLstRg, eRefRg, rg1, rg2, tYesD, sRaise, sRaiseF, eM, KD.E, wipeD, ins_book, fget_posts, fget_may, mem_Book, it_tup, it_lst, it_scr, it_ref, it_may, it_fil, it_int, it_str, lo_lst, lo_tup, lo_int, lo_ref, li_lst, li_scr, li_tup, li_ref, true_and, List.set_cons_zero, List.set_cons_succ, List.getElem?_cons_zero, List.getElem?_cons_succ, List.map_cons, List.map_nil, List.length_cons, List.length_nil, List.replicate_succ, List.replicate_zero, List.cons_append, List.nil_append, List.zip_cons_cons, List.zip_nil_left, List.foldl_cons, List.foldl_nil, Nat.reduceSub, Nat.reduceAdd, Nat.zero_add, brB_t, brB_f, Bool.not_true, Bool.not_false, if_true, if_false, Bool.false_eq_true, ↓reduceIte, t1, t2, u1, u2]
    simp only [beq_self_eq_true, Bool.or_true, dEq_int, dNe_int, dEq_bl, dNe_bl, bodyD, startD, sNext, sBreak, sCont, sDrop, sRet, sRetN, sSet, sPar, sAsg, sSub, sFldD, iSeq, iCall, wEnum, wRange1, wRange2, wz_tup, eComp, eCompR, eComp2, eComp2R, gN, gT, gTcons, gTnil, tTst, tNotD, tAndD, tOrD, eNotV, eAndV, eOrV, eIf, eNil, eCons, eTup, eLst, eRef, eFrz, eCall, eFn, eMkV_eq, eMk, eFld, eSl, oNone, oSome, eOp2, eOp1, eChain, dAdd, dInt, dIntC, dIntB, dSub, dFdiv, dMod, dPow, dLt, dLe, dGt, dGe, dMul, dMulR, dMulT, dIs, dIx, isNon_oI, isNon_non, isNon_int, isNon_bl, isNon_str, isNon_ty, isNon_tup, isNon_lst, isNon_scr, isNon_dic, isNon_obj, isNon_ref, isNon_glb, isNon_exc, isNon_book, eVar, eC, fLen, fAbs, fInt, fMax2, fMin2, fIntsI, fSorted, fTuple, fList, fListR, eLenSet, eSortedSet, eTupRg, eLstRg, eRefRg, rg1, rg2, tYesD, sRaise, sRaiseF, eM, KD.E, wipeD, ins_book, fget_posts, fget_may, mem_Book, it_tup, it_lst, it_scr, it_ref, it_may, it_fil, it_int, it_str, lo_lst, lo_tup, lo_int, lo_ref, li_lst, li_scr, li_tup, li_ref, true_and, List.set_cons_zero, List.set_cons_succ, List.getElem?_cons_zero, List.getElem?_cons_succ, List.map_cons, List.map_nil, List.length_cons, List.length_nil, List.replicate_succ, List.replicate_zero, List.cons_append, List.nil_append, List.zip_cons_cons, List.zip_nil_left, List.foldl_cons, List.foldl_nil, Nat.reduceSub, Nat.reduceAdd, Nat.zero_add, brB_t, brB_f, Bool.not_true, Bool.not_false, if_true, if_false, Bool.false_eq_true, ↓reduceIte]
    refine hB2 h (hN2 _ _ ?_)
    simp only [dEq_int, dNe_int, dEq_bl, dNe_bl, bodyD, startD, sNext, sBreak, sCont, sDrop, sRet, sRetN, sSet, sPar, sAsg, sSub, sFldD, iSeq, iCall, wEnum, wRange1, wRange2, wz_tup, eComp, eCompR, eComp2, eComp2R, gN, gT, gTcons, gTnil, tTst, tNotD, tAndD, tOrD, eNotV, eAndV, eOrV, eIf, eNil, eCons, eTup, eLst, eRef, eFrz, eCall, eFn, eMkV_eq, eMk, eFld, eSl, oNone, oSome, eOp2, eOp1, eChain, dAdd, dInt, dIntC, dIntB, dSub, dFdiv, dMod, dPow, dLt, dLe, dGt, dGe, dMul, dMulR, dMulT, dIs, dIx, isNon_oI, isNon_non, isNon_int, isNon_bl, isNon_str, isNon_ty, isNon_tup, isNon_lst, isNon_scr, isNon_dic, isNon_obj, isNon_ref, isNon_glb, isNon_exc, isNon_book, eVar, eC, fLen, fAbs, fInt, fMax2, fMin2, fIntsI, fSorted, fTuple, fList, fListR, eLenSet, eSortedSet, eTupRg, eLstRg, eRefRg, rg1, rg2, tYesD, sRaise, sRaiseF, eM, KD.E, wipeD, ins_book, fget_posts, fget_may, mem_Book, it_tup, it_lst, it_scr, it_ref, it_may, it_fil, it_int, it_str, lo_lst, lo_tup, lo_int, lo_ref, li_lst, li_scr, li_tup, li_ref, true_and, List.set_cons_zero, List.set_cons_succ, List.getElem?_cons_zero, List.getElem?_cons_succ, List.map_cons, List.map_nil, List.length_cons, List.length_nil, List.replicate_succ, List.replicate_zero, List.cons_append, List.nil_append, List.zip_cons_cons, List.zip_nil_left, List.foldl_cons, List.foldl_nil, Nat.reduceSub, Nat.reduceAdd, Nat.zero_add, brB_t, brB_f, Bool.not_true, Bool.not_false, if_true, if_false, Bool.false_eq_true, ↓reduceIte, a2, b2, hl]
    simp only [beq_self_eq_true, dEq_int, dNe_int, dEq_bl, dNe_bl, bodyD, startD, sNext, sBreak, sCont, sDrop, sRet, sRetN, sSet, sPar, sAsg, sSub, sFldD, iSeq, iCall, wEnum, wRange1, wRange2, wz_tup, eComp, eCompR, eComp2, eComp2R, gN, gT, gTcons, gTnil, tTst, tNotD, tAndD, tOrD, eNotV, eAndV, eOrV, eIf, eNil, eCons, eTup, eLst, eRef, eFrz, eCall, eFn, eMkV_eq, eMk, eFld, eSl, oNone, oSome, eOp2, eOp1, eChain, dAdd, dInt, dIntC, dIntB, dSub, dFdiv, dMod, dPow, dLt, dLe, dGt, dGe, dMul, dMulR, dMulT, dIs, dIx, isNon_oI, isNon_non, isNon_int, isNon_bl, isNon_str, isNon_ty, isNon_tup, isNon_lst, isNon_scr, isNon_dic, isNon_obj, isNon_ref, isNon_glb, isNon_exc, isNon_book, eVar, eC, fLen, fAbs, fInt, fMax2, fMin2, fIntsI, fSorted, fTuple, fList, fListR, eLenSet, eSortedSet, eTupRg, eLstRg, eRefRg, rg1, rg2, tYesD, sRaise, sRaiseF, eM, KD.E, wipeD, ins_book, fget_posts, fget_may, mem_Book, it_tup, it_lst, it_scr, it_ref, it_may, it_fil, it_int, it_str, lo_lst, lo_tup, lo_int, lo_ref, li_lst, li_scr, li_tup, li_ref, true_and, List.set_cons_zero, List.set_cons_succ, List.getElem?_cons_zero, List.getElem?_cons_succ, List.map_cons, List.map_nil, List.length_cons, List.length_nil, List.replicate_succ, List.replicate_zero, List.cons_append, List.nil_append, List.zip_cons_cons, List.zip_nil_left, List.foldl_cons, List.foldl_nil, Nat.reduceSub, Nat.reduceAdd, Nat.zero_add, brB_t, brB_f, Bool.not_true, Bool.not_false, if_true, if_false, Bool.false_eq_true, ↓reduceIte]
    refine zip_lists e1 e2 ?_
    rw [zipL_zip]
    refine compL_map (α := D × D) _ (fun _ => some (.bl true)) ⟨keep_items a2, keep_items b2⟩ ?_ ?_
    · rw [List.nil_append, fm_some]
      exact all_true _ q
    · intro p hp N acc hN
      simp only [dEq_int, dNe_int, dEq_bl, dNe_bl, bodyD, startD, sNext, sBreak, sCont, sDrop, sRet, sRetN, sSet, sPar, sAsg, sSub, sFldD, iSeq, iCall, wEnum, wRange1, wRange2, wz_tup, eComp, eCompR, eComp2, eComp2R, gN, gT, gTcons, gTnil, tTst, tNotD, tAndD, tOrD, eNotV, eAndV, eOrV, eIf, eNil, eCons, eTup, eLst, eRef, eFrz, eCall, eFn, eMkV_eq, eMk, eFld, eSl, oNone, oSome, eOp2, eOp1, eChain, dAdd, dInt, dIntC, dIntB, dSub, dFdiv, dMod, dPow, dLt, dLe, dGt, dGe, dMul, dMulR, dMulT, dIs, dIx, isNon_oI, isNon_non, isNon_int, isNon_bl, isNon_str, isNon_ty, isNon_tup, isNon_lst, isNon_scr, isNon_dic, isNon_obj, isNon_ref, isNon_glb, isNon_exc, isNon_book, eVar, eC, fLen, fAbs, fInt, fMax2, fMin2, fIntsI, fSorted, fTuple, fList, fListR, eLenSet, eSortedSet, eTupRg, eLstRg, eRefRg, rg1, rg2, tYesD, sRaise, sRaiseF, eM, KD.E, wipeD, ins_book, fget_posts, fget_may, mem_Book, it_tup, it_lst, it_scr, it_ref, it_may, it_fil, it_int, it_str, lo_lst, lo_tup, lo_int, lo_ref, li_lst, li_scr, li_tup, li_ref, true_and, List.set_cons_zero, List.set_cons_succ, List.getElem?_cons_zero, List.getElem?_cons_succ, List.map_cons, List.map_nil, List.length_cons, List.length_nil, List.replicate_succ, List.replicate_zero, List.cons_append, List.nil_append, List.zip_cons_cons, List.zip_nil_left, List.foldl_cons, List.foldl_nil, Nat.reduceSub, Nat.reduceAdd, Nat.zero_add, brB_t, brB_f, Bool.not_true, Bool.not_false, if_true, if_false, Bool.false_eq_true, ↓reduceIte]
      exact ⟨_, _, rfl, hz p hp, hN⟩
theorem sp__law_same_zero {ds : List D} {h : DH} {Q : VD} {E : ED} (w : sp__law_sameN 0 ds h Q E) : False := by
  obtain ⟨x, y, _, s, _⟩ := w
  exact s
/-! _law_draw -/
def t__law_draw : TSD :=
    (sSeq (sIf (tAndD (tTst (eOp2 dEq (eOp2 dIx (eVar 0) (eC (.int 2))) (eC (.int 0)))) (tTst (eOp2 dLt (eOp2 dIx (eVar 0) (eC (.int 1))) (eCall fLen (eCons (eOp2 dIx (eVar 0) (eC (.int 0))) eNil))))) (sSeq (sSet 3 (eOp2 dIx (eOp2 dIx (eVar 0) (eC (.int 0))) (eOp2 dIx (eVar 0) (eC (.int 1)))))
    (sSeq (sSub (eVar 0) (eC (.int 1)) (eOp2 dAdd (eOp2 dIx (eVar 0) (eC (.int 1))) (eC (.int 1))))
    (sSeq (sSub (eVar 0) (eC (.int 3)) (eOp2 dMod (eCall fInt (eCons (eOp2 dAdd (eOp2 dAdd (eOp2 dMul (eOp2 dIx (eVar 0) (eC (.int 3))) (eC (.int 69621))) (eOp2 dMul (eVar 3) (eC (.int 40692)))) (eC (.int 37))) eNil)) (eC (.int 2147483629))))
    (sIf (tTst (eOp2 dGe (eVar 3) (eOp2 dPow (eC (.int 10)) (eC (.int 18))))) (sSub (eVar 0) (eC (.int 2)) (eVar 3)) sNext)))) sNext)
    (sSeq (sIf (tTst (eOp2 dGt (eOp2 dIx (eVar 0) (eC (.int 2))) (eC (.int 0)))) (sSeq (sSet 4 (eOp2 dMod (eCall fInt (eCons (eOp2 dIx (eVar 0) (eC (.int 2))) eNil)) (eVar 1)))
    (sSeq (sSub (eVar 0) (eC (.int 2)) (eOp2 dFdiv (eOp2 dIx (eVar 0) (eC (.int 2))) (eVar 1)))
    (sRet (eVar 4)))) sNext)
    (sSeq (sSub (eVar 0) (eC (.int 4)) (eOp2 dAdd (eOp2 dIx (eVar 0) (eC (.int 4))) (eC (.int 1))))
    (sSeq (sSet 2 (eOp2 dMod (eCall fInt (eCons (eOp2 dMul (eCall fInt (eCons (eOp2 dAdd (eOp2 dIx (eVar 0) (eC (.int 3))) (eOp2 dMul (eC (.int 7919)) (eOp2 dIx (eVar 0) (eC (.int 4))))) eNil)) (eC (.int 48271))) eNil)) (eC (.int 2147483647))))
    (sSeq (sSet 2 (eOp2 dMod (eCall fInt (eCons (eOp2 dMul (eVar 2) (eOp2 dAdd (eOp2 dFdiv (eVar 2) (eC (.int 1009))) (eC (.int 69621)))) eNil)) (eC (.int 2147483647))))
    (sSeq (sSet 2 (eOp2 dMod (eCall fInt (eCons (eOp2 dMul (eVar 2) (eOp2 dAdd (eOp2 dFdiv (eVar 2) (eC (.int 2003))) (eC (.int 40014)))) eNil)) (eC (.int 2147483563))))
    (sRet (eOp2 dMod (eCall fInt (eCons (eOp2 dFdiv (eVar 2) (eC (.int 16))) eNil)) (eVar 1)))))))))
/-- the hand at n was drawn from, all else stands -/
def Drawn (h h' : DH) (n : Nat) : Prop := h'.length = h.length ∧ (∀ j, j ≠ n → h'[j]? = h[j]?) ∧ IsHand h' n
theorem Drawn.refl {h : DH} {n : Nat} (i : IsHand h n) : Drawn h h n := ⟨rfl, fun _ _ => rfl, i⟩
theorem Drawn.trans {h h' h'' : DH} {n : Nat} (a : Drawn h h' n) (b : Drawn h' h'' n) : Drawn h h'' n := ⟨b.1.trans a.1, fun j hj => (b.2.1 j hj).trans (a.2.1 j hj), b.2.2⟩
theorem Drawn.set {h : DH} {n : Nat} {o : O} (i : IsHand h n) (j : IsHand (h.set n o) n) : Drawn h (h.set n o) n := ⟨List.length_set, fun k hk => by rw [List.getElem?_set_ne (Ne.symm hk)], j⟩
theorem IsHand.lt {h : DH} {n : Nat} (i : IsHand h n) : n < h.length := by
  obtain ⟨_, _, _, _, _, e, _⟩ := i
  exact (List.getElem?_eq_some_iff.mp e).1
theorem IsHand.app {h t : DH} {n : Nat} (i : IsHand h n) : IsHand (h ++ t) n := by
  have hn := i.lt
  obtain ⟨cells, a, b, c, d, e, ha⟩ := i
  exact ⟨cells, a, b, c, d, by rw [gl hn]; exact e, ha⟩
theorem Drawn.app {h t h' : DH} {n : Nat} (i : IsHand h n) (d : Drawn (h ++ t) h' n) : ∃ h0, h' = h0 ++ t ∧ Drawn h h0 n := by
  obtain ⟨l, k, j⟩ := d
  have hn := i.lt
  have l' : h'.length = h.length + t.length := by rw [l, List.length_append]
  refine ⟨h'.take h.length, ?_, by rw [List.length_take]; omega, fun m hm => ?_, ?_⟩
  · have e : h'.drop h.length = t := by
      apply List.ext_getElem?
      intro m
      rw [List.getElem?_drop, k (h.length + m) (by omega), ga m rfl]
    conv => lhs; rw [← List.take_append_drop h.length h', e]
  · by_cases hl : m < h.length
    · rw [List.getElem?_take_of_lt hl, k m hm, gl hl]
    · rw [List.getElem?_eq_none (by rw [List.length_take]; omega), List.getElem?_eq_none (by omega)]
  · obtain ⟨cells, a, b, c, d, e, ha⟩ := j
    exact ⟨cells, a, b, c, d, by rw [List.getElem?_take_of_lt hn]; exact e, ha⟩
theorem Drawn.wf {h h' : DH} {n : Nat} (w : WF h) (d : Drawn h h' n) : ∀ o ∈ h', nrO h.length o = true := by
  intro o ho
  obtain ⟨m, hm⟩ := List.getElem?_of_mem ho
  by_cases e : m = n
  · subst e
    obtain ⟨cells, a, b, c, d, e, ha⟩ := d.2.2
    rw [e] at hm
    cases hm
    simp only [nrO, nrDs, nrD, Bool.and_true, Bool.true_and]
    exact nrDs_ints cells
  · rw [d.2.1 m e] at hm
    exact w o (List.mem_of_getElem? hm)
theorem Drawn.take {h h0 t : DH} {n : Nat} (w : WF h) (d : Drawn h h0 n) : ((h0 ++ t).take h.length).all (nrO h.length) = true ∧ (h0 ++ t).take h.length = h0 := by
  have e : (h0 ++ t).take h.length = h0 := by rw [← d.1, List.take_left]
  rw [e]
  exact ⟨List.all_eq_true.mpr (d.wf w), rfl⟩
theorem items_drawn {h h' : DH} {n : Nat} {x : D} (d : Drawn h h' n) (hx : x ≠ .ref n) : itemsOf x h' = itemsOf x h := by
  unfold itemsOf
  cases x with
  | ref m =>
    have : m ≠ n := fun e => hx (by rw [e])
    simp only [d.2.1 m this]
  | _ => rfl
def sp__law_draw : SpD := fun ds h Q _ => ∃ (n : Nat) (many : Int), ds = [.ref n, .int many] ∧ IsHand h n ∧ 0 < many ∧ many < 1073741824 ∧ ∀ (k : Int) (h' : DH), 0 ≤ k → k < many → Drawn h h' n → Q (.int k) h'
theorem handIx {x0 x1 x2 x3 x4 : D} : atI [x0, x1, x2, x3, x4] 0 = some x0 ∧ atI [x0, x1, x2, x3, x4] 1 = some x1 ∧ atI [x0, x1, x2, x3, x4] 2 = some x2 ∧ atI [x0, x1, x2, x3, x4] 3 = some x3 ∧ atI [x0, x1, x2, x3, x4] 4 = some x4 :=
  ⟨atI_nat (by decide) rfl, atI_nat (by decide) rfl, atI_nat (by decide) rfl, atI_nat (by decide) rfl, atI_nat (by decide) rfl⟩
theorem handPut {x0 x1 x2 x3 x4 d : D} {k : O → Prop} : (put (.lst [x0, x1, x2, x3, x4]) (.int 1) d k = k (.lst [x0, d, x2, x3, x4])) ∧ (put (.lst [x0, x1, x2, x3, x4]) (.int 2) d k = k (.lst [x0, x1, d, x3, x4])) ∧
    (put (.lst [x0, x1, x2, x3, x4]) (.int 3) d k = k (.lst [x0, x1, x2, d, x4])) ∧ (put (.lst [x0, x1, x2, x3, x4]) (.int 4) d k = k (.lst [x0, x1, x2, x3, d])) := ⟨rfl, rfl, rfl, rfl⟩
theorem pl__law_draw (ds : List D) (h : DH) (Q : VD) (E : ED) (w : sp__law_draw ds h Q E) : bodyD 5 t__law_draw ds h Q E := by
  obtain ⟨n, many, rfl, ⟨cells, a, b, c, d, hn, ha⟩, h0, h1, q⟩ := w
  unfold t__law_draw bodyD
  refine sSeq_inv (fun sd h' => (∃ x y z, sd = [some (.ref n), some (.int many), x, y, z]) ∧ h'.length = h.length ∧ (∀ j, j ≠ n → h'[j]? = h[j]?) ∧ IsHand h' n) (fun N hN => ?_) ?_
  · refine sIf_i fun A B hA hB => ?_
    have hB' : B h := hB h (hN _ _ ⟨⟨_, _, _, rfl⟩, rfl, fun _ _ => rfl, cells, a, b, c, d, hn, ha⟩)
    have hI := fun x0 x1 x2 x3 x4 => @handIx x0 x1 x2 x3 x4
    simp only [dEq_int, dNe_int, dEq_bl, dNe_bl, bodyD, startD, sNext, sBreak, sCont, sDrop, sRet, sRetN, sSet, sPar, sAsg, sSub, sFldD, iSeq, iCall, wEnum, wRange1, wRange2, wz_tup, eComp, eCompR, eComp2, eComp2R, gN, gT, gTcons, gTnil, tTst, tNotD, tAndD, tOrD, eNotV, eAndV, eOrV, eIf, eNil, eCons, eTup, eLst, eRef, eFrz, eCall, eFn, eMkV_eq, eMk, eFld, eSl, oNone, oSome, eOp2, eOp1, eChain, dAdd, dInt, dIntC, dIntB, dSub, dFdiv, dMod, dPow, dLt, dLe, dGt, dGe, dMul, dMulR, dMulT, dIs, dIx, isNon_oI, isNon_non, isNon_int, isNon_bl, isNon_str, isNon_ty, isNon_tup, isNon_lst, isNon_scr, isNon_dic, isNon_obj, isNon_ref, isNon_glb, isNon_exc, isNon_book, eVar, eC, fLen, fAbs, fInt, fMax2, fMin2, fIntsI, fSorted, fTuple, fList, fListR, eLenSet, eSortedSet, eTupRg, eLstRg, eRefRg, rg1, rg2, tYesD, sRaise, sRaiseF, eM, KD.E, wipeD, ins_book, fget_posts, fget_may, mem_Book, it_tup, it_lst, it_scr, it_ref, it_may, it_fil, it_int, it_str, lo_lst, lo_tup, lo_int, lo_ref, li_lst, li_scr, li_tup, li_ref, true_and, List.set_cons_zero, List.set_cons_succ, List.getElem?_cons_zero, List.getElem?_cons_succ, List.map_cons, List.map_nil, List.length_cons, List.length_nil, List.replicate_succ, List.replicate_zero, List.cons_append, List.nil_append, List.zip_cons_cons, List.zip_nil_left, List.foldl_cons, List.foldl_nil, Nat.reduceSub, Nat.reduceAdd, Nat.zero_add, brB_t, brB_f, Bool.not_true, Bool.not_false, if_true, if_false, Bool.false_eq_true, ↓reduceIte, hn, hI]
    split
    · simp only [dEq_int, dNe_int, dEq_bl, dNe_bl, bodyD, startD, sNext, sBreak, sCont, sDrop, sRet, sRetN, sSet, sPar, sAsg, sSub, sFldD, iSeq, iCall, wEnum, wRange1, wRange2, wz_tup, eComp, eCompR, eComp2, eComp2R, gN, gT, gTcons, gTnil, tTst, tNotD, tAndD, tOrD, eNotV, eAndV, eOrV, eIf, eNil, eCons, eTup, eLst, eRef, eFrz, eCall, eFn, eMkV_eq, eMk, eFld, eSl, oNone, oSome, eOp2, eOp1, eChain, dAdd, dInt, dIntC, dIntB, dSub, dFdiv, dMod, dPow, dLt, dLe, dGt, dGe, dMul, dMulR, dMulT, dIs, dIx, isNon_oI, isNon_non, isNon_int, isNon_bl, isNon_str, isNon_ty, isNon_tup, isNon_lst, isNon_scr, isNon_dic, isNon_obj, isNon_ref, isNon_glb, isNon_exc, isNon_book, eVar, eC, fLen, fAbs, fInt, fMax2, fMin2, fIntsI, fSorted, fTuple, fList, fListR, eLenSet, eSortedSet, eTupRg, eLstRg, eRefRg, rg1, rg2, tYesD, sRaise, sRaiseF, eM, KD.E, wipeD, ins_book, fget_posts, fget_may, mem_Book, it_tup, it_lst, it_scr, it_ref, it_may, it_fil, it_int, it_str, lo_lst, lo_tup, lo_int, lo_ref, li_lst, li_scr, li_tup, li_ref, true_and, List.set_cons_zero, List.set_cons_succ, List.getElem?_cons_zero, List.getElem?_cons_succ, List.map_cons, List.map_nil, List.length_cons, List.length_nil, List.replicate_succ, List.replicate_zero, List.cons_append, List.nil_append, List.zip_cons_cons, List.zip_nil_left, List.foldl_cons, List.foldl_nil, Nat.reduceSub, Nat.reduceAdd, Nat.zero_add, brB_t, brB_f, Bool.not_true, Bool.not_false, if_true, if_false, Bool.false_eq_true, ↓reduceIte, List.length_map]
      refine brB_i (fun h2 => ?_) fun _ => hB'
      · refine hA h ?_
        have ha2 : a < cells.length := by simpa using h2
        refine sSeq_i fun N2 hN2 => ?_
        have hc : atI (cells.map D.int) a = some (.int (cells[a.toNat]'(by omega))) := atI_nat ha (by rw [List.getElem?_map, List.getElem?_eq_getElem (by omega)]; rfl)
        simp only [dEq_int, dNe_int, dEq_bl, dNe_bl, bodyD, startD, sNext, sBreak, sCont, sDrop, sRet, sRetN, sSet, sPar, sAsg, sSub, sFldD, iSeq, iCall, wEnum, wRange1, wRange2, wz_tup, eComp, eCompR, eComp2, eComp2R, gN, gT, gTcons, gTnil, tTst, tNotD, tAndD, tOrD, eNotV, eAndV, eOrV, eIf, eNil, eCons, eTup, eLst, eRef, eFrz, eCall, eFn, eMkV_eq, eMk, eFld, eSl, oNone, oSome, eOp2, eOp1, eChain, dAdd, dInt, dIntC, dIntB, dSub, dFdiv, dMod, dPow, dLt, dLe, dGt, dGe, dMul, dMulR, dMulT, dIs, dIx, isNon_oI, isNon_non, isNon_int, isNon_bl, isNon_str, isNon_ty, isNon_tup, isNon_lst, isNon_scr, isNon_dic, isNon_obj, isNon_ref, isNon_glb, isNon_exc, isNon_book, eVar, eC, fLen, fAbs, fInt, fMax2, fMin2, fIntsI, fSorted, fTuple, fList, fListR, eLenSet, eSortedSet, eTupRg, eLstRg, eRefRg, rg1, rg2, tYesD, sRaise, sRaiseF, eM, KD.E, wipeD, ins_book, fget_posts, fget_may, mem_Book, it_tup, it_lst, it_scr, it_ref, it_may, it_fil, it_int, it_str, lo_lst, lo_tup, lo_int, lo_ref, li_lst, li_scr, li_tup, li_ref, true_and, List.set_cons_zero, List.set_cons_succ, List.getElem?_cons_zero, List.getElem?_cons_succ, List.map_cons, List.map_nil, List.length_cons, List.length_nil, List.replicate_succ, List.replicate_zero, List.cons_append, List.nil_append, List.zip_cons_cons, List.zip_nil_left, List.foldl_cons, List.foldl_nil, Nat.reduceSub, Nat.reduceAdd, Nat.zero_add, brB_t, brB_f, Bool.not_true, Bool.not_false, if_true, if_false, Bool.false_eq_true, ↓reduceIte, hn, hI, hc]
        refine hN2 _ _ ?_
        refine sSeq_i fun N3 hN3 => ?_
        simp only [dEq_int, dNe_int, dEq_bl, dNe_bl, bodyD, startD, sNext, sBreak, sCont, sDrop, sRet, sRetN, sSet, sPar, sAsg, sSub, sFldD, iSeq, iCall, wEnum, wRange1, wRange2, wz_tup, eComp, eCompR, eComp2, eComp2R, gN, gT, gTcons, gTnil, tTst, tNotD, tAndD, tOrD, eNotV, eAndV, eOrV, eIf, eNil, eCons, eTup, eLst, eRef, eFrz, eCall, eFn, eMkV_eq, eMk, eFld, eSl, oNone, oSome, eOp2, eOp1, eChain, dAdd, dInt, dIntC, dIntB, dSub, dFdiv, dMod, dPow, dLt, dLe, dGt, dGe, dMul, dMulR, dMulT, dIs, dIx, isNon_oI, isNon_non, isNon_int, isNon_bl, isNon_str, isNon_ty, isNon_tup, isNon_lst, isNon_scr, isNon_dic, isNon_obj, isNon_ref, isNon_glb, isNon_exc, isNon_book, eVar, eC, fLen, fAbs, fInt, fMax2, fMin2, fIntsI, fSorted, fTuple, fList, fListR, eLenSet, eSortedSet, eTupRg, eLstRg, eRefRg, rg1, rg2, tYesD, sRaise, sRaiseF, eM, KD.E, wipeD, ins_book, fget_posts, fget_may, mem_Book, it_tup, it_lst, it_scr, it_ref, it_may, it_fil, it_int, it_str, lo_lst, lo_tup, lo_int, lo_ref, li_lst, li_scr, li_tup, li_ref, true_and, List.set_cons_zero, List.set_cons_succ, List.getElem?_cons_zero, List.getElem?_cons_succ, List.map_cons, List.map_nil, List.length_cons, List.length_nil, List.replicate_succ, List.replicate_zero, List.cons_append, List.nil_append, List.zip_cons_cons, List.zip_nil_left, List.foldl_cons, List.foldl_nil, Nat.reduceSub, Nat.reduceAdd, Nat.zero_add, brB_t, brB_f, Bool.not_true, Bool.not_false, if_true, if_false, Bool.false_eq_true, ↓reduceIte, hn, hI, handPut]
        refine hN3 _ _ ?_
        refine sSeq_i fun N4 hN4 => ?_
        simp only [dEq_int, dNe_int, dEq_bl, dNe_bl, bodyD, startD, sNext, sBreak, sCont, sDrop, sRet, sRetN, sSet, sPar, sAsg, sSub, sFldD, iSeq, iCall, wEnum, wRange1, wRange2, wz_tup, eComp, eCompR, eComp2, eComp2R, gN, gT, gTcons, gTnil, tTst, tNotD, tAndD, tOrD, eNotV, eAndV, eOrV, eIf, eNil, eCons, eTup, eLst, eRef, eFrz, eCall, eFn, eMkV_eq, eMk, eFld, eSl, oNone, oSome, eOp2, eOp1, eChain, dAdd, dInt, dIntC, dIntB, dSub, dFdiv, dMod, dPow, dLt, dLe, dGt, dGe, dMul, dMulR, dMulT, dIs, dIx, isNon_oI, isNon_non, isNon_int, isNon_bl, isNon_str, isNon_ty, isNon_tup, isNon_lst, isNon_scr, isNon_dic, isNon_obj, isNon_ref, isNon_glb, isNon_exc, isNon_book, eVar, eC, fLen, fAbs, fInt, fMax2, fMin2, fIntsI, fSorted, fTuple, fList, fListR, eLenSet, eSortedSet, eTupRg, eLstRg, eRefRg, rg1, rg2, tYesD, sRaise, sRaiseF, eM, KD.E, wipeD, ins_book, fget_posts, fget_may, mem_Book, it_tup, it_lst, it_scr, it_ref, it_may, it_fil, it_int, it_str, lo_lst, lo_tup, lo_int, lo_ref, li_lst, li_scr, li_tup, li_ref, true_and, List.set_cons_zero, List.set_cons_succ, List.getElem?_cons_zero, List.getElem?_cons_succ, List.map_cons, List.map_nil, List.length_cons, List.length_nil, List.replicate_succ, List.replicate_zero, List.cons_append, List.nil_append, List.zip_cons_cons, List.zip_nil_left, List.foldl_cons, List.foldl_nil, Nat.reduceSub, Nat.reduceAdd, Nat.zero_add, brB_t, brB_f, Bool.not_true, Bool.not_false, if_true, if_false, Bool.false_eq_true, ↓reduceIte, get_set_self hn, hI, handPut]
        refine ⟨.inr ⟨by decide, by decide⟩, .inr ⟨by decide, by decide⟩, by decide, ?_⟩
        refine hN4 _ _ ?_
        have g3 := get_set_self (o := O.lst [D.lst (List.map D.int cells), D.int (a + 1), D.int b, D.int ((c * 69621 + cells[a.toNat] * 40692 + 37).fmod 2147483629), D.int d]) hn
        rw [set_set']
        refine sIf_i fun A2 B2 hA2 hB2 => ?_
        simp only [dEq_int, dNe_int, dEq_bl, dNe_bl, bodyD, startD, sNext, sBreak, sCont, sDrop, sRet, sRetN, sSet, sPar, sAsg, sSub, sFldD, iSeq, iCall, wEnum, wRange1, wRange2, wz_tup, eComp, eCompR, eComp2, eComp2R, gN, gT, gTcons, gTnil, tTst, tNotD, tAndD, tOrD, eNotV, eAndV, eOrV, eIf, eNil, eCons, eTup, eLst, eRef, eFrz, eCall, eFn, eMkV_eq, eMk, eFld, eSl, oNone, oSome, eOp2, eOp1, eChain, dAdd, dInt, dIntC, dIntB, dSub, dFdiv, dMod, dPow, dLt, dLe, dGt, dGe, dMul, dMulR, dMulT, dIs, dIx, isNon_oI, isNon_non, isNon_int, isNon_bl, isNon_str, isNon_ty, isNon_tup, isNon_lst, isNon_scr, isNon_dic, isNon_obj, isNon_ref, isNon_glb, isNon_exc, isNon_book, eVar, eC, fLen, fAbs, fInt, fMax2, fMin2, fIntsI, fSorted, fTuple, fList, fListR, eLenSet, eSortedSet, eTupRg, eLstRg, eRefRg, rg1, rg2, tYesD, sRaise, sRaiseF, eM, KD.E, wipeD, ins_book, fget_posts, fget_may, mem_Book, it_tup, it_lst, it_scr, it_ref, it_may, it_fil, it_int, it_str, lo_lst, lo_tup, lo_int, lo_ref, li_lst, li_scr, li_tup, li_ref, true_and, List.set_cons_zero, List.set_cons_succ, List.getElem?_cons_zero, List.getElem?_cons_succ, List.map_cons, List.map_nil, List.length_cons, List.length_nil, List.replicate_succ, List.replicate_zero, List.cons_append, List.nil_append, List.zip_cons_cons, List.zip_nil_left, List.foldl_cons, List.foldl_nil, Nat.reduceSub, Nat.reduceAdd, Nat.zero_add, brB_t, brB_f, Bool.not_true, Bool.not_false, if_true, if_false, Bool.false_eq_true, ↓reduceIte]
        refine ⟨⟨by decide, by decide, by decide⟩, brB_i (fun _ => ?_) fun _ => ?_⟩
        · refine hA2 _ ?_
          simp only [dEq_int, dNe_int, dEq_bl, dNe_bl, bodyD, startD, sNext, sBreak, sCont, sDrop, sRet, sRetN, sSet, sPar, sAsg, sSub, sFldD, iSeq, iCall, wEnum, wRange1, wRange2, wz_tup, eComp, eCompR, eComp2, eComp2R, gN, gT, gTcons, gTnil, tTst, tNotD, tAndD, tOrD, eNotV, eAndV, eOrV, eIf, eNil, eCons, eTup, eLst, eRef, eFrz, eCall, eFn, eMkV_eq, eMk, eFld, eSl, oNone, oSome, eOp2, eOp1, eChain, dAdd, dInt, dIntC, dIntB, dSub, dFdiv, dMod, dPow, dLt, dLe, dGt, dGe, dMul, dMulR, dMulT, dIs, dIx, isNon_oI, isNon_non, isNon_int, isNon_bl, isNon_str, isNon_ty, isNon_tup, isNon_lst, isNon_scr, isNon_dic, isNon_obj, isNon_ref, isNon_glb, isNon_exc, isNon_book, eVar, eC, fLen, fAbs, fInt, fMax2, fMin2, fIntsI, fSorted, fTuple, fList, fListR, eLenSet, eSortedSet, eTupRg, eLstRg, eRefRg, rg1, rg2, tYesD, sRaise, sRaiseF, eM, KD.E, wipeD, ins_book, fget_posts, fget_may, mem_Book, it_tup, it_lst, it_scr, it_ref, it_may, it_fil, it_int, it_str, lo_lst, lo_tup, lo_int, lo_ref, li_lst, li_scr, li_tup, li_ref, true_and, List.set_cons_zero, List.set_cons_succ, List.getElem?_cons_zero, List.getElem?_cons_succ, List.map_cons, List.map_nil, List.length_cons, List.length_nil, List.replicate_succ, List.replicate_zero, List.cons_append, List.nil_append, List.zip_cons_cons, List.zip_nil_left, List.foldl_cons, List.foldl_nil, Nat.reduceSub, Nat.reduceAdd, Nat.zero_add, brB_t, brB_f, Bool.not_true, Bool.not_false, if_true, if_false, Bool.false_eq_true, ↓reduceIte, g3, handPut]
          refine hN _ _ ⟨⟨_, _, _, rfl⟩, by simp, fun j hj => ?_, cells, a + 1, _, _, d, by rw [set_set']; exact get_set_self hn, by omega⟩
          rw [set_set', List.getElem?_set_ne (Ne.symm hj)]
        · refine hB2 _ (hN _ _ ⟨⟨_, _, _, rfl⟩, by simp, fun j hj => ?_, cells, a + 1, _, _, d, g3, by omega⟩)
          rw [List.getElem?_set_ne (Ne.symm hj)]
    · exact hB'
  · clear hn ha
    rintro sd h' ⟨⟨x, y, z, rfl⟩, hl, hj, cells, a, b, c, d, hn, ha⟩
    have hI := fun x0 x1 x2 x3 x4 => @handIx x0 x1 x2 x3 x4
    have hd : ∀ {x2 x3 x4 : Int} {h'' : DH}, h''.length = h'.length → (∀ j, j ≠ n → h''[j]? = h'[j]?) → h''[n]? = some (.lst [.lst (cells.map .int), .int a, .int x2, .int x3, .int x4]) → Drawn h h'' n := fun l1 l2 l3 =>
      ⟨l1.trans hl, fun j hj' => (l2 j hj').trans (hj j hj'), cells, a, _, _, _, l3, ha⟩
    refine sSeq_i fun N hN => ?_
    refine sIf_i fun A B hA hB => ?_
    simp only [dEq_int, dNe_int, dEq_bl, dNe_bl, bodyD, startD, sNext, sBreak, sCont, sDrop, sRet, sRetN, sSet, sPar, sAsg, sSub, sFldD, iSeq, iCall, wEnum, wRange1, wRange2, wz_tup, eComp, eCompR, eComp2, eComp2R, gN, gT, gTcons, gTnil, tTst, tNotD, tAndD, tOrD, eNotV, eAndV, eOrV, eIf, eNil, eCons, eTup, eLst, eRef, eFrz, eCall, eFn, eMkV_eq, eMk, eFld, eSl, oNone, oSome, eOp2, eOp1, eChain, dAdd, dInt, dIntC, dIntB, dSub, dFdiv, dMod, dPow, dLt, dLe, dGt, dGe, dMul, dMulR, dMulT, dIs, dIx, isNon_oI, isNon_non, isNon_int, isNon_bl, isNon_str, isNon_ty, isNon_tup, isNon_lst, isNon_scr, isNon_dic, isNon_obj, isNon_ref, isNon_glb, isNon_exc, isNon_book, eVar, eC, fLen, fAbs, fInt, fMax2, fMin2, fIntsI, fSorted, fTuple, fList, fListR, eLenSet, eSortedSet, eTupRg, eLstRg, eRefRg, rg1, rg2, tYesD, sRaise, sRaiseF, eM, KD.E, wipeD, ins_book, fget_posts, fget_may, mem_Book, it_tup, it_lst, it_scr, it_ref, it_may, it_fil, it_int, it_str, lo_lst, lo_tup, lo_int, lo_ref, li_lst, li_scr, li_tup, li_ref, true_and, List.set_cons_zero, List.set_cons_succ, List.getElem?_cons_zero, List.getElem?_cons_succ, List.map_cons, List.map_nil, List.length_cons, List.length_nil, List.replicate_succ, List.replicate_zero, List.cons_append, List.nil_append, List.zip_cons_cons, List.zip_nil_left, List.foldl_cons, List.foldl_nil, Nat.reduceSub, Nat.reduceAdd, Nat.zero_add, brB_t, brB_f, Bool.not_true, Bool.not_false, if_true, if_false, Bool.false_eq_true, ↓reduceIte, hn, hI]
    refine brB_i (fun _ => ?_) fun _ => ?_
    · refine hA _ ?_
      refine sSeq_i fun N2 hN2 => ?_
      simp only [dEq_int, dNe_int, dEq_bl, dNe_bl, bodyD, startD, sNext, sBreak, sCont, sDrop, sRet, sRetN, sSet, sPar, sAsg, sSub, sFldD, iSeq, iCall, wEnum, wRange1, wRange2, wz_tup, eComp, eCompR, eComp2, eComp2R, gN, gT, gTcons, gTnil, tTst, tNotD, tAndD, tOrD, eNotV, eAndV, eOrV, eIf, eNil, eCons, eTup, eLst, eRef, eFrz, eCall, eFn, eMkV_eq, eMk, eFld, eSl, oNone, oSome, eOp2, eOp1, eChain, dAdd, dInt, dIntC, dIntB, dSub, dFdiv, dMod, dPow, dLt, dLe, dGt, dGe, dMul, dMulR, dMulT, dIs, dIx, isNon_oI, isNon_non, isNon_int, isNon_bl, isNon_str, isNon_ty, isNon_tup, isNon_lst, isNon_scr, isNon_dic, isNon_obj, isNon_ref, isNon_glb, isNon_exc, isNon_book, eVar, eC, fLen, fAbs, fInt, fMax2, fMin2, fIntsI, fSorted, fTuple, fList, fListR, eLenSet, eSortedSet, eTupRg, eLstRg, eRefRg, rg1, rg2, tYesD, sRaise, sRaiseF, eM, KD.E, wipeD, ins_book, fget_posts, fget_may, mem_Book, it_tup, it_lst, it_scr, it_ref, it_may, it_fil, it_int, it_str, lo_lst, lo_tup, lo_int, lo_ref, li_lst, li_scr, li_tup, li_ref, true_and, List.set_cons_zero, List.set_cons_succ, List.getElem?_cons_zero, List.getElem?_cons_succ, List.map_cons, List.map_nil, List.length_cons, List.length_nil, List.replicate_succ, List.replicate_zero, List.cons_append, List.nil_append, List.zip_cons_cons, List.zip_nil_left, List.foldl_cons, List.foldl_nil, Nat.reduceSub, Nat.reduceAdd, Nat.zero_add, brB_t, brB_f, Bool.not_true, Bool.not_false, if_true, if_false, Bool.false_eq_true, ↓reduceIte, hn, hI]
      refine ⟨by omega, hN2 _ _ ?_⟩
      refine sSeq_i fun N3 hN3 => ?_
      simp only [dEq_int, dNe_int, dEq_bl, dNe_bl, bodyD, startD, sNext, sBreak, sCont, sDrop, sRet, sRetN, sSet, sPar, sAsg, sSub, sFldD, iSeq, iCall, wEnum, wRange1, wRange2, wz_tup, eComp, eCompR, eComp2, eComp2R, gN, gT, gTcons, gTnil, tTst, tNotD, tAndD, tOrD, eNotV, eAndV, eOrV, eIf, eNil, eCons, eTup, eLst, eRef, eFrz, eCall, eFn, eMkV_eq, eMk, eFld, eSl, oNone, oSome, eOp2, eOp1, eChain, dAdd, dInt, dIntC, dIntB, dSub, dFdiv, dMod, dPow, dLt, dLe, dGt, dGe, dMul, dMulR, dMulT, dIs, dIx, isNon_oI, isNon_non, isNon_int, isNon_bl, isNon_str, isNon_ty, isNon_tup, isNon_lst, isNon_scr, isNon_dic, isNon_obj, isNon_ref, isNon_glb, isNon_exc, isNon_book, eVar, eC, fLen, fAbs, fInt, fMax2, fMin2, fIntsI, fSorted, fTuple, fList, fListR, eLenSet, eSortedSet, eTupRg, eLstRg, eRefRg, rg1, rg2, tYesD, sRaise, sRaiseF, eM, KD.E, wipeD, ins_book, fget_posts, fget_may, mem_Book, it_tup, it_lst, it_scr, it_ref, it_may, it_fil, it_int, it_str, lo_lst, lo_tup, lo_int, lo_ref, li_lst, li_scr, li_tup, li_ref, true_and, List.set_cons_zero, List.set_cons_succ, List.getElem?_cons_zero, List.getElem?_cons_succ, List.map_cons, List.map_nil, List.length_cons, List.length_nil, List.replicate_succ, List.replicate_zero, List.cons_append, List.nil_append, List.zip_cons_cons, List.zip_nil_left, List.foldl_cons, List.foldl_nil, Nat.reduceSub, Nat.reduceAdd, Nat.zero_add, brB_t, brB_f, Bool.not_true, Bool.not_false, if_true, if_false, Bool.false_eq_true, ↓reduceIte, hn, hI, handPut]
      refine ⟨⟨by omega, by omega⟩, hN3 _ _ ?_⟩
      simp only [dEq_int, dNe_int, dEq_bl, dNe_bl, bodyD, startD, sNext, sBreak, sCont, sDrop, sRet, sRetN, sSet, sPar, sAsg, sSub, sFldD, iSeq, iCall, wEnum, wRange1, wRange2, wz_tup, eComp, eCompR, eComp2, eComp2R, gN, gT, gTcons, gTnil, tTst, tNotD, tAndD, tOrD, eNotV, eAndV, eOrV, eIf, eNil, eCons, eTup, eLst, eRef, eFrz, eCall, eFn, eMkV_eq, eMk, eFld, eSl, oNone, oSome, eOp2, eOp1, eChain, dAdd, dInt, dIntC, dIntB, dSub, dFdiv, dMod, dPow, dLt, dLe, dGt, dGe, dMul, dMulR, dMulT, dIs, dIx, isNon_oI, isNon_non, isNon_int, isNon_bl, isNon_str, isNon_ty, isNon_tup, isNon_lst, isNon_scr, isNon_dic, isNon_obj, isNon_ref, isNon_glb, isNon_exc, isNon_book, eVar, eC, fLen, fAbs, fInt, fMax2, fMin2, fIntsI, fSorted, fTuple, fList, fListR, eLenSet, eSortedSet, eTupRg, eLstRg, eRefRg, rg1, rg2, tYesD, sRaise, sRaiseF, eM, KD.E, wipeD, ins_book, fget_posts, fget_may, mem_Book, it_tup, it_lst, it_scr, it_ref, it_may, it_fil, it_int, it_str, lo_lst, lo_tup, lo_int, lo_ref, li_lst, li_scr, li_tup, li_ref, true_and, List.set_cons_zero, List.set_cons_succ, List.getElem?_cons_zero, List.getElem?_cons_succ, List.map_cons, List.map_nil, List.length_cons, List.length_nil, List.replicate_succ, List.replicate_zero, List.cons_append, List.nil_append, List.zip_cons_cons, List.zip_nil_left, List.foldl_cons, List.foldl_nil, Nat.reduceSub, Nat.reduceAdd, Nat.zero_add, brB_t, brB_f, Bool.not_true, Bool.not_false, if_true, if_false, Bool.false_eq_true, ↓reduceIte]
      refine q _ _ (fmod_nn _ h0) (fmod_lt _ h0) (hd (by simp) (fun j hj => ?_) (get_set_self hn))
      rw [List.getElem?_set_ne (Ne.symm hj)]
    · refine hB _ (hN _ _ ?_)
      refine sSeq_i fun N2 hN2 => ?_
      simp only [dEq_int, dNe_int, dEq_bl, dNe_bl, bodyD, startD, sNext, sBreak, sCont, sDrop, sRet, sRetN, sSet, sPar, sAsg, sSub, sFldD, iSeq, iCall, wEnum, wRange1, wRange2, wz_tup, eComp, eCompR, eComp2, eComp2R, gN, gT, gTcons, gTnil, tTst, tNotD, tAndD, tOrD, eNotV, eAndV, eOrV, eIf, eNil, eCons, eTup, eLst, eRef, eFrz, eCall, eFn, eMkV_eq, eMk, eFld, eSl, oNone, oSome, eOp2, eOp1, eChain, dAdd, dInt, dIntC, dIntB, dSub, dFdiv, dMod, dPow, dLt, dLe, dGt, dGe, dMul, dMulR, dMulT, dIs, dIx, isNon_oI, isNon_non, isNon_int, isNon_bl, isNon_str, isNon_ty, isNon_tup, isNon_lst, isNon_scr, isNon_dic, isNon_obj, isNon_ref, isNon_glb, isNon_exc, isNon_book, eVar, eC, fLen, fAbs, fInt, fMax2, fMin2, fIntsI, fSorted, fTuple, fList, fListR, eLenSet, eSortedSet, eTupRg, eLstRg, eRefRg, rg1, rg2, tYesD, sRaise, sRaiseF, eM, KD.E, wipeD, ins_book, fget_posts, fget_may, mem_Book, it_tup, it_lst, it_scr, it_ref, it_may, it_fil, it_int, it_str, lo_lst, lo_tup, lo_int, lo_ref, li_lst, li_scr, li_tup, li_ref, true_and, List.set_cons_zero, List.set_cons_succ, List.getElem?_cons_zero, List.getElem?_cons_succ, List.map_cons, List.map_nil, List.length_cons, List.length_nil, List.replicate_succ, List.replicate_zero, List.cons_append, List.nil_append, List.zip_cons_cons, List.zip_nil_left, List.foldl_cons, List.foldl_nil, Nat.reduceSub, Nat.reduceAdd, Nat.zero_add, brB_t, brB_f, Bool.not_true, Bool.not_false, if_true, if_false, Bool.false_eq_true, ↓reduceIte, hn, hI, handPut]
      refine hN2 _ _ ?_
      have g2 := get_set_self (o := O.lst [D.lst (List.map D.int cells), D.int a, D.int b, D.int c, D.int (d + 1)]) hn
      refine sSeq_i fun N3 hN3 => ?_
      simp only [dEq_int, dNe_int, dEq_bl, dNe_bl, bodyD, startD, sNext, sBreak, sCont, sDrop, sRet, sRetN, sSet, sPar, sAsg, sSub, sFldD, iSeq, iCall, wEnum, wRange1, wRange2, wz_tup, eComp, eCompR, eComp2, eComp2R, gN, gT, gTcons, gTnil, tTst, tNotD, tAndD, tOrD, eNotV, eAndV, eOrV, eIf, eNil, eCons, eTup, eLst, eRef, eFrz, eCall, eFn, eMkV_eq, eMk, eFld, eSl, oNone, oSome, eOp2, eOp1, eChain, dAdd, dInt, dIntC, dIntB, dSub, dFdiv, dMod, dPow, dLt, dLe, dGt, dGe, dMul, dMulR, dMulT, dIs, dIx, isNon_oI, isNon_non, isNon_int, isNon_bl, isNon_str, isNon_ty, isNon_tup, isNon_lst, isNon_scr, isNon_dic, isNon_obj, isNon_ref, isNon_glb, isNon_exc, isNon_book, eVar, eC, fLen, fAbs, fInt, fMax2, fMin2, fIntsI, fSorted, fTuple, fList, fListR, eLenSet, eSortedSet, eTupRg, eLstRg, eRefRg, rg1, rg2, tYesD, sRaise, sRaiseF, eM, KD.E, wipeD, ins_book, fget_posts, fget_may, mem_Book, it_tup, it_lst, it_scr, it_ref, it_may, it_fil, it_int, it_str, lo_lst, lo_tup, lo_int, lo_ref, li_lst, li_scr, li_tup, li_ref, true_and, List.set_cons_zero, List.set_cons_succ, List.getElem?_cons_zero, List.getElem?_cons_succ, List.map_cons, List.map_nil, List.length_cons, List.length_nil, List.replicate_succ, List.replicate_zero, List.cons_append, List.nil_append, List.zip_cons_cons, List.zip_nil_left, List.foldl_cons, List.foldl_nil, Nat.reduceSub, Nat.reduceAdd, Nat.zero_add, brB_t, brB_f, Bool.not_true, Bool.not_false, if_true, if_false, Bool.false_eq_true, ↓reduceIte, g2, hI]
      refine ⟨.inl ⟨by decide, by decide⟩, .inr ⟨by decide, by decide⟩, by decide, hN3 _ _ ?_⟩
      have b1 := fmod_nn ((c + 7919 * (d + 1)) * 48271) (b := 2147483647) (by decide)
      have b2 := fmod_lt ((c + 7919 * (d + 1)) * 48271) (b := 2147483647) (by decide)
      generalize Int.fmod ((c + 7919 * (d + 1)) * 48271) 2147483647 = v at b1 b2 ⊢
      refine sSeq_i fun N4 hN4 => ?_
      simp only [dEq_int, dNe_int, dEq_bl, dNe_bl, bodyD, startD, sNext, sBreak, sCont, sDrop, sRet, sRetN, sSet, sPar, sAsg, sSub, sFldD, iSeq, iCall, wEnum, wRange1, wRange2, wz_tup, eComp, eCompR, eComp2, eComp2R, gN, gT, gTcons, gTnil, tTst, tNotD, tAndD, tOrD, eNotV, eAndV, eOrV, eIf, eNil, eCons, eTup, eLst, eRef, eFrz, eCall, eFn, eMkV_eq, eMk, eFld, eSl, oNone, oSome, eOp2, eOp1, eChain, dAdd, dInt, dIntC, dIntB, dSub, dFdiv, dMod, dPow, dLt, dLe, dGt, dGe, dMul, dMulR, dMulT, dIs, dIx, isNon_oI, isNon_non, isNon_int, isNon_bl, isNon_str, isNon_ty, isNon_tup, isNon_lst, isNon_scr, isNon_dic, isNon_obj, isNon_ref, isNon_glb, isNon_exc, isNon_book, eVar, eC, fLen, fAbs, fInt, fMax2, fMin2, fIntsI, fSorted, fTuple, fList, fListR, eLenSet, eSortedSet, eTupRg, eLstRg, eRefRg, rg1, rg2, tYesD, sRaise, sRaiseF, eM, KD.E, wipeD, ins_book, fget_posts, fget_may, mem_Book, it_tup, it_lst, it_scr, it_ref, it_may, it_fil, it_int, it_str, lo_lst, lo_tup, lo_int, lo_ref, li_lst, li_scr, li_tup, li_ref, true_and, List.set_cons_zero, List.set_cons_succ, List.getElem?_cons_zero, List.getElem?_cons_succ, List.map_cons, List.map_nil, List.length_cons, List.length_nil, List.replicate_succ, List.replicate_zero, List.cons_append, List.nil_append, List.zip_cons_cons, List.zip_nil_left, List.foldl_cons, List.foldl_nil, Nat.reduceSub, Nat.reduceAdd, Nat.zero_add, brB_t, brB_f, Bool.not_true, Bool.not_false, if_true, if_false, Bool.false_eq_true, ↓reduceIte]
      refine ⟨⟨by decide, by decide⟩, .inl ⟨by omega, by omega⟩, by decide, hN4 _ _ ?_⟩
      have c1 := fmod_nn (v * (v.fdiv 1009 + 69621)) (b := 2147483647) (by decide)
      have c2 := fmod_lt (v * (v.fdiv 1009 + 69621)) (b := 2147483647) (by decide)
      generalize Int.fmod (v * (v.fdiv 1009 + 69621)) 2147483647 = v2 at c1 c2 ⊢
      refine sSeq_i fun N5 hN5 => ?_
      simp only [dEq_int, dNe_int, dEq_bl, dNe_bl, bodyD, startD, sNext, sBreak, sCont, sDrop, sRet, sRetN, sSet, sPar, sAsg, sSub, sFldD, iSeq, iCall, wEnum, wRange1, wRange2, wz_tup, eComp, eCompR, eComp2, eComp2R, gN, gT, gTcons, gTnil, tTst, tNotD, tAndD, tOrD, eNotV, eAndV, eOrV, eIf, eNil, eCons, eTup, eLst, eRef, eFrz, eCall, eFn, eMkV_eq, eMk, eFld, eSl, oNone, oSome, eOp2, eOp1, eChain, dAdd, dInt, dIntC, dIntB, dSub, dFdiv, dMod, dPow, dLt, dLe, dGt, dGe, dMul, dMulR, dMulT, dIs, dIx, isNon_oI, isNon_non, isNon_int, isNon_bl, isNon_str, isNon_ty, isNon_tup, isNon_lst, isNon_scr, isNon_dic, isNon_obj, isNon_ref, isNon_glb, isNon_exc, isNon_book, eVar, eC, fLen, fAbs, fInt, fMax2, fMin2, fIntsI, fSorted, fTuple, fList, fListR, eLenSet, eSortedSet, eTupRg, eLstRg, eRefRg, rg1, rg2, tYesD, sRaise, sRaiseF, eM, KD.E, wipeD, ins_book, fget_posts, fget_may, mem_Book, it_tup, it_lst, it_scr, it_ref, it_may, it_fil, it_int, it_str, lo_lst, lo_tup, lo_int, lo_ref, li_lst, li_scr, li_tup, li_ref, true_and, List.set_cons_zero, List.set_cons_succ, List.getElem?_cons_zero, List.getElem?_cons_succ, List.map_cons, List.map_nil, List.length_cons, List.length_nil, List.replicate_succ, List.replicate_zero, List.cons_append, List.nil_append, List.zip_cons_cons, List.zip_nil_left, List.foldl_cons, List.foldl_nil, Nat.reduceSub, Nat.reduceAdd, Nat.zero_add, brB_t, brB_f, Bool.not_true, Bool.not_false, if_true, if_false, Bool.false_eq_true, ↓reduceIte]
      refine ⟨⟨by decide, by decide⟩, .inl ⟨by omega, by omega⟩, by decide, hN5 _ _ ?_⟩
      simp only [dEq_int, dNe_int, dEq_bl, dNe_bl, bodyD, startD, sNext, sBreak, sCont, sDrop, sRet, sRetN, sSet, sPar, sAsg, sSub, sFldD, iSeq, iCall, wEnum, wRange1, wRange2, wz_tup, eComp, eCompR, eComp2, eComp2R, gN, gT, gTcons, gTnil, tTst, tNotD, tAndD, tOrD, eNotV, eAndV, eOrV, eIf, eNil, eCons, eTup, eLst, eRef, eFrz, eCall, eFn, eMkV_eq, eMk, eFld, eSl, oNone, oSome, eOp2, eOp1, eChain, dAdd, dInt, dIntC, dIntB, dSub, dFdiv, dMod, dPow, dLt, dLe, dGt, dGe, dMul, dMulR, dMulT, dIs, dIx, isNon_oI, isNon_non, isNon_int, isNon_bl, isNon_str, isNon_ty, isNon_tup, isNon_lst, isNon_scr, isNon_dic, isNon_obj, isNon_ref, isNon_glb, isNon_exc, isNon_book, eVar, eC, fLen, fAbs, fInt, fMax2, fMin2, fIntsI, fSorted, fTuple, fList, fListR, eLenSet, eSortedSet, eTupRg, eLstRg, eRefRg, rg1, rg2, tYesD, sRaise, sRaiseF, eM, KD.E, wipeD, ins_book, fget_posts, fget_may, mem_Book, it_tup, it_lst, it_scr, it_ref, it_may, it_fil, it_int, it_str, lo_lst, lo_tup, lo_int, lo_ref, li_lst, li_scr, li_tup, li_ref, true_and, List.set_cons_zero, List.set_cons_succ, List.getElem?_cons_zero, List.getElem?_cons_succ, List.map_cons, List.map_nil, List.length_cons, List.length_nil, List.replicate_succ, List.replicate_zero, List.cons_append, List.nil_append, List.zip_cons_cons, List.zip_nil_left, List.foldl_cons, List.foldl_nil, Nat.reduceSub, Nat.reduceAdd, Nat.zero_add, brB_t, brB_f, Bool.not_true, Bool.not_false, if_true, if_false, Bool.false_eq_true, ↓reduceIte]
      refine ⟨⟨by decide, by decide⟩, by omega, ?_⟩
      refine q _ _ (fmod_nn _ h0) (fmod_lt _ h0) (hd (by simp) (fun j hj => ?_) g2)
      rw [List.getElem?_set_ne (Ne.symm hj)]
/-! _law_any -/
def t__law_any : TSD :=
    (sRet (eOp2 dIx (eVar 1) (eFn sp__law_draw (eCons (eVar 0) (eCons (eCall fLen (eCons (eVar 1) eNil)) eNil)))))
def sp__law_any : SpD := fun ds h Q _ => ∃ (n : Nat) (x : D) (xs : List D), ds = [.ref n, x] ∧ IsHand h n ∧ itemsOf x h = some xs ∧ x ≠ .ref n ∧ 0 < xs.length ∧ xs.length < 1073741824 ∧ ∀ y ∈ xs, ∀ h', Drawn h h' n → Q y h'
theorem pl__law_any (ds : List D) (h : DH) (Q : VD) (E : ED) (w : sp__law_any ds h Q E) : bodyD 2 t__law_any ds h Q E := by
  obtain ⟨n, x, xs, rfl, hI, hx, hne, h0, h1, q⟩ := w
  unfold t__law_any
  simp only [dEq_int, dNe_int, dEq_bl, dNe_bl, bodyD, startD, sNext, sBreak, sCont, sDrop, sRet, sRetN, sSet, sPar, sAsg, sSub, sFldD, iSeq, iCall, wEnum, wRange1, wRange2, wz_tup, eComp, eCompR, eComp2, eComp2R, gN, gT, gTcons, gTnil, tTst, tNotD, tAndD, tOrD, eNotV, eAndV, eOrV, eIf, eNil, eCons, eTup, eLst, eRef, eFrz, eCall, eFn, eMkV_eq, eMk, eFld, eSl, oNone, oSome, eOp2, eOp1, eChain, dAdd, dInt, dIntC, dIntB, dSub, dFdiv, dMod, dPow, dLt, dLe, dGt, dGe, dMul, dMulR, dMulT, dIs, dIx, isNon_oI, isNon_non, isNon_int, isNon_bl, isNon_str, isNon_ty, isNon_tup, isNon_lst, isNon_scr, isNon_dic, isNon_obj, isNon_ref, isNon_glb, isNon_exc, isNon_book, eVar, eC, fLen, fAbs, fInt, fMax2, fMin2, fIntsI, fSorted, fTuple, fList, fListR, eLenSet, eSortedSet, eTupRg, eLstRg, eRefRg, rg1, rg2, tYesD, sRaise, sRaiseF, eM, KD.E, wipeD, ins_book, fget_posts, fget_may, mem_Book, it_tup, it_lst, it_scr, it_ref, it_may, it_fil, it_int, it_str, lo_lst, lo_tup, lo_int, lo_ref, li_lst, li_scr, li_tup, li_ref, true_and, List.set_cons_zero, List.set_cons_succ, List.getElem?_cons_zero, List.getElem?_cons_succ, List.map_cons, List.map_nil, List.length_cons, List.length_nil, List.replicate_succ, List.replicate_zero, List.cons_append, List.nil_append, List.zip_cons_cons, List.zip_nil_left, List.foldl_cons, List.foldl_nil, Nat.reduceSub, Nat.reduceAdd, Nat.zero_add, brB_t, brB_f, Bool.not_true, Bool.not_false, if_true, if_false, Bool.false_eq_true, ↓reduceIte, hx]
  refine ⟨n, _, rfl, hI, by omega, by omega, fun k h' k0 k1 dr => ?_⟩
  have hk : k.toNat < xs.length := by omega
  have ha : atI xs k = some xs[k.toNat] := atI_nat k0 (List.getElem?_eq_getElem hk)
  simp only [items_drawn dr hne, hx, ha]
  exact q _ (List.getElem_mem hk) h' dr
/-! _law_mixed -/
def t__law_mixed : TSD :=
    (sSeq (sPar [2, 3] (eCons (eCall fListR (eCons (eVar 1) eNil)) (eCons (eRef eNil) eNil)))
    (sSeq (sWhile (tTst (eOp2 dGt (eCall fLen (eCons (eVar 2) eNil)) (eC (.int 0)))) (sDrop (eM isList mAppend (eVar 3) (eCons (eM isList mPopAt (eVar 2) (eCons (eFn sp__law_draw (eCons (eVar 0) (eCons (eCall fLen (eCons (eVar 2) eNil)) eNil))) eNil)) eNil))))
    (sRet (eVar 3))))
-- use: popR
def sp__law_mixed : SpD := fun ds h Q _ => ∃ (n : Nat) (x : D) (xs : List D), ds = [.ref n, x] ∧ IsHand h n ∧ itemsOf x h = some xs ∧ x ≠ .ref n ∧ xs.length ≤ 1000 ∧ ∀ ys h0, ys.Perm xs → Drawn h h0 n → Q (.ref h.length) (h0 ++ [.lst ys])
theorem isList_lst {n : Nat} {h : DH} {xs : List D} (e : h[n]? = some (.lst xs)) : isList (.ref n) h = true := by
  unfold isList
  simp only [e]
theorem pl__law_mixed (ds : List D) (h : DH) (Q : VD) (E : ED) (w : sp__law_mixed ds h Q E) : popWR (bodyD 4 t__law_mixed) ds h Q E := by
  obtain ⟨n, x, xs, rfl, hI, hx, hne, hz, q⟩ := w
  intro hnr wf
  have hxs : nrDs h.length xs = true := items_nr wf (by
    simp only [nrDs, Bool.and_eq_true] at hnr
    exact hnr.2.1) hx
  have hnl := hI.lt
  unfold popFR t__law_mixed bodyD
  refine sSeq_i fun N hN => ?_
  simp only [dEq_int, dNe_int, dEq_bl, dNe_bl, bodyD, startD, sNext, sBreak, sCont, sDrop, sRet, sRetN, sSet, sPar, sAsg, sSub, sFldD, iSeq, iCall, wEnum, wRange1, wRange2, wz_tup, eComp, eCompR, eComp2, eComp2R, gN, gT, gTcons, gTnil, tTst, tNotD, tAndD, tOrD, eNotV, eAndV, eOrV, eIf, eNil, eCons, eTup, eLst, eRef, eFrz, eCall, eFn, eMkV_eq, eMk, eFld, eSl, oNone, oSome, eOp2, eOp1, eChain, dAdd, dInt, dIntC, dIntB, dSub, dFdiv, dMod, dPow, dLt, dLe, dGt, dGe, dMul, dMulR, dMulT, dIs, dIx, isNon_oI, isNon_non, isNon_int, isNon_bl, isNon_str, isNon_ty, isNon_tup, isNon_lst, isNon_scr, isNon_dic, isNon_obj, isNon_ref, isNon_glb, isNon_exc, isNon_book, eVar, eC, fLen, fAbs, fInt, fMax2, fMin2, fIntsI, fSorted, fTuple, fList, fListR, eLenSet, eSortedSet, eTupRg, eLstRg, eRefRg, rg1, rg2, tYesD, sRaise, sRaiseF, eM, KD.E, wipeD, ins_book, fget_posts, fget_may, mem_Book, it_tup, it_lst, it_scr, it_ref, it_may, it_fil, it_int, it_str, lo_lst, lo_tup, lo_int, lo_ref, li_lst, li_scr, li_tup, li_ref, true_and, List.set_cons_zero, List.set_cons_succ, List.getElem?_cons_zero, List.getElem?_cons_succ, List.map_cons, List.map_nil, List.length_cons, List.length_nil, List.replicate_succ, List.replicate_zero, List.cons_append, List.nil_append, List.zip_cons_cons, List.zip_nil_left, List.foldl_cons, List.foldl_nil, Nat.reduceSub, Nat.reduceAdd, Nat.zero_add, brB_t, brB_f, Bool.not_true, Bool.not_false, if_true, if_false, Bool.false_eq_true, ↓reduceIte, hx]
  refine hN _ _ ?_
  refine sSeq_i fun N2 hN2 => ?_
  refine ⟨fun j sd hh => ∃ h0 l f, sd = [some (.ref n), some x, some (.ref h.length), some (.ref (h.length + 1))] ∧ hh = h0 ++ [.lst l, .lst f] ∧ Drawn h h0 n ∧ l.length = j ∧ (f ++ l).Perm xs,
    ⟨xs.length, h, xs, [], by simp, by simp, Drawn.refl hI, rfl, by simp⟩, ?_⟩
  rintro j sd hh ⟨h0, l, f, rfl, rfl, dr, hj, hp⟩
  have L := dr.1
  have hlen : l.length ≤ 1000 := by
    have := hp.length_eq
    rw [List.length_append] at this
    omega
  have hflen : f.length ≤ 1000 := by
    have := hp.length_eq
    rw [List.length_append] at this
    omega
  simp only [dEq_int, dNe_int, dEq_bl, dNe_bl, bodyD, startD, sNext, sBreak, sCont, sDrop, sRet, sRetN, sSet, sPar, sAsg, sSub, sFldD, iSeq, iCall, wEnum, wRange1, wRange2, wz_tup, eComp, eCompR, eComp2, eComp2R, gN, gT, gTcons, gTnil, tTst, tNotD, tAndD, tOrD, eNotV, eAndV, eOrV, eIf, eNil, eCons, eTup, eLst, eRef, eFrz, eCall, eFn, eMkV_eq, eMk, eFld, eSl, oNone, oSome, eOp2, eOp1, eChain, dAdd, dInt, dIntC, dIntB, dSub, dFdiv, dMod, dPow, dLt, dLe, dGt, dGe, dMul, dMulR, dMulT, dIs, dIx, isNon_oI, isNon_non, isNon_int, isNon_bl, isNon_str, isNon_ty, isNon_tup, isNon_lst, isNon_scr, isNon_dic, isNon_obj, isNon_ref, isNon_glb, isNon_exc, isNon_book, eVar, eC, fLen, fAbs, fInt, fMax2, fMin2, fIntsI, fSorted, fTuple, fList, fListR, eLenSet, eSortedSet, eTupRg, eLstRg, eRefRg, rg1, rg2, tYesD, sRaise, sRaiseF, eM, KD.E, wipeD, ins_book, fget_posts, fget_may, mem_Book, it_tup, it_lst, it_scr, it_ref, it_may, it_fil, it_int, it_str, lo_lst, lo_tup, lo_int, lo_ref, li_lst, li_scr, li_tup, li_ref, true_and, List.set_cons_zero, List.set_cons_succ, List.getElem?_cons_zero, List.getElem?_cons_succ, List.map_cons, List.map_nil, List.length_cons, List.length_nil, List.replicate_succ, List.replicate_zero, List.cons_append, List.nil_append, List.zip_cons_cons, List.zip_nil_left, List.foldl_cons, List.foldl_nil, Nat.reduceSub, Nat.reduceAdd, Nat.zero_add, brB_t, brB_f, Bool.not_true, Bool.not_false, if_true, if_false, Bool.false_eq_true, ↓reduceIte, ga0 L, ga 1 L]
  split
  · rename_i hpos
    have hpos : 0 < l.length := by simpa using hpos
    simp only [dEq_int, dNe_int, dEq_bl, dNe_bl, bodyD, startD, sNext, sBreak, sCont, sDrop, sRet, sRetN, sSet, sPar, sAsg, sSub, sFldD, iSeq, iCall, wEnum, wRange1, wRange2, wz_tup, eComp, eCompR, eComp2, eComp2R, gN, gT, gTcons, gTnil, tTst, tNotD, tAndD, tOrD, eNotV, eAndV, eOrV, eIf, eNil, eCons, eTup, eLst, eRef, eFrz, eCall, eFn, eMkV_eq, eMk, eFld, eSl, oNone, oSome, eOp2, eOp1, eChain, dAdd, dInt, dIntC, dIntB, dSub, dFdiv, dMod, dPow, dLt, dLe, dGt, dGe, dMul, dMulR, dMulT, dIs, dIx, isNon_oI, isNon_non, isNon_int, isNon_bl, isNon_str, isNon_ty, isNon_tup, isNon_lst, isNon_scr, isNon_dic, isNon_obj, isNon_ref, isNon_glb, isNon_exc, isNon_book, eVar, eC, fLen, fAbs, fInt, fMax2, fMin2, fIntsI, fSorted, fTuple, fList, fListR, eLenSet, eSortedSet, eTupRg, eLstRg, eRefRg, rg1, rg2, tYesD, sRaise, sRaiseF, eM, KD.E, wipeD, ins_book, fget_posts, fget_may, mem_Book, it_tup, it_lst, it_scr, it_ref, it_may, it_fil, it_int, it_str, lo_lst, lo_tup, lo_int, lo_ref, li_lst, li_scr, li_tup, li_ref, true_and, List.set_cons_zero, List.set_cons_succ, List.getElem?_cons_zero, List.getElem?_cons_succ, List.map_cons, List.map_nil, List.length_cons, List.length_nil, List.replicate_succ, List.replicate_zero, List.cons_append, List.nil_append, List.zip_cons_cons, List.zip_nil_left, List.foldl_cons, List.foldl_nil, Nat.reduceSub, Nat.reduceAdd, Nat.zero_add, brB_t, brB_f, Bool.not_true, Bool.not_false, if_true, if_false, Bool.false_eq_true, ↓reduceIte, isList_lst (ga0 L : (h0 ++ [O.lst l, O.lst f])[h.length]? = _), isList_lst (ga 1 L : (h0 ++ [O.lst l, O.lst f])[h.length + 1]? = _), ga0 L]
    refine ⟨n, _, rfl, dr.2.2.app, by omega, by omega, fun k h' k0 k1 dr2 => ?_⟩
    obtain ⟨h1, rfl, dr3⟩ := Drawn.app dr.2.2 dr2
    have L1 : h1.length = h.length := dr3.1.trans L
    have hk : k.toNat < l.length := by omega
    simp only [mPopAt, mAppend, ga0 L1]
    simp only [dEq_int, dNe_int, dEq_bl, dNe_bl, bodyD, startD, sNext, sBreak, sCont, sDrop, sRet, sRetN, sSet, sPar, sAsg, sSub, sFldD, iSeq, iCall, wEnum, wRange1, wRange2, wz_tup, eComp, eCompR, eComp2, eComp2R, gN, gT, gTcons, gTnil, tTst, tNotD, tAndD, tOrD, eNotV, eAndV, eOrV, eIf, eNil, eCons, eTup, eLst, eRef, eFrz, eCall, eFn, eMkV_eq, eMk, eFld, eSl, oNone, oSome, eOp2, eOp1, eChain, dAdd, dInt, dIntC, dIntB, dSub, dFdiv, dMod, dPow, dLt, dLe, dGt, dGe, dMul, dMulR, dMulT, dIs, dIx, isNon_oI, isNon_non, isNon_int, isNon_bl, isNon_str, isNon_ty, isNon_tup, isNon_lst, isNon_scr, isNon_dic, isNon_obj, isNon_ref, isNon_glb, isNon_exc, isNon_book, eVar, eC, fLen, fAbs, fInt, fMax2, fMin2, fIntsI, fSorted, fTuple, fList, fListR, eLenSet, eSortedSet, eTupRg, eLstRg, eRefRg, rg1, rg2, tYesD, sRaise, sRaiseF, eM, KD.E, wipeD, ins_book, fget_posts, fget_may, mem_Book, it_tup, it_lst, it_scr, it_ref, it_may, it_fil, it_int, it_str, lo_lst, lo_tup, lo_int, lo_ref, li_lst, li_scr, li_tup, li_ref, true_and, List.set_cons_zero, List.set_cons_succ, List.getElem?_cons_zero, List.getElem?_cons_succ, List.map_cons, List.map_nil, List.length_cons, List.length_nil, List.replicate_succ, List.replicate_zero, List.cons_append, List.nil_append, List.zip_cons_cons, List.zip_nil_left, List.foldl_cons, List.foldl_nil, Nat.reduceSub, Nat.reduceAdd, Nat.zero_add, brB_t, brB_f, Bool.not_true, Bool.not_false, if_true, if_false, Bool.false_eq_true, ↓reduceIte, ixN_nat k0 k1, List.getElem?_eq_getElem hk, sa0 L1, ga 1 L1, sa 1 L1]
    have hp2 : ((f ++ [l[k.toNat]]) ++ l.eraseIdx k.toNat).Perm xs := by
      refine List.Perm.trans ?_ hp
      rw [List.append_assoc]
      exact List.Perm.append_left f (erase_perm hk)
    refine ⟨size_le (by omega), size_lt (by omega), (l.eraseIdx k.toNat).length, ?_, h1, l.eraseIdx k.toNat, f ++ [l[k.toNat]], rfl, dr.trans dr3, rfl, hp2⟩
    rw [List.length_eraseIdx, if_pos hk]
    omega
  · rename_i hpos
    have hl0 : l = [] := by
      have : ¬ 0 < l.length := by simpa using hpos
      exact List.eq_nil_of_length_eq_zero (by omega)
    subst hl0
    rw [List.append_nil] at hp
    refine hN2 _ _ ?_
    simp only [dEq_int, dNe_int, dEq_bl, dNe_bl, bodyD, startD, sNext, sBreak, sCont, sDrop, sRet, sRetN, sSet, sPar, sAsg, sSub, sFldD, iSeq, iCall, wEnum, wRange1, wRange2, wz_tup, eComp, eCompR, eComp2, eComp2R, gN, gT, gTcons, gTnil, tTst, tNotD, tAndD, tOrD, eNotV, eAndV, eOrV, eIf, eNil, eCons, eTup, eLst, eRef, eFrz, eCall, eFn, eMkV_eq, eMk, eFld, eSl, oNone, oSome, eOp2, eOp1, eChain, dAdd, dInt, dIntC, dIntB, dSub, dFdiv, dMod, dPow, dLt, dLe, dGt, dGe, dMul, dMulR, dMulT, dIs, dIx, isNon_oI, isNon_non, isNon_int, isNon_bl, isNon_str, isNon_ty, isNon_tup, isNon_lst, isNon_scr, isNon_dic, isNon_obj, isNon_ref, isNon_glb, isNon_exc, isNon_book, eVar, eC, fLen, fAbs, fInt, fMax2, fMin2, fIntsI, fSorted, fTuple, fList, fListR, eLenSet, eSortedSet, eTupRg, eLstRg, eRefRg, rg1, rg2, tYesD, sRaise, sRaiseF, eM, KD.E, wipeD, ins_book, fget_posts, fget_may, mem_Book, it_tup, it_lst, it_scr, it_ref, it_may, it_fil, it_int, it_str, lo_lst, lo_tup, lo_int, lo_ref, li_lst, li_scr, li_tup, li_ref, true_and, List.set_cons_zero, List.set_cons_succ, List.getElem?_cons_zero, List.getElem?_cons_succ, List.map_cons, List.map_nil, List.length_cons, List.length_nil, List.replicate_succ, List.replicate_zero, List.cons_append, List.nil_append, List.zip_cons_cons, List.zip_nil_left, List.foldl_cons, List.foldl_nil, Nat.reduceSub, Nat.reduceAdd, Nat.zero_add, brB_t, brB_f, Bool.not_true, Bool.not_false, if_true, if_false, Bool.false_eq_true, ↓reduceIte]
    unfold popRQ
    simp only [ga 1 L, dEq_int, dNe_int, dEq_bl, dNe_bl, bodyD, startD, sNext, sBreak, sCont, sDrop, sRet, sRetN, sSet, sPar, sAsg, sSub, sFldD, iSeq, iCall, wEnum, wRange1, wRange2, wz_tup, eComp, eCompR, eComp2, eComp2R, gN, gT, gTcons, gTnil, tTst, tNotD, tAndD, tOrD, eNotV, eAndV, eOrV, eIf, eNil, eCons, eTup, eLst, eRef, eFrz, eCall, eFn, eMkV_eq, eMk, eFld, eSl, oNone, oSome, eOp2, eOp1, eChain, dAdd, dInt, dIntC, dIntB, dSub, dFdiv, dMod, dPow, dLt, dLe, dGt, dGe, dMul, dMulR, dMulT, dIs, dIx, isNon_oI, isNon_non, isNon_int, isNon_bl, isNon_str, isNon_ty, isNon_tup, isNon_lst, isNon_scr, isNon_dic, isNon_obj, isNon_ref, isNon_glb, isNon_exc, isNon_book, eVar, eC, fLen, fAbs, fInt, fMax2, fMin2, fIntsI, fSorted, fTuple, fList, fListR, eLenSet, eSortedSet, eTupRg, eLstRg, eRefRg, rg1, rg2, tYesD, sRaise, sRaiseF, eM, KD.E, wipeD, ins_book, fget_posts, fget_may, mem_Book, it_tup, it_lst, it_scr, it_ref, it_may, it_fil, it_int, it_str, lo_lst, lo_tup, lo_int, lo_ref, li_lst, li_scr, li_tup, li_ref, true_and, List.set_cons_zero, List.set_cons_succ, List.getElem?_cons_zero, List.getElem?_cons_succ, List.map_cons, List.map_nil, List.length_cons, List.length_nil, List.replicate_succ, List.replicate_zero, List.cons_append, List.nil_append, List.zip_cons_cons, List.zip_nil_left, List.foldl_cons, List.foldl_nil, Nat.reduceSub, Nat.reduceAdd, Nat.zero_add, brB_t, brB_f, Bool.not_true, Bool.not_false, if_true, if_false, Bool.false_eq_true, ↓reduceIte]
    obtain ⟨t1, t2⟩ := Drawn.take (t := [O.lst [], O.lst f]) wf dr
    refine ⟨Nat.le_succ _, (fun q => by cases q), ?_, t1, ?_⟩
    · refine nrDs_iff.mpr fun d hd => nrDs_iff.mp hxs d (hp.mem_iff.mp hd)
    · rw [t2]
      exact q f h0 hp dr
/-! _law_case -/
def t__law_case : TSD :=
    (sSeq (sPar [6, 7, 8] (eCons (eFn sp__law_draw (eCons (eVar 0) (eCons (eOp2 dAdd (eVar 1) (eC (.int 1))) eNil))) (eCons (eFn sp__law_draw (eCons (eVar 0) (eCons (eOp2 dAdd (eVar 1) (eC (.int 1))) eNil))) (eCons (eFn sp__law_draw (eCons (eVar 0) (eCons (eC (.int 4)) eNil))) eNil))))
    (sSeq (sPar [9, 10] (eCons (eFn sp__law_mixed (eCons (eVar 0) (eCons (eLstRg (rg1 (eVar 7))) eNil))) (eCons (eFn sp__law_mixed (eCons (eVar 0) (eCons (eLstRg (rg1 (eVar 6))) eNil))) eNil)))
    (sSeq (sSet 2 (eCall fMin2 (eCons (eVar 6) (eCons (eVar 7) eNil))))
    (sSeq (sSet 2 (eFn sp__law_any (eCons (eVar 0) (eCons (eLst (eCons (eVar 2) (eCons (eVar 2) (eCons (eVar 2) (eCons (eCall fMax2 (eCons (eC (.int 0)) (eCons (eOp2 dSub (eVar 2) (eC (.int 1))) eNil))) (eCons (eFn sp__law_draw (eCons (eVar 0) (eCons (eOp2 dAdd (eVar 2) (eC (.int 1))) eNil))) eNil)))))) eNil))))
    (sSeq (sPar [11, 12] (eCons (eOp2 dMulR (eLst (eCons (eC .non) eNil)) (eVar 7)) (eCons (eComp (iCall wRange1 (eCons (eVar 7) eNil)) (gN 5) tYesD (eRef eNil) [5]) eNil)))
    (sSeq (sFor (iCall wRange1 (eCons (eVar 2) eNil)) (gN 3) (sSeq (sSub (eVar 11) (eOp2 dIx (eVar 9) (eVar 3)) (eOp2 dIx (eVar 10) (eVar 3)))
    (sSeq (sDrop (eM isList mAppend (eOp2 dIx (eVar 12) (eOp2 dIx (eVar 9) (eVar 3))) (eCons (eOp2 dIx (eVar 10) (eVar 3)) eNil)))
    (sIf (tTst (eOp2 dEq (eVar 8) (eC (.int 1)))) (sDrop (eM isList mAppend (eOp2 dIx (eVar 12) (eOp2 dIx (eVar 9) (eVar 3))) (eCons (eOp2 dIx (eVar 10) (eOp2 dMod (eCall fInt (eCons (eOp2 dAdd (eVar 3) (eC (.int 1))) eNil)) (eVar 2))) eNil))) sNext))))
    (sSeq (sSet 4 (eFn sp__law_any (eCons (eVar 0) (eCons (eLst (eCons (eC (.int 2)) (eCons (eC (.int 3)) (eCons (eC (.int 6)) (eCons (eC (.int 40)) eNil))))) eNil))))
    (sSeq (sFor (iCall wRange1 (eCons (eVar 7) eNil)) (gN 5) (sSeq (sSet 13 (eIf (tTst (eOp2 dEq (eVar 8) (eC (.int 2)))) (eFn sp__law_draw (eCons (eVar 0) (eCons (eOp2 dAdd (eVar 6) (eC (.int 1))) eNil))) (eC (.int 0))))
    (sFor (iCall wRange1 (eCons (eVar 6) eNil)) (gN 14) (sIf (tOrD (tTst (eOp2 dLt (eVar 14) (eVar 13))) (tTst (eOp2 dEq (eFn sp__law_draw (eCons (eVar 0) (eCons (eVar 4) eNil))) (eC (.int 0))))) (sDrop (eM isList mAppend (eOp2 dIx (eVar 12) (eVar 5)) (eCons (eVar 14) eNil))) sNext))))
    (sRet (eLst (eCons (eVar 6) (eCons (eCall fTuple (eCons (eComp (iSeq (eVar 12)) (gN 15) tYesD (eCall fTuple (eCons (eSortedSet (eVar 15)) eNil)) [15]) eNil)) (eCons (eCall fTuple (eCons (eVar 11) eNil)) eNil)))))))))))))
-- use: pop
/-- a drawn book and a filling of it -/
def CaseOk (top posts : Int) (may : List (List Int)) (f : List (Option Int)) : Prop :=
  0 ≤ posts ∧ posts ≤ top ∧ (may.length : Int) ≤ top ∧ (∀ s ∈ may, s.Pairwise (· < ·) ∧ ∀ i ∈ s, 0 ≤ i ∧ i < posts) ∧ rightD may (filD f) = true
def sp__law_case : SpD := fun ds h Q _ => ∃ (n : Nat) (top : Int), ds = [.ref n, .int top] ∧ IsHand h n ∧ 0 ≤ top ∧ top ≤ 12 ∧ ∀ posts may f h', CaseOk top posts may f → Drawn h h' n → Q (.lst [.int posts, mayD may, filD f]) h'
/-- the own objects: two orders, the filling, the leaves -/
def cHeap (order spots : List Int) (fill : List (Option Int)) (inner : List (List Int)) : DH := .lst (order.map .int) :: .lst (spots.map .int) :: .lst (fill.map oI) :: inner.map fun s => .lst (s.map .int)
structure CInv (posts : Int) (persons : Nat) (order spots : List Int) (k b : Nat) (fill : List (Option Int)) (inner : List (List Int)) : Prop where
  fl : fill.length = persons
  il : inner.length = persons
  rg : ∀ (i : Nat) s, inner[i]? = some s → ∀ v ∈ s, 0 ≤ v ∧ v < posts
  sub : ∀ (i : Nat) v, fill[i]? = some (some v) → ∃ s, inner[i]? = some s ∧ v ∈ s
  src : ∀ (i : Nat) v, fill[i]? = some (some v) → ∃ a, a < k ∧ order[a]? = some (i : Int) ∧ spots[a]? = some v
  ln : ∀ (i : Nat) s, inner[i]? = some s → s.length ≤ b
theorem cGet {L n : Nat} {h0 : DH} {order spots : List Int} {fill : List (Option Int)} {inner : List (List Int)} (e : h0.length = L) : (h0 ++ cHeap order spots fill inner)[L]? = some (.lst (order.map .int)) ∧
    (h0 ++ cHeap order spots fill inner)[L + 1]? = some (.lst (spots.map .int)) ∧ (h0 ++ cHeap order spots fill inner)[L + 2]? = some (.lst (fill.map oI)) := ⟨ga0 e, ga 1 e, ga 2 e⟩
theorem cIn {L i : Nat} {h0 : DH} {order spots : List Int} {fill : List (Option Int)} {inner : List (List Int)} {s : List Int} (e : h0.length = L) (hs : inner[i]? = some s) : (h0 ++ cHeap order spots fill inner)[L + (i + 3)]? = some (.lst (s.map .int)) := by
  rw [ga (i + 3) e]
  show (inner.map fun s => O.lst (s.map .int))[i]? = _
  rw [List.getElem?_map, hs]; rfl
theorem cSetF {L : Nat} {h0 : DH} {order spots : List Int} {fill : List (Option Int)} {inner : List (List Int)} {i : Nat} {v : Int} (e : h0.length = L) : (h0 ++ cHeap order spots fill inner).set (L + 2) (.lst ((fill.map oI).set i (.int v))) = h0 ++ cHeap order spots (fill.set i (some v)) inner := by
  rw [sa 2 e]
  unfold cHeap
  rw [List.map_set]; rfl
theorem cSetI {L : Nat} {h0 : DH} {order spots : List Int} {fill : List (Option Int)} {inner : List (List Int)} {i : Nat} {s : List Int} {v : Int} (e : h0.length = L) : (h0 ++ cHeap order spots fill inner).set (L + (i + 3)) (.lst (s.map .int ++ [.int v])) = h0 ++ cHeap order spots fill (inner.set i (s ++ [v])) := by
  rw [sa (i + 3) e]
  unfold cHeap
  rw [List.map_set, List.map_append]; rfl
/-- one post more in the i-th leaves -/
theorem CInv.add {posts : Int} {persons k b i : Nat} {order spots : List Int} {fill : List (Option Int)} {inner : List (List Int)} {s : List Int} {v : Int} (c : CInv posts persons order spots k b fill inner) (hs : inner[i]? = some s) (h0 : 0 ≤ v) (h1 : v < posts) :
    CInv posts persons order spots k (b + 1) fill (inner.set i (s ++ [v])) := by
  have hi := (List.getElem?_eq_some_iff.mp hs).1
  refine ⟨c.fl, by rw [List.length_set]; exact c.il, fun j t ht => ?_, fun j u hu => ?_, c.src, fun j t ht => ?_⟩
  · by_cases e : j = i
    · subst e
      rw [List.getElem?_set_self hi] at ht
      cases ht
      intro w hw
      rcases List.mem_append.mp hw with hw | hw
      · exact c.rg j s hs w hw
      · obtain rfl := List.mem_singleton.mp hw
        exact ⟨h0, h1⟩
    · rw [List.getElem?_set_ne (Ne.symm e)] at ht
      exact c.rg j t ht
  · obtain ⟨t, ht, hv⟩ := c.sub j u hu
    by_cases e : j = i
    · subst e
      rw [hs] at ht
      cases ht
      exact ⟨_, List.getElem?_set_self hi, List.mem_append_left _ hv⟩
    · exact ⟨t, by rw [List.getElem?_set_ne (Ne.symm e)]; exact ht, hv⟩
  · by_cases e : j = i
    · subst e
      rw [List.getElem?_set_self hi] at ht
      cases ht
      rw [List.length_append, List.length_singleton]
      have := c.ln j s hs
      omega
    · rw [List.getElem?_set_ne (Ne.symm e)] at ht
      have := c.ln j t ht
      omega
theorem CInv.mono {posts : Int} {persons k b k' b' : Nat} {order spots : List Int} {fill : List (Option Int)} {inner : List (List Int)} (c : CInv posts persons order spots k b fill inner) (hk : k ≤ k') (hb : b ≤ b') : CInv posts persons order spots k' b' fill inner :=
  ⟨c.fl, c.il, c.rg, c.sub, fun i v h => by obtain ⟨a, h1, h2⟩ := c.src i v h; exact ⟨a, by omega, h2⟩, fun i s h => Nat.le_trans (c.ln i s h) hb⟩
theorem CInv.fillAdd {posts : Int} {persons k b i : Nat} {order spots : List Int} {fill : List (Option Int)} {inner : List (List Int)} {s : List Int} {v : Int} (c : CInv posts persons order spots k b fill inner) (hs : inner[i]? = some s) (ho : order[k]? = some (i : Int)) (hv : spots[k]? = some v) (h0 : 0 ≤ v) (h1 : v < posts) :
    CInv posts persons order spots (k + 1) (b + 1) (fill.set i (some v)) (inner.set i (s ++ [v])) := by
  have hi := (List.getElem?_eq_some_iff.mp hs).1
  have c2 := (c.add hs h0 h1).mono (Nat.le_succ k) (Nat.le_refl _)
  have hif : i < fill.length := by rw [c.fl, ← c.il]; exact hi
  refine ⟨by rw [List.length_set]; exact c.fl, c2.il, c2.rg, fun j u hu => ?_, fun j u hu => ?_, c2.ln⟩
  · by_cases e : j = i
    · subst e
      rw [List.getElem?_set_self hif] at hu
      cases hu
      exact ⟨_, List.getElem?_set_self hi, List.mem_append_right _ (List.mem_singleton.mpr rfl)⟩
    · rw [List.getElem?_set_ne (Ne.symm e)] at hu
      exact c2.sub j u hu
  · by_cases e : j = i
    · subst e
      rw [List.getElem?_set_self hif] at hu
      cases hu
      exact ⟨k, Nat.lt_succ_self k, ho, hv⟩
    · rw [List.getElem?_set_ne (Ne.symm e)] at hu
      exact c2.src j u hu
theorem rngL_nat (n : Nat) : rngL 0 n = (List.range n).map fun i => D.int (i : Nat) := by
  unfold rngL
  congr 1
  funext i
  rw [Int.zero_add]
theorem rngL_rng' (n : Nat) : rngL 0 n = (List.range' 0 n).map fun i => D.int ((i : Nat) : Int) := by rw [rngL_nat, List.range_eq_range']
/-- the ints of an order -/
theorem ord_ints {n : Nat} {ys : List D} (p : ys.Perm (rngL 0 n)) : ∃ o : List Int, ys = o.map .int ∧ o.Nodup ∧ o.length = n ∧ ∀ i ∈ o, 0 ≤ i ∧ i < n := by
  rw [rngL_nat] at p
  have e : ((List.range n).map fun i => D.int ((i : Nat) : Int)) = ((List.range n).map fun i => ((i : Nat) : Int)).map .int := by rw [List.map_map]; rfl
  rw [e] at p
  have hm : ∀ y ∈ ys, ∃ i : Int, y = .int i := fun y hy => by
    obtain ⟨i, _, rfl⟩ := List.mem_map.mp (p.mem_iff.mp hy)
    exact ⟨i, rfl⟩
  obtain ⟨o, rfl⟩ : ∃ o : List Int, ys = o.map .int := by
    clear p
    induction ys with
    | nil => exact ⟨[], rfl⟩
    | cons y r ih =>
      obtain ⟨i, rfl⟩ := hm y List.mem_cons_self
      obtain ⟨o, rfl⟩ := ih fun z hz => hm z (List.mem_cons_of_mem _ hz)
      exact ⟨i :: o, rfl⟩
  have q : o.Perm ((List.range n).map fun i => ((i : Nat) : Int)) := by
    have := p.filterMap isI
    rw [List.filterMap_map, List.filterMap_map] at this
    have e1 : (isI ∘ D.int) = some := rfl
    rw [e1, List.filterMap_some, List.filterMap_some] at this
    exact this
  refine ⟨o, rfl, q.nodup_iff.mpr ?_, by rw [q.length_eq, List.length_map, List.length_range], fun i hi => ?_⟩
  · exact List.Pairwise.map _ (fun a b h => by omega) (List.nodup_range (n := n))
  · obtain ⟨j, hj, rfl⟩ := List.mem_map.mp (q.mem_iff.mp hi)
    have := List.mem_range.mp hj
    omega
theorem nodup_at {o : List Int} (h : o.Nodup) {a b : Nat} {v : Int} (ha : o[a]? = some v) (hb : o[b]? = some v) : a = b := by
  obtain ⟨h1, e1⟩ := List.getElem?_eq_some_iff.mp ha
  obtain ⟨h2, e2⟩ := List.getElem?_eq_some_iff.mp hb
  have hp := List.pairwise_iff_getElem.mp h
  rcases Nat.lt_trichotomy a b with q | q | q
  · exact absurd (e1.trans e2.symm) (hp a b h1 h2 q)
  · exact q
  · exact absurd (e2.trans e1.symm) (hp b a h2 h1 q)
theorem some_nodup : ∀ (f : List (Option Int)), (∀ (i j : Nat) v, f[i]? = some (some v) → f[j]? = some (some v) → i = j) → ((f.map oI).filterMap isI).Nodup
  | [], _ => List.nodup_nil
  | none :: r, h => by
    show ((r.map oI).filterMap isI).Nodup
    exact some_nodup r fun i j v h1 h2 => by
      have := h (i + 1) (j + 1) v h1 h2
      omega
  | some v :: r, h => by
    show (v :: (r.map oI).filterMap isI).Nodup
    refine List.nodup_cons.mpr ⟨fun hv => ?_, some_nodup r fun i j v h1 h2 => by
      have := h (i + 1) (j + 1) v h1 h2
      omega⟩
    obtain ⟨d, hd, e⟩ := List.mem_filterMap.mp hv
    obtain ⟨o, ho, rfl⟩ := List.mem_map.mp hd
    cases o with
    | none => cases e
    | some w =>
      have ew : w = v := Option.some.inj e
      subst ew
      obtain ⟨j, hj⟩ := List.getElem?_of_mem ho
      have := h 0 (j + 1) w rfl hj
      omega
theorem sortI_lt {l : List Int} (h : l.Nodup) : (sortI l).Pairwise (· < ·) := by
  have h1 := sortI_sorted l
  have h2 : (sortI l).Nodup := (sortI_perm l).nodup_iff.mpr h
  have := h1.and h2
  exact this.imp fun ⟨a, b⟩ => Int.lt_iff_le_and_ne.mpr ⟨a, b⟩
theorem CInv.ok {top posts : Int} {persons k b : Nat} {order spots : List Int} {fill : List (Option Int)} {inner : List (List Int)} (c : CInv posts persons order spots k b fill inner) (ho : order.Nodup) (hs : spots.Nodup) (h0 : 0 ≤ posts) (h1 : posts ≤ top) (h2 : (persons : Int) ≤ top) :
    CaseOk top posts (inner.map fun s => sortI (dedI s)) fill := by
  refine ⟨h0, h1, by rw [List.length_map, c.il]; exact h2, fun s hs => ?_, ?_⟩
  · obtain ⟨t, ht, rfl⟩ := List.mem_map.mp hs
    obtain ⟨i, hi⟩ := List.getElem?_of_mem ht
    refine ⟨sortI_lt (nodup_dedI t), fun v hv => c.rg i t hi v (mem_dedI.mp ((sortI_perm _).mem_iff.mp hv))⟩
  · unfold rightD filD
    simp only [Bool.and_eq_true, decide_eq_true_eq]
    refine ⟨⟨by rw [List.length_map, List.length_map, c.fl, c.il], List.all_eq_true.mpr fun p hp => ?_⟩, some_nodup fill fun i j v h1 h2 => ?_⟩
    · have hx := mem_zipIdx0 hp
      rw [List.getElem?_map] at hx
      cases e : fill[p.2]? with
      | none => rw [e] at hx; cases hx
      | some o =>
        rw [e] at hx
        have ep : oI o = p.1 := Option.some.inj hx
        rw [← ep]
        cases o with
        | none => rfl
        | some v =>
          obtain ⟨s, h1, h2⟩ := c.sub p.2 v e
          show decide (v ∈ (inner.map fun s => sortI (dedI s)).getD p.2 []) = true
          rw [decide_eq_true_eq, List.getD_eq_getElem?_getD, List.getElem?_map, h1]
          exact (sortI_perm _).mem_iff.mpr (mem_dedI.mpr h2)
    · obtain ⟨a, _, a1, a2⟩ := c.src i v h1
      obtain ⟨b, _, b1, b2⟩ := c.src j v h2
      have := nodup_at hs a2 b2
      subst this
      rw [a1] at b1
      have := Option.some.inj b1
      omega
theorem rep_flat : ∀ persons : Nat, (List.replicate persons [D.non]).flatten = (List.replicate persons (none : Option Int)).map oI
  | 0 => rfl
  | k + 1 => by rw [List.replicate_succ, List.replicate_succ, List.flatten_cons, rep_flat k]; rfl
theorem CInv.start {posts : Int} {persons : Nat} {order spots : List Int} : CInv posts persons order spots 0 0 (List.replicate persons none) (List.replicate persons []) := by
  refine ⟨by simp, by simp, fun i s hs => ?_, fun i v hv => ?_, fun i v hv => ?_, fun i s hs => ?_⟩
  · have := List.mem_of_getElem? hs
    rw [List.eq_of_mem_replicate this]
    intro v hv; cases hv
  · have := List.eq_of_mem_replicate (List.mem_of_getElem? hv)
    cases this
  · have := List.eq_of_mem_replicate (List.mem_of_getElem? hv)
    cases this
  · rw [List.eq_of_mem_replicate (List.mem_of_getElem? hs)]; exact Nat.le_refl _
theorem cons_range {j r : Nat} {x : D} {l : List D} (e : x :: l = (List.range' j r).map fun i => D.int ((i : Nat) : Int)) : ∃ r', r = r' + 1 ∧ x = .int (j : Nat) ∧ l = (List.range' (j + 1) r').map fun i => D.int ((i : Nat) : Int) := by
  cases r with
  | zero => cases e
  | succ r =>
    rw [List.range'_succ, List.map_cons] at e
    injection e with e1 e2
    exact ⟨r, rfl, e1, e2⟩
theorem nil_range {j r : Nat} (e : [] = (List.range' j r).map fun i => D.int ((i : Nat) : Int)) : r = 0 := by
  cases r with
  | zero => rfl
  | succ r => rw [List.range'_succ] at e; cases e
theorem inc_len {m : Int} : ∀ {l : List Int} {a : Int}, l.Pairwise (· < ·) → (∀ i ∈ l, a ≤ i ∧ i < m) → a ≤ m → (l.length : Int) ≤ m - a
  | [], a, _, _, h => by simp; omega
  | x :: r, a, hp, hi, h => by
    obtain ⟨h1, h2⟩ := List.pairwise_cons.mp hp
    obtain ⟨x0, x1⟩ := hi x List.mem_cons_self
    have := inc_len (l := r) (a := x + 1) h2 (fun i hr => ⟨by have := h1 i hr; omega, (hi i (List.mem_cons_of_mem _ hr)).2⟩) (by omega)
    rw [List.length_cons]
    omega
theorem pl__law_case (ds : List D) (h : DH) (Q : VD) (E : ED) (w : sp__law_case ds h Q E) : popW (bodyD 16 t__law_case) ds h Q E := by
  obtain ⟨n, top, rfl, hI, ht0, ht1, q⟩ := w
  intro _ wf
  unfold popF t__law_case bodyD
  refine sSeq_i fun N hN => ?_
  simp only [dEq_int, dNe_int, dEq_bl, dNe_bl, bodyD, startD, sNext, sBreak, sCont, sDrop, sRet, sRetN, sSet, sPar, sAsg, sSub, sFldD, iSeq, iCall, wEnum, wRange1, wRange2, wz_tup, eComp, eCompR, eComp2, eComp2R, gN, gT, gTcons, gTnil, tTst, tNotD, tAndD, tOrD, eNotV, eAndV, eOrV, eIf, eNil, eCons, eTup, eLst, eRef, eFrz, eCall, eFn, eMkV_eq, eMk, eFld, eSl, oNone, oSome, eOp2, eOp1, eChain, dAdd, dInt, dIntC, dIntB, dSub, dFdiv, dMod, dPow, dLt, dLe, dGt, dGe, dMul, dMulR, dMulT, dIs, dIx, isNon_oI, isNon_non, isNon_int, isNon_bl, isNon_str, isNon_ty, isNon_tup, isNon_lst, isNon_scr, isNon_dic, isNon_obj, isNon_ref, isNon_glb, isNon_exc, isNon_book, eVar, eC, fLen, fAbs, fInt, fMax2, fMin2, fIntsI, fSorted, fTuple, fList, fListR, eLenSet, eSortedSet, eTupRg, eLstRg, eRefRg, rg1, rg2, tYesD, sRaise, sRaiseF, eM, KD.E, wipeD, ins_book, fget_posts, fget_may, mem_Book, it_tup, it_lst, it_scr, it_ref, it_may, it_fil, it_int, it_str, lo_lst, lo_tup, lo_int, lo_ref, li_lst, li_scr, li_tup, li_ref, true_and, List.set_cons_zero, List.set_cons_succ, List.getElem?_cons_zero, List.getElem?_cons_succ, List.map_cons, List.map_nil, List.length_cons, List.length_nil, List.replicate_succ, List.replicate_zero, List.cons_append, List.nil_append, List.zip_cons_cons, List.zip_nil_left, List.foldl_cons, List.foldl_nil, Nat.reduceSub, Nat.reduceAdd, Nat.zero_add, brB_t, brB_f, Bool.not_true, Bool.not_false, if_true, if_false, Bool.false_eq_true, ↓reduceIte]
  refine ⟨n, _, rfl, hI, by omega, by omega, fun posts h1 p0 p1 d1 => ⟨n, _, rfl, d1.2.2, by omega, by omega, fun persons' h2 r0 r1 d2 => ⟨n, _, rfl, d2.2.2, by omega, by omega, fun shape h3 _ _ d3 => hN _ _ ?_⟩⟩⟩
  obtain ⟨persons, rfl⟩ : ∃ persons : Nat, persons' = persons := ⟨persons'.toNat, by omega⟩
  have dr3 := (d1.trans d2).trans d3
  clear d1 d2 d3
  refine sSeq_i fun N2 hN2 => ?_
  simp only [dEq_int, dNe_int, dEq_bl, dNe_bl, bodyD, startD, sNext, sBreak, sCont, sDrop, sRet, sRetN, sSet, sPar, sAsg, sSub, sFldD, iSeq, iCall, wEnum, wRange1, wRange2, wz_tup, eComp, eCompR, eComp2, eComp2R, gN, gT, gTcons, gTnil, tTst, tNotD, tAndD, tOrD, eNotV, eAndV, eOrV, eIf, eNil, eCons, eTup, eLst, eRef, eFrz, eCall, eFn, eMkV_eq, eMk, eFld, eSl, oNone, oSome, eOp2, eOp1, eChain, dAdd, dInt, dIntC, dIntB, dSub, dFdiv, dMod, dPow, dLt, dLe, dGt, dGe, dMul, dMulR, dMulT, dIs, dIx, isNon_oI, isNon_non, isNon_int, isNon_bl, isNon_str, isNon_ty, isNon_tup, isNon_lst, isNon_scr, isNon_dic, isNon_obj, isNon_ref, isNon_glb, isNon_exc, isNon_book, eVar, eC, fLen, fAbs, fInt, fMax2, fMin2, fIntsI, fSorted, fTuple, fList, fListR, eLenSet, eSortedSet, eTupRg, eLstRg, eRefRg, rg1, rg2, tYesD, sRaise, sRaiseF, eM, KD.E, wipeD, ins_book, fget_posts, fget_may, mem_Book, it_tup, it_lst, it_scr, it_ref, it_may, it_fil, it_int, it_str, lo_lst, lo_tup, lo_int, lo_ref, li_lst, li_scr, li_tup, li_ref, true_and, List.set_cons_zero, List.set_cons_succ, List.getElem?_cons_zero, List.getElem?_cons_succ, List.map_cons, List.map_nil, List.length_cons, List.length_nil, List.replicate_succ, List.replicate_zero, List.cons_append, List.nil_append, List.zip_cons_cons, List.zip_nil_left, List.foldl_cons, List.foldl_nil, Nat.reduceSub, Nat.reduceAdd, Nat.zero_add, brB_t, brB_f, Bool.not_true, Bool.not_false, if_true, if_false, Bool.false_eq_true, ↓reduceIte]
  refine ⟨⟨by omega, by omega, by omega, by omega, by omega⟩, n, _, _, rfl, dr3.2.2, rfl, (fun e => by cases e), by rw [rngL_eq, List.length_map, List.length_range]; omega, fun ys h4 py d4 => ⟨⟨by omega, by omega, by omega, by omega, by omega⟩, n, _, _, rfl, d4.2.2.app, rfl, (fun e => by cases e), by rw [rngL_eq, List.length_map, List.length_range]; omega, fun zs h5 pz d5 => hN2 _ _ ?_⟩⟩
  obtain ⟨h6, rfl, d6⟩ := Drawn.app d4.2.2 d5
  have dr6 := (dr3.trans d4).trans d6
  have L := dr6.1
  have L3 := dr3.1
  rw [Int.sub_zero, Int.toNat_natCast] at py
  rw [Int.sub_zero] at pz
  obtain ⟨order, rfl, on, ol, oi⟩ := ord_ints py
  obtain ⟨spots, rfl, sn, sl, si⟩ := ord_ints pz
  have eord : ∀ t : DH, h6 ++ [.lst (order.map .int)] ++ t = h6 ++ (.lst (order.map .int) :: t) := fun t => by rw [List.append_assoc]; rfl
  rw [show (h4 ++ [O.lst (List.map D.int order)]).length = h.length + 1 by rw [List.length_append, d4.1, L3]; rfl, L3, eord]
  simp only [dEq_int, dNe_int, dEq_bl, dNe_bl, bodyD, startD, sNext, sBreak, sCont, sDrop, sRet, sRetN, sSet, sPar, sAsg, sSub, sFldD, iSeq, iCall, wEnum, wRange1, wRange2, wz_tup, eComp, eCompR, eComp2, eComp2R, gN, gT, gTcons, gTnil, tTst, tNotD, tAndD, tOrD, eNotV, eAndV, eOrV, eIf, eNil, eCons, eTup, eLst, eRef, eFrz, eCall, eFn, eMkV_eq, eMk, eFld, eSl, oNone, oSome, eOp2, eOp1, eChain, dAdd, dInt, dIntC, dIntB, dSub, dFdiv, dMod, dPow, dLt, dLe, dGt, dGe, dMul, dMulR, dMulT, dIs, dIx, isNon_oI, isNon_non, isNon_int, isNon_bl, isNon_str, isNon_ty, isNon_tup, isNon_lst, isNon_scr, isNon_dic, isNon_obj, isNon_ref, isNon_glb, isNon_exc, isNon_book, eVar, eC, fLen, fAbs, fInt, fMax2, fMin2, fIntsI, fSorted, fTuple, fList, fListR, eLenSet, eSortedSet, eTupRg, eLstRg, eRefRg, rg1, rg2, tYesD, sRaise, sRaiseF, eM, KD.E, wipeD, ins_book, fget_posts, fget_may, mem_Book, it_tup, it_lst, it_scr, it_ref, it_may, it_fil, it_int, it_str, lo_lst, lo_tup, lo_int, lo_ref, li_lst, li_scr, li_tup, li_ref, true_and, List.set_cons_zero, List.set_cons_succ, List.getElem?_cons_zero, List.getElem?_cons_succ, List.map_cons, List.map_nil, List.length_cons, List.length_nil, List.replicate_succ, List.replicate_zero, List.cons_append, List.nil_append, List.zip_cons_cons, List.zip_nil_left, List.foldl_cons, List.foldl_nil, Nat.reduceSub, Nat.reduceAdd, Nat.zero_add, brB_t, brB_f, Bool.not_true, Bool.not_false, if_true, if_false, Bool.false_eq_true, ↓reduceIte]
  refine sSeq_i fun N3 hN3 => ?_
  simp only [dEq_int, dNe_int, dEq_bl, dNe_bl, bodyD, startD, sNext, sBreak, sCont, sDrop, sRet, sRetN, sSet, sPar, sAsg, sSub, sFldD, iSeq, iCall, wEnum, wRange1, wRange2, wz_tup, eComp, eCompR, eComp2, eComp2R, gN, gT, gTcons, gTnil, tTst, tNotD, tAndD, tOrD, eNotV, eAndV, eOrV, eIf, eNil, eCons, eTup, eLst, eRef, eFrz, eCall, eFn, eMkV_eq, eMk, eFld, eSl, oNone, oSome, eOp2, eOp1, eChain, dAdd, dInt, dIntC, dIntB, dSub, dFdiv, dMod, dPow, dLt, dLe, dGt, dGe, dMul, dMulR, dMulT, dIs, dIx, isNon_oI, isNon_non, isNon_int, isNon_bl, isNon_str, isNon_ty, isNon_tup, isNon_lst, isNon_scr, isNon_dic, isNon_obj, isNon_ref, isNon_glb, isNon_exc, isNon_book, eVar, eC, fLen, fAbs, fInt, fMax2, fMin2, fIntsI, fSorted, fTuple, fList, fListR, eLenSet, eSortedSet, eTupRg, eLstRg, eRefRg, rg1, rg2, tYesD, sRaise, sRaiseF, eM, KD.E, wipeD, ins_book, fget_posts, fget_may, mem_Book, it_tup, it_lst, it_scr, it_ref, it_may, it_fil, it_int, it_str, lo_lst, lo_tup, lo_int, lo_ref, li_lst, li_scr, li_tup, li_ref, true_and, List.set_cons_zero, List.set_cons_succ, List.getElem?_cons_zero, List.getElem?_cons_succ, List.map_cons, List.map_nil, List.length_cons, List.length_nil, List.replicate_succ, List.replicate_zero, List.cons_append, List.nil_append, List.zip_cons_cons, List.zip_nil_left, List.foldl_cons, List.foldl_nil, Nat.reduceSub, Nat.reduceAdd, Nat.zero_add, brB_t, brB_f, Bool.not_true, Bool.not_false, if_true, if_false, Bool.false_eq_true, ↓reduceIte]
  refine hN3 _ _ ?_
  obtain ⟨m0, em0, m00, m01, m02⟩ : ∃ m0 : Int, (if (persons : Int) < posts then (persons : Int) else posts) = m0 ∧ 0 ≤ m0 ∧ m0 ≤ posts ∧ m0 ≤ persons := ⟨_, rfl, by split <;> omega, by split <;> omega, by split <;> omega⟩
  simp only [em0]
  refine sSeq_i fun N4 hN4 => ?_
  simp only [dEq_int, dNe_int, dEq_bl, dNe_bl, bodyD, startD, sNext, sBreak, sCont, sDrop, sRet, sRetN, sSet, sPar, sAsg, sSub, sFldD, iSeq, iCall, wEnum, wRange1, wRange2, wz_tup, eComp, eCompR, eComp2, eComp2R, gN, gT, gTcons, gTnil, tTst, tNotD, tAndD, tOrD, eNotV, eAndV, eOrV, eIf, eNil, eCons, eTup, eLst, eRef, eFrz, eCall, eFn, eMkV_eq, eMk, eFld, eSl, oNone, oSome, eOp2, eOp1, eChain, dAdd, dInt, dIntC, dIntB, dSub, dFdiv, dMod, dPow, dLt, dLe, dGt, dGe, dMul, dMulR, dMulT, dIs, dIx, isNon_oI, isNon_non, isNon_int, isNon_bl, isNon_str, isNon_ty, isNon_tup, isNon_lst, isNon_scr, isNon_dic, isNon_obj, isNon_ref, isNon_glb, isNon_exc, isNon_book, eVar, eC, fLen, fAbs, fInt, fMax2, fMin2, fIntsI, fSorted, fTuple, fList, fListR, eLenSet, eSortedSet, eTupRg, eLstRg, eRefRg, rg1, rg2, tYesD, sRaise, sRaiseF, eM, KD.E, wipeD, ins_book, fget_posts, fget_may, mem_Book, it_tup, it_lst, it_scr, it_ref, it_may, it_fil, it_int, it_str, lo_lst, lo_tup, lo_int, lo_ref, li_lst, li_scr, li_tup, li_ref, true_and, List.set_cons_zero, List.set_cons_succ, List.getElem?_cons_zero, List.getElem?_cons_succ, List.map_cons, List.map_nil, List.length_cons, List.length_nil, List.replicate_succ, List.replicate_zero, List.cons_append, List.nil_append, List.zip_cons_cons, List.zip_nil_left, List.foldl_cons, List.foldl_nil, Nat.reduceSub, Nat.reduceAdd, Nat.zero_add, brB_t, brB_f, Bool.not_true, Bool.not_false, if_true, if_false, Bool.false_eq_true, ↓reduceIte]
  refine ⟨n, _, rfl, d6.2.2.app, by omega, by omega, fun m1 h7 _ m1l d7 => ?_⟩
  obtain ⟨h8, rfl, d8⟩ := Drawn.app d6.2.2 d7
  refine ⟨n, _, _, rfl, d8.2.2.app, rfl, (fun e => by cases e), by show 0 < 5; decide, by show 5 < 1073741824; decide, fun y hy h9 d9 => hN4 _ _ ?_⟩
  obtain ⟨ha, rfl, da⟩ := Drawn.app d8.2.2 d9
  obtain ⟨many, rfl, hm0, hm1⟩ : ∃ many : Nat, y = .int (many : Nat) ∧ (many : Int) ≤ posts ∧ many ≤ persons := by
    simp only [List.mem_cons, List.not_mem_nil, or_false] at hy
    rcases hy with rfl | rfl | rfl | rfl | rfl
    · exact ⟨m0.toNat, by congr 1; omega, by omega, by omega⟩
    · exact ⟨m0.toNat, by congr 1; omega, by omega, by omega⟩
    · exact ⟨m0.toNat, by congr 1; omega, by omega, by omega⟩
    · exact ⟨(if m0 - 1 > 0 then m0 - 1 else 0).toNat, by congr 1; split <;> omega, by split <;> omega, by split <;> omega⟩
    · exact ⟨m1.toNat, by congr 1; omega, by omega, by omega⟩
  have drA := (dr6.trans d8).trans da
  have LA := drA.1
  clear d7 d9 d8 da d6
  refine sSeq_i fun N5 hN5 => ?_
  simp only [dEq_int, dNe_int, dEq_bl, dNe_bl, bodyD, startD, sNext, sBreak, sCont, sDrop, sRet, sRetN, sSet, sPar, sAsg, sSub, sFldD, iSeq, iCall, wEnum, wRange1, wRange2, wz_tup, eComp, eCompR, eComp2, eComp2R, gN, gT, gTcons, gTnil, tTst, tNotD, tAndD, tOrD, eNotV, eAndV, eOrV, eIf, eNil, eCons, eTup, eLst, eRef, eFrz, eCall, eFn, eMkV_eq, eMk, eFld, eSl, oNone, oSome, eOp2, eOp1, eChain, dAdd, dInt, dIntC, dIntB, dSub, dFdiv, dMod, dPow, dLt, dLe, dGt, dGe, dMul, dMulR, dMulT, dIs, dIx, isNon_oI, isNon_non, isNon_int, isNon_bl, isNon_str, isNon_ty, isNon_tup, isNon_lst, isNon_scr, isNon_dic, isNon_obj, isNon_ref, isNon_glb, isNon_exc, isNon_book, eVar, eC, fLen, fAbs, fInt, fMax2, fMin2, fIntsI, fSorted, fTuple, fList, fListR, eLenSet, eSortedSet, eTupRg, eLstRg, eRefRg, rg1, rg2, tYesD, sRaise, sRaiseF, eM, KD.E, wipeD, ins_book, fget_posts, fget_may, mem_Book, it_tup, it_lst, it_scr, it_ref, it_may, it_fil, it_int, it_str, lo_lst, lo_tup, lo_int, lo_ref, li_lst, li_scr, li_tup, li_ref, true_and, List.set_cons_zero, List.set_cons_succ, List.getElem?_cons_zero, List.getElem?_cons_succ, List.map_cons, List.map_nil, List.length_cons, List.length_nil, List.replicate_succ, List.replicate_zero, List.cons_append, List.nil_append, List.zip_cons_cons, List.zip_nil_left, List.foldl_cons, List.foldl_nil, Nat.reduceSub, Nat.reduceAdd, Nat.zero_add, brB_t, brB_f, Bool.not_true, Bool.not_false, if_true, if_false, Bool.false_eq_true, ↓reduceIte]
  rw [Int.toNat_natCast, Nat.one_mul]
  refine ⟨by omega, by omega, size_le (by omega), ⟨by omega, by omega⟩, ?_⟩
  have ehp : ha ++ [O.lst (order.map D.int), O.lst (spots.map D.int)] ++ [O.lst (List.replicate persons [D.non]).flatten] = ha ++ cHeap order spots (List.replicate persons none) [] := by
    rw [rep_flat, List.append_assoc]; rfl
  rw [ehp, show (ha ++ [O.lst (order.map D.int), O.lst (spots.map D.int)]).length = h.length + 2 by rw [List.length_append, LA]; rfl]
  refine compL_ind (fun items acc hh => ∃ j, j + items.length = persons ∧ acc = (List.range j).map (fun i => D.ref (h.length + (i + 3))) ∧ hh = ha ++ cHeap order spots (List.replicate persons none) (List.replicate j [])) ?_ ?_ _ _ _
    ⟨0, by rw [rngL_eq, List.length_map, List.length_range, Nat.zero_add], rfl, rfl⟩
  · rintro acc hh ⟨j, hj, rfl, rfl⟩
    refine ⟨trivial, hN5 _ _ ?_⟩
    have ej : j = persons := by simpa using hj
    subst ej
    have hmay : ∀ p : Nat, p < j → atI ((List.range j).map (fun i => D.ref (h.length + (i + 3)))) (p : Int) = some (.ref (h.length + (p + 3))) := fun p hp =>
      atI_nat (by omega) (by rw [Int.toNat_natCast, List.getElem?_map, List.getElem?_range hp]; rfl)
    refine sSeq_i fun N6 hN6 => ?_
    refine sFor_i fun LL hLL => ?_
    simp only [dEq_int, dNe_int, dEq_bl, dNe_bl, bodyD, startD, sNext, sBreak, sCont, sDrop, sRet, sRetN, sSet, sPar, sAsg, sSub, sFldD, iSeq, iCall, wEnum, wRange1, wRange2, wz_tup, eComp, eCompR, eComp2, eComp2R, gN, gT, gTcons, gTnil, tTst, tNotD, tAndD, tOrD, eNotV, eAndV, eOrV, eIf, eNil, eCons, eTup, eLst, eRef, eFrz, eCall, eFn, eMkV_eq, eMk, eFld, eSl, oNone, oSome, eOp2, eOp1, eChain, dAdd, dInt, dIntC, dIntB, dSub, dFdiv, dMod, dPow, dLt, dLe, dGt, dGe, dMul, dMulR, dMulT, dIs, dIx, isNon_oI, isNon_non, isNon_int, isNon_bl, isNon_str, isNon_ty, isNon_tup, isNon_lst, isNon_scr, isNon_dic, isNon_obj, isNon_ref, isNon_glb, isNon_exc, isNon_book, eVar, eC, fLen, fAbs, fInt, fMax2, fMin2, fIntsI, fSorted, fTuple, fList, fListR, eLenSet, eSortedSet, eTupRg, eLstRg, eRefRg, rg1, rg2, tYesD, sRaise, sRaiseF, eM, KD.E, wipeD, ins_book, fget_posts, fget_may, mem_Book, it_tup, it_lst, it_scr, it_ref, it_may, it_fil, it_int, it_str, lo_lst, lo_tup, lo_int, lo_ref, li_lst, li_scr, li_tup, li_ref, true_and, List.set_cons_zero, List.set_cons_succ, List.getElem?_cons_zero, List.getElem?_cons_succ, List.map_cons, List.map_nil, List.length_cons, List.length_nil, List.replicate_succ, List.replicate_zero, List.cons_append, List.nil_append, List.zip_cons_cons, List.zip_nil_left, List.foldl_cons, List.foldl_nil, Nat.reduceSub, Nat.reduceAdd, Nat.zero_add, brB_t, brB_f, Bool.not_true, Bool.not_false, if_true, if_false, Bool.false_eq_true, ↓reduceIte]
    refine ⟨⟨by omega, by omega⟩, hLL _ _ _ ?_⟩
    rw [Int.toNat_natCast, rngL_rng']
    refine forL_ind (fun items sd hh => ∃ k r x fill inner, k + r = many ∧ items = (List.range' k r).map (fun i => D.int ((i : Nat) : Int)) ∧ sd = [some (.ref n), some (.int top), some (.int (many : Nat)), x, none, none, some (.int posts), some (.int (j : Nat)), some (.int shape), some (.ref h.length), some (.ref (h.length + 1)), some (.ref (h.length + 2)), some (.lst ((List.range j).map (fun i => D.ref (h.length + (i + 3))))), none, none, none] ∧
      hh = ha ++ cHeap order spots fill inner ∧ CInv posts j order spots k (2 * k) fill inner) ?_ ?_ _ _ _ ⟨0, many, none, _, _, Nat.zero_add _, rfl, rfl, rfl, CInv.start⟩
    · rintro sd hh ⟨k, r, x, fill, inner, hkr, hr, rfl, rfl, ci⟩
      refine ⟨trivial, hN6 _ _ ?_⟩
      have hr0 := nil_range hr
      subst hr0
      obtain rfl : k = many := hkr
      have hmany2 : 2 * k ≤ 24 := by omega
      have ci0 := ci.mono (Nat.le_refl k) hmany2
      clear ci hr
      refine sSeq_i fun N7 hN7 => ?_
      simp only [dEq_int, dNe_int, dEq_bl, dNe_bl, bodyD, startD, sNext, sBreak, sCont, sDrop, sRet, sRetN, sSet, sPar, sAsg, sSub, sFldD, iSeq, iCall, wEnum, wRange1, wRange2, wz_tup, eComp, eCompR, eComp2, eComp2R, gN, gT, gTcons, gTnil, tTst, tNotD, tAndD, tOrD, eNotV, eAndV, eOrV, eIf, eNil, eCons, eTup, eLst, eRef, eFrz, eCall, eFn, eMkV_eq, eMk, eFld, eSl, oNone, oSome, eOp2, eOp1, eChain, dAdd, dInt, dIntC, dIntB, dSub, dFdiv, dMod, dPow, dLt, dLe, dGt, dGe, dMul, dMulR, dMulT, dIs, dIx, isNon_oI, isNon_non, isNon_int, isNon_bl, isNon_str, isNon_ty, isNon_tup, isNon_lst, isNon_scr, isNon_dic, isNon_obj, isNon_ref, isNon_glb, isNon_exc, isNon_book, eVar, eC, fLen, fAbs, fInt, fMax2, fMin2, fIntsI, fSorted, fTuple, fList, fListR, eLenSet, eSortedSet, eTupRg, eLstRg, eRefRg, rg1, rg2, tYesD, sRaise, sRaiseF, eM, KD.E, wipeD, ins_book, fget_posts, fget_may, mem_Book, it_tup, it_lst, it_scr, it_ref, it_may, it_fil, it_int, it_str, lo_lst, lo_tup, lo_int, lo_ref, li_lst, li_scr, li_tup, li_ref, true_and, List.set_cons_zero, List.set_cons_succ, List.getElem?_cons_zero, List.getElem?_cons_succ, List.map_cons, List.map_nil, List.length_cons, List.length_nil, List.replicate_succ, List.replicate_zero, List.cons_append, List.nil_append, List.zip_cons_cons, List.zip_nil_left, List.foldl_cons, List.foldl_nil, Nat.reduceSub, Nat.reduceAdd, Nat.zero_add, brB_t, brB_f, Bool.not_true, Bool.not_false, if_true, if_false, Bool.false_eq_true, ↓reduceIte]
      refine ⟨n, _, _, rfl, drA.2.2.app, rfl, (fun e => by cases e), by show 0 < 4; decide, by show 4 < 1073741824; decide, fun y hy hb db => hN7 _ _ ?_⟩
      obtain ⟨hc, rfl, dc⟩ := Drawn.app drA.2.2 db
      obtain ⟨share, rfl, sh0, sh1⟩ : ∃ share : Int, y = .int share ∧ 2 ≤ share ∧ share ≤ 40 := by
        simp only [List.mem_cons, List.not_mem_nil, or_false] at hy
        rcases hy with rfl | rfl | rfl | rfl
        · exact ⟨2, rfl, by decide, by decide⟩
        · exact ⟨3, rfl, by decide, by decide⟩
        · exact ⟨6, rfl, by decide, by decide⟩
        · exact ⟨40, rfl, by decide, by decide⟩
      have drC := drA.trans dc
      clear db dc hy
      refine sSeq_i fun N8 hN8 => ?_
      refine sFor_i fun LL2 hLL2 => ?_
      simp only [dEq_int, dNe_int, dEq_bl, dNe_bl, bodyD, startD, sNext, sBreak, sCont, sDrop, sRet, sRetN, sSet, sPar, sAsg, sSub, sFldD, iSeq, iCall, wEnum, wRange1, wRange2, wz_tup, eComp, eCompR, eComp2, eComp2R, gN, gT, gTcons, gTnil, tTst, tNotD, tAndD, tOrD, eNotV, eAndV, eOrV, eIf, eNil, eCons, eTup, eLst, eRef, eFrz, eCall, eFn, eMkV_eq, eMk, eFld, eSl, oNone, oSome, eOp2, eOp1, eChain, dAdd, dInt, dIntC, dIntB, dSub, dFdiv, dMod, dPow, dLt, dLe, dGt, dGe, dMul, dMulR, dMulT, dIs, dIx, isNon_oI, isNon_non, isNon_int, isNon_bl, isNon_str, isNon_ty, isNon_tup, isNon_lst, isNon_scr, isNon_dic, isNon_obj, isNon_ref, isNon_glb, isNon_exc, isNon_book, eVar, eC, fLen, fAbs, fInt, fMax2, fMin2, fIntsI, fSorted, fTuple, fList, fListR, eLenSet, eSortedSet, eTupRg, eLstRg, eRefRg, rg1, rg2, tYesD, sRaise, sRaiseF, eM, KD.E, wipeD, ins_book, fget_posts, fget_may, mem_Book, it_tup, it_lst, it_scr, it_ref, it_may, it_fil, it_int, it_str, lo_lst, lo_tup, lo_int, lo_ref, li_lst, li_scr, li_tup, li_ref, true_and, List.set_cons_zero, List.set_cons_succ, List.getElem?_cons_zero, List.getElem?_cons_succ, List.map_cons, List.map_nil, List.length_cons, List.length_nil, List.replicate_succ, List.replicate_zero, List.cons_append, List.nil_append, List.zip_cons_cons, List.zip_nil_left, List.foldl_cons, List.foldl_nil, Nat.reduceSub, Nat.reduceAdd, Nat.zero_add, brB_t, brB_f, Bool.not_true, Bool.not_false, if_true, if_false, Bool.false_eq_true, ↓reduceIte]
      refine ⟨⟨by omega, by omega⟩, hLL2 _ _ _ ?_⟩
      rw [Int.toNat_natCast, rngL_rng']
      refine forL_ind (fun items sd hh => ∃ p r x5 x13 x14 hb inner, p + r = j ∧ items = (List.range' p r).map (fun i => D.int ((i : Nat) : Int)) ∧ sd = [some (.ref n), some (.int top), some (.int (k : Nat)), x, some (.int share), x5, some (.int posts), some (.int (j : Nat)), some (.int shape), some (.ref h.length), some (.ref (h.length + 1)), some (.ref (h.length + 2)), some (.lst ((List.range j).map (fun i => D.ref (h.length + (i + 3))))), x13, x14, none] ∧
        hh = hb ++ cHeap order spots fill inner ∧ Drawn h hb n ∧ CInv posts j order spots k (24 + 12 * p) fill inner) ?_ ?_ _ _ _ ⟨0, j, none, none, none, hc, inner, Nat.zero_add _, rfl, rfl, rfl, drC, ci0⟩
      · rintro sd hh ⟨p, r, x5, x13, x14, hb, inner, hpr, hr, rfl, rfl, dr, ci⟩
        refine ⟨trivial, hN8 _ _ ?_⟩
        have hr0 := nil_range hr
        subst hr0
        obtain rfl : p = j := hpr
        have LB := dr.1
        obtain ⟨g1, g2, g3⟩ := cGet (n := 0) (order := order) (spots := spots) (fill := fill) (inner := inner) LB
        simp only [dEq_int, dNe_int, dEq_bl, dNe_bl, bodyD, startD, sNext, sBreak, sCont, sDrop, sRet, sRetN, sSet, sPar, sAsg, sSub, sFldD, iSeq, iCall, wEnum, wRange1, wRange2, wz_tup, eComp, eCompR, eComp2, eComp2R, gN, gT, gTcons, gTnil, tTst, tNotD, tAndD, tOrD, eNotV, eAndV, eOrV, eIf, eNil, eCons, eTup, eLst, eRef, eFrz, eCall, eFn, eMkV_eq, eMk, eFld, eSl, oNone, oSome, eOp2, eOp1, eChain, dAdd, dInt, dIntC, dIntB, dSub, dFdiv, dMod, dPow, dLt, dLe, dGt, dGe, dMul, dMulR, dMulT, dIs, dIx, isNon_oI, isNon_non, isNon_int, isNon_bl, isNon_str, isNon_ty, isNon_tup, isNon_lst, isNon_scr, isNon_dic, isNon_obj, isNon_ref, isNon_glb, isNon_exc, isNon_book, eVar, eC, fLen, fAbs, fInt, fMax2, fMin2, fIntsI, fSorted, fTuple, fList, fListR, eLenSet, eSortedSet, eTupRg, eLstRg, eRefRg, rg1, rg2, tYesD, sRaise, sRaiseF, eM, KD.E, wipeD, ins_book, fget_posts, fget_may, mem_Book, it_tup, it_lst, it_scr, it_ref, it_may, it_fil, it_int, it_str, lo_lst, lo_tup, lo_int, lo_ref, li_lst, li_scr, li_tup, li_ref, true_and, List.set_cons_zero, List.set_cons_succ, List.getElem?_cons_zero, List.getElem?_cons_succ, List.map_cons, List.map_nil, List.length_cons, List.length_nil, List.replicate_succ, List.replicate_zero, List.cons_append, List.nil_append, List.zip_cons_cons, List.zip_nil_left, List.foldl_cons, List.foldl_nil, Nat.reduceSub, Nat.reduceAdd, Nat.zero_add, brB_t, brB_f, Bool.not_true, Bool.not_false, if_true, if_false, Bool.false_eq_true, ↓reduceIte]
        refine compL_map (α := Nat) _ (fun i => some (.tup ((sortI (dedI (inner.getD i []))).map .int))) trivial ?_ ?_
        · rw [List.nil_append, fm_some]
          simp only [dEq_int, dNe_int, dEq_bl, dNe_bl, bodyD, startD, sNext, sBreak, sCont, sDrop, sRet, sRetN, sSet, sPar, sAsg, sSub, sFldD, iSeq, iCall, wEnum, wRange1, wRange2, wz_tup, eComp, eCompR, eComp2, eComp2R, gN, gT, gTcons, gTnil, tTst, tNotD, tAndD, tOrD, eNotV, eAndV, eOrV, eIf, eNil, eCons, eTup, eLst, eRef, eFrz, eCall, eFn, eMkV_eq, eMk, eFld, eSl, oNone, oSome, eOp2, eOp1, eChain, dAdd, dInt, dIntC, dIntB, dSub, dFdiv, dMod, dPow, dLt, dLe, dGt, dGe, dMul, dMulR, dMulT, dIs, dIx, isNon_oI, isNon_non, isNon_int, isNon_bl, isNon_str, isNon_ty, isNon_tup, isNon_lst, isNon_scr, isNon_dic, isNon_obj, isNon_ref, isNon_glb, isNon_exc, isNon_book, eVar, eC, fLen, fAbs, fInt, fMax2, fMin2, fIntsI, fSorted, fTuple, fList, fListR, eLenSet, eSortedSet, eTupRg, eLstRg, eRefRg, rg1, rg2, tYesD, sRaise, sRaiseF, eM, KD.E, wipeD, ins_book, fget_posts, fget_may, mem_Book, it_tup, it_lst, it_scr, it_ref, it_may, it_fil, it_int, it_str, lo_lst, lo_tup, lo_int, lo_ref, li_lst, li_scr, li_tup, li_ref, true_and, List.set_cons_zero, List.set_cons_succ, List.getElem?_cons_zero, List.getElem?_cons_succ, List.map_cons, List.map_nil, List.length_cons, List.length_nil, List.replicate_succ, List.replicate_zero, List.cons_append, List.nil_append, List.zip_cons_cons, List.zip_nil_left, List.foldl_cons, List.foldl_nil, Nat.reduceSub, Nat.reduceAdd, Nat.zero_add, brB_t, brB_f, Bool.not_true, Bool.not_false, if_true, if_false, Bool.false_eq_true, ↓reduceIte, fTuple, g3]
          have em : (D.tup ((List.range p).map fun i => D.tup ((sortI (dedI (inner.getD i []))).map .int))) = mayD (inner.map fun s => sortI (dedI s)) := by
            unfold mayD
            congr 1
            rw [List.map_map]
            apply List.ext_getElem?
            intro i
            rw [List.getElem?_map, List.getElem?_map]
            by_cases hi : i < p
            · rw [List.getElem?_range hi, List.getElem?_eq_getElem (by rw [ci.il]; exact hi)]
              simp [List.getD_eq_getElem?_getD, List.getElem?_eq_getElem (show i < inner.length by rw [ci.il]; exact hi)]
            · rw [List.getElem?_eq_none (by rw [List.length_range]; omega), List.getElem?_eq_none (by rw [ci.il]; omega)]; rfl
          rw [em]
          obtain ⟨t1, t2⟩ := Drawn.take (t := cHeap order spots fill inner) wf dr
          have nrm : ∀ m : List (List Int), nrD h.length (mayD m) = true := fun m => by
            unfold mayD
            simp only [nrD]
            refine nrDs_iff.mpr fun d hd => ?_
            obtain ⟨s, _, rfl⟩ := List.mem_map.mp hd
            exact nrDs_ints s
          refine ⟨?_, t1, by rw [List.length_append]; omega, ?_⟩
          · simp only [nrD, nrDs, Bool.and_true, Bool.true_and, Bool.and_eq_true]
            exact ⟨nrm _, nrDs_oI fill⟩
          · rw [t2]
            exact q posts _ fill hb (ci.ok on sn p0 (by omega) (by omega)) dr
        · intro i hi N acc hN
          have hi := List.mem_range.mp hi
          have hs : inner[i]? = some (inner.getD i []) := by
            rw [List.getD_eq_getElem?_getD, List.getElem?_eq_getElem (show i < inner.length by rw [ci.il]; exact hi)]; rfl
          have gi := cIn (order := order) (spots := spots) (fill := fill) LB hs
          have hii : intsIn (.ref (h.length + (i + 3))) (hb ++ cHeap order spots fill inner) = some (inner.getD i []) := by
            unfold intsIn
            rw [it_ref, gi]
            exact intsOf_map _
          simp only [dEq_int, dNe_int, dEq_bl, dNe_bl, bodyD, startD, sNext, sBreak, sCont, sDrop, sRet, sRetN, sSet, sPar, sAsg, sSub, sFldD, iSeq, iCall, wEnum, wRange1, wRange2, wz_tup, eComp, eCompR, eComp2, eComp2R, gN, gT, gTcons, gTnil, tTst, tNotD, tAndD, tOrD, eNotV, eAndV, eOrV, eIf, eNil, eCons, eTup, eLst, eRef, eFrz, eCall, eFn, eMkV_eq, eMk, eFld, eSl, oNone, oSome, eOp2, eOp1, eChain, dAdd, dInt, dIntC, dIntB, dSub, dFdiv, dMod, dPow, dLt, dLe, dGt, dGe, dMul, dMulR, dMulT, dIs, dIx, isNon_oI, isNon_non, isNon_int, isNon_bl, isNon_str, isNon_ty, isNon_tup, isNon_lst, isNon_scr, isNon_dic, isNon_obj, isNon_ref, isNon_glb, isNon_exc, isNon_book, eVar, eC, fLen, fAbs, fInt, fMax2, fMin2, fIntsI, fSorted, fTuple, fList, fListR, eLenSet, eSortedSet, eTupRg, eLstRg, eRefRg, rg1, rg2, tYesD, sRaise, sRaiseF, eM, KD.E, wipeD, ins_book, fget_posts, fget_may, mem_Book, it_tup, it_lst, it_scr, it_ref, it_may, it_fil, it_int, it_str, lo_lst, lo_tup, lo_int, lo_ref, li_lst, li_scr, li_tup, li_ref, true_and, List.set_cons_zero, List.set_cons_succ, List.getElem?_cons_zero, List.getElem?_cons_succ, List.map_cons, List.map_nil, List.length_cons, List.length_nil, List.replicate_succ, List.replicate_zero, List.cons_append, List.nil_append, List.zip_cons_cons, List.zip_nil_left, List.foldl_cons, List.foldl_nil, Nat.reduceSub, Nat.reduceAdd, Nat.zero_add, brB_t, brB_f, Bool.not_true, Bool.not_false, if_true, if_false, Bool.false_eq_true, ↓reduceIte, hii, fTuple]
          have hl := ci.ln i _ hs
          have hd : ((dedI (inner.getD i [])).length : Int) ≤ posts - 0 := by
            rw [← (sortI_perm (dedI (inner.getD i []))).length_eq]
            exact inc_len (sortI_lt (nodup_dedI _)) (fun v hv => ci.rg i _ hs v (mem_dedI.mp ((sortI_perm _).mem_iff.mp hv))) p0
          exact ⟨by omega, by omega, hN⟩
      · rintro y l sd hh N ⟨p, r, x5, x13, x14, hb, inner, hpr, hr, rfl, rfl, dr, ci⟩ hN
        obtain ⟨r, rfl, rfl, rfl⟩ := cons_range hr
        refine ⟨trivial, ?_⟩
        simp only [dEq_int, dNe_int, dEq_bl, dNe_bl, bodyD, startD, sNext, sBreak, sCont, sDrop, sRet, sRetN, sSet, sPar, sAsg, sSub, sFldD, iSeq, iCall, wEnum, wRange1, wRange2, wz_tup, eComp, eCompR, eComp2, eComp2R, gN, gT, gTcons, gTnil, tTst, tNotD, tAndD, tOrD, eNotV, eAndV, eOrV, eIf, eNil, eCons, eTup, eLst, eRef, eFrz, eCall, eFn, eMkV_eq, eMk, eFld, eSl, oNone, oSome, eOp2, eOp1, eChain, dAdd, dInt, dIntC, dIntB, dSub, dFdiv, dMod, dPow, dLt, dLe, dGt, dGe, dMul, dMulR, dMulT, dIs, dIx, isNon_oI, isNon_non, isNon_int, isNon_bl, isNon_str, isNon_ty, isNon_tup, isNon_lst, isNon_scr, isNon_dic, isNon_obj, isNon_ref, isNon_glb, isNon_exc, isNon_book, eVar, eC, fLen, fAbs, fInt, fMax2, fMin2, fIntsI, fSorted, fTuple, fList, fListR, eLenSet, eSortedSet, eTupRg, eLstRg, eRefRg, rg1, rg2, tYesD, sRaise, sRaiseF, eM, KD.E, wipeD, ins_book, fget_posts, fget_may, mem_Book, it_tup, it_lst, it_scr, it_ref, it_may, it_fil, it_int, it_str, lo_lst, lo_tup, lo_int, lo_ref, li_lst, li_scr, li_tup, li_ref, true_and, List.set_cons_zero, List.set_cons_succ, List.getElem?_cons_zero, List.getElem?_cons_succ, List.map_cons, List.map_nil, List.length_cons, List.length_nil, List.replicate_succ, List.replicate_zero, List.cons_append, List.nil_append, List.zip_cons_cons, List.zip_nil_left, List.foldl_cons, List.foldl_nil, Nat.reduceSub, Nat.reduceAdd, Nat.zero_add, brB_t, brB_f, Bool.not_true, Bool.not_false, if_true, if_false, Bool.false_eq_true, ↓reduceIte]
        refine sSeq_inv (fun sd hh => ∃ (below : Int) (hb : DH), sd = [some (.ref n), some (.int top), some (.int (k : Nat)), x, some (.int share), some (.int (p : Nat)), some (.int posts), some (.int (j : Nat)), some (.int shape), some (.ref h.length), some (.ref (h.length + 1)), some (.ref (h.length + 2)), some (.lst ((List.range j).map (fun i => D.ref (h.length + (i + 3))))), some (.int below), x14, none] ∧
          hh = hb ++ cHeap order spots fill inner ∧ Drawn h hb n) (fun N2 hN2 => ?_) ?_
        · simp only [dEq_int, dNe_int, dEq_bl, dNe_bl, bodyD, startD, sNext, sBreak, sCont, sDrop, sRet, sRetN, sSet, sPar, sAsg, sSub, sFldD, iSeq, iCall, wEnum, wRange1, wRange2, wz_tup, eComp, eCompR, eComp2, eComp2R, gN, gT, gTcons, gTnil, tTst, tNotD, tAndD, tOrD, eNotV, eAndV, eOrV, eIf, eNil, eCons, eTup, eLst, eRef, eFrz, eCall, eFn, eMkV_eq, eMk, eFld, eSl, oNone, oSome, eOp2, eOp1, eChain, dAdd, dInt, dIntC, dIntB, dSub, dFdiv, dMod, dPow, dLt, dLe, dGt, dGe, dMul, dMulR, dMulT, dIs, dIx, isNon_oI, isNon_non, isNon_int, isNon_bl, isNon_str, isNon_ty, isNon_tup, isNon_lst, isNon_scr, isNon_dic, isNon_obj, isNon_ref, isNon_glb, isNon_exc, isNon_book, eVar, eC, fLen, fAbs, fInt, fMax2, fMin2, fIntsI, fSorted, fTuple, fList, fListR, eLenSet, eSortedSet, eTupRg, eLstRg, eRefRg, rg1, rg2, tYesD, sRaise, sRaiseF, eM, KD.E, wipeD, ins_book, fget_posts, fget_may, mem_Book, it_tup, it_lst, it_scr, it_ref, it_may, it_fil, it_int, it_str, lo_lst, lo_tup, lo_int, lo_ref, li_lst, li_scr, li_tup, li_ref, true_and, List.set_cons_zero, List.set_cons_succ, List.getElem?_cons_zero, List.getElem?_cons_succ, List.map_cons, List.map_nil, List.length_cons, List.length_nil, List.replicate_succ, List.replicate_zero, List.cons_append, List.nil_append, List.zip_cons_cons, List.zip_nil_left, List.foldl_cons, List.foldl_nil, Nat.reduceSub, Nat.reduceAdd, Nat.zero_add, brB_t, brB_f, Bool.not_true, Bool.not_false, if_true, if_false, Bool.false_eq_true, ↓reduceIte]
          split
          · refine ⟨n, _, rfl, dr.2.2.app, by omega, by omega, fun b h' b0 b1 d' => hN2 _ _ ?_⟩
            obtain ⟨hd, rfl, dd⟩ := Drawn.app dr.2.2 d'
            exact ⟨b, hd, rfl, rfl, dr.trans dd⟩
          · exact hN2 _ _ ⟨0, hb, rfl, rfl, dr⟩
        · rintro sd hh ⟨below, hb, rfl, rfl, dr⟩
          refine sFor_i fun LL3 hLL3 => ?_
          simp only [dEq_int, dNe_int, dEq_bl, dNe_bl, bodyD, startD, sNext, sBreak, sCont, sDrop, sRet, sRetN, sSet, sPar, sAsg, sSub, sFldD, iSeq, iCall, wEnum, wRange1, wRange2, wz_tup, eComp, eCompR, eComp2, eComp2R, gN, gT, gTcons, gTnil, tTst, tNotD, tAndD, tOrD, eNotV, eAndV, eOrV, eIf, eNil, eCons, eTup, eLst, eRef, eFrz, eCall, eFn, eMkV_eq, eMk, eFld, eSl, oNone, oSome, eOp2, eOp1, eChain, dAdd, dInt, dIntC, dIntB, dSub, dFdiv, dMod, dPow, dLt, dLe, dGt, dGe, dMul, dMulR, dMulT, dIs, dIx, isNon_oI, isNon_non, isNon_int, isNon_bl, isNon_str, isNon_ty, isNon_tup, isNon_lst, isNon_scr, isNon_dic, isNon_obj, isNon_ref, isNon_glb, isNon_exc, isNon_book, eVar, eC, fLen, fAbs, fInt, fMax2, fMin2, fIntsI, fSorted, fTuple, fList, fListR, eLenSet, eSortedSet, eTupRg, eLstRg, eRefRg, rg1, rg2, tYesD, sRaise, sRaiseF, eM, KD.E, wipeD, ins_book, fget_posts, fget_may, mem_Book, it_tup, it_lst, it_scr, it_ref, it_may, it_fil, it_int, it_str, lo_lst, lo_tup, lo_int, lo_ref, li_lst, li_scr, li_tup, li_ref, true_and, List.set_cons_zero, List.set_cons_succ, List.getElem?_cons_zero, List.getElem?_cons_succ, List.map_cons, List.map_nil, List.length_cons, List.length_nil, List.replicate_succ, List.replicate_zero, List.cons_append, List.nil_append, List.zip_cons_cons, List.zip_nil_left, List.foldl_cons, List.foldl_nil, Nat.reduceSub, Nat.reduceAdd, Nat.zero_add, brB_t, brB_f, Bool.not_true, Bool.not_false, if_true, if_false, Bool.false_eq_true, ↓reduceIte]
          refine ⟨⟨by omega, by omega⟩, hLL3 _ _ _ ?_⟩
          rw [rngL_rng']
          refine forL_ind (fun items sd hh => ∃ u r2 x14 hb inner, u + r2 = posts.toNat ∧ items = (List.range' u r2).map (fun i => D.int ((i : Nat) : Int)) ∧ sd = [some (.ref n), some (.int top), some (.int (k : Nat)), x, some (.int share), some (.int (p : Nat)), some (.int posts), some (.int (j : Nat)), some (.int shape), some (.ref h.length), some (.ref (h.length + 1)), some (.ref (h.length + 2)), some (.lst ((List.range j).map (fun i => D.ref (h.length + (i + 3))))), some (.int below), x14, none] ∧
            hh = hb ++ cHeap order spots fill inner ∧ Drawn h hb n ∧ CInv posts j order spots k (24 + 12 * p + u) fill inner) ?_ ?_ _ _ _ ⟨0, posts.toNat, _, hb, inner, Nat.zero_add _, rfl, rfl, rfl, dr, ci⟩
          · rintro sd hh ⟨u, r2, x14, hb, inner, hur, hr, rfl, rfl, dr, ci⟩
            exact ⟨trivial, hN _ _ ⟨p + 1, r, _, _, _, hb, inner, by omega, rfl, rfl, rfl, dr, ci.mono (Nat.le_refl _) (by omega)⟩⟩
          · rintro y l sd hh N3 ⟨u, r2, x14, hb, inner, hur, hr, rfl, rfl, dr, ci⟩ hN3
            obtain ⟨r2, rfl, rfl, rfl⟩ := cons_range hr
            refine ⟨trivial, ?_⟩
            simp only [dEq_int, dNe_int, dEq_bl, dNe_bl, bodyD, startD, sNext, sBreak, sCont, sDrop, sRet, sRetN, sSet, sPar, sAsg, sSub, sFldD, iSeq, iCall, wEnum, wRange1, wRange2, wz_tup, eComp, eCompR, eComp2, eComp2R, gN, gT, gTcons, gTnil, tTst, tNotD, tAndD, tOrD, eNotV, eAndV, eOrV, eIf, eNil, eCons, eTup, eLst, eRef, eFrz, eCall, eFn, eMkV_eq, eMk, eFld, eSl, oNone, oSome, eOp2, eOp1, eChain, dAdd, dInt, dIntC, dIntB, dSub, dFdiv, dMod, dPow, dLt, dLe, dGt, dGe, dMul, dMulR, dMulT, dIs, dIx, isNon_oI, isNon_non, isNon_int, isNon_bl, isNon_str, isNon_ty, isNon_tup, isNon_lst, isNon_scr, isNon_dic, isNon_obj, isNon_ref, isNon_glb, isNon_exc, isNon_book, eVar, eC, fLen, fAbs, fInt, fMax2, fMin2, fIntsI, fSorted, fTuple, fList, fListR, eLenSet, eSortedSet, eTupRg, eLstRg, eRefRg, rg1, rg2, tYesD, sRaise, sRaiseF, eM, KD.E, wipeD, ins_book, fget_posts, fget_may, mem_Book, it_tup, it_lst, it_scr, it_ref, it_may, it_fil, it_int, it_str, lo_lst, lo_tup, lo_int, lo_ref, li_lst, li_scr, li_tup, li_ref, true_and, List.set_cons_zero, List.set_cons_succ, List.getElem?_cons_zero, List.getElem?_cons_succ, List.map_cons, List.map_nil, List.length_cons, List.length_nil, List.replicate_succ, List.replicate_zero, List.cons_append, List.nil_append, List.zip_cons_cons, List.zip_nil_left, List.foldl_cons, List.foldl_nil, Nat.reduceSub, Nat.reduceAdd, Nat.zero_add, brB_t, brB_f, Bool.not_true, Bool.not_false, if_true, if_false, Bool.false_eq_true, ↓reduceIte]
            refine sIf_i fun A B hA hB => ?_
            have hps : p < inner.length := by rw [ci.il]; omega
            have hs : inner[p]? = some inner[p] := List.getElem?_eq_getElem hps
            have hsl := ci.ln p _ hs
            have hAA : ∀ hb', Drawn h hb' n → A (hb' ++ cHeap order spots fill inner) := fun hb' dr' => by
              refine hA _ ?_
              have LB := dr'.1
              have gi := cIn (order := order) (spots := spots) (fill := fill) LB hs
              simp only [dEq_int, dNe_int, dEq_bl, dNe_bl, bodyD, startD, sNext, sBreak, sCont, sDrop, sRet, sRetN, sSet, sPar, sAsg, sSub, sFldD, iSeq, iCall, wEnum, wRange1, wRange2, wz_tup, eComp, eCompR, eComp2, eComp2R, gN, gT, gTcons, gTnil, tTst, tNotD, tAndD, tOrD, eNotV, eAndV, eOrV, eIf, eNil, eCons, eTup, eLst, eRef, eFrz, eCall, eFn, eMkV_eq, eMk, eFld, eSl, oNone, oSome, eOp2, eOp1, eChain, dAdd, dInt, dIntC, dIntB, dSub, dFdiv, dMod, dPow, dLt, dLe, dGt, dGe, dMul, dMulR, dMulT, dIs, dIx, isNon_oI, isNon_non, isNon_int, isNon_bl, isNon_str, isNon_ty, isNon_tup, isNon_lst, isNon_scr, isNon_dic, isNon_obj, isNon_ref, isNon_glb, isNon_exc, isNon_book, eVar, eC, fLen, fAbs, fInt, fMax2, fMin2, fIntsI, fSorted, fTuple, fList, fListR, eLenSet, eSortedSet, eTupRg, eLstRg, eRefRg, rg1, rg2, tYesD, sRaise, sRaiseF, eM, KD.E, wipeD, ins_book, fget_posts, fget_may, mem_Book, it_tup, it_lst, it_scr, it_ref, it_may, it_fil, it_int, it_str, lo_lst, lo_tup, lo_int, lo_ref, li_lst, li_scr, li_tup, li_ref, true_and, List.set_cons_zero, List.set_cons_succ, List.getElem?_cons_zero, List.getElem?_cons_succ, List.map_cons, List.map_nil, List.length_cons, List.length_nil, List.replicate_succ, List.replicate_zero, List.cons_append, List.nil_append, List.zip_cons_cons, List.zip_nil_left, List.foldl_cons, List.foldl_nil, Nat.reduceSub, Nat.reduceAdd, Nat.zero_add, brB_t, brB_f, Bool.not_true, Bool.not_false, if_true, if_false, Bool.false_eq_true, ↓reduceIte, hmay p (by omega), isList_lst gi, mAppend, gi, List.length_map, cSetI LB]
              exact ⟨size_lt (by omega), hN3 _ _ ⟨u + 1, r2, _, hb', _, by omega, rfl, rfl, rfl, dr', (ci.add hs (by omega) (by omega)).mono (Nat.le_refl _) (by omega)⟩⟩
            have hBB : ∀ hb', Drawn h hb' n → B (hb' ++ cHeap order spots fill inner) := fun hb' dr' => by
              refine hB _ ?_
              simp only [dEq_int, dNe_int, dEq_bl, dNe_bl, bodyD, startD, sNext, sBreak, sCont, sDrop, sRet, sRetN, sSet, sPar, sAsg, sSub, sFldD, iSeq, iCall, wEnum, wRange1, wRange2, wz_tup, eComp, eCompR, eComp2, eComp2R, gN, gT, gTcons, gTnil, tTst, tNotD, tAndD, tOrD, eNotV, eAndV, eOrV, eIf, eNil, eCons, eTup, eLst, eRef, eFrz, eCall, eFn, eMkV_eq, eMk, eFld, eSl, oNone, oSome, eOp2, eOp1, eChain, dAdd, dInt, dIntC, dIntB, dSub, dFdiv, dMod, dPow, dLt, dLe, dGt, dGe, dMul, dMulR, dMulT, dIs, dIx, isNon_oI, isNon_non, isNon_int, isNon_bl, isNon_str, isNon_ty, isNon_tup, isNon_lst, isNon_scr, isNon_dic, isNon_obj, isNon_ref, isNon_glb, isNon_exc, isNon_book, eVar, eC, fLen, fAbs, fInt, fMax2, fMin2, fIntsI, fSorted, fTuple, fList, fListR, eLenSet, eSortedSet, eTupRg, eLstRg, eRefRg, rg1, rg2, tYesD, sRaise, sRaiseF, eM, KD.E, wipeD, ins_book, fget_posts, fget_may, mem_Book, it_tup, it_lst, it_scr, it_ref, it_may, it_fil, it_int, it_str, lo_lst, lo_tup, lo_int, lo_ref, li_lst, li_scr, li_tup, li_ref, true_and, List.set_cons_zero, List.set_cons_succ, List.getElem?_cons_zero, List.getElem?_cons_succ, List.map_cons, List.map_nil, List.length_cons, List.length_nil, List.replicate_succ, List.replicate_zero, List.cons_append, List.nil_append, List.zip_cons_cons, List.zip_nil_left, List.foldl_cons, List.foldl_nil, Nat.reduceSub, Nat.reduceAdd, Nat.zero_add, brB_t, brB_f, Bool.not_true, Bool.not_false, if_true, if_false, Bool.false_eq_true, ↓reduceIte]
              exact hN3 _ _ ⟨u + 1, r2, _, hb', _, by omega, rfl, rfl, rfl, dr', ci.mono (Nat.le_refl _) (by omega)⟩
            simp only [dEq_int, dNe_int, dEq_bl, dNe_bl, bodyD, startD, sNext, sBreak, sCont, sDrop, sRet, sRetN, sSet, sPar, sAsg, sSub, sFldD, iSeq, iCall, wEnum, wRange1, wRange2, wz_tup, eComp, eCompR, eComp2, eComp2R, gN, gT, gTcons, gTnil, tTst, tNotD, tAndD, tOrD, eNotV, eAndV, eOrV, eIf, eNil, eCons, eTup, eLst, eRef, eFrz, eCall, eFn, eMkV_eq, eMk, eFld, eSl, oNone, oSome, eOp2, eOp1, eChain, dAdd, dInt, dIntC, dIntB, dSub, dFdiv, dMod, dPow, dLt, dLe, dGt, dGe, dMul, dMulR, dMulT, dIs, dIx, isNon_oI, isNon_non, isNon_int, isNon_bl, isNon_str, isNon_ty, isNon_tup, isNon_lst, isNon_scr, isNon_dic, isNon_obj, isNon_ref, isNon_glb, isNon_exc, isNon_book, eVar, eC, fLen, fAbs, fInt, fMax2, fMin2, fIntsI, fSorted, fTuple, fList, fListR, eLenSet, eSortedSet, eTupRg, eLstRg, eRefRg, rg1, rg2, tYesD, sRaise, sRaiseF, eM, KD.E, wipeD, ins_book, fget_posts, fget_may, mem_Book, it_tup, it_lst, it_scr, it_ref, it_may, it_fil, it_int, it_str, lo_lst, lo_tup, lo_int, lo_ref, li_lst, li_scr, li_tup, li_ref, true_and, List.set_cons_zero, List.set_cons_succ, List.getElem?_cons_zero, List.getElem?_cons_succ, List.map_cons, List.map_nil, List.length_cons, List.length_nil, List.replicate_succ, List.replicate_zero, List.cons_append, List.nil_append, List.zip_cons_cons, List.zip_nil_left, List.foldl_cons, List.foldl_nil, Nat.reduceSub, Nat.reduceAdd, Nat.zero_add, brB_t, brB_f, Bool.not_true, Bool.not_false, if_true, if_false, Bool.false_eq_true, ↓reduceIte]
            split
            · exact hAA hb dr
            · refine ⟨n, _, rfl, dr.2.2.app, by omega, by omega, fun z h' z0 z1 d' => ?_⟩
              obtain ⟨hd, rfl, dd⟩ := Drawn.app dr.2.2 d'
              simp only [dEq_int, dNe_int, dEq_bl, dNe_bl, bodyD, startD, sNext, sBreak, sCont, sDrop, sRet, sRetN, sSet, sPar, sAsg, sSub, sFldD, iSeq, iCall, wEnum, wRange1, wRange2, wz_tup, eComp, eCompR, eComp2, eComp2R, gN, gT, gTcons, gTnil, tTst, tNotD, tAndD, tOrD, eNotV, eAndV, eOrV, eIf, eNil, eCons, eTup, eLst, eRef, eFrz, eCall, eFn, eMkV_eq, eMk, eFld, eSl, oNone, oSome, eOp2, eOp1, eChain, dAdd, dInt, dIntC, dIntB, dSub, dFdiv, dMod, dPow, dLt, dLe, dGt, dGe, dMul, dMulR, dMulT, dIs, dIx, isNon_oI, isNon_non, isNon_int, isNon_bl, isNon_str, isNon_ty, isNon_tup, isNon_lst, isNon_scr, isNon_dic, isNon_obj, isNon_ref, isNon_glb, isNon_exc, isNon_book, eVar, eC, fLen, fAbs, fInt, fMax2, fMin2, fIntsI, fSorted, fTuple, fList, fListR, eLenSet, eSortedSet, eTupRg, eLstRg, eRefRg, rg1, rg2, tYesD, sRaise, sRaiseF, eM, KD.E, wipeD, ins_book, fget_posts, fget_may, mem_Book, it_tup, it_lst, it_scr, it_ref, it_may, it_fil, it_int, it_str, lo_lst, lo_tup, lo_int, lo_ref, li_lst, li_scr, li_tup, li_ref, true_and, List.set_cons_zero, List.set_cons_succ, List.getElem?_cons_zero, List.getElem?_cons_succ, List.map_cons, List.map_nil, List.length_cons, List.length_nil, List.replicate_succ, List.replicate_zero, List.cons_append, List.nil_append, List.zip_cons_cons, List.zip_nil_left, List.foldl_cons, List.foldl_nil, Nat.reduceSub, Nat.reduceAdd, Nat.zero_add, brB_t, brB_f, Bool.not_true, Bool.not_false, if_true, if_false, Bool.false_eq_true, ↓reduceIte]
              exact brB_i (fun _ => hAA hd (dr.trans dd)) fun _ => hBB hd (dr.trans dd)
    · rintro y l sd hh N ⟨k, r, x, fill, inner, hkr, hr, rfl, rfl, ci⟩ hN
      obtain ⟨r, rfl, rfl, rfl⟩ := cons_range hr
      refine ⟨trivial, ?_⟩
      simp only [dEq_int, dNe_int, dEq_bl, dNe_bl, bodyD, startD, sNext, sBreak, sCont, sDrop, sRet, sRetN, sSet, sPar, sAsg, sSub, sFldD, iSeq, iCall, wEnum, wRange1, wRange2, wz_tup, eComp, eCompR, eComp2, eComp2R, gN, gT, gTcons, gTnil, tTst, tNotD, tAndD, tOrD, eNotV, eAndV, eOrV, eIf, eNil, eCons, eTup, eLst, eRef, eFrz, eCall, eFn, eMkV_eq, eMk, eFld, eSl, oNone, oSome, eOp2, eOp1, eChain, dAdd, dInt, dIntC, dIntB, dSub, dFdiv, dMod, dPow, dLt, dLe, dGt, dGe, dMul, dMulR, dMulT, dIs, dIx, isNon_oI, isNon_non, isNon_int, isNon_bl, isNon_str, isNon_ty, isNon_tup, isNon_lst, isNon_scr, isNon_dic, isNon_obj, isNon_ref, isNon_glb, isNon_exc, isNon_book, eVar, eC, fLen, fAbs, fInt, fMax2, fMin2, fIntsI, fSorted, fTuple, fList, fListR, eLenSet, eSortedSet, eTupRg, eLstRg, eRefRg, rg1, rg2, tYesD, sRaise, sRaiseF, eM, KD.E, wipeD, ins_book, fget_posts, fget_may, mem_Book, it_tup, it_lst, it_scr, it_ref, it_may, it_fil, it_int, it_str, lo_lst, lo_tup, lo_int, lo_ref, li_lst, li_scr, li_tup, li_ref, true_and, List.set_cons_zero, List.set_cons_succ, List.getElem?_cons_zero, List.getElem?_cons_succ, List.map_cons, List.map_nil, List.length_cons, List.length_nil, List.replicate_succ, List.replicate_zero, List.cons_append, List.nil_append, List.zip_cons_cons, List.zip_nil_left, List.foldl_cons, List.foldl_nil, Nat.reduceSub, Nat.reduceAdd, Nat.zero_add, brB_t, brB_f, Bool.not_true, Bool.not_false, if_true, if_false, Bool.false_eq_true, ↓reduceIte]
      obtain ⟨p, ho, hp⟩ : ∃ p : Nat, order[k]? = some (p : Int) ∧ p < j := by
        have hk : k < order.length := by omega
        have := oi _ (List.getElem_mem hk)
        exact ⟨order[k].toNat, by rw [List.getElem?_eq_getElem hk]; congr 1; omega, by omega⟩
      obtain ⟨v, hv, v0, v1⟩ : ∃ v : Int, spots[k]? = some v ∧ 0 ≤ v ∧ v < posts := by
        have hk : k < spots.length := by omega
        have := si _ (List.getElem_mem hk)
        exact ⟨_, List.getElem?_eq_getElem hk, by omega, by omega⟩
      obtain ⟨s, hs⟩ : ∃ s, inner[p]? = some s := ⟨_, List.getElem?_eq_getElem (by rw [ci.il]; exact hp)⟩
      have ao : atI (order.map D.int) (k : Int) = some (.int (p : Nat)) := atI_map (by omega) (by rw [Int.toNat_natCast]; exact ho)
      have av : atI (spots.map D.int) (k : Int) = some (.int v) := atI_map (by omega) (by rw [Int.toNat_natCast]; exact hv)
      have hfl : p < fill.length := by rw [ci.fl]; exact hp
      have hsl : s.length ≤ 2 * k := ci.ln p s hs
      refine sSeq_i fun N7 hN7 => ?_
      obtain ⟨g1, g2, g3⟩ := cGet (n := 0) (order := order) (spots := spots) (fill := fill) (inner := inner) LA
      simp only [dEq_int, dNe_int, dEq_bl, dNe_bl, bodyD, startD, sNext, sBreak, sCont, sDrop, sRet, sRetN, sSet, sPar, sAsg, sSub, sFldD, iSeq, iCall, wEnum, wRange1, wRange2, wz_tup, eComp, eCompR, eComp2, eComp2R, gN, gT, gTcons, gTnil, tTst, tNotD, tAndD, tOrD, eNotV, eAndV, eOrV, eIf, eNil, eCons, eTup, eLst, eRef, eFrz, eCall, eFn, eMkV_eq, eMk, eFld, eSl, oNone, oSome, eOp2, eOp1, eChain, dAdd, dInt, dIntC, dIntB, dSub, dFdiv, dMod, dPow, dLt, dLe, dGt, dGe, dMul, dMulR, dMulT, dIs, dIx, isNon_oI, isNon_non, isNon_int, isNon_bl, isNon_str, isNon_ty, isNon_tup, isNon_lst, isNon_scr, isNon_dic, isNon_obj, isNon_ref, isNon_glb, isNon_exc, isNon_book, eVar, eC, fLen, fAbs, fInt, fMax2, fMin2, fIntsI, fSorted, fTuple, fList, fListR, eLenSet, eSortedSet, eTupRg, eLstRg, eRefRg, rg1, rg2, tYesD, sRaise, sRaiseF, eM, KD.E, wipeD, ins_book, fget_posts, fget_may, mem_Book, it_tup, it_lst, it_scr, it_ref, it_may, it_fil, it_int, it_str, lo_lst, lo_tup, lo_int, lo_ref, li_lst, li_scr, li_tup, li_ref, true_and, List.set_cons_zero, List.set_cons_succ, List.getElem?_cons_zero, List.getElem?_cons_succ, List.map_cons, List.map_nil, List.length_cons, List.length_nil, List.replicate_succ, List.replicate_zero, List.cons_append, List.nil_append, List.zip_cons_cons, List.zip_nil_left, List.foldl_cons, List.foldl_nil, Nat.reduceSub, Nat.reduceAdd, Nat.zero_add, brB_t, brB_f, Bool.not_true, Bool.not_false, if_true, if_false, Bool.false_eq_true, ↓reduceIte, g1, g2, g3, ao, av]
      rw [put_nat (by omega) (by rw [List.length_map, Int.toNat_natCast]; exact hfl), Int.toNat_natCast, cSetF LA]
      refine hN7 _ _ ?_
      refine sSeq_i fun N8 hN8 => ?_
      obtain ⟨g1, g2, g3⟩ := cGet (n := 0) (order := order) (spots := spots) (fill := fill.set p (some v)) (inner := inner) LA
      have gi := cIn (order := order) (spots := spots) (fill := fill.set p (some v)) LA hs
      simp only [dEq_int, dNe_int, dEq_bl, dNe_bl, bodyD, startD, sNext, sBreak, sCont, sDrop, sRet, sRetN, sSet, sPar, sAsg, sSub, sFldD, iSeq, iCall, wEnum, wRange1, wRange2, wz_tup, eComp, eCompR, eComp2, eComp2R, gN, gT, gTcons, gTnil, tTst, tNotD, tAndD, tOrD, eNotV, eAndV, eOrV, eIf, eNil, eCons, eTup, eLst, eRef, eFrz, eCall, eFn, eMkV_eq, eMk, eFld, eSl, oNone, oSome, eOp2, eOp1, eChain, dAdd, dInt, dIntC, dIntB, dSub, dFdiv, dMod, dPow, dLt, dLe, dGt, dGe, dMul, dMulR, dMulT, dIs, dIx, isNon_oI, isNon_non, isNon_int, isNon_bl, isNon_str, isNon_ty, isNon_tup, isNon_lst, isNon_scr, isNon_dic, isNon_obj, isNon_ref, isNon_glb, isNon_exc, isNon_book, eVar, eC, fLen, fAbs, fInt, fMax2, fMin2, fIntsI, fSorted, fTuple, fList, fListR, eLenSet, eSortedSet, eTupRg, eLstRg, eRefRg, rg1, rg2, tYesD, sRaise, sRaiseF, eM, KD.E, wipeD, ins_book, fget_posts, fget_may, mem_Book, it_tup, it_lst, it_scr, it_ref, it_may, it_fil, it_int, it_str, lo_lst, lo_tup, lo_int, lo_ref, li_lst, li_scr, li_tup, li_ref, true_and, List.set_cons_zero, List.set_cons_succ, List.getElem?_cons_zero, List.getElem?_cons_succ, List.map_cons, List.map_nil, List.length_cons, List.length_nil, List.replicate_succ, List.replicate_zero, List.cons_append, List.nil_append, List.zip_cons_cons, List.zip_nil_left, List.foldl_cons, List.foldl_nil, Nat.reduceSub, Nat.reduceAdd, Nat.zero_add, brB_t, brB_f, Bool.not_true, Bool.not_false, if_true, if_false, Bool.false_eq_true, ↓reduceIte, g1, g2, g3, ao, av, hmay p hp, isList_lst gi, mAppend, gi, List.length_map, cSetI LA]
      refine ⟨size_lt (by omega), hN8 _ _ ?_⟩
      have ci2 := ci.fillAdd hs ho hv v0 v1
      refine sIf_i fun A B hA hB => ?_
      simp only [dEq_int, dNe_int, dEq_bl, dNe_bl, bodyD, startD, sNext, sBreak, sCont, sDrop, sRet, sRetN, sSet, sPar, sAsg, sSub, sFldD, iSeq, iCall, wEnum, wRange1, wRange2, wz_tup, eComp, eCompR, eComp2, eComp2R, gN, gT, gTcons, gTnil, tTst, tNotD, tAndD, tOrD, eNotV, eAndV, eOrV, eIf, eNil, eCons, eTup, eLst, eRef, eFrz, eCall, eFn, eMkV_eq, eMk, eFld, eSl, oNone, oSome, eOp2, eOp1, eChain, dAdd, dInt, dIntC, dIntB, dSub, dFdiv, dMod, dPow, dLt, dLe, dGt, dGe, dMul, dMulR, dMulT, dIs, dIx, isNon_oI, isNon_non, isNon_int, isNon_bl, isNon_str, isNon_ty, isNon_tup, isNon_lst, isNon_scr, isNon_dic, isNon_obj, isNon_ref, isNon_glb, isNon_exc, isNon_book, eVar, eC, fLen, fAbs, fInt, fMax2, fMin2, fIntsI, fSorted, fTuple, fList, fListR, eLenSet, eSortedSet, eTupRg, eLstRg, eRefRg, rg1, rg2, tYesD, sRaise, sRaiseF, eM, KD.E, wipeD, ins_book, fget_posts, fget_may, mem_Book, it_tup, it_lst, it_scr, it_ref, it_may, it_fil, it_int, it_str, lo_lst, lo_tup, lo_int, lo_ref, li_lst, li_scr, li_tup, li_ref, true_and, List.set_cons_zero, List.set_cons_succ, List.getElem?_cons_zero, List.getElem?_cons_succ, List.map_cons, List.map_nil, List.length_cons, List.length_nil, List.replicate_succ, List.replicate_zero, List.cons_append, List.nil_append, List.zip_cons_cons, List.zip_nil_left, List.foldl_cons, List.foldl_nil, Nat.reduceSub, Nat.reduceAdd, Nat.zero_add, brB_t, brB_f, Bool.not_true, Bool.not_false, if_true, if_false, Bool.false_eq_true, ↓reduceIte]
      refine brB_i (fun _ => hA _ ?_) fun _ => hB _ (hN _ _ ⟨k + 1, r, _, _, _, by omega, rfl, rfl, rfl, ci2.mono (Nat.le_refl _) (by omega)⟩)
      have hs2 : (inner.set p (s ++ [v]))[p]? = some (s ++ [v]) := List.getElem?_set_self (List.getElem?_eq_some_iff.mp hs).1
      obtain ⟨g1, g2, g3⟩ := cGet (n := 0) (order := order) (spots := spots) (fill := fill.set p (some v)) (inner := inner.set p (s ++ [v])) LA
      have gi := cIn (order := order) (spots := spots) (fill := fill.set p (some v)) LA hs2
      have f0 := fmod_nn ((k : Int) + 1) (b := (many : Int)) (by omega)
      have f1 := fmod_lt ((k : Int) + 1) (b := (many : Int)) (by omega)
      obtain ⟨u, au, u0, u1⟩ : ∃ u : Int, atI (spots.map D.int) (Int.fmod ((k : Int) + 1) many) = some (.int u) ∧ 0 ≤ u ∧ u < posts := by
        have hk : (Int.fmod ((k : Int) + 1) many).toNat < spots.length := by omega
        have := si _ (List.getElem_mem hk)
        exact ⟨_, atI_map f0 (List.getElem?_eq_getElem hk), by omega, by omega⟩
      simp only [dEq_int, dNe_int, dEq_bl, dNe_bl, bodyD, startD, sNext, sBreak, sCont, sDrop, sRet, sRetN, sSet, sPar, sAsg, sSub, sFldD, iSeq, iCall, wEnum, wRange1, wRange2, wz_tup, eComp, eCompR, eComp2, eComp2R, gN, gT, gTcons, gTnil, tTst, tNotD, tAndD, tOrD, eNotV, eAndV, eOrV, eIf, eNil, eCons, eTup, eLst, eRef, eFrz, eCall, eFn, eMkV_eq, eMk, eFld, eSl, oNone, oSome, eOp2, eOp1, eChain, dAdd, dInt, dIntC, dIntB, dSub, dFdiv, dMod, dPow, dLt, dLe, dGt, dGe, dMul, dMulR, dMulT, dIs, dIx, isNon_oI, isNon_non, isNon_int, isNon_bl, isNon_str, isNon_ty, isNon_tup, isNon_lst, isNon_scr, isNon_dic, isNon_obj, isNon_ref, isNon_glb, isNon_exc, isNon_book, eVar, eC, fLen, fAbs, fInt, fMax2, fMin2, fIntsI, fSorted, fTuple, fList, fListR, eLenSet, eSortedSet, eTupRg, eLstRg, eRefRg, rg1, rg2, tYesD, sRaise, sRaiseF, eM, KD.E, wipeD, ins_book, fget_posts, fget_may, mem_Book, it_tup, it_lst, it_scr, it_ref, it_may, it_fil, it_int, it_str, lo_lst, lo_tup, lo_int, lo_ref, li_lst, li_scr, li_tup, li_ref, true_and, List.set_cons_zero, List.set_cons_succ, List.getElem?_cons_zero, List.getElem?_cons_succ, List.map_cons, List.map_nil, List.length_cons, List.length_nil, List.replicate_succ, List.replicate_zero, List.cons_append, List.nil_append, List.zip_cons_cons, List.zip_nil_left, List.foldl_cons, List.foldl_nil, Nat.reduceSub, Nat.reduceAdd, Nat.zero_add, brB_t, brB_f, Bool.not_true, Bool.not_false, if_true, if_false, Bool.false_eq_true, ↓reduceIte, g1, g2, g3, ao, au, hmay p hp, isList_lst gi, mAppend, gi, List.length_map, cSetI LA]
      refine ⟨by omega, size_lt (by rw [List.length_append, List.length_singleton]; omega), hN _ _ ⟨k + 1, r, _, _, _, by omega, rfl, rfl, rfl, (ci2.add hs2 u0 u1).mono (Nat.le_refl _) (by omega)⟩⟩
  · rintro x r acc hh N ⟨j, hj, rfl, rfl⟩ hN
    refine ⟨trivial, ?_⟩
    simp only [dEq_int, dNe_int, dEq_bl, dNe_bl, bodyD, startD, sNext, sBreak, sCont, sDrop, sRet, sRetN, sSet, sPar, sAsg, sSub, sFldD, iSeq, iCall, wEnum, wRange1, wRange2, wz_tup, eComp, eCompR, eComp2, eComp2R, gN, gT, gTcons, gTnil, tTst, tNotD, tAndD, tOrD, eNotV, eAndV, eOrV, eIf, eNil, eCons, eTup, eLst, eRef, eFrz, eCall, eFn, eMkV_eq, eMk, eFld, eSl, oNone, oSome, eOp2, eOp1, eChain, dAdd, dInt, dIntC, dIntB, dSub, dFdiv, dMod, dPow, dLt, dLe, dGt, dGe, dMul, dMulR, dMulT, dIs, dIx, isNon_oI, isNon_non, isNon_int, isNon_bl, isNon_str, isNon_ty, isNon_tup, isNon_lst, isNon_scr, isNon_dic, isNon_obj, isNon_ref, isNon_glb, isNon_exc, isNon_book, eVar, eC, fLen, fAbs, fInt, fMax2, fMin2, fIntsI, fSorted, fTuple, fList, fListR, eLenSet, eSortedSet, eTupRg, eLstRg, eRefRg, rg1, rg2, tYesD, sRaise, sRaiseF, eM, KD.E, wipeD, ins_book, fget_posts, fget_may, mem_Book, it_tup, it_lst, it_scr, it_ref, it_may, it_fil, it_int, it_str, lo_lst, lo_tup, lo_int, lo_ref, li_lst, li_scr, li_tup, li_ref, true_and, List.set_cons_zero, List.set_cons_succ, List.getElem?_cons_zero, List.getElem?_cons_succ, List.map_cons, List.map_nil, List.length_cons, List.length_nil, List.replicate_succ, List.replicate_zero, List.cons_append, List.nil_append, List.zip_cons_cons, List.zip_nil_left, List.foldl_cons, List.foldl_nil, Nat.reduceSub, Nat.reduceAdd, Nat.zero_add, brB_t, brB_f, Bool.not_true, Bool.not_false, if_true, if_false, Bool.false_eq_true, ↓reduceIte]
    refine hN _ _ ⟨j + 1, by rw [List.length_cons] at hj; omega, ?_, ?_⟩
    · rw [List.range_succ, List.map_append, List.map_singleton, List.length_append, LA]
      congr 3
      unfold cHeap
      simp
    · rw [List.append_assoc]
      congr 1
      unfold cHeap
      rw [List.replicate_succ', List.map_append]; rfl
/-! _law_due -/
def t__law_due : TSD :=
    (sSeq (sSet 2 (eComp (iCall wEnum (eCons (eVar 1) eNil)) (gT 2 (gTcons (gN 4) (gTcons (gN 5) gTnil))) (tTst (eOp2 (dIs true) (eVar 5) (eC .non))) (eVar 4) [4, 5]))
    (sSeq (sSet 3 (eRef eNil))
    (sSeq (sFor (iSeq (eVar 2)) (gN 4) (sDrop (eM isList mExtend (eVar 3) (eCons (eComp (iSeq (eVar 2)) (gN 6) (tAndD (tTst (eOp2 dGt (eVar 6) (eVar 4))) (tAndD (tTst (eOp2 (dIn false) (eOp2 dIx (eVar 1) (eVar 6)) (eOp2 dIx (eVar 0) (eVar 4)))) (tTst (eOp2 (dIn false) (eOp2 dIx (eVar 1) (eVar 4)) (eOp2 dIx (eVar 0) (eVar 6)))))) (eTup (eCons (eVar 4) (eCons (eVar 6) eNil))) [6]) eNil))))
    (sRet (eVar 3)))))
-- use: popR
/-- those who don't stay at home -/
def thereN (f : List (Option Int)) : List Nat := (List.range f.length).filter fun x => (at_ f (x : Nat)).isSome
def dueB (may : List (List Int)) (f : List (Option Int)) (x y : Nat) : Bool :=
  decide (x < y) && decide ((at_ f (y : Nat)).getD 0 ∈ may.getD x []) && decide ((at_ f (x : Nat)).getD 0 ∈ may.getD y [])
def dueI (may : List (List Int)) (f : List (Option Int)) : List (Int × Int) :=
  (thereN f).flatMap fun x => ((thereN f).filter fun y => dueB may f x y).map fun y => (((x : Nat) : Int), ((y : Nat) : Int))
def sp__law_due : SpD := fun ds h Q _ => ∃ may f, ds = [mayD may, filD f] ∧ f.length = may.length ∧ may.length ≤ 1000 ∧ Q (.ref h.length) (h ++ [.lst ((dueI may f).map pairD)])
theorem thereN_lt {f : List (Option Int)} {x : Nat} (h : x ∈ thereN f) : x < f.length ∧ (at_ f (x : Nat)).isSome = true := by
  have := List.mem_filter.mp h
  exact ⟨List.mem_range.mp this.1, this.2⟩
theorem thereN_len (f : List (Option Int)) : (thereN f).length ≤ f.length := by
  have := List.length_filter_le (fun x : Nat => (at_ f (x : Nat)).isSome) (List.range f.length)
  rw [List.length_range] at this
  exact this
theorem dueI_part {may : List (List Int)} {f : List (Option Int)} {l : List Nat} (hb : ∀ x ∈ l, True) : (l.flatMap fun x => ((thereN f).filter fun y => dueB may f x y).map fun y => (((x : Nat) : Int), ((y : Nat) : Int))).length ≤ l.length * f.length := by
  induction l with
  | nil => simp
  | cons x r ih =>
    rw [List.flatMap_cons, List.length_append, List.length_map, List.length_cons, Nat.succ_mul]
    have h1 := List.length_filter_le (fun y => dueB may f x y) (thereN f)
    have h2 := thereN_len f
    have := ih fun _ _ => trivial
    omega
theorem zipIdx_there (f : List (Option Int)) : ((f.map oI).zipIdx.filterMap fun p => if isNon p.1 then none else some (D.int (p.2 : Nat))) = (thereN f).map fun x => D.int ((x : Nat) : Int) := by
  have key : ∀ (g : List (Option Int)) (i : Nat) (all : List (Option Int)), (∀ j, g[j]? = all[i + j]?) → (((g.map oI).zipIdx i).filterMap fun p => if isNon p.1 then none else some (D.int (p.2 : Nat))) = ((List.range' i g.length).filter fun x => (at_ all (x : Nat)).isSome).map fun x => D.int ((x : Nat) : Int) := by
    intro g
    induction g with
    | nil => intro i all _; rfl
    | cons o r ih =>
      intro i all h
      have h0 : all[i]? = some o := by have := h 0; simpa using this.symm
      have ea : at_ all (i : Nat) = o := by
        unfold at_
        rw [Int.toNat_natCast, List.getD_eq_getElem?_getD, h0]; rfl
      rw [List.map_cons, List.zipIdx_cons, List.filterMap_cons, List.length_cons, List.range'_succ, List.filter_cons, ea]
      have ih' := ih (i + 1) all fun j => by have := h (j + 1); rw [List.getElem?_cons_succ] at this; rw [this]; congr 1; omega
      cases o with
      | none => simpa [oI, isNon] using ih'
      | some v => simpa [oI, isNon] using ih'
  have := key f 0 f fun j => by rw [Nat.zero_add]
  unfold thereN
  rw [List.range_eq_range']
  exact this
theorem pl__law_due (ds : List D) (h : DH) (Q : VD) (E : ED) (w : sp__law_due ds h Q E) : popWR (bodyD 7 t__law_due) ds h Q E := by
  obtain ⟨may, f, rfl, hlen, hz, q⟩ := w
  intro _ wf
  unfold popFR t__law_due bodyD
  refine sSeq_i fun N hN => ?_
  simp only [dEq_int, dNe_int, dEq_bl, dNe_bl, bodyD, startD, sNext, sBreak, sCont, sDrop, sRet, sRetN, sSet, sPar, sAsg, sSub, sFldD, iSeq, iCall, wEnum, wRange1, wRange2, wz_tup, eComp, eCompR, eComp2, eComp2R, gN, gT, gTcons, gTnil, tTst, tNotD, tAndD, tOrD, eNotV, eAndV, eOrV, eIf, eNil, eCons, eTup, eLst, eRef, eFrz, eCall, eFn, eMkV_eq, eMk, eFld, eSl, oNone, oSome, eOp2, eOp1, eChain, dAdd, dInt, dIntC, dIntB, dSub, dFdiv, dMod, dPow, dLt, dLe, dGt, dGe, dMul, dMulR, dMulT, dIs, dIx, isNon_oI, isNon_non, isNon_int, isNon_bl, isNon_str, isNon_ty, isNon_tup, isNon_lst, isNon_scr, isNon_dic, isNon_obj, isNon_ref, isNon_glb, isNon_exc, isNon_book, eVar, eC, fLen, fAbs, fInt, fMax2, fMin2, fIntsI, fSorted, fTuple, fList, fListR, eLenSet, eSortedSet, eTupRg, eLstRg, eRefRg, rg1, rg2, tYesD, sRaise, sRaiseF, eM, KD.E, wipeD, ins_book, fget_posts, fget_may, mem_Book, it_tup, it_lst, it_scr, it_ref, it_may, it_fil, it_int, it_str, lo_lst, lo_tup, lo_int, lo_ref, li_lst, li_scr, li_tup, li_ref, true_and, List.set_cons_zero, List.set_cons_succ, List.getElem?_cons_zero, List.getElem?_cons_succ, List.map_cons, List.map_nil, List.length_cons, List.length_nil, List.replicate_succ, List.replicate_zero, List.cons_append, List.nil_append, List.zip_cons_cons, List.zip_nil_left, List.foldl_cons, List.foldl_nil, Nat.reduceSub, Nat.reduceAdd, Nat.zero_add, brB_t, brB_f, Bool.not_true, Bool.not_false, if_true, if_false, Bool.false_eq_true, ↓reduceIte]
  rw [enumL_zip]
  refine compL_map (α := D × Nat) _ (fun p => if isNon p.1 then none else some (D.int (p.2 : Nat))) trivial ?_ ?_
  · rw [List.nil_append, zipIdx_there]
    refine hN _ _ ?_
    refine sSeq_i fun N2 hN2 => ?_
    simp only [dEq_int, dNe_int, dEq_bl, dNe_bl, bodyD, startD, sNext, sBreak, sCont, sDrop, sRet, sRetN, sSet, sPar, sAsg, sSub, sFldD, iSeq, iCall, wEnum, wRange1, wRange2, wz_tup, eComp, eCompR, eComp2, eComp2R, gN, gT, gTcons, gTnil, tTst, tNotD, tAndD, tOrD, eNotV, eAndV, eOrV, eIf, eNil, eCons, eTup, eLst, eRef, eFrz, eCall, eFn, eMkV_eq, eMk, eFld, eSl, oNone, oSome, eOp2, eOp1, eChain, dAdd, dInt, dIntC, dIntB, dSub, dFdiv, dMod, dPow, dLt, dLe, dGt, dGe, dMul, dMulR, dMulT, dIs, dIx, isNon_oI, isNon_non, isNon_int, isNon_bl, isNon_str, isNon_ty, isNon_tup, isNon_lst, isNon_scr, isNon_dic, isNon_obj, isNon_ref, isNon_glb, isNon_exc, isNon_book, eVar, eC, fLen, fAbs, fInt, fMax2, fMin2, fIntsI, fSorted, fTuple, fList, fListR, eLenSet, eSortedSet, eTupRg, eLstRg, eRefRg, rg1, rg2, tYesD, sRaise, sRaiseF, eM, KD.E, wipeD, ins_book, fget_posts, fget_may, mem_Book, it_tup, it_lst, it_scr, it_ref, it_may, it_fil, it_int, it_str, lo_lst, lo_tup, lo_int, lo_ref, li_lst, li_scr, li_tup, li_ref, true_and, List.set_cons_zero, List.set_cons_succ, List.getElem?_cons_zero, List.getElem?_cons_succ, List.map_cons, List.map_nil, List.length_cons, List.length_nil, List.replicate_succ, List.replicate_zero, List.cons_append, List.nil_append, List.zip_cons_cons, List.zip_nil_left, List.foldl_cons, List.foldl_nil, Nat.reduceSub, Nat.reduceAdd, Nat.zero_add, brB_t, brB_f, Bool.not_true, Bool.not_false, if_true, if_false, Bool.false_eq_true, ↓reduceIte]
    refine hN2 _ _ ?_
    refine sSeq_i fun N3 hN3 => ?_
    refine sFor_i fun LL hLL => ?_
    simp only [dEq_int, dNe_int, dEq_bl, dNe_bl, bodyD, startD, sNext, sBreak, sCont, sDrop, sRet, sRetN, sSet, sPar, sAsg, sSub, sFldD, iSeq, iCall, wEnum, wRange1, wRange2, wz_tup, eComp, eCompR, eComp2, eComp2R, gN, gT, gTcons, gTnil, tTst, tNotD, tAndD, tOrD, eNotV, eAndV, eOrV, eIf, eNil, eCons, eTup, eLst, eRef, eFrz, eCall, eFn, eMkV_eq, eMk, eFld, eSl, oNone, oSome, eOp2, eOp1, eChain, dAdd, dInt, dIntC, dIntB, dSub, dFdiv, dMod, dPow, dLt, dLe, dGt, dGe, dMul, dMulR, dMulT, dIs, dIx, isNon_oI, isNon_non, isNon_int, isNon_bl, isNon_str, isNon_ty, isNon_tup, isNon_lst, isNon_scr, isNon_dic, isNon_obj, isNon_ref, isNon_glb, isNon_exc, isNon_book, eVar, eC, fLen, fAbs, fInt, fMax2, fMin2, fIntsI, fSorted, fTuple, fList, fListR, eLenSet, eSortedSet, eTupRg, eLstRg, eRefRg, rg1, rg2, tYesD, sRaise, sRaiseF, eM, KD.E, wipeD, ins_book, fget_posts, fget_may, mem_Book, it_tup, it_lst, it_scr, it_ref, it_may, it_fil, it_int, it_str, lo_lst, lo_tup, lo_int, lo_ref, li_lst, li_scr, li_tup, li_ref, true_and, List.set_cons_zero, List.set_cons_succ, List.getElem?_cons_zero, List.getElem?_cons_succ, List.map_cons, List.map_nil, List.length_cons, List.length_nil, List.replicate_succ, List.replicate_zero, List.cons_append, List.nil_append, List.zip_cons_cons, List.zip_nil_left, List.foldl_cons, List.foldl_nil, Nat.reduceSub, Nat.reduceAdd, Nat.zero_add, brB_t, brB_f, Bool.not_true, Bool.not_false, if_true, if_false, Bool.false_eq_true, ↓reduceIte]
    refine hLL _ _ _ ?_
    let G := fun x : Nat => ((thereN f).filter fun y => dueB may f x y).map fun y => (((x : Nat) : Int), ((y : Nat) : Int))
    refine forL_ind (fun items sd hh => ∃ pre post x4, thereN f = pre ++ post ∧ items = post.map (fun x => D.int ((x : Nat) : Int)) ∧ sd = [some (mayD may), some (filD f), some (.lst ((thereN f).map fun x => D.int ((x : Nat) : Int))), some (.ref h.length), x4, none, none] ∧
      hh = h ++ [.lst ((pre.flatMap G).map pairD)]) ?_ ?_ _ _ _ ⟨[], thereN f, none, rfl, rfl, rfl, rfl⟩
    · rintro sd hh ⟨pre, post, x4, e, e2, rfl, rfl⟩
      refine ⟨trivial, hN3 _ _ ?_⟩
      have : post = [] := by
        cases post with
        | nil => rfl
        | cons a r => cases e2
      subst this
      rw [List.append_nil] at e
      simp only [dEq_int, dNe_int, dEq_bl, dNe_bl, bodyD, startD, sNext, sBreak, sCont, sDrop, sRet, sRetN, sSet, sPar, sAsg, sSub, sFldD, iSeq, iCall, wEnum, wRange1, wRange2, wz_tup, eComp, eCompR, eComp2, eComp2R, gN, gT, gTcons, gTnil, tTst, tNotD, tAndD, tOrD, eNotV, eAndV, eOrV, eIf, eNil, eCons, eTup, eLst, eRef, eFrz, eCall, eFn, eMkV_eq, eMk, eFld, eSl, oNone, oSome, eOp2, eOp1, eChain, dAdd, dInt, dIntC, dIntB, dSub, dFdiv, dMod, dPow, dLt, dLe, dGt, dGe, dMul, dMulR, dMulT, dIs, dIx, isNon_oI, isNon_non, isNon_int, isNon_bl, isNon_str, isNon_ty, isNon_tup, isNon_lst, isNon_scr, isNon_dic, isNon_obj, isNon_ref, isNon_glb, isNon_exc, isNon_book, eVar, eC, fLen, fAbs, fInt, fMax2, fMin2, fIntsI, fSorted, fTuple, fList, fListR, eLenSet, eSortedSet, eTupRg, eLstRg, eRefRg, rg1, rg2, tYesD, sRaise, sRaiseF, eM, KD.E, wipeD, ins_book, fget_posts, fget_may, mem_Book, it_tup, it_lst, it_scr, it_ref, it_may, it_fil, it_int, it_str, lo_lst, lo_tup, lo_int, lo_ref, li_lst, li_scr, li_tup, li_ref, true_and, List.set_cons_zero, List.set_cons_succ, List.getElem?_cons_zero, List.getElem?_cons_succ, List.map_cons, List.map_nil, List.length_cons, List.length_nil, List.replicate_succ, List.replicate_zero, List.cons_append, List.nil_append, List.zip_cons_cons, List.zip_nil_left, List.foldl_cons, List.foldl_nil, Nat.reduceSub, Nat.reduceAdd, Nat.zero_add, brB_t, brB_f, Bool.not_true, Bool.not_false, if_true, if_false, Bool.false_eq_true, ↓reduceIte]
      unfold popRQ
      simp only [get_last]
      refine ⟨Nat.le_refl _, (fun q => by cases q), nrDs_pairs _, wf_take wf, ?_⟩
      rw [List.take_left, ← e]
      exact q
    · rintro y l sd hh N ⟨pre, post, x4, e, e2, rfl, rfl⟩ hN
      cases post with
      | nil => cases e2
      | cons x r =>
        rw [List.map_cons] at e2
        injection e2 with ey el
        subst ey el
        have hx : x ∈ thereN f := by rw [e]; exact List.mem_append_right _ List.mem_cons_self
        obtain ⟨x1, x2⟩ := thereN_lt hx
        refine ⟨trivial, ?_⟩
        simp only [dEq_int, dNe_int, dEq_bl, dNe_bl, bodyD, startD, sNext, sBreak, sCont, sDrop, sRet, sRetN, sSet, sPar, sAsg, sSub, sFldD, iSeq, iCall, wEnum, wRange1, wRange2, wz_tup, eComp, eCompR, eComp2, eComp2R, gN, gT, gTcons, gTnil, tTst, tNotD, tAndD, tOrD, eNotV, eAndV, eOrV, eIf, eNil, eCons, eTup, eLst, eRef, eFrz, eCall, eFn, eMkV_eq, eMk, eFld, eSl, oNone, oSome, eOp2, eOp1, eChain, dAdd, dInt, dIntC, dIntB, dSub, dFdiv, dMod, dPow, dLt, dLe, dGt, dGe, dMul, dMulR, dMulT, dIs, dIx, isNon_oI, isNon_non, isNon_int, isNon_bl, isNon_str, isNon_ty, isNon_tup, isNon_lst, isNon_scr, isNon_dic, isNon_obj, isNon_ref, isNon_glb, isNon_exc, isNon_book, eVar, eC, fLen, fAbs, fInt, fMax2, fMin2, fIntsI, fSorted, fTuple, fList, fListR, eLenSet, eSortedSet, eTupRg, eLstRg, eRefRg, rg1, rg2, tYesD, sRaise, sRaiseF, eM, KD.E, wipeD, ins_book, fget_posts, fget_may, mem_Book, it_tup, it_lst, it_scr, it_ref, it_may, it_fil, it_int, it_str, lo_lst, lo_tup, lo_int, lo_ref, li_lst, li_scr, li_tup, li_ref, true_and, List.set_cons_zero, List.set_cons_succ, List.getElem?_cons_zero, List.getElem?_cons_succ, List.map_cons, List.map_nil, List.length_cons, List.length_nil, List.replicate_succ, List.replicate_zero, List.cons_append, List.nil_append, List.zip_cons_cons, List.zip_nil_left, List.foldl_cons, List.foldl_nil, Nat.reduceSub, Nat.reduceAdd, Nat.zero_add, brB_t, brB_f, Bool.not_true, Bool.not_false, if_true, if_false, Bool.false_eq_true, ↓reduceIte, isList_lst (get_last _ _)]
        refine compL_map (α := Nat) _ (fun y => if dueB may f x y then some (pairD (((x : Nat) : Int), ((y : Nat) : Int))) else none) trivial ?_ ?_
        · rw [List.nil_append]
          have e3 : ((thereN f).filterMap fun y => if dueB may f x y then some (pairD (((x : Nat) : Int), ((y : Nat) : Int))) else none) = (G x).map pairD := by
            show _ = (((thereN f).filter fun y => dueB may f x y).map fun y => (((x : Nat) : Int), ((y : Nat) : Int))).map pairD
            induction thereN f with
            | nil => rfl
            | cons y r ih =>
              rw [List.filterMap_cons, List.filter_cons]
              cases dueB may f x y with
              | true => simp only [if_true, List.map_cons]; rw [ih]
              | false => simp only [Bool.false_eq_true, if_false]; rw [ih]
          rw [e3]
          have hpl : pre.length + 1 ≤ f.length := by
            have := thereN_len f
            rw [e, List.length_append, List.length_cons] at this
            omega
          have l1 := dueI_part (may := may) (f := f) (l := pre) fun _ _ => trivial
          have l2 := dueI_part (may := may) (f := f) (l := [x]) fun _ _ => trivial
          simp only [List.flatMap_cons, List.flatMap_nil, List.append_nil, List.length_cons, List.length_nil] at l2
          have l3 : pre.length * f.length ≤ 1000 * 1000 := Nat.mul_le_mul (by omega) (by omega)
          simp only [mExtend, get_last, lo_lst, set_last]
          refine ⟨size_le ?_, hN _ _ ⟨pre ++ [x], r, _, by rw [List.append_assoc]; exact e, rfl, rfl, ?_⟩⟩
          · rw [List.length_map, List.length_map]
            show (pre.flatMap G).length + (G x).length ≤ _
            have a1 : (pre.flatMap G).length ≤ pre.length * f.length := l1
            have a2 : (G x).length ≤ (0 + 1) * f.length := l2
            omega
          · rw [List.flatMap_append, List.flatMap_cons, List.flatMap_nil, List.append_nil, List.map_append]
        · intro y hy N acc hN
          obtain ⟨y1, y2⟩ := thereN_lt hy
          have gi := fun (z : Nat) (hz : z < f.length) => fil_at (f := f) (i := (z : Nat)) (by omega) (by rw [Int.toNat_natCast]; exact hz)
          have gm := fun (z : Nat) (hz : z < f.length) => mayD_at (may := may) (i := (z : Nat)) (s := may.getD z []) (by omega) (by rw [Int.toNat_natCast, List.getD_eq_getElem?_getD, List.getElem?_eq_getElem (by omega)]; rfl)
          simp only [dEq_int, dNe_int, dEq_bl, dNe_bl, bodyD, startD, sNext, sBreak, sCont, sDrop, sRet, sRetN, sSet, sPar, sAsg, sSub, sFldD, iSeq, iCall, wEnum, wRange1, wRange2, wz_tup, eComp, eCompR, eComp2, eComp2R, gN, gT, gTcons, gTnil, tTst, tNotD, tAndD, tOrD, eNotV, eAndV, eOrV, eIf, eNil, eCons, eTup, eLst, eRef, eFrz, eCall, eFn, eMkV_eq, eMk, eFld, eSl, oNone, oSome, eOp2, eOp1, eChain, dAdd, dInt, dIntC, dIntB, dSub, dFdiv, dMod, dPow, dLt, dLe, dGt, dGe, dMul, dMulR, dMulT, dIs, dIx, isNon_oI, isNon_non, isNon_int, isNon_bl, isNon_str, isNon_ty, isNon_tup, isNon_lst, isNon_scr, isNon_dic, isNon_obj, isNon_ref, isNon_glb, isNon_exc, isNon_book, eVar, eC, fLen, fAbs, fInt, fMax2, fMin2, fIntsI, fSorted, fTuple, fList, fListR, eLenSet, eSortedSet, eTupRg, eLstRg, eRefRg, rg1, rg2, tYesD, sRaise, sRaiseF, eM, KD.E, wipeD, ins_book, fget_posts, fget_may, mem_Book, it_tup, it_lst, it_scr, it_ref, it_may, it_fil, it_int, it_str, lo_lst, lo_tup, lo_int, lo_ref, li_lst, li_scr, li_tup, li_ref, true_and, List.set_cons_zero, List.set_cons_succ, List.getElem?_cons_zero, List.getElem?_cons_succ, List.map_cons, List.map_nil, List.length_cons, List.length_nil, List.replicate_succ, List.replicate_zero, List.cons_append, List.nil_append, List.zip_cons_cons, List.zip_nil_left, List.foldl_cons, List.foldl_nil, Nat.reduceSub, Nat.reduceAdd, Nat.zero_add, brB_t, brB_f, Bool.not_true, Bool.not_false, if_true, if_false, Bool.false_eq_true, ↓reduceIte, gi y y1, gi x x1, gm x x1, gm y y1]
          cases hfx : at_ f (x : Nat) with
          | none => rw [hfx] at x2; cases x2
          | some vx =>
            cases hfy : at_ f (y : Nat) with
            | none => rw [hfy] at y2; cases y2
            | some vy =>
              simp only [oI]
              rw [dIn_ints vy _ rfl, dIn_ints vx _ rfl]
              unfold dueB at hN
              rw [hfx, hfy] at hN
              simp only [Option.getD_some] at hN
              by_cases c1 : x < y
              · have c1' : ((x : Nat) : Int) < ((y : Nat) : Int) := by omega
                simp only [decide_eq_true c1, Bool.true_and] at hN
                simp only [decide_eq_true c1', dEq_int, dNe_int, dEq_bl, dNe_bl, bodyD, startD, sNext, sBreak, sCont, sDrop, sRet, sRetN, sSet, sPar, sAsg, sSub, sFldD, iSeq, iCall, wEnum, wRange1, wRange2, wz_tup, eComp, eCompR, eComp2, eComp2R, gN, gT, gTcons, gTnil, tTst, tNotD, tAndD, tOrD, eNotV, eAndV, eOrV, eIf, eNil, eCons, eTup, eLst, eRef, eFrz, eCall, eFn, eMkV_eq, eMk, eFld, eSl, oNone, oSome, eOp2, eOp1, eChain, dAdd, dInt, dIntC, dIntB, dSub, dFdiv, dMod, dPow, dLt, dLe, dGt, dGe, dMul, dMulR, dMulT, dIs, dIx, isNon_oI, isNon_non, isNon_int, isNon_bl, isNon_str, isNon_ty, isNon_tup, isNon_lst, isNon_scr, isNon_dic, isNon_obj, isNon_ref, isNon_glb, isNon_exc, isNon_book, eVar, eC, fLen, fAbs, fInt, fMax2, fMin2, fIntsI, fSorted, fTuple, fList, fListR, eLenSet, eSortedSet, eTupRg, eLstRg, eRefRg, rg1, rg2, tYesD, sRaise, sRaiseF, eM, KD.E, wipeD, ins_book, fget_posts, fget_may, mem_Book, it_tup, it_lst, it_scr, it_ref, it_may, it_fil, it_int, it_str, lo_lst, lo_tup, lo_int, lo_ref, li_lst, li_scr, li_tup, li_ref, true_and, List.set_cons_zero, List.set_cons_succ, List.getElem?_cons_zero, List.getElem?_cons_succ, List.map_cons, List.map_nil, List.length_cons, List.length_nil, List.replicate_succ, List.replicate_zero, List.cons_append, List.nil_append, List.zip_cons_cons, List.zip_nil_left, List.foldl_cons, List.foldl_nil, Nat.reduceSub, Nat.reduceAdd, Nat.zero_add, brB_t, brB_f, Bool.not_true, Bool.not_false, if_true, if_false, Bool.false_eq_true, ↓reduceIte]
                cases c2 : decide (vy ∈ may.getD x []) with
                | false => rw [c2] at hN; simp only [dEq_int, dNe_int, dEq_bl, dNe_bl, bodyD, startD, sNext, sBreak, sCont, sDrop, sRet, sRetN, sSet, sPar, sAsg, sSub, sFldD, iSeq, iCall, wEnum, wRange1, wRange2, wz_tup, eComp, eCompR, eComp2, eComp2R, gN, gT, gTcons, gTnil, tTst, tNotD, tAndD, tOrD, eNotV, eAndV, eOrV, eIf, eNil, eCons, eTup, eLst, eRef, eFrz, eCall, eFn, eMkV_eq, eMk, eFld, eSl, oNone, oSome, eOp2, eOp1, eChain, dAdd, dInt, dIntC, dIntB, dSub, dFdiv, dMod, dPow, dLt, dLe, dGt, dGe, dMul, dMulR, dMulT, dIs, dIx, isNon_oI, isNon_non, isNon_int, isNon_bl, isNon_str, isNon_ty, isNon_tup, isNon_lst, isNon_scr, isNon_dic, isNon_obj, isNon_ref, isNon_glb, isNon_exc, isNon_book, eVar, eC, fLen, fAbs, fInt, fMax2, fMin2, fIntsI, fSorted, fTuple, fList, fListR, eLenSet, eSortedSet, eTupRg, eLstRg, eRefRg, rg1, rg2, tYesD, sRaise, sRaiseF, eM, KD.E, wipeD, ins_book, fget_posts, fget_may, mem_Book, it_tup, it_lst, it_scr, it_ref, it_may, it_fil, it_int, it_str, lo_lst, lo_tup, lo_int, lo_ref, li_lst, li_scr, li_tup, li_ref, true_and, List.set_cons_zero, List.set_cons_succ, List.getElem?_cons_zero, List.getElem?_cons_succ, List.map_cons, List.map_nil, List.length_cons, List.length_nil, List.replicate_succ, List.replicate_zero, List.cons_append, List.nil_append, List.zip_cons_cons, List.zip_nil_left, List.foldl_cons, List.foldl_nil, Nat.reduceSub, Nat.reduceAdd, Nat.zero_add, brB_t, brB_f, Bool.not_true, Bool.not_false, if_true, if_false, Bool.false_eq_true, ↓reduceIte]; exact hN
                | true =>
                  rw [c2] at hN
                  simp only [dEq_int, dNe_int, dEq_bl, dNe_bl, bodyD, startD, sNext, sBreak, sCont, sDrop, sRet, sRetN, sSet, sPar, sAsg, sSub, sFldD, iSeq, iCall, wEnum, wRange1, wRange2, wz_tup, eComp, eCompR, eComp2, eComp2R, gN, gT, gTcons, gTnil, tTst, tNotD, tAndD, tOrD, eNotV, eAndV, eOrV, eIf, eNil, eCons, eTup, eLst, eRef, eFrz, eCall, eFn, eMkV_eq, eMk, eFld, eSl, oNone, oSome, eOp2, eOp1, eChain, dAdd, dInt, dIntC, dIntB, dSub, dFdiv, dMod, dPow, dLt, dLe, dGt, dGe, dMul, dMulR, dMulT, dIs, dIx, isNon_oI, isNon_non, isNon_int, isNon_bl, isNon_str, isNon_ty, isNon_tup, isNon_lst, isNon_scr, isNon_dic, isNon_obj, isNon_ref, isNon_glb, isNon_exc, isNon_book, eVar, eC, fLen, fAbs, fInt, fMax2, fMin2, fIntsI, fSorted, fTuple, fList, fListR, eLenSet, eSortedSet, eTupRg, eLstRg, eRefRg, rg1, rg2, tYesD, sRaise, sRaiseF, eM, KD.E, wipeD, ins_book, fget_posts, fget_may, mem_Book, it_tup, it_lst, it_scr, it_ref, it_may, it_fil, it_int, it_str, lo_lst, lo_tup, lo_int, lo_ref, li_lst, li_scr, li_tup, li_ref, true_and, List.set_cons_zero, List.set_cons_succ, List.getElem?_cons_zero, List.getElem?_cons_succ, List.map_cons, List.map_nil, List.length_cons, List.length_nil, List.replicate_succ, List.replicate_zero, List.cons_append, List.nil_append, List.zip_cons_cons, List.zip_nil_left, List.foldl_cons, List.foldl_nil, Nat.reduceSub, Nat.reduceAdd, Nat.zero_add, brB_t, brB_f, Bool.not_true, Bool.not_false, if_true, if_false, Bool.false_eq_true, ↓reduceIte]
                  cases c3 : decide (vx ∈ may.getD y []) with
                  | false => rw [c3] at hN; simp only [dEq_int, dNe_int, dEq_bl, dNe_bl, bodyD, startD, sNext, sBreak, sCont, sDrop, sRet, sRetN, sSet, sPar, sAsg, sSub, sFldD, iSeq, iCall, wEnum, wRange1, wRange2, wz_tup, eComp, eCompR, eComp2, eComp2R, gN, gT, gTcons, gTnil, tTst, tNotD, tAndD, tOrD, eNotV, eAndV, eOrV, eIf, eNil, eCons, eTup, eLst, eRef, eFrz, eCall, eFn, eMkV_eq, eMk, eFld, eSl, oNone, oSome, eOp2, eOp1, eChain, dAdd, dInt, dIntC, dIntB, dSub, dFdiv, dMod, dPow, dLt, dLe, dGt, dGe, dMul, dMulR, dMulT, dIs, dIx, isNon_oI, isNon_non, isNon_int, isNon_bl, isNon_str, isNon_ty, isNon_tup, isNon_lst, isNon_scr, isNon_dic, isNon_obj, isNon_ref, isNon_glb, isNon_exc, isNon_book, eVar, eC, fLen, fAbs, fInt, fMax2, fMin2, fIntsI, fSorted, fTuple, fList, fListR, eLenSet, eSortedSet, eTupRg, eLstRg, eRefRg, rg1, rg2, tYesD, sRaise, sRaiseF, eM, KD.E, wipeD, ins_book, fget_posts, fget_may, mem_Book, it_tup, it_lst, it_scr, it_ref, it_may, it_fil, it_int, it_str, lo_lst, lo_tup, lo_int, lo_ref, li_lst, li_scr, li_tup, li_ref, true_and, List.set_cons_zero, List.set_cons_succ, List.getElem?_cons_zero, List.getElem?_cons_succ, List.map_cons, List.map_nil, List.length_cons, List.length_nil, List.replicate_succ, List.replicate_zero, List.cons_append, List.nil_append, List.zip_cons_cons, List.zip_nil_left, List.foldl_cons, List.foldl_nil, Nat.reduceSub, Nat.reduceAdd, Nat.zero_add, brB_t, brB_f, Bool.not_true, Bool.not_false, if_true, if_false, Bool.false_eq_true, ↓reduceIte]; exact hN
                  | true => rw [c3] at hN; simp only [dEq_int, dNe_int, dEq_bl, dNe_bl, bodyD, startD, sNext, sBreak, sCont, sDrop, sRet, sRetN, sSet, sPar, sAsg, sSub, sFldD, iSeq, iCall, wEnum, wRange1, wRange2, wz_tup, eComp, eCompR, eComp2, eComp2R, gN, gT, gTcons, gTnil, tTst, tNotD, tAndD, tOrD, eNotV, eAndV, eOrV, eIf, eNil, eCons, eTup, eLst, eRef, eFrz, eCall, eFn, eMkV_eq, eMk, eFld, eSl, oNone, oSome, eOp2, eOp1, eChain, dAdd, dInt, dIntC, dIntB, dSub, dFdiv, dMod, dPow, dLt, dLe, dGt, dGe, dMul, dMulR, dMulT, dIs, dIx, isNon_oI, isNon_non, isNon_int, isNon_bl, isNon_str, isNon_ty, isNon_tup, isNon_lst, isNon_scr, isNon_dic, isNon_obj, isNon_ref, isNon_glb, isNon_exc, isNon_book, eVar, eC, fLen, fAbs, fInt, fMax2, fMin2, fIntsI, fSorted, fTuple, fList, fListR, eLenSet, eSortedSet, eTupRg, eLstRg, eRefRg, rg1, rg2, tYesD, sRaise, sRaiseF, eM, KD.E, wipeD, ins_book, fget_posts, fget_may, mem_Book, it_tup, it_lst, it_scr, it_ref, it_may, it_fil, it_int, it_str, lo_lst, lo_tup, lo_int, lo_ref, li_lst, li_scr, li_tup, li_ref, true_and, List.set_cons_zero, List.set_cons_succ, List.getElem?_cons_zero, List.getElem?_cons_succ, List.map_cons, List.map_nil, List.length_cons, List.length_nil, List.replicate_succ, List.replicate_zero, List.cons_append, List.nil_append, List.zip_cons_cons, List.zip_nil_left, List.foldl_cons, List.foldl_nil, Nat.reduceSub, Nat.reduceAdd, Nat.zero_add, brB_t, brB_f, Bool.not_true, Bool.not_false, if_true, if_false, Bool.false_eq_true, ↓reduceIte]; exact hN
              · have c1' : ¬ ((x : Nat) : Int) < ((y : Nat) : Int) := by omega
                simp only [decide_eq_false c1, Bool.false_and] at hN
                simp only [decide_eq_false c1', dEq_int, dNe_int, dEq_bl, dNe_bl, bodyD, startD, sNext, sBreak, sCont, sDrop, sRet, sRetN, sSet, sPar, sAsg, sSub, sFldD, iSeq, iCall, wEnum, wRange1, wRange2, wz_tup, eComp, eCompR, eComp2, eComp2R, gN, gT, gTcons, gTnil, tTst, tNotD, tAndD, tOrD, eNotV, eAndV, eOrV, eIf, eNil, eCons, eTup, eLst, eRef, eFrz, eCall, eFn, eMkV_eq, eMk, eFld, eSl, oNone, oSome, eOp2, eOp1, eChain, dAdd, dInt, dIntC, dIntB, dSub, dFdiv, dMod, dPow, dLt, dLe, dGt, dGe, dMul, dMulR, dMulT, dIs, dIx, isNon_oI, isNon_non, isNon_int, isNon_bl, isNon_str, isNon_ty, isNon_tup, isNon_lst, isNon_scr, isNon_dic, isNon_obj, isNon_ref, isNon_glb, isNon_exc, isNon_book, eVar, eC, fLen, fAbs, fInt, fMax2, fMin2, fIntsI, fSorted, fTuple, fList, fListR, eLenSet, eSortedSet, eTupRg, eLstRg, eRefRg, rg1, rg2, tYesD, sRaise, sRaiseF, eM, KD.E, wipeD, ins_book, fget_posts, fget_may, mem_Book, it_tup, it_lst, it_scr, it_ref, it_may, it_fil, it_int, it_str, lo_lst, lo_tup, lo_int, lo_ref, li_lst, li_scr, li_tup, li_ref, true_and, List.set_cons_zero, List.set_cons_succ, List.getElem?_cons_zero, List.getElem?_cons_succ, List.map_cons, List.map_nil, List.length_cons, List.length_nil, List.replicate_succ, List.replicate_zero, List.cons_append, List.nil_append, List.zip_cons_cons, List.zip_nil_left, List.foldl_cons, List.foldl_nil, Nat.reduceSub, Nat.reduceAdd, Nat.zero_add, brB_t, brB_f, Bool.not_true, Bool.not_false, if_true, if_false, Bool.false_eq_true, ↓reduceIte]
                exact hN
  · intro p _ N acc hN
    simp only [dEq_int, dNe_int, dEq_bl, dNe_bl, bodyD, startD, sNext, sBreak, sCont, sDrop, sRet, sRetN, sSet, sPar, sAsg, sSub, sFldD, iSeq, iCall, wEnum, wRange1, wRange2, wz_tup, eComp, eCompR, eComp2, eComp2R, gN, gT, gTcons, gTnil, tTst, tNotD, tAndD, tOrD, eNotV, eAndV, eOrV, eIf, eNil, eCons, eTup, eLst, eRef, eFrz, eCall, eFn, eMkV_eq, eMk, eFld, eSl, oNone, oSome, eOp2, eOp1, eChain, dAdd, dInt, dIntC, dIntB, dSub, dFdiv, dMod, dPow, dLt, dLe, dGt, dGe, dMul, dMulR, dMulT, dIs, dIx, isNon_oI, isNon_non, isNon_int, isNon_bl, isNon_str, isNon_ty, isNon_tup, isNon_lst, isNon_scr, isNon_dic, isNon_obj, isNon_ref, isNon_glb, isNon_exc, isNon_book, eVar, eC, fLen, fAbs, fInt, fMax2, fMin2, fIntsI, fSorted, fTuple, fList, fListR, eLenSet, eSortedSet, eTupRg, eLstRg, eRefRg, rg1, rg2, tYesD, sRaise, sRaiseF, eM, KD.E, wipeD, ins_book, fget_posts, fget_may, mem_Book, it_tup, it_lst, it_scr, it_ref, it_may, it_fil, it_int, it_str, lo_lst, lo_tup, lo_int, lo_ref, li_lst, li_scr, li_tup, li_ref, true_and, List.set_cons_zero, List.set_cons_succ, List.getElem?_cons_zero, List.getElem?_cons_succ, List.map_cons, List.map_nil, List.length_cons, List.length_nil, List.replicate_succ, List.replicate_zero, List.cons_append, List.nil_append, List.zip_cons_cons, List.zip_nil_left, List.foldl_cons, List.foldl_nil, Nat.reduceSub, Nat.reduceAdd, Nat.zero_add, brB_t, brB_f, Bool.not_true, Bool.not_false, if_true, if_false, Bool.false_eq_true, ↓reduceIte]
    cases e : isNon p.1 <;> rw [e] at hN <;> exact hN
/-! _law_done -/
def t__law_done : TSD :=
    (sSeq (sSet 2 (eCall fListR (eCons (eVar 0) eNil)))
    (sSeq (sFor (iCall wZip (eCons (eVar 1) (eCons (eOp2 dAdd (eSl (eVar 1) (oSome (eC (.int 1))) oNone) (eSl (eVar 1) oNone (oSome (eC (.int 1))))) eNil))) (gT 2 (gTcons (gN 3) (gTcons (gN 4) gTnil))) (sSub (eVar 2) (eVar 3) (eOp2 dIx (eVar 0) (eVar 4))))
    (sRet (eCall fTuple (eCons (eVar 2) eNil)))))
-- use: pop
def sp__law_done : SpD := sp_behind
theorem pl__law_done (ds : List D) (h : DH) (Q : VD) (E : ED) (w : sp__law_done ds h Q E) : popW (bodyD 5 t__law_done) ds h Q E := pl_behind ds h Q E w
/-! _law_are_listed -/
def t__law_are_listed : TSD :=
    (sSeq (sPar [7, 8] (eCons (eMkV "Book" sp_init_Book (eCons (eVar 1) (eCons (eVar 2) eNil))) (eCons (eFn sp__law_due (eCons (eVar 2) (eCons (eVar 3) eNil))) eNil)))
    (sSeq (sSet 4 (eFn sp_swaps (eCons (eVar 7) (eCons (eVar 3) eNil))))
    (sSeq (sIf (tNotD (tTst (eFn sp__law_same (eCons (eVar 4) (eCons (eVar 8) eNil))))) (sRet (eC (.bl false))) sNext)
    (sSeq (sDrop (eM isList mAppend (eVar 4) (eCons (eTup (eCons (eC (.int 0)) (eCons (eC (.int 0)) eNil))) eNil)))
    (sSeq (sFor (iCall wRange1 (eCons (eCall fLen (eCons (eVar 2) eNil)) eNil)) (gN 5) (sFor (iCall wRange1 (eCons (eCall fLen (eCons (eVar 2) eNil)) eNil)) (gN 9) (sIf (tNotD (tTst (eFn sp__law_same (eCons (eFn sp_is_exchange (eCons (eVar 7) (eCons (eVar 3) (eCons (eTup (eCons (eVar 5) (eCons (eVar 9) eNil))) eNil)))) (eCons (eOp2 (dInD false) (eTup (eCons (eVar 5) (eCons (eVar 9) eNil))) (eVar 8)) eNil))))) (sRet (eC (.bl false))) sNext)))
    (sSeq (sFor (iCall wRange1 (eCons (eIf (tTst (eOp2 dGt (eCall fLen (eCons (eVar 8) eNil)) (eC (.int 0)))) (eC (.int 3)) (eC (.int 0))) eNil)) (gN 6) (sSeq (sSet 10 (eFn sp__law_any (eCons (eVar 0) (eCons (eVar 8) eNil))))
    (sSeq (sSet 11 (eFn sp__law_done (eCons (eVar 3) (eCons (eVar 10) eNil))))
    (sSeq (sIf (tOrD (tNotD (tTst (eFn sp__law_same (eCons (eFn sp_exchanged (eCons (eVar 7) (eCons (eVar 3) (eCons (eVar 10) eNil)))) (eCons (eVar 11) eNil))))) (tNotD (tTst (eFn sp__law_same (eCons (eFn sp_swaps (eCons (eVar 7) (eCons (eVar 11) eNil))) (eCons (eFn sp__law_due (eCons (eVar 2) (eCons (eVar 11) eNil))) eNil)))))) (sRet (eC (.bl false))) sNext)
    (sIf (tTst (eOp2 (dInD true) (eVar 10) (eFn sp_swaps (eCons (eVar 7) (eCons (eVar 11) eNil))))) (sRet (eC (.bl false))) sNext)))))
    (sRet (eFn sp__law_same (eCons (eFn sp_swaps (eCons (eVar 7) (eCons (eVar 3) eNil))) (eCons (eVar 8) eNil))))))))))
-- use: pop
/-! pairs in a list -/
def pyP (p : Int × Int) : PyData := .tuple [.int p.1, .int p.2]
theorem pysOf_pairs : ∀ l : List (Int × Int), pysOf (l.map pairD) = some (l.map pyP)
  | [] => rfl
  | p :: r => by
    simp only [List.map_cons, pysOf, pysOf_pairs r, pairD, pyOf, Option.bind_some, Option.map_some]
    rfl
theorem pyP_lay (z : Int × Int) : (pyP z).canLay0 = true := by simp [pyP, PyData.canLay0, PyData.canLayAll0]
theorem pyP_depth (z : Int × Int) : (pyP z).depth = 1 := by simp [pyP, PyData.depth, PyData.depthAll]
theorem pyPs_lay : ∀ zs : List (Int × Int), PyData.canLayAll0 (zs.map pyP) = true
  | [] => by simp [PyData.canLayAll0]
  | z :: zs => by simp [PyData.canLayAll0, pyP_lay z, pyPs_lay zs]
theorem pyPs_depth : ∀ zs : List (Int × Int), PyData.depthAll (zs.map pyP) ≤ 1
  | [] => by simp [PyData.depthAll]
  | z :: zs => by
    have h1 := pyPs_depth zs
    have h2 := pyP_depth z
    simp only [List.map_cons, PyData.depthAll]
    omega
theorem pyP_shaped (z : Int × Int) : SeqAt.shaped (pyP z) = true := by
  have h := pyP_depth z
  show ((pyP z).canLay0 && decide ((pyP z).depth ≤ 64)) = true
  rw [Bool.and_eq_true]
  exact ⟨pyP_lay z, decide_eq_true (by omega)⟩
theorem pyPs_shaped (zs : List (Int × Int)) : SeqAt.shaped (.list (zs.map pyP)) = true := by
  have h1 := pyPs_depth zs
  have h2 : PyData.depth (.list (zs.map pyP)) ≤ 64 := by
    simp only [PyData.depth]
    omega
  show (PyData.canLay0 (.list (zs.map pyP)) && decide (PyData.depth (.list (zs.map pyP)) ≤ 64)) = true
  rw [Bool.and_eq_true]
  exact ⟨by simp only [PyData.canLay0]; exact pyPs_lay zs, decide_eq_true h2⟩
theorem pyP_eqv (z w : Int × Int) : PyData.eqv (pyP z) (pyP w) = decide (w = z) := by
  obtain ⟨a, b⟩ := z
  obtain ⟨a', b'⟩ := w
  have e : PyData.eqv (pyP (a, b)) (pyP (a', b')) = ((a == a') && ((b == b') && true)) := by simp only [pyP, PyData.eqv, PyData.eqvAll]
  rw [e]
  by_cases h : (a', b') = (a, b)
  · cases h; simp
  · rw [decide_eq_false h]
    by_cases h1 : a = a'
    · by_cases h2 : b = b'
      · exact absurd (by rw [h1, h2]) h
      · have : (b == b') = false := by simpa using h2
        rw [this]; simp
    · have : (a == a') = false := by simpa using h1
      rw [this]; simp
theorem any_pairs (p : Int × Int) (l : List (Int × Int)) : ((l.map pyP).any fun z => PyData.eqv z (pyP p)) = decide (p ∈ l) := by
  induction l with
  | nil => rfl
  | cons a r ih =>
    have e : decide (p ∈ a :: r) = (decide (p = a) || decide (p ∈ r)) := by simp
    rw [List.map_cons, List.any_cons, ih, pyP_eqv, e]
theorem dInD_pairs {neg : Bool} {x : D} {p : Int × Int} {m : Nat} {l : List (Int × Int)} {h : DH} {Q : VD} (ex : x = pairD p) (hm : h[m]? = some (.lst (l.map pairD))) :
    dInD neg x (.ref m) h Q = Q (.bl (if neg then !decide (p ∈ l) else decide (p ∈ l))) h := by
  subst ex
  have e1 : pyTop h (pairD p) = some (pyP p) := rfl
  have e2 : pyTop h (.ref m) = some (.list (l.map pyP)) := by
    unfold pyTop
    simp only [hm, pysOf_pairs]; rfl
  unfold dInD
  simp only [e1, e2, pyP_shaped, pyPs_shaped, any_pairs, true_and]
/-! swaps -/
theorem minL_two (a b : Int) : minL [a, b] = min a b := rfl
theorem pairs_two (a b : Int) : pairs [a, b] = [(a, b), (b, a)] := rfl
theorem goes_pair {may : List (List Int)} {f : List (Option Int)} {x y : Nat} (hx : x < may.length) (hy : y < may.length) : goesI may f [((x : Nat) : Int), ((y : Nat) : Int)] =
    (decide (x < y) && ((at_ f (x : Nat)).isSome && (at_ f (y : Nat)).isSome) && (decide ((at_ f (y : Nat)).getD 0 ∈ may.getD x []) && decide ((at_ f (x : Nat)).getD 0 ∈ may.getD y []))) := by
  have hf : formI may.length [((x : Nat) : Int), ((y : Nat) : Int)] = decide (x < y) := by
    unfold formI
    have e1 : ([((x : Nat) : Int), ((y : Nat) : Int)].all fun i => wiD (.int i) 0 ((may.length : Int) - 1)) = true := by
      simp only [List.all_cons, List.all_nil, wiD, Bool.and_true, Bool.and_eq_true, decide_eq_true_eq]
      omega
    have e2 : decide (2 ≤ [((x : Nat) : Int), ((y : Nat) : Int)].length ∧ [((x : Nat) : Int), ((y : Nat) : Int)].length ≤ 12) = true := rfl
    rw [e1, e2, minL_two]
    show (true && true && decide [((x : Nat) : Int), ((y : Nat) : Int)].Nodup && (((x : Nat) : Int) == min ((x : Nat) : Int) ((y : Nat) : Int))) = _
    by_cases h : x < y
    · have h1 : [((x : Nat) : Int), ((y : Nat) : Int)].Nodup := by simp; omega
      have h2 : (((x : Nat) : Int) == min ((x : Nat) : Int) ((y : Nat) : Int)) = true := by rw [beq_iff_eq]; omega
      rw [decide_eq_true h1, h2, decide_eq_true h]; rfl
    · by_cases h3 : x = y
      · have h1 : ¬ [((x : Nat) : Int), ((y : Nat) : Int)].Nodup := by simp; omega
        rw [decide_eq_false h1, decide_eq_false h]; rfl
      · have h2 : (((x : Nat) : Int) == min ((x : Nat) : Int) ((y : Nat) : Int)) = false := by
          rw [beq_eq_false_iff_ne]
          omega
        rw [h2, decide_eq_false h, Bool.and_false]
  unfold goesI
  rw [hf, pairs_two]
  simp only [List.all_cons, List.all_nil, Bool.and_true, Int.toNat_natCast]
theorem flatMap_if {α β : Type} (p : α → Bool) (g : α → List β) : ∀ l : List α, (l.filter p).flatMap g = l.flatMap fun x => if p x then g x else []
  | [] => rfl
  | x :: r => by
    rw [List.filter_cons, List.flatMap_cons]
    cases p x with
    | true => simp only [if_true, List.flatMap_cons]; rw [flatMap_if p g r]
    | false => simp only [Bool.false_eq_true, if_false, List.nil_append]; rw [flatMap_if p g r]
theorem filter_gt (n x : Nat) : (List.range n).filter (fun y => decide (x < y)) = (List.range (n - (x + 1))).map fun y => x + 1 + y := by
  induction n with
  | zero => simp
  | succ n ih =>
    rw [List.range_succ, List.filter_append, ih]
    by_cases h : x < n
    · have e : n + 1 - (x + 1) = (n - (x + 1)) + 1 := by omega
      rw [e, List.range_succ, List.map_append]
      have : x + 1 + (n - (x + 1)) = n := by omega
      simp [h, this]
    · have e : n + 1 - (x + 1) = n - (x + 1) := by omega
      rw [e]
      simp [h]
theorem map_filter {α β : Type} (g : α → β) (p : β → Bool) : ∀ l : List α, (l.map g).filter p = (l.filter fun a => p (g a)).map g
  | [] => rfl
  | a :: r => by
    rw [List.map_cons, List.filter_cons, List.filter_cons, map_filter g p r]
    cases p (g a) <;> rfl
theorem flatMap_congr' {α β : Type} {g g' : α → List β} : ∀ {l : List α}, (∀ x ∈ l, g x = g' x) → l.flatMap g = l.flatMap g'
  | [], _ => rfl
  | x :: r, h => by rw [List.flatMap_cons, List.flatMap_cons, h x List.mem_cons_self, flatMap_congr' fun y hy => h y (List.mem_cons_of_mem _ hy)]
theorem dueI_eq {may : List (List Int)} {f : List (Option Int)} (hl : f.length = may.length) : dueI may f = swapsI may f := by
  unfold dueI swapsI
  have eN : thereN f = (List.range may.length).filter fun x => (at_ f (x : Nat)).isSome := by unfold thereN; rw [hl]
  rw [show (thereN f).flatMap (fun x => ((thereN f).filter fun y => dueB may f x y).map fun y => (((x : Nat) : Int), ((y : Nat) : Int))) = ((List.range may.length).filter fun x => (at_ f (x : Nat)).isSome).flatMap (fun x => ((thereN f).filter fun y => dueB may f x y).map fun y => (((x : Nat) : Int), ((y : Nat) : Int))) by rw [← eN], flatMap_if]
  refine flatMap_congr' fun x hx => ?_
  have hx := List.mem_range.mp hx
  have e1 : ((List.range (may.length - (x + 1))).map fun y => (((x : Nat) : Int), ((x + 1 + y : Nat) : Int))) = ((List.range may.length).filter (fun y => decide (x < y))).map fun y => (((x : Nat) : Int), ((y : Nat) : Int)) := by
    rw [filter_gt, List.map_map]; rfl
  rw [e1, map_filter, List.filter_filter, eN, List.filter_filter]
  cases hs : (at_ f (x : Nat)).isSome with
  | false =>
    simp only [Bool.false_eq_true, if_false]
    symm
    rw [List.map_eq_nil_iff, List.filter_eq_nil_iff]
    intro y hy
    rw [goes_pair hx (List.mem_range.mp hy), hs]
    simp
  | true =>
    simp only [if_true]
    congr 1
    apply List.filter_congr
    intro y hy
    rw [goes_pair hx (List.mem_range.mp hy), hs]
    unfold dueB
    cases decide (x < y) <;> cases (at_ f (y : Nat)).isSome <;> cases decide ((at_ f (y : Nat)).getD 0 ∈ may.getD x []) <;> cases decide ((at_ f (x : Nat)).getD 0 ∈ may.getD y []) <;> rfl
theorem mem_swaps {may : List (List Int)} {f : List (Option Int)} {p : Int × Int} : p ∈ swapsI may f ↔ ∃ x y : Nat, p = ((x : Int), (y : Int)) ∧ x < may.length ∧ y < may.length ∧ goesI may f [(x : Int), (y : Int)] = true := by
  unfold swapsI
  rw [List.mem_flatMap]
  constructor
  · rintro ⟨x, hx, hp⟩
    obtain ⟨h1, h2⟩ := List.mem_filter.mp hp
    obtain ⟨y, hy, rfl⟩ := List.mem_map.mp h1
    have := List.mem_range.mp hx
    have := List.mem_range.mp hy
    exact ⟨x, x + 1 + y, rfl, by omega, by omega, h2⟩
  · rintro ⟨x, y, rfl, hx, hy, hg⟩
    have hxy : x < y := by
      rw [goes_pair hx hy] at hg
      simp only [Bool.and_eq_true, decide_eq_true_eq] at hg
      exact hg.1.1
    refine ⟨x, List.mem_range.mpr hx, List.mem_filter.mpr ⟨List.mem_map.mpr ⟨y - (x + 1), List.mem_range.mpr (by omega), ?_⟩, hg⟩⟩
    congr 1
    omega
/-! right fillings -/
structure RightP (may : List (List Int)) (f : List (Option Int)) : Prop where
  len : f.length = may.length
  mem : ∀ (i : Nat) v, f[i]? = some (some v) → v ∈ may.getD i []
  inj : ∀ (i j : Nat) v, f[i]? = some (some v) → f[j]? = some (some v) → i = j
theorem nodup_some : ∀ (f : List (Option Int)), ((f.map oI).filterMap isI).Nodup → ∀ (i j : Nat) v, f[i]? = some (some v) → f[j]? = some (some v) → i = j
  | [], _, i, j, v, h1, _ => by simp at h1
  | none :: r, h, i, j, v, h1, h2 => by
    have h : ((r.map oI).filterMap isI).Nodup := h
    cases i with
    | zero => simp at h1
    | succ i =>
      cases j with
      | zero => simp at h2
      | succ j => rw [nodup_some r h i j v h1 h2]
  | some w :: r, h, i, j, v, h1, h2 => by
    have h : (w :: (r.map oI).filterMap isI).Nodup := h
    obtain ⟨a, b⟩ := List.nodup_cons.mp h
    have inr : ∀ {k : Nat}, r[k]? = some (some w) → False := fun {k} hk => a (List.mem_filterMap.mpr ⟨oI (some w), List.mem_map.mpr ⟨_, List.mem_of_getElem? hk, rfl⟩, rfl⟩)
    cases i with
    | zero =>
      cases j with
      | zero => rfl
      | succ j =>
        simp at h1
        subst h1
        exact (inr h2).elim
    | succ i =>
      cases j with
      | zero =>
        simp at h2
        subst h2
        exact (inr h1).elim
      | succ j => rw [nodup_some r b i j v h1 h2]
theorem right_iff {may : List (List Int)} {f : List (Option Int)} : rightD may (filD f) = true ↔ RightP may f := by
  unfold rightD filD
  simp only [Bool.and_eq_true, decide_eq_true_eq, List.length_map]
  constructor
  · rintro ⟨⟨h1, h2⟩, h3⟩
    refine ⟨h1, fun i v hv => ?_, nodup_some f h3⟩
    have := List.all_eq_true.mp h2 (oI (some v), i) (List.mem_zipIdx_iff_getElem?.mpr (by rw [List.getElem?_map, hv]; rfl))
    exact of_decide_eq_true this
  · intro r
    refine ⟨⟨r.len, List.all_eq_true.mpr fun p hp => ?_⟩, some_nodup f r.inj⟩
    have hx := mem_zipIdx0 hp
    rw [List.getElem?_map] at hx
    cases e : f[p.2]? with
    | none => rw [e] at hx; cases hx
    | some o =>
      rw [e] at hx
      have ep : oI o = p.1 := Option.some.inj hx
      rw [← ep]
      cases o with
      | none => rfl
      | some v => exact decide_eq_true (r.mem p.2 v e)
theorem at_get {f : List (Option Int)} {x : Nat} {v : Int} (h : at_ f (x : Nat) = some v) : f[x]? = some (some v) := by
  unfold at_ at h
  rw [Int.toNat_natCast, List.getD_eq_getElem?_getD] at h
  cases e : f[x]? with
  | none => rw [e] at h; cases h
  | some o => rw [e] at h; rw [show o = some v from h]
theorem get_at {f : List (Option Int)} {x : Nat} {o : Option Int} (h : f[x]? = some o) : at_ f (x : Nat) = o := by
  unfold at_
  rw [Int.toNat_natCast, List.getD_eq_getElem?_getD, h]; rfl
theorem behind_two (f : List (Option Int)) (x y : Nat) : behindI f [(x : Int), (y : Int)] = (f.set x (at_ f (y : Nat))).set y (at_ f (x : Nat)) := by
  unfold behindI
  rw [pairs_two]
  simp only [List.foldl_cons, List.foldl_nil, Int.toNat_natCast]
theorem swap_right {may : List (List Int)} {f : List (Option Int)} {x y : Nat} (r : RightP may f) (hx : x < may.length) (hy : y < may.length) (hg : goesI may f [(x : Int), (y : Int)] = true) :
    RightP may (behindI f [(x : Int), (y : Int)]) ∧ goesI may (behindI f [(x : Int), (y : Int)]) [(x : Int), (y : Int)] = true := by
  have hg' := hg
  rw [goes_pair hx hy] at hg
  simp only [Bool.and_eq_true, decide_eq_true_eq] at hg
  obtain ⟨⟨hxy, sx, sy⟩, m1, m2⟩ := hg
  obtain ⟨vx, ex⟩ := Option.isSome_iff_exists.mp sx
  obtain ⟨vy, ey⟩ := Option.isSome_iff_exists.mp sy
  rw [ey] at m1
  rw [ex] at m2
  have gx := at_get ex
  have gy := at_get ey
  have lx : x < f.length := by rw [r.len]; exact hx
  have ly : y < f.length := by rw [r.len]; exact hy
  have gg : ∀ i : Nat, (behindI f [(x : Int), (y : Int)])[i]? = if i = y then some (some vx) else if i = x then some (some vy) else f[i]? := by
    intro i
    rw [behind_two, ex, ey]
    by_cases h1 : i = y
    · subst h1
      rw [if_pos rfl, List.getElem?_set_self (by rw [List.length_set]; exact ly)]
    · rw [if_neg h1, List.getElem?_set_ne (Ne.symm h1)]
      by_cases h2 : i = x
      · subst h2
        rw [if_pos rfl, List.getElem?_set_self lx]
      · rw [if_neg h2, List.getElem?_set_ne (Ne.symm h2)]
  refine ⟨⟨by rw [behindI_len]; exact r.len, fun i v hv => ?_, fun i j v h1 h2 => ?_⟩, ?_⟩
  · rw [gg] at hv
    split at hv
    · rename_i e
      subst e
      cases hv
      exact m2
    · split at hv
      · rename_i e
        subst e
        cases hv
        exact m1
      · exact r.mem i v hv
  · have key : ∀ (i : Nat) v, (behindI f [(x : Int), (y : Int)])[i]? = some (some v) → f[if i = y then x else if i = x then y else i]? = some (some v) := fun i v hv => by
      rw [gg] at hv
      by_cases e1 : i = y
      · rw [if_pos e1] at hv ⊢
        cases hv
        exact gx
      · rw [if_neg e1] at hv ⊢
        by_cases e2 : i = x
        · rw [if_pos e2] at hv ⊢
          cases hv
          exact gy
        · rw [if_neg e2] at hv ⊢
          exact hv
    have := r.inj _ _ v (key i v h1) (key j v h2)
    split at this <;> split at this <;> (try split at this) <;> (try split at this) <;> omega
  · rw [goes_pair hx hy]
    have b1 : at_ (behindI f [(x : Int), (y : Int)]) (x : Nat) = some vy := get_at (by rw [gg, if_neg (by omega), if_pos rfl])
    have b2 : at_ (behindI f [(x : Int), (y : Int)]) (y : Nat) = some vx := get_at (by rw [gg, if_pos rfl])
    rw [b1, b2]
    simp only [Bool.and_eq_true, decide_eq_true_eq]
    exact ⟨⟨hxy, rfl, rfl⟩, r.mem x vx gx, r.mem y vy gy⟩
/-! a book is made -/
structure BookOk (posts : Int) (may : List (List Int)) : Prop where
  p0 : 0 ≤ posts
  p1 : posts ≤ 12
  ml : may.length ≤ 12
  rs : ∀ s ∈ may, s.Pairwise (· < ·) ∧ ∀ i ∈ s, 0 ≤ i ∧ i < posts
theorem risD_ok {posts : Int} {s : List Int} (h1 : s.Pairwise (· < ·)) (h2 : ∀ i ∈ s, 0 ≤ i ∧ i < posts) : risD (.tup (s.map .int)) posts = true := by
  unfold risD
  simp only [intsOf_map, Bool.and_eq_true, List.all_eq_true, wiD, decide_eq_true_eq]
  exact ⟨fun i hi => by have := h2 i hi; omega, strictB_iff.mpr h1⟩
theorem mayFault_ok {posts : Int} : ∀ {ms : List D} {i : Nat}, (∀ s ∈ ms, risD s posts = true) → i + ms.length ≤ 12 → mayFault posts i ms = none
  | [], _, _, _ => rfl
  | s :: r, i, h, hl => by
    rw [List.length_cons] at hl
    unfold mayFault
    rw [if_neg (by rw [h s List.mem_cons_self]; simp; omega)]
    exact mayFault_ok (fun z hz => h z (List.mem_cons_of_mem _ hz)) (by omega)
theorem nrD_may {n : Nat} (m : List (List Int)) : nrD n (mayD m) = true := by
  unfold mayD
  simp only [nrD]
  refine nrDs_iff.mpr fun d hd => ?_
  obtain ⟨s, _, rfl⟩ := List.mem_map.mp hd
  exact nrDs_ints s
theorem obj_book {posts : Int} {may : List (List Int)} : D.obj "Book" ["posts", "may"] [.int posts, mayD may] = bookD posts may := rfl
theorem book_made {h : DH} {Q : VD} {E : ED} {posts : Int} {may : List (List Int)} (ok : BookOk posts may) (wf : WF h) (q : Q (bookD posts may) h) : mkK "Book" sp_init_Book Q E [.int posts, mayD may] h := by
  unfold mkK
  have hf : bookFault (.int posts) (mayD may) = none := by
    unfold bookFault mayD
    have e : wiD (.int posts) 0 12 = true := by
      simp only [wiD, Bool.and_eq_true, decide_eq_true_eq]
      exact ⟨ok.p0, ok.p1⟩
    simp only [e, if_true]
    rw [mayFault_ok (fun s hs => ?_) (by rw [List.length_map, Nat.zero_add]; exact ok.ml)]
    · rfl
    · obtain ⟨t, ht, rfl⟩ := List.mem_map.mp hs
      exact risD_ok (ok.rs t ht).1 (ok.rs t ht).2
  refine ⟨h.length, _, _, rfl, get_last _ _, kn_int, kn_tup, fun ms e s hs => ?_, ?_⟩
  · unfold mayD at e
    cases e
    obtain ⟨t, _, rfl⟩ := List.mem_map.mp hs
    refine ⟨kn_tup, fun xs e y hy => ?_⟩
    cases e
    obtain ⟨i, _, rfl⟩ := List.mem_map.mp hy
    exact kn_int
  · rw [hf]
    simp only [set_last, get_last, List.take_left]
    refine ⟨?_, List.all_eq_true.mpr wf, q⟩
    simp only [nrDs, nrD, Bool.and_true, Bool.true_and]
    exact nrD_may may
/-! same -/
theorem same_pair {h : DH} {n : Nat} (p : Int × Int) : SameN h (n + 2) (pairD p) (pairD p) := by
  unfold pairD
  show _ ∧ _
  refine ⟨rfl, fun q hq => ?_⟩
  simp only [List.zip_cons_cons, List.zip_nil_right, List.mem_cons, List.not_mem_nil, or_false] at hq
  rcases hq with rfl | rfl <;> exact rfl
theorem same_lists {h : DH} {n : Nat} {x y : D} {xs ys : List D} (hx : lstOf x h = some xs) (hy : lstOf y h = some ys) (hl : xs.length = ys.length) (hs : ∀ p ∈ xs.zip ys, SameN h n p.1 p.2) : SameN h (n + 1) x y := by
  rcases lstOf_cases hx with rfl | ⟨a, rfl, ha⟩ <;> rcases lstOf_cases hy with rfl | ⟨b, rfl, hb⟩ <;> unfold SameN <;> simp only [hx, hy] <;> exact ⟨hl, hs⟩
theorem zip_self {α : Type} {l : List α} {p : α × α} (h : p ∈ l.zip l) : p.1 = p.2 ∧ p.1 ∈ l := by
  induction l with
  | nil => cases h
  | cons a r ih =>
    rw [List.zip_cons_cons] at h
    rcases List.mem_cons.mp h with rfl | h
    · exact ⟨rfl, List.mem_cons_self⟩
    · exact ⟨(ih h).1, List.mem_cons_of_mem _ (ih h).2⟩
theorem same_pairs {h : DH} {n : Nat} {x y : D} {l : List (Int × Int)} (hx : lstOf x h = some (l.map pairD)) (hy : lstOf y h = some (l.map pairD)) : SameN h (n + 3) x y :=
  same_lists hx hy rfl fun p hp => by
    obtain ⟨e, hm⟩ := zip_self hp
    obtain ⟨z, _, ez⟩ := List.mem_map.mp hm
    rw [← e, ← ez]
    exact same_pair z
theorem same_fil {h : DH} {n : Nat} (f : List (Option Int)) : SameN h (n + 2) (filD f) (filD f) := by
  unfold filD
  show _ ∧ _
  refine ⟨rfl, fun p hp => ?_⟩
  obtain ⟨e, hm⟩ := zip_self hp
  obtain ⟨z, _, ez⟩ := List.mem_map.mp hm
  rw [← e, ← ez]
  cases z with
  | none => exact trivial
  | some v => exact rfl
theorem same_bl {h : DH} {n : Nat} (b : Bool) : SameN h (n + 1) (.bl b) (.bl b) := rfl
theorem lo_get {h : DH} {m : Nat} {xs : List D} (e : h[m]? = some (.lst xs)) : lstOf (.ref m) h = some xs := by
  rw [lo_ref, e]
theorem it_get {h : DH} {m : Nat} {xs : List D} (e : h[m]? = some (.lst xs)) : itemsOf (.ref m) h = some xs := by
  rw [it_ref, e]
theorem goes_mem {may : List (List Int)} {f : List (Option Int)} {x y : Nat} (hx : x < may.length) (hy : y < may.length) : goesI may f [(x : Int), (y : Int)] = decide (((x : Int), (y : Int)) ∈ swapsI may f) := by
  by_cases h : ((x : Int), (y : Int)) ∈ swapsI may f
  · rw [decide_eq_true h]
    obtain ⟨x', y', e, _, _, g⟩ := mem_swaps.mp h
    injection e with e1 e2
    rw [e1, e2]
    exact g
  · rw [decide_eq_false h]
    cases g : goesI may f [(x : Int), (y : Int)] with
    | false => rfl
    | true => exact absurd (mem_swaps.mpr ⟨x, y, rfl, hx, hy, g⟩) h
theorem kn_two {a b : Int} {h : DH} {xs : List D} (e : D.tup [.int a, .int b] = .tup xs) : ∀ y ∈ xs, Kn y h := by
  cases e
  intro z hz
  simp only [List.mem_cons, List.not_mem_nil, or_false] at hz
  rcases hz with rfl | rfl <;> exact kn_int
def sp__law_are_listed : SpD := fun ds h Q _ => ∃ (n : Nat) (posts : Int) (may : List (List Int)) (f : List (Option Int)), ds = [.ref n, .int posts, mayD may, filD f] ∧ IsHand h n ∧ BookOk posts may ∧ rightD may (filD f) = true ∧ ∀ h', Drawn h h' n → Q (.bl true) h'
theorem pl__law_are_listed (ds : List D) (h : DH) (Q : VD) (E : ED) (w : sp__law_are_listed ds h Q E) : popW (bodyD 12 t__law_are_listed) ds h Q E := by
  obtain ⟨n, posts, may, f, rfl, hI, ok, hr, q⟩ := w
  intro _ wf
  have hrp := right_iff.mp hr
  have hn := hI.lt
  have hml : may.length ≤ 1000 := by have := ok.ml; omega
  have hsl := swaps_len may f
  have hsl2 : (swapsI may f).length ≤ 144 := by
    have : may.length * may.length ≤ 12 * 12 := Nat.mul_le_mul ok.ml ok.ml
    omega
  unfold popF t__law_are_listed bodyD
  refine sSeq_i fun N hN => ?_
  simp only [dEq_int, dNe_int, dEq_bl, dNe_bl, bodyD, startD, sNext, sBreak, sCont, sDrop, sRet, sRetN, sSet, sPar, sAsg, sSub, sFldD, iSeq, iCall, wEnum, wRange1, wRange2, wz_tup, eComp, eCompR, eComp2, eComp2R, gN, gT, gTcons, gTnil, tTst, tNotD, tAndD, tOrD, eNotV, eAndV, eOrV, eIf, eNil, eCons, eTup, eLst, eRef, eFrz, eCall, eFn, eMkV_eq, eMk, eFld, eSl, oNone, oSome, eOp2, eOp1, eChain, dAdd, dInt, dIntC, dIntB, dSub, dFdiv, dMod, dPow, dLt, dLe, dGt, dGe, dMul, dMulR, dMulT, dIs, dIx, isNon_oI, isNon_non, isNon_int, isNon_bl, isNon_str, isNon_ty, isNon_tup, isNon_lst, isNon_scr, isNon_dic, isNon_obj, isNon_ref, isNon_glb, isNon_exc, isNon_book, eVar, eC, fLen, fAbs, fInt, fMax2, fMin2, fIntsI, fSorted, fTuple, fList, fListR, eLenSet, eSortedSet, eTupRg, eLstRg, eRefRg, rg1, rg2, tYesD, sRaise, sRaiseF, eM, KD.E, wipeD, ins_book, fget_posts, fget_may, mem_Book, it_tup, it_lst, it_scr, it_ref, it_may, it_fil, it_int, it_str, lo_lst, lo_tup, lo_int, lo_ref, li_lst, li_scr, li_tup, li_ref, true_and, List.set_cons_zero, List.set_cons_succ, List.getElem?_cons_zero, List.getElem?_cons_succ, List.map_cons, List.map_nil, List.length_cons, List.length_nil, List.replicate_succ, List.replicate_zero, List.cons_append, List.nil_append, List.zip_cons_cons, List.zip_nil_left, List.foldl_cons, List.foldl_nil, Nat.reduceSub, Nat.reduceAdd, Nat.zero_add, brB_t, brB_f, Bool.not_true, Bool.not_false, if_true, if_false, Bool.false_eq_true, ↓reduceIte]
  refine book_made ok wf ?_
  refine ⟨may, f, rfl, hrp.len, hml, hN _ _ ?_⟩
  rw [dueI_eq hrp.len]
  refine sSeq_i fun N2 hN2 => ?_
  simp only [dEq_int, dNe_int, dEq_bl, dNe_bl, bodyD, startD, sNext, sBreak, sCont, sDrop, sRet, sRetN, sSet, sPar, sAsg, sSub, sFldD, iSeq, iCall, wEnum, wRange1, wRange2, wz_tup, eComp, eCompR, eComp2, eComp2R, gN, gT, gTcons, gTnil, tTst, tNotD, tAndD, tOrD, eNotV, eAndV, eOrV, eIf, eNil, eCons, eTup, eLst, eRef, eFrz, eCall, eFn, eMkV_eq, eMk, eFld, eSl, oNone, oSome, eOp2, eOp1, eChain, dAdd, dInt, dIntC, dIntB, dSub, dFdiv, dMod, dPow, dLt, dLe, dGt, dGe, dMul, dMulR, dMulT, dIs, dIx, isNon_oI, isNon_non, isNon_int, isNon_bl, isNon_str, isNon_ty, isNon_tup, isNon_lst, isNon_scr, isNon_dic, isNon_obj, isNon_ref, isNon_glb, isNon_exc, isNon_book, eVar, eC, fLen, fAbs, fInt, fMax2, fMin2, fIntsI, fSorted, fTuple, fList, fListR, eLenSet, eSortedSet, eTupRg, eLstRg, eRefRg, rg1, rg2, tYesD, sRaise, sRaiseF, eM, KD.E, wipeD, ins_book, fget_posts, fget_may, mem_Book, it_tup, it_lst, it_scr, it_ref, it_may, it_fil, it_int, it_str, lo_lst, lo_tup, lo_int, lo_ref, li_lst, li_scr, li_tup, li_ref, true_and, List.set_cons_zero, List.set_cons_succ, List.getElem?_cons_zero, List.getElem?_cons_succ, List.map_cons, List.map_nil, List.length_cons, List.length_nil, List.replicate_succ, List.replicate_zero, List.cons_append, List.nil_append, List.zip_cons_cons, List.zip_nil_left, List.foldl_cons, List.foldl_nil, Nat.reduceSub, Nat.reduceAdd, Nat.zero_add, brB_t, brB_f, Bool.not_true, Bool.not_false, if_true, if_false, Bool.false_eq_true, ↓reduceIte]
  refine ⟨posts, may, f, rfl, hr, hml, hN2 _ _ ?_⟩
  rw [List.append_assoc, List.length_append]
  simp only [dEq_int, dNe_int, dEq_bl, dNe_bl, bodyD, startD, sNext, sBreak, sCont, sDrop, sRet, sRetN, sSet, sPar, sAsg, sSub, sFldD, iSeq, iCall, wEnum, wRange1, wRange2, wz_tup, eComp, eCompR, eComp2, eComp2R, gN, gT, gTcons, gTnil, tTst, tNotD, tAndD, tOrD, eNotV, eAndV, eOrV, eIf, eNil, eCons, eTup, eLst, eRef, eFrz, eCall, eFn, eMkV_eq, eMk, eFld, eSl, oNone, oSome, eOp2, eOp1, eChain, dAdd, dInt, dIntC, dIntB, dSub, dFdiv, dMod, dPow, dLt, dLe, dGt, dGe, dMul, dMulR, dMulT, dIs, dIx, isNon_oI, isNon_non, isNon_int, isNon_bl, isNon_str, isNon_ty, isNon_tup, isNon_lst, isNon_scr, isNon_dic, isNon_obj, isNon_ref, isNon_glb, isNon_exc, isNon_book, eVar, eC, fLen, fAbs, fInt, fMax2, fMin2, fIntsI, fSorted, fTuple, fList, fListR, eLenSet, eSortedSet, eTupRg, eLstRg, eRefRg, rg1, rg2, tYesD, sRaise, sRaiseF, eM, KD.E, wipeD, ins_book, fget_posts, fget_may, mem_Book, it_tup, it_lst, it_scr, it_ref, it_may, it_fil, it_int, it_str, lo_lst, lo_tup, lo_int, lo_ref, li_lst, li_scr, li_tup, li_ref, true_and, List.set_cons_zero, List.set_cons_succ, List.getElem?_cons_zero, List.getElem?_cons_succ, List.map_cons, List.map_nil, List.length_cons, List.length_nil, List.replicate_succ, List.replicate_zero, List.cons_append, List.nil_append, List.zip_cons_cons, List.zip_nil_left, List.foldl_cons, List.foldl_nil, Nat.reduceSub, Nat.reduceAdd, Nat.zero_add, brB_t, brB_f, Bool.not_true, Bool.not_false, if_true, if_false, Bool.false_eq_true, ↓reduceIte]
  have L0 : h.length = h.length := rfl
  refine sSeq_i fun N3 hN3 => ?_
  refine sIf_i fun A B hA hB => ?_
  simp only [dEq_int, dNe_int, dEq_bl, dNe_bl, bodyD, startD, sNext, sBreak, sCont, sDrop, sRet, sRetN, sSet, sPar, sAsg, sSub, sFldD, iSeq, iCall, wEnum, wRange1, wRange2, wz_tup, eComp, eCompR, eComp2, eComp2R, gN, gT, gTcons, gTnil, tTst, tNotD, tAndD, tOrD, eNotV, eAndV, eOrV, eIf, eNil, eCons, eTup, eLst, eRef, eFrz, eCall, eFn, eMkV_eq, eMk, eFld, eSl, oNone, oSome, eOp2, eOp1, eChain, dAdd, dInt, dIntC, dIntB, dSub, dFdiv, dMod, dPow, dLt, dLe, dGt, dGe, dMul, dMulR, dMulT, dIs, dIx, isNon_oI, isNon_non, isNon_int, isNon_bl, isNon_str, isNon_ty, isNon_tup, isNon_lst, isNon_scr, isNon_dic, isNon_obj, isNon_ref, isNon_glb, isNon_exc, isNon_book, eVar, eC, fLen, fAbs, fInt, fMax2, fMin2, fIntsI, fSorted, fTuple, fList, fListR, eLenSet, eSortedSet, eTupRg, eLstRg, eRefRg, rg1, rg2, tYesD, sRaise, sRaiseF, eM, KD.E, wipeD, ins_book, fget_posts, fget_may, mem_Book, it_tup, it_lst, it_scr, it_ref, it_may, it_fil, it_int, it_str, lo_lst, lo_tup, lo_int, lo_ref, li_lst, li_scr, li_tup, li_ref, true_and, List.set_cons_zero, List.set_cons_succ, List.getElem?_cons_zero, List.getElem?_cons_succ, List.map_cons, List.map_nil, List.length_cons, List.length_nil, List.replicate_succ, List.replicate_zero, List.cons_append, List.nil_append, List.zip_cons_cons, List.zip_nil_left, List.foldl_cons, List.foldl_nil, Nat.reduceSub, Nat.reduceAdd, Nat.zero_add, brB_t, brB_f, Bool.not_true, Bool.not_false, if_true, if_false, Bool.false_eq_true, ↓reduceIte]
  refine ⟨_, _, rfl, same_pairs (n := 3) (lo_get (ga 1 L0)) (lo_get (ga0 L0)), ?_⟩
  simp only [dEq_int, dNe_int, dEq_bl, dNe_bl, bodyD, startD, sNext, sBreak, sCont, sDrop, sRet, sRetN, sSet, sPar, sAsg, sSub, sFldD, iSeq, iCall, wEnum, wRange1, wRange2, wz_tup, eComp, eCompR, eComp2, eComp2R, gN, gT, gTcons, gTnil, tTst, tNotD, tAndD, tOrD, eNotV, eAndV, eOrV, eIf, eNil, eCons, eTup, eLst, eRef, eFrz, eCall, eFn, eMkV_eq, eMk, eFld, eSl, oNone, oSome, eOp2, eOp1, eChain, dAdd, dInt, dIntC, dIntB, dSub, dFdiv, dMod, dPow, dLt, dLe, dGt, dGe, dMul, dMulR, dMulT, dIs, dIx, isNon_oI, isNon_non, isNon_int, isNon_bl, isNon_str, isNon_ty, isNon_tup, isNon_lst, isNon_scr, isNon_dic, isNon_obj, isNon_ref, isNon_glb, isNon_exc, isNon_book, eVar, eC, fLen, fAbs, fInt, fMax2, fMin2, fIntsI, fSorted, fTuple, fList, fListR, eLenSet, eSortedSet, eTupRg, eLstRg, eRefRg, rg1, rg2, tYesD, sRaise, sRaiseF, eM, KD.E, wipeD, ins_book, fget_posts, fget_may, mem_Book, it_tup, it_lst, it_scr, it_ref, it_may, it_fil, it_int, it_str, lo_lst, lo_tup, lo_int, lo_ref, li_lst, li_scr, li_tup, li_ref, true_and, List.set_cons_zero, List.set_cons_succ, List.getElem?_cons_zero, List.getElem?_cons_succ, List.map_cons, List.map_nil, List.length_cons, List.length_nil, List.replicate_succ, List.replicate_zero, List.cons_append, List.nil_append, List.zip_cons_cons, List.zip_nil_left, List.foldl_cons, List.foldl_nil, Nat.reduceSub, Nat.reduceAdd, Nat.zero_add, brB_t, brB_f, Bool.not_true, Bool.not_false, if_true, if_false, Bool.false_eq_true, ↓reduceIte]
  refine hB _ (hN3 _ _ ?_)
  refine sSeq_i fun N4 hN4 => ?_
  simp only [dEq_int, dNe_int, dEq_bl, dNe_bl, bodyD, startD, sNext, sBreak, sCont, sDrop, sRet, sRetN, sSet, sPar, sAsg, sSub, sFldD, iSeq, iCall, wEnum, wRange1, wRange2, wz_tup, eComp, eCompR, eComp2, eComp2R, gN, gT, gTcons, gTnil, tTst, tNotD, tAndD, tOrD, eNotV, eAndV, eOrV, eIf, eNil, eCons, eTup, eLst, eRef, eFrz, eCall, eFn, eMkV_eq, eMk, eFld, eSl, oNone, oSome, eOp2, eOp1, eChain, dAdd, dInt, dIntC, dIntB, dSub, dFdiv, dMod, dPow, dLt, dLe, dGt, dGe, dMul, dMulR, dMulT, dIs, dIx, isNon_oI, isNon_non, isNon_int, isNon_bl, isNon_str, isNon_ty, isNon_tup, isNon_lst, isNon_scr, isNon_dic, isNon_obj, isNon_ref, isNon_glb, isNon_exc, isNon_book, eVar, eC, fLen, fAbs, fInt, fMax2, fMin2, fIntsI, fSorted, fTuple, fList, fListR, eLenSet, eSortedSet, eTupRg, eLstRg, eRefRg, rg1, rg2, tYesD, sRaise, sRaiseF, eM, KD.E, wipeD, ins_book, fget_posts, fget_may, mem_Book, it_tup, it_lst, it_scr, it_ref, it_may, it_fil, it_int, it_str, lo_lst, lo_tup, lo_int, lo_ref, li_lst, li_scr, li_tup, li_ref, true_and, List.set_cons_zero, List.set_cons_succ, List.getElem?_cons_zero, List.getElem?_cons_succ, List.map_cons, List.map_nil, List.length_cons, List.length_nil, List.replicate_succ, List.replicate_zero, List.cons_append, List.nil_append, List.zip_cons_cons, List.zip_nil_left, List.foldl_cons, List.foldl_nil, Nat.reduceSub, Nat.reduceAdd, Nat.zero_add, brB_t, brB_f, Bool.not_true, Bool.not_false, if_true, if_false, Bool.false_eq_true, ↓reduceIte, isList_lst (ga 1 L0 : (h ++ [O.lst ((swapsI may f).map pairD), O.lst ((swapsI may f).map pairD)])[h.length + 1]? = _), mAppend, ga 1 L0, sa 1 L0]
  refine ⟨size_lt (by rw [List.length_map]; omega), hN4 _ _ ?_⟩
  generalize (swapsI may f).map pairD ++ [D.tup [D.int 0, D.int 0]] = l2
  refine sSeq_i fun N5 hN5 => ?_
  refine sFor_i fun LL hLL => ?_
  simp only [dEq_int, dNe_int, dEq_bl, dNe_bl, bodyD, startD, sNext, sBreak, sCont, sDrop, sRet, sRetN, sSet, sPar, sAsg, sSub, sFldD, iSeq, iCall, wEnum, wRange1, wRange2, wz_tup, eComp, eCompR, eComp2, eComp2R, gN, gT, gTcons, gTnil, tTst, tNotD, tAndD, tOrD, eNotV, eAndV, eOrV, eIf, eNil, eCons, eTup, eLst, eRef, eFrz, eCall, eFn, eMkV_eq, eMk, eFld, eSl, oNone, oSome, eOp2, eOp1, eChain, dAdd, dInt, dIntC, dIntB, dSub, dFdiv, dMod, dPow, dLt, dLe, dGt, dGe, dMul, dMulR, dMulT, dIs, dIx, isNon_oI, isNon_non, isNon_int, isNon_bl, isNon_str, isNon_ty, isNon_tup, isNon_lst, isNon_scr, isNon_dic, isNon_obj, isNon_ref, isNon_glb, isNon_exc, isNon_book, eVar, eC, fLen, fAbs, fInt, fMax2, fMin2, fIntsI, fSorted, fTuple, fList, fListR, eLenSet, eSortedSet, eTupRg, eLstRg, eRefRg, rg1, rg2, tYesD, sRaise, sRaiseF, eM, KD.E, wipeD, ins_book, fget_posts, fget_may, mem_Book, it_tup, it_lst, it_scr, it_ref, it_may, it_fil, it_int, it_str, lo_lst, lo_tup, lo_int, lo_ref, li_lst, li_scr, li_tup, li_ref, true_and, List.set_cons_zero, List.set_cons_succ, List.getElem?_cons_zero, List.getElem?_cons_succ, List.map_cons, List.map_nil, List.length_cons, List.length_nil, List.replicate_succ, List.replicate_zero, List.cons_append, List.nil_append, List.zip_cons_cons, List.zip_nil_left, List.foldl_cons, List.foldl_nil, Nat.reduceSub, Nat.reduceAdd, Nat.zero_add, brB_t, brB_f, Bool.not_true, Bool.not_false, if_true, if_false, Bool.false_eq_true, ↓reduceIte, List.length_map]
  refine ⟨⟨by omega, by omega⟩, hLL _ _ _ ?_⟩
  rw [Int.toNat_natCast, rngL_rng']
  refine forL_ind (fun items sd hh => ∃ k r x5 x9, k + r = may.length ∧ items = (List.range' k r).map (fun i => D.int ((i : Nat) : Int)) ∧ sd = [some (.ref n), some (.int posts), some (mayD may), some (filD f), some (.ref (h.length + 1)), x5, none, some (bookD posts may), some (.ref h.length), x9, none, none] ∧
    hh = h ++ [.lst ((swapsI may f).map pairD), .lst l2]) ?_ ?_ _ _ _ ⟨0, may.length, none, none, Nat.zero_add _, rfl, rfl, rfl⟩
  · rintro sd hh ⟨k, r, x5, x9, hkr, hr0, rfl, rfl⟩
    refine ⟨trivial, hN5 _ _ ?_⟩
    refine sSeq_i fun N6 hN6 => ?_
    refine sFor_i fun LL2 hLL2 => ?_
    simp only [dEq_int, dNe_int, dEq_bl, dNe_bl, bodyD, startD, sNext, sBreak, sCont, sDrop, sRet, sRetN, sSet, sPar, sAsg, sSub, sFldD, iSeq, iCall, wEnum, wRange1, wRange2, wz_tup, eComp, eCompR, eComp2, eComp2R, gN, gT, gTcons, gTnil, tTst, tNotD, tAndD, tOrD, eNotV, eAndV, eOrV, eIf, eNil, eCons, eTup, eLst, eRef, eFrz, eCall, eFn, eMkV_eq, eMk, eFld, eSl, oNone, oSome, eOp2, eOp1, eChain, dAdd, dInt, dIntC, dIntB, dSub, dFdiv, dMod, dPow, dLt, dLe, dGt, dGe, dMul, dMulR, dMulT, dIs, dIx, isNon_oI, isNon_non, isNon_int, isNon_bl, isNon_str, isNon_ty, isNon_tup, isNon_lst, isNon_scr, isNon_dic, isNon_obj, isNon_ref, isNon_glb, isNon_exc, isNon_book, eVar, eC, fLen, fAbs, fInt, fMax2, fMin2, fIntsI, fSorted, fTuple, fList, fListR, eLenSet, eSortedSet, eTupRg, eLstRg, eRefRg, rg1, rg2, tYesD, sRaise, sRaiseF, eM, KD.E, wipeD, ins_book, fget_posts, fget_may, mem_Book, it_tup, it_lst, it_scr, it_ref, it_may, it_fil, it_int, it_str, lo_lst, lo_tup, lo_int, lo_ref, li_lst, li_scr, li_tup, li_ref, true_and, List.set_cons_zero, List.set_cons_succ, List.getElem?_cons_zero, List.getElem?_cons_succ, List.map_cons, List.map_nil, List.length_cons, List.length_nil, List.replicate_succ, List.replicate_zero, List.cons_append, List.nil_append, List.zip_cons_cons, List.zip_nil_left, List.foldl_cons, List.foldl_nil, Nat.reduceSub, Nat.reduceAdd, Nat.zero_add, brB_t, brB_f, Bool.not_true, Bool.not_false, if_true, if_false, Bool.false_eq_true, ↓reduceIte, it_get (ga0 L0 : (h ++ [O.lst ((swapsI may f).map pairD), O.lst l2])[h.length]? = _), List.length_map]
    have fin : ∀ (k r : Nat), (0 < r → 0 < (swapsI may f).length) → forL (fun _ => True) (gN 6) (sSeq (sSet 10 (eFn sp__law_any (eCons (eVar 0) (eCons (eVar 8) eNil))))
        (sSeq (sSet 11 (eFn sp__law_done (eCons (eVar 3) (eCons (eVar 10) eNil))))
        (sSeq (sIf (tOrD (tNotD (tTst (eFn sp__law_same (eCons (eFn sp_exchanged (eCons (eVar 7) (eCons (eVar 3) (eCons (eVar 10) eNil)))) (eCons (eVar 11) eNil))))) (tNotD (tTst (eFn sp__law_same (eCons (eFn sp_swaps (eCons (eVar 7) (eCons (eVar 11) eNil))) (eCons (eFn sp__law_due (eCons (eVar 2) (eCons (eVar 11) eNil))) eNil)))))) (sRet (eC (.bl false))) sNext)
        (sIf (tTst (eOp2 (dInD true) (eVar 10) (eFn sp_swaps (eCons (eVar 7) (eCons (eVar 11) eNil))))) (sRet (eC (.bl false))) sNext))))
        { nx := N6, rt := popQ h.length Q, er := fun nm ns fs x h' => popE h.length E nm ns fs h' } ((List.range' k r).map fun i => D.int ((i : Nat) : Int)) [some (.ref n), some (.int posts), some (mayD may), some (filD f), some (.ref (h.length + 1)), x5, none, some (bookD posts may), some (.ref h.length), x9, none, none] (h ++ [.lst ((swapsI may f).map pairD), .lst l2]) := by
      intro k r hpos
      refine forL_ind (fun items sd hh => ∃ k' r' x6 x10 x11 h0 g, (0 < r' → 0 < (swapsI may f).length) ∧ items = (List.range' k' r').map (fun i => D.int ((i : Nat) : Int)) ∧ sd = [some (.ref n), some (.int posts), some (mayD may), some (filD f), some (.ref (h.length + 1)), x5, x6, some (bookD posts may), some (.ref h.length), x9, x10, x11] ∧
        hh = h0 ++ (.lst ((swapsI may f).map pairD) :: .lst l2 :: g) ∧ Drawn h h0 n) ?_ ?_ _ _ _ ⟨k, r, none, none, none, h, [], hpos, rfl, rfl, rfl, Drawn.refl hI⟩
      · rintro sd hh ⟨k', r', x6, x10, x11, h0, g, _, _, rfl, rfl, dr⟩
        refine ⟨trivial, hN6 _ _ ?_⟩
        simp only [dEq_int, dNe_int, dEq_bl, dNe_bl, bodyD, startD, sNext, sBreak, sCont, sDrop, sRet, sRetN, sSet, sPar, sAsg, sSub, sFldD, iSeq, iCall, wEnum, wRange1, wRange2, wz_tup, eComp, eCompR, eComp2, eComp2R, gN, gT, gTcons, gTnil, tTst, tNotD, tAndD, tOrD, eNotV, eAndV, eOrV, eIf, eNil, eCons, eTup, eLst, eRef, eFrz, eCall, eFn, eMkV_eq, eMk, eFld, eSl, oNone, oSome, eOp2, eOp1, eChain, dAdd, dInt, dIntC, dIntB, dSub, dFdiv, dMod, dPow, dLt, dLe, dGt, dGe, dMul, dMulR, dMulT, dIs, dIx, isNon_oI, isNon_non, isNon_int, isNon_bl, isNon_str, isNon_ty, isNon_tup, isNon_lst, isNon_scr, isNon_dic, isNon_obj, isNon_ref, isNon_glb, isNon_exc, isNon_book, eVar, eC, fLen, fAbs, fInt, fMax2, fMin2, fIntsI, fSorted, fTuple, fList, fListR, eLenSet, eSortedSet, eTupRg, eLstRg, eRefRg, rg1, rg2, tYesD, sRaise, sRaiseF, eM, KD.E, wipeD, ins_book, fget_posts, fget_may, mem_Book, it_tup, it_lst, it_scr, it_ref, it_may, it_fil, it_int, it_str, lo_lst, lo_tup, lo_int, lo_ref, li_lst, li_scr, li_tup, li_ref, true_and, List.set_cons_zero, List.set_cons_succ, List.getElem?_cons_zero, List.getElem?_cons_succ, List.map_cons, List.map_nil, List.length_cons, List.length_nil, List.replicate_succ, List.replicate_zero, List.cons_append, List.nil_append, List.zip_cons_cons, List.zip_nil_left, List.foldl_cons, List.foldl_nil, Nat.reduceSub, Nat.reduceAdd, Nat.zero_add, brB_t, brB_f, Bool.not_true, Bool.not_false, if_true, if_false, Bool.false_eq_true, ↓reduceIte]
        refine ⟨posts, may, f, rfl, hr, hml, ?_⟩
        refine ⟨_, _, rfl, same_pairs (n := 3) (lo_get (get_last _ _)) (lo_get (by rw [gl (by rw [List.length_append, dr.1, List.length_cons]; omega)]; exact ga0 dr.1)), ?_⟩
        obtain ⟨t1, t2⟩ := Drawn.take (t := .lst ((swapsI may f).map pairD) :: .lst l2 :: g ++ [.lst ((swapsI may f).map pairD)]) wf dr
        rw [List.append_assoc]
        refine ⟨rfl, t1, by rw [List.length_append, dr.1]; omega, ?_⟩
        rw [t2]
        exact q h0 dr
      · rintro y l sd hh N ⟨k', r', x6, x10, x11, h0, g, hpos, hl, rfl, rfl, dr⟩ hN
        obtain ⟨r', rfl, rfl, rfl⟩ := cons_range hl
        have hpos' := hpos (Nat.succ_pos _)
        refine ⟨trivial, ?_⟩
        simp only [dEq_int, dNe_int, dEq_bl, dNe_bl, bodyD, startD, sNext, sBreak, sCont, sDrop, sRet, sRetN, sSet, sPar, sAsg, sSub, sFldD, iSeq, iCall, wEnum, wRange1, wRange2, wz_tup, eComp, eCompR, eComp2, eComp2R, gN, gT, gTcons, gTnil, tTst, tNotD, tAndD, tOrD, eNotV, eAndV, eOrV, eIf, eNil, eCons, eTup, eLst, eRef, eFrz, eCall, eFn, eMkV_eq, eMk, eFld, eSl, oNone, oSome, eOp2, eOp1, eChain, dAdd, dInt, dIntC, dIntB, dSub, dFdiv, dMod, dPow, dLt, dLe, dGt, dGe, dMul, dMulR, dMulT, dIs, dIx, isNon_oI, isNon_non, isNon_int, isNon_bl, isNon_str, isNon_ty, isNon_tup, isNon_lst, isNon_scr, isNon_dic, isNon_obj, isNon_ref, isNon_glb, isNon_exc, isNon_book, eVar, eC, fLen, fAbs, fInt, fMax2, fMin2, fIntsI, fSorted, fTuple, fList, fListR, eLenSet, eSortedSet, eTupRg, eLstRg, eRefRg, rg1, rg2, tYesD, sRaise, sRaiseF, eM, KD.E, wipeD, ins_book, fget_posts, fget_may, mem_Book, it_tup, it_lst, it_scr, it_ref, it_may, it_fil, it_int, it_str, lo_lst, lo_tup, lo_int, lo_ref, li_lst, li_scr, li_tup, li_ref, true_and, List.set_cons_zero, List.set_cons_succ, List.getElem?_cons_zero, List.getElem?_cons_succ, List.map_cons, List.map_nil, List.length_cons, List.length_nil, List.replicate_succ, List.replicate_zero, List.cons_append, List.nil_append, List.zip_cons_cons, List.zip_nil_left, List.foldl_cons, List.foldl_nil, Nat.reduceSub, Nat.reduceAdd, Nat.zero_add, brB_t, brB_f, Bool.not_true, Bool.not_false, if_true, if_false, Bool.false_eq_true, ↓reduceIte]
        refine sSeq_i fun N7 hN7 => ?_
        simp only [dEq_int, dNe_int, dEq_bl, dNe_bl, bodyD, startD, sNext, sBreak, sCont, sDrop, sRet, sRetN, sSet, sPar, sAsg, sSub, sFldD, iSeq, iCall, wEnum, wRange1, wRange2, wz_tup, eComp, eCompR, eComp2, eComp2R, gN, gT, gTcons, gTnil, tTst, tNotD, tAndD, tOrD, eNotV, eAndV, eOrV, eIf, eNil, eCons, eTup, eLst, eRef, eFrz, eCall, eFn, eMkV_eq, eMk, eFld, eSl, oNone, oSome, eOp2, eOp1, eChain, dAdd, dInt, dIntC, dIntB, dSub, dFdiv, dMod, dPow, dLt, dLe, dGt, dGe, dMul, dMulR, dMulT, dIs, dIx, isNon_oI, isNon_non, isNon_int, isNon_bl, isNon_str, isNon_ty, isNon_tup, isNon_lst, isNon_scr, isNon_dic, isNon_obj, isNon_ref, isNon_glb, isNon_exc, isNon_book, eVar, eC, fLen, fAbs, fInt, fMax2, fMin2, fIntsI, fSorted, fTuple, fList, fListR, eLenSet, eSortedSet, eTupRg, eLstRg, eRefRg, rg1, rg2, tYesD, sRaise, sRaiseF, eM, KD.E, wipeD, ins_book, fget_posts, fget_may, mem_Book, it_tup, it_lst, it_scr, it_ref, it_may, it_fil, it_int, it_str, lo_lst, lo_tup, lo_int, lo_ref, li_lst, li_scr, li_tup, li_ref, true_and, List.set_cons_zero, List.set_cons_succ, List.getElem?_cons_zero, List.getElem?_cons_succ, List.map_cons, List.map_nil, List.length_cons, List.length_nil, List.replicate_succ, List.replicate_zero, List.cons_append, List.nil_append, List.zip_cons_cons, List.zip_nil_left, List.foldl_cons, List.foldl_nil, Nat.reduceSub, Nat.reduceAdd, Nat.zero_add, brB_t, brB_f, Bool.not_true, Bool.not_false, if_true, if_false, Bool.false_eq_true, ↓reduceIte]
        have L := dr.1
        refine ⟨n, _, _, rfl, dr.2.2.app, it_get (ga0 L), (fun e => by injection e with e; omega), by rw [List.length_map]; exact hpos', by rw [List.length_map]; omega, fun y hy h' d' => hN7 _ _ ?_⟩
        obtain ⟨h1, rfl, d1⟩ := Drawn.app dr.2.2 d'
        have dr1 := dr.trans d1
        clear d' d1
        have L1 := dr1.1
        obtain ⟨p, hp, rfl⟩ := List.mem_map.mp hy
        obtain ⟨a, b, rfl, ha, hb, hg⟩ := mem_swaps.mp hp
        obtain ⟨rp, sg⟩ := swap_right hrp ha hb hg
        have rb := right_iff.mpr rp
        have hin : ∀ i ∈ [(a : Int), (b : Int)], 0 ≤ i ∧ i.toNat < f.length := fun i hi => by
          simp only [List.mem_cons, List.not_mem_nil, or_false] at hi
          rw [hrp.len]
          rcases hi with rfl | rfl <;> omega
        refine sSeq_i fun N8 hN8 => ?_
        simp only [dEq_int, dNe_int, dEq_bl, dNe_bl, bodyD, startD, sNext, sBreak, sCont, sDrop, sRet, sRetN, sSet, sPar, sAsg, sSub, sFldD, iSeq, iCall, wEnum, wRange1, wRange2, wz_tup, eComp, eCompR, eComp2, eComp2R, gN, gT, gTcons, gTnil, tTst, tNotD, tAndD, tOrD, eNotV, eAndV, eOrV, eIf, eNil, eCons, eTup, eLst, eRef, eFrz, eCall, eFn, eMkV_eq, eMk, eFld, eSl, oNone, oSome, eOp2, eOp1, eChain, dAdd, dInt, dIntC, dIntB, dSub, dFdiv, dMod, dPow, dLt, dLe, dGt, dGe, dMul, dMulR, dMulT, dIs, dIx, isNon_oI, isNon_non, isNon_int, isNon_bl, isNon_str, isNon_ty, isNon_tup, isNon_lst, isNon_scr, isNon_dic, isNon_obj, isNon_ref, isNon_glb, isNon_exc, isNon_book, eVar, eC, fLen, fAbs, fInt, fMax2, fMin2, fIntsI, fSorted, fTuple, fList, fListR, eLenSet, eSortedSet, eTupRg, eLstRg, eRefRg, rg1, rg2, tYesD, sRaise, sRaiseF, eM, KD.E, wipeD, ins_book, fget_posts, fget_may, mem_Book, it_tup, it_lst, it_scr, it_ref, it_may, it_fil, it_int, it_str, lo_lst, lo_tup, lo_int, lo_ref, li_lst, li_scr, li_tup, li_ref, true_and, List.set_cons_zero, List.set_cons_succ, List.getElem?_cons_zero, List.getElem?_cons_succ, List.map_cons, List.map_nil, List.length_cons, List.length_nil, List.replicate_succ, List.replicate_zero, List.cons_append, List.nil_append, List.zip_cons_cons, List.zip_nil_left, List.foldl_cons, List.foldl_nil, Nat.reduceSub, Nat.reduceAdd, Nat.zero_add, brB_t, brB_f, Bool.not_true, Bool.not_false, if_true, if_false, Bool.false_eq_true, ↓reduceIte]
        refine ⟨f, [(a : Int), (b : Int)], rfl, hin, by show 2 ≤ 1000; decide, hN8 _ _ ?_⟩
        refine sSeq_i fun N9 hN9 => ?_
        refine sIf_i fun A2 B2 hA2 hB2 => ?_
        simp only [dEq_int, dNe_int, dEq_bl, dNe_bl, bodyD, startD, sNext, sBreak, sCont, sDrop, sRet, sRetN, sSet, sPar, sAsg, sSub, sFldD, iSeq, iCall, wEnum, wRange1, wRange2, wz_tup, eComp, eCompR, eComp2, eComp2R, gN, gT, gTcons, gTnil, tTst, tNotD, tAndD, tOrD, eNotV, eAndV, eOrV, eIf, eNil, eCons, eTup, eLst, eRef, eFrz, eCall, eFn, eMkV_eq, eMk, eFld, eSl, oNone, oSome, eOp2, eOp1, eChain, dAdd, dInt, dIntC, dIntB, dSub, dFdiv, dMod, dPow, dLt, dLe, dGt, dGe, dMul, dMulR, dMulT, dIs, dIx, isNon_oI, isNon_non, isNon_int, isNon_bl, isNon_str, isNon_ty, isNon_tup, isNon_lst, isNon_scr, isNon_dic, isNon_obj, isNon_ref, isNon_glb, isNon_exc, isNon_book, eVar, eC, fLen, fAbs, fInt, fMax2, fMin2, fIntsI, fSorted, fTuple, fList, fListR, eLenSet, eSortedSet, eTupRg, eLstRg, eRefRg, rg1, rg2, tYesD, sRaise, sRaiseF, eM, KD.E, wipeD, ins_book, fget_posts, fget_may, mem_Book, it_tup, it_lst, it_scr, it_ref, it_may, it_fil, it_int, it_str, lo_lst, lo_tup, lo_int, lo_ref, li_lst, li_scr, li_tup, li_ref, true_and, List.set_cons_zero, List.set_cons_succ, List.getElem?_cons_zero, List.getElem?_cons_succ, List.map_cons, List.map_nil, List.length_cons, List.length_nil, List.replicate_succ, List.replicate_zero, List.cons_append, List.nil_append, List.zip_cons_cons, List.zip_nil_left, List.foldl_cons, List.foldl_nil, Nat.reduceSub, Nat.reduceAdd, Nat.zero_add, brB_t, brB_f, Bool.not_true, Bool.not_false, if_true, if_false, Bool.false_eq_true, ↓reduceIte]
        have hgd : goesD may f (pairD ((a : Int), (b : Int))) = true := hg
        refine ⟨posts, may, f, _, rfl, kn_tup, fun xs e => kn_two e, hr, hml, fun _ ns e _ => ?_, fun e => by rw [hgd] at e; cases e⟩
        have ens : ns = [(a : Int), (b : Int)] := by
          unfold pairD at e
          injection e with e
          have := congrArg intsOf e.symm
          rw [intsOf_map] at this
          exact Option.some.inj this
        subst ens
        refine ⟨_, _, rfl, same_fil (n := 4) _, ?_⟩
        simp only [dEq_int, dNe_int, dEq_bl, dNe_bl, bodyD, startD, sNext, sBreak, sCont, sDrop, sRet, sRetN, sSet, sPar, sAsg, sSub, sFldD, iSeq, iCall, wEnum, wRange1, wRange2, wz_tup, eComp, eCompR, eComp2, eComp2R, gN, gT, gTcons, gTnil, tTst, tNotD, tAndD, tOrD, eNotV, eAndV, eOrV, eIf, eNil, eCons, eTup, eLst, eRef, eFrz, eCall, eFn, eMkV_eq, eMk, eFld, eSl, oNone, oSome, eOp2, eOp1, eChain, dAdd, dInt, dIntC, dIntB, dSub, dFdiv, dMod, dPow, dLt, dLe, dGt, dGe, dMul, dMulR, dMulT, dIs, dIx, isNon_oI, isNon_non, isNon_int, isNon_bl, isNon_str, isNon_ty, isNon_tup, isNon_lst, isNon_scr, isNon_dic, isNon_obj, isNon_ref, isNon_glb, isNon_exc, isNon_book, eVar, eC, fLen, fAbs, fInt, fMax2, fMin2, fIntsI, fSorted, fTuple, fList, fListR, eLenSet, eSortedSet, eTupRg, eLstRg, eRefRg, rg1, rg2, tYesD, sRaise, sRaiseF, eM, KD.E, wipeD, ins_book, fget_posts, fget_may, mem_Book, it_tup, it_lst, it_scr, it_ref, it_may, it_fil, it_int, it_str, lo_lst, lo_tup, lo_int, lo_ref, li_lst, li_scr, li_tup, li_ref, true_and, List.set_cons_zero, List.set_cons_succ, List.getElem?_cons_zero, List.getElem?_cons_succ, List.map_cons, List.map_nil, List.length_cons, List.length_nil, List.replicate_succ, List.replicate_zero, List.cons_append, List.nil_append, List.zip_cons_cons, List.zip_nil_left, List.foldl_cons, List.foldl_nil, Nat.reduceSub, Nat.reduceAdd, Nat.zero_add, brB_t, brB_f, Bool.not_true, Bool.not_false, if_true, if_false, Bool.false_eq_true, ↓reduceIte]
        refine ⟨posts, may, _, rfl, rb, hml, ?_⟩
        refine ⟨may, _, rfl, rp.len, hml, ?_⟩
        rw [dueI_eq rp.len]
        refine ⟨_, _, rfl, same_pairs (n := 3) (lo_get (by rw [gl (by simp only [List.length_append, List.length_cons, List.length_nil]; omega)]; exact get_last _ _)) (lo_get (get_last _ _)), ?_⟩
        simp only [dEq_int, dNe_int, dEq_bl, dNe_bl, bodyD, startD, sNext, sBreak, sCont, sDrop, sRet, sRetN, sSet, sPar, sAsg, sSub, sFldD, iSeq, iCall, wEnum, wRange1, wRange2, wz_tup, eComp, eCompR, eComp2, eComp2R, gN, gT, gTcons, gTnil, tTst, tNotD, tAndD, tOrD, eNotV, eAndV, eOrV, eIf, eNil, eCons, eTup, eLst, eRef, eFrz, eCall, eFn, eMkV_eq, eMk, eFld, eSl, oNone, oSome, eOp2, eOp1, eChain, dAdd, dInt, dIntC, dIntB, dSub, dFdiv, dMod, dPow, dLt, dLe, dGt, dGe, dMul, dMulR, dMulT, dIs, dIx, isNon_oI, isNon_non, isNon_int, isNon_bl, isNon_str, isNon_ty, isNon_tup, isNon_lst, isNon_scr, isNon_dic, isNon_obj, isNon_ref, isNon_glb, isNon_exc, isNon_book, eVar, eC, fLen, fAbs, fInt, fMax2, fMin2, fIntsI, fSorted, fTuple, fList, fListR, eLenSet, eSortedSet, eTupRg, eLstRg, eRefRg, rg1, rg2, tYesD, sRaise, sRaiseF, eM, KD.E, wipeD, ins_book, fget_posts, fget_may, mem_Book, it_tup, it_lst, it_scr, it_ref, it_may, it_fil, it_int, it_str, lo_lst, lo_tup, lo_int, lo_ref, li_lst, li_scr, li_tup, li_ref, true_and, List.set_cons_zero, List.set_cons_succ, List.getElem?_cons_zero, List.getElem?_cons_succ, List.map_cons, List.map_nil, List.length_cons, List.length_nil, List.replicate_succ, List.replicate_zero, List.cons_append, List.nil_append, List.zip_cons_cons, List.zip_nil_left, List.foldl_cons, List.foldl_nil, Nat.reduceSub, Nat.reduceAdd, Nat.zero_add, brB_t, brB_f, Bool.not_true, Bool.not_false, if_true, if_false, Bool.false_eq_true, ↓reduceIte]
        refine hB2 _ (hN9 _ _ ?_)
        refine sIf_i fun A3 B3 hA3 hB3 => ?_
        simp only [dEq_int, dNe_int, dEq_bl, dNe_bl, bodyD, startD, sNext, sBreak, sCont, sDrop, sRet, sRetN, sSet, sPar, sAsg, sSub, sFldD, iSeq, iCall, wEnum, wRange1, wRange2, wz_tup, eComp, eCompR, eComp2, eComp2R, gN, gT, gTcons, gTnil, tTst, tNotD, tAndD, tOrD, eNotV, eAndV, eOrV, eIf, eNil, eCons, eTup, eLst, eRef, eFrz, eCall, eFn, eMkV_eq, eMk, eFld, eSl, oNone, oSome, eOp2, eOp1, eChain, dAdd, dInt, dIntC, dIntB, dSub, dFdiv, dMod, dPow, dLt, dLe, dGt, dGe, dMul, dMulR, dMulT, dIs, dIx, isNon_oI, isNon_non, isNon_int, isNon_bl, isNon_str, isNon_ty, isNon_tup, isNon_lst, isNon_scr, isNon_dic, isNon_obj, isNon_ref, isNon_glb, isNon_exc, isNon_book, eVar, eC, fLen, fAbs, fInt, fMax2, fMin2, fIntsI, fSorted, fTuple, fList, fListR, eLenSet, eSortedSet, eTupRg, eLstRg, eRefRg, rg1, rg2, tYesD, sRaise, sRaiseF, eM, KD.E, wipeD, ins_book, fget_posts, fget_may, mem_Book, it_tup, it_lst, it_scr, it_ref, it_may, it_fil, it_int, it_str, lo_lst, lo_tup, lo_int, lo_ref, li_lst, li_scr, li_tup, li_ref, true_and, List.set_cons_zero, List.set_cons_succ, List.getElem?_cons_zero, List.getElem?_cons_succ, List.map_cons, List.map_nil, List.length_cons, List.length_nil, List.replicate_succ, List.replicate_zero, List.cons_append, List.nil_append, List.zip_cons_cons, List.zip_nil_left, List.foldl_cons, List.foldl_nil, Nat.reduceSub, Nat.reduceAdd, Nat.zero_add, brB_t, brB_f, Bool.not_true, Bool.not_false, if_true, if_false, Bool.false_eq_true, ↓reduceIte]
        refine ⟨posts, may, _, rfl, rb, hml, ?_⟩
        dsimp only
        rw [dInD_pairs rfl (get_last _ _)]
        have hin2 : ((a : Int), (b : Int)) ∈ swapsI may (behindI f [(a : Int), (b : Int)]) := mem_swaps.mpr ⟨a, b, rfl, ha, hb, sg⟩
        simp only [decide_eq_true hin2, dEq_int, dNe_int, dEq_bl, dNe_bl, bodyD, startD, sNext, sBreak, sCont, sDrop, sRet, sRetN, sSet, sPar, sAsg, sSub, sFldD, iSeq, iCall, wEnum, wRange1, wRange2, wz_tup, eComp, eCompR, eComp2, eComp2R, gN, gT, gTcons, gTnil, tTst, tNotD, tAndD, tOrD, eNotV, eAndV, eOrV, eIf, eNil, eCons, eTup, eLst, eRef, eFrz, eCall, eFn, eMkV_eq, eMk, eFld, eSl, oNone, oSome, eOp2, eOp1, eChain, dAdd, dInt, dIntC, dIntB, dSub, dFdiv, dMod, dPow, dLt, dLe, dGt, dGe, dMul, dMulR, dMulT, dIs, dIx, isNon_oI, isNon_non, isNon_int, isNon_bl, isNon_str, isNon_ty, isNon_tup, isNon_lst, isNon_scr, isNon_dic, isNon_obj, isNon_ref, isNon_glb, isNon_exc, isNon_book, eVar, eC, fLen, fAbs, fInt, fMax2, fMin2, fIntsI, fSorted, fTuple, fList, fListR, eLenSet, eSortedSet, eTupRg, eLstRg, eRefRg, rg1, rg2, tYesD, sRaise, sRaiseF, eM, KD.E, wipeD, ins_book, fget_posts, fget_may, mem_Book, it_tup, it_lst, it_scr, it_ref, it_may, it_fil, it_int, it_str, lo_lst, lo_tup, lo_int, lo_ref, li_lst, li_scr, li_tup, li_ref, true_and, List.set_cons_zero, List.set_cons_succ, List.getElem?_cons_zero, List.getElem?_cons_succ, List.map_cons, List.map_nil, List.length_cons, List.length_nil, List.replicate_succ, List.replicate_zero, List.cons_append, List.nil_append, List.zip_cons_cons, List.zip_nil_left, List.foldl_cons, List.foldl_nil, Nat.reduceSub, Nat.reduceAdd, Nat.zero_add, brB_t, brB_f, Bool.not_true, Bool.not_false, if_true, if_false, Bool.false_eq_true, ↓reduceIte]
        refine hB3 _ (hN _ _ ⟨k' + 1, r', _, _, _, h1, g ++ [.lst ((swapsI may (behindI f [(a : Int), (b : Int)])).map pairD)] ++ [.lst ((swapsI may (behindI f [(a : Int), (b : Int)])).map pairD)] ++ [.lst ((swapsI may (behindI f [(a : Int), (b : Int)])).map pairD)], fun _ => hpos', rfl, rfl, ?_, dr1⟩)
        simp only [List.append_assoc, List.cons_append]
    split
    · rename_i hpos
      have hpos : 0 < (swapsI may f).length := by simpa using hpos
      refine ⟨⟨by decide, by decide⟩, hLL2 _ _ _ ?_⟩
      rw [show (3 : Int).toNat = 3 from rfl, rngL_rng']
      exact fin 0 3 fun _ => hpos
    · refine ⟨⟨by decide, by decide⟩, hLL2 _ _ _ ?_⟩
      rw [show (0 : Int).toNat = 0 from rfl, rngL_rng']
      exact fin 0 0 fun h => absurd h (Nat.lt_irrefl 0)
  · rintro y l sd hh N ⟨k, r, x5, x9, hkr, hr0, rfl, rfl⟩ hN
    obtain ⟨r, rfl, rfl, rfl⟩ := cons_range hr0
    refine ⟨trivial, ?_⟩
    simp only [dEq_int, dNe_int, dEq_bl, dNe_bl, bodyD, startD, sNext, sBreak, sCont, sDrop, sRet, sRetN, sSet, sPar, sAsg, sSub, sFldD, iSeq, iCall, wEnum, wRange1, wRange2, wz_tup, eComp, eCompR, eComp2, eComp2R, gN, gT, gTcons, gTnil, tTst, tNotD, tAndD, tOrD, eNotV, eAndV, eOrV, eIf, eNil, eCons, eTup, eLst, eRef, eFrz, eCall, eFn, eMkV_eq, eMk, eFld, eSl, oNone, oSome, eOp2, eOp1, eChain, dAdd, dInt, dIntC, dIntB, dSub, dFdiv, dMod, dPow, dLt, dLe, dGt, dGe, dMul, dMulR, dMulT, dIs, dIx, isNon_oI, isNon_non, isNon_int, isNon_bl, isNon_str, isNon_ty, isNon_tup, isNon_lst, isNon_scr, isNon_dic, isNon_obj, isNon_ref, isNon_glb, isNon_exc, isNon_book, eVar, eC, fLen, fAbs, fInt, fMax2, fMin2, fIntsI, fSorted, fTuple, fList, fListR, eLenSet, eSortedSet, eTupRg, eLstRg, eRefRg, rg1, rg2, tYesD, sRaise, sRaiseF, eM, KD.E, wipeD, ins_book, fget_posts, fget_may, mem_Book, it_tup, it_lst, it_scr, it_ref, it_may, it_fil, it_int, it_str, lo_lst, lo_tup, lo_int, lo_ref, li_lst, li_scr, li_tup, li_ref, true_and, List.set_cons_zero, List.set_cons_succ, List.getElem?_cons_zero, List.getElem?_cons_succ, List.map_cons, List.map_nil, List.length_cons, List.length_nil, List.replicate_succ, List.replicate_zero, List.cons_append, List.nil_append, List.zip_cons_cons, List.zip_nil_left, List.foldl_cons, List.foldl_nil, Nat.reduceSub, Nat.reduceAdd, Nat.zero_add, brB_t, brB_f, Bool.not_true, Bool.not_false, if_true, if_false, Bool.false_eq_true, ↓reduceIte]
    refine sFor_i fun LL2 hLL2 => ?_
    simp only [dEq_int, dNe_int, dEq_bl, dNe_bl, bodyD, startD, sNext, sBreak, sCont, sDrop, sRet, sRetN, sSet, sPar, sAsg, sSub, sFldD, iSeq, iCall, wEnum, wRange1, wRange2, wz_tup, eComp, eCompR, eComp2, eComp2R, gN, gT, gTcons, gTnil, tTst, tNotD, tAndD, tOrD, eNotV, eAndV, eOrV, eIf, eNil, eCons, eTup, eLst, eRef, eFrz, eCall, eFn, eMkV_eq, eMk, eFld, eSl, oNone, oSome, eOp2, eOp1, eChain, dAdd, dInt, dIntC, dIntB, dSub, dFdiv, dMod, dPow, dLt, dLe, dGt, dGe, dMul, dMulR, dMulT, dIs, dIx, isNon_oI, isNon_non, isNon_int, isNon_bl, isNon_str, isNon_ty, isNon_tup, isNon_lst, isNon_scr, isNon_dic, isNon_obj, isNon_ref, isNon_glb, isNon_exc, isNon_book, eVar, eC, fLen, fAbs, fInt, fMax2, fMin2, fIntsI, fSorted, fTuple, fList, fListR, eLenSet, eSortedSet, eTupRg, eLstRg, eRefRg, rg1, rg2, tYesD, sRaise, sRaiseF, eM, KD.E, wipeD, ins_book, fget_posts, fget_may, mem_Book, it_tup, it_lst, it_scr, it_ref, it_may, it_fil, it_int, it_str, lo_lst, lo_tup, lo_int, lo_ref, li_lst, li_scr, li_tup, li_ref, true_and, List.set_cons_zero, List.set_cons_succ, List.getElem?_cons_zero, List.getElem?_cons_succ, List.map_cons, List.map_nil, List.length_cons, List.length_nil, List.replicate_succ, List.replicate_zero, List.cons_append, List.nil_append, List.zip_cons_cons, List.zip_nil_left, List.foldl_cons, List.foldl_nil, Nat.reduceSub, Nat.reduceAdd, Nat.zero_add, brB_t, brB_f, Bool.not_true, Bool.not_false, if_true, if_false, Bool.false_eq_true, ↓reduceIte, List.length_map]
    refine ⟨⟨by omega, by omega⟩, hLL2 _ _ _ ?_⟩
    rw [Int.toNat_natCast, rngL_rng']
    refine forL_ind (fun items sd hh => ∃ u r2 x9, u + r2 = may.length ∧ items = (List.range' u r2).map (fun i => D.int ((i : Nat) : Int)) ∧ sd = [some (.ref n), some (.int posts), some (mayD may), some (filD f), some (.ref (h.length + 1)), some (.int (k : Nat)), none, some (bookD posts may), some (.ref h.length), x9, none, none] ∧
      hh = h ++ [.lst ((swapsI may f).map pairD), .lst l2]) ?_ ?_ _ _ _ ⟨0, may.length, _, Nat.zero_add _, rfl, rfl, rfl⟩
    · rintro sd hh ⟨u, r2, x9, _, _, rfl, rfl⟩
      exact ⟨trivial, hN _ _ ⟨k + 1, r, _, _, by omega, rfl, rfl, rfl⟩⟩
    · rintro y l sd hh N3 ⟨u, r2, x9, hur, hl, rfl, rfl⟩ hN3
      obtain ⟨r2, rfl, rfl, rfl⟩ := cons_range hl
      refine ⟨trivial, ?_⟩
      simp only [dEq_int, dNe_int, dEq_bl, dNe_bl, bodyD, startD, sNext, sBreak, sCont, sDrop, sRet, sRetN, sSet, sPar, sAsg, sSub, sFldD, iSeq, iCall, wEnum, wRange1, wRange2, wz_tup, eComp, eCompR, eComp2, eComp2R, gN, gT, gTcons, gTnil, tTst, tNotD, tAndD, tOrD, eNotV, eAndV, eOrV, eIf, eNil, eCons, eTup, eLst, eRef, eFrz, eCall, eFn, eMkV_eq, eMk, eFld, eSl, oNone, oSome, eOp2, eOp1, eChain, dAdd, dInt, dIntC, dIntB, dSub, dFdiv, dMod, dPow, dLt, dLe, dGt, dGe, dMul, dMulR, dMulT, dIs, dIx, isNon_oI, isNon_non, isNon_int, isNon_bl, isNon_str, isNon_ty, isNon_tup, isNon_lst, isNon_scr, isNon_dic, isNon_obj, isNon_ref, isNon_glb, isNon_exc, isNon_book, eVar, eC, fLen, fAbs, fInt, fMax2, fMin2, fIntsI, fSorted, fTuple, fList, fListR, eLenSet, eSortedSet, eTupRg, eLstRg, eRefRg, rg1, rg2, tYesD, sRaise, sRaiseF, eM, KD.E, wipeD, ins_book, fget_posts, fget_may, mem_Book, it_tup, it_lst, it_scr, it_ref, it_may, it_fil, it_int, it_str, lo_lst, lo_tup, lo_int, lo_ref, li_lst, li_scr, li_tup, li_ref, true_and, List.set_cons_zero, List.set_cons_succ, List.getElem?_cons_zero, List.getElem?_cons_succ, List.map_cons, List.map_nil, List.length_cons, List.length_nil, List.replicate_succ, List.replicate_zero, List.cons_append, List.nil_append, List.zip_cons_cons, List.zip_nil_left, List.foldl_cons, List.foldl_nil, Nat.reduceSub, Nat.reduceAdd, Nat.zero_add, brB_t, brB_f, Bool.not_true, Bool.not_false, if_true, if_false, Bool.false_eq_true, ↓reduceIte]
      refine sIf_i fun A2 B2 hA2 hB2 => ?_
      simp only [dEq_int, dNe_int, dEq_bl, dNe_bl, bodyD, startD, sNext, sBreak, sCont, sDrop, sRet, sRetN, sSet, sPar, sAsg, sSub, sFldD, iSeq, iCall, wEnum, wRange1, wRange2, wz_tup, eComp, eCompR, eComp2, eComp2R, gN, gT, gTcons, gTnil, tTst, tNotD, tAndD, tOrD, eNotV, eAndV, eOrV, eIf, eNil, eCons, eTup, eLst, eRef, eFrz, eCall, eFn, eMkV_eq, eMk, eFld, eSl, oNone, oSome, eOp2, eOp1, eChain, dAdd, dInt, dIntC, dIntB, dSub, dFdiv, dMod, dPow, dLt, dLe, dGt, dGe, dMul, dMulR, dMulT, dIs, dIx, isNon_oI, isNon_non, isNon_int, isNon_bl, isNon_str, isNon_ty, isNon_tup, isNon_lst, isNon_scr, isNon_dic, isNon_obj, isNon_ref, isNon_glb, isNon_exc, isNon_book, eVar, eC, fLen, fAbs, fInt, fMax2, fMin2, fIntsI, fSorted, fTuple, fList, fListR, eLenSet, eSortedSet, eTupRg, eLstRg, eRefRg, rg1, rg2, tYesD, sRaise, sRaiseF, eM, KD.E, wipeD, ins_book, fget_posts, fget_may, mem_Book, it_tup, it_lst, it_scr, it_ref, it_may, it_fil, it_int, it_str, lo_lst, lo_tup, lo_int, lo_ref, li_lst, li_scr, li_tup, li_ref, true_and, List.set_cons_zero, List.set_cons_succ, List.getElem?_cons_zero, List.getElem?_cons_succ, List.map_cons, List.map_nil, List.length_cons, List.length_nil, List.replicate_succ, List.replicate_zero, List.cons_append, List.nil_append, List.zip_cons_cons, List.zip_nil_left, List.foldl_cons, List.foldl_nil, Nat.reduceSub, Nat.reduceAdd, Nat.zero_add, brB_t, brB_f, Bool.not_true, Bool.not_false, if_true, if_false, Bool.false_eq_true, ↓reduceIte]
      refine ⟨posts, may, f, _, rfl, kn_tup, fun xs e => kn_two e, hr, hml, ?_⟩
      dsimp only
      rw [dInD_pairs (x := .tup [.int (k : Nat), .int (u : Nat)]) (p := ((k : Int), (u : Int))) (l := swapsI may f) rfl (by rw [ga0 L0]; rfl), goesD_pair, goes_mem (by omega) (by omega)]
      simp only [dEq_int, dNe_int, dEq_bl, dNe_bl, bodyD, startD, sNext, sBreak, sCont, sDrop, sRet, sRetN, sSet, sPar, sAsg, sSub, sFldD, iSeq, iCall, wEnum, wRange1, wRange2, wz_tup, eComp, eCompR, eComp2, eComp2R, gN, gT, gTcons, gTnil, tTst, tNotD, tAndD, tOrD, eNotV, eAndV, eOrV, eIf, eNil, eCons, eTup, eLst, eRef, eFrz, eCall, eFn, eMkV_eq, eMk, eFld, eSl, oNone, oSome, eOp2, eOp1, eChain, dAdd, dInt, dIntC, dIntB, dSub, dFdiv, dMod, dPow, dLt, dLe, dGt, dGe, dMul, dMulR, dMulT, dIs, dIx, isNon_oI, isNon_non, isNon_int, isNon_bl, isNon_str, isNon_ty, isNon_tup, isNon_lst, isNon_scr, isNon_dic, isNon_obj, isNon_ref, isNon_glb, isNon_exc, isNon_book, eVar, eC, fLen, fAbs, fInt, fMax2, fMin2, fIntsI, fSorted, fTuple, fList, fListR, eLenSet, eSortedSet, eTupRg, eLstRg, eRefRg, rg1, rg2, tYesD, sRaise, sRaiseF, eM, KD.E, wipeD, ins_book, fget_posts, fget_may, mem_Book, it_tup, it_lst, it_scr, it_ref, it_may, it_fil, it_int, it_str, lo_lst, lo_tup, lo_int, lo_ref, li_lst, li_scr, li_tup, li_ref, true_and, List.set_cons_zero, List.set_cons_succ, List.getElem?_cons_zero, List.getElem?_cons_succ, List.map_cons, List.map_nil, List.length_cons, List.length_nil, List.replicate_succ, List.replicate_zero, List.cons_append, List.nil_append, List.zip_cons_cons, List.zip_nil_left, List.foldl_cons, List.foldl_nil, Nat.reduceSub, Nat.reduceAdd, Nat.zero_add, brB_t, brB_f, Bool.not_true, Bool.not_false, if_true, if_false, Bool.false_eq_true, ↓reduceIte]
      refine ⟨_, _, rfl, same_bl (n := 5) _, ?_⟩
      simp only [dEq_int, dNe_int, dEq_bl, dNe_bl, bodyD, startD, sNext, sBreak, sCont, sDrop, sRet, sRetN, sSet, sPar, sAsg, sSub, sFldD, iSeq, iCall, wEnum, wRange1, wRange2, wz_tup, eComp, eCompR, eComp2, eComp2R, gN, gT, gTcons, gTnil, tTst, tNotD, tAndD, tOrD, eNotV, eAndV, eOrV, eIf, eNil, eCons, eTup, eLst, eRef, eFrz, eCall, eFn, eMkV_eq, eMk, eFld, eSl, oNone, oSome, eOp2, eOp1, eChain, dAdd, dInt, dIntC, dIntB, dSub, dFdiv, dMod, dPow, dLt, dLe, dGt, dGe, dMul, dMulR, dMulT, dIs, dIx, isNon_oI, isNon_non, isNon_int, isNon_bl, isNon_str, isNon_ty, isNon_tup, isNon_lst, isNon_scr, isNon_dic, isNon_obj, isNon_ref, isNon_glb, isNon_exc, isNon_book, eVar, eC, fLen, fAbs, fInt, fMax2, fMin2, fIntsI, fSorted, fTuple, fList, fListR, eLenSet, eSortedSet, eTupRg, eLstRg, eRefRg, rg1, rg2, tYesD, sRaise, sRaiseF, eM, KD.E, wipeD, ins_book, fget_posts, fget_may, mem_Book, it_tup, it_lst, it_scr, it_ref, it_may, it_fil, it_int, it_str, lo_lst, lo_tup, lo_int, lo_ref, li_lst, li_scr, li_tup, li_ref, true_and, List.set_cons_zero, List.set_cons_succ, List.getElem?_cons_zero, List.getElem?_cons_succ, List.map_cons, List.map_nil, List.length_cons, List.length_nil, List.replicate_succ, List.replicate_zero, List.cons_append, List.nil_append, List.zip_cons_cons, List.zip_nil_left, List.foldl_cons, List.foldl_nil, Nat.reduceSub, Nat.reduceAdd, Nat.zero_add, brB_t, brB_f, Bool.not_true, Bool.not_false, if_true, if_false, Bool.false_eq_true, ↓reduceIte]
      exact hB2 _ (hN3 _ _ ⟨u + 1, r2, _, by omega, rfl, rfl, rfl⟩)
/-! law -/
def t_law : TSD :=
    (sSeq (sSet 1 (eFn sp__law_hand (eCons (eVar 0) eNil)))
    (sSeq (sFor (iSeq (eLst (eCons (eC (.int 3)) (eCons (eC (.int 6)) (eCons (eC (.int 12)) (eCons (eC (.int 12)) eNil)))))) (gN 2) (sSeq (sAsg (gT 3 (gTcons (gN 6) (gTcons (gN 7) (gTcons (gN 8) gTnil)))) (eFn sp__law_case (eCons (eVar 1) (eCons (eVar 2) eNil))))
    (sIf (tNotD (tTst (eFn sp__law_are_listed (eCons (eVar 1) (eCons (eVar 6) (eCons (eVar 7) (eCons (eVar 8) eNil))))))) (sRet (eC (.bl false))) sNext)))
    (sSeq (sPar [4, 5] (eCons (eMkV "Book" sp_init_Book (eCons (eC (.int 12)) (eCons (eOp2 dMulT (eTup (eCons (eTupRg (rg1 (eC (.int 12)))) eNil)) (eC (.int 12))) eNil))) (eCons (eMkV "Book" sp_init_Book (eCons (eC (.int 3)) (eCons (eTup (eCons (eTup (eCons (eC (.int 0)) (eCons (eC (.int 2)) eNil))) (eCons (eTup (eCons (eC (.int 0)) (eCons (eC (.int 1)) eNil))) (eCons (eTup (eCons (eC (.int 1)) (eCons (eC (.int 2)) eNil))) eNil)))) eNil))) eNil)))
    (sSeq (sIf (tOrD (tTst (eOp2 dNe (eCall fLen (eCons (eFn sp_swaps (eCons (eVar 4) (eCons (eTupRg (rg1 (eC (.int 12)))) eNil))) eNil)) (eC (.int 66)))) (tNotD (tTst (eFn sp__law_same (eCons (eFn sp_swaps (eCons (eVar 5) (eCons (eTup (eCons (eC (.int 0)) (eCons (eC (.int 1)) (eCons (eC (.int 2)) eNil)))) eNil))) (eCons (eLst eNil) eNil)))))) (sRet (eC (.bl false))) sNext)
    (sSeq (sSet 3 (eMkV "Book" sp_init_Book (eCons (eC (.int 3)) (eCons (eTup (eCons (eTup (eCons (eC (.int 0)) (eCons (eC (.int 1)) eNil))) (eCons (eTup (eCons (eC (.int 0)) (eCons (eC (.int 1)) (eCons (eC (.int 2)) eNil)))) (eCons (eTup (eCons (eC (.int 1)) (eCons (eC (.int 2)) eNil))) eNil)))) eNil))))
    (sRet (eFn sp__law_same (eCons (eLst (eCons (eFn sp_swaps (eCons (eVar 3) (eCons (eTup (eCons (eC (.int 0)) (eCons (eC (.int 1)) (eCons (eC (.int 2)) eNil)))) eNil))) (eCons (eFn sp_swaps (eCons (eVar 3) (eCons (eTup (eCons (eC (.int 0)) (eCons (eC .non) (eCons (eC (.int 2)) eNil)))) eNil))) (eCons (eFn sp_swaps (eCons (eMkV "Book" sp_init_Book (eCons (eC (.int 0)) (eCons (eTup eNil) eNil))) (eCons (eTup eNil) eNil))) eNil)))) (eCons (eLst (eCons (eLst (eCons (eTup (eCons (eC (.int 0)) (eCons (eC (.int 1)) eNil))) (eCons (eTup (eCons (eC (.int 1)) (eCons (eC (.int 2)) eNil))) eNil))) (eCons (eLst eNil) (eCons (eLst eNil) eNil)))) eNil)))))))))
def sp_law : SpD := fun ds h Q _ => ∃ ns : List Int, ds = [.scr (ns.map .int)] ∧ ns.length ≤ 63 ∧ h = [] ∧ ∀ h', Q (.bl true) h'
theorem case_ok {top posts : Int} {may : List (List Int)} {f : List (Option Int)} (c : CaseOk top posts may f) (h : top ≤ 12) : BookOk posts may := ⟨c.1, by have := c.2.1; omega, by have := c.2.2.1; omega, c.2.2.2.1⟩
theorem wf_hand {h : DH} (i : IsHand h 0) (l : h.length = 1) : WF h := fun o ho => by
  obtain ⟨cells, a, b, c, d, e, _⟩ := i
  have : o = .lst [.lst (cells.map .int), .int a, .int b, .int c, .int d] := by
    cases h with
    | nil => cases ho
    | cons x r =>
      have hr : r = [] := by
        rw [List.length_cons] at l
        exact List.eq_nil_of_length_eq_zero (by omega)
      subst hr
      rw [List.mem_singleton.mp ho]
      exact Option.some.inj e
  subst this
  simp only [nrO, nrDs, nrD, Bool.and_true, Bool.true_and]
  exact nrDs_ints cells
theorem wf_snoc {h : DH} {o : O} (w : WF h) (ho : nrO (h.length + 1) o = true) : WF (h ++ [o]) := fun u hu => by
  rw [List.length_append, List.length_singleton]
  rcases List.mem_append.mp hu with hu | hu
  · exact nrO_mono (Nat.le_succ _) (w u hu)
  · rw [List.mem_singleton.mp hu]
    exact ho
theorem wf_pairs {h : DH} {l : List (Int × Int)} (w : WF h) : WF (h ++ [.lst (l.map pairD)]) := wf_snoc w (nrDs_pairs l)
def wideM : List (List Int) := [[0, 1, 2, 3, 4, 5, 6, 7, 8, 9, 10, 11], [0, 1, 2, 3, 4, 5, 6, 7, 8, 9, 10, 11], [0, 1, 2, 3, 4, 5, 6, 7, 8, 9, 10, 11], [0, 1, 2, 3, 4, 5, 6, 7, 8, 9, 10, 11], [0, 1, 2, 3, 4, 5, 6, 7, 8, 9, 10, 11], [0, 1, 2, 3, 4, 5, 6, 7, 8, 9, 10, 11], [0, 1, 2, 3, 4, 5, 6, 7, 8, 9, 10, 11], [0, 1, 2, 3, 4, 5, 6, 7, 8, 9, 10, 11], [0, 1, 2, 3, 4, 5, 6, 7, 8, 9, 10, 11], [0, 1, 2, 3, 4, 5, 6, 7, 8, 9, 10, 11], [0, 1, 2, 3, 4, 5, 6, 7, 8, 9, 10, 11], [0, 1, 2, 3, 4, 5, 6, 7, 8, 9, 10, 11]]
def wideF : List (Option Int) := [some 0, some 1, some 2, some 3, some 4, some 5, some 6, some 7, some 8, some 9, some 10, some 11]
def ringM : List (List Int) := [[0, 2], [0, 1], [1, 2]]
def plainM : List (List Int) := [[0, 1], [0, 1, 2], [1, 2]]
def threeF : List (Option Int) := [some 0, some 1, some 2]
def gapF : List (Option Int) := [some 0, none, some 2]
theorem wide_ok : BookOk 12 wideM := ⟨by decide, by decide, by decide, by decide +kernel⟩
theorem ring_ok : BookOk 3 ringM := ⟨by decide, by decide, by decide, by decide +kernel⟩
theorem plain_ok : BookOk 3 plainM := ⟨by decide, by decide, by decide, by decide +kernel⟩
theorem void_ok : BookOk 0 [] := ⟨by decide, by decide, by decide, fun s hs => nomatch hs⟩
theorem wide_r : rightD wideM (filD wideF) = true := by decide +kernel
theorem wide_s : (swapsI wideM wideF).length = 66 := by decide +kernel
theorem ring_r : rightD ringM (filD threeF) = true := by decide +kernel
theorem ring_s : swapsI ringM threeF = [] := by decide +kernel
theorem plain_r : rightD plainM (filD threeF) = true := by decide +kernel
theorem plain_s : swapsI plainM threeF = [(0, 1), (1, 2)] := by decide +kernel
theorem gap_r : rightD plainM (filD gapF) = true := by decide +kernel
theorem gap_s : swapsI plainM gapF = [] := by decide +kernel
theorem void_r : rightD [] (filD []) = true := by decide +kernel
theorem void_s : swapsI [] [] = [] := by decide +kernel
theorem wide_d : D.tup (List.replicate (12 : Int).toNat [D.tup (rngL 0 (12 - 0 : Int).toNat)]).flatten = mayD wideM := by rfl
theorem wide_f : D.tup (rngL 0 (12 - 0 : Int).toNat) = filD wideF := by rfl
theorem pl_law (ds : List D) (h : DH) (Q : VD) (E : ED) (w : sp_law ds h Q E) : bodyD 9 t_law ds h Q E := by
  obtain ⟨ns, rfl, hl, rfl, q⟩ := w
  unfold t_law bodyD
  refine sSeq_i fun N hN => ?_
  simp only [dEq_int, dNe_int, dEq_bl, dNe_bl, bodyD, startD, sNext, sBreak, sCont, sDrop, sRet, sRetN, sSet, sPar, sAsg, sSub, sFldD, iSeq, iCall, wEnum, wRange1, wRange2, wz_tup, eComp, eCompR, eComp2, eComp2R, gN, gT, gTcons, gTnil, tTst, tNotD, tAndD, tOrD, eNotV, eAndV, eOrV, eIf, eNil, eCons, eTup, eLst, eRef, eFrz, eCall, eFn, eMkV_eq, eMk, eFld, eSl, oNone, oSome, eOp2, eOp1, eChain, dAdd, dInt, dIntC, dIntB, dSub, dFdiv, dMod, dPow, dLt, dLe, dGt, dGe, dMul, dMulR, dMulT, dIs, dIx, isNon_oI, isNon_non, isNon_int, isNon_bl, isNon_str, isNon_ty, isNon_tup, isNon_lst, isNon_scr, isNon_dic, isNon_obj, isNon_ref, isNon_glb, isNon_exc, isNon_book, eVar, eC, fLen, fAbs, fInt, fMax2, fMin2, fIntsI, fSorted, fTuple, fList, fListR, eLenSet, eSortedSet, eTupRg, eLstRg, eRefRg, rg1, rg2, tYesD, sRaise, sRaiseF, eM, KD.E, wipeD, ins_book, fget_posts, fget_may, mem_Book, it_tup, it_lst, it_scr, it_ref, it_may, it_fil, it_int, it_str, lo_lst, lo_tup, lo_int, lo_ref, li_lst, li_scr, li_tup, li_ref, true_and, List.set_cons_zero, List.set_cons_succ, List.getElem?_cons_zero, List.getElem?_cons_succ, List.map_cons, List.map_nil, List.length_cons, List.length_nil, List.replicate_succ, List.replicate_zero, List.cons_append, List.nil_append, List.zip_cons_cons, List.zip_nil_left, List.foldl_cons, List.foldl_nil, Nat.reduceSub, Nat.reduceAdd, Nat.zero_add, brB_t, brB_f, Bool.not_true, Bool.not_false, if_true, if_false, Bool.false_eq_true, ↓reduceIte]
  refine ⟨ns, rfl, hl, fun h1 ⟨o, ho⟩ hI => hN _ _ ?_⟩
  have l1 : h1.length = 1 := by rw [ho]; rfl
  clear ho
  refine sSeq_i fun N2 hN2 => ?_
  refine sFor_i fun LL hLL => ?_
  simp only [dEq_int, dNe_int, dEq_bl, dNe_bl, bodyD, startD, sNext, sBreak, sCont, sDrop, sRet, sRetN, sSet, sPar, sAsg, sSub, sFldD, iSeq, iCall, wEnum, wRange1, wRange2, wz_tup, eComp, eCompR, eComp2, eComp2R, gN, gT, gTcons, gTnil, tTst, tNotD, tAndD, tOrD, eNotV, eAndV, eOrV, eIf, eNil, eCons, eTup, eLst, eRef, eFrz, eCall, eFn, eMkV_eq, eMk, eFld, eSl, oNone, oSome, eOp2, eOp1, eChain, dAdd, dInt, dIntC, dIntB, dSub, dFdiv, dMod, dPow, dLt, dLe, dGt, dGe, dMul, dMulR, dMulT, dIs, dIx, isNon_oI, isNon_non, isNon_int, isNon_bl, isNon_str, isNon_ty, isNon_tup, isNon_lst, isNon_scr, isNon_dic, isNon_obj, isNon_ref, isNon_glb, isNon_exc, isNon_book, eVar, eC, fLen, fAbs, fInt, fMax2, fMin2, fIntsI, fSorted, fTuple, fList, fListR, eLenSet, eSortedSet, eTupRg, eLstRg, eRefRg, rg1, rg2, tYesD, sRaise, sRaiseF, eM, KD.E, wipeD, ins_book, fget_posts, fget_may, mem_Book, it_tup, it_lst, it_scr, it_ref, it_may, it_fil, it_int, it_str, lo_lst, lo_tup, lo_int, lo_ref, li_lst, li_scr, li_tup, li_ref, true_and, List.set_cons_zero, List.set_cons_succ, List.getElem?_cons_zero, List.getElem?_cons_succ, List.map_cons, List.map_nil, List.length_cons, List.length_nil, List.replicate_succ, List.replicate_zero, List.cons_append, List.nil_append, List.zip_cons_cons, List.zip_nil_left, List.foldl_cons, List.foldl_nil, Nat.reduceSub, Nat.reduceAdd, Nat.zero_add, brB_t, brB_f, Bool.not_true, Bool.not_false, if_true, if_false, Bool.false_eq_true, ↓reduceIte]
  refine hLL _ _ _ ?_
  refine forL_ind (fun items sd hh => ∃ x2 x6 x7 x8, (∀ i ∈ items, ∃ t : Int, i = .int t ∧ 0 ≤ t ∧ t ≤ 12) ∧ sd = [some (.scr (ns.map .int)), some (.ref 0), x2, none, none, none, x6, x7, x8] ∧ IsHand hh 0 ∧ hh.length = 1) ?_ ?_ _ _ _ ⟨none, none, none, none, ?_, rfl, hI, l1⟩
  · clear hI l1
    rintro sd hh ⟨x2, x6, x7, x8, _, rfl, hI, l1⟩
    have wf := wf_hand hI l1
    refine ⟨trivial, hN2 _ _ ?_⟩
    refine sSeq_i fun N3 hN3 => ?_
    simp only [dEq_int, dNe_int, dEq_bl, dNe_bl, bodyD, startD, sNext, sBreak, sCont, sDrop, sRet, sRetN, sSet, sPar, sAsg, sSub, sFldD, iSeq, iCall, wEnum, wRange1, wRange2, wz_tup, eComp, eCompR, eComp2, eComp2R, gN, gT, gTcons, gTnil, tTst, tNotD, tAndD, tOrD, eNotV, eAndV, eOrV, eIf, eNil, eCons, eTup, eLst, eRef, eFrz, eCall, eFn, eMkV_eq, eMk, eFld, eSl, oNone, oSome, eOp2, eOp1, eChain, dAdd, dInt, dIntC, dIntB, dSub, dFdiv, dMod, dPow, dLt, dLe, dGt, dGe, dMul, dMulR, dMulT, dIs, dIx, isNon_oI, isNon_non, isNon_int, isNon_bl, isNon_str, isNon_ty, isNon_tup, isNon_lst, isNon_scr, isNon_dic, isNon_obj, isNon_ref, isNon_glb, isNon_exc, isNon_book, eVar, eC, fLen, fAbs, fInt, fMax2, fMin2, fIntsI, fSorted, fTuple, fList, fListR, eLenSet, eSortedSet, eTupRg, eLstRg, eRefRg, rg1, rg2, tYesD, sRaise, sRaiseF, eM, KD.E, wipeD, ins_book, fget_posts, fget_may, mem_Book, it_tup, it_lst, it_scr, it_ref, it_may, it_fil, it_int, it_str, lo_lst, lo_tup, lo_int, lo_ref, li_lst, li_scr, li_tup, li_ref, true_and, List.set_cons_zero, List.set_cons_succ, List.getElem?_cons_zero, List.getElem?_cons_succ, List.map_cons, List.map_nil, List.length_cons, List.length_nil, List.replicate_succ, List.replicate_zero, List.cons_append, List.nil_append, List.zip_cons_cons, List.zip_nil_left, List.foldl_cons, List.foldl_nil, Nat.reduceSub, Nat.reduceAdd, Nat.zero_add, brB_t, brB_f, Bool.not_true, Bool.not_false, if_true, if_false, Bool.false_eq_true, ↓reduceIte]
    refine ⟨⟨by decide, by decide, by decide, by decide, by decide⟩, by decide, by decide, by decide, by decide, ?_⟩
    rw [wide_d]
    refine book_made wide_ok wf ?_
    refine book_made (may := ringM) ring_ok wf (hN3 _ _ ?_)
    refine sSeq_i fun N4 hN4 => ?_
    refine sIf_i fun A B hA hB => ?_
    simp only [dEq_int, dNe_int, dEq_bl, dNe_bl, bodyD, startD, sNext, sBreak, sCont, sDrop, sRet, sRetN, sSet, sPar, sAsg, sSub, sFldD, iSeq, iCall, wEnum, wRange1, wRange2, wz_tup, eComp, eCompR, eComp2, eComp2R, gN, gT, gTcons, gTnil, tTst, tNotD, tAndD, tOrD, eNotV, eAndV, eOrV, eIf, eNil, eCons, eTup, eLst, eRef, eFrz, eCall, eFn, eMkV_eq, eMk, eFld, eSl, oNone, oSome, eOp2, eOp1, eChain, dAdd, dInt, dIntC, dIntB, dSub, dFdiv, dMod, dPow, dLt, dLe, dGt, dGe, dMul, dMulR, dMulT, dIs, dIx, isNon_oI, isNon_non, isNon_int, isNon_bl, isNon_str, isNon_ty, isNon_tup, isNon_lst, isNon_scr, isNon_dic, isNon_obj, isNon_ref, isNon_glb, isNon_exc, isNon_book, eVar, eC, fLen, fAbs, fInt, fMax2, fMin2, fIntsI, fSorted, fTuple, fList, fListR, eLenSet, eSortedSet, eTupRg, eLstRg, eRefRg, rg1, rg2, tYesD, sRaise, sRaiseF, eM, KD.E, wipeD, ins_book, fget_posts, fget_may, mem_Book, it_tup, it_lst, it_scr, it_ref, it_may, it_fil, it_int, it_str, lo_lst, lo_tup, lo_int, lo_ref, li_lst, li_scr, li_tup, li_ref, true_and, List.set_cons_zero, List.set_cons_succ, List.getElem?_cons_zero, List.getElem?_cons_succ, List.map_cons, List.map_nil, List.length_cons, List.length_nil, List.replicate_succ, List.replicate_zero, List.cons_append, List.nil_append, List.zip_cons_cons, List.zip_nil_left, List.foldl_cons, List.foldl_nil, Nat.reduceSub, Nat.reduceAdd, Nat.zero_add, brB_t, brB_f, Bool.not_true, Bool.not_false, if_true, if_false, Bool.false_eq_true, ↓reduceIte]
    refine ⟨⟨by decide, by decide, by decide, by decide, by decide⟩, ?_⟩
    rw [wide_f]
    refine ⟨12, wideM, wideF, rfl, wide_r, by decide, ?_⟩
    simp only [dEq_int, dNe_int, dEq_bl, dNe_bl, bodyD, startD, sNext, sBreak, sCont, sDrop, sRet, sRetN, sSet, sPar, sAsg, sSub, sFldD, iSeq, iCall, wEnum, wRange1, wRange2, wz_tup, eComp, eCompR, eComp2, eComp2R, gN, gT, gTcons, gTnil, tTst, tNotD, tAndD, tOrD, eNotV, eAndV, eOrV, eIf, eNil, eCons, eTup, eLst, eRef, eFrz, eCall, eFn, eMkV_eq, eMk, eFld, eSl, oNone, oSome, eOp2, eOp1, eChain, dAdd, dInt, dIntC, dIntB, dSub, dFdiv, dMod, dPow, dLt, dLe, dGt, dGe, dMul, dMulR, dMulT, dIs, dIx, isNon_oI, isNon_non, isNon_int, isNon_bl, isNon_str, isNon_ty, isNon_tup, isNon_lst, isNon_scr, isNon_dic, isNon_obj, isNon_ref, isNon_glb, isNon_exc, isNon_book, eVar, eC, fLen, fAbs, fInt, fMax2, fMin2, fIntsI, fSorted, fTuple, fList, fListR, eLenSet, eSortedSet, eTupRg, eLstRg, eRefRg, rg1, rg2, tYesD, sRaise, sRaiseF, eM, KD.E, wipeD, ins_book, fget_posts, fget_may, mem_Book, it_tup, it_lst, it_scr, it_ref, it_may, it_fil, it_int, it_str, lo_lst, lo_tup, lo_int, lo_ref, li_lst, li_scr, li_tup, li_ref, true_and, List.set_cons_zero, List.set_cons_succ, List.getElem?_cons_zero, List.getElem?_cons_succ, List.map_cons, List.map_nil, List.length_cons, List.length_nil, List.replicate_succ, List.replicate_zero, List.cons_append, List.nil_append, List.zip_cons_cons, List.zip_nil_left, List.foldl_cons, List.foldl_nil, Nat.reduceSub, Nat.reduceAdd, Nat.zero_add, brB_t, brB_f, Bool.not_true, Bool.not_false, if_true, if_false, Bool.false_eq_true, ↓reduceIte, it_get (get_last _ _), List.length_map, wide_s]
    refine ⟨3, ringM, threeF, rfl, ring_r, by decide, ?_⟩
    refine ⟨_, _, rfl, same_lists (n := 5) (lo_get (get_last _ _)) lo_lst (by rw [ring_s]; rfl) (fun p hp => by rw [ring_s] at hp; cases hp), ?_⟩
    simp only [dEq_int, dNe_int, dEq_bl, dNe_bl, bodyD, startD, sNext, sBreak, sCont, sDrop, sRet, sRetN, sSet, sPar, sAsg, sSub, sFldD, iSeq, iCall, wEnum, wRange1, wRange2, wz_tup, eComp, eCompR, eComp2, eComp2R, gN, gT, gTcons, gTnil, tTst, tNotD, tAndD, tOrD, eNotV, eAndV, eOrV, eIf, eNil, eCons, eTup, eLst, eRef, eFrz, eCall, eFn, eMkV_eq, eMk, eFld, eSl, oNone, oSome, eOp2, eOp1, eChain, dAdd, dInt, dIntC, dIntB, dSub, dFdiv, dMod, dPow, dLt, dLe, dGt, dGe, dMul, dMulR, dMulT, dIs, dIx, isNon_oI, isNon_non, isNon_int, isNon_bl, isNon_str, isNon_ty, isNon_tup, isNon_lst, isNon_scr, isNon_dic, isNon_obj, isNon_ref, isNon_glb, isNon_exc, isNon_book, eVar, eC, fLen, fAbs, fInt, fMax2, fMin2, fIntsI, fSorted, fTuple, fList, fListR, eLenSet, eSortedSet, eTupRg, eLstRg, eRefRg, rg1, rg2, tYesD, sRaise, sRaiseF, eM, KD.E, wipeD, ins_book, fget_posts, fget_may, mem_Book, it_tup, it_lst, it_scr, it_ref, it_may, it_fil, it_int, it_str, lo_lst, lo_tup, lo_int, lo_ref, li_lst, li_scr, li_tup, li_ref, true_and, List.set_cons_zero, List.set_cons_succ, List.getElem?_cons_zero, List.getElem?_cons_succ, List.map_cons, List.map_nil, List.length_cons, List.length_nil, List.replicate_succ, List.replicate_zero, List.cons_append, List.nil_append, List.zip_cons_cons, List.zip_nil_left, List.foldl_cons, List.foldl_nil, Nat.reduceSub, Nat.reduceAdd, Nat.zero_add, brB_t, brB_f, Bool.not_true, Bool.not_false, if_true, if_false, Bool.false_eq_true, ↓reduceIte]
    refine hB _ (hN4 _ _ ?_)
    rw [ring_s]
    have wf2 := wf_pairs (l := ([] : List (Int × Int))) (wf_pairs (l := swapsI wideM wideF) wf)
    refine sSeq_i fun N5 hN5 => ?_
    simp only [dEq_int, dNe_int, dEq_bl, dNe_bl, bodyD, startD, sNext, sBreak, sCont, sDrop, sRet, sRetN, sSet, sPar, sAsg, sSub, sFldD, iSeq, iCall, wEnum, wRange1, wRange2, wz_tup, eComp, eCompR, eComp2, eComp2R, gN, gT, gTcons, gTnil, tTst, tNotD, tAndD, tOrD, eNotV, eAndV, eOrV, eIf, eNil, eCons, eTup, eLst, eRef, eFrz, eCall, eFn, eMkV_eq, eMk, eFld, eSl, oNone, oSome, eOp2, eOp1, eChain, dAdd, dInt, dIntC, dIntB, dSub, dFdiv, dMod, dPow, dLt, dLe, dGt, dGe, dMul, dMulR, dMulT, dIs, dIx, isNon_oI, isNon_non, isNon_int, isNon_bl, isNon_str, isNon_ty, isNon_tup, isNon_lst, isNon_scr, isNon_dic, isNon_obj, isNon_ref, isNon_glb, isNon_exc, isNon_book, eVar, eC, fLen, fAbs, fInt, fMax2, fMin2, fIntsI, fSorted, fTuple, fList, fListR, eLenSet, eSortedSet, eTupRg, eLstRg, eRefRg, rg1, rg2, tYesD, sRaise, sRaiseF, eM, KD.E, wipeD, ins_book, fget_posts, fget_may, mem_Book, it_tup, it_lst, it_scr, it_ref, it_may, it_fil, it_int, it_str, lo_lst, lo_tup, lo_int, lo_ref, li_lst, li_scr, li_tup, li_ref, true_and, List.set_cons_zero, List.set_cons_succ, List.getElem?_cons_zero, List.getElem?_cons_succ, List.map_cons, List.map_nil, List.length_cons, List.length_nil, List.replicate_succ, List.replicate_zero, List.cons_append, List.nil_append, List.zip_cons_cons, List.zip_nil_left, List.foldl_cons, List.foldl_nil, Nat.reduceSub, Nat.reduceAdd, Nat.zero_add, brB_t, brB_f, Bool.not_true, Bool.not_false, if_true, if_false, Bool.false_eq_true, ↓reduceIte]
    refine book_made (may := plainM) plain_ok wf2 (hN5 _ _ ?_)
    simp only [dEq_int, dNe_int, dEq_bl, dNe_bl, bodyD, startD, sNext, sBreak, sCont, sDrop, sRet, sRetN, sSet, sPar, sAsg, sSub, sFldD, iSeq, iCall, wEnum, wRange1, wRange2, wz_tup, eComp, eCompR, eComp2, eComp2R, gN, gT, gTcons, gTnil, tTst, tNotD, tAndD, tOrD, eNotV, eAndV, eOrV, eIf, eNil, eCons, eTup, eLst, eRef, eFrz, eCall, eFn, eMkV_eq, eMk, eFld, eSl, oNone, oSome, eOp2, eOp1, eChain, dAdd, dInt, dIntC, dIntB, dSub, dFdiv, dMod, dPow, dLt, dLe, dGt, dGe, dMul, dMulR, dMulT, dIs, dIx, isNon_oI, isNon_non, isNon_int, isNon_bl, isNon_str, isNon_ty, isNon_tup, isNon_lst, isNon_scr, isNon_dic, isNon_obj, isNon_ref, isNon_glb, isNon_exc, isNon_book, eVar, eC, fLen, fAbs, fInt, fMax2, fMin2, fIntsI, fSorted, fTuple, fList, fListR, eLenSet, eSortedSet, eTupRg, eLstRg, eRefRg, rg1, rg2, tYesD, sRaise, sRaiseF, eM, KD.E, wipeD, ins_book, fget_posts, fget_may, mem_Book, it_tup, it_lst, it_scr, it_ref, it_may, it_fil, it_int, it_str, lo_lst, lo_tup, lo_int, lo_ref, li_lst, li_scr, li_tup, li_ref, true_and, List.set_cons_zero, List.set_cons_succ, List.getElem?_cons_zero, List.getElem?_cons_succ, List.map_cons, List.map_nil, List.length_cons, List.length_nil, List.replicate_succ, List.replicate_zero, List.cons_append, List.nil_append, List.zip_cons_cons, List.zip_nil_left, List.foldl_cons, List.foldl_nil, Nat.reduceSub, Nat.reduceAdd, Nat.zero_add, brB_t, brB_f, Bool.not_true, Bool.not_false, if_true, if_false, Bool.false_eq_true, ↓reduceIte]
    refine ⟨3, plainM, threeF, rfl, plain_r, by decide, ?_⟩
    refine ⟨3, plainM, gapF, rfl, gap_r, by decide, ?_⟩
    dsimp only
    refine book_made (may := []) void_ok (wf_pairs (wf_pairs wf2)) ?_
    refine ⟨0, [], [], rfl, void_r, by decide, ?_⟩
    rw [plain_s, gap_s, void_s]
    refine ⟨_, _, rfl, same_lists (n := 5) lo_lst lo_lst rfl fun p hp => ?_, q _⟩
    simp only [List.zip_cons_cons, List.zip_nil_right, List.mem_cons, List.not_mem_nil, or_false] at hp
    rcases hp with rfl | rfl | rfl
    · refine same_pairs (n := 2) (l := [(0, 1), (1, 2)]) (lo_get ?_) rfl
      rw [gl (by simp only [List.length_append, List.length_cons, List.length_nil]; omega), gl (by simp only [List.length_append, List.length_cons, List.length_nil]; omega)]
      exact get_last _ _
    · refine same_pairs (n := 2) (l := []) (lo_get ?_) rfl
      rw [gl (by simp only [List.length_append, List.length_cons, List.length_nil]; omega)]
      exact get_last _ _
    · exact same_pairs (n := 2) (l := []) (lo_get (get_last _ _)) rfl
  · clear hI l1
    rintro y l sd hh N ⟨x2, x6, x7, x8, hi, rfl, hI, l1⟩ hN3
    obtain ⟨t, rfl, t0, t1⟩ := hi y List.mem_cons_self
    refine ⟨trivial, ?_⟩
    simp only [dEq_int, dNe_int, dEq_bl, dNe_bl, bodyD, startD, sNext, sBreak, sCont, sDrop, sRet, sRetN, sSet, sPar, sAsg, sSub, sFldD, iSeq, iCall, wEnum, wRange1, wRange2, wz_tup, eComp, eCompR, eComp2, eComp2R, gN, gT, gTcons, gTnil, tTst, tNotD, tAndD, tOrD, eNotV, eAndV, eOrV, eIf, eNil, eCons, eTup, eLst, eRef, eFrz, eCall, eFn, eMkV_eq, eMk, eFld, eSl, oNone, oSome, eOp2, eOp1, eChain, dAdd, dInt, dIntC, dIntB, dSub, dFdiv, dMod, dPow, dLt, dLe, dGt, dGe, dMul, dMulR, dMulT, dIs, dIx, isNon_oI, isNon_non, isNon_int, isNon_bl, isNon_str, isNon_ty, isNon_tup, isNon_lst, isNon_scr, isNon_dic, isNon_obj, isNon_ref, isNon_glb, isNon_exc, isNon_book, eVar, eC, fLen, fAbs, fInt, fMax2, fMin2, fIntsI, fSorted, fTuple, fList, fListR, eLenSet, eSortedSet, eTupRg, eLstRg, eRefRg, rg1, rg2, tYesD, sRaise, sRaiseF, eM, KD.E, wipeD, ins_book, fget_posts, fget_may, mem_Book, it_tup, it_lst, it_scr, it_ref, it_may, it_fil, it_int, it_str, lo_lst, lo_tup, lo_int, lo_ref, li_lst, li_scr, li_tup, li_ref, true_and, List.set_cons_zero, List.set_cons_succ, List.getElem?_cons_zero, List.getElem?_cons_succ, List.map_cons, List.map_nil, List.length_cons, List.length_nil, List.replicate_succ, List.replicate_zero, List.cons_append, List.nil_append, List.zip_cons_cons, List.zip_nil_left, List.foldl_cons, List.foldl_nil, Nat.reduceSub, Nat.reduceAdd, Nat.zero_add, brB_t, brB_f, Bool.not_true, Bool.not_false, if_true, if_false, Bool.false_eq_true, ↓reduceIte]
    refine sSeq_i fun N3 hN4 => ?_
    simp only [dEq_int, dNe_int, dEq_bl, dNe_bl, bodyD, startD, sNext, sBreak, sCont, sDrop, sRet, sRetN, sSet, sPar, sAsg, sSub, sFldD, iSeq, iCall, wEnum, wRange1, wRange2, wz_tup, eComp, eCompR, eComp2, eComp2R, gN, gT, gTcons, gTnil, tTst, tNotD, tAndD, tOrD, eNotV, eAndV, eOrV, eIf, eNil, eCons, eTup, eLst, eRef, eFrz, eCall, eFn, eMkV_eq, eMk, eFld, eSl, oNone, oSome, eOp2, eOp1, eChain, dAdd, dInt, dIntC, dIntB, dSub, dFdiv, dMod, dPow, dLt, dLe, dGt, dGe, dMul, dMulR, dMulT, dIs, dIx, isNon_oI, isNon_non, isNon_int, isNon_bl, isNon_str, isNon_ty, isNon_tup, isNon_lst, isNon_scr, isNon_dic, isNon_obj, isNon_ref, isNon_glb, isNon_exc, isNon_book, eVar, eC, fLen, fAbs, fInt, fMax2, fMin2, fIntsI, fSorted, fTuple, fList, fListR, eLenSet, eSortedSet, eTupRg, eLstRg, eRefRg, rg1, rg2, tYesD, sRaise, sRaiseF, eM, KD.E, wipeD, ins_book, fget_posts, fget_may, mem_Book, it_tup, it_lst, it_scr, it_ref, it_may, it_fil, it_int, it_str, lo_lst, lo_tup, lo_int, lo_ref, li_lst, li_scr, li_tup, li_ref, true_and, List.set_cons_zero, List.set_cons_succ, List.getElem?_cons_zero, List.getElem?_cons_succ, List.map_cons, List.map_nil, List.length_cons, List.length_nil, List.replicate_succ, List.replicate_zero, List.cons_append, List.nil_append, List.zip_cons_cons, List.zip_nil_left, List.foldl_cons, List.foldl_nil, Nat.reduceSub, Nat.reduceAdd, Nat.zero_add, brB_t, brB_f, Bool.not_true, Bool.not_false, if_true, if_false, Bool.false_eq_true, ↓reduceIte]
    refine ⟨0, t, rfl, hI, t0, t1, fun posts may f h' c d => ?_⟩
    simp only [dEq_int, dNe_int, dEq_bl, dNe_bl, bodyD, startD, sNext, sBreak, sCont, sDrop, sRet, sRetN, sSet, sPar, sAsg, sSub, sFldD, iSeq, iCall, wEnum, wRange1, wRange2, wz_tup, eComp, eCompR, eComp2, eComp2R, gN, gT, gTcons, gTnil, tTst, tNotD, tAndD, tOrD, eNotV, eAndV, eOrV, eIf, eNil, eCons, eTup, eLst, eRef, eFrz, eCall, eFn, eMkV_eq, eMk, eFld, eSl, oNone, oSome, eOp2, eOp1, eChain, dAdd, dInt, dIntC, dIntB, dSub, dFdiv, dMod, dPow, dLt, dLe, dGt, dGe, dMul, dMulR, dMulT, dIs, dIx, isNon_oI, isNon_non, isNon_int, isNon_bl, isNon_str, isNon_ty, isNon_tup, isNon_lst, isNon_scr, isNon_dic, isNon_obj, isNon_ref, isNon_glb, isNon_exc, isNon_book, eVar, eC, fLen, fAbs, fInt, fMax2, fMin2, fIntsI, fSorted, fTuple, fList, fListR, eLenSet, eSortedSet, eTupRg, eLstRg, eRefRg, rg1, rg2, tYesD, sRaise, sRaiseF, eM, KD.E, wipeD, ins_book, fget_posts, fget_may, mem_Book, it_tup, it_lst, it_scr, it_ref, it_may, it_fil, it_int, it_str, lo_lst, lo_tup, lo_int, lo_ref, li_lst, li_scr, li_tup, li_ref, true_and, List.set_cons_zero, List.set_cons_succ, List.getElem?_cons_zero, List.getElem?_cons_succ, List.map_cons, List.map_nil, List.length_cons, List.length_nil, List.replicate_succ, List.replicate_zero, List.cons_append, List.nil_append, List.zip_cons_cons, List.zip_nil_left, List.foldl_cons, List.foldl_nil, Nat.reduceSub, Nat.reduceAdd, Nat.zero_add, brB_t, brB_f, Bool.not_true, Bool.not_false, if_true, if_false, Bool.false_eq_true, ↓reduceIte]
    refine hN4 _ _ ?_
    refine sIf_i fun A B hA hB => ?_
    simp only [dEq_int, dNe_int, dEq_bl, dNe_bl, bodyD, startD, sNext, sBreak, sCont, sDrop, sRet, sRetN, sSet, sPar, sAsg, sSub, sFldD, iSeq, iCall, wEnum, wRange1, wRange2, wz_tup, eComp, eCompR, eComp2, eComp2R, gN, gT, gTcons, gTnil, tTst, tNotD, tAndD, tOrD, eNotV, eAndV, eOrV, eIf, eNil, eCons, eTup, eLst, eRef, eFrz, eCall, eFn, eMkV_eq, eMk, eFld, eSl, oNone, oSome, eOp2, eOp1, eChain, dAdd, dInt, dIntC, dIntB, dSub, dFdiv, dMod, dPow, dLt, dLe, dGt, dGe, dMul, dMulR, dMulT, dIs, dIx, isNon_oI, isNon_non, isNon_int, isNon_bl, isNon_str, isNon_ty, isNon_tup, isNon_lst, isNon_scr, isNon_dic, isNon_obj, isNon_ref, isNon_glb, isNon_exc, isNon_book, eVar, eC, fLen, fAbs, fInt, fMax2, fMin2, fIntsI, fSorted, fTuple, fList, fListR, eLenSet, eSortedSet, eTupRg, eLstRg, eRefRg, rg1, rg2, tYesD, sRaise, sRaiseF, eM, KD.E, wipeD, ins_book, fget_posts, fget_may, mem_Book, it_tup, it_lst, it_scr, it_ref, it_may, it_fil, it_int, it_str, lo_lst, lo_tup, lo_int, lo_ref, li_lst, li_scr, li_tup, li_ref, true_and, List.set_cons_zero, List.set_cons_succ, List.getElem?_cons_zero, List.getElem?_cons_succ, List.map_cons, List.map_nil, List.length_cons, List.length_nil, List.replicate_succ, List.replicate_zero, List.cons_append, List.nil_append, List.zip_cons_cons, List.zip_nil_left, List.foldl_cons, List.foldl_nil, Nat.reduceSub, Nat.reduceAdd, Nat.zero_add, brB_t, brB_f, Bool.not_true, Bool.not_false, if_true, if_false, Bool.false_eq_true, ↓reduceIte]
    refine ⟨0, posts, may, f, rfl, d.2.2, case_ok c t1, c.2.2.2.2, fun h'' d2 => ?_⟩
    simp only [dEq_int, dNe_int, dEq_bl, dNe_bl, bodyD, startD, sNext, sBreak, sCont, sDrop, sRet, sRetN, sSet, sPar, sAsg, sSub, sFldD, iSeq, iCall, wEnum, wRange1, wRange2, wz_tup, eComp, eCompR, eComp2, eComp2R, gN, gT, gTcons, gTnil, tTst, tNotD, tAndD, tOrD, eNotV, eAndV, eOrV, eIf, eNil, eCons, eTup, eLst, eRef, eFrz, eCall, eFn, eMkV_eq, eMk, eFld, eSl, oNone, oSome, eOp2, eOp1, eChain, dAdd, dInt, dIntC, dIntB, dSub, dFdiv, dMod, dPow, dLt, dLe, dGt, dGe, dMul, dMulR, dMulT, dIs, dIx, isNon_oI, isNon_non, isNon_int, isNon_bl, isNon_str, isNon_ty, isNon_tup, isNon_lst, isNon_scr, isNon_dic, isNon_obj, isNon_ref, isNon_glb, isNon_exc, isNon_book, eVar, eC, fLen, fAbs, fInt, fMax2, fMin2, fIntsI, fSorted, fTuple, fList, fListR, eLenSet, eSortedSet, eTupRg, eLstRg, eRefRg, rg1, rg2, tYesD, sRaise, sRaiseF, eM, KD.E, wipeD, ins_book, fget_posts, fget_may, mem_Book, it_tup, it_lst, it_scr, it_ref, it_may, it_fil, it_int, it_str, lo_lst, lo_tup, lo_int, lo_ref, li_lst, li_scr, li_tup, li_ref, true_and, List.set_cons_zero, List.set_cons_succ, List.getElem?_cons_zero, List.getElem?_cons_succ, List.map_cons, List.map_nil, List.length_cons, List.length_nil, List.replicate_succ, List.replicate_zero, List.cons_append, List.nil_append, List.zip_cons_cons, List.zip_nil_left, List.foldl_cons, List.foldl_nil, Nat.reduceSub, Nat.reduceAdd, Nat.zero_add, brB_t, brB_f, Bool.not_true, Bool.not_false, if_true, if_false, Bool.false_eq_true, ↓reduceIte]
    exact hB _ (hN3 _ _ ⟨_, _, _, _, fun i hi' => hi i (List.mem_cons_of_mem _ hi'), rfl, d2.2.2, by rw [d2.1, d.1]; exact l1⟩)
  · intro i hi
    simp only [List.mem_cons, List.not_mem_nil, or_false] at hi
    rcases hi with rfl | rfl | rfl | rfl
    · exact ⟨3, rfl, by decide, by decide⟩
    · exact ⟨6, rfl, by decide, by decide⟩
    · exact ⟨12, rfl, by decide, by decide⟩
    · exact ⟨12, rfl, by decide, by decide⟩
end DL
end

section
set_option maxRecDepth 100000
set_option maxHeartbeats 4000000
namespace DL
open PySem PySem.Spec L2
section
variable {P : Program} {w : World} {K : PySem.W.Frag} {mg : Str → Option Value} {base : Heap}
abbrev s_is_integer : Stmt := top 10
theorem sc_is_integer : FnScope (["thing"] : List Str) (["thing"] : List Str) (defScope s_is_integer) := ⟨rfl, rfl, rfl, by decide +kernel, rfl, by decide +kernel, by decide +kernel⟩
theorem ok_is_integer {f : Addr} {fd : FuncData} (F : Fun K "is_integer" "is_integer" s_is_integer f fd) (hm : mg "is_integer" = some (.ref f)) (hb : Binds K fd (["thing"] : List Str) []) (T : Txt K mg)  : Def P w K mg base (0 + 1) "is_integer" (["thing"] : List Str) (bodyD 1 (t_is_integer)) := def_mk F sc_is_integer hm hb fun cdv A outer s H E hr => by
  have nd := sc_is_integer.nd
  have tk := tkC (P := P) (w := w) (K := K) (mg := mg) (base := base) (N := (["thing"] : List Str)) (qual := "is_integer") (scope := defScope s_is_integer) (f := f) (cd := cdv) (A := A) (outer := outer) (s := s) (H := H) (E := E)
  have po := poC (P := P) (w := w) (K := K) (mg := mg) (base := base) (N := (["thing"] : List Str)) (qual := "is_integer") (scope := defScope s_is_integer) (f := f) (cd := cdv) (A := A) (outer := outer) (s := s) (H := H) (E := E)
  exact (dss_one (ds_ret (de_and (de_B (dc_isi T.own) T.n_isinstance b_isinstance (da_cons (dv 0) (da_cons (de_ty rfl T.n_int b_int) da_nil))) (de_one (de_not (de_B (dc_isi T.own) T.n_isinstance b_isinstance (da_cons (dv 0) (da_cons (de_ty rfl T.n_bool b_bool) da_nil))))))))
abbrev s_is_within : Stmt := top 11
theorem sc_is_within : FnScope (["thing", "low", "high"] : List Str) (["thing", "low", "high"] : List Str) (defScope s_is_within) := ⟨rfl, rfl, rfl, by decide +kernel, rfl, by decide +kernel, by decide +kernel⟩
theorem ok_is_within {f : Addr} {fd : FuncData} (F : Fun K "is_within" "is_within" s_is_within f fd) (hm : mg "is_within" = some (.ref f)) (hb : Binds K fd (["thing", "low", "high"] : List Str) []) (T : Txt K mg) (c_is_integer : Def P w K mg base 1 "is_integer" (["thing"] : List Str) sp_is_integer) : Def P w K mg base (1 + 1) "is_within" (["thing", "low", "high"] : List Str) (bodyD 3 (t_is_within)) := def_mk F sc_is_within hm hb fun cdv A outer s H E hr => by
  have nd := sc_is_within.nd
  have tk := tkC (P := P) (w := w) (K := K) (mg := mg) (base := base) (N := (["thing", "low", "high"] : List Str)) (qual := "is_within") (scope := defScope s_is_within) (f := f) (cd := cdv) (A := A) (outer := outer) (s := s) (H := H) (E := E)
  have po := poC (P := P) (w := w) (K := K) (mg := mg) (base := base) (N := (["thing", "low", "high"] : List Str)) (qual := "is_within") (scope := defScope s_is_within) (f := f) (cd := cdv) (A := A) (outer := outer) (s := s) (H := H) (E := E)
  exact (dss_one (ds_ret (de_and (de_callD c_is_integer hr tk (da_cons (dv 0) da_nil)) (de_one (de_chain do_le do_le (dv 1) (dv 0) (dv 2))))))
abbrev s_is_rising : Stmt := top 12
theorem sc_is_rising : FnScope (["thing", "many", "one", "other"] : List Str) (["thing", "many"] : List Str) (defScope s_is_rising) := ⟨rfl, rfl, rfl, by decide +kernel, rfl, by decide +kernel, by decide +kernel⟩
theorem ok_is_rising {f : Addr} {fd : FuncData} (F : Fun K "is_rising" "is_rising" s_is_rising f fd) (hm : mg "is_rising" = some (.ref f)) (hb : Binds K fd (["thing", "many"] : List Str) []) (T : Txt K mg) (c_is_within : Def P w K mg base 2 "is_within" (["thing", "low", "high"] : List Str) sp_is_within) : Def P w K mg base (2 + 1) "is_rising" (["thing", "many"] : List Str) (bodyD 4 (t_is_rising)) := def_mk F sc_is_rising hm hb fun cdv A outer s H E hr => by
  have nd := sc_is_rising.nd
  have tk := tkC (P := P) (w := w) (K := K) (mg := mg) (base := base) (N := (["thing", "many", "one", "other"] : List Str)) (qual := "is_rising") (scope := defScope s_is_rising) (f := f) (cd := cdv) (A := A) (outer := outer) (s := s) (H := H) (E := E)
  have po := poC (P := P) (w := w) (K := K) (mg := mg) (base := base) (N := (["thing", "many", "one", "other"] : List Str)) (qual := "is_rising") (scope := defScope s_is_rising) (f := f) (cd := cdv) (A := A) (outer := outer) (s := s) (H := H) (E := E)
  exact (dss_cons (ds_if (dt_w (dw_or (dt_not (dt_val (de_B (dc_isi T.own) T.n_isinstance b_isinstance (da_cons (dv 0) (da_cons (de_ty rfl T.n_tuple b_tuple) da_nil))))) (dw_or1 (dt_not (dt_val (de_B (dc_all rfl) T.n_all b_all (da_cons (de_lc (own := [("one", 2)]) nd (di_seq (dv 0)) (blkOk_by (N := (["thing", "many", "one", "other"] : List Str)) (sc := defScope s_is_rising) (by decide +kernel)) (fun s_ H_ C_ cl_ fp_ => (dg_name (i := 2) nd)) (fun s_ H_ C_ cl_ fp_ => dts_nil) (fun s_ H_ C_ cl_ fp_ => (de_callD c_is_within hr takes0 (da_cons (dv 2) (da_cons de_int (da_cons (de_op2 do_sub (dv 1) de_int) da_nil)))))) da_nil))))))) (dss_one (ds_ret de_bl)) dss_nil)
    (dss_one (ds_ret (de_B (dc_all rfl) T.n_all b_all (da_cons (de_lc (own := [("one", 2), ("other", 3)]) nd (di_zip (da_cons (dv 0) (da_cons (de_sl (dv 0) (do_some de_int) do_none) da_nil)) rfl T.n_zip) (blkOk_by (N := (["thing", "many", "one", "other"] : List Str)) (sc := defScope s_is_rising) (by decide +kernel)) (fun s_ H_ C_ cl_ fp_ => (dg_tup (dgs_cons (dg_name (i := 2) nd) (dgs_cons (dg_name (i := 3) nd) dgs_nil)))) (fun s_ H_ C_ cl_ fp_ => dts_nil) (fun s_ H_ C_ cl_ fp_ => (de_cmp do_lt (dv 2) (dv 3)))) da_nil)))))
abbrev s_init_Book : Stmt := inClass (top 13) 0
theorem sc_init_Book : FnScope (["self", "posts", "may", "at", "some"] : List Str) (["self", "posts", "may"] : List Str) (defScope s_init_Book) := ⟨rfl, rfl, rfl, by decide +kernel, rfl, by decide +kernel, by decide +kernel⟩
theorem ok_init_Book {f C : Addr} {fd : FuncData} (F : Fun K "__init__" "Book.__init__" s_init_Book f fd) (hm : mg (Str.ofString "Book") = some (.ref C)) (M : Mk K C f) (hb : Binds K fd (["self", "posts", "may"] : List Str) []) (T : Txt K mg) (c_is_within : Def P w K mg base 2 "is_within" (["thing", "low", "high"] : List Str) sp_is_within) (c_is_rising : Def P w K mg base 3 "is_rising" (["thing", "many"] : List Str) sp_is_rising) (c_x_BadBook : Xc2 P w K mg base "BadBook" "what" "at") : Ctor P w K mg base (3 + 1) "Book" (["self", "posts", "may"] : List Str) (bodyD 5 (t_init_Book)) := ctor_mk F sc_init_Book hm M hb fun cdv A outer s H E hr => by
  have nd := sc_init_Book.nd
  have tk := tkC (P := P) (w := w) (K := K) (mg := mg) (base := base) (N := (["self", "posts", "may", "at", "some"] : List Str)) (qual := "Book.__init__") (scope := defScope s_init_Book) (f := f) (cd := cdv) (A := A) (outer := outer) (s := s) (H := H) (E := E)
  have po := poC (P := P) (w := w) (K := K) (mg := mg) (base := base) (N := (["self", "posts", "may", "at", "some"] : List Str)) (qual := "Book.__init__") (scope := defScope s_init_Book) (f := f) (cd := cdv) (A := A) (outer := outer) (s := s) (H := H) (E := E)
  exact (dss_cons (ds_if (dt_not (dt_val (de_callD c_is_within hr tk (da_cons (dv 1) (da_cons de_int (da_cons (de_gint T.c_MOST_POSTS) da_nil)))))) (dss_one (ds_raise2D (nm := "BadBook") c_x_BadBook hr tk (da_cons de_str (da_cons de_negc da_nil)))) dss_nil)
    (dss_cons (ds_if (dt_not (dt_val (de_B (dc_isi T.own) T.n_isinstance b_isinstance (da_cons (dv 2) (da_cons (de_ty rfl T.n_tuple b_tuple) da_nil))))) (dss_one (ds_raise2D (nm := "BadBook") c_x_BadBook hr tk (da_cons de_str (da_cons de_negc da_nil)))) dss_nil)
    (dss_cons (ds_for (vs := [3, 4]) po (di_enum (da_cons (dv 2) da_nil) rfl T.n_enumerate) (dg_tup (dgs_cons (dg_name (i := 3) nd) (dgs_cons (dg_name (i := 4) nd) dgs_nil))) (dss_one (ds_if (dt_w (dw_or (dt_cmp do_ge (dv 3) (de_gint T.c_MOST_PERSONS)) (dw_or1 (dt_not (dt_val (de_callD c_is_rising hr tk (da_cons (dv 4) (da_cons (dv 1) da_nil)))))))) (dss_one (ds_raise2D (nm := "BadBook") c_x_BadBook hr tk (da_cons de_str (da_cons (dv 3) da_nil)))) dss_nil)))
    (dss_cons (ds_fld T.f_posts (dv 0) (dv 1))
    (dss_one (ds_fld T.f_may (dv 0) (dv 2)))))))
abbrev s_check_book : Stmt := top 14
theorem sc_check_book : FnScope (["book"] : List Str) (["book"] : List Str) (defScope s_check_book) := ⟨rfl, rfl, rfl, by decide +kernel, rfl, by decide +kernel, by decide +kernel⟩
theorem ok_check_book {f : Addr} {fd : FuncData} (F : Fun K "check_book" "check_book" s_check_book f fd) (hm : mg "check_book" = some (.ref f)) (hb : Binds K fd (["book"] : List Str) []) (T : Txt K mg)  : Def P w K mg base (2 + 1) "check_book" (["book"] : List Str) (bodyD 1 (t_check_book)) := def_mk F sc_check_book hm hb fun cdv A outer s H E hr => by
  have nd := sc_check_book.nd
  have tk := tkC (P := P) (w := w) (K := K) (mg := mg) (base := base) (N := (["book"] : List Str)) (qual := "check_book") (scope := defScope s_check_book) (f := f) (cd := cdv) (A := A) (outer := outer) (s := s) (H := H) (E := E)
  have po := poC (P := P) (w := w) (K := K) (mg := mg) (base := base) (N := (["book"] : List Str)) (qual := "check_book") (scope := defScope s_check_book) (f := f) (cd := cdv) (A := A) (outer := outer) (s := s) (H := H) (E := E)
  exact (dss_one (ds_if (dt_not (dt_val (de_B (dc_isi T.own) T.n_isinstance b_isinstance (da_cons (dv 0) (da_cons (de_gcls T.g_Book) da_nil))))) (dss_one (ds_raise0D (nm := "NoBook") T.x_NoBook tk)) dss_nil))
abbrev s_fills : Stmt := top 15
theorem sc_fills : FnScope (["book", "person", "post"] : List Str) (["book", "person", "post"] : List Str) (defScope s_fills) := ⟨rfl, rfl, rfl, by decide +kernel, rfl, by decide +kernel, by decide +kernel⟩
theorem ok_fills {f : Addr} {fd : FuncData} (F : Fun K "fills" "fills" s_fills f fd) (hm : mg "fills" = some (.ref f)) (hb : Binds K fd (["book", "person", "post"] : List Str) []) (T : Txt K mg) (c_is_integer : Def P w K mg base 1 "is_integer" (["thing"] : List Str) sp_is_integer) : Def P w K mg base (1 + 1) "fills" (["book", "person", "post"] : List Str) (bodyD 3 (t_fills)) := def_mk F sc_fills hm hb fun cdv A outer s H E hr => by
  have nd := sc_fills.nd
  have tk := tkC (P := P) (w := w) (K := K) (mg := mg) (base := base) (N := (["book", "person", "post"] : List Str)) (qual := "fills") (scope := defScope s_fills) (f := f) (cd := cdv) (A := A) (outer := outer) (s := s) (H := H) (E := E)
  have po := poC (P := P) (w := w) (K := K) (mg := mg) (base := base) (N := (["book", "person", "post"] : List Str)) (qual := "fills") (scope := defScope s_fills) (f := f) (cd := cdv) (A := A) (outer := outer) (s := s) (H := H) (E := E)
  exact (dss_one (ds_ret (de_or (de_cmp do_is (dv 2) de_non) (de_one (de_and (de_callD c_is_integer hr tk (da_cons (dv 2) da_nil)) (de_one (de_cmp (do_in hr.units) (dv 2) (de_ix hr.units (de_fld T.f_may (dv 0)) (dv 1)))))))))
abbrev s_is_right : Stmt := top 16
theorem sc_is_right : FnScope (["book", "thing", "told", "post", "person"] : List Str) (["book", "thing"] : List Str) (defScope s_is_right) := ⟨rfl, rfl, rfl, by decide +kernel, rfl, by decide +kernel, by decide +kernel⟩
theorem ok_is_right {f : Addr} {fd : FuncData} (F : Fun K "is_right" "is_right" s_is_right f fd) (hm : mg "is_right" = some (.ref f)) (hb : Binds K fd (["book", "thing"] : List Str) []) (T : Txt K mg) (c_fills : Def P w K mg base 2 "fills" (["book", "person", "post"] : List Str) sp_fills) : Def P w K mg base (2 + 1) "is_right" (["book", "thing"] : List Str) (bodyD 5 (t_is_right)) := def_mk F sc_is_right hm hb fun cdv A outer s H E hr => by
  have nd := sc_is_right.nd
  have tk := tkC (P := P) (w := w) (K := K) (mg := mg) (base := base) (N := (["book", "thing", "told", "post", "person"] : List Str)) (qual := "is_right") (scope := defScope s_is_right) (f := f) (cd := cdv) (A := A) (outer := outer) (s := s) (H := H) (E := E)
  have po := poC (P := P) (w := w) (K := K) (mg := mg) (base := base) (N := (["book", "thing", "told", "post", "person"] : List Str)) (qual := "is_right") (scope := defScope s_is_right) (f := f) (cd := cdv) (A := A) (outer := outer) (s := s) (H := H) (E := E)
  exact (dss_cons (ds_if (dt_w (dw_or (dt_not (dt_val (de_B (dc_isi T.own) T.n_isinstance b_isinstance (da_cons (dv 1) (da_cons (de_ty rfl T.n_tuple b_tuple) da_nil))))) (dw_or1 (dt_cmp (do_ne hr.units) (de_B dc_len T.n_len b_len (da_cons (dv 1) da_nil)) (de_B dc_len T.n_len b_len (da_cons (de_fld T.f_may (dv 0)) da_nil)))))) (dss_one (ds_ret de_bl)) dss_nil)
    (dss_cons (ds_if (dt_not (dt_val (de_B (dc_all rfl) T.n_all b_all (da_cons (de_lc (own := [("person", 4), ("post", 3)]) nd (di_enum (da_cons (dv 1) da_nil) rfl T.n_enumerate) (blkOk_by (N := (["book", "thing", "told", "post", "person"] : List Str)) (sc := defScope s_is_right) (by decide +kernel)) (fun s_ H_ C_ cl_ fp_ => (dg_tup (dgs_cons (dg_name (i := 4) nd) (dgs_cons (dg_name (i := 3) nd) dgs_nil)))) (fun s_ H_ C_ cl_ fp_ => dts_nil) (fun s_ H_ C_ cl_ fp_ => (de_callD c_fills hr takes0 (da_cons (dv 0) (da_cons (dv 4) (da_cons (dv 3) da_nil)))))) da_nil)))) (dss_one (ds_ret de_bl)) dss_nil)
    (dss_cons (ds_setLc (i := 2) (own := [("post", 3)]) nd (di_seq (dv 1)) (blkOk_by (N := (["book", "thing", "told", "post", "person"] : List Str)) (sc := defScope s_is_right) (by decide +kernel)) (fun s_ H_ C_ cl_ fp_ => (dg_name (i := 3) nd)) (fun s_ H_ C_ cl_ fp_ => (dts_one (dt_cmp do_isnot (dv 3) de_non))) (fun s_ H_ C_ cl_ fp_ => (dv 3)) rfl)
    (dss_one (ds_ret (de_cmp (do_eq hr.units) (de_lenSet rfl T.n_len rfl T.n_set (dv 2)) (de_B dc_len T.n_len b_len (da_cons (dv 2) da_nil))))))))
abbrev s_check_filling : Stmt := top 17
theorem sc_check_filling : FnScope (["book", "filling"] : List Str) (["book", "filling"] : List Str) (defScope s_check_filling) := ⟨rfl, rfl, rfl, by decide +kernel, rfl, by decide +kernel, by decide +kernel⟩
theorem ok_check_filling {f : Addr} {fd : FuncData} (F : Fun K "check_filling" "check_filling" s_check_filling f fd) (hm : mg "check_filling" = some (.ref f)) (hb : Binds K fd (["book", "filling"] : List Str) []) (T : Txt K mg) (c_check_book : Def P w K mg base 3 "check_book" (["book"] : List Str) sp_check_book) (c_is_right : Def P w K mg base 3 "is_right" (["book", "thing"] : List Str) sp_is_right) : Def P w K mg base (3 + 1) "check_filling" (["book", "filling"] : List Str) (bodyD 2 (t_check_filling)) := def_mk F sc_check_filling hm hb fun cdv A outer s H E hr => by
  have nd := sc_check_filling.nd
  have tk := tkC (P := P) (w := w) (K := K) (mg := mg) (base := base) (N := (["book", "filling"] : List Str)) (qual := "check_filling") (scope := defScope s_check_filling) (f := f) (cd := cdv) (A := A) (outer := outer) (s := s) (H := H) (E := E)
  have po := poC (P := P) (w := w) (K := K) (mg := mg) (base := base) (N := (["book", "filling"] : List Str)) (qual := "check_filling") (scope := defScope s_check_filling) (f := f) (cd := cdv) (A := A) (outer := outer) (s := s) (H := H) (E := E)
  exact (dss_cons (ds_expr (de_callD c_check_book hr tk (da_cons (dv 0) da_nil)))
    (dss_one (ds_if (dt_not (dt_val (de_callD c_is_right hr tk (da_cons (dv 0) (da_cons (dv 1) da_nil))))) (dss_one (ds_raise0D (nm := "BadFilling") T.x_BadFilling tk)) dss_nil)))
abbrev s_is_form : Stmt := top 19
theorem sc_is_form : FnScope (["book", "thing", "person"] : List Str) (["book", "thing"] : List Str) (defScope s_is_form) := ⟨rfl, rfl, rfl, by decide +kernel, rfl, by decide +kernel, by decide +kernel⟩
theorem ok_is_form {f : Addr} {fd : FuncData} (F : Fun K "is_form" "is_form" s_is_form f fd) (hm : mg "is_form" = some (.ref f)) (hb : Binds K fd (["book", "thing"] : List Str) []) (T : Txt K mg) (c_is_within : Def P w K mg base 2 "is_within" (["thing", "low", "high"] : List Str) sp_is_within) : Def P w K mg base (2 + 1) "is_form" (["book", "thing"] : List Str) (bodyD 3 (t_is_form)) := def_mk F sc_is_form hm hb fun cdv A outer s H E hr => by
  have nd := sc_is_form.nd
  have tk := tkC (P := P) (w := w) (K := K) (mg := mg) (base := base) (N := (["book", "thing", "person"] : List Str)) (qual := "is_form") (scope := defScope s_is_form) (f := f) (cd := cdv) (A := A) (outer := outer) (s := s) (H := H) (E := E)
  have po := poC (P := P) (w := w) (K := K) (mg := mg) (base := base) (N := (["book", "thing", "person"] : List Str)) (qual := "is_form") (scope := defScope s_is_form) (f := f) (cd := cdv) (A := A) (outer := outer) (s := s) (H := H) (E := E)
  exact (dss_cons (ds_if (dt_w (dw_or (dt_not (dt_val (de_B (dc_isi T.own) T.n_isinstance b_isinstance (da_cons (dv 1) (da_cons (de_ty rfl T.n_tuple b_tuple) da_nil))))) (dw_or1 (dt_not (dt_chain do_le do_le de_int (de_B dc_len T.n_len b_len (da_cons (dv 1) da_nil)) (de_gint T.c_MOST_SIZE)))))) (dss_one (ds_ret de_bl)) dss_nil)
    (dss_cons (ds_if (dt_not (dt_val (de_B (dc_all rfl) T.n_all b_all (da_cons (de_lc (own := [("person", 2)]) nd (di_seq (dv 1)) (blkOk_by (N := (["book", "thing", "person"] : List Str)) (sc := defScope s_is_form) (by decide +kernel)) (fun s_ H_ C_ cl_ fp_ => (dg_name (i := 2) nd)) (fun s_ H_ C_ cl_ fp_ => dts_nil) (fun s_ H_ C_ cl_ fp_ => (de_callD c_is_within hr takes0 (da_cons (dv 2) (da_cons de_int (da_cons (de_op2 do_sub (de_B dc_len T.n_len b_len (da_cons (de_fld T.f_may (dv 0)) da_nil)) de_int) da_nil)))))) da_nil)))) (dss_one (ds_ret de_bl)) dss_nil)
    (dss_one (ds_ret (de_and (de_cmp (do_eq hr.units) (de_lenSet rfl T.n_len rfl T.n_set (dv 1)) (de_B dc_len T.n_len b_len (da_cons (dv 1) da_nil))) (de_one (de_cmp (do_eq hr.units) (de_ix hr.units (dv 1) de_int) (de_B (dc_minI rfl) T.n_min b_min (da_cons (dv 1) da_nil)))))))))
abbrev s_goes : Stmt := top 20
theorem sc_goes : FnScope (["book", "filling", "thing", "person", "later"] : List Str) (["book", "filling", "thing"] : List Str) (defScope s_goes) := ⟨rfl, rfl, rfl, by decide +kernel, rfl, by decide +kernel, by decide +kernel⟩
theorem ok_goes {f : Addr} {fd : FuncData} (F : Fun K "goes" "goes" s_goes f fd) (hm : mg "goes" = some (.ref f)) (hb : Binds K fd (["book", "filling", "thing"] : List Str) []) (T : Txt K mg) (c_is_form : Def P w K mg base 3 "is_form" (["book", "thing"] : List Str) sp_is_form) : Def P w K mg base (3 + 1) "goes" (["book", "filling", "thing"] : List Str) (bodyD 5 (t_goes)) := def_mk F sc_goes hm hb fun cdv A outer s H E hr => by
  have nd := sc_goes.nd
  have tk := tkC (P := P) (w := w) (K := K) (mg := mg) (base := base) (N := (["book", "filling", "thing", "person", "later"] : List Str)) (qual := "goes") (scope := defScope s_goes) (f := f) (cd := cdv) (A := A) (outer := outer) (s := s) (H := H) (E := E)
  have po := poC (P := P) (w := w) (K := K) (mg := mg) (base := base) (N := (["book", "filling", "thing", "person", "later"] : List Str)) (qual := "goes") (scope := defScope s_goes) (f := f) (cd := cdv) (A := A) (outer := outer) (s := s) (H := H) (E := E)
  exact (dss_cons (ds_if (dt_w (dw_or (dt_not (dt_val (de_callD c_is_form hr tk (da_cons (dv 0) (da_cons (dv 2) da_nil))))) (dw_or1 (dt_val (de_B (dc_any rfl) T.n_any b_any (da_cons (de_lc (own := [("person", 3)]) nd (di_seq (dv 2)) (blkOk_by (N := (["book", "filling", "thing", "person", "later"] : List Str)) (sc := defScope s_goes) (by decide +kernel)) (fun s_ H_ C_ cl_ fp_ => (dg_name (i := 3) nd)) (fun s_ H_ C_ cl_ fp_ => dts_nil) (fun s_ H_ C_ cl_ fp_ => (de_cmp do_is (de_ix hr.units (dv 1) (dv 3)) de_non))) da_nil)))))) (dss_one (ds_ret de_bl)) dss_nil)
    (dss_one (ds_ret (de_B (dc_all rfl) T.n_all b_all (da_cons (de_lc (own := [("person", 3), ("later", 4)]) nd (di_zip (da_cons (dv 2) (da_cons (de_op2 do_add (de_sl (dv 2) (do_some de_int) do_none) (de_sl (dv 2) do_none (do_some de_int))) da_nil)) rfl T.n_zip) (blkOk_by (N := (["book", "filling", "thing", "person", "later"] : List Str)) (sc := defScope s_goes) (by decide +kernel)) (fun s_ H_ C_ cl_ fp_ => (dg_tup (dgs_cons (dg_name (i := 3) nd) (dgs_cons (dg_name (i := 4) nd) dgs_nil)))) (fun s_ H_ C_ cl_ fp_ => dts_nil) (fun s_ H_ C_ cl_ fp_ => (de_cmp (do_in hr.units) (de_ix hr.units (dv 1) (dv 4)) (de_ix hr.units (de_fld T.f_may (dv 0)) (dv 3))))) da_nil)))))
abbrev s_swaps_of : Stmt := top 24
theorem sc_swaps_of : FnScope (["book", "filling", "many", "x", "y"] : List Str) (["book", "filling"] : List Str) (defScope s_swaps_of) := ⟨rfl, rfl, rfl, by decide +kernel, rfl, by decide +kernel, by decide +kernel⟩
theorem ok_swaps_of {f : Addr} {fd : FuncData} (F : Fun K "swaps_of" "swaps_of" s_swaps_of f fd) (hm : mg "swaps_of" = some (.ref f)) (hb : Binds K fd (["book", "filling"] : List Str) []) (T : Txt K mg) (c_goes : Def P w K mg base 4 "goes" (["book", "filling", "thing"] : List Str) sp_goes) : Def P w K mg base (4 + 1) "swaps_of" (["book", "filling"] : List Str) (bodyD 5 (t_swaps_of)) := def_mk F sc_swaps_of hm hb fun cdv A outer s H E hr => by
  have nd := sc_swaps_of.nd
  have tk := tkC (P := P) (w := w) (K := K) (mg := mg) (base := base) (N := (["book", "filling", "many", "x", "y"] : List Str)) (qual := "swaps_of") (scope := defScope s_swaps_of) (f := f) (cd := cdv) (A := A) (outer := outer) (s := s) (H := H) (E := E)
  have po := poC (P := P) (w := w) (K := K) (mg := mg) (base := base) (N := (["book", "filling", "many", "x", "y"] : List Str)) (qual := "swaps_of") (scope := defScope s_swaps_of) (f := f) (cd := cdv) (A := A) (outer := outer) (s := s) (H := H) (E := E)
  exact (dss_cons (ds_set (i := 2) (de_B dc_len T.n_len b_len (da_cons (de_fld T.f_may (dv 0)) da_nil)) nd)
    (dss_one (ds_ret (de_lc2R (own := [("x", 3), ("y", 4)]) (vs1 := [4]) nd (di_range1 (da_cons (dv 2) da_nil) rfl T.n_range) (blkOk_by (N := (["book", "filling", "many", "x", "y"] : List Str)) (sc := defScope s_swaps_of) (by decide +kernel)) (by decide) (fun s_ H_ C_ cl_ fp_ => (dg_name (i := 3) nd)) (fun s_ H_ C_ cl_ fp_ => dts_nil) (fun s_ H_ C_ cl_ fp_ => (di_range2 (da_cons (de_op2 do_add (dv 3) de_int) (da_cons (dv 2) da_nil)) rfl T.n_range)) (fun s_ H_ C_ cl_ fp_ => (dg_name (i := 4) nd)) (fun s_ H_ C_ cl_ fp_ => (dts_one (dt_val (de_callD c_goes hr takes0 (da_cons (dv 0) (da_cons (dv 1) (da_cons (de_tup (da_cons (dv 3) (da_cons (dv 4) da_nil))) da_nil))))))) (fun s_ H_ C_ cl_ fp_ => (de_tup (da_cons (dv 3) (da_cons (dv 4) da_nil))))))))
abbrev s_swaps : Stmt := top 25
theorem sc_swaps : FnScope (["book", "filling"] : List Str) (["book", "filling"] : List Str) (defScope s_swaps) := ⟨rfl, rfl, rfl, by decide +kernel, rfl, by decide +kernel, by decide +kernel⟩
theorem ok_swaps {f : Addr} {fd : FuncData} (F : Fun K "swaps" "swaps" s_swaps f fd) (hm : mg "swaps" = some (.ref f)) (hb : Binds K fd (["book", "filling"] : List Str) []) (T : Txt K mg) (c_check_filling : Def P w K mg base 4 "check_filling" (["book", "filling"] : List Str) sp_check_filling) (c_swaps_of : Def P w K mg base 5 "swaps_of" (["book", "filling"] : List Str) sp_swaps_of) : Def P w K mg base (5 + 1) "swaps" (["book", "filling"] : List Str) (bodyD 2 (t_swaps)) := def_mk F sc_swaps hm hb fun cdv A outer s H E hr => by
  have nd := sc_swaps.nd
  have tk := tkC (P := P) (w := w) (K := K) (mg := mg) (base := base) (N := (["book", "filling"] : List Str)) (qual := "swaps") (scope := defScope s_swaps) (f := f) (cd := cdv) (A := A) (outer := outer) (s := s) (H := H) (E := E)
  have po := poC (P := P) (w := w) (K := K) (mg := mg) (base := base) (N := (["book", "filling"] : List Str)) (qual := "swaps") (scope := defScope s_swaps) (f := f) (cd := cdv) (A := A) (outer := outer) (s := s) (H := H) (E := E)
  exact (dss_cons (ds_expr (de_callD c_check_filling hr tk (da_cons (dv 0) (da_cons (dv 1) da_nil))))
    (dss_one (ds_ret (de_callD c_swaps_of hr tk (da_cons (dv 0) (da_cons (dv 1) da_nil))))))
abbrev s_is_exchange : Stmt := top 22
theorem sc_is_exchange : FnScope (["book", "filling", "thing"] : List Str) (["book", "filling", "thing"] : List Str) (defScope s_is_exchange) := ⟨rfl, rfl, rfl, by decide +kernel, rfl, by decide +kernel, by decide +kernel⟩
theorem ok_is_exchange {f : Addr} {fd : FuncData} (F : Fun K "is_exchange" "is_exchange" s_is_exchange f fd) (hm : mg "is_exchange" = some (.ref f)) (hb : Binds K fd (["book", "filling", "thing"] : List Str) []) (T : Txt K mg) (c_check_filling : Def P w K mg base 4 "check_filling" (["book", "filling"] : List Str) sp_check_filling) (c_goes : Def P w K mg base 4 "goes" (["book", "filling", "thing"] : List Str) sp_goes) : Def P w K mg base (4 + 1) "is_exchange" (["book", "filling", "thing"] : List Str) (bodyD 3 (t_is_exchange)) := def_mk F sc_is_exchange hm hb fun cdv A outer s H E hr => by
  have nd := sc_is_exchange.nd
  have tk := tkC (P := P) (w := w) (K := K) (mg := mg) (base := base) (N := (["book", "filling", "thing"] : List Str)) (qual := "is_exchange") (scope := defScope s_is_exchange) (f := f) (cd := cdv) (A := A) (outer := outer) (s := s) (H := H) (E := E)
  have po := poC (P := P) (w := w) (K := K) (mg := mg) (base := base) (N := (["book", "filling", "thing"] : List Str)) (qual := "is_exchange") (scope := defScope s_is_exchange) (f := f) (cd := cdv) (A := A) (outer := outer) (s := s) (H := H) (E := E)
  exact (dss_cons (ds_expr (de_callD c_check_filling hr tk (da_cons (dv 0) (da_cons (dv 1) da_nil))))
    (dss_one (ds_ret (de_callD c_goes hr tk (da_cons (dv 0) (da_cons (dv 1) (da_cons (dv 2) da_nil)))))))
abbrev s_behind : Stmt := top 21
theorem sc_behind : FnScope (["filling", "exchange", "found", "person", "later"] : List Str) (["filling", "exchange"] : List Str) (defScope s_behind) := ⟨rfl, rfl, rfl, by decide +kernel, rfl, by decide +kernel, by decide +kernel⟩
theorem ok_behind {f : Addr} {fd : FuncData} (F : Fun K "behind" "behind" s_behind f fd) (hm : mg "behind" = some (.ref f)) (hb : Binds K fd (["filling", "exchange"] : List Str) []) (T : Txt K mg)  : Def P w K mg base (0 + 1) "behind" (["filling", "exchange"] : List Str) (bodyD 5 (t_behind)) := def_mk F sc_behind hm hb fun cdv A outer s H E hr => by
  have nd := sc_behind.nd
  have tk := tkC (P := P) (w := w) (K := K) (mg := mg) (base := base) (N := (["filling", "exchange", "found", "person", "later"] : List Str)) (qual := "behind") (scope := defScope s_behind) (f := f) (cd := cdv) (A := A) (outer := outer) (s := s) (H := H) (E := E)
  have po := poC (P := P) (w := w) (K := K) (mg := mg) (base := base) (N := (["filling", "exchange", "found", "person", "later"] : List Str)) (qual := "behind") (scope := defScope s_behind) (f := f) (cd := cdv) (A := A) (outer := outer) (s := s) (H := H) (E := E)
  exact (dss_cons (ds_set (i := 2) (de_T dc_listR T.n_list b_list (da_cons (dv 0) da_nil)) nd)
    (dss_cons (ds_for (vs := [3, 4]) po (di_zip (da_cons (dv 1) (da_cons (de_op2 do_add (de_sl (dv 1) (do_some de_int) do_none) (de_sl (dv 1) do_none (do_some de_int))) da_nil)) rfl T.n_zip) (dg_tup (dgs_cons (dg_name (i := 3) nd) (dgs_cons (dg_name (i := 4) nd) dgs_nil))) (dss_one (ds_sub (dv 2) (dv 3) (de_ix hr.units (dv 0) (dv 4)) hr.units)))
    (dss_one (ds_ret (de_T dc_tuple T.n_tuple b_tuple (da_cons (dv 2) da_nil))))))
abbrev s_exchanged : Stmt := top 23
theorem sc_exchanged : FnScope (["book", "filling", "exchange"] : List Str) (["book", "filling", "exchange"] : List Str) (defScope s_exchanged) := ⟨rfl, rfl, rfl, by decide +kernel, rfl, by decide +kernel, by decide +kernel⟩
theorem ok_exchanged {f : Addr} {fd : FuncData} (F : Fun K "exchanged" "exchanged" s_exchanged f fd) (hm : mg "exchanged" = some (.ref f)) (hb : Binds K fd (["book", "filling", "exchange"] : List Str) []) (T : Txt K mg) (c_check_filling : Def P w K mg base 4 "check_filling" (["book", "filling"] : List Str) sp_check_filling) (c_goes : Def P w K mg base 4 "goes" (["book", "filling", "thing"] : List Str) sp_goes) (c_behind : Def P w K mg base 1 "behind" (["filling", "exchange"] : List Str) sp_behind) : Def P w K mg base (4 + 1) "exchanged" (["book", "filling", "exchange"] : List Str) (bodyD 3 (t_exchanged)) := def_mk F sc_exchanged hm hb fun cdv A outer s H E hr => by
  have nd := sc_exchanged.nd
  have tk := tkC (P := P) (w := w) (K := K) (mg := mg) (base := base) (N := (["book", "filling", "exchange"] : List Str)) (qual := "exchanged") (scope := defScope s_exchanged) (f := f) (cd := cdv) (A := A) (outer := outer) (s := s) (H := H) (E := E)
  have po := poC (P := P) (w := w) (K := K) (mg := mg) (base := base) (N := (["book", "filling", "exchange"] : List Str)) (qual := "exchanged") (scope := defScope s_exchanged) (f := f) (cd := cdv) (A := A) (outer := outer) (s := s) (H := H) (E := E)
  exact (dss_cons (ds_expr (de_callD c_check_filling hr tk (da_cons (dv 0) (da_cons (dv 1) da_nil))))
    (dss_cons (ds_if (dt_not (dt_val (de_callD c_goes hr tk (da_cons (dv 0) (da_cons (dv 1) (da_cons (dv 2) da_nil)))))) (dss_one (ds_raise0D (nm := "BadExchange") T.x_BadExchange tk)) dss_nil)
    (dss_one (ds_ret (de_callD c_behind hr tk (da_cons (dv 1) (da_cons (dv 2) da_nil)))))))
abbrev s__law_hand : Stmt := top 27
theorem sc__law_hand : FnScope (["script", "cells", "cell"] : List Str) (["script"] : List Str) (defScope s__law_hand) := ⟨rfl, rfl, rfl, by decide +kernel, rfl, by decide +kernel, by decide +kernel⟩
theorem ok__law_hand {f : Addr} {fd : FuncData} (F : Fun K "_law_hand" "_law_hand" s__law_hand f fd) (hm : mg "_law_hand" = some (.ref f)) (hb : Binds K fd (["script"] : List Str) []) (T : Txt K mg)  : Def P w K mg base (0 + 1) "_law_hand" (["script"] : List Str) (bodyD 3 (t__law_hand)) := def_mk F sc__law_hand hm hb fun cdv A outer s H E hr => by
  have nd := sc__law_hand.nd
  have tk := tkC (P := P) (w := w) (K := K) (mg := mg) (base := base) (N := (["script", "cells", "cell"] : List Str)) (qual := "_law_hand") (scope := defScope s__law_hand) (f := f) (cd := cdv) (A := A) (outer := outer) (s := s) (H := H) (E := E)
  have po := poC (P := P) (w := w) (K := K) (mg := mg) (base := base) (N := (["script", "cells", "cell"] : List Str)) (qual := "_law_hand") (scope := defScope s__law_hand) (f := f) (cd := cdv) (A := A) (outer := outer) (s := s) (H := H) (E := E)
  exact (dss_cons (ds_setLc (i := 1) (own := [("cell", 2)]) nd (di_seq (de_sl (dv 0) do_none (do_some de_int))) (blkOk_by (N := (["script", "cells", "cell"] : List Str)) (sc := defScope s__law_hand) (by decide +kernel)) (fun s_ H_ C_ cl_ fp_ => (dg_name (i := 2) nd)) (fun s_ H_ C_ cl_ fp_ => dts_nil) (fun s_ H_ C_ cl_ fp_ => (de_B dc_abs T.n_abs b_abs (da_cons (de_T dc_int T.n_int b_int (da_cons (dv 2) da_nil)) da_nil))) rfl)
    (dss_one (ds_ret (de_ref (da_cons (dv 1) (da_cons de_int (da_cons de_int (da_cons (de_op2 do_add de_int (de_op2 do_mul de_int (de_B dc_len T.n_len b_len (da_cons (dv 1) da_nil)))) (da_cons de_int da_nil)))))))))
abbrev s__law_same : Stmt := top 31
theorem sc__law_same : FnScope (["one", "due", "two", "other"] : List Str) (["one", "due"] : List Str) (defScope s__law_same) := ⟨rfl, rfl, rfl, by decide +kernel, rfl, by decide +kernel, by decide +kernel⟩
theorem ok__law_same {self : SpD} {k : Nat} {f : Addr} {fd : FuncData} (F : Fun K "_law_same" "_law_same" s__law_same f fd) (hm : mg "_law_same" = some (.ref f)) (hb : Binds K fd (["one", "due"] : List Str) []) (T : Txt K mg) (c_self : Def P w K mg base k "_law_same" (["one", "due"] : List Str) self) : Def P w K mg base (k + 1) "_law_same" (["one", "due"] : List Str) (bodyD 4 (t__law_same self)) := def_mk F sc__law_same hm hb fun cdv A outer s H E hr => by
  have nd := sc__law_same.nd
  have tk := tkC (P := P) (w := w) (K := K) (mg := mg) (base := base) (N := (["one", "due", "two", "other"] : List Str)) (qual := "_law_same") (scope := defScope s__law_same) (f := f) (cd := cdv) (A := A) (outer := outer) (s := s) (H := H) (E := E)
  have po := poC (P := P) (w := w) (K := K) (mg := mg) (base := base) (N := (["one", "due", "two", "other"] : List Str)) (qual := "_law_same") (scope := defScope s__law_same) (f := f) (cd := cdv) (A := A) (outer := outer) (s := s) (H := H) (E := E)
  exact (dss_cons (ds_if (dt_val (de_B (dc_isiT T.own) T.n_isinstance b_isinstance (da_cons (dv 1) (da_cons (de_tup (da_cons (de_ty rfl T.n_tuple b_tuple) (da_cons (de_ty rfl T.n_list b_list) da_nil))) da_nil)))) (dss_cons (ds_if (dt_w (dw_or (dt_cmp (do_ne hr.units) (de_B (dc_isi T.own) T.n_isinstance b_isinstance (da_cons (dv 0) (da_cons (de_ty rfl T.n_tuple b_tuple) da_nil))) (de_B (dc_isi T.own) T.n_isinstance b_isinstance (da_cons (dv 1) (da_cons (de_ty rfl T.n_tuple b_tuple) da_nil)))) (dw_or1 (dt_not (dt_val (de_B (dc_isiT T.own) T.n_isinstance b_isinstance (da_cons (dv 0) (da_cons (de_tup (da_cons (de_ty rfl T.n_tuple b_tuple) (da_cons (de_ty rfl T.n_list b_list) da_nil))) da_nil)))))))) (dss_one (ds_ret de_bl)) dss_nil)
    (dss_one (ds_ret (de_and (de_cmp (do_eq hr.units) (de_B dc_len T.n_len b_len (da_cons (dv 0) da_nil)) (de_B dc_len T.n_len b_len (da_cons (dv 1) da_nil))) (de_one (de_B (dc_all rfl) T.n_all b_all (da_cons (de_lc (own := [("two", 2), ("other", 3)]) nd (di_zip (da_cons (dv 0) (da_cons (dv 1) da_nil)) rfl T.n_zip) (blkOk_by (N := (["one", "due", "two", "other"] : List Str)) (sc := defScope s__law_same) (by decide +kernel)) (fun s_ H_ C_ cl_ fp_ => (dg_tup (dgs_cons (dg_name (i := 2) nd) (dgs_cons (dg_name (i := 3) nd) dgs_nil)))) (fun s_ H_ C_ cl_ fp_ => dts_nil) (fun s_ H_ C_ cl_ fp_ => (de_callD c_self hr takes0 (da_cons (dv 2) (da_cons (dv 3) da_nil))))) da_nil))))))) dss_nil)
    (dss_cons (ds_if (dt_w (dw_or (dt_val (de_B (dc_isi T.own) T.n_isinstance b_isinstance (da_cons (dv 1) (da_cons (de_ty rfl T.n_bool b_bool) da_nil)))) (dw_or (dt_val (de_B (dc_isi T.own) T.n_isinstance b_isinstance (da_cons (dv 0) (da_cons (de_ty rfl T.n_bool b_bool) da_nil)))) (dw_or (dt_cmp do_is (dv 1) de_non) (dw_or1 (dt_cmp do_is (dv 0) de_non)))))) (dss_one (ds_ret (de_and (de_cmp (do_eq hr.units) (de_B (dc_isi T.own) T.n_isinstance b_isinstance (da_cons (dv 0) (da_cons (de_ty rfl T.n_bool b_bool) da_nil))) (de_B (dc_isi T.own) T.n_isinstance b_isinstance (da_cons (dv 1) (da_cons (de_ty rfl T.n_bool b_bool) da_nil)))) (de_and (de_cmp (do_eq hr.units) (de_cmp do_is (dv 0) de_non) (de_cmp do_is (dv 1) de_non)) (de_one (de_cmp (do_eq hr.units) (dv 0) (dv 1))))))) dss_nil)
    (dss_one (ds_ret (de_and (de_cmp (do_eq hr.units) (de_B (dc_isi T.own) T.n_isinstance b_isinstance (da_cons (dv 0) (da_cons (de_ty rfl T.n_str b_str) da_nil))) (de_B (dc_isi T.own) T.n_isinstance b_isinstance (da_cons (dv 1) (da_cons (de_ty rfl T.n_str b_str) da_nil)))) (de_and (de_B (dc_isiT T.own) T.n_isinstance b_isinstance (da_cons (dv 0) (da_cons (de_tup (da_cons (de_ty rfl T.n_int b_int) (da_cons (de_ty rfl T.n_str b_str) da_nil))) da_nil))) (de_one (de_cmp (do_eq hr.units) (dv 0) (dv 1)))))))))
abbrev s__law_draw : Stmt := top 28
theorem sc__law_draw : FnScope (["hand", "many", "number", "cell", "digit"] : List Str) (["hand", "many"] : List Str) (defScope s__law_draw) := ⟨rfl, rfl, rfl, by decide +kernel, rfl, by decide +kernel, by decide +kernel⟩
theorem ok__law_draw {f : Addr} {fd : FuncData} (F : Fun K "_law_draw" "_law_draw" s__law_draw f fd) (hm : mg "_law_draw" = some (.ref f)) (hb : Binds K fd (["hand", "many"] : List Str) []) (T : Txt K mg)  : Def P w K mg base (0 + 1) "_law_draw" (["hand", "many"] : List Str) (bodyD 5 (t__law_draw)) := def_mk F sc__law_draw hm hb fun cdv A outer s H E hr => by
  have nd := sc__law_draw.nd
  have tk := tkC (P := P) (w := w) (K := K) (mg := mg) (base := base) (N := (["hand", "many", "number", "cell", "digit"] : List Str)) (qual := "_law_draw") (scope := defScope s__law_draw) (f := f) (cd := cdv) (A := A) (outer := outer) (s := s) (H := H) (E := E)
  have po := poC (P := P) (w := w) (K := K) (mg := mg) (base := base) (N := (["hand", "many", "number", "cell", "digit"] : List Str)) (qual := "_law_draw") (scope := defScope s__law_draw) (f := f) (cd := cdv) (A := A) (outer := outer) (s := s) (H := H) (E := E)
  exact (dss_cons (ds_if (dt_w (dw_and (dt_cmp (do_eq hr.units) (de_ix hr.units (dv 0) de_int) de_int) (dw_and1 (dt_cmp do_lt (de_ix hr.units (dv 0) de_int) (de_B dc_len T.n_len b_len (da_cons (de_ix hr.units (dv 0) de_int) da_nil)))))) (dss_cons (ds_set (i := 3) (de_ix hr.units (de_ix hr.units (dv 0) de_int) (de_ix hr.units (dv 0) de_int)) nd)
    (dss_cons (ds_sub (dv 0) de_int (de_op2 do_add (de_ix hr.units (dv 0) de_int) de_int) hr.units)
    (dss_cons (ds_sub (dv 0) de_int (de_op2 do_mod (de_T dc_int T.n_int b_int (da_cons (de_op2 do_add (de_op2 do_add (de_op2 do_mul (de_ix hr.units (dv 0) de_int) de_int) (de_op2 do_mul (dv 3) de_int)) de_int) da_nil)) de_int) hr.units)
    (dss_one (ds_if (dt_cmp do_ge (dv 3) (de_op2 do_pow de_int de_int)) (dss_one (ds_sub (dv 0) de_int (dv 3) hr.units)) dss_nil))))) dss_nil)
    (dss_cons (ds_if (dt_cmp do_gt (de_ix hr.units (dv 0) de_int) de_int) (dss_cons (ds_set (i := 4) (de_op2 do_mod (de_T dc_int T.n_int b_int (da_cons (de_ix hr.units (dv 0) de_int) da_nil)) (dv 1)) nd)
    (dss_cons (ds_sub (dv 0) de_int (de_op2 do_fdiv (de_ix hr.units (dv 0) de_int) (dv 1)) hr.units)
    (dss_one (ds_ret (dv 4))))) dss_nil)
    (dss_cons (ds_sub (dv 0) de_int (de_op2 do_add (de_ix hr.units (dv 0) de_int) de_int) hr.units)
    (dss_cons (ds_set (i := 2) (de_op2 do_mod (de_T dc_int T.n_int b_int (da_cons (de_op2 do_mul (de_T dc_int T.n_int b_int (da_cons (de_op2 do_add (de_ix hr.units (dv 0) de_int) (de_op2 do_mul de_int (de_ix hr.units (dv 0) de_int))) da_nil)) de_int) da_nil)) de_int) nd)
    (dss_cons (ds_set (i := 2) (de_op2 do_mod (de_T dc_int T.n_int b_int (da_cons (de_op2 do_mul (dv 2) (de_op2 do_add (de_op2 do_fdiv (dv 2) de_int) de_int)) da_nil)) de_int) nd)
    (dss_cons (ds_set (i := 2) (de_op2 do_mod (de_T dc_int T.n_int b_int (da_cons (de_op2 do_mul (dv 2) (de_op2 do_add (de_op2 do_fdiv (dv 2) de_int) de_int)) da_nil)) de_int) nd)
    (dss_one (ds_ret (de_op2 do_mod (de_T dc_int T.n_int b_int (da_cons (de_op2 do_fdiv (dv 2) de_int) da_nil)) (dv 1))))))))))
abbrev s__law_any : Stmt := top 29
theorem sc__law_any : FnScope (["hand", "some"] : List Str) (["hand", "some"] : List Str) (defScope s__law_any) := ⟨rfl, rfl, rfl, by decide +kernel, rfl, by decide +kernel, by decide +kernel⟩
theorem ok__law_any {f : Addr} {fd : FuncData} (F : Fun K "_law_any" "_law_any" s__law_any f fd) (hm : mg "_law_any" = some (.ref f)) (hb : Binds K fd (["hand", "some"] : List Str) []) (T : Txt K mg) (c__law_draw : Def P w K mg base 1 "_law_draw" (["hand", "many"] : List Str) sp__law_draw) : Def P w K mg base (1 + 1) "_law_any" (["hand", "some"] : List Str) (bodyD 2 (t__law_any)) := def_mk F sc__law_any hm hb fun cdv A outer s H E hr => by
  have nd := sc__law_any.nd
  have tk := tkC (P := P) (w := w) (K := K) (mg := mg) (base := base) (N := (["hand", "some"] : List Str)) (qual := "_law_any") (scope := defScope s__law_any) (f := f) (cd := cdv) (A := A) (outer := outer) (s := s) (H := H) (E := E)
  have po := poC (P := P) (w := w) (K := K) (mg := mg) (base := base) (N := (["hand", "some"] : List Str)) (qual := "_law_any") (scope := defScope s__law_any) (f := f) (cd := cdv) (A := A) (outer := outer) (s := s) (H := H) (E := E)
  exact (dss_one (ds_ret (de_ix hr.units (dv 1) (de_callD c__law_draw hr tk (da_cons (dv 0) (da_cons (de_B dc_len T.n_len b_len (da_cons (dv 1) da_nil)) da_nil))))))
abbrev s__law_mixed : Stmt := top 30
theorem sc__law_mixed : FnScope (["hand", "some", "left", "found"] : List Str) (["hand", "some"] : List Str) (defScope s__law_mixed) := ⟨rfl, rfl, rfl, by decide +kernel, rfl, by decide +kernel, by decide +kernel⟩
theorem ok__law_mixed {f : Addr} {fd : FuncData} (F : Fun K "_law_mixed" "_law_mixed" s__law_mixed f fd) (hm : mg "_law_mixed" = some (.ref f)) (hb : Binds K fd (["hand", "some"] : List Str) []) (T : Txt K mg) (c__law_draw : Def P w K mg base 1 "_law_draw" (["hand", "many"] : List Str) sp__law_draw) : Def P w K mg base (1 + 1) "_law_mixed" (["hand", "some"] : List Str) (bodyD 4 (t__law_mixed)) := def_mk F sc__law_mixed hm hb fun cdv A outer s H E hr => by
  have nd := sc__law_mixed.nd
  have tk := tkC (P := P) (w := w) (K := K) (mg := mg) (base := base) (N := (["hand", "some", "left", "found"] : List Str)) (qual := "_law_mixed") (scope := defScope s__law_mixed) (f := f) (cd := cdv) (A := A) (outer := outer) (s := s) (H := H) (E := E)
  have po := poC (P := P) (w := w) (K := K) (mg := mg) (base := base) (N := (["hand", "some", "left", "found"] : List Str)) (qual := "_law_mixed") (scope := defScope s__law_mixed) (f := f) (cd := cdv) (A := A) (outer := outer) (s := s) (H := H) (E := E)
  exact (dss_cons (ds_par (i := 2) (j := 3) (da_cons (de_T dc_listR T.n_list b_list (da_cons (dv 1) da_nil)) (da_cons (de_ref da_nil) da_nil)) nd)
    (dss_cons (ds_while po (dt_cmp do_gt (de_B dc_len T.n_len b_len (da_cons (dv 2) da_nil)) de_int) (dss_one (ds_expr (de_m PySem.F.plainAttrs_list PySem.F.slot_list_append PySem.F.type_list_append dm_append (dv 3) (da_cons (de_m PySem.F.plainAttrs_list PySem.F.slot_list_pop PySem.F.type_list_pop dm_popAt (dv 2) (da_cons (de_callD c__law_draw hr tk (da_cons (dv 0) (da_cons (de_B dc_len T.n_len b_len (da_cons (dv 2) da_nil)) da_nil))) da_nil)) da_nil)))))
    (dss_one (ds_ret (dv 3)))))
abbrev s__law_case : Stmt := top 32
theorem sc__law_case : FnScope (["hand", "top", "many", "at", "share", "person", "posts", "persons", "shape", "order", "spots", "filling", "may", "below", "post", "some"] : List Str) (["hand", "top"] : List Str) (defScope s__law_case) := ⟨rfl, rfl, rfl, by decide +kernel, rfl, by decide +kernel, by decide +kernel⟩
theorem ok__law_case {f : Addr} {fd : FuncData} (F : Fun K "_law_case" "_law_case" s__law_case f fd) (hm : mg "_law_case" = some (.ref f)) (hb : Binds K fd (["hand", "top"] : List Str) []) (T : Txt K mg) (c__law_draw : Def P w K mg base 1 "_law_draw" (["hand", "many"] : List Str) sp__law_draw) (c__law_mixed : Def P w K mg base 2 "_law_mixed" (["hand", "some"] : List Str) sp__law_mixed) (c__law_any : Def P w K mg base 2 "_law_any" (["hand", "some"] : List Str) sp__law_any) : Def P w K mg base (2 + 1) "_law_case" (["hand", "top"] : List Str) (bodyD 16 (t__law_case)) := def_mk F sc__law_case hm hb fun cdv A outer s H E hr => by
  have nd := sc__law_case.nd
  have tk := tkC (P := P) (w := w) (K := K) (mg := mg) (base := base) (N := (["hand", "top", "many", "at", "share", "person", "posts", "persons", "shape", "order", "spots", "filling", "may", "below", "post", "some"] : List Str)) (qual := "_law_case") (scope := defScope s__law_case) (f := f) (cd := cdv) (A := A) (outer := outer) (s := s) (H := H) (E := E)
  have po := poC (P := P) (w := w) (K := K) (mg := mg) (base := base) (N := (["hand", "top", "many", "at", "share", "person", "posts", "persons", "shape", "order", "spots", "filling", "may", "below", "post", "some"] : List Str)) (qual := "_law_case") (scope := defScope s__law_case) (f := f) (cd := cdv) (A := A) (outer := outer) (s := s) (H := H) (E := E)
  exact (dss_cons (ds_par3 (i := 6) (j := 7) (l := 8) (da_cons (de_callD c__law_draw hr tk (da_cons (dv 0) (da_cons (de_op2 do_add (dv 1) de_int) da_nil))) (da_cons (de_callD c__law_draw hr tk (da_cons (dv 0) (da_cons (de_op2 do_add (dv 1) de_int) da_nil))) (da_cons (de_callD c__law_draw hr tk (da_cons (dv 0) (da_cons de_int da_nil))) da_nil))) nd)
    (dss_cons (ds_par (i := 9) (j := 10) (da_cons (de_callD c__law_mixed hr tk (da_cons (dv 0) (da_cons (de_lstRg rfl T.n_list (dr_1 rfl T.n_range (dv 7))) da_nil))) (da_cons (de_callD c__law_mixed hr tk (da_cons (dv 0) (da_cons (de_lstRg rfl T.n_list (dr_1 rfl T.n_range (dv 6))) da_nil))) da_nil)) nd)
    (dss_cons (ds_set (i := 2) (de_B (dc_min2 rfl) T.n_min b_min (da_cons (dv 6) (da_cons (dv 7) da_nil))) nd)
    (dss_cons (ds_set (i := 2) (de_callD c__law_any hr tk (da_cons (dv 0) (da_cons (de_lst (da_cons (dv 2) (da_cons (dv 2) (da_cons (dv 2) (da_cons (de_B (dc_max2 rfl) T.n_max b_max (da_cons de_int (da_cons (de_op2 do_sub (dv 2) de_int) da_nil))) (da_cons (de_callD c__law_draw hr tk (da_cons (dv 0) (da_cons (de_op2 do_add (dv 2) de_int) da_nil))) da_nil)))))) da_nil))) nd)
    (dss_cons (ds_par (i := 11) (j := 12) (da_cons (de_op2 do_mulR (de_lst (da_cons de_non da_nil)) (dv 7)) (da_cons (de_lc (own := [("person", 5)]) nd (di_range1 (da_cons (dv 7) da_nil) rfl T.n_range) (blkOk_by (N := (["hand", "top", "many", "at", "share", "person", "posts", "persons", "shape", "order", "spots", "filling", "may", "below", "post", "some"] : List Str)) (sc := defScope s__law_case) (by decide +kernel)) (fun s_ H_ C_ cl_ fp_ => (dg_name (i := 5) nd)) (fun s_ H_ C_ cl_ fp_ => dts_nil) (fun s_ H_ C_ cl_ fp_ => (de_ref da_nil))) da_nil)) nd)
    (dss_cons (ds_for (vs := [3]) po (di_range1 (da_cons (dv 2) da_nil) rfl T.n_range) (dg_name (i := 3) nd) (dss_cons (ds_sub (dv 11) (de_ix hr.units (dv 9) (dv 3)) (de_ix hr.units (dv 10) (dv 3)) hr.units)
    (dss_cons (ds_expr (de_m PySem.F.plainAttrs_list PySem.F.slot_list_append PySem.F.type_list_append dm_append (de_ix hr.units (dv 12) (de_ix hr.units (dv 9) (dv 3))) (da_cons (de_ix hr.units (dv 10) (dv 3)) da_nil)))
    (dss_one (ds_if (dt_cmp (do_eq hr.units) (dv 8) de_int) (dss_one (ds_expr (de_m PySem.F.plainAttrs_list PySem.F.slot_list_append PySem.F.type_list_append dm_append (de_ix hr.units (dv 12) (de_ix hr.units (dv 9) (dv 3))) (da_cons (de_ix hr.units (dv 10) (de_op2 do_mod (de_T dc_int T.n_int b_int (da_cons (de_op2 do_add (dv 3) de_int) da_nil)) (dv 2))) da_nil)))) dss_nil)))))
    (dss_cons (ds_set (i := 4) (de_callD c__law_any hr tk (da_cons (dv 0) (da_cons (de_lst (da_cons de_int (da_cons de_int (da_cons de_int (da_cons de_int da_nil))))) da_nil))) nd)
    (dss_cons (ds_for (vs := [5]) po (di_range1 (da_cons (dv 7) da_nil) rfl T.n_range) (dg_name (i := 5) nd) (dss_cons (ds_set (i := 13) (de_if (dt_cmp (do_eq hr.units) (dv 8) de_int) (de_callD c__law_draw hr tk (da_cons (dv 0) (da_cons (de_op2 do_add (dv 6) de_int) da_nil))) de_int) nd)
    (dss_one (ds_for (vs := [14]) po (di_range1 (da_cons (dv 6) da_nil) rfl T.n_range) (dg_name (i := 14) nd) (dss_one (ds_if (dt_w (dw_or (dt_cmp do_lt (dv 14) (dv 13)) (dw_or1 (dt_cmp (do_eq hr.units) (de_callD c__law_draw hr tk (da_cons (dv 0) (da_cons (dv 4) da_nil))) de_int)))) (dss_one (ds_expr (de_m PySem.F.plainAttrs_list PySem.F.slot_list_append PySem.F.type_list_append dm_append (de_ix hr.units (dv 12) (dv 5)) (da_cons (dv 14) da_nil)))) dss_nil))))))
    (dss_one (ds_ret (de_lst (da_cons (dv 6) (da_cons (de_T dc_tuple T.n_tuple b_tuple (da_cons (de_lc (own := [("some", 15)]) nd (di_seq (dv 12)) (blkOk_by (N := (["hand", "top", "many", "at", "share", "person", "posts", "persons", "shape", "order", "spots", "filling", "may", "below", "post", "some"] : List Str)) (sc := defScope s__law_case) (by decide +kernel)) (fun s_ H_ C_ cl_ fp_ => (dg_name (i := 15) nd)) (fun s_ H_ C_ cl_ fp_ => dts_nil) (fun s_ H_ C_ cl_ fp_ => (de_T dc_tuple T.n_tuple b_tuple (da_cons (de_sortedSet rfl T.n_sorted rfl T.n_set (dv 15)) da_nil)))) da_nil)) (da_cons (de_T dc_tuple T.n_tuple b_tuple (da_cons (dv 11) da_nil)) da_nil))))))))))))))
abbrev s__law_due : Stmt := top 34
theorem sc__law_due : FnScope (["may", "filling", "there", "found", "x", "post", "y"] : List Str) (["may", "filling"] : List Str) (defScope s__law_due) := ⟨rfl, rfl, rfl, by decide +kernel, rfl, by decide +kernel, by decide +kernel⟩
theorem ok__law_due {f : Addr} {fd : FuncData} (F : Fun K "_law_due" "_law_due" s__law_due f fd) (hm : mg "_law_due" = some (.ref f)) (hb : Binds K fd (["may", "filling"] : List Str) []) (T : Txt K mg)  : Def P w K mg base (0 + 1) "_law_due" (["may", "filling"] : List Str) (bodyD 7 (t__law_due)) := def_mk F sc__law_due hm hb fun cdv A outer s H E hr => by
  have nd := sc__law_due.nd
  have tk := tkC (P := P) (w := w) (K := K) (mg := mg) (base := base) (N := (["may", "filling", "there", "found", "x", "post", "y"] : List Str)) (qual := "_law_due") (scope := defScope s__law_due) (f := f) (cd := cdv) (A := A) (outer := outer) (s := s) (H := H) (E := E)
  have po := poC (P := P) (w := w) (K := K) (mg := mg) (base := base) (N := (["may", "filling", "there", "found", "x", "post", "y"] : List Str)) (qual := "_law_due") (scope := defScope s__law_due) (f := f) (cd := cdv) (A := A) (outer := outer) (s := s) (H := H) (E := E)
  exact (dss_cons (ds_setLc (i := 2) (own := [("x", 4), ("post", 5)]) nd (di_enum (da_cons (dv 1) da_nil) rfl T.n_enumerate) (blkOk_by (N := (["may", "filling", "there", "found", "x", "post", "y"] : List Str)) (sc := defScope s__law_due) (by decide +kernel)) (fun s_ H_ C_ cl_ fp_ => (dg_tup (dgs_cons (dg_name (i := 4) nd) (dgs_cons (dg_name (i := 5) nd) dgs_nil)))) (fun s_ H_ C_ cl_ fp_ => (dts_one (dt_cmp do_isnot (dv 5) de_non))) (fun s_ H_ C_ cl_ fp_ => (dv 4)) rfl)
    (dss_cons (ds_set (i := 3) (de_ref da_nil) nd)
    (dss_cons (ds_for (vs := [4]) po (di_seq (dv 2)) (dg_name (i := 4) nd) (dss_one (ds_expr (de_m PySem.F.plainAttrs_list PySem.F.slot_list_extend PySem.F.type_list_extend dm_extend (dv 3) (da_cons (de_lc (own := [("y", 6)]) nd (di_seq (dv 2)) (blkOk_by (N := (["may", "filling", "there", "found", "x", "post", "y"] : List Str)) (sc := defScope s__law_due) (by decide +kernel)) (fun s_ H_ C_ cl_ fp_ => (dg_name (i := 6) nd)) (fun s_ H_ C_ cl_ fp_ => (dts_one (dt_w (dw_and (dt_cmp do_gt (dv 6) (dv 4)) (dw_and (dt_cmp (do_in hr.units) (de_ix hr.units (dv 1) (dv 6)) (de_ix hr.units (dv 0) (dv 4))) (dw_and1 (dt_cmp (do_in hr.units) (de_ix hr.units (dv 1) (dv 4)) (de_ix hr.units (dv 0) (dv 6))))))))) (fun s_ H_ C_ cl_ fp_ => (de_tup (da_cons (dv 4) (da_cons (dv 6) da_nil))))) da_nil)))))
    (dss_one (ds_ret (dv 3))))))
abbrev s__law_done : Stmt := top 33
theorem sc__law_done : FnScope (["filling", "exchange", "found", "x", "y"] : List Str) (["filling", "exchange"] : List Str) (defScope s__law_done) := ⟨rfl, rfl, rfl, by decide +kernel, rfl, by decide +kernel, by decide +kernel⟩
theorem ok__law_done {f : Addr} {fd : FuncData} (F : Fun K "_law_done" "_law_done" s__law_done f fd) (hm : mg "_law_done" = some (.ref f)) (hb : Binds K fd (["filling", "exchange"] : List Str) []) (T : Txt K mg)  : Def P w K mg base (0 + 1) "_law_done" (["filling", "exchange"] : List Str) (bodyD 5 (t__law_done)) := def_mk F sc__law_done hm hb fun cdv A outer s H E hr => by
  have nd := sc__law_done.nd
  have tk := tkC (P := P) (w := w) (K := K) (mg := mg) (base := base) (N := (["filling", "exchange", "found", "x", "y"] : List Str)) (qual := "_law_done") (scope := defScope s__law_done) (f := f) (cd := cdv) (A := A) (outer := outer) (s := s) (H := H) (E := E)
  have po := poC (P := P) (w := w) (K := K) (mg := mg) (base := base) (N := (["filling", "exchange", "found", "x", "y"] : List Str)) (qual := "_law_done") (scope := defScope s__law_done) (f := f) (cd := cdv) (A := A) (outer := outer) (s := s) (H := H) (E := E)
  exact (dss_cons (ds_set (i := 2) (de_T dc_listR T.n_list b_list (da_cons (dv 0) da_nil)) nd)
    (dss_cons (ds_for (vs := [3, 4]) po (di_zip (da_cons (dv 1) (da_cons (de_op2 do_add (de_sl (dv 1) (do_some de_int) do_none) (de_sl (dv 1) do_none (do_some de_int))) da_nil)) rfl T.n_zip) (dg_tup (dgs_cons (dg_name (i := 3) nd) (dgs_cons (dg_name (i := 4) nd) dgs_nil))) (dss_one (ds_sub (dv 2) (dv 3) (de_ix hr.units (dv 0) (dv 4)) hr.units)))
    (dss_one (ds_ret (de_T dc_tuple T.n_tuple b_tuple (da_cons (dv 2) da_nil))))))
abbrev s__law_are_listed : Stmt := top 35
theorem sc__law_are_listed : FnScope (["hand", "posts", "may", "filling", "found", "x", "turn", "book", "due", "y", "step", "behind_v"] : List Str) (["hand", "posts", "may", "filling"] : List Str) (defScope s__law_are_listed) := ⟨rfl, rfl, rfl, by decide +kernel, rfl, by decide +kernel, by decide +kernel⟩
theorem ok__law_are_listed {f : Addr} {fd : FuncData} (F : Fun K "_law_are_listed" "_law_are_listed" s__law_are_listed f fd) (hm : mg "_law_are_listed" = some (.ref f)) (hb : Binds K fd (["hand", "posts", "may", "filling"] : List Str) []) (T : Txt K mg) (c__law_due : Def P w K mg base 1 "_law_due" (["may", "filling"] : List Str) sp__law_due) (c_Book : Ctor P w K mg base 4 "Book" (["self", "posts", "may"] : List Str) sp_init_Book) (c_swaps : Def P w K mg base 6 "swaps" (["book", "filling"] : List Str) sp_swaps) (c__law_same : Def P w K mg base 6 "_law_same" (["one", "due"] : List Str) sp__law_same) (c_is_exchange : Def P w K mg base 5 "is_exchange" (["book", "filling", "thing"] : List Str) sp_is_exchange) (c__law_any : Def P w K mg base 2 "_law_any" (["hand", "some"] : List Str) sp__law_any) (c__law_done : Def P w K mg base 1 "_law_done" (["filling", "exchange"] : List Str) sp__law_done) (c_exchanged : Def P w K mg base 5 "exchanged" (["book", "filling", "exchange"] : List Str) sp_exchanged) : Def P w K mg base (6 + 1) "_law_are_listed" (["hand", "posts", "may", "filling"] : List Str) (bodyD 12 (t__law_are_listed)) := def_mk F sc__law_are_listed hm hb fun cdv A outer s H E hr => by
  have nd := sc__law_are_listed.nd
  have tk := tkC (P := P) (w := w) (K := K) (mg := mg) (base := base) (N := (["hand", "posts", "may", "filling", "found", "x", "turn", "book", "due", "y", "step", "behind_v"] : List Str)) (qual := "_law_are_listed") (scope := defScope s__law_are_listed) (f := f) (cd := cdv) (A := A) (outer := outer) (s := s) (H := H) (E := E)
  have po := poC (P := P) (w := w) (K := K) (mg := mg) (base := base) (N := (["hand", "posts", "may", "filling", "found", "x", "turn", "book", "due", "y", "step", "behind_v"] : List Str)) (qual := "_law_are_listed") (scope := defScope s__law_are_listed) (f := f) (cd := cdv) (A := A) (outer := outer) (s := s) (H := H) (E := E)
  exact (dss_cons (ds_par (i := 7) (j := 8) (da_cons (de_mkVD (c := "Book") c_Book hr tk (da_cons (dv 1) (da_cons (dv 2) da_nil))) (da_cons (de_callD c__law_due hr tk (da_cons (dv 2) (da_cons (dv 3) da_nil))) da_nil)) nd)
    (dss_cons (ds_set (i := 4) (de_callD c_swaps hr tk (da_cons (dv 7) (da_cons (dv 3) da_nil))) nd)
    (dss_cons (ds_if (dt_not (dt_val (de_callD c__law_same hr tk (da_cons (dv 4) (da_cons (dv 8) da_nil))))) (dss_one (ds_ret de_bl)) dss_nil)
    (dss_cons (ds_expr (de_m PySem.F.plainAttrs_list PySem.F.slot_list_append PySem.F.type_list_append dm_append (dv 4) (da_cons (de_tup (da_cons de_int (da_cons de_int da_nil))) da_nil)))
    (dss_cons (ds_for (vs := [5]) po (di_range1 (da_cons (de_B dc_len T.n_len b_len (da_cons (dv 2) da_nil)) da_nil) rfl T.n_range) (dg_name (i := 5) nd) (dss_one (ds_for (vs := [9]) po (di_range1 (da_cons (de_B dc_len T.n_len b_len (da_cons (dv 2) da_nil)) da_nil) rfl T.n_range) (dg_name (i := 9) nd) (dss_one (ds_if (dt_not (dt_val (de_callD c__law_same hr tk (da_cons (de_callD c_is_exchange hr tk (da_cons (dv 7) (da_cons (dv 3) (da_cons (de_tup (da_cons (dv 5) (da_cons (dv 9) da_nil))) da_nil)))) (da_cons (de_cmp (do_inD (u65 hr)) (de_tup (da_cons (dv 5) (da_cons (dv 9) da_nil))) (dv 8)) da_nil))))) (dss_one (ds_ret de_bl)) dss_nil)))))
    (dss_cons (ds_for (vs := [6]) po (di_range1 (da_cons (de_if (dt_cmp do_gt (de_B dc_len T.n_len b_len (da_cons (dv 8) da_nil)) de_int) de_int de_int) da_nil) rfl T.n_range) (dg_name (i := 6) nd) (dss_cons (ds_set (i := 10) (de_callD c__law_any hr tk (da_cons (dv 0) (da_cons (dv 8) da_nil))) nd)
    (dss_cons (ds_set (i := 11) (de_callD c__law_done hr tk (da_cons (dv 3) (da_cons (dv 10) da_nil))) nd)
    (dss_cons (ds_if (dt_w (dw_or (dt_not (dt_val (de_callD c__law_same hr tk (da_cons (de_callD c_exchanged hr tk (da_cons (dv 7) (da_cons (dv 3) (da_cons (dv 10) da_nil)))) (da_cons (dv 11) da_nil))))) (dw_or1 (dt_not (dt_val (de_callD c__law_same hr tk (da_cons (de_callD c_swaps hr tk (da_cons (dv 7) (da_cons (dv 11) da_nil))) (da_cons (de_callD c__law_due hr tk (da_cons (dv 2) (da_cons (dv 11) da_nil))) da_nil)))))))) (dss_one (ds_ret de_bl)) dss_nil)
    (dss_one (ds_if (dt_cmp (do_notinD (u65 hr)) (dv 10) (de_callD c_swaps hr tk (da_cons (dv 7) (da_cons (dv 11) da_nil)))) (dss_one (ds_ret de_bl)) dss_nil))))))
    (dss_one (ds_ret (de_callD c__law_same hr tk (da_cons (de_callD c_swaps hr tk (da_cons (dv 7) (da_cons (dv 3) da_nil))) (da_cons (dv 8) da_nil)))))))))))
abbrev s_law : Stmt := top 36
theorem sc_law : FnScope (["script", "hand", "top", "plain", "wide", "ring", "posts", "may", "filling"] : List Str) (["script"] : List Str) (defScope s_law) := ⟨rfl, rfl, rfl, by decide +kernel, rfl, by decide +kernel, by decide +kernel⟩
theorem ok_law {f : Addr} {fd : FuncData} (F : Fun K "law" "law" s_law f fd) (T : Txt K mg) (c__law_hand : Def P w K mg base 1 "_law_hand" (["script"] : List Str) sp__law_hand) (c__law_case : Def P w K mg base 3 "_law_case" (["hand", "top"] : List Str) sp__law_case) (c__law_are_listed : Def P w K mg base 7 "_law_are_listed" (["hand", "posts", "may", "filling"] : List Str) sp__law_are_listed) (c_Book : Ctor P w K mg base 4 "Book" (["self", "posts", "may"] : List Str) sp_init_Book) (c_swaps : Def P w K mg base 6 "swaps" (["book", "filling"] : List Str) sp_swaps) (c__law_same : Def P w K mg base 6 "_law_same" (["one", "due"] : List Str) sp__law_same) : FnOk P w K mg base (L2.CX P w) (7 + 1) f fd (["script"] : List Str) (LSp K mg 1 (bodyD 9 (t_law))) := fn_ok F sc_law fun cdv A outer s H E hr => by
  have nd := sc_law.nd
  have tk := tkC (P := P) (w := w) (K := K) (mg := mg) (base := base) (N := (["script", "hand", "top", "plain", "wide", "ring", "posts", "may", "filling"] : List Str)) (qual := "law") (scope := defScope s_law) (f := f) (cd := cdv) (A := A) (outer := outer) (s := s) (H := H) (E := E)
  have po := poC (P := P) (w := w) (K := K) (mg := mg) (base := base) (N := (["script", "hand", "top", "plain", "wide", "ring", "posts", "may", "filling"] : List Str)) (qual := "law") (scope := defScope s_law) (f := f) (cd := cdv) (A := A) (outer := outer) (s := s) (H := H) (E := E)
  exact (dss_cons (ds_set (i := 1) (de_callD c__law_hand hr tk (da_cons (dv 0) da_nil)) nd)
    (dss_cons (ds_for (vs := [2]) po (di_seq (de_lst (da_cons de_int (da_cons de_int (da_cons de_int (da_cons de_int da_nil)))))) (dg_name (i := 2) nd) (dss_cons (ds_asg (vs := [6, 7, 8]) (de_callD c__law_case hr tk (da_cons (dv 1) (da_cons (dv 2) da_nil))) (dg_tup (dgs_cons (dg_name (i := 6) nd) (dgs_cons (dg_name (i := 7) nd) (dgs_cons (dg_name (i := 8) nd) dgs_nil)))))
    (dss_one (ds_if (dt_not (dt_val (de_callD c__law_are_listed hr tk (da_cons (dv 1) (da_cons (dv 6) (da_cons (dv 7) (da_cons (dv 8) da_nil))))))) (dss_one (ds_ret de_bl)) dss_nil))))
    (dss_cons (ds_par (i := 4) (j := 5) (da_cons (de_mkVD (c := "Book") c_Book hr tk (da_cons de_int (da_cons (de_op2 do_mulT (de_tup (da_cons (de_tupRg rfl T.n_tuple (dr_1 rfl T.n_range de_int)) da_nil)) de_int) da_nil))) (da_cons (de_mkVD (c := "Book") c_Book hr tk (da_cons de_int (da_cons (de_tup (da_cons (de_tup (da_cons de_int (da_cons de_int da_nil))) (da_cons (de_tup (da_cons de_int (da_cons de_int da_nil))) (da_cons (de_tup (da_cons de_int (da_cons de_int da_nil))) da_nil)))) da_nil))) da_nil)) nd)
    (dss_cons (ds_if (dt_w (dw_or (dt_cmp (do_ne hr.units) (de_B dc_len T.n_len b_len (da_cons (de_callD c_swaps hr tk (da_cons (dv 4) (da_cons (de_tupRg rfl T.n_tuple (dr_1 rfl T.n_range de_int)) da_nil))) da_nil)) de_int) (dw_or1 (dt_not (dt_val (de_callD c__law_same hr tk (da_cons (de_callD c_swaps hr tk (da_cons (dv 5) (da_cons (de_tup (da_cons de_int (da_cons de_int (da_cons de_int da_nil)))) da_nil))) (da_cons (de_lst da_nil) da_nil)))))))) (dss_one (ds_ret de_bl)) dss_nil)
    (dss_cons (ds_set (i := 3) (de_mkVD (c := "Book") c_Book hr tk (da_cons de_int (da_cons (de_tup (da_cons (de_tup (da_cons de_int (da_cons de_int da_nil))) (da_cons (de_tup (da_cons de_int (da_cons de_int (da_cons de_int da_nil)))) (da_cons (de_tup (da_cons de_int (da_cons de_int da_nil))) da_nil)))) da_nil))) nd)
    (dss_one (ds_ret (de_callD c__law_same hr tk (da_cons (de_lst (da_cons (de_callD c_swaps hr tk (da_cons (dv 3) (da_cons (de_tup (da_cons de_int (da_cons de_int (da_cons de_int da_nil)))) da_nil))) (da_cons (de_callD c_swaps hr tk (da_cons (dv 3) (da_cons (de_tup (da_cons de_int (da_cons de_non (da_cons de_int da_nil)))) da_nil))) (da_cons (de_callD c_swaps hr tk (da_cons (de_mkVD (c := "Book") c_Book hr tk (da_cons de_int (da_cons (de_tup da_nil) da_nil))) (da_cons (de_tup da_nil) da_nil))) da_nil)))) (da_cons (de_lst (da_cons (de_lst (da_cons (de_tup (da_cons de_int (da_cons de_int da_nil))) (da_cons (de_tup (da_cons de_int (da_cons de_int da_nil))) da_nil))) (da_cons (de_lst da_nil) (da_cons (de_lst da_nil) da_nil)))) da_nil))))))))))
end
end DL
end

section
set_option maxRecDepth 100000
set_option maxHeartbeats 4000000
namespace DL
open PySem PySem.Spec L2
theorem xsc_BadBook : FnScope (["self", "what", "at"] : List Str) (["self", "what", "at"] : List Str) (defScope (inClass (top 2) 0)) := ⟨rfl, rfl, rfl, by decide +kernel, rfl, by decide +kernel, by decide +kernel⟩
theorem all_mk {l : PySem.W.OpenLaw} {w : World} {K : PySem.W.Frag} {h : Heap} {mg : Str → Option Value} {fa : Addr} (X : K.In h) (G : h.Ns mainGlobals mg) (hfa : mg "law" = some (.ref fa))
    {C_Book : Addr} {t_c_MOST_PERSONS : Tok} {t_c_MOST_POSTS : Tok} {t_c_MOST_SIZE : Tok} {E_BadBook : Addr} {EI_BadBook EP_BadBook : Addr} {xnm_BadBook xq_BadBook : Str} {xN_BadBook : Addr} {xbs_BadBook : List Value} {xsn_BadBook : List Str} {xsub_BadBook : List Value} {xab_BadBook : Bool} {xcol_BadBook : Option Bool} {xdd_BadBook : Option Addr} {xm0_BadBook xm1_BadBook xm2_BadBook xm3_BadBook xm5_BadBook : Option Value} {xod_BadBook xan_BadBook : Option Addr} {xsl_BadBook : Array (Option Value)} {xoc_BadBook xkV_BadBook xdc_BadBook xpm_BadBook xcd_BadBook xct_BadBook : Value} {E_BadExchange : Addr} {E_BadFilling : Addr} {E_NoBook : Addr} {f_is_integer : Addr} {od_is_integer an_is_integer : Option Addr} {sl_is_integer : Array (Option Value)} {oc_is_integer kV_is_integer dc_is_integer pm_is_integer cd_is_integer ct_is_integer : Value} {f_is_within : Addr} {od_is_within an_is_within : Option Addr} {sl_is_within : Array (Option Value)} {oc_is_within kV_is_within dc_is_within pm_is_within cd_is_within ct_is_within : Value} {f_is_rising : Addr} {od_is_rising an_is_rising : Option Addr} {sl_is_rising : Array (Option Value)} {oc_is_rising kV_is_rising dc_is_rising pm_is_rising cd_is_rising ct_is_rising : Value} {f_init_Book : Addr} {od_init_Book an_init_Book : Option Addr} {sl_init_Book : Array (Option Value)} {oc_init_Book kV_init_Book dc_init_Book pm_init_Book cd_init_Book ct_init_Book : Value} {f_check_book : Addr} {od_check_book an_check_book : Option Addr} {sl_check_book : Array (Option Value)} {oc_check_book kV_check_book dc_check_book pm_check_book cd_check_book ct_check_book : Value} {f_fills : Addr} {od_fills an_fills : Option Addr} {sl_fills : Array (Option Value)} {oc_fills kV_fills dc_fills pm_fills cd_fills ct_fills : Value} {f_is_right : Addr} {od_is_right an_is_right : Option Addr} {sl_is_right : Array (Option Value)} {oc_is_right kV_is_right dc_is_right pm_is_right cd_is_right ct_is_right : Value} {f_check_filling : Addr} {od_check_filling an_check_filling : Option Addr} {sl_check_filling : Array (Option Value)} {oc_check_filling kV_check_filling dc_check_filling pm_check_filling cd_check_filling ct_check_filling : Value} {f_is_form : Addr} {od_is_form an_is_form : Option Addr} {sl_is_form : Array (Option Value)} {oc_is_form kV_is_form dc_is_form pm_is_form cd_is_form ct_is_form : Value} {f_goes : Addr} {od_goes an_goes : Option Addr} {sl_goes : Array (Option Value)} {oc_goes kV_goes dc_goes pm_goes cd_goes ct_goes : Value} {f_swaps_of : Addr} {od_swaps_of an_swaps_of : Option Addr} {sl_swaps_of : Array (Option Value)} {oc_swaps_of kV_swaps_of dc_swaps_of pm_swaps_of cd_swaps_of ct_swaps_of : Value} {f_swaps : Addr} {od_swaps an_swaps : Option Addr} {sl_swaps : Array (Option Value)} {oc_swaps kV_swaps dc_swaps pm_swaps cd_swaps ct_swaps : Value} {f_is_exchange : Addr} {od_is_exchange an_is_exchange : Option Addr} {sl_is_exchange : Array (Option Value)} {oc_is_exchange kV_is_exchange dc_is_exchange pm_is_exchange cd_is_exchange ct_is_exchange : Value} {f_behind : Addr} {od_behind an_behind : Option Addr} {sl_behind : Array (Option Value)} {oc_behind kV_behind dc_behind pm_behind cd_behind ct_behind : Value} {f_exchanged : Addr} {od_exchanged an_exchanged : Option Addr} {sl_exchanged : Array (Option Value)} {oc_exchanged kV_exchanged dc_exchanged pm_exchanged cd_exchanged ct_exchanged : Value} {f__law_hand : Addr} {od__law_hand an__law_hand : Option Addr} {sl__law_hand : Array (Option Value)} {oc__law_hand kV__law_hand dc__law_hand pm__law_hand cd__law_hand ct__law_hand : Value} {f__law_same : Addr} {od__law_same an__law_same : Option Addr} {sl__law_same : Array (Option Value)} {oc__law_same kV__law_same dc__law_same pm__law_same cd__law_same ct__law_same : Value} {f__law_draw : Addr} {od__law_draw an__law_draw : Option Addr} {sl__law_draw : Array (Option Value)} {oc__law_draw kV__law_draw dc__law_draw pm__law_draw cd__law_draw ct__law_draw : Value} {f__law_any : Addr} {od__law_any an__law_any : Option Addr} {sl__law_any : Array (Option Value)} {oc__law_any kV__law_any dc__law_any pm__law_any cd__law_any ct__law_any : Value} {f__law_mixed : Addr} {od__law_mixed an__law_mixed : Option Addr} {sl__law_mixed : Array (Option Value)} {oc__law_mixed kV__law_mixed dc__law_mixed pm__law_mixed cd__law_mixed ct__law_mixed : Value} {f__law_case : Addr} {od__law_case an__law_case : Option Addr} {sl__law_case : Array (Option Value)} {oc__law_case kV__law_case dc__law_case pm__law_case cd__law_case ct__law_case : Value} {f__law_due : Addr} {od__law_due an__law_due : Option Addr} {sl__law_due : Array (Option Value)} {oc__law_due kV__law_due dc__law_due pm__law_due cd__law_due ct__law_due : Value} {f__law_done : Addr} {od__law_done an__law_done : Option Addr} {sl__law_done : Array (Option Value)} {oc__law_done kV__law_done dc__law_done pm__law_done cd__law_done ct__law_done : Value} {f__law_are_listed : Addr} {od__law_are_listed an__law_are_listed : Option Addr} {sl__law_are_listed : Array (Option Value)} {oc__law_are_listed kV__law_are_listed dc__law_are_listed pm__law_are_listed cd__law_are_listed ct__law_are_listed : Value} {f_law : Addr} {od_law an_law : Option Addr} {sl_law : Array (Option Value)} {oc_law kV_law dc_law pm_law cd_law ct_law : Value}
    (a_Book : PySem.W.nsIn K mainGlobals "Book" = some (some (.ref C_Book)))
    (pg_Book : PySem.W.plainGet K C_Book Str.empty = true)
    (hd_Book : PySem.W.hasDictIn K C_Book = true)
    (po_Book : PySem.W.plainOver K C_Book = true)
    (sa_Book : PySem.W.findIn K (.ref C_Book) "__setattr__" = some (some (.builtin "object.__setattr__")))
    (mk_Book : PySem.W.makesIn K C_Book = true)
    (kc_Book : PySem.W.keepIn K (.ref C_Book) = true)
    (no_Book_may : PySem.W.findIn K (.ref C_Book) "may" = some none)
    (no_Book_posts : PySem.W.findIn K (.ref C_Book) "posts" = some none)
    (ha_Book : PySem.W.findIn K (.ref C_Book) "__class__" = some (some (.builtin "object.__class__")))
    (mo_Book : PySem.W.mroIn K C_Book (.type "object") = some true)
    (ko_Book_int : PySem.W.subIn K (.ref C_Book) (.type "int") = some false)
    (ko_Book_bool : PySem.W.subIn K (.ref C_Book) (.type "bool") = some false)
    (ko_Book_tuple : PySem.W.subIn K (.ref C_Book) (.type "tuple") = some false)
    (ko_Book_list : PySem.W.subIn K (.ref C_Book) (.type "list") = some false)
    (ko_Book_str : PySem.W.subIn K (.ref C_Book) (.type "str") = some false)
    (ko_Book_dict : PySem.W.subIn K (.ref C_Book) (.type "dict") = some false)
    (kb_Book_NoneType : PySem.W.subIn K (.type "NoneType") (.ref C_Book) = some false)
    (kb_Book_int : PySem.W.subIn K (.type "int") (.ref C_Book) = some false)
    (kb_Book_bool : PySem.W.subIn K (.type "bool") (.ref C_Book) = some false)
    (kb_Book_tuple : PySem.W.subIn K (.type "tuple") (.ref C_Book) = some false)
    (kb_Book_list : PySem.W.subIn K (.type "list") (.ref C_Book) = some false)
    (kb_Book_str : PySem.W.subIn K (.type "str") (.ref C_Book) = some false)
    (kb_Book_dict : PySem.W.subIn K (.type "dict") (.ref C_Book) = some false)
    (ic_Book : PySem.W.isClsIn K C_Book = true)
    (ty_Book : PySem.W.typeIn K (.ref C_Book) = some (.type "type"))
    (gs_class : PySem.W.specialIn K (.builtin "object.__class__") "__get__" = some (some (.builtin "getset_descriptor.__get__")))
    (tk_class : PySem.W.takesIn K (.builtin "object.__class__") = some true)
    (z_abs : PySem.W.nsIn K mainGlobals "abs" = some none)
    (z_all : PySem.W.nsIn K mainGlobals "all" = some none)
    (z_any : PySem.W.nsIn K mainGlobals "any" = some none)
    (z_bool : PySem.W.nsIn K mainGlobals "bool" = some none)
    (z_enumerate : PySem.W.nsIn K mainGlobals "enumerate" = some none)
    (z_int : PySem.W.nsIn K mainGlobals "int" = some none)
    (z_isinstance : PySem.W.nsIn K mainGlobals "isinstance" = some none)
    (z_len : PySem.W.nsIn K mainGlobals "len" = some none)
    (z_list : PySem.W.nsIn K mainGlobals "list" = some none)
    (z_max : PySem.W.nsIn K mainGlobals "max" = some none)
    (z_min : PySem.W.nsIn K mainGlobals "min" = some none)
    (z_range : PySem.W.nsIn K mainGlobals "range" = some none)
    (z_set : PySem.W.nsIn K mainGlobals "set" = some none)
    (z_sorted : PySem.W.nsIn K mainGlobals "sorted" = some none)
    (z_str : PySem.W.nsIn K mainGlobals "str" = some none)
    (z_tuple : PySem.W.nsIn K mainGlobals "tuple" = some none)
    (z_zip : PySem.W.nsIn K mainGlobals "zip" = some none)
    (v_MOST_PERSONS : PySem.W.nsIn K mainGlobals "MOST_PERSONS" = some (some (.int 12 t_c_MOST_PERSONS)))
    (v_MOST_POSTS : PySem.W.nsIn K mainGlobals "MOST_POSTS" = some (some (.int 12 t_c_MOST_POSTS)))
    (v_MOST_SIZE : PySem.W.nsIn K mainGlobals "MOST_SIZE" = some (some (.int 12 t_c_MOST_SIZE)))
    (e_BadBook : PySem.W.nsIn K mainGlobals "BadBook" = some (some (.ref E_BadBook)))
    (ek_BadBook : PySem.W.keepIn K (.ref E_BadBook) = true)
    (eb_BadBook : PySem.W.subIn K (.ref E_BadBook) (.type "BaseException") = some true)
    (et_BadBook : PySem.W.typeIn K (.ref E_BadBook) = some (.type "type"))
    (xl_BadBook : K.lookup E_BadBook = some (excClassObj xnm_BadBook xq_BadBook E_BadBook xN_BadBook xbs_BadBook [.ref EP_BadBook, .type "ValueError", .type "Exception", .type "BaseException", .type "object"] true xsn_BadBook xsub_BadBook xab_BadBook xcol_BadBook xdd_BadBook xm0_BadBook xm1_BadBook xm2_BadBook xm3_BadBook xm5_BadBook "ValueError.__new__"))
    (es_BadBook : PySem.W.findIn K (.ref E_BadBook) "__setattr__" = some (some (.builtin "object.__setattr__")))
    (ei_BadBook : PySem.W.findIn K (.ref E_BadBook) "__init__" = some (some (.ref EI_BadBook)))
    (ety_BadBook : PySem.W.typeIn K (.ref EI_BadBook) = some (.type "function"))
    (en_BadBook_what : PySem.W.findIn K (.ref E_BadBook) "what" = some none)
    (en_BadBook_at : PySem.W.findIn K (.ref E_BadBook) "at" = some none)
    (el_BadBook : K.lookup EI_BadBook = some ⟨xoc_BadBook, xod_BadBook, .func (PySem.W.fnOf "__init__" "BadBook.__init__" (defArgs (inClass (top 2) 0)) (defBody (inClass (top 2) 0)) (defScope (inClass (top 2) 0)) .none xkV_BadBook xdc_BadBook xpm_BadBook xan_BadBook xcd_BadBook xct_BadBook), xsl_BadBook⟩)
    (ec_BadBook : PySem.W.codeIn K xcd_BadBook "BadBook.__init__" = true)
    (ekk_BadBook : PySem.W.keepIn K (.ref EI_BadBook) = true)
    (e_BadExchange : PySem.W.nsIn K mainGlobals "BadExchange" = some (some (.ref E_BadExchange)))
    (ek_BadExchange : PySem.W.keepIn K (.ref E_BadExchange) = true)
    (eb_BadExchange : PySem.W.subIn K (.ref E_BadExchange) (.type "BaseException") = some true)
    (et_BadExchange : PySem.W.typeIn K (.ref E_BadExchange) = some (.type "type"))
    (ex_BadExchange : PySem.W.excIn K E_BadExchange [.type "ValueError", .type "Exception", .type "BaseException", .type "object"] "ValueError.__new__" = true)
    (e_BadFilling : PySem.W.nsIn K mainGlobals "BadFilling" = some (some (.ref E_BadFilling)))
    (ek_BadFilling : PySem.W.keepIn K (.ref E_BadFilling) = true)
    (eb_BadFilling : PySem.W.subIn K (.ref E_BadFilling) (.type "BaseException") = some true)
    (et_BadFilling : PySem.W.typeIn K (.ref E_BadFilling) = some (.type "type"))
    (ex_BadFilling : PySem.W.excIn K E_BadFilling [.type "ValueError", .type "Exception", .type "BaseException", .type "object"] "ValueError.__new__" = true)
    (e_NoBook : PySem.W.nsIn K mainGlobals "NoBook" = some (some (.ref E_NoBook)))
    (ek_NoBook : PySem.W.keepIn K (.ref E_NoBook) = true)
    (eb_NoBook : PySem.W.subIn K (.ref E_NoBook) (.type "BaseException") = some true)
    (et_NoBook : PySem.W.typeIn K (.ref E_NoBook) = some (.type "type"))
    (ex_NoBook : PySem.W.excIn K E_NoBook [.type "ValueError", .type "Exception", .type "BaseException", .type "object"] "ValueError.__new__" = true)
    (a_is_integer : PySem.W.nsIn K mainGlobals "is_integer" = some (some (.ref f_is_integer)))
    (l_is_integer : K.lookup f_is_integer = some ⟨oc_is_integer, od_is_integer, .func (PySem.W.fnOf "is_integer" "is_integer" (defArgs s_is_integer) (defBody s_is_integer) (defScope s_is_integer) .none kV_is_integer dc_is_integer pm_is_integer an_is_integer cd_is_integer ct_is_integer), sl_is_integer⟩)
    (c_is_integer : PySem.W.codeIn K cd_is_integer "is_integer" = true)
    (k_is_integer : PySem.W.keepIn K (.ref f_is_integer) = true)
    (a_is_within : PySem.W.nsIn K mainGlobals "is_within" = some (some (.ref f_is_within)))
    (l_is_within : K.lookup f_is_within = some ⟨oc_is_within, od_is_within, .func (PySem.W.fnOf "is_within" "is_within" (defArgs s_is_within) (defBody s_is_within) (defScope s_is_within) .none kV_is_within dc_is_within pm_is_within an_is_within cd_is_within ct_is_within), sl_is_within⟩)
    (c_is_within : PySem.W.codeIn K cd_is_within "is_within" = true)
    (k_is_within : PySem.W.keepIn K (.ref f_is_within) = true)
    (a_is_rising : PySem.W.nsIn K mainGlobals "is_rising" = some (some (.ref f_is_rising)))
    (l_is_rising : K.lookup f_is_rising = some ⟨oc_is_rising, od_is_rising, .func (PySem.W.fnOf "is_rising" "is_rising" (defArgs s_is_rising) (defBody s_is_rising) (defScope s_is_rising) .none kV_is_rising dc_is_rising pm_is_rising an_is_rising cd_is_rising ct_is_rising), sl_is_rising⟩)
    (c_is_rising : PySem.W.codeIn K cd_is_rising "is_rising" = true)
    (k_is_rising : PySem.W.keepIn K (.ref f_is_rising) = true)
    (a_init_Book : PySem.W.findIn K (.ref C_Book) "__init__" = some (some (.ref f_init_Book)))
    (i_init_Book : PySem.W.isFn K (.ref f_init_Book) = true)
    (l_init_Book : K.lookup f_init_Book = some ⟨oc_init_Book, od_init_Book, .func (PySem.W.fnOf "__init__" "Book.__init__" (defArgs s_init_Book) (defBody s_init_Book) (defScope s_init_Book) .none kV_init_Book dc_init_Book pm_init_Book an_init_Book cd_init_Book ct_init_Book), sl_init_Book⟩)
    (c_init_Book : PySem.W.codeIn K cd_init_Book "Book.__init__" = true)
    (k_init_Book : PySem.W.keepIn K (.ref f_init_Book) = true)
    (a_check_book : PySem.W.nsIn K mainGlobals "check_book" = some (some (.ref f_check_book)))
    (l_check_book : K.lookup f_check_book = some ⟨oc_check_book, od_check_book, .func (PySem.W.fnOf "check_book" "check_book" (defArgs s_check_book) (defBody s_check_book) (defScope s_check_book) .none kV_check_book dc_check_book pm_check_book an_check_book cd_check_book ct_check_book), sl_check_book⟩)
    (c_check_book : PySem.W.codeIn K cd_check_book "check_book" = true)
    (k_check_book : PySem.W.keepIn K (.ref f_check_book) = true)
    (a_fills : PySem.W.nsIn K mainGlobals "fills" = some (some (.ref f_fills)))
    (l_fills : K.lookup f_fills = some ⟨oc_fills, od_fills, .func (PySem.W.fnOf "fills" "fills" (defArgs s_fills) (defBody s_fills) (defScope s_fills) .none kV_fills dc_fills pm_fills an_fills cd_fills ct_fills), sl_fills⟩)
    (c_fills : PySem.W.codeIn K cd_fills "fills" = true)
    (k_fills : PySem.W.keepIn K (.ref f_fills) = true)
    (a_is_right : PySem.W.nsIn K mainGlobals "is_right" = some (some (.ref f_is_right)))
    (l_is_right : K.lookup f_is_right = some ⟨oc_is_right, od_is_right, .func (PySem.W.fnOf "is_right" "is_right" (defArgs s_is_right) (defBody s_is_right) (defScope s_is_right) .none kV_is_right dc_is_right pm_is_right an_is_right cd_is_right ct_is_right), sl_is_right⟩)
    (c_is_right : PySem.W.codeIn K cd_is_right "is_right" = true)
    (k_is_right : PySem.W.keepIn K (.ref f_is_right) = true)
    (a_check_filling : PySem.W.nsIn K mainGlobals "check_filling" = some (some (.ref f_check_filling)))
    (l_check_filling : K.lookup f_check_filling = some ⟨oc_check_filling, od_check_filling, .func (PySem.W.fnOf "check_filling" "check_filling" (defArgs s_check_filling) (defBody s_check_filling) (defScope s_check_filling) .none kV_check_filling dc_check_filling pm_check_filling an_check_filling cd_check_filling ct_check_filling), sl_check_filling⟩)
    (c_check_filling : PySem.W.codeIn K cd_check_filling "check_filling" = true)
    (k_check_filling : PySem.W.keepIn K (.ref f_check_filling) = true)
    (a_is_form : PySem.W.nsIn K mainGlobals "is_form" = some (some (.ref f_is_form)))
    (l_is_form : K.lookup f_is_form = some ⟨oc_is_form, od_is_form, .func (PySem.W.fnOf "is_form" "is_form" (defArgs s_is_form) (defBody s_is_form) (defScope s_is_form) .none kV_is_form dc_is_form pm_is_form an_is_form cd_is_form ct_is_form), sl_is_form⟩)
    (c_is_form : PySem.W.codeIn K cd_is_form "is_form" = true)
    (k_is_form : PySem.W.keepIn K (.ref f_is_form) = true)
    (a_goes : PySem.W.nsIn K mainGlobals "goes" = some (some (.ref f_goes)))
    (l_goes : K.lookup f_goes = some ⟨oc_goes, od_goes, .func (PySem.W.fnOf "goes" "goes" (defArgs s_goes) (defBody s_goes) (defScope s_goes) .none kV_goes dc_goes pm_goes an_goes cd_goes ct_goes), sl_goes⟩)
    (c_goes : PySem.W.codeIn K cd_goes "goes" = true)
    (k_goes : PySem.W.keepIn K (.ref f_goes) = true)
    (a_swaps_of : PySem.W.nsIn K mainGlobals "swaps_of" = some (some (.ref f_swaps_of)))
    (l_swaps_of : K.lookup f_swaps_of = some ⟨oc_swaps_of, od_swaps_of, .func (PySem.W.fnOf "swaps_of" "swaps_of" (defArgs s_swaps_of) (defBody s_swaps_of) (defScope s_swaps_of) .none kV_swaps_of dc_swaps_of pm_swaps_of an_swaps_of cd_swaps_of ct_swaps_of), sl_swaps_of⟩)
    (c_swaps_of : PySem.W.codeIn K cd_swaps_of "swaps_of" = true)
    (k_swaps_of : PySem.W.keepIn K (.ref f_swaps_of) = true)
    (a_swaps : PySem.W.nsIn K mainGlobals "swaps" = some (some (.ref f_swaps)))
    (l_swaps : K.lookup f_swaps = some ⟨oc_swaps, od_swaps, .func (PySem.W.fnOf "swaps" "swaps" (defArgs s_swaps) (defBody s_swaps) (defScope s_swaps) .none kV_swaps dc_swaps pm_swaps an_swaps cd_swaps ct_swaps), sl_swaps⟩)
    (c_swaps : PySem.W.codeIn K cd_swaps "swaps" = true)
    (k_swaps : PySem.W.keepIn K (.ref f_swaps) = true)
    (a_is_exchange : PySem.W.nsIn K mainGlobals "is_exchange" = some (some (.ref f_is_exchange)))
    (l_is_exchange : K.lookup f_is_exchange = some ⟨oc_is_exchange, od_is_exchange, .func (PySem.W.fnOf "is_exchange" "is_exchange" (defArgs s_is_exchange) (defBody s_is_exchange) (defScope s_is_exchange) .none kV_is_exchange dc_is_exchange pm_is_exchange an_is_exchange cd_is_exchange ct_is_exchange), sl_is_exchange⟩)
    (c_is_exchange : PySem.W.codeIn K cd_is_exchange "is_exchange" = true)
    (k_is_exchange : PySem.W.keepIn K (.ref f_is_exchange) = true)
    (a_behind : PySem.W.nsIn K mainGlobals "behind" = some (some (.ref f_behind)))
    (l_behind : K.lookup f_behind = some ⟨oc_behind, od_behind, .func (PySem.W.fnOf "behind" "behind" (defArgs s_behind) (defBody s_behind) (defScope s_behind) .none kV_behind dc_behind pm_behind an_behind cd_behind ct_behind), sl_behind⟩)
    (c_behind : PySem.W.codeIn K cd_behind "behind" = true)
    (k_behind : PySem.W.keepIn K (.ref f_behind) = true)
    (a_exchanged : PySem.W.nsIn K mainGlobals "exchanged" = some (some (.ref f_exchanged)))
    (l_exchanged : K.lookup f_exchanged = some ⟨oc_exchanged, od_exchanged, .func (PySem.W.fnOf "exchanged" "exchanged" (defArgs s_exchanged) (defBody s_exchanged) (defScope s_exchanged) .none kV_exchanged dc_exchanged pm_exchanged an_exchanged cd_exchanged ct_exchanged), sl_exchanged⟩)
    (c_exchanged : PySem.W.codeIn K cd_exchanged "exchanged" = true)
    (k_exchanged : PySem.W.keepIn K (.ref f_exchanged) = true)
    (a__law_hand : PySem.W.nsIn K mainGlobals "_law_hand" = some (some (.ref f__law_hand)))
    (l__law_hand : K.lookup f__law_hand = some ⟨oc__law_hand, od__law_hand, .func (PySem.W.fnOf "_law_hand" "_law_hand" (defArgs s__law_hand) (defBody s__law_hand) (defScope s__law_hand) .none kV__law_hand dc__law_hand pm__law_hand an__law_hand cd__law_hand ct__law_hand), sl__law_hand⟩)
    (c__law_hand : PySem.W.codeIn K cd__law_hand "_law_hand" = true)
    (k__law_hand : PySem.W.keepIn K (.ref f__law_hand) = true)
    (a__law_same : PySem.W.nsIn K mainGlobals "_law_same" = some (some (.ref f__law_same)))
    (l__law_same : K.lookup f__law_same = some ⟨oc__law_same, od__law_same, .func (PySem.W.fnOf "_law_same" "_law_same" (defArgs s__law_same) (defBody s__law_same) (defScope s__law_same) .none kV__law_same dc__law_same pm__law_same an__law_same cd__law_same ct__law_same), sl__law_same⟩)
    (c__law_same : PySem.W.codeIn K cd__law_same "_law_same" = true)
    (k__law_same : PySem.W.keepIn K (.ref f__law_same) = true)
    (a__law_draw : PySem.W.nsIn K mainGlobals "_law_draw" = some (some (.ref f__law_draw)))
    (l__law_draw : K.lookup f__law_draw = some ⟨oc__law_draw, od__law_draw, .func (PySem.W.fnOf "_law_draw" "_law_draw" (defArgs s__law_draw) (defBody s__law_draw) (defScope s__law_draw) .none kV__law_draw dc__law_draw pm__law_draw an__law_draw cd__law_draw ct__law_draw), sl__law_draw⟩)
    (c__law_draw : PySem.W.codeIn K cd__law_draw "_law_draw" = true)
    (k__law_draw : PySem.W.keepIn K (.ref f__law_draw) = true)
    (a__law_any : PySem.W.nsIn K mainGlobals "_law_any" = some (some (.ref f__law_any)))
    (l__law_any : K.lookup f__law_any = some ⟨oc__law_any, od__law_any, .func (PySem.W.fnOf "_law_any" "_law_any" (defArgs s__law_any) (defBody s__law_any) (defScope s__law_any) .none kV__law_any dc__law_any pm__law_any an__law_any cd__law_any ct__law_any), sl__law_any⟩)
    (c__law_any : PySem.W.codeIn K cd__law_any "_law_any" = true)
    (k__law_any : PySem.W.keepIn K (.ref f__law_any) = true)
    (a__law_mixed : PySem.W.nsIn K mainGlobals "_law_mixed" = some (some (.ref f__law_mixed)))
    (l__law_mixed : K.lookup f__law_mixed = some ⟨oc__law_mixed, od__law_mixed, .func (PySem.W.fnOf "_law_mixed" "_law_mixed" (defArgs s__law_mixed) (defBody s__law_mixed) (defScope s__law_mixed) .none kV__law_mixed dc__law_mixed pm__law_mixed an__law_mixed cd__law_mixed ct__law_mixed), sl__law_mixed⟩)
    (c__law_mixed : PySem.W.codeIn K cd__law_mixed "_law_mixed" = true)
    (k__law_mixed : PySem.W.keepIn K (.ref f__law_mixed) = true)
    (a__law_case : PySem.W.nsIn K mainGlobals "_law_case" = some (some (.ref f__law_case)))
    (l__law_case : K.lookup f__law_case = some ⟨oc__law_case, od__law_case, .func (PySem.W.fnOf "_law_case" "_law_case" (defArgs s__law_case) (defBody s__law_case) (defScope s__law_case) .none kV__law_case dc__law_case pm__law_case an__law_case cd__law_case ct__law_case), sl__law_case⟩)
    (c__law_case : PySem.W.codeIn K cd__law_case "_law_case" = true)
    (k__law_case : PySem.W.keepIn K (.ref f__law_case) = true)
    (a__law_due : PySem.W.nsIn K mainGlobals "_law_due" = some (some (.ref f__law_due)))
    (l__law_due : K.lookup f__law_due = some ⟨oc__law_due, od__law_due, .func (PySem.W.fnOf "_law_due" "_law_due" (defArgs s__law_due) (defBody s__law_due) (defScope s__law_due) .none kV__law_due dc__law_due pm__law_due an__law_due cd__law_due ct__law_due), sl__law_due⟩)
    (c__law_due : PySem.W.codeIn K cd__law_due "_law_due" = true)
    (k__law_due : PySem.W.keepIn K (.ref f__law_due) = true)
    (a__law_done : PySem.W.nsIn K mainGlobals "_law_done" = some (some (.ref f__law_done)))
    (l__law_done : K.lookup f__law_done = some ⟨oc__law_done, od__law_done, .func (PySem.W.fnOf "_law_done" "_law_done" (defArgs s__law_done) (defBody s__law_done) (defScope s__law_done) .none kV__law_done dc__law_done pm__law_done an__law_done cd__law_done ct__law_done), sl__law_done⟩)
    (c__law_done : PySem.W.codeIn K cd__law_done "_law_done" = true)
    (k__law_done : PySem.W.keepIn K (.ref f__law_done) = true)
    (a__law_are_listed : PySem.W.nsIn K mainGlobals "_law_are_listed" = some (some (.ref f__law_are_listed)))
    (l__law_are_listed : K.lookup f__law_are_listed = some ⟨oc__law_are_listed, od__law_are_listed, .func (PySem.W.fnOf "_law_are_listed" "_law_are_listed" (defArgs s__law_are_listed) (defBody s__law_are_listed) (defScope s__law_are_listed) .none kV__law_are_listed dc__law_are_listed pm__law_are_listed an__law_are_listed cd__law_are_listed ct__law_are_listed), sl__law_are_listed⟩)
    (c__law_are_listed : PySem.W.codeIn K cd__law_are_listed "_law_are_listed" = true)
    (k__law_are_listed : PySem.W.keepIn K (.ref f__law_are_listed) = true)
    (a_law : PySem.W.nsIn K mainGlobals "law" = some (some (.ref f_law)))
    (l_law : K.lookup f_law = some ⟨oc_law, od_law, .func (PySem.W.fnOf "law" "law" (defArgs s_law) (defBody s_law) (defScope s_law) .none kV_law dc_law pm_law an_law cd_law ct_law), sl_law⟩)
    (c_law : PySem.W.codeIn K cd_law "law" = true)
    (k_law : PySem.W.keepIn K (.ref f_law) = true)
    : ∃ fd : FuncData, (∀ (s : Shared) (v : Value), BindsTo s fd ⟨[v], []⟩ [("script", v)]) ∧ ∀ base : Heap, K.In base → base.Ns mainGlobals mg → FnOk l.prog w K mg base (L2.CX l.prog w) 8 fa fd ["script"] (spLaw K) := by
  have e := hfa.symm.trans (PySem.W.mg_of X G a_law)
  cases e
  have g_Book : mg (Str.ofString "Book") = some (.ref C_Book) := PySem.W.mg_of X G a_Book
  have cl_Book : Cls K C_Book := ⟨pg_Book, hd_Book, po_Book, sa_Book⟩
  have XF_BadBook := fun_mk (st := inClass (top 2) 0) el_BadBook ec_BadBook ekk_BadBook
  have xb_BadBook := XF_BadBook.binds (ps := (["self", "what", "at"] : List Str)) fun _ _ _ _ _ _ us hl => match us, hl with | [_, _, _], _ => rfl
  have F_is_integer := fun_mk (st := s_is_integer) l_is_integer c_is_integer k_is_integer
  have b_is_integer := F_is_integer.binds (ps := (["thing"] : List Str)) fun _ _ _ _ _ _ us hl => match us, hl with | [_], _ => rfl
  have F_is_within := fun_mk (st := s_is_within) l_is_within c_is_within k_is_within
  have b_is_within := F_is_within.binds (ps := (["thing", "low", "high"] : List Str)) fun _ _ _ _ _ _ us hl => match us, hl with | [_, _, _], _ => rfl
  have F_is_rising := fun_mk (st := s_is_rising) l_is_rising c_is_rising k_is_rising
  have b_is_rising := F_is_rising.binds (ps := (["thing", "many"] : List Str)) fun _ _ _ _ _ _ us hl => match us, hl with | [_, _], _ => rfl
  have F_init_Book := fun_mk (st := s_init_Book) l_init_Book c_init_Book k_init_Book
  have b_init_Book := F_init_Book.binds (ps := (["self", "posts", "may"] : List Str)) fun _ _ _ _ _ _ us hl => match us, hl with | [_, _, _], _ => rfl
  have F_check_book := fun_mk (st := s_check_book) l_check_book c_check_book k_check_book
  have b_check_book := F_check_book.binds (ps := (["book"] : List Str)) fun _ _ _ _ _ _ us hl => match us, hl with | [_], _ => rfl
  have F_fills := fun_mk (st := s_fills) l_fills c_fills k_fills
  have b_fills := F_fills.binds (ps := (["book", "person", "post"] : List Str)) fun _ _ _ _ _ _ us hl => match us, hl with | [_, _, _], _ => rfl
  have F_is_right := fun_mk (st := s_is_right) l_is_right c_is_right k_is_right
  have b_is_right := F_is_right.binds (ps := (["book", "thing"] : List Str)) fun _ _ _ _ _ _ us hl => match us, hl with | [_, _], _ => rfl
  have F_check_filling := fun_mk (st := s_check_filling) l_check_filling c_check_filling k_check_filling
  have b_check_filling := F_check_filling.binds (ps := (["book", "filling"] : List Str)) fun _ _ _ _ _ _ us hl => match us, hl with | [_, _], _ => rfl
  have F_is_form := fun_mk (st := s_is_form) l_is_form c_is_form k_is_form
  have b_is_form := F_is_form.binds (ps := (["book", "thing"] : List Str)) fun _ _ _ _ _ _ us hl => match us, hl with | [_, _], _ => rfl
  have F_goes := fun_mk (st := s_goes) l_goes c_goes k_goes
  have b_goes := F_goes.binds (ps := (["book", "filling", "thing"] : List Str)) fun _ _ _ _ _ _ us hl => match us, hl with | [_, _, _], _ => rfl
  have F_swaps_of := fun_mk (st := s_swaps_of) l_swaps_of c_swaps_of k_swaps_of
  have b_swaps_of := F_swaps_of.binds (ps := (["book", "filling"] : List Str)) fun _ _ _ _ _ _ us hl => match us, hl with | [_, _], _ => rfl
  have F_swaps := fun_mk (st := s_swaps) l_swaps c_swaps k_swaps
  have b_swaps := F_swaps.binds (ps := (["book", "filling"] : List Str)) fun _ _ _ _ _ _ us hl => match us, hl with | [_, _], _ => rfl
  have F_is_exchange := fun_mk (st := s_is_exchange) l_is_exchange c_is_exchange k_is_exchange
  have b_is_exchange := F_is_exchange.binds (ps := (["book", "filling", "thing"] : List Str)) fun _ _ _ _ _ _ us hl => match us, hl with | [_, _, _], _ => rfl
  have F_behind := fun_mk (st := s_behind) l_behind c_behind k_behind
  have b_behind := F_behind.binds (ps := (["filling", "exchange"] : List Str)) fun _ _ _ _ _ _ us hl => match us, hl with | [_, _], _ => rfl
  have F_exchanged := fun_mk (st := s_exchanged) l_exchanged c_exchanged k_exchanged
  have b_exchanged := F_exchanged.binds (ps := (["book", "filling", "exchange"] : List Str)) fun _ _ _ _ _ _ us hl => match us, hl with | [_, _, _], _ => rfl
  have F__law_hand := fun_mk (st := s__law_hand) l__law_hand c__law_hand k__law_hand
  have b__law_hand := F__law_hand.binds (ps := (["script"] : List Str)) fun _ _ _ _ _ _ us hl => match us, hl with | [_], _ => rfl
  have F__law_same := fun_mk (st := s__law_same) l__law_same c__law_same k__law_same
  have b__law_same := F__law_same.binds (ps := (["one", "due"] : List Str)) fun _ _ _ _ _ _ us hl => match us, hl with | [_, _], _ => rfl
  have F__law_draw := fun_mk (st := s__law_draw) l__law_draw c__law_draw k__law_draw
  have b__law_draw := F__law_draw.binds (ps := (["hand", "many"] : List Str)) fun _ _ _ _ _ _ us hl => match us, hl with | [_, _], _ => rfl
  have F__law_any := fun_mk (st := s__law_any) l__law_any c__law_any k__law_any
  have b__law_any := F__law_any.binds (ps := (["hand", "some"] : List Str)) fun _ _ _ _ _ _ us hl => match us, hl with | [_, _], _ => rfl
  have F__law_mixed := fun_mk (st := s__law_mixed) l__law_mixed c__law_mixed k__law_mixed
  have b__law_mixed := F__law_mixed.binds (ps := (["hand", "some"] : List Str)) fun _ _ _ _ _ _ us hl => match us, hl with | [_, _], _ => rfl
  have F__law_case := fun_mk (st := s__law_case) l__law_case c__law_case k__law_case
  have b__law_case := F__law_case.binds (ps := (["hand", "top"] : List Str)) fun _ _ _ _ _ _ us hl => match us, hl with | [_, _], _ => rfl
  have F__law_due := fun_mk (st := s__law_due) l__law_due c__law_due k__law_due
  have b__law_due := F__law_due.binds (ps := (["may", "filling"] : List Str)) fun _ _ _ _ _ _ us hl => match us, hl with | [_, _], _ => rfl
  have F__law_done := fun_mk (st := s__law_done) l__law_done c__law_done k__law_done
  have b__law_done := F__law_done.binds (ps := (["filling", "exchange"] : List Str)) fun _ _ _ _ _ _ us hl => match us, hl with | [_, _], _ => rfl
  have F__law_are_listed := fun_mk (st := s__law_are_listed) l__law_are_listed c__law_are_listed k__law_are_listed
  have b__law_are_listed := F__law_are_listed.binds (ps := (["hand", "posts", "may", "filling"] : List Str)) fun _ _ _ _ _ _ us hl => match us, hl with | [_, _, _, _], _ => rfl
  have F_law := fun_mk (st := s_law) l_law c_law k_law
  have T : Txt K mg := { own := ownT1 g_Book cl_Book ha_Book mo_Book gs_class tk_class ic_Book ty_Book ko_Book_int ko_Book_bool ko_Book_tuple ko_Book_list ko_Book_str ko_Book_dict kb_Book_NoneType kb_Book_int kb_Book_bool kb_Book_tuple kb_Book_list kb_Book_str kb_Book_dict, n_abs := PySem.W.mg_none_of X G z_abs, n_all := PySem.W.mg_none_of X G z_all, n_any := PySem.W.mg_none_of X G z_any, n_bool := PySem.W.mg_none_of X G z_bool, n_enumerate := PySem.W.mg_none_of X G z_enumerate, n_int := PySem.W.mg_none_of X G z_int, n_isinstance := PySem.W.mg_none_of X G z_isinstance, n_len := PySem.W.mg_none_of X G z_len, n_list := PySem.W.mg_none_of X G z_list, n_max := PySem.W.mg_none_of X G z_max, n_min := PySem.W.mg_none_of X G z_min, n_range := PySem.W.mg_none_of X G z_range, n_set := PySem.W.mg_none_of X G z_set, n_sorted := PySem.W.mg_none_of X G z_sorted, n_str := PySem.W.mg_none_of X G z_str, n_tuple := PySem.W.mg_none_of X G z_tuple, n_zip := PySem.W.mg_none_of X G z_zip, c_MOST_PERSONS := ⟨_, PySem.W.mg_of X G v_MOST_PERSONS⟩, c_MOST_POSTS := ⟨_, PySem.W.mg_of X G v_MOST_POSTS⟩, c_MOST_SIZE := ⟨_, PySem.W.mg_of X G v_MOST_SIZE⟩, g_Book := ⟨_, g_Book⟩, f_may := mem1 (fldT g_Book cl_Book no_Book_may), f_posts := mem1 (fldT g_Book cl_Book no_Book_posts), x_BadExchange := ⟨E_BadExchange, PySem.W.mg_of X G e_BadExchange, ex_BadExchange, ek_BadExchange, eb_BadExchange, et_BadExchange⟩, x_BadFilling := ⟨E_BadFilling, PySem.W.mg_of X G e_BadFilling, ex_BadFilling, ek_BadFilling, eb_BadFilling, et_BadFilling⟩, x_NoBook := ⟨E_NoBook, PySem.W.mg_of X G e_NoBook, ex_NoBook, ek_NoBook, eb_NoBook, et_NoBook⟩ }
  refine ⟨PySem.W.fnOf "law" "law" (defArgs s_law) (defBody s_law) (defScope s_law) .none kV_law dc_law pm_law an_law cd_law ct_law, fun s v => .of_eq rfl, fun base _ _ => ?_⟩
  · skip
    have c_x_BadBook : Xc2 l.prog w K mg base "BadBook" "what" "at" := ⟨E_BadBook, EI_BadBook, _, (["self", "what", "at"] : List Str), ⟨PySem.W.mg_of X G e_BadBook, ⟨⟨_, _, _, _, _, _, _, _, _, _, _, _, _, _, _, xl_BadBook, by rfl⟩, es_BadBook, eb_BadBook, et_BadBook, ek_BadBook⟩, ei_BadBook, ety_BadBook, fun f hf => by simp only [List.mem_cons, List.not_mem_nil, or_false] at hf; rcases hf with rfl | rfl <;> assumption⟩, ok_x2 XF_BadBook xsc_BadBook rfl (fun cdv A outer s H E => pss_cons (ps_ost (pv 0) (pv 1)) (pss_one (ps_ost (pv 0) (pv 2)))), xb_BadBook⟩
    have d_is_integer : Def l.prog w K mg base 1 "is_integer" (["thing"] : List Str) sp_is_integer := (ok_is_integer (base := base) F_is_integer (PySem.W.mg_of X G a_is_integer) b_is_integer T ).imp (fun ds h Q E _ z => pl_is_integer ds h Q E z)
    have d_is_within : Def l.prog w K mg base 2 "is_within" (["thing", "low", "high"] : List Str) sp_is_within := (ok_is_within (base := base) F_is_within (PySem.W.mg_of X G a_is_within) b_is_within T d_is_integer).imp (fun ds h Q E _ z => pl_is_within ds h Q E z)
    have d_is_rising : Def l.prog w K mg base 3 "is_rising" (["thing", "many"] : List Str) sp_is_rising := (ok_is_rising (base := base) F_is_rising (PySem.W.mg_of X G a_is_rising) b_is_rising T d_is_within).imp (fun ds h Q E _ z => pl_is_rising ds h Q E z)
    have d_init_Book : Ctor l.prog w K mg base 4 "Book" (["self", "posts", "may"] : List Str) sp_init_Book := (ok_init_Book (base := base) F_init_Book g_Book ⟨mk_Book, a_init_Book, i_init_Book, kc_Book⟩ b_init_Book T d_is_within d_is_rising c_x_BadBook).imp (fun ds h Q E _ z => pl_init_Book ds h Q E z)
    have d_check_book : Def l.prog w K mg base 3 "check_book" (["book"] : List Str) sp_check_book := (ok_check_book (base := base) F_check_book (PySem.W.mg_of X G a_check_book) b_check_book T ).imp (fun ds h Q E _ z => pl_check_book ds h Q E z)
    have d_fills : Def l.prog w K mg base 2 "fills" (["book", "person", "post"] : List Str) sp_fills := (ok_fills (base := base) F_fills (PySem.W.mg_of X G a_fills) b_fills T d_is_integer).imp (fun ds h Q E _ z => pl_fills ds h Q E z)
    have d_is_right : Def l.prog w K mg base 3 "is_right" (["book", "thing"] : List Str) sp_is_right := (ok_is_right (base := base) F_is_right (PySem.W.mg_of X G a_is_right) b_is_right T d_fills).imp (fun ds h Q E _ z => pl_is_right ds h Q E z)
    have d_check_filling : Def l.prog w K mg base 4 "check_filling" (["book", "filling"] : List Str) sp_check_filling := (ok_check_filling (base := base) F_check_filling (PySem.W.mg_of X G a_check_filling) b_check_filling T d_check_book d_is_right).imp (fun ds h Q E _ z => pl_check_filling ds h Q E z)
    have d_is_form : Def l.prog w K mg base 3 "is_form" (["book", "thing"] : List Str) sp_is_form := (ok_is_form (base := base) F_is_form (PySem.W.mg_of X G a_is_form) b_is_form T d_is_within).imp (fun ds h Q E _ z => pl_is_form ds h Q E z)
    have d_goes : Def l.prog w K mg base 4 "goes" (["book", "filling", "thing"] : List Str) sp_goes := (ok_goes (base := base) F_goes (PySem.W.mg_of X G a_goes) b_goes T d_is_form).imp (fun ds h Q E _ z => pl_goes ds h Q E z)
    have d_swaps_of : Def l.prog w K mg base 5 "swaps_of" (["book", "filling"] : List Str) sp_swaps_of := (ok_swaps_of (base := base) F_swaps_of (PySem.W.mg_of X G a_swaps_of) b_swaps_of T d_goes).popWR.imp (fun ds h Q E _ z => pl_swaps_of ds h Q E z)
    have d_swaps : Def l.prog w K mg base 6 "swaps" (["book", "filling"] : List Str) sp_swaps := (ok_swaps (base := base) F_swaps (PySem.W.mg_of X G a_swaps) b_swaps T d_check_filling d_swaps_of).imp (fun ds h Q E _ z => pl_swaps ds h Q E z)
    have d_is_exchange : Def l.prog w K mg base 5 "is_exchange" (["book", "filling", "thing"] : List Str) sp_is_exchange := (ok_is_exchange (base := base) F_is_exchange (PySem.W.mg_of X G a_is_exchange) b_is_exchange T d_check_filling d_goes).imp (fun ds h Q E _ z => pl_is_exchange ds h Q E z)
    have d_behind : Def l.prog w K mg base 1 "behind" (["filling", "exchange"] : List Str) sp_behind := (ok_behind (base := base) F_behind (PySem.W.mg_of X G a_behind) b_behind T ).popW.imp (fun ds h Q E _ z => pl_behind ds h Q E z)
    have d_exchanged : Def l.prog w K mg base 5 "exchanged" (["book", "filling", "exchange"] : List Str) sp_exchanged := (ok_exchanged (base := base) F_exchanged (PySem.W.mg_of X G a_exchanged) b_exchanged T d_check_filling d_goes d_behind).imp (fun ds h Q E _ z => pl_exchanged ds h Q E z)
    have d__law_hand : Def l.prog w K mg base 1 "_law_hand" (["script"] : List Str) sp__law_hand := (ok__law_hand (base := base) F__law_hand (PySem.W.mg_of X G a__law_hand) b__law_hand T ).imp (fun ds h Q E _ z => pl__law_hand ds h Q E z)
    have r0__law_same : Def l.prog w K mg base 0 "_law_same" (["one", "due"] : List Str) (sp__law_sameN 0) := (Def.zero 0 F__law_same (PySem.W.mg_of X G a__law_same) b__law_same).imp fun _ _ _ _ _ z => sp__law_same_zero z
    have r1__law_same : Def l.prog w K mg base 1 "_law_same" (["one", "due"] : List Str) (sp__law_sameN 1) := (ok__law_same (k := 0) (base := base) F__law_same (PySem.W.mg_of X G a__law_same) b__law_same T  r0__law_same).imp (fun ds h Q E _ z => pl__law_same 0 ds h Q E z)
    have r2__law_same : Def l.prog w K mg base 2 "_law_same" (["one", "due"] : List Str) (sp__law_sameN 2) := (ok__law_same (k := 1) (base := base) F__law_same (PySem.W.mg_of X G a__law_same) b__law_same T  r1__law_same).imp (fun ds h Q E _ z => pl__law_same 1 ds h Q E z)
    have r3__law_same : Def l.prog w K mg base 3 "_law_same" (["one", "due"] : List Str) (sp__law_sameN 3) := (ok__law_same (k := 2) (base := base) F__law_same (PySem.W.mg_of X G a__law_same) b__law_same T  r2__law_same).imp (fun ds h Q E _ z => pl__law_same 2 ds h Q E z)
    have r4__law_same : Def l.prog w K mg base 4 "_law_same" (["one", "due"] : List Str) (sp__law_sameN 4) := (ok__law_same (k := 3) (base := base) F__law_same (PySem.W.mg_of X G a__law_same) b__law_same T  r3__law_same).imp (fun ds h Q E _ z => pl__law_same 3 ds h Q E z)
    have r5__law_same : Def l.prog w K mg base 5 "_law_same" (["one", "due"] : List Str) (sp__law_sameN 5) := (ok__law_same (k := 4) (base := base) F__law_same (PySem.W.mg_of X G a__law_same) b__law_same T  r4__law_same).imp (fun ds h Q E _ z => pl__law_same 4 ds h Q E z)
    have r6__law_same : Def l.prog w K mg base 6 "_law_same" (["one", "due"] : List Str) (sp__law_sameN 6) := (ok__law_same (k := 5) (base := base) F__law_same (PySem.W.mg_of X G a__law_same) b__law_same T  r5__law_same).imp (fun ds h Q E _ z => pl__law_same 5 ds h Q E z)
    have d__law_same : Def l.prog w K mg base 6 "_law_same" (["one", "due"] : List Str) sp__law_same := r6__law_same
    have d__law_draw : Def l.prog w K mg base 1 "_law_draw" (["hand", "many"] : List Str) sp__law_draw := (ok__law_draw (base := base) F__law_draw (PySem.W.mg_of X G a__law_draw) b__law_draw T ).imp (fun ds h Q E _ z => pl__law_draw ds h Q E z)
    have d__law_any : Def l.prog w K mg base 2 "_law_any" (["hand", "some"] : List Str) sp__law_any := (ok__law_any (base := base) F__law_any (PySem.W.mg_of X G a__law_any) b__law_any T d__law_draw).imp (fun ds h Q E _ z => pl__law_any ds h Q E z)
    have d__law_mixed : Def l.prog w K mg base 2 "_law_mixed" (["hand", "some"] : List Str) sp__law_mixed := (ok__law_mixed (base := base) F__law_mixed (PySem.W.mg_of X G a__law_mixed) b__law_mixed T d__law_draw).popWR.imp (fun ds h Q E _ z => pl__law_mixed ds h Q E z)
    have d__law_case : Def l.prog w K mg base 3 "_law_case" (["hand", "top"] : List Str) sp__law_case := (ok__law_case (base := base) F__law_case (PySem.W.mg_of X G a__law_case) b__law_case T d__law_draw d__law_mixed d__law_any).popW.imp (fun ds h Q E _ z => pl__law_case ds h Q E z)
    have d__law_due : Def l.prog w K mg base 1 "_law_due" (["may", "filling"] : List Str) sp__law_due := (ok__law_due (base := base) F__law_due (PySem.W.mg_of X G a__law_due) b__law_due T ).popWR.imp (fun ds h Q E _ z => pl__law_due ds h Q E z)
    have d__law_done : Def l.prog w K mg base 1 "_law_done" (["filling", "exchange"] : List Str) sp__law_done := (ok__law_done (base := base) F__law_done (PySem.W.mg_of X G a__law_done) b__law_done T ).popW.imp (fun ds h Q E _ z => pl__law_done ds h Q E z)
    have d__law_are_listed : Def l.prog w K mg base 7 "_law_are_listed" (["hand", "posts", "may", "filling"] : List Str) sp__law_are_listed := (ok__law_are_listed (base := base) F__law_are_listed (PySem.W.mg_of X G a__law_are_listed) b__law_are_listed T d__law_due d_init_Book d_swaps d__law_same d_is_exchange d__law_any d__law_done d_exchanged).popW.imp (fun ds h Q E _ z => pl__law_are_listed ds h Q E z)
    exact law_end (ok_law (base := base) F_law T d__law_hand d__law_case d__law_are_listed d_init_Book d_swaps d__law_same) fun ds h Q E z => pl_law ds h Q E z
end DL
end

set_option maxRecDepth 100000
open PySem PySem.W PyProof.Rows in
set_option maxRecDepth 100000 in
set_option maxHeartbeats 0 in
theorem PySem.Challenge.cw_chordswaps_k10_whole_swaps_listed_holds : PySem.Challenge.rw_chordswaps_k10_whole_swaps_listed.Holds := by
  w_on; o_law; k_head; (case hw => w_witness2)
  k_fill
  refine DL.walkD (k := 8) (l := PySem.Challenge.rw_chordswaps_k10_whole_swaps_listed) rfl rfl ⟨rfl, by decide, by decide⟩ (fun w h Y => PySem.W.kIn_of Y) ?F
  case F =>
    intro w mg fa h KX G hmg
    refine' DL.all_mk KX G hmg ?a_Book ?pg_Book ?hd_Book ?po_Book ?sa_Book ?mk_Book ?kc_Book ?no_Book_may ?no_Book_posts ?ha_Book ?mo_Book ?ko_Book_int ?ko_Book_bool ?ko_Book_tuple ?ko_Book_list ?ko_Book_str ?ko_Book_dict ?kb_Book_NoneType ?kb_Book_int ?kb_Book_bool ?kb_Book_tuple ?kb_Book_list ?kb_Book_str ?kb_Book_dict ?ic_Book ?ty_Book ?gs_class ?tk_class ?z_abs ?z_all ?z_any ?z_bool ?z_enumerate ?z_int ?z_isinstance ?z_len ?z_list ?z_max ?z_min ?z_range ?z_set ?z_sorted ?z_str ?z_tuple ?z_zip ?v_MOST_PERSONS ?v_MOST_POSTS ?v_MOST_SIZE ?e_BadBook ?ek_BadBook ?eb_BadBook ?et_BadBook ?xl_BadBook ?es_BadBook ?ei_BadBook ?ety_BadBook ?en_BadBook_what ?en_BadBook_at ?el_BadBook ?ec_BadBook ?ekk_BadBook ?e_BadExchange ?ek_BadExchange ?eb_BadExchange ?et_BadExchange ?ex_BadExchange ?e_BadFilling ?ek_BadFilling ?eb_BadFilling ?et_BadFilling ?ex_BadFilling ?e_NoBook ?ek_NoBook ?eb_NoBook ?et_NoBook ?ex_NoBook ?a_is_integer ?l_is_integer ?c_is_integer ?k_is_integer ?a_is_within ?l_is_within ?c_is_within ?k_is_within ?a_is_rising ?l_is_rising ?c_is_rising ?k_is_rising ?a_init_Book ?i_init_Book ?l_init_Book ?c_init_Book ?k_init_Book ?a_check_book ?l_check_book ?c_check_book ?k_check_book ?a_fills ?l_fills ?c_fills ?k_fills ?a_is_right ?l_is_right ?c_is_right ?k_is_right ?a_check_filling ?l_check_filling ?c_check_filling ?k_check_filling ?a_is_form ?l_is_form ?c_is_form ?k_is_form ?a_goes ?l_goes ?c_goes ?k_goes ?a_swaps_of ?l_swaps_of ?c_swaps_of ?k_swaps_of ?a_swaps ?l_swaps ?c_swaps ?k_swaps ?a_is_exchange ?l_is_exchange ?c_is_exchange ?k_is_exchange ?a_behind ?l_behind ?c_behind ?k_behind ?a_exchanged ?l_exchanged ?c_exchanged ?k_exchanged ?a__law_hand ?l__law_hand ?c__law_hand ?k__law_hand ?a__law_same ?l__law_same ?c__law_same ?k__law_same ?a__law_draw ?l__law_draw ?c__law_draw ?k__law_draw ?a__law_any ?l__law_any ?c__law_any ?k__law_any ?a__law_mixed ?l__law_mixed ?c__law_mixed ?k__law_mixed ?a__law_case ?l__law_case ?c__law_case ?k__law_case ?a__law_due ?l__law_due ?c__law_due ?k__law_due ?a__law_done ?l__law_done ?c__law_done ?k__law_done ?a__law_are_listed ?l__law_are_listed ?c__law_are_listed ?k__law_are_listed ?a_law ?l_law ?c_law ?k_law
    (case a_Book => k_is)
    (case pg_Book => k_is)
    (case hd_Book => k_is)
    (case po_Book => k_is)
    (case sa_Book => k_is)
    (case mk_Book => k_is)
    (case kc_Book => k_is)
    (case no_Book_may => k_is)
    (case no_Book_posts => k_is)
    (case ha_Book => k_is)
    (case mo_Book => k_is)
    (case ko_Book_int => k_is)
    (case ko_Book_bool => k_is)
    (case ko_Book_tuple => k_is)
    (case ko_Book_list => k_is)
    (case ko_Book_str => k_is)
    (case ko_Book_dict => k_is)
    (case kb_Book_NoneType => k_is)
    (case kb_Book_int => k_is)
    (case kb_Book_bool => k_is)
    (case kb_Book_tuple => k_is)
    (case kb_Book_list => k_is)
    (case kb_Book_str => k_is)
    (case kb_Book_dict => k_is)
    (case ic_Book => k_is)
    (case ty_Book => k_is)
    (case gs_class => k_is)
    (case tk_class => k_is)
    (case z_abs => k_is)
    (case z_all => k_is)
    (case z_any => k_is)
    (case z_bool => k_is)
    (case z_enumerate => k_is)
    (case z_int => k_is)
    (case z_isinstance => k_is)
    (case z_len => k_is)
    (case z_list => k_is)
    (case z_max => k_is)
    (case z_min => k_is)
    (case z_range => k_is)
    (case z_set => k_is)
    (case z_sorted => k_is)
    (case z_str => k_is)
    (case z_tuple => k_is)
    (case z_zip => k_is)
    (case v_MOST_PERSONS => k_is)
    (case v_MOST_POSTS => k_is)
    (case v_MOST_SIZE => k_is)
    (case e_BadBook => k_is)
    (case ek_BadBook => k_is)
    (case eb_BadBook => k_is)
    (case et_BadBook => k_is)
    (case xl_BadBook => k_is)
    (case es_BadBook => k_is)
    (case ei_BadBook => k_is)
    (case ety_BadBook => k_is)
    (case en_BadBook_what => k_is)
    (case en_BadBook_at => k_is)
    (case el_BadBook => k_is)
    (case ec_BadBook => k_is)
    (case ekk_BadBook => k_is)
    (case e_BadExchange => k_is)
    (case ek_BadExchange => k_is)
    (case eb_BadExchange => k_is)
    (case et_BadExchange => k_is)
    (case ex_BadExchange => k_exc)
    (case e_BadFilling => k_is)
    (case ek_BadFilling => k_is)
    (case eb_BadFilling => k_is)
    (case et_BadFilling => k_is)
    (case ex_BadFilling => k_exc)
    (case e_NoBook => k_is)
    (case ek_NoBook => k_is)
    (case eb_NoBook => k_is)
    (case et_NoBook => k_is)
    (case ex_NoBook => k_exc)
    (case a_is_integer => k_is)
    (case l_is_integer => k_is)
    (case c_is_integer => k_is)
    (case k_is_integer => k_is)
    (case a_is_within => k_is)
    (case l_is_within => k_is)
    (case c_is_within => k_is)
    (case k_is_within => k_is)
    (case a_is_rising => k_is)
    (case l_is_rising => k_is)
    (case c_is_rising => k_is)
    (case k_is_rising => k_is)
    (case a_init_Book => k_is)
    (case i_init_Book => k_is)
    (case l_init_Book => k_is)
    (case c_init_Book => k_is)
    (case k_init_Book => k_is)
    (case a_check_book => k_is)
    (case l_check_book => k_is)
    (case c_check_book => k_is)
    (case k_check_book => k_is)
    (case a_fills => k_is)
    (case l_fills => k_is)
    (case c_fills => k_is)
    (case k_fills => k_is)
    (case a_is_right => k_is)
    (case l_is_right => k_is)
    (case c_is_right => k_is)
    (case k_is_right => k_is)
    (case a_check_filling => k_is)
    (case l_check_filling => k_is)
    (case c_check_filling => k_is)
    (case k_check_filling => k_is)
    (case a_is_form => k_is)
    (case l_is_form => k_is)
    (case c_is_form => k_is)
    (case k_is_form => k_is)
    (case a_goes => k_is)
    (case l_goes => k_is)
    (case c_goes => k_is)
    (case k_goes => k_is)
    (case a_swaps_of => k_is)
    (case l_swaps_of => k_is)
    (case c_swaps_of => k_is)
    (case k_swaps_of => k_is)
    (case a_swaps => k_is)
    (case l_swaps => k_is)
    (case c_swaps => k_is)
    (case k_swaps => k_is)
    (case a_is_exchange => k_is)
    (case l_is_exchange => k_is)
    (case c_is_exchange => k_is)
    (case k_is_exchange => k_is)
    (case a_behind => k_is)
    (case l_behind => k_is)
    (case c_behind => k_is)
    (case k_behind => k_is)
    (case a_exchanged => k_is)
    (case l_exchanged => k_is)
    (case c_exchanged => k_is)
    (case k_exchanged => k_is)
    (case a__law_hand => k_is)
    (case l__law_hand => k_is)
    (case c__law_hand => k_is)
    (case k__law_hand => k_is)
    (case a__law_same => k_is)
    (case l__law_same => k_is)
    (case c__law_same => k_is)
    (case k__law_same => k_is)
    (case a__law_draw => k_is)
    (case l__law_draw => k_is)
    (case c__law_draw => k_is)
    (case k__law_draw => k_is)
    (case a__law_any => k_is)
    (case l__law_any => k_is)
    (case c__law_any => k_is)
    (case k__law_any => k_is)
    (case a__law_mixed => k_is)
    (case l__law_mixed => k_is)
    (case c__law_mixed => k_is)
    (case k__law_mixed => k_is)
    (case a__law_case => k_is)
    (case l__law_case => k_is)
    (case c__law_case => k_is)
    (case k__law_case => k_is)
    (case a__law_due => k_is)
    (case l__law_due => k_is)
    (case c__law_due => k_is)
    (case k__law_due => k_is)
    (case a__law_done => k_is)
    (case l__law_done => k_is)
    (case c__law_done => k_is)
    (case k__law_done => k_is)
    (case a__law_are_listed => k_is)
    (case l__law_are_listed => k_is)
    (case c__law_are_listed => k_is)
    (case k__law_are_listed => k_is)
    (case a_law => k_is)
    (case l_law => k_is)
    (case c_law => k_is)
    (case k_law => k_is)
