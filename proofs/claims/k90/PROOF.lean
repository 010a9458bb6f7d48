import PyProof.Rows.All
import Wide.All
import OpenK.AllK
import Wide.FinOn
import HandS.ForMost
import HandS.Flow
import HandS.TupAny
import HandS.TupMul
import HandS.Zip
import HandS.Wide
import HandS.IsInst
import HandS.Star
import HandS.NoneIn
import HandS.Conv
import HandS.Lambda
import HandS.Deep
import HandS.Style
import KE.GoesEnum
import KE.KTupSum
import PyProof.ReprLen
import PyProof.P3Eq
import HandS.Exc
import KE.GoesZip
import KE.GoesMore
import HandS.ExcInit
import KE.KExcSuper
import KE.RegKSuper
import KE.KExcIs
import KE.KExcLine
import KE.KTryMore
import HandS.ExcValue
import HandS.TryMany
import HandS.ExcField
import HandS.EndTab
import KE.KNestM
import HandS.HeadHook4
import KE.KDflt
import HandS.Property
import HandS.OwnEq
import HandS.Codes
import PySem.Challenge.RW_uporders_k90_whole_led_chains
set_option Elab.async false
set_option linter.all false
set_option autoImplicit false
set_option maxRecDepth 100000
set_option maxHeartbeats 4000000
/-! A second layer over the hand layer: values as data (tuples are values), the mutable objects in a memory. -/
namespace Y
open PySem PySem.Spec PyProof.Rows L2

/-! ### data -/
inductive D where
  | non | bl (b : Bool) | int (i : Int) | str (x : Str) | tup (ds : List D) | obj (a : Addr) | ty (n : String)
  /-- a list that nobody can change (the script) -/
  | ro (ds : List D)
  /-- an exception that was caught: its class's name, its fields (it never changes) -/
  | exn (n : Str) (ks : List Str) (ds : List D)
  /-- the class that the module names n -/
  | kls (n : Str)
/-- a list that stands still -/
def SqF (K : PySem.W.Frag) (H : Hp) (a : Addr) (xs : List V) : Prop :=
  (∃ o, H a = some (.frz o (.lst xs))) ∨ ∃ (o : Obj) (its : Array Value) (n : Nat), K.lookup a = some o ∧ o.cls = .type "list" ∧ o.dict = none ∧ o.data = .seq its n ∧ its.size ≤ sizeLine ∧ Vals xs its.toList
theorem SqF.l {K : PySem.W.Frag} {H : Hp} {a : Addr} {xs : List V} (h : SqF K H a xs) : SqL K H a xs := h.elim (fun h => .inl (.inr h)) .inr

/-- at a: an exception of the class that the module names n, with the fields ks -/
def ExnAt (K : PySem.W.Frag) (H : Hp) (n : Str) (ks : List Str) (a : Addr) (vs : List V) : Prop := ∃ (C : Addr) (oe : Obj) (d : Addr) (od : Obj), PySem.W.nsIn K mainGlobals n = some (some (.ref C)) ∧ H a = some (.frz oe (.own a)) ∧ oe.cls = .ref C ∧ oe.dict = some d ∧ (∃ ws, oe.data = .fields ws) ∧ H d = some (.frz od (.xd (ks.zip vs)))
mutual
def Den (K : PySem.W.Frag) (H : Hp) : D → V → Prop
  | .non, v => v = V.non
  | .bl b, v => v = V.bl b
  | .int i, v => v = V.int i
  | .str x, v => v = V.str x
  | .ty n, v => v = V.ty n
  | .obj a, v => v = V.ref a
  | .tup ds, v => ∃ a xs, v = V.ref a ∧ SqT K H a xs ∧ DenL K H ds xs
  | .ro ds, v => ∃ a xs, v = V.ref a ∧ SqF K H a xs ∧ DenL K H ds xs
  | .exn n ks ds, v => ∃ a xs, v = V.ref a ∧ ExnAt K H n ks a xs ∧ DenL K H ds xs
  | .kls n, v => ∃ a, v = V.ref a ∧ PySem.W.nsIn K mainGlobals n = some (some (.ref a))
def DenL (K : PySem.W.Frag) (H : Hp) : List D → List V → Prop
  | [], vs => vs = []
  | d :: ds, vs => ∃ v r, vs = v :: r ∧ Den K H d v ∧ DenL K H ds r
end

/-- tuples stand, and what is frozen -/
structure TK (K : PySem.W.Frag) (H H' : Hp) : Prop where
  t : ∀ a xs, SqT K H a xs → SqT K H' a xs
  f : ∀ a xs, SqF K H a xs → SqF K H' a xs
  z : ∀ a o u, H a = some (.frz o u) → H' a = some (.frz o u)
theorem TK.refl {K : PySem.W.Frag} (H : Hp) : TK K H H := ⟨fun _ _ h => h, fun _ _ h => h, fun _ _ _ h => h⟩
theorem TK.trans {K : PySem.W.Frag} {H H1 H2 : Hp} (a : TK K H H1) (b : TK K H1 H2) : TK K H H2 := ⟨fun c xs h => b.t c xs (a.t c xs h), fun c xs h => b.f c xs (a.f c xs h), fun c o u h => b.z c o u (a.z c o u h)⟩
theorem ExnAt.mono {K : PySem.W.Frag} {H H' : Hp} {n : Str} {ks : List Str} {a : Addr} {vs : List V} (t : TK K H H') (h : ExnAt K H n ks a vs) : ExnAt K H' n ks a vs := by
  obtain ⟨C, oe, d, od, h1, h2, h3, h4, h5, h6⟩ := h
  exact ⟨C, oe, d, od, h1, t.z _ _ _ h2, h3, h4, h5, t.z _ _ _ h6⟩

mutual
theorem Den.mono {K : PySem.W.Frag} {H H' : Hp} (t : TK K H H') : ∀ {d : D} {v : V}, Den K H d v → Den K H' d v
  | .non, _, h => by unfold Den at h ⊢; exact h
  | .bl _, _, h => by unfold Den at h ⊢; exact h
  | .int _, _, h => by unfold Den at h ⊢; exact h
  | .str _, _, h => by unfold Den at h ⊢; exact h
  | .ty _, _, h => by unfold Den at h ⊢; exact h
  | .obj _, _, h => by unfold Den at h ⊢; exact h
  | .tup ds, _, h => by
    unfold Den at h ⊢
    obtain ⟨a, xs, e, s, l⟩ := h
    exact ⟨a, xs, e, t.t a xs s, DenL.mono t l⟩
  | .ro ds, _, h => by
    unfold Den at h ⊢
    obtain ⟨a, xs, e, s, l⟩ := h
    exact ⟨a, xs, e, t.f a xs s, DenL.mono t l⟩
  | .exn n ks ds, _, h => by
    unfold Den at h ⊢
    obtain ⟨a, xs, e, s, l⟩ := h
    exact ⟨a, xs, e, s.mono t, DenL.mono t l⟩
  | .kls n, _, h => by unfold Den at h ⊢; exact h
theorem DenL.mono {K : PySem.W.Frag} {H H' : Hp} (t : TK K H H') : ∀ {ds : List D} {vs : List V}, DenL K H ds vs → DenL K H' ds vs
  | [], _, h => by unfold DenL at h ⊢; exact h
  | d :: ds, _, h => by
    rw [DenL] at h ⊢
    obtain ⟨v, r, e, a, b⟩ := h
    exact ⟨v, r, e, Den.mono t a, DenL.mono t b⟩
end
section
variable {K : PySem.W.Frag} {H : Hp}
theorem den_non {v : V} : Den K H .non v ↔ v = .non := by unfold Den; exact Iff.rfl
theorem den_bl {b : Bool} {v : V} : Den K H (.bl b) v ↔ v = .bl b := by unfold Den; exact Iff.rfl
theorem den_int {i : Int} {v : V} : Den K H (.int i) v ↔ v = .int i := by unfold Den; exact Iff.rfl
theorem den_str {x : Str} {v : V} : Den K H (.str x) v ↔ v = .str x := by unfold Den; exact Iff.rfl
theorem den_ty {n : String} {v : V} : Den K H (.ty n) v ↔ v = .ty n := by unfold Den; exact Iff.rfl
theorem den_obj {a : Addr} {v : V} : Den K H (.obj a) v ↔ v = .ref a := by unfold Den; exact Iff.rfl
theorem den_tup {ds : List D} {v : V} : Den K H (.tup ds) v ↔ ∃ a xs, v = V.ref a ∧ SqT K H a xs ∧ DenL K H ds xs := by constructor <;> (intro h; unfold Den at *; exact h)
theorem den_ro {ds : List D} {v : V} : Den K H (.ro ds) v ↔ ∃ a xs, v = V.ref a ∧ SqF K H a xs ∧ DenL K H ds xs := by constructor <;> (intro h; unfold Den at *; exact h)
theorem den_exn {n : Str} {ks : List Str} {ds : List D} {v : V} : Den K H (.exn n ks ds) v ↔ ∃ a xs, v = V.ref a ∧ ExnAt K H n ks a xs ∧ DenL K H ds xs := by constructor <;> (intro h; unfold Den at *; exact h)
theorem den_kls {n : Str} {v : V} : Den K H (.kls n) v ↔ ∃ a, v = V.ref a ∧ PySem.W.nsIn K mainGlobals n = some (some (.ref a)) := by constructor <;> (intro h; unfold Den at *; exact h)
theorem denL_nil {vs : List V} : DenL K H [] vs ↔ vs = [] := by unfold DenL; exact Iff.rfl
theorem denL_cons {d : D} {ds : List D} {vs : List V} : DenL K H (d :: ds) vs ↔ ∃ v r, vs = v :: r ∧ Den K H d v ∧ DenL K H ds r := by rw [DenL]
theorem DenL.nil : DenL K H [] [] := denL_nil.mpr rfl
theorem DenL.cons {d : D} {v : V} {ds : List D} {vs : List V} (a : Den K H d v) (b : DenL K H ds vs) : DenL K H (d :: ds) (v :: vs) := denL_cons.mpr ⟨v, vs, rfl, a, b⟩
theorem DenL.length : ∀ {ds : List D} {vs : List V}, DenL K H ds vs → vs.length = ds.length
  | [], vs, h => by rw [denL_nil.mp h] <;> rfl
  | d :: ds, vs, h => by
    obtain ⟨v, r, rfl, _, b⟩ := denL_cons.mp h
    simp [DenL.length b]
theorem DenL.append : ∀ {ds es : List D} {vs ws : List V}, DenL K H ds vs → DenL K H es ws → DenL K H (ds ++ es) (vs ++ ws)
  | [], _, vs, _, h, g => by rw [denL_nil.mp h]; exact g
  | d :: ds, _, vs, _, h, g => by
    obtain ⟨v, r, rfl, a, b⟩ := denL_cons.mp h
    exact DenL.cons a (DenL.append b g)
theorem DenL.get : ∀ {ds : List D} {vs : List V} {i : Nat} {v : V}, DenL K H ds vs → vs[i]? = some v → ∃ d, ds[i]? = some d ∧ Den K H d v
  | [], vs, i, v, h, e => by rw [denL_nil.mp h] at e; simp at e
  | d :: ds, vs, i, v, h, e => by
    obtain ⟨w, r, rfl, a, b⟩ := denL_cons.mp h
    cases i with
    | zero => simp at e; subst e; exact ⟨d, rfl, a⟩
    | succ i => simp at e; simpa using DenL.get b e
theorem DenL.get' : ∀ {ds : List D} {vs : List V} {i : Nat} {d : D}, DenL K H ds vs → ds[i]? = some d → ∃ v, vs[i]? = some v ∧ Den K H d v
  | [], vs, i, d, h, e => by simp at e
  | d' :: ds, vs, i, d, h, e => by
    obtain ⟨w, r, rfl, a, b⟩ := denL_cons.mp h
    cases i with
    | zero => simp at e; subst e; exact ⟨w, rfl, a⟩
    | succ i => simp at e; simpa using DenL.get' b e
theorem DenL.set {d : D} {v : V} (a : Den K H d v) : ∀ {ds : List D} {vs : List V} (i : Nat), DenL K H ds vs → DenL K H (ds.set i d) (vs.set i v)
  | [], vs, i, h => by rw [denL_nil.mp h]; exact DenL.nil
  | d' :: ds, vs, i, h => by
    obtain ⟨w, r, rfl, a', b⟩ := denL_cons.mp h
    cases i with
    | zero => exact DenL.cons a b
    | succ i => exact DenL.cons a' (DenL.set a i b)
theorem DenL.drop : ∀ {ds : List D} {vs : List V} (n : Nat), DenL K H ds vs → DenL K H (ds.drop n) (vs.drop n)
  | ds, vs, 0, h => h
  | [], vs, n + 1, h => by rw [denL_nil.mp h]; exact DenL.nil
  | d :: ds, vs, n + 1, h => by
    obtain ⟨w, r, rfl, a', b⟩ := denL_cons.mp h
    exact DenL.drop n b
theorem DenL.take : ∀ {ds : List D} {vs : List V} (n : Nat), DenL K H ds vs → DenL K H (ds.take n) (vs.take n)
  | ds, vs, 0, h => DenL.nil
  | [], vs, n + 1, h => by rw [denL_nil.mp h]; exact DenL.nil
  | d :: ds, vs, n + 1, h => by
    obtain ⟨w, r, rfl, a', b⟩ := denL_cons.mp h
    exact DenL.cons a' (DenL.take n b)
theorem DenL.ints : ∀ {ns : List Int} {vs : List V}, DenL K H (ns.map D.int) vs → vs = ns.map V.int
  | [], vs, h => denL_nil.mp h
  | n :: ns, vs, h => by
    obtain ⟨w, r, rfl, a', b⟩ := denL_cons.mp h
    rw [den_int.mp a', DenL.ints b] <;> rfl
theorem DenL.of_ints : ∀ (ns : List Int), DenL K H (ns.map D.int) (ns.map V.int)
  | [] => DenL.nil
  | n :: ns => DenL.cons (den_int.mpr rfl) (DenL.of_ints ns)
theorem DenL.flatten_rep {ds : List D} {vs : List V} (h : DenL K H ds vs) : ∀ n : Nat, DenL K H (List.replicate n ds).flatten (List.replicate n vs).flatten
  | 0 => DenL.nil
  | n + 1 => by
    rw [List.replicate_succ, List.replicate_succ, List.flatten_cons, List.flatten_cons]
    exact DenL.append h (DenL.flatten_rep h n)
end

/-! ### memory -/
inductive MO where
  | lst (ds : List D)
  | dk (kvs : List (Key × D))
  | ins (C : Addr) (fs : List (Str × D))
  /-- the table of the code objects that a def's body makes; q is their name -/
  | tab (q : Str)
  /-- a lambda's code object; q is its name -/
  | code (q : Str)
abbrev Mem := Addr → Option MO
def mup (M : Mem) (a : Addr) (o : MO) : Mem := fun b => if b = a then some o else M b
theorem mup_same {M : Mem} {a : Addr} {o : MO} : mup M a o a = some o := by unfold mup; rw [if_pos rfl]
theorem mup_ne {M : Mem} {a b : Addr} {o : MO} (h : b ≠ a) : mup M a o b = M b := by unfold mup; rw [if_neg h]

def KVs (K : PySem.W.Frag) (H : Hp) : List (Key × D) → List (Key × V) → Prop := Paired fun p q => p.1 = q.1 ∧ Den K H p.2 q.2
def FVs (K : PySem.W.Frag) (H : Hp) : List (Str × D) → List (Str × V) → Prop := Paired fun p q => p.1 = q.1 ∧ Den K H p.2 q.2
def RepO (K : PySem.W.Frag) (H : Hp) (a : Addr) : MO → Prop
  | .lst ds => ∃ xs, H a = some (.lst xs) ∧ DenL K H ds xs
  | .dk kvs => ∃ vs, H a = some (.dK vs) ∧ KVs K H kvs vs
  | .ins C fs => ∃ dx vs, H a = some (.ins C dx vs) ∧ FVs K H fs vs
  | .tab q => LamX.TabS H a q
  | .code q => H a = some (LamX.CodeO a q)
def Rep (K : PySem.W.Frag) (H : Hp) (M : Mem) : Prop := ∀ a o, M a = some o → RepO K H a o

theorem Rep.free {K : PySem.W.Frag} {H : Hp} {M : Mem} (r : Rep K H M) {p : Addr} (h : H p = none) : M p = none := by
  cases e : M p with
  | none => rfl
  | some o =>
    have q := r p o e
    cases o with
    | lst ds => obtain ⟨xs, e, _⟩ := q; rw [h] at e; cases e
    | dk kvs => obtain ⟨xs, e, _⟩ := q; rw [h] at e; cases e
    | ins C fs => obtain ⟨dx, xs, e, _⟩ := q; rw [h] at e; cases e
    | tab q0 => obtain ⟨ps, e, _⟩ := q; rw [h] at e; cases e
    | code q0 => exact absurd (h.symm.trans q) (by simp)

/-- where nothing stands that is to last, a store keeps what is to last -/
theorem TK.store {K : PySem.W.Frag} {H : Hp} {p : Addr} {o : HO} (h : ∀ u, H p = some u → (∀ xs, u ≠ .tup xs) ∧ (∀ o' w, u ≠ .frz o' w)) : TK K H (upd H p o) := by
  refine ⟨fun a xs s => ?_, fun a xs s => ?_, fun a o' u s => ?_⟩
  · rcases s with (s | ⟨o', s⟩) | s
    · have e : a ≠ p := fun e => by subst e; exact (h _ s).1 xs rfl
      exact .inl (.inl (by rw [upd_ne e]; exact s))
    · have e : a ≠ p := fun e => by subst e; exact (h _ s).2 _ _ rfl
      exact .inl (.inr ⟨o', by rw [upd_ne e]; exact s⟩)
    · exact .inr s
  · rcases s with ⟨o', s⟩ | s
    · have e : a ≠ p := fun e => by subst e; exact (h _ s).2 _ _ rfl
      exact .inl ⟨o', by rw [upd_ne e]; exact s⟩
    · exact .inr s
  · have e : a ≠ p := fun e => by subst e; exact (h _ s).2 _ _ rfl
    rw [upd_ne e]; exact s
theorem TK.fresh {K : PySem.W.Frag} {H : Hp} {p : Addr} {o : HO} (h : H p = none) : TK K H (upd H p o) := TK.store fun u e => by rw [h] at e; cases e
theorem TK.lst {K : PySem.W.Frag} {H : Hp} {p : Addr} {o : HO} {ys : List V} (h : H p = some (.lst ys)) : TK K H (upd H p o) := TK.store fun u e => by
  rw [h] at e; cases e; exact ⟨fun _ z => (by cases z), fun _ _ z => (by cases z)⟩
theorem TK.dK {K : PySem.W.Frag} {H : Hp} {p : Addr} {o : HO} {ys : List (Key × V)} (h : H p = some (.dK ys)) : TK K H (upd H p o) := TK.store fun u e => by
  rw [h] at e; cases e; exact ⟨fun _ z => (by cases z), fun _ _ z => (by cases z)⟩
theorem TK.ins {K : PySem.W.Frag} {H : Hp} {p C dx : Addr} {o : HO} {fs : List (Str × V)} (h : H p = some (.ins C dx fs)) : TK K H (upd H p o) := TK.store fun u e => by
  rw [h] at e; cases e; exact ⟨fun _ z => (by cases z), fun _ _ z => (by cases z)⟩
/-- at p nothing stands that is known by a word of one's own -/
structure NoX (H : Hp) (p : Addr) : Prop where
  n : ∀ φ, H p ≠ some (.ext φ)
theorem NoX.none {H : Hp} {p : Addr} (h : H p = none) : NoX H p := ⟨fun φ z => by rw [h] at z; cases z⟩
theorem NoX.tbl {H : Hp} {p : Addr} {ys : Array Value} (h : H p = some (.tbl ys)) : NoX H p := ⟨fun φ z => by rw [h] at z; cases z⟩
theorem NoX.lst {H : Hp} {p : Addr} {ys : List V} (h : H p = some (.lst ys)) : NoX H p := ⟨fun φ z => by rw [h] at z; cases z⟩
theorem NoX.dK {H : Hp} {p : Addr} {ys : List (Key × V)} (h : H p = some (.dK ys)) : NoX H p := ⟨fun φ z => by rw [h] at z; cases z⟩
theorem NoX.ins {H : Hp} {p C dx : Addr} {fs : List (Str × V)} (h : H p = some (.ins C dx fs)) : NoX H p := ⟨fun φ z => by rw [h] at z; cases z⟩

theorem KVs.mono {K : PySem.W.Frag} {H H' : Hp} (t : TK K H H') {l : List (Key × D)} {m : List (Key × V)} (h : KVs K H l m) : KVs K H' l m := Paired.mono (fun _ _ q => ⟨q.1, q.2.mono t⟩) h
theorem FVs.mono {K : PySem.W.Frag} {H H' : Hp} (t : TK K H H') {l : List (Str × D)} {m : List (Str × V)} (h : FVs K H l m) : FVs K H' l m := Paired.mono (fun _ _ q => ⟨q.1, q.2.mono t⟩) h
theorem RepO.store {K : PySem.W.Frag} {H : Hp} {p b : Addr} {o : HO} {m : MO} (t : TK K H (upd H p o)) (hx : NoX H p) (hb : b ≠ p) (h : RepO K H b m) : RepO K (L2.upd H p o) b m := by
  cases m with
  | lst ds => obtain ⟨xs, e, l⟩ := h; exact ⟨xs, by rw [upd_ne hb]; exact e, l.mono t⟩
  | dk kvs => obtain ⟨xs, e, l⟩ := h; exact ⟨xs, by rw [upd_ne hb]; exact e, l.mono t⟩
  | ins C fs => obtain ⟨dx, xs, e, l⟩ := h; exact ⟨dx, xs, by rw [upd_ne hb]; exact e, l.mono t⟩
  | tab q =>
    obtain ⟨ps, e, h2, h3⟩ := h
    refine ⟨ps, by rw [upd_ne hb]; exact e, h2, fun pos cv hc => ?_⟩
    obtain ⟨c, e1, e2⟩ := h3 pos cv hc
    exact ⟨c, e1, by rw [upd_ne fun z => hx.n _ (z ▸ e2)]; exact e2⟩
  | code q => show L2.upd H p o b = _; rw [upd_ne hb]; exact h
/-- a new object that the memory does not name (a tuple) -/
theorem Rep.tup {K : PySem.W.Frag} {H : Hp} {M : Mem} {p : Addr} {o : HO} (r : Rep K H M) (h : H p = none) : Rep K (upd H p o) M := fun b m e => by
  by_cases q : b = p
  · subst q; rw [r.free h] at e; cases e
  · exact RepO.store (TK.fresh h) (NoX.none h) q (r b m e)
/-- an object laid or changed -/
theorem Rep.put {K : PySem.W.Frag} {H : Hp} {M : Mem} {p : Addr} {o : HO} {m : MO} (r : Rep K H M) (t : TK K H (upd H p o)) (n : RepO K (upd H p o) p m) (hx : NoX H p := by first | exact NoX.none (by assumption) | exact NoX.lst (by assumption) | exact NoX.dK (by assumption) | exact NoX.ins (by assumption)) : Rep K (upd H p o) (mup M p m) := fun b m' e => by
  by_cases q : b = p
  · subst q; rw [mup_same] at e; cases e; exact n
  · rw [mup_ne q] at e; exact RepO.store t hx q (r b m' e)

/-! ### the frame's names -/
abbrev St2 := List (Option D)
structure EnvR (K : PySem.W.Frag) (H : Hp) (ρ : St2) (σ : L2.St) : Prop where
  len : ρ.length = σ.length
  at_ : ∀ (i : Nat) (d : D), ρ[i]? = some (some d) → ∃ v : V, σ[i]? = some (some v) ∧ Den K H d v
structure R (K : PySem.W.Frag) (ρ : St2) (M : Mem) (σ : L2.St) (H : Hp) : Prop where
  env : EnvR K H ρ σ
  rep : Rep K H M
theorem EnvR.mono {K : PySem.W.Frag} {H H' : Hp} {ρ : St2} {σ : L2.St} (t : TK K H H') (h : EnvR K H ρ σ) : EnvR K H' ρ σ :=
  ⟨h.len, fun i d e => by obtain ⟨v, a, b⟩ := h.at_ i d e; exact ⟨v, a, b.mono t⟩⟩
theorem EnvR.set {K : PySem.W.Frag} {H : Hp} {ρ : St2} {σ : L2.St} {d : D} {v : V} (h : EnvR K H ρ σ) (i : Nat) (a : Den K H d v) : EnvR K H (ρ.set i (some d)) (σ.set i (some v)) := by
  refine ⟨by rw [List.length_set, List.length_set]; exact h.len, fun j e q => ?_⟩
  rw [List.getElem?_set] at q ⊢
  by_cases c : i = j
  · subst c
    rw [if_pos rfl] at q ⊢
    have hl := h.len
    by_cases z : i < ρ.length
    · rw [if_pos z] at q
      rw [if_pos (hl ▸ z)]
      cases q
      exact ⟨v, rfl, a⟩
    · rw [if_neg z] at q; cases q
  · rw [if_neg c] at q ⊢
    exact h.at_ j e q
/-- fewer names -/
theorem EnvR.wipe {K : PySem.W.Frag} {H : Hp} {ρ ρ' : St2} {σ : L2.St} (h : EnvR K H ρ σ) (l : ρ'.length = ρ.length) (s : ∀ (i : Nat) (d : D), ρ'[i]? = some (some d) → ρ[i]? = some (some d)) : EnvR K H ρ' σ :=
  ⟨l.trans h.len, fun i d e => h.at_ i d (s i d e)⟩

/-! ### canonical readings -/
section
variable {X : Cx}
def cE (X : Cx) (e : Expr) : TE := fun σ H Q => ∀ pins s, Inv X pins σ H s → wpAny (model X.prog X.w) X.A (eval e X.env) (EP X pins σ Q) X.xe s
def cT (X : Cx) (e : Expr) : TT := fun σ H Q => ∀ pins s, Inv X pins σ H s → wpAny (model X.prog X.w) X.A (isTrue e X.env (eval e X.env)) (TP X pins σ Q) X.xe s
def cW (X : Cx) (e : Expr) : TT := fun σ H Q => ∀ whole pins s, Inv X pins σ H s → wpAny (model X.prog X.w) X.A (isTrue e X.env whole) (TP X pins σ Q) X.xe s
def cA (X : Cx) (es : List Expr) : TA := fun σ H Q => ∀ pos pins s, Inv X pins σ H s → wpAny (model X.prog X.w) X.A (spliced (backTo pos (starEach es X.env))) (AP X pins σ Q) X.xe s
def cS (X : Cx) (st : Stmt) : TS := fun D σ H => ∀ pins s, Inv X pins σ H s → wpAny (model X.prog X.w) X.A (exec st X.env) (SP X pins D) X.xe s
def cSs (X : Cx) (st : List Stmt) : TS := fun D σ H => ∀ pins s, Inv X pins σ H s → wpAny (model X.prog X.w) X.A (execs st X.env) (SP X pins D) X.xe s
def cG (X : Cx) (tg : Expr) : TG := fun v σ H Q => ∀ pins s u, Inv X pins σ H s → RelV v u → wpAny (model X.prog X.w) X.A (assign tg X.env u) (fun _ s' => ∃ σ' H', Inv X pins σ' H' s' ∧ Q σ' H') X.xe s
theorem peC {e : Expr} : PE X e (cE X e) := ⟨fun pins s σ H Q I h => h pins s I⟩
theorem ptC {e : Expr} : PT X e (cT X e) := ⟨fun pins s σ H Q I h => h pins s I⟩
theorem pwC {e : Expr} : PW X e (cW X e) := ⟨fun whole pins s σ H Q I h => h whole pins s I⟩
theorem paC {es : List Expr} : PA X es (cA X es) := ⟨fun pos pins s σ H Q I h => h pos pins s I⟩
theorem psC {st : Stmt} : PS X st (cS X st) := ⟨fun pins s σ H D I h => h pins s I⟩
theorem pssC {st : List Stmt} : PSs X st (cSs X st) := ⟨fun pins s σ H D I h => h pins s I⟩
theorem pgC {tg : Expr} : PG X tg (cG X tg) := ⟨fun pins s σ H v u Q I r h => h pins s u I r⟩
theorem cE_of {e : Expr} {t : TE} (h : PE X e t) {σ : L2.St} {H : Hp} {Q : VK} (q : t σ H Q) : cE X e σ H Q := fun pins s I => h.run pins s σ H Q I q
theorem cT_of {e : Expr} {t : TT} (h : PT X e t) {σ : L2.St} {H : Hp} {Q : Bool → Hp → Prop} (q : t σ H Q) : cT X e σ H Q := fun pins s I => h.run pins s σ H Q I q
theorem cW_of {e : Expr} {t : TT} (h : PW X e t) {σ : L2.St} {H : Hp} {Q : Bool → Hp → Prop} (q : t σ H Q) : cW X e σ H Q := fun whole pins s I => h.run whole pins s σ H Q I q
theorem cA_of {es : List Expr} {t : TA} (h : PA X es t) {σ : L2.St} {H : Hp} {Q : List V → Hp → Prop} (q : t σ H Q) : cA X es σ H Q := fun pos pins s I => h.run pos pins s σ H Q I q
theorem cS_of {st : Stmt} {t : TS} (h : PS X st t) {D : Ends} {σ : L2.St} {H : Hp} (q : t D σ H) : cS X st D σ H := fun pins s I => h.run pins s σ H D I q
theorem cSs_of {st : List Stmt} {t : TS} (h : PSs X st t) {D : Ends} {σ : L2.St} {H : Hp} (q : t D σ H) : cSs X st D σ H := fun pins s I => h.run pins s σ H D I q
theorem cG_of {tg : Expr} {t : TG} (h : PG X tg t) {v : V} {σ : L2.St} {H : Hp} {Q : L2.St → Hp → Prop} (q : t v σ H Q) : cG X tg v σ H Q := fun pins s u I r => h.run pins s σ H v u Q I r q
theorem cE_mono {e : Expr} {σ : L2.St} {H : Hp} {Q Q' : VK} (m : ∀ v H', Q v H' → Q' v H') (h : cE X e σ H Q) : cE X e σ H Q' := fun pins s I =>
  wpAny_mono (h pins s I) (fun u s' ⟨v, H', I', r, q⟩ => ⟨v, H', I', r, m v H' q⟩) fun _ _ z => z
theorem cT_mono {e : Expr} {σ : L2.St} {H : Hp} {Q Q' : Bool → Hp → Prop} (m : ∀ v H', Q v H' → Q' v H') (h : cT X e σ H Q) : cT X e σ H Q' := fun pins s I =>
  wpAny_mono (h pins s I) (fun u s' ⟨H', I', q⟩ => ⟨H', I', m u H' q⟩) fun _ _ z => z
theorem cW_mono {e : Expr} {σ : L2.St} {H : Hp} {Q Q' : Bool → Hp → Prop} (m : ∀ v H', Q v H' → Q' v H') (h : cW X e σ H Q) : cW X e σ H Q' := fun whole pins s I =>
  wpAny_mono (h whole pins s I) (fun u s' ⟨H', I', q⟩ => ⟨H', I', m u H' q⟩) fun _ _ z => z
theorem cA_mono {es : List Expr} {σ : L2.St} {H : Hp} {Q Q' : List V → Hp → Prop} (m : ∀ v H', Q v H' → Q' v H') (h : cA X es σ H Q) : cA X es σ H Q' := fun pos pins s I =>
  wpAny_mono (h pos pins s I) (fun u s' ⟨v, H', I', r, q⟩ => ⟨v, H', I', r, m v H' q⟩) fun _ _ z => z
theorem cG_mono {tg : Expr} {v : V} {σ : L2.St} {H : Hp} {Q Q' : L2.St → Hp → Prop} (m : ∀ v H', Q v H' → Q' v H') (h : cG X tg v σ H Q) : cG X tg v σ H Q' := fun pins s u I r =>
  wpAny_mono (h pins s u I r) (fun _ s' ⟨σ', H', I', q⟩ => ⟨σ', H', I', m σ' H' q⟩) fun _ _ z => z
theorem SP_mono {pins : List (Addr × Obj)} {D D' : Ends} (h1 : ∀ σ H, D.nx σ H → D'.nx σ H) (h2 : ∀ v H, D.rt v H → D'.rt v H) (h3 : ∀ σ H, D.bk σ H → D'.bk σ H) (h4 : ∀ σ H, D.ct σ H → D'.ct σ H) {f : Flow} {s' : Shared} (h : SP X pins D f s') : SP X pins D' f s' := by
  cases f with
  | next => obtain ⟨σ', H', I, q⟩ := h; exact ⟨σ', H', I, h1 _ _ q⟩
  | brk => obtain ⟨σ', H', I, q⟩ := h; exact ⟨σ', H', I, h3 _ _ q⟩
  | cont => obtain ⟨σ', H', I, q⟩ := h; exact ⟨σ', H', I, h4 _ _ q⟩
  | ret u => obtain ⟨v, σ', H', I, r, q⟩ := h; exact ⟨v, σ', H', I, r, h2 _ _ q⟩
theorem cS_mono {st : Stmt} {σ : L2.St} {H : Hp} {D D' : Ends} (h1 : ∀ σ H, D.nx σ H → D'.nx σ H) (h2 : ∀ v H, D.rt v H → D'.rt v H) (h3 : ∀ σ H, D.bk σ H → D'.bk σ H) (h4 : ∀ σ H, D.ct σ H → D'.ct σ H) (h : cS X st D σ H) : cS X st D' σ H := fun pins s I =>
  wpAny_mono (h pins s I) (fun f s' q => SP_mono h1 h2 h3 h4 q) fun _ _ z => z
theorem cSs_mono {st : List Stmt} {σ : L2.St} {H : Hp} {D D' : Ends} (h1 : ∀ σ H, D.nx σ H → D'.nx σ H) (h2 : ∀ v H, D.rt v H → D'.rt v H) (h3 : ∀ σ H, D.bk σ H → D'.bk σ H) (h4 : ∀ σ H, D.ct σ H → D'.ct σ H) (h : cSs X st D σ H) : cSs X st D' σ H := fun pins s I =>
  wpAny_mono (h pins s I) (fun f s' q => SP_mono h1 h2 h3 h4 q) fun _ _ z => z
end

/-! ### the second layer's readings -/
abbrev QE := D → Mem → Prop
structure Ends2 where
  nx : St2 → Mem → Prop
  rt : D → Mem → Prop
  bk : St2 → Mem → Prop := fun _ _ => False
  ct : St2 → Mem → Prop := fun _ _ => False
def LE (K : PySem.W.Frag) (ρ : St2) (σ : L2.St) (H : Hp) (Q : QE) : VK := fun v H' => ∃ d M', Den K H' d v ∧ R K ρ M' σ H' ∧ TK K H H' ∧ Q d M'
def LT (K : PySem.W.Frag) (ρ : St2) (σ : L2.St) (H : Hp) (Q : Bool → Mem → Prop) : Bool → Hp → Prop := fun b H' => ∃ M', R K ρ M' σ H' ∧ TK K H H' ∧ Q b M'
def LA (K : PySem.W.Frag) (ρ : St2) (σ : L2.St) (H : Hp) (Q : List D → Mem → Prop) : List V → Hp → Prop := fun vs H' => ∃ ds M', DenL K H' ds vs ∧ R K ρ M' σ H' ∧ TK K H H' ∧ Q ds M'
def LN (K : PySem.W.Frag) (H : Hp) (Q : St2 → Mem → Prop) : L2.St → Hp → Prop := fun σ' H' => ∃ ρ M, R K ρ M σ' H' ∧ TK K H H' ∧ Q ρ M
def LR (K : PySem.W.Frag) (H : Hp) (Q : D → Mem → Prop) : V → Hp → Prop := fun v H' => ∃ d M, Den K H' d v ∧ Rep K H' M ∧ TK K H H' ∧ Q d M
def LS (K : PySem.W.Frag) (H : Hp) (E : Ends2) : Ends := { nx := LN K H E.nx, rt := LR K H E.rt, bk := LN K H E.bk, ct := LN K H E.ct }
def WE (X : Cx) (e : Expr) (ρ : St2) (M : Mem) (Q : QE) : Prop := ∀ σ H, R X.K ρ M σ H → cE X e σ H (LE X.K ρ σ H Q)
def WT (X : Cx) (e : Expr) (ρ : St2) (M : Mem) (Q : Bool → Mem → Prop) : Prop := ∀ σ H, R X.K ρ M σ H → cT X e σ H (LT X.K ρ σ H Q)
def WW (X : Cx) (e : Expr) (ρ : St2) (M : Mem) (Q : Bool → Mem → Prop) : Prop := ∀ σ H, R X.K ρ M σ H → cW X e σ H (LT X.K ρ σ H Q)
def WA (X : Cx) (es : List Expr) (ρ : St2) (M : Mem) (Q : List D → Mem → Prop) : Prop := ∀ σ H, R X.K ρ M σ H → cA X es σ H (LA X.K ρ σ H Q)
def WS (X : Cx) (st : Stmt) (E : Ends2) (ρ : St2) (M : Mem) : Prop := ∀ σ H, R X.K ρ M σ H → cS X st (LS X.K H E) σ H
def WSs (X : Cx) (st : List Stmt) (E : Ends2) (ρ : St2) (M : Mem) : Prop := ∀ σ H, R X.K ρ M σ H → cSs X st (LS X.K H E) σ H
/-- the ends of a statement that others follow; of a loop's body -/
abbrev consE (X : Cx) (rest : List Stmt) (E : Ends2) : Ends2 := { E with nx := WSs X rest E }
abbrev loopE (E : Ends2) (I : St2 → Mem → Prop) : Ends2 := { nx := I, rt := E.rt, bk := E.nx, ct := I }
def WG (X : Cx) (tg : Expr) (d : D) (ρ : St2) (M : Mem) (Q : St2 → Mem → Prop) : Prop := ∀ v σ H, R X.K ρ M σ H → Den X.K H d v → cG X tg v σ H (LN X.K H Q)

section
variable {X : Cx} {ρ : St2} {M : Mem}
theorem WE.mono {e : Expr} {Q Q' : QE} (m : ∀ d M, Q d M → Q' d M) (h : WE X e ρ M Q) : WE X e ρ M Q' := fun σ H r => cE_mono (fun v H' ⟨d, M', a, b, c, q⟩ => ⟨d, M', a, b, c, m d M' q⟩) (h σ H r)
theorem WT.mono {e : Expr} {Q Q' : Bool → Mem → Prop} (m : ∀ d M, Q d M → Q' d M) (h : WT X e ρ M Q) : WT X e ρ M Q' := fun σ H r => cT_mono (fun v H' ⟨M', b, c, q⟩ => ⟨M', b, c, m v M' q⟩) (h σ H r)
theorem WSs.mono {st : List Stmt} {E E' : Ends2} (h1 : ∀ ρ M, E.nx ρ M → E'.nx ρ M) (h2 : ∀ v M, E.rt v M → E'.rt v M) (h3 : ∀ ρ M, E.bk ρ M → E'.bk ρ M) (h4 : ∀ ρ M, E.ct ρ M → E'.ct ρ M) (h : WSs X st E ρ M) : WSs X st E' ρ M := fun σ H r =>
  cSs_mono (D := LS X.K H E) (D' := LS X.K H E') (fun _ _ ⟨a, b, c, t, q⟩ => ⟨a, b, c, t, h1 a b q⟩) (fun _ _ ⟨a, b, c, d, t, q⟩ => ⟨a, b, c, d, t, h2 a b q⟩) (fun _ _ ⟨a, b, c, t, q⟩ => ⟨a, b, c, t, h3 a b q⟩) (fun _ _ ⟨a, b, c, t, q⟩ => ⟨a, b, c, t, h4 a b q⟩) (h σ H r)
theorem WS.mono {st : Stmt} {E E' : Ends2} (h1 : ∀ ρ M, E.nx ρ M → E'.nx ρ M) (h2 : ∀ v M, E.rt v M → E'.rt v M) (h3 : ∀ ρ M, E.bk ρ M → E'.bk ρ M) (h4 : ∀ ρ M, E.ct ρ M → E'.ct ρ M) (h : WS X st E ρ M) : WS X st E' ρ M := fun σ H r =>
  cS_mono (D := LS X.K H E) (D' := LS X.K H E') (fun _ _ ⟨a, b, c, t, q⟩ => ⟨a, b, c, t, h1 a b q⟩) (fun _ _ ⟨a, b, c, d, t, q⟩ => ⟨a, b, c, d, t, h2 a b q⟩) (fun _ _ ⟨a, b, c, t, q⟩ => ⟨a, b, c, t, h3 a b q⟩) (fun _ _ ⟨a, b, c, t, q⟩ => ⟨a, b, c, t, h4 a b q⟩) (h σ H r)
/-- a statement's ends seen from an earlier heap -/
theorem cSs_back {st : List Stmt} {E : Ends2} {σ : L2.St} {H H0 : Hp} (t : TK X.K H0 H) (h : cSs X st (LS X.K H E) σ H) : cSs X st (LS X.K H0 E) σ H :=
  cSs_mono (D := LS X.K H E) (D' := LS X.K H0 E) (fun _ _ ⟨a, b, c, t', q⟩ => ⟨a, b, c, t.trans t', q⟩) (fun _ _ ⟨a, b, c, d, t', q⟩ => ⟨a, b, c, d, t.trans t', q⟩) (fun _ _ ⟨a, b, c, t', q⟩ => ⟨a, b, c, t.trans t', q⟩) (fun _ _ ⟨a, b, c, t', q⟩ => ⟨a, b, c, t.trans t', q⟩) h

end
end Y

set_option Elab.async false
set_option linter.all false
set_option autoImplicit false
set_option maxRecDepth 100000
set_option maxHeartbeats 4000000
namespace Y
open PySem PySem.Spec PyProof.Rows L2

/-! ### what a context is known for -/
def visB (sc : Scope) (x : Str) : Bool := (match sc.names.lookup x with | some .local => true | some .cell => true | some .free => true | _ => false) && !(x == ("__debug__" : Str)) && !(x == ("__classdict__" : Str))
def locB (sc : Scope) (x : Str) : Bool := match sc.names.lookup x with | some .local => true | some .cell => true | _ => false
def lclB (sc : Scope) (x : Str) : Bool := match sc.names.lookup x with | some .local => true | _ => false
def glB (sc : Scope) (x : Str) : Bool := (match sc.names.lookup x with | some .globalImplicit => true | _ => false) && !(x == ("__debug__" : Str)) && !(x == ("__name__" : Str))
def frB (sc : Scope) (x : Str) : Bool := match sc.names.lookup x with | some .cell => true | some .free => true | _ => false
/-- the names of a scope, as one list: seen, stored, stored and no cells, of the module -/
structure Nms where
  v : List Str
  l : List Str
  c : List Str
  g : List Str
  f : List Str
  /-- an except suite -/
  hot : Bool := false
def Nms.ok (n : Nms) (sc : Scope) : Bool := n.v.all (visB sc) && n.l.all (locB sc) && n.c.all (lclB sc) && n.g.all (glB sc) && n.f.all (frB sc)
structure Cxt (X : Cx) (N : List Str) (sc : Nms) (P : Program) (w : World) (K : PySem.W.Frag) (mg : Str → Option Value) (base : Heap) (k : Nat) : Prop where
  hP : X.prog = P
  hw : X.w = w
  hK : X.K = K
  hmg : X.mg = mg
  hbase : X.base = base
  hN : X.N = N
  nd : N.Nodup
  calm : sc.hot = false → X.calm = true
  vis : ∀ x ∈ sc.v, Vis X.env.scope x ∧ (x == ("__debug__" : Str)) = false ∧ (x == ("__classdict__" : Str)) = false
  loc : ∀ x ∈ sc.l, L2.Loc X.env.scope x
  lcl : ∀ x ∈ sc.c, X.env.scope.names.lookup x = some .local
  gl : ∀ x ∈ sc.g, Gl X x ∧ (x == ("__debug__" : Str)) = false ∧ x ≠ ("__name__" : Str)
  fn : ∀ x ∈ sc.l, X.fn x = true ∨ X.env.scope.names.lookup x = some .local
  fr : ∀ x ∈ sc.f, X.env.scope.names.lookup x = some .cell ∨ X.env.scope.names.lookup x = some .free
  kind : X.env.scope.kind = .function
  room : sc.hot = false → Room k X.A
  gd : X.A.guards = some []
  never : PassesOwn (model X.prog X.w) X.A X.env X.xe
theorem visB_dbg {sc : Scope} {x : Str} (h : visB sc x = true) : (x == ("__debug__" : Str)) = false ∧ (x == ("__classdict__" : Str)) = false := by
  unfold visB at h
  simp only [Bool.and_eq_true, Bool.not_eq_true'] at h
  exact ⟨h.1.2, h.2⟩
theorem glB_dbg {sc : Scope} {x : Str} (h : glB sc x = true) : (x == ("__debug__" : Str)) = false ∧ x ≠ ("__name__" : Str) := by
  unfold glB at h
  simp only [Bool.and_eq_true, Bool.not_eq_true'] at h
  exact ⟨h.1.2, by simpa using h.2⟩

/-! ### branching -/
def Br (b : Bool) (A B : Prop) : Prop := (b = true → A) ∧ (b = false → B)
theorem Br.t {A B : Prop} (h : A) : Br true A B := ⟨fun _ => h, fun z => nomatch z⟩
theorem Br.f {A B : Prop} (h : B) : Br false A B := ⟨fun z => (nomatch z), fun _ => h⟩
theorem Br.ite {b : Bool} {A B : Prop} (h : Br b A B) : if b = true then A else B := by
  cases b with
  | true => rw [if_pos rfl]; exact h.1 rfl
  | false => rw [if_neg Bool.false_ne_true]; exact h.2 rfl
theorem Br.dec {p A B : Prop} [Decidable p] (h1 : p → A) (h2 : ¬ p → B) : Br (decide p) A B := ⟨fun z => h1 (of_decide_eq_true z), fun z => h2 (of_decide_eq_false z)⟩
theorem Br.decT {p A B : Prop} [Decidable p] (c : p) (h : A) : Br (decide p) A B := Br.dec (fun _ => h) fun n => (n c).elim
theorem Br.decF {p A B : Prop} [Decidable p] (c : ¬ p) (h : B) : Br (decide p) A B := Br.dec (fun n => (c n).elim) fun _ => h
theorem Br.not {b : Bool} {A B : Prop} (h : Br b B A) : Br (!b) A B := ⟨fun z => h.2 (by simpa using z), fun z => h.1 (by simpa using z)⟩
theorem Br.idd {b : Bool} {A B : Prop} (h : Br b A B) : Br (id b) A B := h
theorem Br.mono {b : Bool} {A B A' B' : Prop} (h : Br b A B) (f : A → A') (g : B → B') : Br b A' B' := ⟨fun z => f (h.1 z), fun z => g (h.2 z)⟩

section
variable {X : Cx} {ρ : St2} {M : Mem} {N : List Str} {sc : Nms} {P : Program} {w : World} {K : PySem.W.Frag} {mg : Str → Option Value} {base : Heap} {k0 : Nat}

/-! ### constants, names -/
theorem we_int {i : Int} {j : Nat} {pos : Pos} {Q : QE} (q : Q (.int i) M) : WE X (.Constant (.int i) j pos) ρ M Q := fun σ H r => cE_of pe_int ⟨_, _, den_int.mpr rfl, r, TK.refl _, q⟩
theorem we_bl {b : Bool} {j : Nat} {pos : Pos} {Q : QE} (q : Q (.bl b) M) : WE X (.Constant (.bool b) j pos) ρ M Q := fun σ H r => cE_of pe_bl ⟨_, _, den_bl.mpr rfl, r, TK.refl _, q⟩
theorem we_str {x : Str} {j : Nat} {pos : Pos} {Q : QE} (q : Q (.str x) M) : WE X (.Constant (.str x) j pos) ρ M Q := fun σ H r => cE_of pe_str ⟨_, _, den_str.mpr rfl, r, TK.refl _, q⟩
theorem we_non {j : Nat} {pos : Pos} {Q : QE} (q : Q .non M) : WE X (.Constant .none j pos) ρ M Q := fun σ H r => cE_of pe_non ⟨_, _, den_non.mpr rfl, r, TK.refl _, q⟩
/-- the name x stands in slot i; it holds d -/
inductive Slot : List Str → St2 → Nat → Str → D → Prop where
  | here {x : Str} {N : List Str} {d : D} {ρ : St2} : Slot (x :: N) (some d :: ρ) 0 x d
  | there {x y : Str} {N : List Str} {d : D} {o : Option D} {ρ : St2} {i : Nat} : Slot N ρ i x d → Slot (y :: N) (o :: ρ) (i + 1) x d
inductive Nm : List Str → Nat → Str → Prop where
  | here {x : Str} {N : List Str} : Nm (x :: N) 0 x
  | there {x y : Str} {N : List Str} {i : Nat} : Nm N i x → Nm (y :: N) (i + 1) x
/-- the frame behind x = d -/
inductive Put : List Str → St2 → Str → D → St2 → Prop where
  | here {x : Str} {N : List Str} {d : D} {o : Option D} {ρ : St2} : Put (x :: N) (o :: ρ) x d (some d :: ρ)
  | there {x y : Str} {N : List Str} {d : D} {o : Option D} {ρ ρ' : St2} : Put N ρ x d ρ' → Put (y :: N) (o :: ρ) x d (o :: ρ')
theorem Put.get {N : List Str} {ρ ρ' : St2} {x : Str} {d : D} (h : Put N ρ x d ρ') : ∃ i, N[i]? = some x ∧ ρ' = ρ.set i (some d) := by
  induction h with
  | here => exact ⟨0, rfl, rfl⟩
  | there _ ih => obtain ⟨i, a, b⟩ := ih; exact ⟨i + 1, by simpa using a, by rw [b]; rfl⟩
theorem Slot.get {N : List Str} {ρ : St2} {i : Nat} {x : Str} {d : D} (h : Slot N ρ i x d) : N[i]? = some x ∧ ρ[i]? = some (some d) := by
  induction h with
  | here => exact ⟨rfl, rfl⟩
  | there _ ih => simpa using ih
theorem Nm.get {N : List Str} {i : Nat} {x : Str} (h : Nm N i x) : N[i]? = some x := by
  induction h with
  | here => rfl
  | there _ ih => simpa using ih
theorem we_var (C : Cxt X N sc P w K mg base k0) {x : Str} {i : Nat} {d : D} {pos : Pos} {Q : QE} (sl : Slot N ρ i x d) (hv : x ∈ sc.v) (q : Q d M) : WE X (.Name x pos) ρ M Q := fun σ H r => by
  obtain ⟨v, e, dn⟩ := r.env.at_ i d sl.get.2
  exact cE_of (pe_var (i := i) (by rw [C.hN]; exact sl.get.1) (C.vis x hv).1 (C.vis x hv).2.1 (C.vis x hv).2.2) ⟨v, e, d, M, dn, r, TK.refl _, q⟩
theorem we_glob (C : Cxt X N sc P w K mg base k0) {x : Str} {d : D} {v : V} {u : Value} {pos : Pos} {Q : QE} (hg : x ∈ sc.g) (hm : mg x = some u) (rv : RelV v u) (dn : ∀ H, Den K H d v) (q : Q d M) : WE X (.Name x pos) ρ M Q := fun σ H r => by
  obtain rfl := C.hK
  obtain rfl := C.hmg
  exact cE_of (pe_glob (C.gl x hg).1 hm rv (C.gl x hg).2.1) ⟨d, M, dn H, r, TK.refl _, q⟩
theorem we_globI (C : Cxt X N sc P w K mg base k0) {x : Str} {i : Int} {t : Tok} {pos : Pos} {Q : QE} (hg : x ∈ sc.g) (hm : mg x = some (.int i t)) (q : Q (.int i) M) : WE X (.Name x pos) ρ M Q :=
  we_glob C hg hm (v := .int i) ⟨t, rfl⟩ (fun _ => den_int.mpr rfl) q
theorem we_globS (C : Cxt X N sc P w K mg base k0) {x : Str} {i : Str} {t : Tok} {pos : Pos} {Q : QE} (hg : x ∈ sc.g) (hm : mg x = some (.str i t)) (q : Q (.str i) M) : WE X (.Name x pos) ρ M Q :=
  we_glob C hg hm (v := .str i) ⟨t, rfl⟩ (fun _ => den_str.mpr rfl) q
/-- a built-in class as a value -/
theorem we_type (C : Cxt X N sc P w K mg base k0) {x : Str} {T : String} {pos : Pos} {Q : QE} (hg : x ∈ sc.g) (hm : mg x = none) (hv : bootBuiltins x = some (.type T)) (q : Q (.ty T) M) : WE X (.Name x pos) ρ M Q := fun σ H r => by
  obtain rfl := C.hmg
  exact cE_of (pe_bltn (v := .ty T) (C.gl x hg).1 hm hv rfl (C.gl x hg).2.2 (C.gl x hg).2.1) ⟨.ty T, M, den_ty.mpr rfl, r, TK.refl _, q⟩

/-! ### operators -/
def RMono (r : R2) : Prop := ∀ (x y : V) (H : Hp) (Q Q' : VK), (∀ v H, Q v H → Q' v H) → r x y H Q → r x y H Q'
theorem RMono.go {r : R2} (h : RMono r) {x y : V} {H : Hp} {Q Q' : VK} (m : ∀ v H, Q v H → Q' v H) (q : r x y H Q) : r x y H Q' := h x y H Q Q' m q
def OpL (K : PySem.W.Frag) (r : R2) (r2 : D → D → Mem → QE → Prop) : Prop := ∀ (d1 d2 : D) (x y : V) (H : Hp) (ρ : St2) (σ : L2.St) (M : Mem) (H0 : Hp) (Q : QE), Den K H d1 x → Den K H d2 y → R K ρ M σ H → TK K H0 H → r2 d1 d2 M Q → r x y H (LE K ρ σ H0 Q)
theorem OpL.go {K : PySem.W.Frag} {r : R2} {r2 : D → D → Mem → QE → Prop} (h : OpL K r r2) {d1 d2 : D} {x y : V} {H : Hp} {ρ : St2} {σ : L2.St} {M : Mem} {H0 : Hp} {Q : QE} (a : Den K H d1 x) (b : Den K H d2 y) (c : R K ρ M σ H) (d : TK K H0 H) (e : r2 d1 d2 M Q) : r x y H (LE K ρ σ H0 Q) :=
  h d1 d2 x y H ρ σ M H0 Q a b c d e
structure OpB (X : Cx) (f : Value → Value → Sem Value) (r2 : D → D → Mem → QE → Prop) : Prop where
  ex : ∃ r : R2, OpR X f r ∧ RMono r ∧ OpL X.K r r2
theorem opr_or {f : Value → Value → Sem Value} {r r' : R2} (h : OpR X f r) (h' : OpR X f r') : OpR X f (fun x y H Q => r x y H Q ∨ r' x y H Q) := fun pins s σ H x y v u Q I rx ry q =>
  q.elim (h pins s σ H x y v u Q I rx ry) (h' pins s σ H x y v u Q I rx ry)
theorem rm_or {r r' : R2} (h : RMono r) (h' : RMono r') : RMono (fun x y H Q => r x y H Q ∨ r' x y H Q) := fun _ _ _ _ _ m q => q.elim (fun a => .inl (h.go m a)) fun a => .inr (h'.go m a)
theorem we_two {a b : Expr} {σ : L2.St} {H : Hp} {r : R2} {r2 : D → D → Mem → QE → Prop} {Q : QE} (hl : OpL X.K r r2) (h : WE X a ρ M fun d1 M1 => WE X b ρ M1 fun d2 M2 => r2 d1 d2 M2 Q) (rr : R X.K ρ M σ H) : tOp r (cE X a) (cE X b) σ H (LE X.K ρ σ H Q) := by
  refine cE_mono ?_ (h σ H rr)
  rintro x H1 ⟨d1, M1, dn1, r1, t1, q1⟩
  refine cE_mono ?_ (q1 σ H1 r1)
  rintro y H2 ⟨d2, M2, dn2, r2, t2, q2⟩
  exact hl.go (dn1.mono t2) dn2 r2 (t1.trans t2) q2
theorem we_binop {a b : Expr} {o : Operator} {pos : Pos} {r2 : D → D → Mem → QE → Prop} {Q : QE} (op : OpB X (binaryOp o) r2) (h : WE X a ρ M fun d1 M1 => WE X b ρ M1 fun d2 M2 => r2 d1 d2 M2 Q) : WE X (.BinOp a o b pos) ρ M Q := fun σ H rr => by
  obtain ⟨r, h1, _, h3⟩ := op.ex
  exact cE_of (pe_op h1 peC peC) (we_two h3 h rr)
theorem we_cmp {a b : Expr} {o : CmpOp} {pos : Pos} {r2 : D → D → Mem → QE → Prop} {Q : QE} (op : OpB X (compareOp o) r2) (hm : behindInMarks o b = false) (h : WE X a ρ M fun d1 M1 => WE X b ρ M1 fun d2 M2 => r2 d1 d2 M2 Q) : WE X (.Compare a [o] [b] pos) ρ M Q := fun σ H rr => by
  obtain ⟨r, h1, _, h3⟩ := op.ex
  exact cE_of (pe_cmpR h1 peC peC hm) (we_two h3 h rr)
/-- the answer is a truth value -/
def isB (Q : Bool → Mem → Prop) : QE := fun d M => ∃ b, d = .bl b ∧ Q b M
theorem lt_of_le {σ : L2.St} {H : Hp} {Q : Bool → Mem → Prop} {v : V} {H' : Hp} (h : LE X.K ρ σ H (isB Q) v H') : ∃ k, v = .bl k ∧ LT X.K ρ σ H Q k H' := by
  obtain ⟨d, M', dn, r, t, b, rfl, q⟩ := h
  exact ⟨b, den_bl.mp dn, M', r, t, q⟩
theorem wt_cmp {a b : Expr} {o : CmpOp} {pos : Pos} {r2 : D → D → Mem → QE → Prop} {Q : Bool → Mem → Prop} (op : OpB X (compareOp o) r2) (hm : behindInMarks o b = false) (h : WE X a ρ M fun d1 M1 => WE X b ρ M1 fun d2 M2 => r2 d1 d2 M2 (isB Q)) : WT X (.Compare a [o] [b] pos) ρ M Q := fun σ H rr => by
  obtain ⟨r, h1, h2, h3⟩ := op.ex
  refine cT_of (pt_cmpR h1 peC peC hm) ?_
  have z := we_two h3 h rr
  show cE X a σ H fun x H1 => cE X b σ H1 fun y H2 => r x y H2 fun v H' => ∃ k, v = .bl k ∧ _
  exact cE_mono (fun x H1 q => cE_mono (fun y H2 q2 => h2.go (fun v H' q3 => lt_of_le q3) q2) q) z
/-- a op b op' c -/
theorem chain_run {a b c : Expr} {σ : L2.St} {H : Hp} {r r' : R2} {r2 r2' : D → D → Mem → QE → Prop} {Q : QE} (h2 : RMono r) (h3 : OpL X.K r r2) (h3' : OpL X.K r' r2')
    (h : WE X a ρ M fun d1 M1 => WE X b ρ M1 fun d2 M2 => r2 d1 d2 M2 (isB fun k M3 => Br k (WE X c ρ M3 fun d3 M4 => r2' d2 d3 M4 Q) (Q (.bl false) M3))) (rr : R X.K ρ M σ H) : tChain r r' (cE X a) (cE X b) (cE X c) σ H (LE X.K ρ σ H Q) := by
  refine cE_mono ?_ (h σ H rr)
  rintro x H1 ⟨d1, M1, dn1, r1, t1, q1⟩
  refine cE_mono ?_ (q1 σ H1 r1)
  rintro y H2 ⟨d2, M2, dn2, r2, t2, q2⟩
  refine h2.go ?_ (h3.go (dn1.mono t2) dn2 r2 (TK.refl H2) q2)
  rintro z H3 ⟨d3, M3, dn3, r3, t3, k, rfl, br⟩
  refine ⟨k, den_bl.mp dn3, ?_⟩
  cases k with
  | true =>
    rw [if_pos rfl]
    refine cE_mono ?_ (br.1 rfl σ H3 r3)
    rintro u H4 ⟨d4, M4, dn4, r4, t4, q4⟩
    exact h3'.go (dn2.mono (t3.trans t4)) dn4 r4 (((t1.trans t2).trans t3).trans t4) q4
  | false =>
    rw [if_neg Bool.false_ne_true]
    exact ⟨_, M3, den_bl.mpr rfl, r3, (t1.trans t2).trans t3, br.2 rfl⟩
theorem we_chain {a b c : Expr} {o o' : CmpOp} {pos : Pos} {r2 r2' : D → D → Mem → QE → Prop} {Q : QE} (op : OpB X (compareOp o) r2) (op' : OpB X (compareOp o') r2') (hm : lastMarks [o, o'] [b, c] = false)
    (h : WE X a ρ M fun d1 M1 => WE X b ρ M1 fun d2 M2 => r2 d1 d2 M2 (isB fun k M3 => Br k (WE X c ρ M3 fun d3 M4 => r2' d2 d3 M4 Q) (Q (.bl false) M3))) : WE X (.Compare a [o, o'] [b, c] pos) ρ M Q := fun σ H rr => by
  obtain ⟨r, h1, h2, h3⟩ := op.ex
  obtain ⟨r', h1', h2', h3'⟩ := op'.ex
  exact cE_of (pe_chain h1 h1' peC peC peC hm) (chain_run h2 h3 h3' h rr)
theorem tChain_mono {r r' : R2} (h2 : RMono r) (h2' : RMono r') {a b c : Expr} {σ : L2.St} {H : Hp} {Q Q' : VK} (m : ∀ v H, Q v H → Q' v H) (h : tChain r r' (cE X a) (cE X b) (cE X c) σ H Q) : tChain r r' (cE X a) (cE X b) (cE X c) σ H Q' :=
  cE_mono (fun x H1 q => cE_mono (fun y H2 q2 => h2.go (fun z H3 ⟨k, e, q3⟩ => ⟨k, e, by
    cases k with
    | true => rw [if_pos rfl] at q3 ⊢; exact cE_mono (fun u H4 q4 => h2'.go m q4) q3
    | false => rw [if_neg Bool.false_ne_true] at q3 ⊢; exact m _ _ q3⟩) q2) q) h
theorem wt_chain {a b c : Expr} {o o' : CmpOp} {pos : Pos} {r2 r2' : D → D → Mem → QE → Prop} {Q : Bool → Mem → Prop} (op : OpB X (compareOp o) r2) (op' : OpB X (compareOp o') r2') (hm : lastMarks [o, o'] [b, c] = false)
    (h : WE X a ρ M fun d1 M1 => WE X b ρ M1 fun d2 M2 => r2 d1 d2 M2 (isB fun k M3 => Br k (WE X c ρ M3 fun d3 M4 => r2' d2 d3 M4 (isB Q)) (isB Q (.bl false) M3))) : WT X (.Compare a [o, o'] [b, c] pos) ρ M Q := fun σ H rr => by
  obtain ⟨r, h1, h2, h3⟩ := op.ex
  obtain ⟨r', h1', h2', h3'⟩ := op'.ex
  exact cT_of (pt_chain h1 h1' peC peC peC hm) (tChain_mono h2 h2' (fun v H' q => lt_of_le q) (chain_run h2 h3 h3' h rr))

/-! ### which operation, by the data -/
def int2 (f : Int → Int → D) (ok : Int → Int → Prop) : D → D → Mem → QE → Prop
  | .int i, .int j, M, Q => ok i j ∧ Q (f i j) M
  | _, _, _, _ => False
theorem opl_int {K : PySem.W.Frag} {g : Int → Int → V} {f : Int → Int → D} {ok : Int → Int → Prop} (hg : ∀ (H : Hp) i j, Den K H (f i j) (g i j)) : OpL K (fun x y H Q => ∃ i j, x = .int i ∧ y = .int j ∧ ok i j ∧ Q (g i j) H) (int2 f ok) := by
  intro d1 d2 x y H ρ σ M H0 Q a b r t h
  cases d1 <;> cases d2 <;> try exact False.elim h
  rw [den_int] at a b
  exact ⟨_, _, a, b, h.1, _, M, hg _ _ _, r, t, h.2⟩
theorem rm_int {g : Int → Int → V} {ok : Int → Int → Prop} : RMono (fun x y H Q => ∃ i j, x = .int i ∧ y = .int j ∧ ok i j ∧ Q (g i j) H) := fun _ _ _ _ _ m ⟨i, j, a, b, c, q⟩ => ⟨i, j, a, b, c, m _ _ q⟩
theorem opr_i0 {f : Value → Value → Sem Value} {g : Int → Int → V} (h : OpR X f (rI0 g)) : OpR X f (fun x y H Q => ∃ i j, x = .int i ∧ y = .int j ∧ True ∧ Q (g i j) H) := fun pins s σ H x y v u Q I rx ry ⟨i, j, a, b, _, q⟩ => h pins s σ H x y v u Q I rx ry ⟨i, j, a, b, q⟩
/-- + -/
def add2 : D → D → Mem → QE → Prop
  | .int i, .int j, M, Q => Q (.int (i + j)) M
  | .str s, .str t, M, Q => s.length + t.length ≤ sizeLine ∧ Q (.str (s ++ t)) M
  | .tup ds, .tup es, M, Q => ds.length + es.length ≤ sizeLine ∧ Q (.tup (ds ++ es)) M
  | .obj a, .obj b, M, Q => ∃ ds es, M a = some (.lst ds) ∧ M b = some (.lst es) ∧ ds.length + es.length ≤ sizeLine ∧ ∀ p, M p = none → Q (.obj p) (mup M p (.lst (ds ++ es)))
  | _, _, _, _ => False
theorem R.put {H : Hp} {σ : L2.St} {p : Addr} {o : HO} {m : MO} (r : R K ρ M σ H) (t : TK K H (upd H p o)) (n : RepO K (upd H p o) p m) (hx : NoX H p := by first | exact NoX.none (by assumption) | exact NoX.lst (by assumption) | exact NoX.dK (by assumption) | exact NoX.ins (by assumption)) : R K ρ (mup M p m) σ (upd H p o) := ⟨r.env.mono t, r.rep.put t n hx⟩
theorem R.newL {H : Hp} {σ : L2.St} {p : Addr} {ds : List D} {vs : List V} (r : R K ρ M σ H) (h : H p = none) (l : DenL K H ds vs) : R K ρ (mup M p (.lst ds)) σ (upd H p (.lst vs)) :=
  r.put (TK.fresh h) ⟨vs, upd_same, l.mono (TK.fresh h)⟩
theorem R.newT {H : Hp} {σ : L2.St} {p : Addr} {o : HO} (r : R K ρ M σ H) (h : H p = none) : R K ρ M σ (upd H p o) := ⟨r.env.mono (TK.fresh h), r.rep.tup h⟩
theorem den_newT {H : Hp} {p : Addr} {ds : List D} {vs : List V} (h : H p = none) (l : DenL K H ds vs) : Den K (upd H p (.tup vs)) (.tup ds) (.ref p) :=
  den_tup.mpr ⟨p, vs, rfl, .inl (.inl upd_same), l.mono (TK.fresh h)⟩
theorem Rep.lst {H : Hp} (r : Rep K H M) {a : Addr} {ds : List D} (e : M a = some (.lst ds)) : ∃ xs, H a = some (.lst xs) ∧ DenL K H ds xs := r a _ e
theorem ob_add : OpB X (binaryOp .Add) add2 := by
  refine ⟨_, opr_or op_add (opr_or op_add_str (opr_or op_catA op_cat)), ?_, ?_⟩
  · refine rm_or ?_ (rm_or ?_ (rm_or ?_ ?_))
    · rintro x y H Q Q' m ⟨i, j, a, b, q⟩; exact ⟨i, j, a, b, m _ _ q⟩
    · rintro x y H Q Q' m ⟨i, j, a, b, c, q⟩; exact ⟨i, j, a, b, c, m _ _ q⟩
    · rintro x y H Q Q' m ⟨a, b, xs, ys, c, d, e, f, g, h1, h2, h3⟩; exact ⟨a, b, xs, ys, c, d, e, f, g, fun z => m _ _ (h1 z), fun z z2 => m _ _ (h2 z z2), fun z z2 p hp => m _ _ (h3 z z2 p hp)⟩
    · rintro x y H Q Q' m ⟨a, b, xs, ys, c, d, e, f, g, h1⟩; exact ⟨a, b, xs, ys, c, d, e, f, g, fun p hp => m _ _ (h1 p hp)⟩
  · intro d1 d2 x y H ρ σ M H0 Q a b r t h
    cases d1 <;> cases d2 <;> try exact False.elim h
    · rw [den_int] at a b
      exact .inl ⟨_, _, a, b, _, M, den_int.mpr rfl, r, t, h⟩
    · rw [den_str] at a b
      exact .inr (.inl ⟨_, _, a, b, h.1, _, M, den_str.mpr rfl, r, t, h.2⟩)
    · rename_i ds es
      obtain ⟨p, xs, rfl, sp, lp⟩ := den_tup.mp a
      obtain ⟨q, ys, rfl, sq, lq⟩ := den_tup.mp b
      obtain ⟨hz, hq⟩ := h
      refine .inr (.inr (.inl ⟨p, q, xs, ys, rfl, rfl, sp, sq, by rw [lp.length, lq.length]; exact hz, fun e => ?_, fun e1 e2 => ?_, fun e1 e2 n hn => ?_⟩))
      · subst e
        have : ds = [] := List.eq_nil_of_length_eq_zero (by rw [← lp.length]; rfl)
        subst this
        exact ⟨_, M, b, r, t, hq⟩
      · subst e2
        have : es = [] := List.eq_nil_of_length_eq_zero (by rw [← lq.length]; rfl)
        subst this
        rw [List.append_nil] at hq
        exact ⟨_, M, a, r, t, hq⟩
      · exact ⟨_, M, den_newT hn (lp.append lq), r.newT hn, t.trans (TK.fresh hn), hq⟩
    · rw [den_obj] at a b
      obtain ⟨ds, es, ha, hb, hz, hq⟩ := h
      obtain ⟨xs, hxa, lx⟩ := r.rep.lst ha
      obtain ⟨ys, hyb, ly⟩ := r.rep.lst hb
      refine .inr (.inr (.inr ⟨_, _, xs, ys, a, b, hxa, hyb, by rw [lx.length, ly.length]; exact hz, fun p hp => ?_⟩))
      exact ⟨.obj p, _, den_obj.mpr rfl, r.newL hp (lx.append ly), t.trans (TK.fresh hp), hq p (r.rep.free hp)⟩
theorem ob_sub : OpB X (binaryOp .Sub) (int2 (fun i j => .int (i - j)) fun _ _ => True) := ⟨_, opr_i0 op_sub, rm_int, opl_int fun _ _ _ => den_int.mpr rfl⟩
theorem ob_mod : OpB X (binaryOp .Mod) (int2 (fun i j => .int (i.fmod j)) fun _ j => j ≠ 0) := ⟨_, op_modN, rm_int, opl_int fun _ _ _ => den_int.mpr rfl⟩
theorem ob_pow : OpB X (binaryOp .Pow) (int2 (fun i j => .int (i ^ j.toNat)) CPow) := ⟨_, op_pow, rm_int, opl_int fun _ _ _ => den_int.mpr rfl⟩
theorem ob_fdiv : OpB X (binaryOp .FloorDiv) (int2 (fun i j => .int (i / j)) CDivW) := ⟨_, op_fdivW, rm_int, opl_int fun _ _ _ => den_int.mpr rfl⟩
theorem ob_lt : OpB X (compareOp .Lt) (int2 (fun i j => .bl (decide (i < j))) fun _ _ => True) := ⟨_, opr_i0 op_lt, rm_int, opl_int fun _ _ _ => den_bl.mpr rfl⟩
theorem ob_le : OpB X (compareOp .LtE) (int2 (fun i j => .bl (decide (i ≤ j))) fun _ _ => True) := ⟨_, opr_i0 op_le, rm_int, opl_int fun _ _ _ => den_bl.mpr rfl⟩
theorem ob_gt : OpB X (compareOp .Gt) (int2 (fun i j => .bl (decide (j < i))) fun _ _ => True) := ⟨_, opr_i0 op_gt, rm_int, opl_int fun _ _ _ => den_bl.mpr rfl⟩
theorem ob_ge : OpB X (compareOp .GtE) (int2 (fun i j => .bl (decide (j ≤ i))) fun _ _ => True) := ⟨_, opr_i0 op_ge, rm_int, opl_int fun _ _ _ => den_bl.mpr rfl⟩
end
end Y

set_option Elab.async false
set_option linter.all false
set_option autoImplicit false
set_option maxRecDepth 100000
set_option maxHeartbeats 4000000
namespace Y
open PySem PySem.Spec PyProof.Rows L2
section
variable {X : Cx} {ρ : St2} {M : Mem} {N : List Str} {sc : Nms} {P : Program} {w : World} {K : PySem.W.Frag} {mg : Str → Option Value} {base : Heap} {k0 : Nat}

/-! ### equality, is None, in -/
def flatD : D → Bool
  | .non => true | .bl _ => true | .int _ => true | .str _ => true | _ => false
def toV : D → V
  | .non => .non | .bl b => .bl b | .int i => .int i | .str x => .str x | .obj a => .ref a | .ty n => .ty n | .tup _ => .non | .ro _ => .non | .exn _ _ _ => .non | .kls _ => .non
theorem den_flat {H : Hp} {d : D} {v : V} (f : flatD d = true) (h : Den K H d v) : v = toV d := by
  cases d <;> first | (rw [den_non] at h; exact h) | (rw [den_bl] at h; exact h) | (rw [den_int] at h; exact h) | (rw [den_str] at h; exact h) | (exact absurd f (by simp [flatD]))
def scalD (a b : D) : Bool := flatD a && flatD b && scal (toV a) (toV b)
mutual
def D.py : D → PyData
  | .non => .none | .bl b => .bool b | .int i => .int i | .str x => .str x | .tup ds => .tuple (pyL ds) | .obj _ => .none | .ty _ => .none | .ro ds => .list (pyL ds) | .exn _ _ _ => .none | .kls _ => .none
def pyL : List D → List PyData
  | [] => []
  | d :: ds => D.py d :: pyL ds
end
mutual
/-- data all through -/
def isDat : D → Bool
  | .tup ds => isDatL ds
  | .ro ds => isDatL ds
  | .obj _ => false
  | .ty _ => false
  | .exn _ _ _ => false
  | .kls _ => false
  | _ => true
def isDatL : List D → Bool
  | [] => true
  | d :: ds => isDat d && isDatL ds
end
mutual
theorem den_dp {H : Hp} : ∀ {d : D} {v : V}, isDat d = true → Den K H d v → Dp K H v d.py
  | .non, v, _, h => by rw [den_non.mp h]; exact .non
  | .bl _, v, _, h => by rw [den_bl.mp h]; exact .bl _
  | .int _, v, _, h => by rw [den_int.mp h]; exact .int _
  | .str _, v, _, h => by rw [den_str.mp h]; exact .str _
  | .tup ds, v, f, h => by
    obtain ⟨a, xs, rfl, s, l⟩ := den_tup.mp h
    exact .tup s (denL_dp (by simpa [isDat] using f) l)
  | .ro ds, v, f, h => by
    obtain ⟨a, xs, rfl, s, l⟩ := den_ro.mp h
    exact .lst s.l (denL_dp (by simpa [isDat] using f) l)
  | .obj _, v, f, _ => by simp [isDat] at f
  | .ty _, v, f, _ => by simp [isDat] at f
  | .exn _ _ _, v, f, _ => by simp [isDat] at f
  | .kls _, v, f, _ => by simp [isDat] at f
theorem denL_dp {H : Hp} : ∀ {ds : List D} {vs : List V}, isDatL ds = true → DenL K H ds vs → DpAll K H vs (pyL ds)
  | [], vs, _, h => by rw [denL_nil.mp h]; exact .nil
  | d :: ds, vs, f, h => by
    obtain ⟨v, r, rfl, a, b⟩ := denL_cons.mp h
    simp only [isDatL, Bool.and_eq_true] at f
    exact .cons (den_dp f.1 a) (denL_dp f.2 b)
end
/-- a list's items -/
def lstOf : Option MO → Option (List D)
  | some (.lst ds) => some ds
  | _ => none
theorem lst_sq {H : Hp} {σ : L2.St} (r : R K ρ M σ H) {a : Addr} {ds : List D} (h : lstOf (M a) = some ds) : ∃ xs, SqL K H a xs ∧ DenL K H ds xs := by
  cases e : M a with
  | none => rw [e] at h; cases h
  | some o =>
    rw [e] at h
    cases o with
    | lst es => cases h; obtain ⟨xs, hx, l⟩ := r.rep a _ e; exact ⟨xs, .inl (.inl hx), l⟩
    | dk _ => cases h
    | ins _ _ => cases h
    | tab _ => cases h
    | code _ => cases h
/-- the data a value is, lists of the memory among it (not nested) -/
def datOf (M : Mem) : D → Option PyData
  | .obj a => (lstOf (M a)).bind fun ds => if isDatL ds = true then some (.list (pyL ds)) else none
  | d => if isDat d = true then some d.py else none
theorem datOf_dp {H : Hp} {σ : L2.St} (r : R K ρ M σ H) {d : D} {v : V} {p : PyData} (h : datOf M d = some p) (a : Den K H d v) : Dp K H v p := by
  cases d with
  | obj q =>
    rw [den_obj] at a
    subst a
    simp only [datOf] at h
    cases e : lstOf (M q) with
    | none => rw [e] at h; cases h
    | some ds =>
      rw [e, Option.bind_some] at h
      by_cases c : isDatL ds = true
      · rw [if_pos c] at h
        cases h
        obtain ⟨xs, hx, l⟩ := lst_sq r e
        exact .lst hx (denL_dp c l)
      · rw [if_neg c] at h; cases h
  | ty n => simp [datOf, isDat] at h
  | exn _ _ _ => simp [datOf, isDat] at h
  | kls _ => simp [datOf, isDat] at h
  | non => simp only [datOf, isDat, if_true] at h; cases h; exact den_dp rfl a
  | bl b => simp only [datOf, isDat, if_true] at h; cases h; exact den_dp rfl a
  | int i => simp only [datOf, isDat, if_true] at h; cases h; exact den_dp rfl a
  | str x => simp only [datOf, isDat, if_true] at h; cases h; exact den_dp rfl a
  | tup ds =>
    simp only [datOf] at h
    by_cases c : isDat (.tup ds) = true
    · rw [if_pos c] at h; cases h; exact den_dp c a
    · rw [if_neg c] at h; cases h
  | ro ds =>
    simp only [datOf] at h
    by_cases c : isDat (.ro ds) = true
    · rw [if_pos c] at h; cases h; exact den_dp c a
    · rw [if_neg c] at h; cases h
mutual
/-- the data a value is, lists of the memory among it at any depth -/
inductive DtR (M : Mem) : D → PyData → Prop
  | non : DtR M .non .none
  | bl (b : Bool) : DtR M (.bl b) (.bool b)
  | int (i : Int) : DtR M (.int i) (.int i)
  | str (x : Str) : DtR M (.str x) (.str x)
  | tup {ds : List D} {ps : List PyData} : DtRs M ds ps → DtR M (.tup ds) (.tuple ps)
  | ro {ds : List D} {ps : List PyData} : DtRs M ds ps → DtR M (.ro ds) (.list ps)
  | obj {a : Addr} {ds : List D} {ps : List PyData} : lstOf (M a) = some ds → DtRs M ds ps → DtR M (.obj a) (.list ps)
inductive DtRs (M : Mem) : List D → List PyData → Prop
  | nil : DtRs M [] []
  | cons {d : D} {ds : List D} {p : PyData} {ps : List PyData} : DtR M d p → DtRs M ds ps → DtRs M (d :: ds) (p :: ps)
end
mutual
theorem dtr_dp {H : Hp} {σ : L2.St} (r : R K ρ M σ H) : ∀ {d : D} {v : V} {p : PyData}, DtR M d p → Den K H d v → Dp K H v p
  | _, v, _, .non, h => by rw [den_non.mp h]; exact .non
  | _, v, _, .bl b, h => by rw [den_bl.mp h]; exact .bl b
  | _, v, _, .int i, h => by rw [den_int.mp h]; exact .int i
  | _, v, _, .str x, h => by rw [den_str.mp h]; exact .str x
  | _, v, _, .tup l, h => by
    obtain ⟨a, xs, rfl, s, dl⟩ := den_tup.mp h
    exact .tup s (dtrs_dp r l dl)
  | _, v, _, .ro l, h => by
    obtain ⟨a, xs, rfl, s, dl⟩ := den_ro.mp h
    exact .lst s.l (dtrs_dp r l dl)
  | _, v, _, .obj e l, h => by
    rw [den_obj.mp h]
    obtain ⟨xs, hx, dl⟩ := lst_sq r e
    exact .lst hx (dtrs_dp r l dl)
theorem dtrs_dp {H : Hp} {σ : L2.St} (r : R K ρ M σ H) : ∀ {ds : List D} {vs : List V} {ps : List PyData}, DtRs M ds ps → DenL K H ds vs → DpAll K H vs ps
  | _, vs, _, .nil, h => by rw [denL_nil.mp h]; exact .nil
  | _, vs, _, .cons a b, h => by
    obtain ⟨v, vr, rfl, h1, h2⟩ := denL_cons.mp h
    exact .cons (dtr_dp r a h1) (dtrs_dp r b h2)
end
mutual
theorem dtr_dat : ∀ {d : D}, isDat d = true → DtR M d d.py
  | .non, _ => .non
  | .bl b, _ => .bl b
  | .int i, _ => .int i
  | .str x, _ => .str x
  | .tup ds, h => by simp only [D.py]; exact .tup (dtrs_dat (by simpa [isDat] using h))
  | .ro ds, h => by simp only [D.py]; exact .ro (dtrs_dat (by simpa [isDat] using h))
  | .obj _, h => by simp [isDat] at h
  | .ty _, h => by simp [isDat] at h
  | .exn _ _ _, h => by simp [isDat] at h
  | .kls _, h => by simp [isDat] at h
theorem dtrs_dat : ∀ {ds : List D}, isDatL ds = true → DtRs M ds (pyL ds)
  | [], _ => .nil
  | d :: ds, h => by
    simp only [isDatL, Bool.and_eq_true] at h
    exact .cons (dtr_dat h.1) (dtrs_dat h.2)
end
theorem dtr_of {d : D} {p : PyData} (h : datOf M d = some p) : DtR M d p := by
  cases d with
  | obj q =>
    simp only [datOf] at h
    cases e : lstOf (M q) with
    | none => rw [e] at h; cases h
    | some ds =>
      rw [e, Option.bind_some] at h
      by_cases c : isDatL ds = true
      · rw [if_pos c] at h
        cases h
        exact .obj e (dtrs_dat c)
      · rw [if_neg c] at h; cases h
  | ty n => simp [datOf, isDat] at h
  | exn _ _ _ => simp [datOf, isDat] at h
  | kls _ => simp [datOf, isDat] at h
  | non => simp only [datOf, isDat, if_true] at h; cases h; exact .non
  | bl b => simp only [datOf, isDat, if_true] at h; cases h; exact .bl b
  | int i => simp only [datOf, isDat, if_true] at h; cases h; exact .int i
  | str x => simp only [datOf, isDat, if_true] at h; cases h; exact .str x
  | tup ds =>
    simp only [datOf] at h
    by_cases c : isDat (.tup ds) = true
    · rw [if_pos c] at h; cases h; exact dtr_dat c
    · rw [if_neg c] at h; cases h
  | ro ds =>
    simp only [datOf] at h
    by_cases c : isDat (.ro ds) = true
    · rw [if_pos c] at h; cases h; exact dtr_dat c
    · rw [if_neg c] at h; cases h
/-- a tuple of any data == () -/
def rEqT (K : PySem.W.Frag) : R2 := fun x y H Q => ∃ a b xs, x = .ref a ∧ y = .ref b ∧ SqT K H a xs ∧ SqT K H b [] ∧ Q (.bl xs.isEmpty) H
theorem op_eqT {X : Cx} (hu : X.A.units + 64 < cLine) : OpR X (compareOp .Eq) (rEqT X.K) := by
  intro pins s σ H x y v u Q I rx ry h
  obtain ⟨a, b, xs, rfl, rfl, ha, hb, q⟩ := h
  cases rx
  cases ry
  obtain ⟨its, r, ht, hz⟩ := I.tuple ha
  obtain ⟨its2, r2, ht2, hz2⟩ := I.tuple hb
  have l := r.length
  have l2 := r2.length
  obtain rfl : its2 = [] := List.length_eq_zero_iff.mp (by rw [← l2]; rfl)
  refine SeqAt.eq_tupleAt (e := fun _ => true) ht ht2 (by omega) (fun j h1 h2 => absurd h2 (by simp)) ⟨.bl _, H, I, ?_, q⟩
  show Value.bool _ = Value.bool _
  cases xs with
  | nil =>
    obtain rfl : its = [] := List.length_eq_zero_iff.mp (by rw [← l]; rfl)
    rfl
  | cons x xs =>
    cases its with
    | nil => simp at l
    | cons _ _ => simp
def eq2 (g : Bool → Bool) (d1 d2 : D) (M : Mem) (Q : QE) : Prop :=
  (scalD d1 d2 = true ∧ Q (.bl (g (decide (toV d1 = toV d2)))) M) ∨
  (∃ p q, DtR M d1 p ∧ DtR M d2 q ∧ SeqAt.shaped p = true ∧ SeqAt.shaped q = true ∧ Q (.bl (g (PyData.eqv p q))) M) ∨
  (g true = true ∧ ∃ ds, d1 = .tup ds ∧ d2 = .tup [] ∧ Q (.bl ds.isEmpty) M)
theorem opl_eq : OpL K (fun x y H Q => rEq x y H Q ∨ rEqD K x y H Q ∨ rEqT K x y H Q) (eq2 id) := by
  intro d1 d2 x y H ρ σ M H0 Q a b r t h
  rcases h with ⟨s, q⟩ | ⟨p, q, h1, h2, s1, s2, hq⟩ | ⟨_, ds, rfl, rfl, hq⟩
  · unfold scalD at s
    simp only [Bool.and_eq_true] at s
    rw [den_flat s.1.1 a, den_flat s.1.2 b]
    exact .inl ⟨s.2, _, M, den_bl.mpr rfl, r, t, q⟩
  · exact .inr (.inl ⟨p, q, dtr_dp r h1 a, dtr_dp r h2 b, s1, s2, _, M, den_bl.mpr rfl, r, t, hq⟩)
  · obtain ⟨p, xs, rfl, s, l⟩ := den_tup.mp a
    obtain ⟨p2, xs2, rfl, s2, l2⟩ := den_tup.mp b
    rw [denL_nil.mp l2] at s2
    have hl := l.length
    refine .inr (.inr ⟨p, p2, xs, rfl, rfl, s, s2, _, M, den_bl.mpr ?_, r, t, hq⟩)
    cases ds with
    | nil => rw [denL_nil.mp l]; rfl
    | cons d ds => cases xs with
      | nil => simp at hl
      | cons _ _ => rfl
theorem opl_ne : OpL K (fun x y H Q => rNe x y H Q ∨ rNeD K x y H Q) (eq2 not) := by
  intro d1 d2 x y H ρ σ M H0 Q a b r t h
  rcases h with ⟨s, q⟩ | ⟨p, q, h1, h2, s1, s2, hq⟩ | ⟨z, _⟩
  · unfold scalD at s
    simp only [Bool.and_eq_true] at s
    rw [den_flat s.1.1 a, den_flat s.1.2 b]
    exact .inl ⟨s.2, _, M, den_bl.mpr rfl, r, t, q⟩
  · exact .inr ⟨p, q, dtr_dp r h1 a, dtr_dp r h2 b, s1, s2, _, M, den_bl.mpr rfl, r, t, hq⟩
  · cases z
theorem ob_eq (C : Cxt X N sc P w K mg base k0) (hh : sc.hot = false := by first | k_dflt rfl | assumption) : OpB X (compareOp .Eq) (eq2 id) :=
  ⟨_, opr_or op_eq (opr_or (op_eqD (C.room hh).units) (op_eqT (C.room hh).units)), rm_or (fun _ _ _ _ _ m ⟨a, q⟩ => ⟨a, m _ _ q⟩) (rm_or (fun _ _ _ _ _ m ⟨a, b, c, d, e, f, q⟩ => ⟨a, b, c, d, e, f, m _ _ q⟩) (fun _ _ _ _ _ m ⟨a, b, c, d, e, f, g, q⟩ => ⟨a, b, c, d, e, f, g, m _ _ q⟩)), opl_eq⟩
theorem ob_ne (C : Cxt X N sc P w K mg base k0) (hh : sc.hot = false := by first | k_dflt rfl | assumption) : OpB X (compareOp .NotEq) (eq2 not) :=
  ⟨_, opr_or op_ne (op_neD (C.room hh).units), rm_or (fun _ _ _ _ _ m ⟨a, q⟩ => ⟨a, m _ _ q⟩) (fun _ _ _ _ _ m ⟨a, b, c, d, e, f, q⟩ => ⟨a, b, c, d, e, f, m _ _ q⟩), opl_ne⟩
/-- x is None -/
def isNon : D → Bool
  | .non => true
  | _ => false
theorem isNon_den {H : Hp} {d : D} {x : V} (a : Den K H d x) : decide (x = .non) = isNon d := by
  cases d with
  | non => rw [den_non] at a; subst a; rfl
  | bl b => rw [den_bl] at a; subst a; rfl
  | int i => rw [den_int] at a; subst a; rfl
  | str i => rw [den_str] at a; subst a; rfl
  | ty i => rw [den_ty] at a; subst a; rfl
  | obj i => rw [den_obj] at a; subst a; rfl
  | tup i => obtain ⟨p, xs, rfl, _⟩ := den_tup.mp a; rfl
  | ro i => obtain ⟨p, xs, rfl, _⟩ := den_ro.mp a; rfl
  | exn i j k => obtain ⟨p, xs, rfl, _⟩ := den_exn.mp a; rfl
  | kls i => obtain ⟨p, rfl, _⟩ := den_kls.mp a; rfl
def is2 (g : Bool → Bool) (d d2 : D) (M : Mem) (Q : QE) : Prop := match d2 with
  | .non => Q (.bl (g (isNon d))) M
  | .bl b => (match d with | .bl a => Q (.bl (g (decide (a = b)))) M | _ => False)
  | _ => False
theorem ob_is : OpB X (compareOp .Is) (is2 id) := by
  refine ⟨_, opr_or op_isN op_isBl, rm_or (fun _ _ _ _ _ m ⟨a, q⟩ => ⟨a, m _ _ q⟩) (fun _ _ _ _ _ m ⟨a, b, c, d, q⟩ => ⟨a, b, c, d, m _ _ q⟩), ?_⟩
  intro d1 d2 x y H ρ σ M H0 Q a b r t h
  cases d2 <;> try exact False.elim h
  · exact .inl ⟨den_non.mp b, _, M, den_bl.mpr (by rw [isNon_den a] <;> rfl), r, t, h⟩
  · cases d1 <;> try exact False.elim h
    exact .inr ⟨_, _, den_bl.mp a, den_bl.mp b, _, M, den_bl.mpr rfl, r, t, h⟩
theorem ob_isnot : OpB X (compareOp .IsNot) (is2 not) := by
  refine ⟨_, opr_or op_notN op_notBl, rm_or (fun _ _ _ _ _ m ⟨a, q⟩ => ⟨a, m _ _ q⟩) (fun _ _ _ _ _ m ⟨a, b, c, d, q⟩ => ⟨a, b, c, d, m _ _ q⟩), ?_⟩
  intro d1 d2 x y H ρ σ M H0 Q a b r t h
  cases d2 <;> try exact False.elim h
  · exact .inl ⟨den_non.mp b, _, M, den_bl.mpr (by rw [isNon_den a] <;> rfl), r, t, h⟩
  · cases d1 <;> try exact False.elim h
    exact .inr ⟨_, _, den_bl.mp a, den_bl.mp b, _, M, den_bl.mpr rfl, r, t, h⟩
/-- the items of a list or tuple -/
def itemsOf (M : Mem) : D → Option (List D)
  | .tup ds => some ds
  | .ro ds => some ds
  | .obj a => lstOf (M a)
  | _ => none
theorem itemsOf_sq {H : Hp} {σ : L2.St} (r : R K ρ M σ H) {d : D} {v : V} {ds : List D} (h : itemsOf M d = some ds) (a : Den K H d v) : ∃ p xs, v = .ref p ∧ (SqL K H p xs ∨ SqT K H p xs) ∧ DenL K H ds xs := by
  cases d with
  | tup es =>
    cases h
    obtain ⟨p, xs, e, s, l⟩ := den_tup.mp a
    exact ⟨p, xs, e, .inr s, l⟩
  | ro es =>
    cases h
    obtain ⟨p, xs, e, s, l⟩ := den_ro.mp a
    exact ⟨p, xs, e, .inl s.l, l⟩
  | obj q =>
    rw [den_obj] at a
    subst a
    obtain ⟨xs, s, l⟩ := lst_sq r (show lstOf (M q) = some ds from h)
    exact ⟨q, xs, rfl, .inl s, l⟩
  | non => cases h
  | bl _ => cases h
  | int _ => cases h
  | str _ => cases h
  | ty _ => cases h
  | exn _ _ _ => cases h
  | kls _ => cases h
theorem flat_all {H : Hp} : ∀ {ds : List D} {xs : List V}, ds.all flatD = true → DenL K H ds xs → xs = ds.map toV
  | [], xs, _, h => denL_nil.mp h
  | d :: ds, xs, f, h => by
    obtain ⟨v, r, rfl, a, b⟩ := denL_cons.mp h
    simp only [List.all_cons, Bool.and_eq_true] at f
    rw [den_flat f.1 a, flat_all f.2 b] <;> rfl
theorem flatV_toV {d : D} (f : flatD d = true) : flatV (toV d) = true := by cases d <;> first | rfl | (exact absurd f (by simp [flatD]))
theorem flatV_all {ds : List D} (f : ds.all flatD = true) : (ds.map toV).all flatV = true := by
  rw [List.all_map]
  rw [List.all_eq_true] at f ⊢
  exact fun d hd => flatV_toV (f d hd)
def in2F (g : Bool → Bool) (d1 d2 : D) (M : Mem) (Q : QE) : Prop := ∃ ds, itemsOf M d2 = some ds ∧ flatD d1 = true ∧ ds.all flatD = true ∧ Q (.bl (g (inV (toV d1) (ds.map toV)))) M
theorem opl_inF : OpL K (rIn K false) (in2F id) := by
  intro d1 d2 x y H ρ σ M H0 Q a b r t h
  obtain ⟨ds, e, f, fs, q⟩ := h
  obtain ⟨p, xs, rfl, s, l⟩ := itemsOf_sq r e b
  have e1 := flat_all fs l
  subst e1
  rw [den_flat f a]
  exact ⟨p, _, rfl, s, flatV_toV f, flatV_all fs, _, M, den_bl.mpr rfl, r, t, q⟩
theorem opl_notinF : OpL K (rIn K true) (in2F not) := by
  intro d1 d2 x y H ρ σ M H0 Q a b r t h
  obtain ⟨ds, e, f, fs, q⟩ := h
  obtain ⟨p, xs, rfl, s, l⟩ := itemsOf_sq r e b
  have e1 := flat_all fs l
  subst e1
  rw [den_flat f a]
  exact ⟨p, _, rfl, s, flatV_toV f, flatV_all fs, _, M, den_bl.mpr rfl, r, t, q⟩
theorem ob_inF : OpB X (compareOp .In) (in2F id) := ⟨_, op_in_seq, fun _ _ _ _ _ m ⟨p, xs, a, b, c, d, q⟩ => ⟨p, xs, a, b, c, d, m _ _ q⟩, opl_inF⟩
theorem ob_notinF : OpB X (compareOp .NotIn) (in2F not) := ⟨_, op_notIn_seq, fun _ _ _ _ _ m ⟨p, xs, a, b, c, d, q⟩ => ⟨p, xs, a, b, c, d, m _ _ q⟩, opl_notinF⟩
/-- .. of data of any depth in a list -/
def in2 (g : Bool → Bool) (d1 d2 : D) (M : Mem) (Q : QE) : Prop := in2F g d1 d2 M Q ∨ (∃ p ps, DtR M d1 p ∧ DtR M d2 (.list ps) ∧ SeqAt.shaped p = true ∧ SeqAt.shaped (.list ps) = true ∧ Q (.bl (g (ps.any fun z => PyData.eqv z p))) M) ∨ ∃ c z, d1 = .str ⟨#[c]⟩ ∧ d2 = .str z ∧ Q (.bl (g (decide (c ∈ z.cps.toList)))) M
theorem ob_in (C : Cxt X N sc P w K mg base k0) (hh : sc.hot = false := by first | k_dflt rfl | assumption) : OpB X (compareOp .In) (in2 id) := by
  refine ⟨_, opr_or op_in_seq (opr_or (op_inD (by have := (C.room hh).un; omega)) op_in_sign), rm_or (fun _ _ _ _ _ m ⟨p, xs, a, b, c, d, q⟩ => ⟨p, xs, a, b, c, d, m _ _ q⟩) (rm_or (fun _ _ _ _ _ m ⟨a, b, c, d, e, f, q⟩ => ⟨a, b, c, d, e, f, m _ _ q⟩) (fun _ _ _ _ _ m ⟨a, b, c, d, q⟩ => ⟨a, b, c, d, m _ _ q⟩)), ?_⟩
  intro d1 d2 x y H ρ σ M H0 Q a b r t h
  rcases h with h | ⟨p, ps, h1, h2, s1, s2, hq⟩ | ⟨c, z, rfl, rfl, hq⟩
  · exact .inl (opl_inF.go a b r t h)
  · exact .inr (.inl ⟨p, ps, dtr_dp r h1 a, dtr_dp r h2 b, s1, s2, _, M, den_bl.mpr rfl, r, t, hq⟩)
  · exact .inr (.inr ⟨c, z, den_str.mp a, den_str.mp b, _, M, den_bl.mpr rfl, r, t, hq⟩)
theorem ob_notin (C : Cxt X N sc P w K mg base k0) (hh : sc.hot = false := by first | k_dflt rfl | assumption) : OpB X (compareOp .NotIn) (in2 not) := by
  refine ⟨_, opr_or op_notIn_seq (opr_or (op_notInD (by have := (C.room hh).un; omega)) op_notIn_sign), rm_or (fun _ _ _ _ _ m ⟨p, xs, a, b, c, d, q⟩ => ⟨p, xs, a, b, c, d, m _ _ q⟩) (rm_or (fun _ _ _ _ _ m ⟨a, b, c, d, e, f, q⟩ => ⟨a, b, c, d, e, f, m _ _ q⟩) (fun _ _ _ _ _ m ⟨a, b, c, d, q⟩ => ⟨a, b, c, d, m _ _ q⟩)), ?_⟩
  intro d1 d2 x y H ρ σ M H0 Q a b r t h
  rcases h with h | ⟨p, ps, h1, h2, s1, s2, hq⟩ | ⟨c, z, rfl, rfl, hq⟩
  · exact .inl (opl_notinF.go a b r t h)
  · exact .inr (.inl ⟨p, ps, dtr_dp r h1 a, dtr_dp r h2 b, s1, s2, _, M, den_bl.mpr rfl, r, t, hq⟩)
  · exact .inr (.inr ⟨c, z, den_str.mp a, den_str.mp b, _, M, den_bl.mpr rfl, r, t, hq⟩)

/-! ### subscripts, slices -/
def ix2 (d1 d2 : D) (M : Mem) (Q : QE) : Prop := (∃ ds i d, itemsOf M d1 = some ds ∧ d2 = .int i ∧ atI ds i = some d ∧ Q d M) ∨ ∃ z i c, d1 = .str z ∧ d2 = .int i ∧ z.length ≤ sizeLine ∧ atI z.cps.toList i = some c ∧ Q (.str ⟨#[c]⟩) M
theorem DenL.atI {H : Hp} {ds : List D} {xs : List V} (l : DenL K H ds xs) {i : Int} {d : D} (h : L2.atI ds i = some d) : ∃ v, L2.atI xs i = some v ∧ Den K H d v := by
  unfold L2.atI at h ⊢
  rw [l.length]
  cases e : ixN ds.length i with
  | none => rw [e] at h; cases h
  | some j => rw [e] at h; exact l.get' h
theorem we_ix {a b : Expr} {pos : Pos} {Q : QE} (hp : PlainIx b) (h : WE X a ρ M fun d1 M1 => WE X b ρ M1 fun d2 M2 => ix2 d1 d2 M2 Q) : WE X (.Subscript a b pos) ρ M Q := fun σ H rr => by
  refine cE_of (pe_ix ix_seq peC peC hp) (we_two (r2 := ix2) ?_ h rr)
  intro d1 d2 x y H ρ σ M H0 Q a b r t h
  rcases h with ⟨ds, i, d, e, rfl, ha, q⟩ | ⟨z, i, c, rfl, rfl, hz, ha, q⟩
  rotate_left
  · rw [den_str.mp a, den_int.mp b]
    exact .inr (.inr ⟨z, i, c, rfl, rfl, hz, ha, _, M, den_str.mpr rfl, r, t, q⟩)
  obtain ⟨p, xs, rfl, s, l⟩ := itemsOf_sq r e a
  obtain ⟨v, hv, dn⟩ := l.atI ha
  rw [den_int.mp b]
  rcases s with s | s
  · exact .inl ⟨p, xs, i, v, rfl, rfl, s, hv, d, M, dn, r, t, q⟩
  · exact .inr (.inl ⟨p, xs, i, v, rfl, rfl, s, hv, d, M, dn, r, t, q⟩)
def cutD (xs : List D) (lo hi : Option Int) : List D := (xs.drop (HT.sIx xs.length 0 lo)).take (HT.sIx xs.length xs.length hi - HT.sIx xs.length 0 lo)
theorem DenL.cut {H : Hp} {ds : List D} {xs : List V} (l : DenL K H ds xs) (lo hi : Option Int) : DenL K H (cutD ds lo hi) (cutV xs lo hi) := by
  unfold cutD cutV
  rw [l.length]
  exact (l.drop _).take _
/-- an optional part of a slice -/
def WO (X : Cx) (e : Option Expr) (ρ : St2) (M : Mem) (Q : Option Int → Mem → Prop) : Prop := match e with
  | none => Q none M
  | some e => WE X e ρ M fun d M1 => ∃ i, d = .int i ∧ Q (some i) M1
theorem wo_none {Q : Option Int → Mem → Prop} (q : Q none M) : WO X none ρ M Q := q
theorem wo_some {e : Expr} {Q : Option Int → Mem → Prop} (h : WE X e ρ M fun d M1 => ∃ i, d = .int i ∧ Q (some i) M1) : WO X (some e) ρ M Q := h
def tO (X : Cx) (e : Option Expr) : TO := match e with
  | none => tNoPart
  | some e => tPart (cE X e)
theorem poC {e : Option Expr} : PO X e (tO X e) := by
  cases e with
  | none => exact po_none
  | some e => exact po_some peC
theorem wo_use {e : Option Expr} {Q : Option Int → Mem → Prop} (h : WO X e ρ M Q) {σ : L2.St} {H : Hp} (r : R X.K ρ M σ H) {R' : Option Int → Hp → Prop} (m : ∀ o M' H', R X.K ρ M' σ H' → TK X.K H H' → Q o M' → R' o H') : tO X e σ H R' := by
  cases e with
  | none => exact m _ _ _ r (TK.refl _) h
  | some e =>
    refine cE_mono ?_ (h σ H r)
    rintro v H' ⟨d, M', dn, r', t, i, rfl, q⟩
    exact ⟨i, den_int.mp dn, m _ _ _ r' t q⟩
def sl2 : D → Option Int → Option Int → Mem → QE → Prop
  | .tup ds, lo, hi, M, Q => Q (.tup (cutD ds lo hi)) M
  | .obj a, lo, hi, M, Q => ∃ ds, lstOf (M a) = some ds ∧ ∀ p, M p = none → Q (.obj p) (mup M p (.lst (cutD ds lo hi)))
  | .ro ds, lo, hi, M, Q => ∀ p, M p = none → Q (.obj p) (mup M p (.lst (cutD ds lo hi)))
  | .str z, lo, hi, M, Q => z.length ≤ sizeLine ∧ Q (.str (cutS z lo hi)) M
  | _, _, _, _, _ => False
theorem whole_cut {ds : List D} {lo hi : Option Int} (h : HT.sIx ds.length 0 lo = 0 ∧ HT.sIx ds.length ds.length hi = ds.length) : cutD ds lo hi = ds := by
  unfold cutD
  rw [h.1, h.2]
  simp
theorem slr_or {r r' : V → Option Int → Option Int → Hp → VK → Prop} (h : SlR X r) (h' : SlR X r') : SlR X (fun x l u H Q => r x l u H Q ∨ r' x l u H Q) := fun pins s σ H x v vl vu lo hi sl Q I r1 a b c q =>
  q.elim (h pins s σ H x v vl vu lo hi sl Q I r1 a b c) (h' pins s σ H x v vl vu lo hi sl Q I r1 a b c)
theorem we_slice {e : Expr} {lo hi : Option Expr} {pos p2 : Pos} {Q : QE} (h : WE X e ρ M fun d M1 => WO X lo ρ M1 fun l M2 => WO X hi ρ M2 fun u M3 => sl2 d l u M3 Q) : WE X (.Subscript e (.Slice lo hi none p2) pos) ρ M Q := fun σ H rr => by
  refine cE_of (pe_slice (slr_or sl_tupA (slr_or sl_list sl_str)) peC poC poC) ?_
  refine cE_mono ?_ (h σ H rr)
  rintro x H1 ⟨d, M1, dn, r1, t1, q1⟩
  refine wo_use q1 r1 fun l M2 H2 r2 t2 q2 => wo_use q2 r2 fun u M3 H3 r3 t3 q3 => ?_
  have dn3 := dn.mono (t2.trans t3)
  have tt := (t1.trans t2).trans t3
  cases d with
  | tup ds =>
    obtain ⟨a, xs, rfl, s, dl⟩ := den_tup.mp dn3
    refine .inl ⟨a, xs, rfl, s, fun c => ?_, fun c p hp => ?_⟩
    · rw [dl.length] at c
      refine ⟨_, M3, ?_, r3, tt, q3⟩
      rw [whole_cut c]
      exact dn3
    · exact ⟨_, M3, den_newT hp (dl.cut l u), r3.newT hp, tt.trans (TK.fresh hp), q3⟩
  | obj a =>
    obtain ⟨ds, e1, q⟩ := q3
    obtain ⟨xs, sL, dl⟩ := lst_sq r3 e1
    rw [den_obj.mp dn3]
    exact .inr (.inl ⟨a, xs, rfl, sL, fun n hn => ⟨.obj n, _, den_obj.mpr rfl, r3.newL hn (dl.cut l u), tt.trans (TK.fresh hn), q n (r3.rep.free hn)⟩⟩)
  | ro ds =>
    obtain ⟨a, xs, rfl, sf, dl⟩ := den_ro.mp dn3
    exact .inr (.inl ⟨a, xs, rfl, sf.l, fun n hn => ⟨.obj n, _, den_obj.mpr rfl, r3.newL hn (dl.cut l u), tt.trans (TK.fresh hn), q3 n (r3.rep.free hn)⟩⟩)
  | str z =>
    rw [den_str.mp dn3]
    exact .inr (.inr ⟨z, rfl, q3.1, _, M3, den_str.mpr rfl, r3, tt, q3.2⟩)
  | non => exact q3.elim
  | bl _ => exact q3.elim
  | int _ => exact q3.elim
  | ty _ => exact q3.elim
  | exn _ _ _ => exact q3.elim
  | kls _ => exact q3.elim
end
end Y

set_option Elab.async false
set_option linter.all false
set_option autoImplicit false
set_option maxRecDepth 100000
set_option maxHeartbeats 4000000
namespace Y
open PySem PySem.Spec PyProof.Rows L2
section
variable {X : Cx} {ρ : St2} {M : Mem} {N : List Str} {sc : Nms} {P : Program} {w : World} {K : PySem.W.Frag} {mg : Str → Option Value} {base : Heap} {k0 : Nat}

theorem nodup_ix {N : List Str} (nd : N.Nodup) {i j : Nat} {x : Str} (a : N[i]? = some x) (b : N[j]? = some x) : i = j := by
  obtain ⟨hi, ei⟩ := List.getElem?_eq_some_iff.mp a
  obtain ⟨hj, ej⟩ := List.getElem?_eq_some_iff.mp b
  have pw := List.pairwise_iff_getElem.mp nd
  rcases Nat.lt_trichotomy i j with l | l | l
  · exact absurd (ei.trans ej.symm) (pw i j hi hj l)
  · exact l
  · exact absurd (ej.trans ei.symm) (pw j i hj hi l)
/-! ### arguments, displays -/
theorem wa_nil {Q : List D → Mem → Prop} (q : Q [] M) : WA X [] ρ M Q := fun σ H r => cA_of pa_nil ⟨[], M, DenL.nil, r, TK.refl _, q⟩
theorem wa_cons {e : Expr} {es : List Expr} {Q : List D → Mem → Prop} (hs : starEach (e :: es) X.env = (false, eval e X.env) :: starEach es X.env)
    (h : WE X e ρ M fun d M1 => WA X es ρ M1 fun ds M2 => Q (d :: ds) M2) : WA X (e :: es) ρ M Q := fun σ H r => by
  refine cA_of (pa_cons peC paC hs) ?_
  refine cE_mono ?_ (h σ H r)
  rintro x H1 ⟨d, M1, dn, r1, t1, q1⟩
  refine cA_mono ?_ (q1 σ H1 r1)
  rintro xs H2 ⟨ds, M2, dn2, r2, t2, q2⟩
  exact ⟨d :: ds, M2, DenL.cons (dn.mono t2) dn2, r2, t1.trans t2, q2⟩
/-- *e among the arguments or items -/
theorem wa_star {e : Expr} {es : List Expr} {p : Pos} {Q : List D → Mem → Prop} (hs : starEach (.Starred e p :: es) X.env = (true, eval e X.env) :: starEach es X.env)
    (h : WE X e ρ M fun d M1 => ∃ ds, itemsOf M1 d = some ds ∧ WA X es ρ M1 fun es M2 => Q (ds ++ es) M2) : WA X (.Starred e p :: es) ρ M Q := fun σ H r => by
  refine cA_of (StX.pa_star peC paC hs) ?_
  refine cE_mono ?_ (h σ H r)
  rintro x H1 ⟨d, M1, dn, r1, t1, ds, e1, q1⟩
  obtain ⟨a, xs, rfl, s, l⟩ := itemsOf_sq r1 e1 dn
  refine ⟨a, xs, rfl, s.symm, ?_⟩
  refine cA_mono ?_ (q1 σ H1 r1)
  rintro ys H2 ⟨es, M2, dn2, r2, t2, q2⟩
  exact ⟨ds ++ es, M2, (l.mono t2).append dn2, r2, t1.trans t2, q2⟩
theorem we_tup {es : List Expr} {x1 : Nat} {pos : Pos} {Q : QE} (h : WA X es ρ M fun ds M1 => ds.length ≤ sizeLine ∧ Q (.tup ds) M1) : WE X (.Tuple es x1 pos) ρ M Q := fun σ H r => by
  refine cE_of (pe_tup paC) ?_
  refine cA_mono ?_ (h σ H r)
  rintro xs H1 ⟨ds, M1, dn, r1, t1, z, q⟩
  exact ⟨by rw [dn.length]; exact z, fun p hp => ⟨_, M1, den_newT hp dn, r1.newT hp, t1.trans (TK.fresh hp), q⟩⟩
theorem we_lst {es : List Expr} {pos : Pos} {Q : QE} (h : WA X es ρ M fun ds M1 => ds.length ≤ sizeLine ∧ ∀ p, M1 p = none → Q (.obj p) (mup M1 p (.lst ds))) : WE X (.List es pos) ρ M Q := fun σ H r => by
  refine cE_of (pe_lst paC) ?_
  refine cA_mono ?_ (h σ H r)
  rintro xs H1 ⟨ds, M1, dn, r1, t1, z, q⟩
  exact ⟨by rw [dn.length]; exact z, fun p hp => ⟨.obj p, _, den_obj.mpr rfl, r1.newL hp dn, t1.trans (TK.fresh hp), q p (r1.rep.free hp)⟩⟩

/-! ### truth, and, or, not, if else -/
/-- a value's truth -/
def truD : D → Mem → Option Bool
  | .non, _ => some false
  | .bl b, _ => some b
  | .int i, _ => some (i != 0)
  | .tup ds, _ => some (!ds.isEmpty)
  | .ro ds, _ => some (!ds.isEmpty)
  | .obj a, M => (lstOf (M a)).map fun ds => !ds.isEmpty
  | _, _ => none
theorem truV_of {H : Hp} {σ : L2.St} {d : D} {v : V} {k : Bool} (r : R K ρ M σ H) (a : Den K H d v) (h : truD d M = some k) : TruV K v H k := by
  cases d with
  | non => cases h; rw [den_non.mp a]; rfl
  | bl b => cases h; rw [den_bl.mp a]; rfl
  | int i => cases h; rw [den_int.mp a]; rfl
  | str _ => cases h
  | ty _ => cases h
  | exn _ _ _ => cases h
  | kls _ => cases h
  | tup ds =>
    cases h
    obtain ⟨p, xs, rfl, s, l⟩ := den_tup.mp a
    refine .inr (.inl ⟨xs, s, ?_⟩)
    cases ds with
    | nil => rw [denL_nil.mp l] <;> rfl
    | cons d ds => obtain ⟨v, r, rfl, _⟩ := denL_cons.mp l; rfl
  | ro ds =>
    cases h
    obtain ⟨p, xs, rfl, s, l⟩ := den_ro.mp a
    refine .inl ⟨xs, s.l, ?_⟩
    cases ds with
    | nil => rw [denL_nil.mp l] <;> rfl
    | cons d ds => obtain ⟨v, r, rfl, _⟩ := denL_cons.mp l; rfl
  | obj q =>
    rw [den_obj.mp a]
    simp only [truD] at h
    cases e : lstOf (M q) with
    | none => rw [e] at h; cases h
    | some ds =>
      rw [e] at h
      cases h
      obtain ⟨xs, s, l⟩ := lst_sq r e
      refine .inl ⟨xs, s, ?_⟩
      cases ds with
      | nil => rw [denL_nil.mp l] <;> rfl
      | cons d ds => obtain ⟨v, r, rfl, _⟩ := denL_cons.mp l; rfl
theorem wt_truth {e : Expr} {Q : Bool → Mem → Prop} (hp : ∀ whole, isTrue e X.env whole = (do let v ← whole; standAt e.pos; holding [v] (truthy v))) (h : WE X e ρ M fun d M1 => ∃ k, truD d M1 = some k ∧ Q k M1) : WT X e ρ M Q := fun σ H r => by
  refine cT_of (pt_truth peC hp) ?_
  refine cE_mono ?_ (h σ H r)
  rintro v H1 ⟨d, M1, dn, r1, t1, k, e1, q⟩
  exact ⟨k, truV_of r1 dn e1, M1, r1, t1, q⟩
theorem wt_not {a : Expr} {pos : Pos} {Q : Bool → Mem → Prop} (h : WT X a ρ M fun b M1 => Q (!b) M1) : WT X (.UnaryOp .Not a pos) ρ M Q := fun σ H r => cT_of (pt_not ptC) (h σ H r)
theorem ww_and1 {a : Expr} {pos : Pos} {Q : Bool → Mem → Prop} (h : WT X a ρ M Q) : WW X (.BoolOp .And [a] pos) ρ M Q := fun σ H r => cW_of (pw_and1 ptC) (h σ H r)
theorem ww_or1 {a : Expr} {pos : Pos} {Q : Bool → Mem → Prop} (h : WT X a ρ M Q) : WW X (.BoolOp .Or [a] pos) ρ M Q := fun σ H r => cW_of (pw_or1 ptC) (h σ H r)
theorem ww_and {a b : Expr} {rest : List Expr} {pos : Pos} {Q : Bool → Mem → Prop} (h : WT X a ρ M fun k M1 => Br k (WW X (.BoolOp .And (b :: rest) pos) ρ M1 Q) (Q false M1)) : WW X (.BoolOp .And (a :: b :: rest) pos) ρ M Q := fun σ H r => by
  refine cW_of (pw_and ptC pwC) ?_
  refine cT_mono ?_ (h σ H r)
  rintro k H1 ⟨M1, r1, t1, br⟩
  refine Br.ite (Br.mono br (fun z => cW_mono ?_ (z σ H1 r1)) fun z => ⟨M1, r1, t1, z⟩)
  rintro v H2 ⟨M2, r2, t2, q⟩
  exact ⟨M2, r2, t1.trans t2, q⟩
theorem ww_or {a b : Expr} {rest : List Expr} {pos : Pos} {Q : Bool → Mem → Prop} (h : WT X a ρ M fun k M1 => Br k (Q true M1) (WW X (.BoolOp .Or (b :: rest) pos) ρ M1 Q)) : WW X (.BoolOp .Or (a :: b :: rest) pos) ρ M Q := fun σ H r => by
  refine cW_of (pw_or ptC pwC) ?_
  refine cT_mono ?_ (h σ H r)
  rintro k H1 ⟨M1, r1, t1, br⟩
  refine Br.ite (Br.mono br (fun z => ⟨M1, r1, t1, z⟩) fun z => cW_mono ?_ (z σ H1 r1))
  rintro v H2 ⟨M2, r2, t2, q⟩
  exact ⟨M2, r2, t1.trans t2, q⟩
theorem wt_bool {op : BoolOp} {es : List Expr} {pos : Pos} {Q : Bool → Mem → Prop} (h : WW X (.BoolOp op es pos) ρ M Q) : WT X (.BoolOp op es pos) ρ M Q := fun σ H r => cT_of (PW.pt pwC) (h σ H r)
/-- and, or as values: all but the last are truth values -/
theorem we_and {a b : Expr} {rest : List Expr} {pos : Pos} {Q : QE} (h : WE X a ρ M (isB fun k M1 => Br k (WE X (.BoolOp .And (b :: rest) pos) ρ M1 Q) (Q (.bl false) M1))) : WE X (.BoolOp .And (a :: b :: rest) pos) ρ M Q := fun σ H r => by
  refine cE_of (pe_and peC peC) ?_
  refine cE_mono ?_ (h σ H r)
  rintro v H1 ⟨d, M1, dn, r1, t1, k, rfl, br⟩
  refine ⟨k, den_bl.mp dn, Br.ite (Br.mono br (fun z => cE_mono ?_ (z σ H1 r1)) fun z => ⟨_, M1, den_bl.mpr rfl, r1, t1, z⟩)⟩
  rintro u H2 ⟨d2, M2, dn2, r2, t2, q⟩
  exact ⟨d2, M2, dn2, r2, t1.trans t2, q⟩
theorem we_or {a b : Expr} {rest : List Expr} {pos : Pos} {Q : QE} (h : WE X a ρ M (isB fun k M1 => Br k (Q (.bl true) M1) (WE X (.BoolOp .Or (b :: rest) pos) ρ M1 Q))) : WE X (.BoolOp .Or (a :: b :: rest) pos) ρ M Q := fun σ H r => by
  refine cE_of (pe_or peC peC) ?_
  refine cE_mono ?_ (h σ H r)
  rintro v H1 ⟨d, M1, dn, r1, t1, k, rfl, br⟩
  refine ⟨k, den_bl.mp dn, Br.ite (Br.mono br (fun z => ⟨_, M1, den_bl.mpr rfl, r1, t1, z⟩) fun z => cE_mono ?_ (z σ H1 r1))⟩
  rintro u H2 ⟨d2, M2, dn2, r2, t2, q⟩
  exact ⟨d2, M2, dn2, r2, t1.trans t2, q⟩
theorem we_one {op : BoolOp} {a : Expr} {pos : Pos} {Q : QE} (h : WE X a ρ M Q) : WE X (.BoolOp op [a] pos) ρ M Q := fun σ H r => cE_of (pe_one peC) (h σ H r)
theorem we_not {a : Expr} {pos : Pos} {Q : QE} (h : WE X a ρ M (isB fun k M1 => Q (.bl (!k)) M1)) : WE X (.UnaryOp .Not a pos) ρ M Q := fun σ H r => by
  refine cE_of (pe_not peC) ?_
  refine cE_mono ?_ (h σ H r)
  rintro v H1 ⟨d, M1, dn, r1, t1, k, rfl, q⟩
  exact ⟨k, den_bl.mp dn, _, M1, den_bl.mpr rfl, r1, t1, q⟩
theorem we_neg {a : Expr} {pos : Pos} {Q : QE} (h : WE X a ρ M fun d M1 => ∃ i, d = .int i ∧ Q (.int (-i)) M1) : WE X (.UnaryOp .USub a pos) ρ M Q := fun σ H r => by
  refine cE_of (pe_un un_neg peC) ?_
  refine cE_mono ?_ (h σ H r)
  rintro v H1 ⟨d, M1, dn, r1, t1, i, rfl, q⟩
  exact ⟨i, den_int.mp dn, _, M1, den_int.mpr rfl, r1, t1, q⟩
theorem we_if {c a b : Expr} {pos : Pos} {Q : QE} (h : WT X c ρ M fun k M1 => Br k (WE X a ρ M1 Q) (WE X b ρ M1 Q)) : WE X (.IfExp c a b pos) ρ M Q := fun σ H r => by
  refine cE_of (pe_ifExp ptC peC peC) ?_
  refine cT_mono ?_ (h σ H r)
  rintro k H1 ⟨M1, r1, t1, br⟩
  refine Br.ite (Br.mono br (fun z => cE_mono ?_ (z σ H1 r1)) fun z => cE_mono ?_ (z σ H1 r1))
  all_goals
    rintro u H2 ⟨d2, M2, dn2, r2, t2, q⟩
    exact ⟨d2, M2, dn2, r2, t1.trans t2, q⟩

/-! ### calls of what is built in -/
def CallL (K : PySem.W.Frag) (r : List V → Hp → VK → Prop) (c2 : List D → Mem → QE → Prop) : Prop := ∀ (ds : List D) (vs : List V) (H : Hp) (ρ : St2) (σ : L2.St) (M : Mem) (H0 : Hp) (Q : QE), DenL K H ds vs → R K ρ M σ H → TK K H0 H → c2 ds M Q → r vs H (LE K ρ σ H0 Q)
theorem we_callB (C : Cxt X N sc P w K mg base k0) {x : Str} {p pos : Pos} {e : Expr} {es : List Expr} {id : String} {r : List V → Hp → VK → Prop} {c2 : List D → Mem → QE → Prop} {Q : QE} (hr : CallR X (.builtin id) r) (hl : CallL K r c2) (hg : (x : Str) ∈ sc.g) (hm : mg x = none) (hv : bootBuiltins x = some (.builtin id))
    (hs : starEach (e :: es) X.env = (false, eval e X.env) :: starEach es X.env) (hn : ∀ pos, (backTo pos (starEach es X.env)).any (·.1) = false) (h : WA X (e :: es) ρ M fun ds M1 => c2 ds M1 Q) : WE X (.Call (.Name x p) (e :: es) [] pos) ρ M Q := fun σ H rr => by
  obtain rfl := C.hmg
  obtain rfl := C.hK
  refine cE_of (pe_callB hr (C.gl x hg).1 hm hv paC (C.gl _ hg).2.2 (C.gl _ hg).2.1 hs (hn pos)) ?_
  refine cA_mono ?_ (h σ H rr)
  rintro vs H1 ⟨ds, M1, dn, r1, t1, q⟩
  exact hl ds vs H1 ρ σ M1 H Q dn r1 t1 q
theorem we_callT (C : Cxt X N sc P w K mg base k0) {x : Str} {p pos : Pos} {e : Expr} {es : List Expr} {T : String} {r : List V → Hp → VK → Prop} {c2 : List D → Mem → QE → Prop} {Q : QE} (hr : CallR X (.type T) r) (hl : CallL K r c2) (hg : (x : Str) ∈ sc.g) (hm : mg x = none) (hv : bootBuiltins x = some (.type T))
    (hs : starEach (e :: es) X.env = (false, eval e X.env) :: starEach es X.env) (hn : ∀ pos, (backTo pos (starEach es X.env)).any (·.1) = false) (h : WA X (e :: es) ρ M fun ds M1 => c2 ds M1 Q) : WE X (.Call (.Name x p) (e :: es) [] pos) ρ M Q := fun σ H rr => by
  obtain rfl := C.hmg
  obtain rfl := C.hK
  refine cE_of (pe_callTy hr (C.gl x hg).1 hm hv paC (C.gl _ hg).2.2 (C.gl _ hg).2.1 hs (hn pos)) ?_
  refine cA_mono ?_ (h σ H rr)
  rintro vs H1 ⟨ds, M1, dn, r1, t1, q⟩
  exact hl ds vs H1 ρ σ M1 H Q dn r1 t1 q
theorem one_arg {H : Hp} {ds : List D} {vs : List V} {d : D} (h : DenL K H [d] vs) : ∃ v, vs = [v] ∧ Den K H d v := by
  obtain ⟨v, r, rfl, a, b⟩ := denL_cons.mp h
  rw [denL_nil.mp b]
  exact ⟨v, rfl, a⟩
theorem two_args {H : Hp} {vs : List V} {d e : D} (h : DenL K H [d, e] vs) : ∃ v u, vs = [v, u] ∧ Den K H d v ∧ Den K H e u := by
  obtain ⟨v, r, rfl, a, b⟩ := denL_cons.mp h
  obtain ⟨u, s, rfl, a2, b2⟩ := denL_cons.mp b
  rw [denL_nil.mp b2]
  exact ⟨v, u, rfl, a, a2⟩
theorem cr_or {X : Cx} {f : Value} {r1 r2 : List V → Hp → VK → Prop} (h1 : CallR X f r1) (h2 : CallR X f r2) : CallR X f (fun xs H Q => r1 xs H Q ∨ r2 xs H Q) := fun pins s σ H xs us Q I r h => h.elim (h1 pins s σ H xs us Q I r) (h2 pins s σ H xs us Q I r)
def len2 (ds : List D) (M : Mem) (Q : QE) : Prop := (∃ d es, ds = [d] ∧ itemsOf M d = some es ∧ Q (.int (es.length : Nat)) M) ∨ ∃ z, ds = [.str z] ∧ z.length ≤ sizeLine ∧ Q (.int (z.length : Nat)) M
theorem cl_len : CallL K (fun xs H Q => (∃ p ys, xs = [V.ref p] ∧ (SqL K H p ys ∨ SqT K H p ys) ∧ Q (.int (ys.length : Nat)) H) ∨ ∃ z, xs = [V.str z] ∧ z.length ≤ sizeLine ∧ Q (.int (z.length : Nat)) H) len2 := by
  rintro ds vs H ρ σ M H0 Q dn r t (⟨d, es, rfl, e, q⟩ | ⟨z, rfl, hz, q⟩)
  · obtain ⟨v, rfl, a⟩ := one_arg (ds := []) dn
    obtain ⟨p, xs, rfl, s, l⟩ := itemsOf_sq r e a
    exact .inl ⟨p, xs, rfl, s, _, M, den_int.mpr (by rw [l.length]), r, t, q⟩
  · obtain ⟨v, rfl, a⟩ := one_arg (ds := []) dn
    exact .inr ⟨z, by rw [den_str.mp a], hz, _, M, den_int.mpr rfl, r, t, q⟩
def int1 (ds : List D) (M : Mem) (Q : QE) : Prop := (∃ i, ds = [.int i] ∧ Q (.int i) M) ∨ (∃ b, ds = [.bl b] ∧ Q (.int (if b = true then 1 else 0)) M) ∨ ∃ a n, ds = [.str a] ∧ PySem.intText? a = some n ∧ a.length ≤ 640 ∧ Q (.int n) M
theorem cl_int : CallL K (fun xs H Q => ((∃ i, xs = [V.int i] ∧ Q (V.int i) H) ∨ ∃ k, xs = [V.bl k] ∧ Q (V.int (if k = true then 1 else 0)) H) ∨ ∃ a n, xs = [V.str a] ∧ PySem.intText? a = some n ∧ a.length ≤ 640 ∧ Q (V.int n) H) int1 := by
  rintro ds vs H ρ σ M H0 Q dn r t (⟨i, rfl, q⟩ | ⟨b, rfl, q⟩ | ⟨z, n, rfl, h1, h2, q⟩)
  · obtain ⟨v, rfl, a⟩ := one_arg (ds := []) dn
    exact .inl (.inl ⟨i, by rw [den_int.mp a], _, M, den_int.mpr rfl, r, t, q⟩)
  · obtain ⟨v, rfl, a⟩ := one_arg (ds := []) dn
    exact .inl (.inr ⟨b, by rw [den_bl.mp a], _, M, den_int.mpr rfl, r, t, q⟩)
  · obtain ⟨v, rfl, a⟩ := one_arg (ds := []) dn
    exact .inr ⟨z, n, by rw [den_str.mp a], h1, h2, _, M, den_int.mpr rfl, r, t, q⟩
def abs1 (ds : List D) (M : Mem) (Q : QE) : Prop := ∃ i, ds = [.int i] ∧ Q (.int (if i < 0 then -i else i)) M
theorem cl_abs : CallL K (fun xs H Q => ∃ i, xs = [V.int i] ∧ Q (V.int (if i < 0 then -i else i)) H) abs1 := by
  rintro ds vs H ρ σ M H0 Q dn r t ⟨i, rfl, q⟩
  obtain ⟨v, rfl, a⟩ := one_arg (ds := []) dn
  exact ⟨i, by rw [den_int.mp a], _, M, den_int.mpr rfl, r, t, q⟩
def min2i (ds : List D) (M : Mem) (Q : QE) : Prop := ∃ i j, ds = [.int i, .int j] ∧ Q (.int (if j < i then j else i)) M
def max2i (ds : List D) (M : Mem) (Q : QE) : Prop := ∃ i j, ds = [.int i, .int j] ∧ Q (.int (if j > i then j else i)) M
theorem cl_min2 : CallL K (fun xs H Q => ∃ i j, xs = [V.int i, V.int j] ∧ Q (V.int (if j < i then j else i)) H) min2i := by
  rintro ds vs H ρ σ M H0 Q dn r t ⟨i, j, rfl, q⟩
  obtain ⟨v, u, rfl, a, b⟩ := two_args dn
  exact ⟨i, j, by rw [den_int.mp a, den_int.mp b], _, M, den_int.mpr rfl, r, t, q⟩
theorem cl_max2 : CallL K (fun xs H Q => ∃ i j, xs = [V.int i, V.int j] ∧ Q (V.int (if j > i then j else i)) H) max2i := by
  rintro ds vs H ρ σ M H0 Q dn r t ⟨i, j, rfl, q⟩
  obtain ⟨v, u, rfl, a, b⟩ := two_args dn
  exact ⟨i, j, by rw [den_int.mp a, den_int.mp b], _, M, den_int.mpr rfl, r, t, q⟩
def tuple1 (ds : List D) (M : Mem) (Q : QE) : Prop := ∃ d es, ds = [d] ∧ itemsOf M d = some es ∧ Q (.tup es) M
theorem cl_tuple : CallL K (fun xs H Q => ∃ p ys, xs = [V.ref p] ∧ ((SqL K H p ys ∧ ∀ (l : Addr), H l = none → Q (V.ref l) (upd H l (HO.tup ys))) ∨ SqT K H p ys ∧ Q (V.ref p) H)) tuple1 := by
  rintro ds vs H ρ σ M H0 Q dn r t ⟨d, es, rfl, e, q⟩
  obtain ⟨v, rfl, a⟩ := one_arg (ds := []) dn
  obtain ⟨p, xs, rfl, s, l⟩ := itemsOf_sq r e a
  refine ⟨p, xs, rfl, ?_⟩
  rcases s with s | s
  · exact .inl ⟨s, fun n hn => ⟨_, M, den_newT hn l, r.newT hn, t.trans (TK.fresh hn), q⟩⟩
  · exact .inr ⟨s, _, M, den_tup.mpr ⟨p, xs, rfl, s, l⟩, r, t, q⟩
def list1 (ds : List D) (M : Mem) (Q : QE) : Prop := ∃ d es, ds = [d] ∧ itemsOf M d = some es ∧ ∀ p, M p = none → Q (.obj p) (mup M p (.lst es))
theorem cl_list : CallL K (fun xs H Q => ∃ p ys, xs = [V.ref p] ∧ (SqL K H p ys ∨ SqT K H p ys) ∧ ∀ (l : Addr), H l = none → Q (V.ref l) (upd H l (HO.lst ys))) list1 := by
  rintro ds vs H ρ σ M H0 Q dn r t ⟨d, es, rfl, e, q⟩
  obtain ⟨v, rfl, a⟩ := one_arg (ds := []) dn
  obtain ⟨p, xs, rfl, s, l⟩ := itemsOf_sq r e a
  exact ⟨p, xs, rfl, s, fun n hn => ⟨.obj n, _, den_obj.mpr rfl, r.newL hn l, t.trans (TK.fresh hn), q n (r.rep.free hn)⟩⟩
/-- of a list of ints -/
def intsOf (M : Mem) (d : D) (ns : List Int) : Prop := ∃ a, d = .obj a ∧ lstOf (M a) = some (ns.map D.int)
theorem ints_sq {H : Hp} {σ : L2.St} (r : R K ρ M σ H) {d : D} {v : V} {ns : List Int} (h : intsOf M d ns) (a : Den K H d v) : ∃ p, v = .ref p ∧ SqL K H p (ns.map V.int) := by
  obtain ⟨p, rfl, e⟩ := h
  obtain ⟨xs, s, l⟩ := lst_sq r e
  rw [l.ints] at s
  exact ⟨p, den_obj.mp a, s⟩
def sum1 (ds : List D) (M : Mem) (Q : QE) : Prop := ∃ d ns, ds = [d] ∧ intsOf M d ns ∧ Q (.int ns.sum) M
theorem cl_sum : CallL K (rSum K) sum1 := by
  rintro ds vs H ρ σ M H0 Q dn r t ⟨d, ns, rfl, e, q⟩
  obtain ⟨v, rfl, a⟩ := one_arg (ds := []) dn
  obtain ⟨p, rfl, s⟩ := ints_sq r e a
  exact ⟨p, ns, rfl, s, _, M, den_int.mpr rfl, r, t, q⟩
def min1 (ds : List D) (M : Mem) (Q : QE) : Prop := ∃ d ns, ds = [d] ∧ intsOf M d ns ∧ 0 < ns.length ∧ ∀ m, m ∈ ns → (∀ y, y ∈ ns → m ≤ y) → Q (.int m) M
theorem cl_min : CallL K (rMin K) min1 := by
  rintro ds vs H ρ σ M H0 Q dn r t ⟨d, ns, rfl, e, hl, q⟩
  obtain ⟨v, rfl, a⟩ := one_arg (ds := []) dn
  obtain ⟨p, rfl, s⟩ := ints_sq r e a
  exact ⟨p, ns, rfl, s, hl, fun m h1 h2 => ⟨_, M, den_int.mpr rfl, r, t, q m h1 h2⟩⟩
def max1 (ds : List D) (M : Mem) (Q : QE) : Prop := ∃ d ns, ds = [d] ∧ intsOf M d ns ∧ 0 < ns.length ∧ ∀ m, m ∈ ns → (∀ y, y ∈ ns → y ≤ m) → Q (.int m) M
theorem cl_max : CallL K (rMax K) max1 := by
  rintro ds vs H ρ σ M H0 Q dn r t ⟨d, ns, rfl, e, hl, q⟩
  obtain ⟨v, rfl, a⟩ := one_arg (ds := []) dn
  obtain ⟨p, rfl, s⟩ := ints_sq r e a
  exact ⟨p, ns, rfl, s, hl, fun m h1 h2 => ⟨_, M, den_int.mpr rfl, r, t, q m h1 h2⟩⟩
theorem DenL.bls {H : Hp} : ∀ {bs : List Bool} {vs : List V}, DenL K H (bs.map D.bl) vs → vs = bs.map V.bl
  | [], vs, h => denL_nil.mp h
  | n :: ns, vs, h => by
    obtain ⟨w, r, rfl, a', b⟩ := denL_cons.mp h
    rw [den_bl.mp a', DenL.bls b] <;> rfl
def all1 (ds : List D) (M : Mem) (Q : QE) : Prop := ∃ (a : Addr) (bs : List Bool), ds = [.obj a] ∧ lstOf (M a) = some (bs.map D.bl) ∧ Q (.bl (bs.all id)) M
def any1 (ds : List D) (M : Mem) (Q : QE) : Prop := ∃ (a : Addr) (bs : List Bool), ds = [.obj a] ∧ lstOf (M a) = some (bs.map D.bl) ∧ Q (.bl (bs.any id)) M
theorem cl_all : CallL K (rAll K) all1 := by
  rintro ds vs H ρ σ M H0 Q dn r t ⟨p, bs, rfl, e, q⟩
  obtain ⟨v, rfl, a⟩ := one_arg (ds := []) dn
  obtain ⟨xs, s, l⟩ := lst_sq r e
  rw [l.bls] at s
  exact ⟨p, bs, by rw [den_obj.mp a], s, _, M, den_bl.mpr rfl, r, t, q⟩
theorem cl_any : CallL K (rAny K) any1 := by
  rintro ds vs H ρ σ M H0 Q dn r t ⟨p, bs, rfl, e, q⟩
  obtain ⟨v, rfl, a⟩ := one_arg (ds := []) dn
  obtain ⟨xs, s, l⟩ := lst_sq r e
  rw [l.bls] at s
  exact ⟨p, bs, by rw [den_obj.mp a], s, _, M, den_bl.mpr rfl, r, t, q⟩
/-- isinstance(d, T), T built in -/
def tyD : D → Mem → Option String
  | .non, _ => some "NoneType" | .bl _, _ => some "bool" | .int _, _ => some "int" | .str _, _ => some "str" | .tup _, _ => some "tuple" | .ro _, _ => some "list"
  | .obj a, M => match M a with
    | some (.lst _) => some "list"
    | some (.dk _) => some "dict"
    | _ => none
  | .ty _, _ => none
  | .exn _ _ _, _ => none
  | .kls _, _ => none
theorem tyX_of {H : Hp} {σ : L2.St} {d : D} {v : V} {T : String} (r : R K ρ M σ H) (a : Den K H d v) (h : tyD d M = some T) : TyX K H v (.type T) := by
  cases d with
  | non => cases h; rw [den_non.mp a]; exact .base .non
  | bl b => cases h; rw [den_bl.mp a]; exact .base (.bl _)
  | int i => cases h; rw [den_int.mp a]; exact .base (.int _)
  | str i => cases h; rw [den_str.mp a]; exact .base (.str _)
  | ty i => cases h
  | exn _ _ _ => cases h
  | kls _ => cases h
  | tup ds =>
    cases h
    obtain ⟨p, xs, rfl, s, l⟩ := den_tup.mp a
    rcases s with (s | ⟨o, s⟩) | ⟨o, its, n, h1, h2, h3, _⟩
    · exact .base (.tup s)
    · exact .fTuple s
    · exact .kTuple h1 h2
  | ro ds =>
    cases h
    obtain ⟨p, xs, rfl, s, l⟩ := den_ro.mp a
    rcases s with ⟨o, s⟩ | ⟨o, its, n, h1, h2, _⟩
    · exact .base (.frz s)
    · exact .kList h1 h2
  | obj p =>
    rw [den_obj.mp a]
    simp only [tyD] at h
    cases e : M p with
    | none => rw [e] at h; cases h
    | some o =>
      rw [e] at h
      cases o with
      | lst ds => cases h; obtain ⟨xs, hx, _⟩ := r.rep p _ e; exact .base (.lst hx)
      | dk ds => cases h; obtain ⟨xs, hx, _⟩ := r.rep p _ e; exact .base (.dK hx)
      | ins _ _ => cases h
      | tab _ => cases h
      | code _ => cases h
/-- isinstance(x, (c1, c2, ..)), however the tuple stands -/
def rIsiS (K : PySem.W.Frag) : List V → Hp → VK → Prop := fun xs H Q => ∃ (x : V) (tp : Addr) (cs : List V) (t : Value) (us : List Value) (b : Bool), xs = [x, .ref tp] ∧ SqT K H tp cs ∧ Paired ClsV cs us ∧ TyX K H x t ∧ PySem.W.kitAny K t us = some b ∧ Q (.bl b) H
theorem call_isiS {X : Cx} : CallR X (.builtin "isinstance") (rIsiS X.K) := by
  intro pins s σ H xs us Q I r h
  obtain ⟨x, tp, cs, t, ws, b, rfl, hT, k, ty, e, q⟩ := h
  obtain ⟨u1, u2, rfl, r1, r2⟩ := vals2 r
  cases (show u2 = Value.ref tp from r2)
  obtain ⟨P, Z, p, hx⟩ := kit_of I r1 ty
  obtain ⟨its, rv, ⟨o, h1, h2, n, h3⟩, _⟩ := I.tuple hT
  have e3 := ClsV.all k rv
  subst e3
  obtain ⟨oc, od, dt, sl⟩ := o
  simp only at h2 h3
  subst h2 h3
  exact PySem.W.kia_tup Z I.kIn p h1 e hx fun tk => ⟨.bl b, H, I.tok tk, rfl, q⟩
def kitAnyB (S : String) : List String → Option Bool
  | [] => some false
  | T :: Ts => match kitB S T with
    | some true => some true
    | some false => kitAnyB S Ts
    | none => none
theorem kitAnyB_of {K : PySem.W.Frag} {S : String} : ∀ {Ts : List String} {b : Bool}, kitAnyB S Ts = some b → PySem.W.kitAny K (.type S) (Ts.map Value.type) = some b ∨ kitAnyB S Ts = none
  | [], b, h => .inl (by cases h; exact kitAny_nil)
  | T :: Ts, b, h => by
    unfold kitAnyB at h
    cases e : kitB S T with
    | none => rw [e] at h; cases h
    | some c =>
      rw [e] at h
      cases c with
      | true => cases h; exact .inl (by
          show PySem.W.kitAny K _ (_ :: _) = _
          unfold PySem.W.kitAny; rw [kit_ty e])
      | false =>
        rcases kitAnyB_of (K := K) h with z | z
        · exact .inl (kitAny_cons (kit_ty e) (fun _ => z) (fun z => nomatch z))
        · rw [z] at h; cases h
theorem cls_tys {K : PySem.W.Frag} {H : Hp} : ∀ {Ts : List String} {vs : List V}, DenL K H (Ts.map D.ty) vs → Paired ClsV vs (Ts.map Value.type)
  | [], vs, h => by rw [denL_nil.mp h]; exact .nil
  | T :: Ts, vs, h => by
    obtain ⟨v, r, rfl, a, b⟩ := denL_cons.mp h
    rw [den_ty.mp a]
    exact .cons (.ty T) (cls_tys b)
def isi2 (ds : List D) (M : Mem) (Q : QE) : Prop := (∃ d T S b, ds = [d, .ty T] ∧ tyD d M = some S ∧ kitB S T = some b ∧ Q (.bl b) M) ∨ ∃ d Ts S b, ds = [d, .tup (Ts.map D.ty)] ∧ tyD d M = some S ∧ kitAnyB S Ts = some b ∧ Q (.bl b) M
theorem cl_isi : CallL K (fun xs H Q => rIsi K xs H Q ∨ rIsiS K xs H Q) isi2 := by
  rintro ds vs H ρ σ M H0 Q dn r t (⟨d, T, S, b, rfl, e, kb, q⟩ | ⟨d, T, S, b, rfl, e, kb, q⟩)
  · obtain ⟨v, u, rfl, a1, a2⟩ := two_args dn
    exact .inl ⟨v, .ty T, _, _, b, by rw [den_ty.mp a2], .ty T, tyX_of r a1 e, kit_ty kb, _, M, den_bl.mpr rfl, r, t, q⟩
  · obtain ⟨v, u, rfl, a1, a2⟩ := two_args dn
    obtain ⟨p, xs, rfl, s, l⟩ := den_tup.mp a2
    rcases kitAnyB_of (K := K) kb with z | z
    · exact .inr ⟨v, p, xs, _, _, b, rfl, s, cls_tys l, tyX_of r a1 e, z, _, M, den_bl.mpr rfl, r, t, q⟩
    · rw [z] at kb; cases kb

theorem sw_pair {env : Env} {x y : Str} {px py pt pt2 : Pos} {kt k2} {a b : Expr} (hk : env.blockKind = .function) (hx : env.scope.names.lookup x = some .local) (hy : env.scope.names.lookup y = some .local)
    (hl : (py.line == px.line) = true) (hne : ([x, y].eraseDups.length != 2) = false) (h1 : ([a, b].any fun | .Starred .. => true | _ => false) = false) (h2 : [a, b].all (foldedForSure 8) = false) (h3 : [a, b].all (constantsAlone 8) = false) :
    swappedStores [.Tuple [.Name x px, .Name y py] kt pt] (.Tuple [a, b] k2 pt2) env = pure (some [x, y]) := by
  have kx : env.kindOf x = some .local := hx
  have ky : env.kindOf y = some .local := hy
  have hl' : py.line = px.line := by simpa using hl
  have hne' : [x, y].eraseDups.length = 2 := by simpa using hne
  simp only [List.any_cons, List.any_nil, Bool.or_false, Bool.or_eq_false_iff] at h1
  simp only [List.all_cons, List.all_nil, Bool.and_true] at h2 h3
  unfold swappedStores
  simp only [List.length_cons, List.length_nil, hk, List.any_cons, List.any_nil, h1.1, h1.2, List.head?_cons, Option.map_some, Option.getD_some, Expr.pos, List.filterMap_cons, kx, ky, hl', beq_self_eq_true, Bool.and_self, if_true, List.filterMap_nil, hne', List.all_cons, List.all_nil, Bool.and_true, h2, h3, Bool.or_self, Bool.false_eq_true, if_false, bne_self_eq_false]
  refine (if_neg (by decide)).trans ((if_neg ?_).trans rfl)
  intro z
  rcases (Bool.or_eq_true _ _).mp z with z | z
  · exact Bool.noConfusion (z.symm.trans h1.1)
  · rw [Bool.or_false] at z
    exact Bool.noConfusion (z.symm.trans h1.2)

/-! ### statements -/
theorem wss_nil {E : Ends2} (q : E.nx ρ M) : WSs X [] E ρ M := fun σ H r => cSs_of pss_nil ⟨ρ, M, r, TK.refl _, q⟩
theorem wss_cons {st : Stmt} {rest : List Stmt} {E : Ends2} (h : WS X st (consE X rest E) ρ M) : WSs X (st :: rest) E ρ M := fun σ H r => by
  refine cSs_of (pss_cons psC pssC) ?_
  exact cS_mono (D := LS X.K H { E with nx := WSs X rest E }) (D' := { LS X.K H E with nx := cSs X rest (LS X.K H E) }) (fun σ1 H1 ⟨ρ1, M1, r1, t1, q⟩ => cSs_back t1 (q σ1 H1 r1)) (fun _ _ q => q) (fun _ _ q => q) (fun _ _ q => q) (h σ H r)
theorem wss_one {st : Stmt} {E : Ends2} (h : WS X st E ρ M) : WSs X [st] E ρ M := fun σ H r => cSs_of (pss_one psC) (h σ H r)
/-- a block, its end told by a word of one's own -/
theorem wss_cut {st : Stmt} {rest : List Stmt} {E : Ends2} (I : St2 → Mem → Prop) (h : WS X st { E with nx := I } ρ M) (k : ∀ ρ M, I ρ M → WSs X rest E ρ M) : WSs X (st :: rest) E ρ M :=
  wss_cons (WS.mono (E := { E with nx := I }) (E' := { E with nx := WSs X rest E }) (fun _ _ q => k _ _ q) (fun _ _ q => q) (fun _ _ q => q) (fun _ _ q => q) h)
theorem ws_ret {e : Expr} {pos : Pos} {E : Ends2} (h : WE X e ρ M E.rt) : WS X (.Return (some e) pos) E ρ M := fun σ H r => by
  refine cS_of (ps_ret peC) ?_
  refine cE_mono ?_ (h σ H r)
  rintro v H1 ⟨d, M1, dn, r1, t1, q⟩
  exact ⟨d, M1, dn, r1.rep, t1, q⟩
theorem ws_expr {e : Expr} {pos : Pos} {E : Ends2} (hs : swapsWith e none pos.line X.env = pure false) (h : WE X e ρ M fun _ M1 => E.nx ρ M1) : WS X (.Expr e pos) E ρ M := fun σ H r => by
  refine cS_of (ps_expr peC hs) ?_
  refine cE_mono ?_ (h σ H r)
  rintro v H1 ⟨d, M1, dn, r1, t1, q⟩
  exact ⟨ρ, M1, r1, t1, q⟩
theorem ws_brk {pos : Pos} {E : Ends2} (q : E.bk ρ M) : WS X (.Break pos) E ρ M := fun σ H r => cS_of ps_break ⟨ρ, M, r, TK.refl _, q⟩
theorem ws_cont {pos : Pos} {E : Ends2} (q : E.ct ρ M) : WS X (.Continue pos) E ρ M := fun σ H r => cS_of ps_continue ⟨ρ, M, r, TK.refl _, q⟩
theorem ws_if {c : Expr} {a b : List Stmt} {pos : Pos} {E : Ends2} (h : WT X c ρ M fun k M1 => Br k (WSs X a E ρ M1) (WSs X b E ρ M1)) : WS X (.If c a b pos) E ρ M := fun σ H r => by
  refine cS_of (ps_if ptC pssC pssC) ?_
  refine cT_mono ?_ (h σ H r)
  rintro k H1 ⟨M1, r1, t1, br⟩
  exact Br.ite (Br.mono br (fun z => cSs_back t1 (z σ H1 r1)) fun z => cSs_back t1 (z σ H1 r1))
theorem ws_asg {tg e : Expr} {pos : Pos} {E : Ends2} (h1 : swapsWithSole [tg] e pos.line X.env = pure false) (h2 : swappedStores [tg] e X.env = pure none) (h3 : List.map (fun x => x.2) (assignEach [tg] X.env) = [assign tg X.env])
    (h : WE X e ρ M fun d M1 => WG X tg d ρ M1 E.nx) : WS X (.Assign [tg] e pos) E ρ M := fun σ H r => by
  refine cS_of (ps_asg peC pgC h1 h2 h3) ?_
  refine cE_mono ?_ (h σ H r)
  rintro v H1 ⟨d, M1, dn, r1, t1, q⟩
  refine cG_mono ?_ (q v σ H1 r1 dn)
  rintro σ2 H2 ⟨ρ2, M2, r2, t2, q2⟩
  exact ⟨ρ2, M2, r2, t1.trans t2, q2⟩
theorem wg_name (C : Cxt X N sc P w K mg base k0) {x : Str} {i : Nat} {pos : Pos} {d : D} {ρ' : St2} {Q : St2 → Mem → Prop} (nm : Nm N i x) (hx : x ∈ sc.l) (pt : Put N ρ x d ρ') (q : Q ρ' M) : WG X (.Name x pos) d ρ M Q := fun v σ H r dn => by
  obtain ⟨j, ej, rfl⟩ := pt.get
  have e : j = i := nodup_ix C.nd ej nm.get
  subst e
  refine cG_of (pg_name (i := j) (by rw [C.hN]; exact C.nd) (by rw [C.hN]; exact nm.get) (C.loc x hx) (C.fn x hx)) ?_
  exact ⟨_, M, ⟨r.env.set j dn, r.rep⟩, TK.refl _, q⟩
/-- o[i] = v of a list -/
theorem wg_sub {o i : Expr} {pos : Pos} {d : D} {Q : St2 → Mem → Prop}
    (ha : ∀ v, assign (.Subscript o i pos) X.env v = (do let ov ← holding [v] (eval o X.env); let iv ← holding [v, ov] (eval i X.env); standAt pos; holding [v, ov, iv] (setItem ov iv v); release [v, ov, iv] []))
    (h : WE X o ρ M fun d1 M1 => WE X i ρ M1 fun d2 M2 => ∃ a ds k j, d1 = .obj a ∧ d2 = .int k ∧ M2 a = some (.lst ds) ∧ ixN ds.length k = some j ∧ Q ρ (mup M2 a (.lst (ds.set j d)))) : WG X (.Subscript o i pos) d ρ M Q := fun v σ H r dn => by
  refine cG_of (pg_sub peC peC set_list ha) ?_
  refine cE_mono ?_ (h σ H r)
  rintro ov H1 ⟨d1, M1, dn1, r1, t1, q1⟩
  refine cE_mono ?_ (q1 σ H1 r1)
  rintro iv H2 ⟨d2, M2, dn2, r2, t2, a, ds, k, j, rfl, rfl, ea, ex, q⟩
  obtain ⟨xs, hx, l⟩ := r2.rep a _ ea
  rw [den_obj.mp (dn1.mono t2), den_int.mp dn2]
  have tk := TK.lst (K := X.K) (o := .lst (xs.set j v)) hx
  refine ⟨a, xs, k, j, rfl, rfl, hx, by rw [l.length]; exact ex, ρ, _, r2.put (m := .lst (ds.set j d)) tk ⟨_, upd_same, ?_⟩, (t1.trans t2).trans tk, q⟩
  exact (DenL.set (dn.mono (t1.trans t2)) j l).mono tk
/-- x op= e, by the operator's rule on ints, lists are not served -/
theorem ws_augI (C : Cxt X N sc P w K mg base k0) {x : Str} {i : Nat} {e : Expr} {pos pos' : Pos} {E : Ends2} {n : Int} (sl : Slot N ρ i x (.int n)) (hx : x ∈ sc.l) (h : WE X e ρ M fun d M1 => ∃ m ρ', d = .int m ∧ Put N ρ x (.int (n + m)) ρ' ∧ E.nx ρ' M1) : WS X (.AugAssign (.Name x pos') .Add e pos) E ρ M := fun σ H r => by
  refine cS_of (ps_aug (i := i) (by rw [C.hN]; exact C.nd) (by rw [C.hN]; exact sl.get.1) (C.loc x hx) peC ip_add (C.fn x hx)) ?_
  obtain ⟨v, ev, dv⟩ := r.env.at_ i _ sl.get.2
  refine ⟨v, ev, ?_⟩
  refine cE_mono ?_ (h σ H r)
  rintro u H1 ⟨d, M1, dn, r1, t1, m, ρ', rfl, pt, q⟩
  obtain ⟨j, ej, rfl⟩ := pt.get
  have e : j = i := nodup_ix C.nd ej sl.get.1
  subst e
  exact ⟨n, m, den_int.mp dv, den_int.mp dn, _, M1, ⟨r1.env.set j (den_int.mpr rfl), r1.rep⟩, t1, q⟩
/-- a, b = e1, e2 -/
theorem ws_par (C : Cxt X N sc P w K mg base k0) {i j : Nat} {x y : Str} {a b : Expr} {px py pt : Pos} {kt k2 : Nat} {pt2 pos : Pos} {E : Ends2} (hi : Nm N i x) (hj : Nm N j y) (hij : i ≠ j) (lx : x ∈ sc.c) (ly : y ∈ sc.c)
    (hl : (py.line == px.line) = true) (hne : ([x, y].eraseDups.length != 2) = false) (q1 : ([a, b].any fun | .Starred .. => true | _ => false) = false) (q2 : [a, b].all (foldedForSure 8) = false) (q3 : [a, b].all (constantsAlone 8) = false) (h2 : swapsWithSole [Expr.Tuple [Expr.Name x px, Expr.Name y py] kt pt] (Expr.Tuple [a, b] k2 pt2) pos.line X.env = pure false)
    (h : WA X [a, b] ρ M fun ds M1 => ∃ d e ρ1 ρ2, ds = [d, e] ∧ Put N ρ x d ρ1 ∧ Put N ρ1 y e ρ2 ∧ E.nx ρ2 M1) (hh : sc.hot = false := by first | k_dflt rfl | assumption) : WS X (.Assign [Expr.Tuple [Expr.Name x px, Expr.Name y py] kt pt] (Expr.Tuple [a, b] k2 pt2) pos) E ρ M := fun σ H r => by
  refine cS_of (ps_par (i := i) (j := j) (C.calm hh) (by rw [C.hN]; exact C.nd) (by rw [C.hN]; exact hi.get) (by rw [C.hN]; exact hj.get) hij (C.lcl x lx) (C.lcl y ly) paC (sw_pair (by unfold Env.blockKind; rw [C.kind]; rfl) (C.lcl x lx) (C.lcl y ly) hl hne q1 q2 q3) h2) ?_
  refine cA_mono ?_ (h σ H r)
  rintro vs H1 ⟨ds, M1, dn, r1, t1, d, e, ρ1, ρ2, rfl, p1, p2, q⟩
  obtain ⟨v, u, rfl, a1, a2⟩ := two_args dn
  obtain ⟨i', ei, rfl⟩ := p1.get
  obtain ⟨j', ej, rfl⟩ := p2.get
  obtain rfl : i' = i := nodup_ix C.nd ei hi.get
  obtain rfl : j' = j := nodup_ix C.nd ej hj.get
  exact ⟨v, u, rfl, _, M1, ⟨(r1.env.set i' a1).set j' a2, r1.rep⟩, t1, q⟩

/-! ### targets of loops and unpacking: names, nested -/
inductive Tgt where
  | nm (i : Nat)
  | tp (ts : List Tgt)
mutual
def gT (K : PySem.W.Frag) : Tgt → TG
  | .nm i => gName i
  | .tp ts => gTup K ts.length (gTs K ts)
def gTs (K : PySem.W.Frag) : List Tgt → TGs
  | [] => gNil
  | t :: ts => gCons (gT K t) (gTs K ts)
end
mutual
def bT : Tgt → D → St2 → Option St2
  | .nm i, d, ρ => some (ρ.set i (some d))
  | .tp ts, .tup ds, ρ => bTs ts ds ρ
  | .tp _, _, _ => none
def bTs : List Tgt → List D → St2 → Option St2
  | [], [], ρ => some ρ
  | t :: ts, d :: ds, ρ => (bT t d ρ).bind fun ρ' => bTs ts ds ρ'
  | _, _, _ => none
end
mutual
/-- the slots that are stored -/
def slT : Tgt → List Nat
  | .nm i => [i]
  | .tp ts => slTs ts
def slTs : List Tgt → List Nat
  | [] => []
  | t :: ts => slT t ++ slTs ts
end
/-- s' differs from s in the slots vs alone -/
def Off (vs : List Nat) (σ σ' : L2.St) : Prop := σ'.length = σ.length ∧ ∀ i, i ∉ vs → σ'[i]? = σ[i]?
theorem Off.refl {vs : List Nat} {σ : L2.St} : Off vs σ σ := ⟨rfl, fun _ _ => rfl⟩
theorem Off.trans {vs : List Nat} {σ σ' σ2 : L2.St} (a : Off vs σ σ') (b : Off vs σ' σ2) : Off vs σ σ2 := ⟨b.1.trans a.1, fun i h => (b.2 i h).trans (a.2 i h)⟩
theorem Off.more {vs ws : List Nat} {σ σ' : L2.St} (h : ∀ i ∈ vs, i ∈ ws) (a : Off vs σ σ') : Off ws σ σ' := ⟨a.1, fun i z => a.2 i fun y => z (h i y)⟩
theorem len_bTs : ∀ (ts : List Tgt) (ds : List D) (ρ ρ' : St2), bTs ts ds ρ = some ρ' → ds.length = ts.length
  | [], [], _, _, _ => rfl
  | [], _ :: _, _, _, h => by simp [bTs] at h
  | _ :: _, [], _, _, h => by simp [bTs] at h
  | t :: ts, d :: ds, ρ, ρ', h => by
    simp only [bTs] at h
    cases e : bT t d ρ with
    | none => rw [e] at h; cases h
    | some ρ1 => rw [e] at h; simp [len_bTs ts ds ρ1 ρ' h]
mutual
theorem gT_run {H : Hp} : ∀ (t : Tgt) (d : D) (v : V) (ρ ρ' : St2) (σ : L2.St) (Q : L2.St → Hp → Prop), bT t d ρ = some ρ' → Den K H d v → EnvR K H ρ σ → (∀ σ', EnvR K H ρ' σ' → Off (slT t) σ σ' → Q σ' H) → gT K t v σ H Q
  | .nm i, d, v, ρ, ρ', σ, Q, h, dn, er, k => by
    simp only [bT] at h
    cases h
    exact k _ (er.set i dn) ⟨List.length_set, fun j hj => List.getElem?_set_ne (by intro e; exact hj (by simp [slT, e]))⟩
  | .tp ts, .tup ds, v, ρ, ρ', σ, Q, h, dn, er, k => by
    simp only [bT] at h
    obtain ⟨a, xs, rfl, s, l⟩ := den_tup.mp dn
    refine ⟨a, xs, rfl, s, by rw [l.length]; exact len_bTs ts ds ρ ρ' h, ?_⟩
    exact gTs_run ts ds xs ρ ρ' σ Q h l er fun σ' e o => k σ' e (by simpa [slT] using o)
  | .tp _, .non, _, _, _, _, _, h, _, _, _ => by simp [bT] at h
  | .tp _, .bl _, _, _, _, _, _, h, _, _, _ => by simp [bT] at h
  | .tp _, .int _, _, _, _, _, _, h, _, _, _ => by simp [bT] at h
  | .tp _, .str _, _, _, _, _, _, h, _, _, _ => by simp [bT] at h
  | .tp _, .obj _, _, _, _, _, _, h, _, _, _ => by simp [bT] at h
  | .tp _, .ty _, _, _, _, _, _, h, _, _, _ => by simp [bT] at h
  | .tp _, .ro _, _, _, _, _, _, h, _, _, _ => by simp [bT] at h
  | .tp _, .exn _ _ _, _, _, _, _, _, h, _, _, _ => by simp [bT] at h
  | .tp _, .kls _, _, _, _, _, _, h, _, _, _ => by simp [bT] at h
theorem gTs_run {H : Hp} : ∀ (ts : List Tgt) (ds : List D) (vs : List V) (ρ ρ' : St2) (σ : L2.St) (Q : L2.St → Hp → Prop), bTs ts ds ρ = some ρ' → DenL K H ds vs → EnvR K H ρ σ → (∀ σ', EnvR K H ρ' σ' → Off (slTs ts) σ σ' → Q σ' H) → gTs K ts vs σ H Q
  | [], [], vs, ρ, ρ', σ, Q, h, dn, er, k => by
    simp only [bTs] at h
    cases h
    exact ⟨denL_nil.mp dn, k σ er Off.refl⟩
  | [], _ :: _, _, _, _, _, _, h, _, _, _ => by simp [bTs] at h
  | _ :: _, [], _, _, _, _, _, h, _, _, _ => by simp [bTs] at h
  | t :: ts, d :: ds, vs, ρ, ρ', σ, Q, h, dn, er, k => by
    simp only [bTs] at h
    obtain ⟨v, r, rfl, a, b⟩ := denL_cons.mp dn
    cases e : bT t d ρ with
    | none => rw [e] at h; cases h
    | some ρ1 =>
      rw [e] at h
      refine ⟨v, r, rfl, gT_run t d v ρ ρ1 σ _ e a er fun σ1 er1 o1 => ?_⟩
      exact gTs_run ts ds r ρ1 ρ' σ1 Q h b er1 fun σ' er' o' => k σ' er' (Off.trans (Off.more (fun i hi => by simp [slTs, hi]) o1) (Off.more (fun i hi => by simp [slTs, hi]) o'))
end
/-- how a written target stores -/
structure PT2 (X : Cx) (tg : Expr) (t : Tgt) : Prop where
  pg : PG X tg (gT X.K t)
structure PTs2 (X : Cx) (tgs : List Expr) (ts : List Tgt) : Prop where
  pg : PGs X tgs (gTs X.K ts)
theorem pt2_name (C : Cxt X N sc P w K mg base k0) {x : Str} {i : Nat} {pos : Pos} (nm : Nm N i x) (hx : x ∈ sc.l) : PT2 X (.Name x pos) (.nm i) :=
  ⟨by simp only [gT]; exact pg_name (i := i) (by rw [C.hN]; exact C.nd) (by rw [C.hN]; exact nm.get) (C.loc x hx) (C.fn x hx)⟩
theorem pts2_nil : PTs2 X [] [] := ⟨by simp only [gTs]; exact pgs_nil⟩
theorem pts2_cons {e : Expr} {es : List Expr} {t : Tgt} {ts : List Tgt} (hs : (assignEach (e :: es) X.env).map (·.2) = assign e X.env :: (assignEach es X.env).map (·.2)) (h1 : PT2 X e t) (h2 : PTs2 X es ts) : PTs2 X (e :: es) (t :: ts) :=
  ⟨by simp only [gTs]; exact pgs_cons h1.pg h2.pg hs⟩
theorem pt2_tup (C : Cxt X N sc P w K mg base k0) {es : List Expr} {k : Nat} {pos : Pos} {ts : List Tgt} (h1 : (assignEach es X.env).length = ts.length) (h2 : List.findIdx? (fun x => x.1) (assignEach es X.env) = none) (h : PTs2 X es ts) (hh : sc.hot = false := by first | k_dflt rfl | assumption) : PT2 X (.Tuple es k pos) (.tp ts) :=
  ⟨by simp only [gT]; exact pg_tup (C.calm hh) h.pg h1 h2⟩
theorem wg_tgt {tg : Expr} {t : Tgt} {d : D} {Q : St2 → Mem → Prop} (h : PT2 X tg t) {ρ' : St2} (hb : bT t d ρ = some ρ') (q : Q ρ' M) : WG X tg d ρ M Q := fun v σ H r dn =>
  cG_of h.pg (gT_run t d v ρ ρ' σ _ hb dn r.env fun σ' er _ => ⟨ρ', M, ⟨er, r.rep⟩, TK.refl _, q⟩)

/-- targets of a tuple, of any kind -/
def cGs (X : Cx) (tgs : List Expr) : TGs := fun vs σ H Q => ∀ pins s us, Inv X pins σ H s → Vals vs us → wpAny (model X.prog X.w) X.A (assignInOrder ((assignEach tgs X.env).map (·.2)) us) (fun _ s' => ∃ σ' H', Inv X pins σ' H' s' ∧ Q σ' H') X.xe s
theorem pgsC {tgs : List Expr} : PGs X tgs (cGs X tgs) := ⟨fun pins s σ H vs us Q I r h => h pins s us I r⟩
theorem cGs_of {tgs : List Expr} {t : TGs} (h : PGs X tgs t) {vs : List V} {σ : L2.St} {H : Hp} {Q : L2.St → Hp → Prop} (q : t vs σ H Q) : cGs X tgs vs σ H Q := fun pins s us I r => h.run pins s σ H vs us Q I r q
theorem cGs_mono {tgs : List Expr} {vs : List V} {σ : L2.St} {H : Hp} {Q Q' : L2.St → Hp → Prop} (m : ∀ v H', Q v H' → Q' v H') (h : cGs X tgs vs σ H Q) : cGs X tgs vs σ H Q' := fun pins s us I r =>
  thn (h pins s us I r) fun _ _ ⟨a, b, c, d⟩ => ⟨a, b, c, m _ _ d⟩
def WGs (X : Cx) (tgs : List Expr) (ds : List D) (ρ : St2) (M : Mem) (Q : St2 → Mem → Prop) : Prop := ∀ vs σ H, R X.K ρ M σ H → DenL X.K H ds vs → cGs X tgs vs σ H (LN X.K H Q)
theorem wgs_nil {Q : St2 → Mem → Prop} (q : Q ρ M) : WGs X [] [] ρ M Q := fun vs σ H r dn => cGs_of pgs_nil ⟨denL_nil.mp dn, ρ, M, r, TK.refl _, q⟩
theorem wgs_cons {e : Expr} {es : List Expr} {d : D} {ds : List D} {Q : St2 → Mem → Prop} (hs : (assignEach (e :: es) X.env).map (·.2) = assign e X.env :: (assignEach es X.env).map (·.2))
    (h : WG X e d ρ M fun ρ1 M1 => WGs X es ds ρ1 M1 Q) : WGs X (e :: es) (d :: ds) ρ M Q := fun vs σ H r dn => by
  obtain ⟨v, vr, rfl, a, b⟩ := denL_cons.mp dn
  refine cGs_of (pgs_cons pgC pgsC hs) ⟨v, vr, rfl, ?_⟩
  refine cG_mono ?_ (h v σ H r a)
  rintro σ1 H1 ⟨ρ1, M1, r1, t1, q⟩
  refine cGs_mono ?_ (q vr σ1 H1 r1 (b.mono t1))
  rintro σ2 H2 ⟨ρ2, M2, r2, t2, q2⟩
  exact ⟨ρ2, M2, r2, t1.trans t2, q2⟩
theorem wg_tup (C : Cxt X N sc P w K mg base k0) {es : List Expr} {k : Nat} {pos : Pos} {ds : List D} {Q : St2 → Mem → Prop} (h1 : (assignEach es X.env).length = ds.length) (h2 : List.findIdx? (fun x => x.1) (assignEach es X.env) = none) (h : WGs X es ds ρ M Q) (hh : sc.hot = false := by first | k_dflt rfl | assumption) : WG X (.Tuple es k pos) (.tup ds) ρ M Q := fun v σ H r dn => by
  obtain ⟨p, xs, rfl, s, l⟩ := den_tup.mp dn
  exact cG_of (pg_tup (C.calm hh) pgsC h1 h2) ⟨p, xs, rfl, s, l.length, h xs σ H r l⟩

/-! ### what is walked -/
def cI (X : Cx) (tg iter : Expr) : TI := fun σ H R => ∀ pins s, Inv X pins σ H s → wpAny (model X.prog X.w) X.A (eval iter X.env) (fun v s1 => wpAny (model X.prog X.w) X.A (pyIter v) (PIE X pins σ tg R) X.xe s1) X.xe s
theorem piC {tg iter : Expr} : PI X tg iter (cI X tg iter) := ⟨fun pins s σ H R I h => h pins s I⟩
theorem cI_of {tg iter : Expr} {t : TI} (h : PI X tg iter t) {σ : L2.St} {H : Hp} {R : It → Hp → Prop} (q : t σ H R) : cI X tg iter σ H R := fun pins s I => h.run pins s σ H R I q
/-- J gives the items xs, one by one, while the memory is as stays says -/
structure Adeq (K : PySem.W.Frag) (H1 : Hp) (J : It) (xs : List D) (stays : Mem → Prop) : Prop where
  go : ∀ (i : Nat) (ρ : St2) (M : Mem) (σ : L2.St) (H : Hp), R K ρ M σ H → TK K H1 H → stays M → i < xs.length → J.go i H
  yld : ∀ (i : Nat) (ρ : St2) (M : Mem) (σ : L2.St) (H : Hp) (x : V) (d : D) (H' : Hp), R K ρ M σ H → TK K H1 H → stays M → xs[i]? = some d → J.yld i H x H' → R K ρ M σ H' ∧ TK K H H' ∧ Den K H' d x
  stop : ∀ (ρ : St2) (M : Mem) (σ : L2.St) (H : Hp), R K ρ M σ H → TK K H1 H → stays M → J.stop xs.length H
abbrev QI := List D → (Mem → Prop) → Mem → Prop
def LI (K : PySem.W.Frag) (ρ : St2) (σ : L2.St) (H : Hp) (Q : QI) : It → Hp → Prop := fun J H1 => ∃ xs stays M1, R K ρ M1 σ H1 ∧ TK K H H1 ∧ Adeq K H1 J xs stays ∧ Q xs stays M1
def WI (X : Cx) (tg iter : Expr) (ρ : St2) (M : Mem) (Q : QI) : Prop := ∀ σ H, R X.K ρ M σ H → cI X tg iter σ H (LI X.K ρ σ H Q)
theorem adeq_list {H1 : Hp} {a : Addr} {ds : List D} : Adeq K H1 (Itl K a) ds (fun M => lstOf (M a) = some ds) where
  go := fun i ρ M σ H r t s hi => by
    obtain ⟨xs, sq, l⟩ := lst_sq r s
    obtain ⟨v, hv, _⟩ := l.get' (List.getElem?_eq_getElem hi)
    exact ⟨xs, v, sq, hv⟩
  yld := fun i ρ M σ H x d H' r t s hd ⟨e, y⟩ => by
    subst e
    obtain ⟨xs, sq, l⟩ := lst_sq r s
    obtain ⟨v, hv, dn⟩ := l.get' hd
    have := y xs sq
    rw [hv] at this
    cases this
    exact ⟨r, TK.refl _, dn⟩
  stop := fun ρ M σ H r t s => by
    obtain ⟨xs, sq, l⟩ := lst_sq r s
    exact ⟨xs, sq, by rw [l.length]; exact Nat.le_refl _⟩
theorem adeq_tup {H1 : Hp} {a : Addr} {ds : List D} {xs : List V} (s0 : SqT K H1 a xs) (l0 : DenL K H1 ds xs) : Adeq K H1 (Itt K a) ds (fun _ => True) where
  go := fun i ρ M σ H r t s hi => by
    obtain ⟨v, hv, _⟩ := l0.get' (List.getElem?_eq_getElem hi)
    exact ⟨xs, v, t.t _ _ s0, hv⟩
  yld := fun i ρ M σ H x d H' r t s hd ⟨e, y⟩ => by
    subst e
    obtain ⟨v, hv, dn⟩ := l0.get' hd
    have := y xs (t.t _ _ s0)
    rw [hv] at this
    cases this
    exact ⟨r, TK.refl _, dn.mono t⟩
  stop := fun ρ M σ H r t s => ⟨xs, t.t _ _ s0, by rw [l0.length]; exact Nat.le_refl _⟩
theorem adeq_rng {H1 : Hp} {lo : Int} {n : Nat} : Adeq K H1 (Itr lo n) ((List.range n).map fun i => D.int (lo + (i : Nat))) (fun _ => True) where
  go := fun i ρ M σ H r t s hi => by show i < n; simpa using hi
  yld := fun i ρ M σ H x d H' r t s hd ⟨e, y⟩ => by
    subst e
    subst y
    rw [List.getElem?_map] at hd
    cases e : (List.range n)[i]? with
    | none => rw [e] at hd; cases hd
    | some j =>
      rw [e] at hd
      cases hd
      have : j = i := by
        rw [List.getElem?_eq_some_iff] at e
        obtain ⟨h, e⟩ := e
        rw [← e]; simp
      subst this
      exact ⟨r, TK.refl _, den_int.mpr rfl⟩
  stop := fun ρ M σ H r t s => by show n ≤ _; simp
theorem wi_list {tg l : Expr} {Q : QI} (h : WE X l ρ M fun d M1 => ∃ a ds, d = .obj a ∧ lstOf (M1 a) = some ds ∧ Q ds (fun M => lstOf (M a) = some ds) M1) : WI X tg l ρ M Q := fun σ H r => by
  refine cI_of (pi_list peC) ?_
  refine cE_mono ?_ (h σ H r)
  rintro v H1 ⟨d, M1, dn, r1, t1, a, ds, rfl, e, q⟩
  obtain ⟨xs, s, l⟩ := lst_sq r1 e
  exact ⟨a, den_obj.mp dn, ⟨xs, s⟩, ds, _, M1, r1, t1, adeq_list, q⟩
theorem wi_tup {tg l : Expr} {Q : QI} (h : WE X l ρ M fun d M1 => ∃ ds, d = .tup ds ∧ Q ds (fun _ => True) M1) : WI X tg l ρ M Q := fun σ H r => by
  refine cI_of (pi_tup peC) ?_
  refine cE_mono ?_ (h σ H r)
  rintro v H1 ⟨d, M1, dn, r1, t1, ds, rfl, q⟩
  obtain ⟨a, xs, rfl, s, l⟩ := den_tup.mp dn
  exact ⟨a, rfl, ⟨xs, s⟩, ds, _, M1, r1, t1, adeq_tup s l, q⟩
theorem adeq_ro {H1 : Hp} {a : Addr} {ds : List D} {xs : List V} (s0 : SqF K H1 a xs) (l0 : DenL K H1 ds xs) : Adeq K H1 (Itl K a) ds (fun _ => True) where
  go := fun i ρ M σ H r t s hi => by
    obtain ⟨v, hv, _⟩ := l0.get' (List.getElem?_eq_getElem hi)
    exact ⟨xs, v, (t.f _ _ s0).l, hv⟩
  yld := fun i ρ M σ H x d H' r t s hd ⟨e, y⟩ => by
    subst e
    obtain ⟨v, hv, dn⟩ := l0.get' hd
    have z := y xs (t.f _ _ s0).l
    rw [hv] at z
    cases z
    exact ⟨r, TK.refl _, dn.mono t⟩
  stop := fun ρ M σ H r t s => ⟨xs, (t.f _ _ s0).l, by rw [l0.length]; exact Nat.le_refl _⟩
theorem wi_ro {tg l : Expr} {Q : QI} (h : WE X l ρ M fun d M1 => ∃ ds, d = .ro ds ∧ Q ds (fun _ => True) M1) : WI X tg l ρ M Q := fun σ H r => by
  refine cI_of (pi_list peC) ?_
  refine cE_mono ?_ (h σ H r)
  rintro v H1 ⟨d, M1, dn, r1, t1, ds, rfl, q⟩
  obtain ⟨a, xs, rfl, s, l⟩ := den_ro.mp dn
  exact ⟨a, rfl, ⟨xs, s.l⟩, ds, _, M1, r1, t1, adeq_ro s l, q⟩
theorem wi_rng1 (C : Cxt X N sc P w K mg base k0) {tg a : Expr} {p pos : Pos} {Q : QI} (hg : ("range" : Str) ∈ sc.g) (hm : mg "range" = none) (hs : starEach [a] X.env = [(false, eval a X.env)])
    (h : WE X a ρ M fun d M1 => ∃ j : Int, d = .int j ∧ -(2 ^ 62) ≤ j ∧ j < 2 ^ 62 ∧ Q ((List.range j.toNat).map fun i => D.int (0 + (i : Nat))) (fun _ => True) M1) : WI X tg (.Call (.Name "range" p) [a] [] pos) ρ M Q := fun σ H r => by
  obtain rfl := C.hmg
  refine cI_of (pi_range1 (C.gl _ hg).1 hm (pa_cons peC pa_nil hs) hs) ?_
  refine cE_mono ?_ (h σ H r)
  rintro v H1 ⟨d, M1, dn, r1, t1, j, rfl, h1, h2, q⟩
  rw [den_int.mp dn]
  exact ⟨j, rfl, h1, h2, _, _, M1, r1, t1, adeq_rng, q⟩
theorem wi_rng2 (C : Cxt X N sc P w K mg base k0) {tg a b : Expr} {p pos : Pos} {Q : QI} (hg : ("range" : Str) ∈ sc.g) (hm : mg "range" = none) (hs : starEach [a, b] X.env = [(false, eval a X.env), (false, eval b X.env)]) (hs2 : starEach [b] X.env = [(false, eval b X.env)])
    (h : WA X [a, b] ρ M fun ds M1 => ∃ i j : Int, ds = [.int i, .int j] ∧ (-(2 ^ 62) ≤ i ∧ i < 2 ^ 62 ∧ -(2 ^ 62) ≤ j ∧ j < 2 ^ 62) ∧ Q ((List.range (j - i).toNat).map fun k => D.int (i + (k : Nat))) (fun _ => True) M1) : WI X tg (.Call (.Name "range" p) [a, b] [] pos) ρ M Q := fun σ H r => by
  obtain rfl := C.hmg
  refine cI_of (pi_range2 (C.gl _ hg).1 hm paC hs hs2) ?_
  refine cA_mono ?_ (h σ H r)
  rintro vs H1 ⟨ds, M1, dn, r1, t1, i, j, rfl, h1, q⟩
  obtain ⟨v, u, rfl, a1, a2⟩ := two_args dn
  exact ⟨i, j, by rw [den_int.mp a1, den_int.mp a2], h1, _, _, M1, r1, t1, adeq_rng, q⟩
/-- pairs of the turn and the item -/
def enumD (ds : List D) : List D := ds.zipIdx.map fun p => D.tup [.int (p.2 : Nat), p.1]
theorem enumD_len (ds : List D) : (enumD ds).length = ds.length := by simp [enumD]
theorem enumD_get {ds : List D} {i : Nat} {d : D} (h : (enumD ds)[i]? = some d) : ∃ e, ds[i]? = some e ∧ d = .tup [.int (i : Nat), e] := by
  unfold enumD at h
  rw [List.getElem?_map, List.getElem?_zipIdx] at h
  cases e : ds[i]? with
  | none => rw [e] at h; cases h
  | some x => rw [e] at h; simp at h; exact ⟨x, rfl, h.symm⟩
theorem pair_new {H : Hp} {σ : L2.St} {T : Addr} {d1 d2 : D} {v1 v2 : V} (r : R K ρ M σ H) (hT : H T = none) (a : Den K H d1 v1) (b : Den K H d2 v2) : R K ρ M σ (upd H T (.tup [v1, v2])) ∧ TK K H (upd H T (.tup [v1, v2])) ∧ Den K (upd H T (.tup [v1, v2])) (.tup [d1, d2]) (.ref T) :=
  ⟨r.newT hT, TK.fresh hT, den_newT hT (DenL.cons a (DenL.cons b DenL.nil))⟩
theorem adeq_enumL {H1 : Hp} {a : Addr} {ds : List D} : Adeq K H1 (Ite K a) (enumD ds) (fun M => lstOf (M a) = some ds) where
  go := fun i ρ M σ H r t s hi => by
    obtain ⟨xs, sq, l⟩ := lst_sq r s
    rw [enumD_len] at hi
    obtain ⟨v, hv, _⟩ := l.get' (List.getElem?_eq_getElem hi)
    exact ⟨xs, v, sq, hv⟩
  yld := fun i ρ M σ H x d H' r t s hd ⟨T, y, e1, hT, e2, hy⟩ => by
    subst e1 e2
    obtain ⟨xs, sq, l⟩ := lst_sq r s
    obtain ⟨e, he, rfl⟩ := enumD_get hd
    obtain ⟨v, hv, dn⟩ := l.get' he
    have := hy xs sq
    rw [hv] at this
    cases this
    exact pair_new r hT (den_int.mpr rfl) dn
  stop := fun ρ M σ H r t s => by
    obtain ⟨xs, sq, l⟩ := lst_sq r s
    exact ⟨xs, sq, by rw [l.length, enumD_len]; exact Nat.le_refl _⟩
theorem adeq_enumR {H1 : Hp} {a : Addr} {ds : List D} {xs : List V} (s0 : SqF K H1 a xs) (l0 : DenL K H1 ds xs) : Adeq K H1 (Ite K a) (enumD ds) (fun _ => True) where
  go := fun i ρ M σ H r t s hi => by
    rw [enumD_len] at hi
    obtain ⟨v, hv, _⟩ := l0.get' (List.getElem?_eq_getElem hi)
    exact ⟨xs, v, (t.f _ _ s0).l, hv⟩
  yld := fun i ρ M σ H x d H' r t s hd ⟨T, y, e1, hT, e2, hy⟩ => by
    subst e1 e2
    obtain ⟨e, he, rfl⟩ := enumD_get hd
    obtain ⟨v, hv, dn⟩ := l0.get' he
    have z := hy xs (t.f _ _ s0).l
    rw [hv] at z
    cases z
    exact pair_new r hT (den_int.mpr rfl) (dn.mono t)
  stop := fun ρ M σ H r t s => ⟨xs, (t.f _ _ s0).l, by rw [l0.length, enumD_len]; exact Nat.le_refl _⟩
/-- pairs of the items of two -/
def zipD (ds es : List D) : List D := (ds.zip es).map fun p => D.tup [p.1, p.2]
theorem zipD_len (ds es : List D) : (zipD ds es).length = min ds.length es.length := by simp [zipD]
theorem zipD_get {ds es : List D} {i : Nat} {d : D} (h : (zipD ds es)[i]? = some d) : ∃ a b, ds[i]? = some a ∧ es[i]? = some b ∧ d = .tup [a, b] := by
  unfold zipD at h
  rw [List.getElem?_map] at h
  cases e : (ds.zip es)[i]? with
  | none => rw [e] at h; cases h
  | some x =>
    rw [e] at h
    rw [List.getElem?_zip_eq_some] at e
    exact ⟨x.1, x.2, e.1, e.2, by cases h; rfl⟩
theorem adeq_zipL {H1 : Hp} {a b : Addr} {ds es : List D} : Adeq K H1 (Itz K a b) (zipD ds es) (fun M => lstOf (M a) = some ds ∧ lstOf (M b) = some es) where
  go := fun i ρ M σ H r t s hi => by
    obtain ⟨xs, sq, l⟩ := lst_sq r s.1
    obtain ⟨ys, sq2, l2⟩ := lst_sq r s.2
    rw [zipD_len] at hi
    obtain ⟨v, hv, _⟩ := l.get' (List.getElem?_eq_getElem (Nat.lt_of_lt_of_le hi (Nat.min_le_left _ _)))
    obtain ⟨u, hu, _⟩ := l2.get' (List.getElem?_eq_getElem (Nat.lt_of_lt_of_le hi (Nat.min_le_right _ _)))
    exact ⟨xs, ys, v, u, sq, sq2, hv, hu⟩
  yld := fun i ρ M σ H x d H' r t s hd ⟨T, y, z, e1, hT, e2, hy, hz⟩ => by
    subst e1 e2
    obtain ⟨xs, sq, l⟩ := lst_sq r s.1
    obtain ⟨ys, sq2, l2⟩ := lst_sq r s.2
    obtain ⟨e, f, he, hf, rfl⟩ := zipD_get hd
    obtain ⟨v, hv, dn⟩ := l.get' he
    obtain ⟨u, hu, dn2⟩ := l2.get' hf
    have h1 := hy xs sq
    have h2 := hz ys sq2
    rw [hv] at h1
    rw [hu] at h2
    cases h1
    cases h2
    exact pair_new r hT dn dn2
  stop := fun ρ M σ H r t s => by
    obtain ⟨xs, sq, l⟩ := lst_sq r s.1
    obtain ⟨ys, sq2, l2⟩ := lst_sq r s.2
    refine ⟨xs, ys, sq, sq2, ?_⟩
    rw [l.length, l2.length, zipD_len]
    omega
theorem adeq_zipT {H1 : Hp} {a b : Addr} {ds es : List D} {xs ys : List V} (s1 : SqT K H1 a xs) (l1 : DenL K H1 ds xs) (s2 : SqT K H1 b ys) (l2 : DenL K H1 es ys) : Adeq K H1 (RZ.ItzT K a b) (zipD ds es) (fun _ => True) where
  go := fun i ρ M σ H r t s hi => by
    rw [zipD_len] at hi
    obtain ⟨v, hv, _⟩ := l1.get' (List.getElem?_eq_getElem (Nat.lt_of_lt_of_le hi (Nat.min_le_left _ _)))
    obtain ⟨u, hu, _⟩ := l2.get' (List.getElem?_eq_getElem (Nat.lt_of_lt_of_le hi (Nat.min_le_right _ _)))
    exact ⟨xs, ys, v, u, t.t _ _ s1, t.t _ _ s2, hv, hu⟩
  yld := fun i ρ M σ H x d H' r t s hd ⟨T, y, z, e1, hT, e2, hy, hz⟩ => by
    subst e1 e2
    obtain ⟨e, f, he, hf, rfl⟩ := zipD_get hd
    obtain ⟨v, hv, dn⟩ := l1.get' he
    obtain ⟨u, hu, dn2⟩ := l2.get' hf
    have h1 := hy xs (t.t _ _ s1)
    have h2 := hz ys (t.t _ _ s2)
    rw [hv] at h1
    rw [hu] at h2
    cases h1
    cases h2
    exact pair_new r hT (dn.mono t) (dn2.mono t)
  stop := fun ρ M σ H r t s => by
    refine ⟨xs, ys, t.t _ _ s1, t.t _ _ s2, ?_⟩
    rw [l1.length, l2.length, zipD_len]
    omega
theorem wi_zip (C : Cxt X N sc P w K mg base k0) {e e2 : Expr} {p pos tpos : Pos} {elts : List Expr} {kk : Nat} {Q : QI} (hg : ("zip" : Str) ∈ sc.g) (hm : mg "zip" = none) (hs : starEach [e, e2] X.env = (false, eval e X.env) :: starEach [e2] X.env) (hn : ∀ pos, (backTo pos (starEach [e2] X.env)).any (·.1) = false)
    (h : WA X [e, e2] ρ M fun ds M1 => (∃ a b as bs, ds = [.obj a, .obj b] ∧ lstOf (M1 a) = some as ∧ lstOf (M1 b) = some bs ∧ Q (zipD as bs) (fun M => lstOf (M a) = some as ∧ lstOf (M b) = some bs) M1) ∨ (∃ as bs, ds = [.tup as, .tup bs] ∧ Q (zipD as bs) (fun _ => True) M1)) :
    WI X (.Tuple elts kk tpos) (.Call (.Name "zip" p) [e, e2] [] pos) ρ M Q := fun σ H r => by
  obtain rfl := C.hmg
  refine cI_of (RZ.pi_zipA (C.gl _ hg).1 hm paC hs (hn pos)) ?_
  refine cA_mono ?_ (h σ H r)
  rintro vs H1 ⟨ds, M1, dn, r1, t1, ⟨a, b, as, bs, rfl, ha, hb, q⟩ | ⟨as, bs, rfl, q⟩⟩
  · obtain ⟨v, u, rfl, a1, a2⟩ := two_args dn
    obtain ⟨xs, sq, l⟩ := lst_sq r1 ha
    obtain ⟨ys, sq2, l2⟩ := lst_sq r1 hb
    rw [den_obj.mp a1, den_obj.mp a2]
    exact ⟨a, b, xs, ys, rfl, .inl ⟨sq, sq2, _, _, M1, r1, t1, adeq_zipL, q⟩⟩
  · obtain ⟨v, u, rfl, a1, a2⟩ := two_args dn
    obtain ⟨a, xs, rfl, sq, l⟩ := den_tup.mp a1
    obtain ⟨b, ys, rfl, sq2, l2⟩ := den_tup.mp a2
    exact ⟨a, b, xs, ys, rfl, .inr ⟨sq, sq2, _, _, M1, r1, t1, adeq_zipT sq l sq2 l2, q⟩⟩
theorem wi_enumL (C : Cxt X N sc P w K mg base k0) {e : Expr} {p pos tpos : Pos} {elts : List Expr} {kk : Nat} {Q : QI} (hg : ("enumerate" : Str) ∈ sc.g) (hm : mg "enumerate" = none) (hs : starEach [e] X.env = [(false, eval e X.env)])
    (h : WE X e ρ M fun d M1 => ∃ a as, d = .obj a ∧ lstOf (M1 a) = some as ∧ Q (enumD as) (fun M => lstOf (M a) = some as) M1) : WI X (.Tuple elts kk tpos) (.Call (.Name "enumerate" p) [e] [] pos) ρ M Q := fun σ H r => by
  obtain rfl := C.hmg
  refine cI_of (pi_enum (C.gl _ hg).1 hm (pa_cons peC pa_nil hs) hs) ?_
  refine cE_mono ?_ (h σ H r)
  rintro v H1 ⟨d, M1, dn, r1, t1, a, as, rfl, ha, q⟩
  obtain ⟨xs, sq, l⟩ := lst_sq r1 ha
  rw [den_obj.mp dn]
  exact ⟨a, xs, rfl, sq, _, _, M1, r1, t1, adeq_enumL, q⟩

theorem wi_enumR (C : Cxt X N sc P w K mg base k0) {e : Expr} {p pos tpos : Pos} {elts : List Expr} {kk : Nat} {Q : QI} (hg : ("enumerate" : Str) ∈ sc.g) (hm : mg "enumerate" = none) (hs : starEach [e] X.env = [(false, eval e X.env)])
    (h : WE X e ρ M fun d M1 => ∃ as, d = .ro as ∧ Q (enumD as) (fun _ => True) M1) : WI X (.Tuple elts kk tpos) (.Call (.Name "enumerate" p) [e] [] pos) ρ M Q := fun σ H r => by
  obtain rfl := C.hmg
  refine cI_of (pi_enum (C.gl _ hg).1 hm (pa_cons peC pa_nil hs) hs) ?_
  refine cE_mono ?_ (h σ H r)
  rintro v H1 ⟨d, M1, dn, r1, t1, as, rfl, q⟩
  obtain ⟨a, xs, rfl, s, l⟩ := den_ro.mp dn
  exact ⟨a, xs, rfl, s.l, _, _, M1, r1, t1, adeq_enumR s l, q⟩

/-! ### loops -/
theorem ws_for (C : Cxt X N sc P w K mg base k0) {tg iter : Expr} {body : List Stmt} {pos : Pos} {E : Ends2} {t : Tgt} (ht : PT2 X tg t) (hf : ∀ x, foldedSetIterable iter X.env x = pure x)
    (h : WI X tg iter ρ M fun xs stays M1 => ∃ I : Nat → St2 → Mem → Prop, I 0 ρ M1 ∧ (∀ i ρ M, I i ρ M → stays M) ∧
      (∀ (i : Nat) (d : D) (ρ : St2) (M : Mem), xs[i]? = some d → I i ρ M → ∃ ρ', bT t d ρ = some ρ' ∧ WSs X body (loopE E (I (i + 1))) ρ' M) ∧ (∀ ρ M, I xs.length ρ M → E.nx ρ M)) (hh : sc.hot = false := by first | k_dflt rfl | assumption) : WS X (.For tg iter body [] pos) E ρ M := fun σ H r => by
  refine cS_of (ps_for C.never (C.calm hh) piC ht.pg pssC hf) ?_
  refine fun pins s Iv => wpAny_mono (h σ H r pins s Iv) (fun v s1 q => wpAny_mono q (fun itv s2 z => ?_) fun _ _ z => z) fun _ _ z => z
  obtain ⟨it, fp, tn, J, H1, e1, I1, tu, tn0, fo, xs, stays, M1, r1, t1, ad, I, i0, ist, ibody, iend⟩ := z
  refine ⟨it, fp, tn, J, H1, e1, I1, tu, tn0, fo, ?_⟩
  refine ⟨fun i m σ2 H2 => m + i = xs.length ∧ ∃ ρ2 M2, R X.K ρ2 M2 σ2 H2 ∧ TK X.K H1 H2 ∧ I i ρ2 M2, ⟨xs.length, rfl, ρ, M1, r1, TK.refl _, i0⟩, ?_⟩
  rintro i m σ2 H2 ⟨em, ρ2, M2, r2, t2, ii⟩
  by_cases c : i < xs.length
  · refine .inr ⟨ad.go i ρ2 M2 σ2 H2 r2 t2 (ist _ _ _ ii) c, _, fun σ' H' z => z, fun x H3 y => ?_⟩
    have hd := List.getElem?_eq_getElem c
    obtain ⟨r3, t3, dn⟩ := ad.yld i ρ2 M2 σ2 H2 x _ H3 r2 t2 (ist _ _ _ ii) hd y
    obtain ⟨ρ', hb, wb⟩ := ibody i _ ρ2 M2 hd ii
    refine gT_run t _ x ρ2 ρ' σ2 _ hb dn r3.env fun σ' er _ => ?_
    have r4 : R X.K ρ' M2 σ' H3 := ⟨er, r3.rep⟩
    refine cSs_mono (D := LS X.K H3 _) ?_ ?_ ?_ ?_ (wb σ' H3 r4)
    · rintro σ5 H5 ⟨ρ5, M5, r5, t5, q⟩
      exact ⟨m - 1, by omega, by omega, ρ5, M5, r5, (t2.trans t3).trans t5, q⟩
    · rintro v5 H5 ⟨d5, M5, dn5, r5, t5, q⟩
      exact ⟨d5, M5, dn5, r5, ((t1.trans t2).trans t3).trans t5, q⟩
    · rintro σ5 H5 ⟨ρ5, M5, r5, t5, q⟩
      exact ⟨ρ5, M5, r5, ((t1.trans t2).trans t3).trans t5, q⟩
    · rintro σ5 H5 ⟨ρ5, M5, r5, t5, q⟩
      exact ⟨m - 1, by omega, by omega, ρ5, M5, r5, (t2.trans t3).trans t5, q⟩
  · have e : i = xs.length := by omega
    subst e
    exact .inl ⟨ad.stop ρ2 M2 σ2 H2 r2 t2 (ist _ _ _ ii), ρ2, M2, r2, t1.trans t2, iend _ _ ii⟩
theorem ws_while (C : Cxt X N sc P w K mg base k0) {c : Expr} {body : List Stmt} {pos : Pos} {E : Ends2} (I : Nat → St2 → Mem → Prop) (m0 : Nat) (i0 : I m0 ρ M)
    (h : ∀ m ρ M, I m ρ M → WT X c ρ M fun k M1 => Br k (WSs X body (loopE E (fun ρ' M' => ∃ m', m' < m ∧ I m' ρ' M')) ρ M1) (E.nx ρ M1)) : WS X (.While c body [] pos) E ρ M := fun σ H r => by
  refine cS_of (ps_while C.never ptC pssC) ?_
  refine ⟨fun m σ2 H2 => ∃ ρ2 M2, R X.K ρ2 M2 σ2 H2 ∧ TK X.K H H2 ∧ I m ρ2 M2, ⟨m0, ρ, M, r, TK.refl _, i0⟩, ?_⟩
  rintro m σ2 H2 ⟨ρ2, M2, r2, t2, ii⟩
  refine cT_mono ?_ (h m ρ2 M2 ii σ2 H2 r2)
  rintro k H3 ⟨M3, r3, t3, br⟩
  refine Br.ite (Br.mono br (fun z => ⟨_, fun σ' H' z => z, ?_⟩) fun z => ⟨ρ2, M3, r3, t2.trans t3, z⟩)
  refine cSs_mono (D := LS X.K H3 _) ?_ ?_ ?_ ?_ (z σ2 H3 r3)
  · rintro σ5 H5 ⟨ρ5, M5, r5, t5, m', hm, q⟩
    exact ⟨m', hm, ρ5, M5, r5, (t2.trans t3).trans t5, q⟩
  · rintro v5 H5 ⟨d5, M5, dn5, r5, t5, q⟩
    exact ⟨d5, M5, dn5, r5, (t2.trans t3).trans t5, q⟩
  · rintro σ5 H5 ⟨ρ5, M5, r5, t5, q⟩
    exact ⟨ρ5, M5, r5, (t2.trans t3).trans t5, q⟩
  · rintro σ5 H5 ⟨ρ5, M5, r5, t5, m', hm, q⟩
    exact ⟨m', hm, ρ5, M5, r5, (t2.trans t3).trans t5, q⟩

/-! ### list comprehensions, one for -/
def wipe2 (ρ : St2) : List Nat → St2
  | [] => ρ
  | v :: vs => (wipe2 ρ vs).set v none
theorem envR_wipe {H : Hp} {σ : L2.St} (h : EnvR K H ρ σ) : ∀ vs, EnvR K H (wipe2 ρ vs) (wipe σ vs)
  | [] => h
  | v :: vs => by
    have ih := envR_wipe h vs
    refine ⟨by show ((wipe2 ρ vs).set v none).length = ((wipe σ vs).set v none).length; rw [List.length_set, List.length_set]; exact ih.len, fun i d e => ?_⟩
    have e' : ((wipe2 ρ vs).set v none)[i]? = some (some d) := e
    show ∃ u, ((wipe σ vs).set v none)[i]? = some (some u) ∧ _
    rw [List.getElem?_set] at e' ⊢
    by_cases c : v = i
    · subst c
      rw [if_pos rfl] at e'
      by_cases z : v < (wipe2 ρ vs).length
      · rw [if_pos z] at e'; cases e'
      · rw [if_neg z] at e'; cases e'
    · rw [if_neg c] at e' ⊢
      exact ih.at_ i d e'
theorem wipe_len (σ : L2.St) : ∀ vs, (wipe σ vs).length = σ.length
  | [] => rfl
  | v :: vs => by show ((wipe σ vs).set v none).length = _; rw [List.length_set]; exact wipe_len σ vs
theorem wipe_at (σ : L2.St) : ∀ (vs : List Nat) (i : Nat), (wipe σ vs)[i]? = if i ∈ vs then (σ[i]?).map (fun _ => none) else σ[i]?
  | [], i => by simp [wipe]
  | v :: vs, i => by
    show ((wipe σ vs).set v none)[i]? = _
    rw [List.getElem?_set, wipe_len]
    by_cases c : v = i
    · subst c
      rw [if_pos rfl, if_pos List.mem_cons_self]
      by_cases z : v < σ.length
      · rw [if_pos z, List.getElem?_eq_getElem z]; rfl
      · rw [if_neg z, List.getElem?_eq_none (by omega)]; rfl
    · rw [if_neg c, wipe_at σ vs i]
      have e : (i ∈ v :: vs) ↔ i ∈ vs := by simp [Ne.symm c]
      by_cases z : i ∈ vs
      · rw [if_pos z, if_pos (e.mpr z)]
      · rw [if_neg z, if_neg (fun q => z (e.mp q))]
theorem wipe_off {vs : List Nat} {σ σ' : L2.St} (o : Off vs (wipe σ vs) σ') : wipe σ' vs = wipe σ vs := by
  refine List.ext_getElem? fun i => ?_
  rw [wipe_at, wipe_at]
  have l : σ'.length = σ.length := o.1.trans (wipe_len σ vs)
  by_cases z : i ∈ vs
  · rw [if_pos z, if_pos z]
    by_cases y : i < σ.length
    · rw [List.getElem?_eq_getElem y, List.getElem?_eq_getElem (by omega)]; rfl
    · rw [List.getElem?_eq_none (by omega), List.getElem?_eq_none (by omega)]
  · rw [if_neg z, if_neg z, o.2 i z, wipe_at, if_neg z]
/-- a comprehension's block -/
structure Blk (X : Cx) (scope : Scope) (X' : Cx) : Prop where
  ex : ∃ (s : Shared) (H : Hp) (C : Addr) (cl : List (Str × Addr)) (fp : List Addr), X' = X.blk s H scope (compEnvC scope cl C X.env) fp
theorem relab {scope : Scope} {env : Env} {x : Str} {k : NameKind} (h : scope.names.lookup x = some k) : (relabel scope env).names.lookup x = some k ∨ (k = .free ∧ (relabel scope env).names.lookup x = some .cell) := by
  unfold relabel
  simp only
  generalize scope.names = l at h ⊢
  induction l with
  | nil => simp at h
  | cons p l ih =>
    obtain ⟨n, k'⟩ := p
    rw [List.map_cons]
    by_cases c : (x == n) = true
    · rw [List.lookup_cons, c] at h
      have hk : k' = k := Option.some.inj h
      subst hk
      by_cases z : (k' == NameKind.free && env.scope.kind == .function && env.kindOf n == some .cell) = true
      · right
        have : k' = .free := by
          simp only [Bool.and_eq_true] at z
          have := z.1.1
          cases k' <;> first | rfl | (exact absurd this (by decide))
        refine ⟨this, ?_⟩
        simp only [z, if_true, List.lookup_cons, c]
      · left
        rw [Bool.not_eq_true] at z
        simp only [z, Bool.false_eq_true, if_false, List.lookup_cons, c]
    · have c' : (x == n) = false := by simpa using c
      rw [List.lookup_cons, c'] at h
      have := ih h
      by_cases z : (k' == NameKind.free && env.scope.kind == .function && env.kindOf n == some .cell) = true
      · simp only [z, if_true, List.lookup_cons, c']
        exact this
      · rw [Bool.not_eq_true] at z
        simp only [z, Bool.false_eq_true, if_false, List.lookup_cons, c']
        exact this
theorem vis_of {sc : Scope} {x : Str} (h : visB sc x = true) : Vis sc x := by
  unfold visB at h
  simp only [Bool.and_eq_true] at h
  have h1 := h.1.1
  cases e : sc.names.lookup x with
  | none => rw [e] at h1; cases h1
  | some k =>
    rw [e] at h1
    cases k with
    | «local» => exact .inl e
    | cell => exact .inr (.inl e)
    | free => exact .inr (.inr e)
    | _ => cases h1
theorem loc_of {sc : Scope} {x : Str} (h : locB sc x = true) : L2.Loc sc x := by
  unfold locB at h
  cases e : sc.names.lookup x with
  | none => rw [e] at h; cases h
  | some k =>
    rw [e] at h
    cases k with
    | «local» => exact .inl e
    | cell => exact .inr e
    | _ => cases h
theorem lcl_of {sc : Scope} {x : Str} (h : lclB sc x = true) : sc.names.lookup x = some .local := by
  unfold lclB at h
  cases e : sc.names.lookup x with
  | none => rw [e] at h; cases h
  | some k =>
    rw [e] at h
    cases k with
    | «local» => rfl
    | _ => cases h
theorem gl_of {sc : Scope} {x : Str} (h : glB sc x = true) : sc.names.lookup x = some .globalImplicit := by
  unfold glB at h
  simp only [Bool.and_eq_true] at h
  have h1 := h.1.1
  cases e : sc.names.lookup x with
  | none => rw [e] at h1; cases h1
  | some k =>
    rw [e] at h1
    cases k with
    | globalImplicit => rfl
    | _ => cases h1
theorem fr_of {sc : Scope} {x : Str} (h : frB sc x = true) : sc.names.lookup x = some .cell ∨ sc.names.lookup x = some .free := by
  unfold frB at h
  cases e : sc.names.lookup x with
  | none => rw [e] at h; cases h
  | some k =>
    rw [e] at h
    cases k with
    | cell => exact .inl rfl
    | free => exact .inr rfl
    | _ => cases h
theorem Nms.at_ {n : Nms} {sc : Scope} (h : n.ok sc = true) : (∀ x ∈ n.v, visB sc x = true) ∧ (∀ x ∈ n.l, locB sc x = true) ∧ (∀ x ∈ n.c, lclB sc x = true) ∧ (∀ x ∈ n.g, glB sc x = true) ∧ (∀ x ∈ n.f, frB sc x = true) := by
  unfold Nms.ok at h
  simp only [Bool.and_eq_true] at h
  exact ⟨List.all_eq_true.mp h.1.1.1.1, List.all_eq_true.mp h.1.1.1.2, List.all_eq_true.mp h.1.1.2, List.all_eq_true.mp h.1.2, List.all_eq_true.mp h.2⟩
theorem Cxt.blk {sc2 : Nms} (C : Cxt X N sc P w K mg base k0) {scope : Scope} {X' : Cx} (B : Blk X scope X') (hk : scope.kind = .function) (ok : sc2.ok scope = true) (hh : sc.hot = false := by first | k_dflt rfl | assumption) : Cxt X' N sc2 P w K mg base k0 := by
  obtain ⟨s, H, A, cl, fp, rfl⟩ := B.ex
  obtain ⟨ov, ol, oc, og, of⟩ := Nms.at_ ok
  refine { hP := C.hP, hw := C.hw, hK := C.hK, hmg := C.hmg, hbase := C.hbase, hN := C.hN, nd := C.nd, calm := fun _ => C.calm hh, vis := ?_, loc := ?_, lcl := ?_, gl := ?_, fn := ?_, fr := ?_, kind := hk, room := fun _ => C.room hh, gd := C.gd, never := PassesOwn.never }
  · intro x hx
    refine ⟨?_, visB_dbg (ov x hx)⟩
    rcases vis_of (ov x hx) with e | e | e
    · exact .inl ((relab (env := X.env) e).elim (fun z => z) fun z => by cases z.1)
    · exact .inr (.inl ((relab (env := X.env) e).elim (fun z => z) fun z => by cases z.1))
    · exact (relab (env := X.env) e).elim (fun z => .inr (.inr z)) fun z => .inr (.inl z.2)
  · intro x hx
    rcases loc_of (ol x hx) with e | e
    · exact .inl ((relab (env := X.env) e).elim (fun z => z) fun z => by cases z.1)
    · exact .inr ((relab (env := X.env) e).elim (fun z => z) fun z => by cases z.1)
  · intro x hx
    exact (relab (env := X.env) (lcl_of (oc x hx))).elim (fun z => z) fun z => by cases z.1
  · intro x hx
    exact ⟨(relab (env := X.env) (gl_of (og x hx))).elim (fun z => z) (fun z => by cases z.1), glB_dbg (og x hx)⟩
  · intro x hx
    rcases loc_of (ol x hx) with e | e
    · exact .inr ((relab (env := X.env) e).elim (fun z => z) fun z => by cases z.1)
    · exact .inl (by show (scope.names.lookup x == some .cell) = true; rw [e]; rfl)
  · intro x hx
    rcases fr_of (of x hx) with e | e
    · exact .inl ((relab (env := X.env) e).elim (fun z => z) fun z => by cases z.1)
    · exact (relab (env := X.env) e).elim .inr fun z => .inl z.2
/-- a block's names, by one look -/
def blkB (N fr : List Str) (scope : Scope) (own : List (Str × Nat)) : Bool :=
  (match scope.kind with | .function => true | _ => false) && (scope.names.all fun y => decide (scope.names.lookup y.1 = some y.2)) && (own.all fun p => decide (N[p.2]? = some p.1)) &&
    (scope.names.all fun y => match y.2 with
      | .free => decide (y.1 ∈ fr)
      | .local => decide (y.1 ∈ own.map (·.1)) || decide (y.1 ∉ N)
      | .cell => decide (y.1 ∈ own.map (·.1)) || decide (y.1 ∉ N)
      | _ => true)
theorem blk_ok (C : Cxt X N sc P w K mg base k0) {scope : Scope} {own : List (Str × Nat)} (h : blkB N sc.f scope own = true) : BlkOk X.N X.env.scope scope own := by
  unfold blkB at h
  simp only [Bool.and_eq_true] at h
  obtain ⟨⟨⟨h1, h2⟩, h3⟩, h4⟩ := h
  rw [List.all_eq_true] at h2 h3 h4
  refine ⟨?_, fun y hy => of_decide_eq_true (h2 y hy), fun p hp => by rw [C.hN]; exact of_decide_eq_true (h3 p hp), fun y hy e => ?_, fun y hy e => ?_⟩
  · cases e : scope.kind with
    | function => rfl
    | _ => rw [e] at h1; cases h1
  · have z := h4 y hy
    rw [e] at z
    exact C.fr _ (of_decide_eq_true z)
  · have z := h4 y hy
    rw [C.hN]
    rcases e with e | e <;> (rw [e] at z; simpa using z)
theorem kind_of {N fr : List Str} {scope : Scope} {own : List (Str × Nat)} (h : blkB N fr scope own = true) : scope.kind = .function := by
  unfold blkB at h
  simp only [Bool.and_eq_true] at h
  have h1 := h.1.1.1
  cases e : scope.kind with
  | function => rfl
  | _ => rw [e] at h1; cases h1
/-- the tests of a comprehension -/
def WTs (X : Cx) (ifs : List Expr) (ρ : St2) (M : Mem) (Q : Bool → Mem → Prop) : Prop := match ifs with
  | [] => Q true M
  | [c] => WT X c ρ M Q
  | _ => False
def cTs (X : Cx) (ifs : List Expr) : TT := match ifs with
  | [] => tYes
  | [c] => cT X c
  | _ => fun _ _ _ => False
theorem ptsC {X : Cx} {ifs : List Expr} : PTs X ifs (cTs X ifs) := by
  match ifs with
  | [] => exact pts_nil
  | [c] => exact pts_one ptC
  | a :: b :: r => exact ⟨fun _ _ _ _ _ _ h => h.elim⟩
theorem wts_use {ifs : List Expr} {Q : Bool → Mem → Prop} (h : WTs X ifs ρ M Q) {σ : L2.St} {H : Hp} (r : R X.K ρ M σ H) : cTs X ifs σ H (LT X.K ρ σ H Q) := by
  match ifs, h with
  | [], h => exact ⟨M, r, TK.refl _, h⟩
  | [c], h => exact h σ H r
theorem cTs_mono {X : Cx} {ifs : List Expr} {σ : L2.St} {H : Hp} {Q Q' : Bool → Hp → Prop} (m : ∀ v H', Q v H' → Q' v H') (h : cTs X ifs σ H Q) : cTs X ifs σ H Q' := by
  match ifs, h with
  | [], h => exact m _ _ h
  | [c], h => exact cT_mono m h
theorem lc_run {tg iter elt : Expr} {ifs : List Expr} {scope : Scope} {t : Tgt} {own : List Nat} {Q : QE} (ho : ∀ i ∈ slT t, i ∈ own)
    (h : WI X tg iter ρ M fun xs stays M1 => ∀ Dd, M1 Dd = none → ∃ I : Nat → Mem → Prop, I 0 (mup M1 Dd (.lst [])) ∧ (∀ i M, I i M → stays M) ∧
      (∀ (i : Nat) (d : D) (M : Mem), xs[i]? = some d → I i M → ∃ ρ', bT t d (wipe2 ρ own) = some ρ' ∧ ∀ X', Blk X scope X' → WTs X' ifs ρ' M fun b M3 => Br b (∀ X2, Blk X scope X2 → WE X2 elt ρ' M3 fun y M4 => ∃ acc, M4 Dd = some (.lst acc) ∧ acc.length < sizeLine ∧ I (i + 1) (mup M4 Dd (.lst (acc ++ [y])))) (I (i + 1) M3)) ∧
      (∀ M, I xs.length M → Q (.obj Dd) M)) {σ : L2.St} {H : Hp} (r : R X.K ρ M σ H) :
    tLc (cI X tg iter) (gT X.K t) (fun σ H Q => ∀ X', Blk X scope X' → cTs X' ifs σ H Q) (fun σ H Q => ∀ X', Blk X scope X' → cE X' elt σ H Q) own σ H (LE X.K ρ σ H Q) := by
  have bK : ∀ {X'}, Blk X scope X' → X'.K = X.K := fun b => by obtain ⟨_, _, _, _, _, rfl⟩ := b.ex; rfl
  refine fun pins s Iv => wpAny_mono (h σ H r pins s Iv) (fun v s1 q => wpAny_mono q (fun itv s2 z => ?_) fun _ _ z => z) fun _ _ z => z
  obtain ⟨it, fp, tn, J, H1, e1, I1, tu, tn0, fo, xs, stays, M1, r1, t1, ad, k⟩ := z
  refine ⟨it, fp, tn, J, H1, e1, I1, tu, tn0, fo, fun Dd hD => ?_⟩
  obtain ⟨I, i0, ist, ib, ie⟩ := k Dd (r1.rep.free hD)
  have r1' := r1.newL (ds := []) (vs := []) hD DenL.nil
  have tD : TK X.K H1 (upd H1 Dd (.lst [])) := TK.fresh hD
  refine ⟨fun i m H2 => m + i = xs.length ∧ ∃ M2, R X.K ρ M2 σ H2 ∧ TK X.K H1 H2 ∧ I i M2, ⟨xs.length, rfl, _, r1', tD, i0⟩, ?_⟩
  rintro i m H2 ⟨em, M2, r2, t2, ii⟩
  by_cases c : i < xs.length
  · refine .inr ⟨ad.go i ρ M2 σ H2 r2 t2 (ist _ _ ii) c, _, fun H' z => z, fun x H3 y => ?_⟩
    have hd := List.getElem?_eq_getElem c
    obtain ⟨r3, t3, dn⟩ := ad.yld i ρ M2 σ H2 x _ H3 r2 t2 (ist _ _ ii) hd y
    obtain ⟨ρ', hb, wb⟩ := ib i _ M2 hd ii
    refine gT_run t _ x (wipe2 ρ own) ρ' (wipe σ own) _ hb dn (envR_wipe r3.env own) fun σ' er off => ?_
    refine ⟨wipe_off (Off.more ho off), fun X' B => ?_⟩
    have hK := bK B
    have r4 : R X'.K ρ' M2 σ' H3 := by rw [hK]; exact ⟨er, r3.rep⟩
    have back : ∀ {M5 : Mem} {H5 : Hp}, R X.K ρ' M5 σ' H5 → TK X.K H3 H5 → R X.K ρ M5 σ H5 := fun a b => ⟨r3.env.mono b, a.rep⟩
    refine cTs_mono ?_ (wts_use (wb X' B) r4)
    rintro b H5 ⟨M5, r5, t5, br⟩
    rw [hK] at r5 t5
    refine Br.ite (Br.mono br (fun z X2 B2 => ?_) fun z => ⟨m - 1, by omega, by omega, M5, back r5 t5, ((t2.trans t3).trans t5), z⟩)
    have hK2 := bK B2
    refine cE_mono ?_ (z X2 B2 σ' H5 (by rw [hK2]; exact r5))
    rintro y H6 ⟨d6, M6, dn6, r6, t6, acc, ea, la, i6⟩
    rw [hK2] at dn6 r6 t6
    obtain ⟨ys, hy, ly⟩ := r6.rep Dd _ ea
    have tk := TK.lst (K := X.K) (o := .lst (ys ++ [y])) hy
    refine ⟨ys, hy, by rw [ly.length]; exact la, m - 1, by omega, by omega, _, ?_, ((((t2.trans t3).trans t5).trans t6).trans tk), i6⟩
    exact (back r6 (t5.trans t6)).put (m := .lst (acc ++ [d6])) tk ⟨_, upd_same, (ly.append (DenL.cons dn6 DenL.nil)).mono tk⟩
  · have e : i = xs.length := by omega
    subst e
    exact .inl ⟨ad.stop ρ M2 σ H2 r2 t2 (ist _ _ ii), .obj Dd, M2, den_obj.mpr rfl, r2, t1.trans t2, ie _ ii⟩
theorem tLc_mono {wi : TI} {g : TG} {tt : TT} {te : TE} {vs : List Nat} {σ : L2.St} {H : Hp} {Q Q' : VK} (m : ∀ v H, Q v H → Q' v H) (hw : ∀ {R R' : It → Hp → Prop}, (∀ J H, R J H → R' J H) → wi σ H R → wi σ H R') (h : tLc wi g tt te vs σ H Q) : tLc wi g tt te vs σ H Q' :=
  hw (fun J H1 k Dd hD => by
    obtain ⟨W, w0, ws⟩ := k Dd hD
    exact ⟨W, w0, fun i n H w => (ws i n H w).elim (fun z => .inl ⟨z.1, m _ _ z.2⟩) fun z => .inr z⟩) h
theorem cI_mono {tg iter : Expr} {σ : L2.St} {H : Hp} {R R' : It → Hp → Prop} (m : ∀ J H, R J H → R' J H) (h : cI X tg iter σ H R) : cI X tg iter σ H R' := fun pins s Iv =>
  wpAny_mono (h pins s Iv) (fun v s1 q => wpAny_mono q (fun itv s2 ⟨a, b, c, d, e, f, g, h, i, j, k⟩ => ⟨a, b, c, d, e, f, g, h, i, j, m _ _ k⟩) fun _ _ z => z) fun _ _ z => z
theorem we_lc (C : Cxt X N sc P w K mg base k0) {tg iter elt : Expr} {ifs : List Expr} {scope : Scope} {pos : Pos} {t : Tgt} {own : List (Str × Nat)} {Q : QE} (hb : blkB N sc.f scope own = true) (ho : ∀ i ∈ slT t, i ∈ own.map (·.2)) (ht : ∀ X', Blk X scope X' → PT2 X' tg t) (hf : ∀ x, foldedSetIterable iter X.env x = pure x)
    (h : WI X tg iter ρ M fun xs stays M1 => ∀ Dd, M1 Dd = none → ∃ I : Nat → Mem → Prop, I 0 (mup M1 Dd (.lst [])) ∧ (∀ i M, I i M → stays M) ∧
      (∀ (i : Nat) (d : D) (M : Mem), xs[i]? = some d → I i M → ∃ ρ', bT t d (wipe2 ρ (own.map (·.2))) = some ρ' ∧ ∀ X', Blk X scope X' → WTs X' ifs ρ' M fun b M3 => Br b (∀ X2, Blk X scope X2 → WE X2 elt ρ' M3 fun y M4 => ∃ acc, M4 Dd = some (.lst acc) ∧ acc.length < sizeLine ∧ I (i + 1) (mup M4 Dd (.lst (acc ++ [y])))) (I (i + 1) M3)) ∧
      (∀ M, I xs.length M → Q (.obj Dd) M)) (hh : sc.hot = false := by first | k_dflt rfl | assumption) : WE X (.ListComp elt [{ target := tg, iter := iter, ifs := ifs, is_async := 0 }] scope pos) ρ M Q := fun σ H r => by
  refine cE_of (pe_lc (own := own) (C.calm hh) (by rw [C.hN]; exact C.nd) piC (blk_ok C hb) ?_ ?_ ?_ hf) (lc_run ho h r)
  · intro s H A cl fp
    have B : Blk X scope (X.blk s H scope (compEnvC scope cl A X.env) fp) := ⟨s, H, A, cl, fp, rfl⟩
    exact (ht _ B).pg
  · intro s H A cl fp
    exact ⟨fun pins s' σ H Q I h => ptsC.run pins s' σ H Q I (h _ ⟨s, _, A, cl, fp, rfl⟩)⟩
  · intro s H A cl fp
    exact ⟨fun pins s' σ H Q I h => h _ ⟨s, _, A, cl, fp, rfl⟩ pins s' I⟩
theorem ws_setLc (C : Cxt X N sc P w K mg base k0) {i : Nat} {y : Str} {py : Pos} {tg iter elt : Expr} {ifs : List Expr} {scope : Scope} {pos spos : Pos} {t : Tgt} {own : List (Str × Nat)} {E : Ends2} (nm : Nm N i y) (ly : y ∈ sc.c) (hl : (py.line == pos.line) = true) (ha : (scope.names.any fun (n, k) => n == y && (k == .local || k == .cell)) = false)
    (hb : blkB N sc.f scope own = true) (ho : ∀ i ∈ slT t, i ∈ own.map (·.2)) (ht : ∀ X', Blk X scope X' → PT2 X' tg t) (hf : ∀ x, foldedSetIterable iter X.env x = pure x)
    (h : WI X tg iter ρ M fun xs stays M1 => ∀ Dd, M1 Dd = none → ∃ I : Nat → Mem → Prop, I 0 (mup M1 Dd (.lst [])) ∧ (∀ i M, I i M → stays M) ∧
      (∀ (i : Nat) (d : D) (M : Mem), xs[i]? = some d → I i M → ∃ ρ', bT t d (wipe2 ρ (own.map (·.2))) = some ρ' ∧ ∀ X', Blk X scope X' → WTs X' ifs ρ' M fun b M3 => Br b (∀ X2, Blk X scope X2 → WE X2 elt ρ' M3 fun y M4 => ∃ acc, M4 Dd = some (.lst acc) ∧ acc.length < sizeLine ∧ I (i + 1) (mup M4 Dd (.lst (acc ++ [y])))) (I (i + 1) M3)) ∧
      (∀ M, I xs.length M → ∃ ρ', Put N ρ y (.obj Dd) ρ' ∧ E.nx ρ' M)) (hh : sc.hot = false := by first | k_dflt rfl | assumption) : WS X (.Assign [.Name y py] (.ListComp elt [{ target := tg, iter := iter, ifs := ifs, is_async := 0 }] scope pos) spos) E ρ M := fun σ H r => by
  refine cS_of (ps_setLc (i := i) (own := own) (g := gT X.K t) (tt := fun σ H Q => ∀ X', Blk X scope X' → cTs X' ifs σ H Q) (te := fun σ H Q => ∀ X', Blk X scope X' → cE X' elt σ H Q) (C.calm hh) (by rw [C.hN]; exact C.nd) (by rw [C.hN]; exact nm.get) (C.lcl y ly) (sw_true C.kind (C.lcl y ly) hl ha) piC (blk_ok C hb) ?_ ?_ ?_ hf) ?_
  · intro s H A cl fp
    have B : Blk X scope (X.blk s H scope (compEnvC scope cl A X.env) fp) := ⟨s, H, A, cl, fp, rfl⟩
    exact (ht _ B).pg
  · intro s H A cl fp
    exact ⟨fun pins s' σ H Q I h => ptsC.run pins s' σ H Q I (h _ ⟨s, _, A, cl, fp, rfl⟩)⟩
  · intro s H A cl fp
    exact ⟨fun pins s' σ H Q I h => h _ ⟨s, _, A, cl, fp, rfl⟩ pins s' I⟩
  · have z := lc_run (Q := fun d M => ∃ ρ', Put N ρ y d ρ' ∧ E.nx ρ' M) ho h r
    refine tLc_mono ?_ cI_mono z
    rintro v H1 ⟨d, M1, dn, r1, t1, ρ', pt, q⟩
    obtain ⟨j, ej, rfl⟩ := pt.get
    obtain rfl : j = i := nodup_ix C.nd ej nm.get
    exact ⟨_, M1, ⟨r1.env.set j dn, r1.rep⟩, t1, q⟩
end
end Y

set_option Elab.async false
set_option linter.all false
set_option autoImplicit false
set_option maxRecDepth 100000
set_option maxHeartbeats 4000000
namespace Y
open PySem PySem.Spec PyProof.Rows L2

/-! ### defs -/
/-- an own exception leaves: its class's name, its fields, the memory -/
abbrev XQ := Str → List Str → List D → Mem → Prop
abbrev Sp2 := List D → Mem → QE → XQ → Prop
/-- an exception in flight: its class, its dict -/
def XD (K : PySem.W.Frag) (n : Str) (ks : List Str) (ds : List D) (cls : Value) (d : Option Addr) (H : Hp) : Prop := ∃ (C dd : Addr) (od : Obj) (vs : List V), cls = .ref C ∧ PySem.W.nsIn K mainGlobals n = some (some (.ref C)) ∧ d = some dd ∧ H dd = some (.frz od (.xd (ks.zip vs))) ∧ DenL K H ds vs
def XL (K : PySem.W.Frag) (H : Hp) (E : XQ) : XK := fun cls d H' => ∃ n ks ds M', XD K n ks ds cls d H' ∧ Rep K H' M' ∧ TK K H H' ∧ E n ks ds M'
theorem cx_no {P : Program} {w : World} {K : PySem.W.Frag} {H H0 : Hp} {outer : List Env} {s s' : Shared} {u : Value} (c : L2.CX P w outer H s (XL K H0 fun _ _ _ _ => False) u s') : False := by
  obtain ⟨a, B, H', cls, d, h1, h2, h3, h4, h5, h6, h7, hE⟩ := c
  obtain ⟨n, ks, ds, M', h8, h9, h10, z⟩ := hE
  exact z
structure Fn2 (P : Program) (w : World) (K : PySem.W.Frag) (mg : Str → Option Value) (base : Heap) (k : Nat) (f : Addr) (fd : FuncData) (ps : List Str) (sp : Sp2) : Prop where
  len : ∀ ds M Q E, sp ds M Q E → ds.length = ps.length
  run : ∀ (A : Around) (outer : List Env) (s : Shared) (H : Hp) (args : Args) (us : List Value) (vs : List V) (ds : List D) (M : Mem) (Q : QE) (E : XQ), Room k A → A.guards = some [] → Env0 P w K mg base A outer s H → BindsTo s fd args (ps.zip us) → Vals vs us → DenL K H ds vs → Rep K H M → sp ds M Q E →
    codeAny (model P w) A (.call (.ref f) args) (CR (L2.CX P w) outer P w H s (LR K H Q) (XL K H E)) s
def start2 (N : List Str) (ds : List D) : St2 := ds.map some ++ List.replicate (N.length - ds.length) none
theorem start_env {K : PySem.W.Frag} {H : Hp} {N : List Str} {ds : List D} {vs : List V} (l : DenL K H ds vs) : EnvR K H (start2 N ds) (L2.start N vs) := by
  have hl := l.length
  refine ⟨by simp [start2, L2.start, hl], fun i d e => ?_⟩
  unfold start2 at e
  unfold L2.start
  by_cases c : i < ds.length
  · rw [List.getElem?_append_left (by simpa using c), List.getElem?_map] at e
    rw [List.getElem?_append_left (by simpa [hl] using c), List.getElem?_map]
    cases q : ds[i]? with
    | none => rw [q] at e; cases e
    | some d' =>
      rw [q] at e
      cases e
      obtain ⟨v, hv, dn⟩ := l.get' q
      exact ⟨v, by rw [hv] <;> rfl, dn⟩
  · rw [List.getElem?_append_right (by simpa using c), List.getElem?_replicate] at e
    split at e <;> cases e
section
variable {P : Program} {w : World} {K : PySem.W.Frag} {mg : Str → Option Value} {base : Heap}
theorem cxt_of {CX : CXT} {N ps : List Str} {sc : Nms} {qual : Str} {scope : Scope} {f : Addr} {cd : Value} {A : Around} {outer : List Env} {s : Shared} {H : Hp} {E : XK} {k : Nat} (S : FnScope N ps scope) (ok : sc.ok scope = true) (hr : Room k (A.deeper (envOfC qual scope s.heap.objs.size f cd))) (hg : A.guards = some []) :
    Cxt (cxOf CX P w K mg base N qual scope f cd A outer s H E).nox N sc P w K mg base k where
  hP := rfl
  hw := rfl
  hK := rfl
  hmg := rfl
  hbase := rfl
  hN := rfl
  nd := S.nd
  calm := fun _ => rfl
  vis := fun x h => ⟨vis_of ((Nms.at_ ok).1 x h), visB_dbg ((Nms.at_ ok).1 x h)⟩
  loc := fun x h => loc_of ((Nms.at_ ok).2.1 x h)
  lcl := fun x h => lcl_of ((Nms.at_ ok).2.2.1 x h)
  gl := fun x h => ⟨gl_of ((Nms.at_ ok).2.2.2.1 x h), glB_dbg ((Nms.at_ ok).2.2.2.1 x h)⟩
  fn := fun _ _ => .inl rfl
  fr := fun x h => fr_of ((Nms.at_ ok).2.2.2.2 x h)
  kind := S.kind
  room := fun _ => hr
  gd := hg
  never := PassesOwn.never
/-- a def that lets no exception out, by its body -/
theorem fn2_of {x qual : Str} {st : Stmt} {f : Addr} {fd : FuncData} {N ps : List Str} {k : Nat} {sp : Sp2} (F : Fun K x qual st f fd) (S : FnScope N ps (defScope st)) {sc : Nms} (ok : sc.ok (defScope st) = true) (len : ∀ ds M Q E, sp ds M Q E → ds.length = ps.length)
    (hbody : ∀ (X : Cx) (ds : List D) (M : Mem) (Q : QE) (E : XQ), Cxt X N sc P w K mg base k → sp ds M Q E → WSs X (defBody st) { nx := fun _ M' => Q .non M', rt := Q } (start2 N ds) M) : Fn2 P w K mg base (k + 1) f fd ps sp := by
  obtain ⟨oc, od, kV, doc, pm, an, cdv, ct, osl, rfl, lk, hcd⟩ := F.ex
  refine ⟨len, ?_⟩
  intro A outer s H args us vs ds M Q E hr hg e0 hb r dl rp h
  have hl : vs.length = ps.length := dl.length.trans (len _ _ _ _ h)
  have old : ∀ b o, base.get? b = some o → s.heap.get? b = some o := fun b o e => (e0.bs b o e).1
  have KX : K.In s.heap := e0.mod.kin.keeps old
  refine codeAny_call_function hr.depth (KX _ _ lk) rfl S.co S.gen rfl (PySem.W.codeRec_of KX hcd) (hb _ _ _ _ (wpAny_newFunctionEnv_cells S.kind ?_ fun env he s1 ic => ?_))
  · rintro ⟨n, v⟩ hy
    exact (S.par n (List.of_mem_zip hy).1).elim .inl fun q => .inr ⟨q, PySem.W.cellsFrom_some _ _ _ (.inl q)⟩
  · subst he
    refine ⟨(e0.mod.nolimit.keeps old).keeps ic.toInCall.keep, codeAny_func ?_⟩
    have I := inv_start (CX := L2.CX P w) (E := XL K H E) S hr.hd e0 hl r ic
    have C := cxt_of (CX := L2.CX P w) (P := P) (w := w) (K := K) (mg := mg) (base := base) (qual := qual) (f := f) (cd := cdv) (outer := outer) (H := H) (E := XL K H E) (s := s) S ok (hr.deeper _) hg
    have W := hbody _ ds M Q E C h (L2.start N vs) H ⟨start_env dl, rp⟩
    have W2 := (PSs.nox (t := _) (pssC (st := defBody st))).run [] s1 (L2.start N vs) H _ I W
    refine wpAny_mono W2 (fun fl s' hs => ?_) fun _ _ z => z
    cases fl with
    | next =>
      obtain ⟨σ', H', J, ρ', M', r', t', q⟩ := hs
      exact ⟨.non, H', J.os, J.bare, J.base, J.hok, rfl, .non, M', den_non.mpr rfl, r'.rep, t', q⟩
    | ret u =>
      obtain ⟨v, σ', H', J, rv, q⟩ := hs
      exact ⟨v, H', J.os, J.bare, J.base, J.hok, rv, q⟩
    | brk => obtain ⟨_, _, _, _, _, _, _, q⟩ := hs; exact q.elim
    | cont => obtain ⟨_, _, _, _, _, _, _, q⟩ := hs; exact q.elim
/-- a def as callers know it -/
structure Def2 (P : Program) (w : World) (K : PySem.W.Frag) (mg : Str → Option Value) (base : Heap) (k : Nat) (x : Str) (ps : List Str) (sp : Sp2) : Prop where
  ex : ∃ f fd, mg x = some (.ref f) ∧ PySem.W.keepIn K (.ref f) = true ∧ Binds K fd ps [] ∧ Fn2 P w K mg base k f fd ps sp
end
theorem un_tk {K : PySem.W.Frag} {fs ex : List Addr} {H H' : Hp} {h h' : Heap} (u : Un fs ex H H' h h') : TK K H H' := by
  refine ⟨fun a xs s => ?_, fun a xs s => ?_, fun a o w s => u.frzs a o w s⟩
  · rcases s with (s | ⟨o, s⟩) | s
    · exact .inl (.inl (u.tups a xs s))
    · exact .inl (.inr ⟨o, u.frzs a o _ s⟩)
    · exact .inr s
  · rcases s with ⟨o, s⟩ | s
    · exact .inl ⟨o, u.frzs a o _ s⟩
    · exact .inr s
section
variable {X : Cx} {ρ : St2} {M : Mem} {N : List Str} {sc : Nms} {P : Program} {w : World} {K : PySem.W.Frag} {mg : Str → Option Value} {base : Heap} {k0 : Nat}
theorem we_call (C : Cxt X N sc P w K mg base k0) {x : Str} {p pos : Pos} {e : Expr} {es : List Expr} {k : Nat} {ps : List Str} {sp : Sp2} {Q : QE} (G : Def2 P w K mg base k x ps sp) (hk : k ≤ k0) (hg : (x : Str) ∈ sc.g)
    (hs : starEach (e :: es) X.env = (false, eval e X.env) :: starEach es X.env) (hn : ∀ pos, (backTo pos (starEach es X.env)).any (·.1) = false) (h : WA X (e :: es) ρ M fun ds M1 => sp ds M1 Q fun _ _ _ _ => False) (hh : sc.hot = false := by first | k_dflt rfl | assumption) : WE X (.Call (.Name x p) (e :: es) [] pos) ρ M Q := fun σ H rr pins s I => by
  obtain rfl := C.hP
  obtain rfl := C.hw
  obtain rfl := C.hK
  obtain rfl := C.hmg
  obtain rfl := C.hbase
  obtain ⟨f, fd, hm, hkp, hb, F⟩ := G.ex
  refine wpAny_Call_Name_kw (ld_glob I (C.gl x hg).1 hm (PySem.W.callWith_K (h₀ := X.base) I.ok.mod.kin hkp (thn (h σ H rr pos pins s I) ?_) hs (hn pos)) (C.gl _ hg).2.1)
  rintro us s1 ⟨vs, H1, I1, rv, ds, M1, dn, r1, t1, q⟩
  refine ⟨I1.kIn, ?_⟩
  have hl : us.length = ps.length := by rw [← rv.length, dn.length]; exact F.len _ _ _ _ q
  have hb' := hb s1 us I1.kIn (by simpa using hl)
  rw [List.append_nil] at hb'
  have run := F.run X.A X.stack s1 H1 ⟨us, []⟩ us vs ds M1 Q _ ((C.room hh).mono hk) C.gd I1.env0 hb' rv dn r1.rep q
  refine wpAny_call (codeAny_mono run fun r s' hq => ?_)
  cases r with
  | error e =>
    exact (cx_no hq).elim
  | ok fl =>
    cases fl with
    | ret u =>
      obtain ⟨v, H', os, bare, un, hok, rv', d, M', dn', rp', tk', qq⟩ := hq
      exact I1.after ⟨v, H', os, bare, un, hok, rv', d, M', dn', ⟨r1.env.mono tk', rp'⟩, t1.trans tk', qq⟩
    | next => exact hq.elim
    | brk => exact hq.elim
    | cont => exact hq.elim
theorem we_call0 (C : Cxt X N sc P w K mg base k0) {x : Str} {p pos : Pos} {k : Nat} {sp : Sp2} {Q : QE} (G : Def2 P w K mg base k x [] sp) (hk : k ≤ k0) (hg : (x : Str) ∈ sc.g) (h : sp [] M Q fun _ _ _ _ => False) (hh : sc.hot = false := by first | k_dflt rfl | assumption) : WE X (.Call (.Name x p) [] [] pos) ρ M Q := fun σ H rr pins s I => by
  obtain rfl := C.hP
  obtain rfl := C.hw
  obtain rfl := C.hK
  obtain rfl := C.hmg
  obtain rfl := C.hbase
  obtain ⟨f, fd, hm, hkp, hb, F⟩ := G.ex
  refine wpAny_Call_Name_kw (ld_glob I (C.gl x hg).1 hm (PySem.W.callWith_K0 I.kIn hkp ?_) (C.gl _ hg).2.1)
  have hb' := hb s [] I.kIn rfl
  have run := F.run X.A X.stack s H ⟨[], []⟩ [] [] [] M Q _ ((C.room hh).mono hk) C.gd I.env0 hb' .nil DenL.nil rr.rep h
  refine wpAny_call (codeAny_mono run fun r s' hq => ?_)
  cases r with
  | error e =>
    exact (cx_no hq).elim
  | ok fl =>
    cases fl with
    | ret u =>
      obtain ⟨v, H', os, bare, un, hok, rv', d, M', dn', rp', tk', qq⟩ := hq
      exact I.after ⟨v, H', os, bare, un, hok, rv', d, M', dn', ⟨rr.env.mono tk', rp'⟩, tk', qq⟩
    | next => exact hq.elim
    | brk => exact hq.elim
    | cont => exact hq.elim

/-! ### methods of lists -/
theorem we_append {o e : Expr} {apos cpos : Pos} {Q : QE} (hb : attributeBase o "append" X.env (eval o X.env) = eval o X.env) (hl : (apos.endLine == cpos.line) = true) (hs : starEach [e] X.env = [(false, eval e X.env)])
    (hf : ((backTo cpos (starEach [e] X.env)).all (fun x => !x.1) && (backToKw cpos (keywordEach [] X.env)).all (fun x => x.1.isSome) && decide (([e] : List Expr).length + ([] : List Keyword).length + (if ([] : List Keyword).isEmpty then 0 else 1) < 30)) = true)
    (h : WE X o ρ M fun d M1 => ∃ a ds0, d = .obj a ∧ M1 a = some (.lst ds0) ∧ WE X e ρ M1 fun x M2 => ∃ ds, M2 a = some (.lst ds) ∧ ds.length < sizeLine ∧ Q .non (mup M2 a (.lst (ds ++ [x])))) : WE X (.Call (.Attribute o "append" apos) [e] [] cpos) ρ M Q := fun σ H r => by
  refine cE_of (pe_bm PySem.F.plainAttrs_list PySem.F.slot_list_append PySem.F.type_list_append mt_append peC (pa_cons peC pa_nil hs) hb hf hl hs rfl) ?_
  refine cE_mono ?_ (h σ H r)
  rintro v H1 ⟨d, M1, dn, r1, t1, a, ds0, rfl, e0, q1⟩
  obtain ⟨ys, hy, _⟩ := r1.rep a _ e0
  rw [den_obj.mp dn]
  refine ⟨.inl ⟨rfl, ys, .inl (.inl hy)⟩, ?_⟩
  refine cE_mono ?_ (q1 σ H1 r1)
  rintro u H2 ⟨x, M2, dn2, r2, t2, ds, e1, hz, q⟩
  obtain ⟨xs, hx, lx⟩ := r2.rep a _ e1
  have tk := TK.lst (K := X.K) (o := .lst (xs ++ [u])) hx
  exact ⟨a, xs, u, rfl, rfl, hx, by rw [lx.length]; exact hz, .non, _, den_non.mpr rfl, r2.put (m := .lst (ds ++ [x])) tk ⟨_, upd_same, (lx.append (DenL.cons dn2 DenL.nil)).mono tk⟩, (t1.trans t2).trans tk, q⟩
theorem we_pop {o : Expr} {apos cpos : Pos} {Q : QE} (hb : attributeBase o "pop" X.env (eval o X.env) = eval o X.env) (hl : (apos.endLine == cpos.line) = true)
    (h : WE X o ρ M fun d M1 => ∃ a ds x, d = .obj a ∧ M1 a = some (.lst ds) ∧ ds[ds.length - 1]? = some x ∧ Q x (mup M1 a (.lst ds.dropLast))) : WE X (.Call (.Attribute o "pop" apos) [] [] cpos) ρ M Q := fun σ H r => by
  refine cE_of (pe_bm0 PySem.F.plainAttrs_list PySem.F.slot_list_pop PySem.F.type_list_pop mt_pop peC hb hl) ?_
  refine cE_mono ?_ (h σ H r)
  rintro v H1 ⟨d, M1, dn, r1, t1, a, ds, x, rfl, e0, ex, q⟩
  obtain ⟨ys, hy, ly⟩ := r1.rep a _ e0
  rw [den_obj.mp dn]
  obtain ⟨u, hu, du⟩ := ly.get' ex
  have tk := TK.lst (K := X.K) (o := .lst ys.dropLast) hy
  refine ⟨.inl ⟨rfl, ys, .inl (.inl hy)⟩, a, ys, u, rfl, rfl, hy, by rw [ly.length]; exact hu, x, _, du.mono tk, r1.put (m := .lst ds.dropLast) tk ⟨_, upd_same, ?_⟩, t1.trans tk, q⟩
  have z : DenL X.K H1 ds.dropLast ys.dropLast := by
    rw [List.dropLast_eq_take, List.dropLast_eq_take, ly.length]
    exact ly.take _
  exact z.mono tk
/-! ### dicts with int and text keys -/
def valD (kvs : List (Key × D)) (k : Key) : Option D := (kvs.find? fun kv => decide (kv.1 = k)).map (·.2)
def putD (kvs : List (Key × D)) (k : Key) (d : D) : List (Key × D) := if (kvs.any fun kv => decide (kv.1 = k)) = true then kvs.map (fun kv => if kv.1 = k then (kv.1, d) else kv) else kvs ++ [(k, d)]
theorem KVs.val {H : Hp} {k : Key} {d : D} : ∀ {kvs : List (Key × D)} {vs : List (Key × V)}, KVs K H kvs vs → valD kvs k = some d → ∃ v, valV vs k = some v ∧ Den K H d v := by
  intro kvs vs r
  induction r with
  | nil => intro h; cases h
  | @cons p q ps qs a b ih =>
    intro h
    unfold valD at h
    unfold valV
    rw [List.find?_cons] at h ⊢
    rw [← a.1]
    by_cases c : p.1 = k
    · rw [decide_eq_true c] at h ⊢
      cases h
      exact ⟨q.2, rfl, a.2⟩
    · rw [decide_eq_false c] at h ⊢
      exact ih h
theorem KVs.any {H : Hp} {k : Key} {kvs : List (Key × D)} {vs : List (Key × V)} (r : KVs K H kvs vs) : (vs.any fun kv => decide (kv.1 = k)) = (kvs.any fun kv => decide (kv.1 = k)) := by
  induction r with
  | nil => rfl
  | cons a b ih => rw [List.any_cons, List.any_cons, ih, a.1]
theorem KVs.put {H : Hp} {k : Key} {d : D} {v : V} {kvs : List (Key × D)} {vs : List (Key × V)} (r : KVs K H kvs vs) (dn : Den K H d v) : KVs K H (putD kvs k d) (putK vs k v) := by
  unfold putD putK
  rw [r.any]
  by_cases c : (kvs.any fun kv => decide (kv.1 = k)) = true
  · rw [if_pos c, if_pos c]
    clear c
    induction r with
    | nil => exact .nil
    | @cons p q ps qs a b ih =>
      rw [List.map_cons, List.map_cons]
      refine .cons ?_ ih
      rw [← a.1]
      by_cases e : p.1 = k
      · rw [if_pos e, if_pos e]; exact ⟨rfl, dn⟩
      · rw [if_neg e, if_neg e]; exact a
  · rw [if_neg c, if_neg c]
    exact Paired.snoc r ⟨rfl, dn⟩
theorem KVs.len {H : Hp} {kvs : List (Key × D)} {vs : List (Key × V)} (r : KVs K H kvs vs) : kvs.length = vs.length := Paired.length r
/-- the key that a value is -/
def keyD : D → Option Key
  | .int i => some (.inl i)
  | .str x => some (.inr x)
  | _ => none
theorem keyD_v {H : Hp} {d : D} {k : Key} {v : V} (e : keyD d = some k) (a : Den K H d v) : v = kV k := by
  cases d <;> first | cases e | skip
  · rw [den_int.mp a]; rfl
  · rw [den_str.mp a]; rfl
theorem we_dget (C : Cxt X N sc P w K mg base k0) {o i : Expr} {pos : Pos} {Q : QE} (ns : NoSl i) (h : WE X o ρ M fun d1 M1 => WE X i ρ M1 fun d2 M2 => ∃ a kvs k d, d1 = .obj a ∧ keyD d2 = some k ∧ M2 a = some (.dk kvs) ∧ valD kvs k = some d ∧ Q d M2) (hh : sc.hot = false := by first | k_dflt rfl | assumption) : WE X (.Subscript o i pos) ρ M Q := fun σ H r => by
  refine cE_of (pe_dget (hu_of (C.room hh)) peC peC ns) ?_
  refine cE_mono ?_ (h σ H r)
  rintro x H1 ⟨d1, M1, dn1, r1, t1, q1⟩
  refine cE_mono ?_ (q1 σ H1 r1)
  rintro y H2 ⟨d2, M2, dn2, r2, t2, a, kvs, k, d, rfl, ek, ea, ev, q⟩
  obtain ⟨vs, hv, kv⟩ := r2.rep a _ ea
  obtain ⟨v, e1, dn⟩ := kv.val ev
  rw [den_obj.mp (dn1.mono t2), keyD_v ek dn2]
  exact ⟨a, v, rfl, .inl ⟨vs, k, .inl hv, rfl, e1.symm⟩, d, M2, dn, r2, t1.trans t2, q⟩
theorem ws_dput (C : Cxt X N sc P w K mg base k0) {o i e : Expr} {pos pos' : Pos} {E : Ends2} (hs : swapsWith e (some (.Subscript o i pos')) pos.line X.env = pure false)
    (h : WE X e ρ M fun d M1 => WE X o ρ M1 fun d1 M2 => WE X i ρ M2 fun d2 M3 => ∃ a kvs k, d1 = .obj a ∧ keyD d2 = some k ∧ M3 a = some (.dk kvs) ∧ kvs.length < sizeLine ∧ E.nx ρ (mup M3 a (.dk (putD kvs k d)))) (hh : sc.hot = false := by first | k_dflt rfl | assumption) : WS X (.Assign [.Subscript o i pos'] e pos) E ρ M := fun σ H r => by
  refine cS_of (ps_dput (hu_of (C.room hh)) peC peC peC hs) ?_
  refine cE_mono ?_ (h σ H r)
  rintro v H1 ⟨d, M1, dn, r1, t1, q1⟩
  refine cE_mono ?_ (q1 σ H1 r1)
  rintro x H2 ⟨d1, M2, dn1, r2, t2, q2⟩
  refine cE_mono ?_ (q2 σ H2 r2)
  rintro y H3 ⟨d2, M3, dn2, r3, t3, a, kvs, k, rfl, ek, ea, hz, q⟩
  obtain ⟨vs, hv, kv⟩ := r3.rep a _ ea
  rw [den_obj.mp (dn1.mono t3), keyD_v ek dn2]
  have tk := TK.dK (K := X.K) (o := .dK (putK vs k v)) hv
  refine ⟨a, _, rfl, .inl ⟨vs, k, hv, rfl, by rw [← kv.len]; exact hz, rfl⟩, ρ, _, r3.put (m := .dk (putD kvs k d)) tk ⟨_, upd_same, (kv.put (dn.mono (t2.trans t3))).mono tk⟩, ((t1.trans t2).trans t3).trans tk, q⟩
theorem we_dnil {pos : Pos} {Q : QE} (h : ∀ p, M p = none → Q (.obj p) (mup M p (.dk []))) : WE X (.Dict [] [] pos) ρ M Q := fun σ H r => cE_of pe_dnewK fun p hp =>
  ⟨.obj p, _, den_obj.mpr rfl, r.put (m := .dk []) (TK.fresh hp) ⟨[], upd_same, .nil⟩, TK.fresh hp, h p (r.rep.free hp)⟩
/-- a display of three text keys -/
theorem we_disp3 {k1 k2 k3 : Str} {j1 j2 j3 : Nat} {q1 q2 q3 pos : Pos} {e1 e2 e3 : Expr} {Q : QE} (n12 : k2 ≠ k1) (n13 : k3 ≠ k1) (n23 : k3 ≠ k2)
    (h : ∀ p, M p = none → WE X e1 ρ (mup M p (.dk [])) fun d1 M1 => WE X e2 ρ M1 fun d2 M2 => WE X e3 ρ M2 fun d3 M3 => M3 p = some (.dk []) ∧ Q (.obj p) (mup M3 p (.dk [(.inr k1, d1), (.inr k2, d2), (.inr k3, d3)]))) :
    WE X (.Dict [some (.Constant (.str k1) j1 q1), some (.Constant (.str k2) j2 q2), some (.Constant (.str k3) j3 q3)] [e1, e2, e3] pos) ρ M Q := fun σ H r => by
  refine cE_of (pe_disp (pps_cons pe_str peC (pps_cons pe_str peC (pps_cons pe_str peC pps_nil))) rfl rfl (by simp) (by show 3 ≤ 15; decide)) ?_
  intro p hp
  have r0 := r.put (m := .dk []) (o := .dK []) (TK.fresh hp) ⟨[], upd_same, .nil⟩
  refine cE_mono ?_ (h p (r.rep.free hp) σ _ r0)
  rintro v1 H1 ⟨d1, M1, dn1, r1, t1, z1⟩
  refine cE_mono ?_ (z1 σ H1 r1)
  rintro v2 H2 ⟨d2, M2, dn2, r2, t2, z2⟩
  refine cE_mono ?_ (z2 σ H2 r2)
  rintro v3 H3 ⟨d3, M3, dn3, r3, t3, ep, q⟩
  obtain ⟨vs, hv, kv⟩ := r3.rep p _ ep
  cases kv
  refine ⟨hv, [(.inr k1, v1), (.inr k2, v2), (.inr k3, v3)], rfl, by show 3 ≤ 15; decide, ?_⟩
  have e : mergeK [] [((.inr k1 : Key), v1), (.inr k2, v2), (.inr k3, v3)] = [(.inr k1, v1), (.inr k2, v2), (.inr k3, v3)] := by
    have c1 : ¬ ((Sum.inr k1 : Key) = Sum.inr k2) := fun z => n12 (Sum.inr.inj z).symm
    have c2 : ¬ ((Sum.inr k1 : Key) = Sum.inr k3) := fun z => n13 (Sum.inr.inj z).symm
    have c3 : ¬ ((Sum.inr k2 : Key) = Sum.inr k3) := fun z => n23 (Sum.inr.inj z).symm
    simp [mergeK, putK, c1, c2, c3]
  rw [e]
  have tk := TK.dK (K := X.K) (o := .dK [(.inr k1, v1), (.inr k2, v2), (.inr k3, v3)]) hv
  refine ⟨.obj p, _, den_obj.mpr rfl, r3.put (m := .dk [(.inr k1, d1), (.inr k2, d2), (.inr k3, d3)]) tk ⟨_, upd_same, ?_⟩, (((TK.fresh hp).trans t1).trans (t2.trans t3)).trans tk, q⟩
  exact .cons ⟨rfl, (dn1.mono ((t2.trans t3).trans tk))⟩ (.cons ⟨rfl, dn2.mono (t3.trans tk)⟩ (.cons ⟨rfl, dn3.mono tk⟩ .nil))
end
end Y

set_option Elab.async false
set_option linter.all false
set_option autoImplicit false
set_option maxRecDepth 100000
set_option maxHeartbeats 4000000
/-! what the hand layer lacks: enumerate(tuple), sum(tuple of ints), tuple * 1 -/
namespace Y
open PySem PySem.Spec PyProof.Rows L2

/-! ### enumerate(tuple) -/
set_option maxHeartbeats 1000000 in
theorem meets_enumT {v : Value} {o : Obj} {H : Heap → Prop} (B : Begins v o H) : Meets (Builtin.«enumerate.__new__» ⟨[.type "enumerate", v], []⟩) (fun _ R s => H s.heap ∧ R (.ok (.ret (.ref (s.heap.push o).objs.size)))
    { s with heap := (s.heap.push o).push { cls := .type "enumerate", data := .fields #[.none, .bool false, .ref s.heap.objs.size, rawInt 0, .none, .none] } }) :=
  .of_wp fun prog w A R s h => by
    obtain ⟨hp, g, d, tk, os⟩ := s
    obtain ⟨h1, h⟩ := h
    have hsub := sub_enumerate
    have q1 {A' : Around} {E : Value → Shared → Prop} {Q : Value → Shared → Prop} (q : Q (.ref hp.objs.size) ⟨hp.push o, g, d, tk, os⟩) : wpAny (model prog w) A' (pyIter v) Q E ⟨hp, g, d, tk, os⟩ := B.iter prog w _ _ ⟨hp, g, d, tk, os⟩ _ h1 q
    wp_walk using q1
    refine wpAny_stack_any fun st => wpAny_pure ?_
    split
    · rename_i c _ _ _ _ _
      cases (c == Value.type "enumerate") <;> (wp_walk using q1; exact ⟨_, rfl, h⟩)
    · wp_walk using q1
      exact ⟨_, rfl, h⟩
section
variable {prog : Program} {w : World} {A : Around} {E : Value → Shared → Prop} {s : Shared}
theorem call_enumT {v : Value} {o : Obj} {H : Heap → Prop} {Q : Value → Shared → Prop} (B : Begins v o H) (h1 : H s.heap)
    (h : ∀ h', IsEnum h' (s.heap.objs.size + 1) s.heap.objs.size 0 .none → h'.get? s.heap.objs.size = some o → h'.objs.size = s.heap.objs.size + 2 → (∀ b o, s.heap.get? b = some o → h'.get? b = some o) → Q (.ref (s.heap.objs.size + 1)) { s with heap := h' }) : wpAny (model prog w) A (call (.type "enumerate") [v]) Q E s := by
  refine callType_new F.called_enumerate (by decide) (F.typeCall_enumerate_1 _) (F.newCall_enumerate_1 _) (fun obj => F.args_object_init_2 obj _) F.entry_enumerate_new (meets_enumT B) ⟨h1, ?_⟩
  have hz : (s.heap.push o).objs.size = s.heap.objs.size + 1 := Heap.size_push ..
  show _ ∧ _
  rw [hz]
  generalize hg : ({ cls := .type "enumerate", data := .fields #[.none, .bool false, .ref s.heap.objs.size, rawInt 0, .none, .none] } : Obj) = ob
  have he : ((s.heap.push o).push ob).get? (s.heap.objs.size + 1) = some ob := by
    have := Heap.get?_push_size (s.heap.push o) (o := ob) (by rw [← hg]; rfl)
    rw [hz] at this
    exact this
  have he' : IsEnum ((s.heap.push o).push ob) (s.heap.objs.size + 1) s.heap.objs.size 0 .none := by subst hg; exact he
  refine ⟨⟨ob, he, by rw [← hg]⟩, h _ he' (Heap.get?_push_of_some _ (Heap.get?_push_size _ B.free)) (by rw [Heap.size_push, hz]) fun b u x => Heap.get?_push_of_some _ (Heap.get?_push_of_some _ x)⟩
end
/-- the tuple at a, each item in a new pair -/
def IteT (K : PySem.W.Frag) (a : Addr) : It where
  go := fun i H => ∃ (xs : List V) (x : V), SqT K H a xs ∧ xs[i]? = some x
  yld := fun i H v H' => ∃ T x, v = .ref T ∧ H T = none ∧ H' = upd H T (.tup [.int (i : Nat), x]) ∧ ∀ xs, SqT K H a xs → xs[i]? = some x
  stop := fun i H => ∃ xs : List V, SqT K H a xs ∧ xs.length = i
def stT (a e it : Addr) (its : Array Value) : Nat → Heap → Prop := fun i h => (∃ old, IsEnum h e it ((i : Nat) : Int) old) ∧ h.IsTupleIter it a i ∧ h.IsTuple a its
theorem turn_enumT {P : Program} {w : World} {K : PySem.W.Frag} {elts : List Expr} {kk : Nat} {tpos : Pos} {a e it : Addr} {its : Array Value} (hne : e ≠ it) (hae : e ≠ a) (hai : a ≠ it) : Turn P w K (.Tuple elts kk tpos) (IteT K a) [e, it] e (fun i h => (∃ old, IsEnum h e it ((i : Nat) : Int) old) ∧ h.IsTupleIter it a i) where
  mem := List.mem_cons_self
  obj := by
    rintro i h ⟨⟨old, he⟩, o, ho, hc, hd⟩ b hb
    rcases List.mem_cons.mp hb with rfl | hb
    · exact ⟨_, he, fun v q => nomatch q⟩
    · obtain rfl := List.mem_singleton.mp hb
      exact ⟨o, ho, fun v q => by rw [hd] at q; cases q⟩
  keep := fun i h h' ⟨⟨old, he⟩, hi⟩ k => ⟨⟨old, k e List.mem_cons_self _ he⟩, hi.at fun o q => k it (List.mem_cons_of_mem _ List.mem_cons_self) o q⟩
  item := by
    rintro X rfl rfl rfl hc i pins s σ H E I hf ⟨⟨old, he⟩, hit⟩ ⟨xs, x, hq, hx⟩
    obtain ⟨its, rv, ⟨oa, ea, ca, na, da⟩, hz⟩ := I.tuple hq
    have p : s.heap.IsTuple a its.toArray := ⟨oa, ea, ca, na, da⟩
    obtain ⟨u, hu, ru⟩ := rv.get hx
    have hel : e < s.heap.objs.size := Heap.lt_size he
    have hil : it < s.heap.objs.size := by obtain ⟨_, q, _⟩ := hit; exact Heap.lt_size q
    have hsz : i < its.toArray.size := by
      rw [List.size_toArray]
      exact (List.getElem?_eq_some_iff.mp hu).1
    refine wpAny_pyNext_enum_itemC (Draws.tuple (A := X.A.in1) (I.ok.hd hc) it a hai its.toArray) he ⟨hit, p⟩ hsz hne ?_ fun x' h' tk hP ho st' hT hz' hk => ?_
    · intro hm
      rcases List.mem_cons.mp hm with z | hm
      · exact hne z
      · exact hae (List.mem_singleton.mp hm)
    have ex : x' = u := by
      have z : its.toArray[i]? = some u := by simpa using hu
      exact Option.some.inj (hP.symm.trans z)
    subst ex
    refine ⟨_, rfl, wpAny_letOwnedTupleGo_enum (s := { s with heap := h', toks := tk + 1 }) ho fun h2 he' sb => ?_⟩
    have hT2 := (sb.2 _ (Nat.ne_of_gt hel)).trans hT
    have new : ObjOk X.prog X.w (upd H s.heap.objs.size (.tup [.int (i : Nat), x])) h2 s.heap.objs.size (.tup [.int (i : Nat), x]) := ⟨by show 2 ≤ sizeLine; decide, _, .cons ⟨tk, rfl⟩ (.cons ru .nil), ⟨_, hT2, rfl, _, rfl⟩⟩
    have I1 := I.turnedNew (t' := tk + 1) (ch := [e, it]) (fun b ob hb q => (sb.2 b (fun z => hb (by simp [z]))).trans (hk b ob (fun z => hb (by simp [z])) (fun z => hb (by simp [z])) q)) hf (Nat.le_refl _) new
    refine ⟨.ref s.heap.objs.size, _, I1, rfl, ⟨_, x, rfl, I.hok.fresh (Nat.le_refl _), rfl, fun ys hy => by rw [I.tuple_inj hy hq]; exact hx⟩, ⟨⟨x', ?_⟩, st'.1.at fun o q => (sb.2 it (Ne.symm hne)).trans q⟩, fun b hb => ?_⟩
    · rw [show ((i + 1 : Nat) : Int) = (i : Int) + 1 by omega]
      exact he'
    · have hb' : b < s.heap.objs.size := by
        rcases List.mem_cons.mp hb with z | z
        · rw [z]; exact hel
        · rw [List.mem_singleton.mp z]; exact hil
      rw [upd_ne (Nat.ne_of_lt hb')]
      exact (hf b hb).1
  done := by
    rintro X rfl rfl rfl hc i pins s σ H E I hf ⟨⟨old, he⟩, hit⟩ ⟨xs, hq, hx⟩
    obtain ⟨its, rv, ⟨oa, ea, ca, na, da⟩, hz⟩ := I.tuple hq
    have p : s.heap.IsTuple a its.toArray := ⟨oa, ea, ca, na, da⟩
    obtain ⟨f0, f1, f2, f3, f4, f5⟩ := hf it (by simp)
    have hn : i = its.toArray.size := by rw [List.size_toArray, ← hx]; exact rv.length
    subst hn
    exact wpAny_pyNext_enum_endD (Draws.tuple (A := X.A.in1) (I.ok.hd hc) it a hai its.toArray) he ⟨hit, p⟩ fun h' eb => ⟨rfl, I.turned (t' := s.toks) (fun b o hb q => eb b o hb q) f0 f1 f3 f4 f5⟩
  self := fun A i s Q E ⟨⟨_, he⟩, _⟩ h => wpAny_pyIter_enum he h
def iEnumT (K : PySem.W.Frag) (ta : TA) : TI := fun σ H R => ta σ H fun vs H1 => ∃ a xs, vs = [.ref a] ∧ SqT K H1 a xs ∧ R (IteT K a) H1
theorem pi_enumT {X : Cx} {e : Expr} {ta : TA} {p pos tpos : Pos} {elts : List Expr} {kk : Nat} (hg : Gl X "enumerate") (hm : X.mg "enumerate" = none) (ha : PA X [e] ta) (hs : starEach [e] X.env = [(false, eval e X.env)]) :
    PI X (.Tuple elts kk tpos) (.Call (.Name "enumerate" p) [e] [] pos) (iEnumT X.K ta) := by
  refine ⟨fun pins s σ H R I h => Call_ (ld_blt I hg hm boot_enumerate (PyProof.Rows.callWith_type1 (thn (ha.run pos pins s σ H _ I h) ?_) hs rfl))⟩
  rintro us s1 ⟨vs, H1, I1, r1, a, xs, rfl, hq, q⟩
  obtain rfl := Vals.ref1 r1
  obtain ⟨its, rv, ⟨oa, ea, ca, na, da⟩, hz⟩ := I1.tuple hq
  have hla : a < s1.heap.objs.size := Heap.lt_size ea
  refine call_enumT (begins_tuple a its.toArray) ⟨oa, ea, ca, na, da⟩ fun h' he hit hsz hk => wpAny_pyIter_enum he ?_
  have I2 := I1.kept (t' := s1.toks) hk
  refine ⟨s1.heap.objs.size + 1, [s1.heap.objs.size + 1, s1.heap.objs.size], _, _, H1, rfl, I2, turn_enumT (its := its.toArray) (a := a) (Nat.succ_ne_self _) (Nat.ne_of_gt (Nat.lt_succ_of_lt hla)) (Nat.ne_of_lt hla), ⟨⟨.none, he⟩, ⟨_, hit, rfl, rfl⟩⟩, fun b hb => ?_, q⟩
  have hle : s1.heap.objs.size ≤ b := by
    rcases List.mem_cons.mp hb with z | z
    · rw [z]; exact Nat.le_succ _
    · rw [List.mem_singleton.mp z]; exact Nat.le_refl _
  exact I1.fpOk hle (I1.hok.fresh hle)
theorem adeq_enumT {K : PySem.W.Frag} {H1 : Hp} {a : Addr} {ds : List D} {xs : List V} (s0 : SqT K H1 a xs) (l0 : DenL K H1 ds xs) : Adeq K H1 (IteT K a) (enumD ds) (fun _ => True) where
  go := fun i ρ M σ H r t s hi => by
    rw [enumD_len] at hi
    obtain ⟨v, hv, _⟩ := l0.get' (List.getElem?_eq_getElem hi)
    exact ⟨xs, v, t.t _ _ s0, hv⟩
  yld := fun i ρ M σ H x d H' r t s hd ⟨T, y, e1, hT, e2, hy⟩ => by
    subst e1 e2
    obtain ⟨e, he, rfl⟩ := enumD_get hd
    obtain ⟨v, hv, dn⟩ := l0.get' he
    have z := hy xs (t.t _ _ s0)
    rw [hv] at z
    cases z
    exact pair_new r hT (den_int.mpr rfl) (dn.mono t)
  stop := fun ρ M σ H r t s => ⟨xs, t.t _ _ s0, by rw [enumD_len]; exact l0.length⟩

/-! ### sum(tuple of ints) -/
def rSumT (K : PySem.W.Frag) : List V → Hp → VK → Prop := fun vs H Q => ∃ (a : Addr) (ns : List Int), vs = [V.ref a] ∧ SqT K H a (ns.map V.int) ∧ Q (.int ns.sum) H
theorem cr_sumT {X : Cx} (hc : X.calm = true) : CallR X (.builtin "sum") (rSumT X.K) := by
  rintro pins s σ H vs us Q I r ⟨a, ns, rfl, hs, q⟩
  obtain ⟨its, rv, ⟨oa, ea, ca, na, da⟩, hz⟩ := I.tuple hs
  rw [Vals.ref1 r]
  have hi := rv.ints
  obtain ⟨xs, e⟩ := hi.allInts.items
  have hn : numsOf (intItems xs).toList = ns := by rw [← e]; exact hi.numsOf
  rw [nums_intItems] at hn
  have ht : s.heap.IsTuple a (intItems xs) := by rw [← e]; exact ⟨oa, ea, ca, na, da⟩
  refine PySem.W.ktm_sumG (I.ok.hd hc) ht fun h' tk t' hk => ?_
  rw [preSum_eq, List.take_of_length_le (by simp), hn]
  exact ⟨.int _, H, I.kept hk, ⟨_, rfl⟩, q⟩

/-! ### tuple * 1 -/
theorem tuple_mul1 (l : Addr) (items : Array Value) (n : Nat) (dd : Option Addr) (sl : Array (Option Value)) (u : Tok) (ne : items.isEmpty = false) :
    Meets (Builtin.«tuple.__mul__» ⟨[.ref l, .int 1 u], []⟩) (fun _ R s => s.heap.get? l = some { cls := .type "tuple", dict := dd, data := .seq items n, slots := sl } ∧ R (.ok (.ret (Value.ref l))) s) :=
  .of_wp fun prog w A R s h => by
    obtain ⟨hp, g, d, tk, os⟩ := s
    obtain ⟨hl, h⟩ := h
    have f1 := AutoSeq1.idx_int
    wp_walk using wpAny_loadPart' hl
    exact ⟨_, rfl, h⟩
def rRep1 (K : PySem.W.Frag) : R2 := fun x y H Q => ∃ l xs, x = .ref l ∧ y = .int 1 ∧ SqT K H l xs ∧ xs ≠ [] ∧ Q (.ref l) H
theorem op_rep1 {X : Cx} : OpR X (binaryOp .Mult) (rRep1 X.K) := by
  rintro pins s σ H x y v u Q I rx ry ⟨l, xs, rfl, rfl, hT, hne, q⟩
  cases rx
  obtain ⟨t, rfl⟩ := ry
  obtain ⟨its, r, ⟨⟨cls, dd, data, sl⟩, ho, hc, n, hd⟩, hs⟩ := I.tuple hT
  simp only at hc hd
  subst hc hd
  have hi : its.toArray.isEmpty = false := by
    cases its with
    | nil => exact absurd (List.eq_nil_of_length_eq_zero r.length) hne
    | cons a b => rfl
  refine wpAny_binaryOp_repeat_ref (T := "tuple") (U := "int") (by decide) ⟨_, ho, rfl⟩ (fun s' => typeIs_int s' 1 t) noFill_tuple_mul F.fills_int_mul F.slot_int_rmul repeat_tuple F.slot_int_index.lookup ?_
  refine call_meets F.slot_int_rmul (typeIs_int s 1 t) F.entry_int_rmul (F.args_int_rmul_2 _ _) (int_rmul_tuple 1 t l its.toArray n dd sl) ⟨ho, rfl, ⟨_, ho, rfl⟩, ?_⟩
  exact call_meets F.slot_tuple_mul ⟨_, ho, rfl⟩ F.entry_tuple_mul (F.args_tuple_mul_2 _ _) (tuple_mul1 l its.toArray n dd sl t hi) ⟨ho, ⟨.ref l, H, I, rfl, q⟩⟩
/-! ### tuple * 0 -/
theorem tuple_mul0 (l : Addr) (items : Array Value) (n : Nat) (dd : Option Addr) (sl : Array (Option Value)) (x : Int) (u : Tok) (c0 : (decide (x < -(2 ^ 63)) || decide (x ≥ 2 ^ 63)) = false) (c1 : (items.isEmpty || x == 1) = false) (c2 : (decide (x ≤ 0) || items.isEmpty) = true) :
    Meets (Builtin.«tuple.__mul__» ⟨[.ref l, .int x u], []⟩) (fun _ R s => s.heap.get? l = some { cls := .type "tuple", dict := dd, data := .seq items n, slots := sl } ∧
      R (.ok (.ret (Value.ref s.heap.objs.size))) { s with heap := s.heap.push { cls := Value.type "tuple", data := Data.seq #[] }, toks := s.toks }) :=
  .of_wp fun prog w A R s h => by
    obtain ⟨hp, g, d, tk, os⟩ := s
    obtain ⟨hl, h⟩ := h
    have f1 := AutoSeq1.idx_int
    wp_walk using wpAny_loadPart' hl
    repeat (first
      | (refine wpAny_ite_false (decide_eq_false (by rw [c0]; exact Bool.false_ne_true)) ?_; wp_walk using wpAny_loadPart' hl)
      | (refine wpAny_ite_false (decide_eq_false (by rw [c1]; exact Bool.false_ne_true)) ?_; wp_walk using wpAny_loadPart' hl)
      | (refine wpAny_ite_true (decide_eq_true (by rw [c2])) ?_; wp_walk using wpAny_loadPart' hl))
    exact ⟨_, rfl, h⟩
def rRep0 (K : PySem.W.Frag) : R2 := fun x y H Q => ∃ l k xs, x = .ref l ∧ y = .int k ∧ SqT K H l xs ∧ xs ≠ [] ∧ -1000 ≤ k ∧ k ≤ 0 ∧ ∀ p, H p = none → Q (.ref p) (upd H p (.tup []))
theorem op_rep0 {X : Cx} : OpR X (binaryOp .Mult) (rRep0 X.K) := by
  rintro pins s σ H x y v u Q I rx ry ⟨l, k, xs, rfl, rfl, hT, hne, h1, h2, q⟩
  cases rx
  obtain ⟨t, rfl⟩ := ry
  obtain ⟨its, r, ⟨⟨cls, dd, data, sl⟩, ho, hc, n, hd⟩, hs⟩ := I.tuple hT
  simp only at hc hd
  subst hc hd
  have hi : its.toArray.isEmpty = false := by
    cases its with
    | nil => exact absurd (List.eq_nil_of_length_eq_zero r.length) hne
    | cons a b => rfl
  have c0 : (decide (k < -(2 ^ 63)) || decide (k ≥ 2 ^ 63)) = false := by
    rw [decide_eq_false (by omega), decide_eq_false (by omega)] <;> rfl
  have c1 : (its.toArray.isEmpty || k == 1) = false := by
    rw [hi, Bool.false_or]
    exact beq_eq_false_iff_ne.mpr (by omega)
  have c2 : (decide (k ≤ 0) || its.toArray.isEmpty) = true := by rw [decide_eq_true h2]; rfl
  refine wpAny_binaryOp_repeat_ref (T := "tuple") (U := "int") (by decide) ⟨_, ho, rfl⟩ (fun s' => typeIs_int s' k t) noFill_tuple_mul F.fills_int_mul F.slot_int_rmul repeat_tuple F.slot_int_index.lookup
    (call_meets F.slot_int_rmul (typeIs_int s k t) F.entry_int_rmul (F.args_int_rmul_2 _ _) (int_rmul_tuple k t l its.toArray n dd sl)
      ⟨ho, rfl, ⟨_, ho, rfl⟩, call_meets F.slot_tuple_mul ⟨_, ho, rfl⟩ F.entry_tuple_mul (F.args_tuple_mul_2 _ _) (tuple_mul0 l its.toArray n dd sl k t c0 c1 c2) ⟨ho, ?_⟩⟩)
  refine ⟨.ref s.heap.objs.size, _, I.laid (t' := s.toks) (o := .tup []) (fun b ob q => Heap.get?_push_of_some _ q) (Nat.le_refl _) ?_, rfl, q _ (I.hok.fresh (Nat.le_refl _))⟩
  exact ⟨Nat.zero_le _, [], .nil, IsTup.new _ _⟩
section
variable {X : Cx} {ρ : St2} {M : Mem} {N : List Str} {sc : Nms} {P : Program} {w : World} {K : PySem.W.Frag} {mg : Str → Option Value} {base : Heap} {k0 : Nat}
/-- * -/
def mul2 : D → D → Mem → QE → Prop
  | .int i, .int j, M, Q => CMulW i j ∧ Q (.int (i * j)) M
  | .tup ds, .int k, M, Q => ds ≠ [] ∧ -1000 ≤ k ∧ k ≤ 1000 ∧ ds.length ≤ 1000 ∧ Q (.tup (List.replicate k.toNat ds).flatten) M
  | .obj a, .int k, M, Q => ∃ ds, M a = some (.lst ds) ∧ -(2 ^ 63) ≤ k ∧ k < 2 ^ 63 ∧ ds.length * k.toNat ≤ sizeLine ∧ ∀ p, M p = none → Q (.obj p) (mup M p (.lst (List.replicate k.toNat ds).flatten))
  | _, _, _, _ => False
theorem ob_mul : OpB X (binaryOp .Mult) mul2 := by
  refine ⟨_, opr_or op_mulW (opr_or op_rep1 (opr_or op_repT (opr_or op_rep op_rep0))), ?_, ?_⟩
  · refine rm_or ?_ (rm_or ?_ (rm_or ?_ (rm_or ?_ ?_)))
    · rintro x y H Q Q' m ⟨i, j, a, b, c, q⟩; exact ⟨i, j, a, b, c, m _ _ q⟩
    · rintro x y H Q Q' m ⟨i, j, a, b, c, d, q⟩; exact ⟨i, j, a, b, c, d, m _ _ q⟩
    · rintro x y H Q Q' m ⟨l, k, xs, a, b, c, d, e, f, g, q⟩; exact ⟨l, k, xs, a, b, c, d, e, f, g, fun p hp => m _ _ (q p hp)⟩
    · rintro x y H Q Q' m ⟨l, k, xs, a, b, c, d, e, f, q⟩; exact ⟨l, k, xs, a, b, c, d, e, f, fun p hp => m _ _ (q p hp)⟩
    · rintro x y H Q Q' m ⟨l, k, xs, a, b, c, d, e, f, q⟩; exact ⟨l, k, xs, a, b, c, d, e, f, fun p hp => m _ _ (q p hp)⟩
  · intro d1 d2 x y H ρ σ M H0 Q a b r t h
    cases d1 <;> cases d2 <;> try exact False.elim h
    · rw [den_int] at a b
      exact .inl ⟨_, _, a, b, h.1, _, M, den_int.mpr rfl, r, t, h.2⟩
    · rename_i ds k
      obtain ⟨p, xs, rfl, sp, lp⟩ := den_tup.mp a
      rw [den_int] at b
      subst b
      obtain ⟨h1, h2, h3, h4, q⟩ := h
      have hx : xs ≠ [] := fun e => h1 (List.eq_nil_of_length_eq_zero (by rw [← lp.length, e]; rfl))
      by_cases c : k = 1
      · subst c
        refine .inr (.inl ⟨p, xs, rfl, rfl, sp, hx, .tup ds, M, a, r, t, ?_⟩)
        have e : (List.replicate (1 : Int).toNat ds).flatten = ds := by simp
        rw [e] at q
        exact q
      · by_cases c0 : k ≤ 0
        · refine .inr (.inr (.inr (.inr ⟨p, k, xs, rfl, rfl, sp, hx, h2, c0, fun n hn => ?_⟩)))
          have e : (List.replicate k.toNat ds).flatten = [] := by rw [show k.toNat = 0 by omega]; rfl
          rw [e] at q
          exact ⟨_, M, den_newT hn DenL.nil, r.newT hn, t.trans (TK.fresh hn), q⟩
        refine .inr (.inr (.inl ⟨p, k, xs, rfl, rfl, sp, hx, by omega, h3, by rw [lp.length]; exact h4, fun n hn => ?_⟩))
        exact ⟨_, M, den_newT hn (lp.flatten_rep _), r.newT hn, t.trans (TK.fresh hn), q⟩
    · rename_i p k
      rw [den_obj] at a
      rw [den_int] at b
      subst a b
      obtain ⟨ds, e, h1, h2, h3, q⟩ := h
      obtain ⟨xs, hx, l⟩ := r.rep.lst e
      exact .inr (.inr (.inr (.inl ⟨p, k, xs, rfl, rfl, hx, h1, h2, by rw [l.length]; exact h3, fun n hn => ⟨.obj n, _, den_obj.mpr rfl, r.newL hn (l.flatten_rep _), t.trans (TK.fresh hn), q n (r.rep.free hn)⟩⟩)))
theorem wi_enumT (C : Cxt X N sc P w K mg base k0) {e : Expr} {p pos tpos : Pos} {elts : List Expr} {kk : Nat} {Q : QI} (hg : ("enumerate" : Str) ∈ sc.g) (hm : mg "enumerate" = none) (hs : starEach [e] X.env = [(false, eval e X.env)])
    (h : WE X e ρ M fun d M1 => ∃ as, d = .tup as ∧ Q (enumD as) (fun _ => True) M1) : WI X (.Tuple elts kk tpos) (.Call (.Name "enumerate" p) [e] [] pos) ρ M Q := fun σ H r => by
  obtain rfl := C.hmg
  refine cI_of (pi_enumT (C.gl _ hg).1 hm (pa_cons peC pa_nil hs) hs) ?_
  refine cE_mono ?_ (h σ H r)
  rintro v H1 ⟨d, M1, dn, r1, t1, as, rfl, q⟩
  obtain ⟨a, xs, rfl, sq, l⟩ := den_tup.mp dn
  exact ⟨a, xs, rfl, sq, _, _, M1, r1, t1, adeq_enumT sq l, q⟩
theorem callr_or {f : Value} {r r' : List V → Hp → VK → Prop} (h : CallR X f r) (h' : CallR X f r') : CallR X f (fun xs H Q => r xs H Q ∨ r' xs H Q) := fun pins s σ H xs us Q I rv q => q.elim (h pins s σ H xs us Q I rv) (h' pins s σ H xs us Q I rv)
/-- sum of a list or tuple of ints -/
def sumA (ds : List D) (M : Mem) (Q : QE) : Prop := ∃ (d : D) (ns : List Int), ds = [d] ∧ itemsOf M d = some (ns.map D.int) ∧ Q (.int ns.sum) M
theorem cl_sumA : CallL K (fun xs H Q => rSum K xs H Q ∨ rSumT K xs H Q) sumA := by
  rintro ds vs H ρ σ M H0 Q dn r t ⟨d, ns, rfl, e, q⟩
  obtain ⟨v, rfl, a⟩ := one_arg (ds := []) dn
  obtain ⟨p, xs, rfl, s, l⟩ := itemsOf_sq r e a
  rw [l.ints] at s
  exact s.elim (fun s => .inl ⟨p, ns, rfl, s, _, M, den_int.mpr rfl, r, t, q⟩) fun s => .inr ⟨p, ns, rfl, s, _, M, den_int.mpr rfl, r, t, q⟩
end
end Y

set_option Elab.async false
set_option linter.all false
set_option autoImplicit false
set_option maxRecDepth 100000
set_option maxHeartbeats 4000000
/-! small lemmas for the steps -/
namespace Y
open PySem PySem.Spec PyProof.Rows L2
/-! ### sizes of ints -/
def Bd (k : Nat) (i : Int) : Prop := i.natAbs < 2 ^ k
instance {k : Nat} {i : Int} : Decidable (Bd k i) := by unfold Bd; infer_instance
theorem Bd.le {a b : Nat} {i : Int} (h : Bd a i) (l : a ≤ b) : Bd b i := Nat.lt_of_lt_of_le h (Nat.pow_le_pow_right (by decide) l)
theorem Bd.mul {a b : Nat} {i j : Int} (h : Bd a i) (g : Bd b j) : Bd (a + b) (i * j) := by
  unfold Bd at *
  rw [Int.natAbs_mul, Nat.pow_add]
  by_cases z : j.natAbs = 0
  · rw [z, Nat.mul_zero]; exact Nat.mul_pos (Nat.two_pow_pos a) (Nat.two_pow_pos b)
  · exact Nat.mul_lt_mul_of_lt_of_lt h g
theorem Bd.add {a : Nat} {i j : Int} (h : Bd a i) (g : Bd a j) : Bd (a + 1) (i + j) := by
  unfold Bd at *
  rw [Nat.pow_succ]
  omega
theorem Bd.of {k : Nat} {i : Int} (h1 : -(2 ^ k : Nat) < i) (h2 : i < (2 ^ k : Nat)) : Bd k i := by unfold Bd; omega
theorem Bd.b31 {i : Int} (h1 : 0 ≤ i) (h2 : i < 2147483648) : Bd 31 i := by unfold Bd; omega
theorem Bd.log {k : Nat} {i : Int} (h : Bd k i) : i.natAbs.log2 ≤ k := by
  by_cases z : i.natAbs = 0
  · rw [z]; exact Nat.zero_le _
  · exact Nat.le_of_lt ((Nat.log2_lt z).mpr h)
theorem mulW {a b : Nat} {i j : Int} (h : Bd a i) (g : Bd b j) (l : a + b < 1000000 := by decide) : CMulW i j := by
  have := h.log
  have := g.log
  unfold CMulW
  omega
theorem divW {j : Int} (h : 0 < j) (l : j < 1152921504606846976 := by decide) : CDivW j j := by
  refine ⟨h, ?_⟩
  have : Bd 60 j := by unfold Bd; omega
  have := this.log
  omega
theorem divW' {i j : Int} (h : 0 < j) (l : j < 1152921504606846976) : CDivW i j := ⟨(divW h l).1, (divW h l).2⟩
/-! ### what operators give, by the data -/
section
variable {i j : Int} {M : Mem} {Q : QE}
theorem q_add (q : Q (.int (i + j)) M) : add2 (.int i) (.int j) M Q := q
theorem q_addS {s t : Str} (z : s.length + t.length ≤ sizeLine) (q : Q (.str (s ++ t)) M) : add2 (.str s) (.str t) M Q := ⟨z, q⟩
theorem q_addT {a b : List D} (z : a.length + b.length ≤ sizeLine) (q : Q (.tup (a ++ b)) M) : add2 (.tup a) (.tup b) M Q := ⟨z, q⟩
theorem q_addL {a b : Addr} {ds es : List D} (h1 : M a = some (.lst ds)) (h2 : M b = some (.lst es)) (z : ds.length + es.length ≤ sizeLine) (q : ∀ p, M p = none → Q (.obj p) (mup M p (.lst (ds ++ es)))) : add2 (.obj a) (.obj b) M Q := ⟨ds, es, h1, h2, z, q⟩
theorem q_mul (h : CMulW i j) (q : Q (.int (i * j)) M) : mul2 (.int i) (.int j) M Q := ⟨h, q⟩
theorem q_i2 {f : Int → Int → D} {ok : Int → Int → Prop} (h : ok i j) (q : Q (f i j) M) : int2 f ok (.int i) (.int j) M Q := ⟨h, q⟩
theorem q_i0 {f : Int → Int → D} (q : Q (f i j) M) : int2 f (fun _ _ => True) (.int i) (.int j) M Q := ⟨trivial, q⟩
theorem q_isB {b : Bool} {Q : Bool → Mem → Prop} (q : Q b M) : isB Q (.bl b) M := ⟨b, rfl, q⟩
theorem q_eqI {g : Bool → Bool} (q : Q (.bl (g (decide (i = j)))) M) : eq2 g (.int i) (.int j) M Q := .inl ⟨rfl, by
  have : (decide (toV (.int i) = toV (.int j))) = decide (i = j) := by
    by_cases c : i = j
    · subst c; simp
    · have : toV (.int i) ≠ toV (.int j) := fun z => c (by injection z)
      rw [decide_eq_false c, decide_eq_false this]
  rw [this]; exact q⟩
theorem q_eqS {g : Bool → Bool} {s t : Str} (q : Q (.bl (g (decide (s = t)))) M) : eq2 g (.str s) (.str t) M Q := .inl ⟨rfl, by
  have : (decide (toV (.str s) = toV (.str t))) = decide (s = t) := by
    by_cases c : s = t
    · subst c; simp
    · have : toV (.str s) ≠ toV (.str t) := fun z => c (by injection z)
      rw [decide_eq_false c, decide_eq_false this]
  rw [this]; exact q⟩
theorem q_ix {d1 : D} {ds : List D} {d : D} (h1 : itemsOf M d1 = some ds) (h2 : atI ds i = some d) (q : Q d M) : ix2 d1 (.int i) M Q := .inl ⟨ds, i, d, h1, rfl, h2, q⟩
theorem q_ixS {z : Str} {i : Int} {c : Nat} (h1 : z.length ≤ sizeLine) (h2 : atI z.cps.toList i = some c) (q : Q (.str ⟨#[c]⟩) M) : ix2 (.str z) (.int i) M Q := .inr ⟨z, i, c, rfl, rfl, h1, h2, q⟩
end
theorem atI_lit {ds : List D} {d : D} (n : Nat) (h : ds[n]? = some d) : atI ds ((n : Nat) : Int) = some d := atI_nat h
theorem items_lst {M : Mem} {a : Addr} {ds : List D} (h : M a = some (.lst ds)) : itemsOf M (.obj a) = some ds := by show lstOf (M a) = _; rw [h]; rfl
theorem ty_lst {M : Mem} {a : Addr} {ds : List D} (h : M a = some (.lst ds)) : tyD (.obj a) M = some "list" := by show (match M a with | some (.lst _) => some "list" | some (.dk _) => some "dict" | _ => none) = _; rw [h]
theorem lst_lst {M : Mem} {a : Addr} {ds : List D} (h : M a = some (.lst ds)) : lstOf (M a) = some ds := by rw [h]; rfl
theorem mem_ne {M : Mem} {a b : Addr} {o : MO} (h : M a = some o) (g : M b = none) : a ≠ b := fun e => by rw [e, g] at h; cases h
/-- the memory M' has all of M -/
def Ext (M M' : Mem) : Prop := ∀ a o, M a = some o → M' a = some o
theorem Ext.refl (M : Mem) : Ext M M := fun _ _ h => h
theorem Ext.trans {A B C : Mem} (h : Ext A B) (g : Ext B C) : Ext A C := fun a o e => g a o (h a o e)
theorem Ext.new {M : Mem} {p : Addr} {o : MO} (h : M p = none) : Ext M (mup M p o) := fun a u e => by rw [mup_ne (mem_ne e h)]; exact e
theorem Ext.free {M M' : Mem} (h : Ext M M') {a : Addr} (e : M' a = none) : M a = none := by
  cases q : M a with
  | none => rfl
  | some o => rw [h a o q] at e; cases e

/-! ### the calls by name -/
section
variable {X : Cx} {ρ : St2} {M : Mem} {N : List Str} {sc : Nms} {P : Program} {w : World} {K : PySem.W.Frag} {mg : Str → Option Value} {base : Heap} {k0 : Nat} {p pos : Pos} {e e2 : Expr} {Q : QE}
theorem wa_one {Q : List D → Mem → Prop} (hs : starEach [e] X.env = [(false, eval e X.env)]) (h : WE X e ρ M fun d M1 => Q [d] M1) : WA X [e] ρ M Q := wa_cons hs (WE.mono (fun d M1 q => wa_nil q) h)
theorem wa_two {Q : List D → Mem → Prop} (hs : starEach [e, e2] X.env = (false, eval e X.env) :: starEach [e2] X.env) (hs2 : starEach [e2] X.env = [(false, eval e2 X.env)]) (h : WE X e ρ M fun d M1 => WE X e2 ρ M1 fun d2 M2 => Q [d, d2] M2) : WA X [e, e2] ρ M Q :=
  wa_cons hs (WE.mono (fun d M1 q => wa_one hs2 q) h)
theorem wc_len (C : Cxt X N sc P w K mg base k0) (hg : ("len" : Str) ∈ sc.g) (hm : mg "len" = none) (hs : starEach [e] X.env = [(false, eval e X.env)]) (h : WE X e ρ M fun d M1 => len2 [d] M1 Q) : WE X (.Call (.Name "len" p) [e] [] pos) ρ M Q := by
  obtain rfl := C.hK
  exact we_callB C (cr_or call_len_seq call_len_str) cl_len hg hm (by first | exact PySem.boot_len | exact PyProof.Rows.boot_len) hs (fun _ => rfl) (wa_one hs h)
theorem wc_int (C : Cxt X N sc P w K mg base k0) (hg : ("int" : Str) ∈ sc.g) (hm : mg "int" = none) (hs : starEach [e] X.env = [(false, eval e X.env)]) (h : WE X e ρ M fun d M1 => int1 [d] M1 Q) : WE X (.Call (.Name "int" p) [e] [] pos) ρ M Q := by
  obtain rfl := C.hK
  exact we_callT C (cr_or call_int1 call_int_str) cl_int hg hm (by first | exact PySem.boot_int | exact PyProof.Rows.boot_int) hs (fun _ => rfl) (wa_one hs h)
theorem wc_abs (C : Cxt X N sc P w K mg base k0) (hg : ("abs" : Str) ∈ sc.g) (hm : mg "abs" = none) (hs : starEach [e] X.env = [(false, eval e X.env)]) (h : WE X e ρ M fun d M1 => abs1 [d] M1 Q) : WE X (.Call (.Name "abs" p) [e] [] pos) ρ M Q := by
  obtain rfl := C.hK
  exact we_callB C call_abs cl_abs hg hm (by first | exact PySem.boot_abs | exact PyProof.Rows.boot_abs) hs (fun _ => rfl) (wa_one hs h)
theorem wc_tuple (C : Cxt X N sc P w K mg base k0) (hg : ("tuple" : Str) ∈ sc.g) (hm : mg "tuple" = none) (hs : starEach [e] X.env = [(false, eval e X.env)]) (h : WE X e ρ M fun d M1 => tuple1 [d] M1 Q) : WE X (.Call (.Name "tuple" p) [e] [] pos) ρ M Q := by
  obtain rfl := C.hK
  exact we_callT C call_tuple_of cl_tuple hg hm (by first | exact PySem.boot_tuple | exact PyProof.Rows.boot_tuple) hs (fun _ => rfl) (wa_one hs h)
theorem wc_list (C : Cxt X N sc P w K mg base k0) (hg : ("list" : Str) ∈ sc.g) (hm : mg "list" = none) (hs : starEach [e] X.env = [(false, eval e X.env)]) (h : WE X e ρ M fun d M1 => list1 [d] M1 Q) : WE X (.Call (.Name "list" p) [e] [] pos) ρ M Q := by
  obtain rfl := C.hK
  exact we_callT C call_list_of cl_list hg hm (by first | exact PySem.boot_list | exact PyProof.Rows.boot_list) hs (fun _ => rfl) (wa_one hs h)
theorem wc_sum (C : Cxt X N sc P w K mg base k0) (hg : ("sum" : Str) ∈ sc.g) (hm : mg "sum" = none) (hs : starEach [e] X.env = [(false, eval e X.env)]) (h : WE X e ρ M fun d M1 => sumA [d] M1 Q) (hh : sc.hot = false := by first | k_dflt rfl | assumption) : WE X (.Call (.Name "sum" p) [e] [] pos) ρ M Q := by
  obtain rfl := C.hK
  exact we_callB C (callr_or (cr_sum (C.calm hh)) (cr_sumT (C.calm hh))) cl_sumA hg hm (by first | exact PySem.boot_sum | exact PyProof.Rows.boot_sum) hs (fun _ => rfl) (wa_one hs h)
theorem wc_all (C : Cxt X N sc P w K mg base k0) (hg : ("all" : Str) ∈ sc.g) (hm : mg "all" = none) (hs : starEach [e] X.env = [(false, eval e X.env)]) (h : WE X e ρ M fun d M1 => all1 [d] M1 Q) (hh : sc.hot = false := by first | k_dflt rfl | assumption) : WE X (.Call (.Name "all" p) [e] [] pos) ρ M Q := by
  obtain rfl := C.hK
  exact we_callB C (cr_all (C.calm hh)) cl_all hg hm (by first | exact PySem.boot_all | exact PyProof.Rows.boot_all) hs (fun _ => rfl) (wa_one hs h)
theorem wc_any (C : Cxt X N sc P w K mg base k0) (hg : ("any" : Str) ∈ sc.g) (hm : mg "any" = none) (hs : starEach [e] X.env = [(false, eval e X.env)]) (h : WE X e ρ M fun d M1 => any1 [d] M1 Q) (hh : sc.hot = false := by first | k_dflt rfl | assumption) : WE X (.Call (.Name "any" p) [e] [] pos) ρ M Q := by
  obtain rfl := C.hK
  exact we_callB C (cr_any (C.calm hh)) cl_any hg hm (by first | exact PySem.boot_any | exact PyProof.Rows.boot_any) hs (fun _ => rfl) (wa_one hs h)
theorem wc_min2 (C : Cxt X N sc P w K mg base k0) (hg : ("min" : Str) ∈ sc.g) (hm : mg "min" = none) (hs : starEach [e, e2] X.env = (false, eval e X.env) :: starEach [e2] X.env) (hs2 : starEach [e2] X.env = [(false, eval e2 X.env)]) (h : WE X e ρ M fun d M1 => WE X e2 ρ M1 fun d2 M2 => min2i [d, d2] M2 Q) (hh : sc.hot = false := by first | k_dflt rfl | assumption) : WE X (.Call (.Name "min" p) [e, e2] [] pos) ρ M Q := by
  obtain rfl := C.hK
  exact we_callB C (call_min2 (C.calm hh)) cl_min2 hg hm (by first | exact PySem.boot_min | exact PyProof.Rows.boot_min) hs (fun pos => by rw [hs2]; rfl) (wa_two hs hs2 h)
theorem wc_max2 (C : Cxt X N sc P w K mg base k0) (hg : ("max" : Str) ∈ sc.g) (hm : mg "max" = none) (hs : starEach [e, e2] X.env = (false, eval e X.env) :: starEach [e2] X.env) (hs2 : starEach [e2] X.env = [(false, eval e2 X.env)]) (h : WE X e ρ M fun d M1 => WE X e2 ρ M1 fun d2 M2 => max2i [d, d2] M2 Q) (hh : sc.hot = false := by first | k_dflt rfl | assumption) : WE X (.Call (.Name "max" p) [e, e2] [] pos) ρ M Q := by
  obtain rfl := C.hK
  exact we_callB C (call_max2 (C.calm hh)) cl_max2 hg hm (by first | exact PySem.boot_max | exact PyProof.Rows.boot_max) hs (fun pos => by rw [hs2]; rfl) (wa_two hs hs2 h)
theorem wc_isi (C : Cxt X N sc P w K mg base k0) (hg : ("isinstance" : Str) ∈ sc.g) (hm : mg "isinstance" = none) (hs : starEach [e, e2] X.env = (false, eval e X.env) :: starEach [e2] X.env) (hs2 : starEach [e2] X.env = [(false, eval e2 X.env)]) (h : WE X e ρ M fun d M1 => WE X e2 ρ M1 fun d2 M2 => isi2 [d, d2] M2 Q) : WE X (.Call (.Name "isinstance" p) [e, e2] [] pos) ρ M Q := by
  obtain rfl := C.hK
  exact we_callB C (callr_or call_isi call_isiS) cl_isi hg hm (by first | exact PySem.boot_isinstance | exact PyProof.Rows.boot_isinstance) hs (fun pos => by rw [hs2]; rfl) (wa_two hs hs2 h)
theorem wc_minL (C : Cxt X N sc P w K mg base k0) (hg : ("min" : Str) ∈ sc.g) (hm : mg "min" = none) (hs : starEach [e] X.env = [(false, eval e X.env)]) (h : WE X e ρ M fun d M1 => min1 [d] M1 Q) (hh : sc.hot = false := by first | k_dflt rfl | assumption) : WE X (.Call (.Name "min" p) [e] [] pos) ρ M Q := by
  obtain rfl := C.hK
  exact we_callB C (cr_min (C.calm hh)) cl_min hg hm (by first | exact PySem.boot_min | exact PyProof.Rows.boot_min) hs (fun _ => rfl) (wa_one hs h)
theorem wc_maxL (C : Cxt X N sc P w K mg base k0) (hg : ("max" : Str) ∈ sc.g) (hm : mg "max" = none) (hs : starEach [e] X.env = [(false, eval e X.env)]) (h : WE X e ρ M fun d M1 => max1 [d] M1 Q) (hh : sc.hot = false := by first | k_dflt rfl | assumption) : WE X (.Call (.Name "max" p) [e] [] pos) ρ M Q := by
  obtain rfl := C.hK
  exact we_callB C (cr_max (C.calm hh)) cl_max hg hm (by first | exact PySem.boot_max | exact PyProof.Rows.boot_max) hs (fun _ => rfl) (wa_one hs h)

/-- dict by a written text key -/
theorem we_dgetS (C : Cxt X N sc P w K mg base k0) {o : Expr} {k : Str} {j : Nat} {kp : Pos} (h : WE X o ρ M fun d1 M1 => ∃ a kvs d, d1 = .obj a ∧ M1 a = some (.dk kvs) ∧ valD kvs (.inr k) = some d ∧ Q d M1) (hh : sc.hot = false := by first | k_dflt rfl | assumption) : WE X (.Subscript o (.Constant (.str k) j kp) pos) ρ M Q :=
  we_dget C (fun _ _ => rfl) (WE.mono (fun d1 M1 ⟨a, kvs, d, e1, e2, e3, q⟩ => we_str ⟨a, kvs, .inr k, d, e1, rfl, e2, e3, q⟩) h)
theorem ws_dputS (C : Cxt X N sc P w K mg base k0) {o : Expr} {k : Str} {j : Nat} {kp pos' : Pos} {E : Ends2} (hs : swapsWith e (some (.Subscript o (.Constant (.str k) j kp) pos')) pos.line X.env = pure false)
    (h : WE X e ρ M fun d M1 => WE X o ρ M1 fun d1 M2 => ∃ a kvs, d1 = .obj a ∧ M2 a = some (.dk kvs) ∧ kvs.length < sizeLine ∧ E.nx ρ (mup M2 a (.dk (putD kvs (.inr k) d)))) (hh : sc.hot = false := by first | k_dflt rfl | assumption) : WS X (.Assign [.Subscript o (.Constant (.str k) j kp) pos'] e pos) E ρ M :=
  ws_dput C hs (WE.mono (fun d M1 q => WE.mono (fun d1 M2 ⟨a, kvs, e1, e2, e3, q⟩ => we_str ⟨a, kvs, .inr k, e1, rfl, e2, e3, q⟩) q) h)
end
section
variable {M : Mem} {Q : QE}
theorem q_allT {a : Addr} {bs : List Bool} (h : M a = some (.lst (bs.map D.bl))) (t : ∀ b ∈ bs, b = true) (q : Q (.bl true) M) : all1 [.obj a] M Q := ⟨a, bs, rfl, by rw [h]; rfl, by
  have e : bs.all id = true := List.all_eq_true.mpr t
  rw [e]; exact q⟩
theorem q_par {N : List Str} {x y : Str} {d e : D} {ρ ρ1 ρ2 : St2} {R : St2 → Prop} (p1 : Put N ρ x d ρ1) (p2 : Put N ρ1 y e ρ2) (q : R ρ2) : ∃ d' e' ρ1 ρ2, [d, e] = [d', e'] ∧ Put N ρ x d' ρ1 ∧ Put N ρ1 y e' ρ2 ∧ R ρ2 := ⟨d, e, ρ1, ρ2, rfl, p1, p2, q⟩
theorem q_exI {i : Int} {R : Int → Prop} (q : R i) : ∃ j, D.int i = D.int j ∧ R j := ⟨i, rfl, q⟩
theorem q_exT {as : List D} {R : List D → Prop} (q : R as) : ∃ bs, D.tup as = D.tup bs ∧ R bs := ⟨as, rfl, q⟩
theorem q_slT {ds : List D} {lo hi : Option Int} (q : Q (.tup (cutD ds lo hi)) M) : sl2 (.tup ds) lo hi M Q := q
theorem q_slL {a : Addr} {ds : List D} {lo hi : Option Int} (h : M a = some (.lst ds)) (q : ∀ p, M p = none → Q (.obj p) (mup M p (.lst (cutD ds lo hi)))) : sl2 (.obj a) lo hi M Q := ⟨ds, by rw [h]; rfl, q⟩
theorem q_ixM {α : Type} {d : D} {xs : List α} {f : α → D} {n : Nat} {x : α} (h1 : itemsOf M d = some (xs.map f)) (h : xs[n]? = some x) (q : Q (f x) M) : ix2 d (.int (n : Nat)) M Q := by
  have hn : n < xs.length := (List.getElem?_eq_some_iff.mp h).1
  refine q_ix h1 (d := f x) ?_ q
  unfold atI
  unfold ixN
  rw [if_pos (by omega), if_pos (by rw [List.length_map]; omega)]
  simp [h]
theorem q_ixH {α : Type} {d : D} {xs : List α} {f : α → D} {x : α} (h1 : itemsOf M d = some (xs.map f)) (h : xs.head? = some x) (q : Q (f x) M) : ix2 d (.int 0) M Q := by
  cases xs with
  | nil => cases h
  | cons y ys => cases h; exact q_ixM (n := 0) h1 rfl q
/-- the last one -/
theorem q_ixL {α : Type} {d : D} {xs : List α} {f : α → D} {x : α} (h1 : itemsOf M d = some (xs.map f)) (h : xs.getLast? = some x) (q : Q (f x) M) : ix2 d (.int (-1)) M Q := by
  have hn : 0 < xs.length := by cases xs with | nil => cases h | cons _ _ => simp
  refine q_ix h1 (d := f x) ?_ q
  unfold atI
  unfold ixN
  rw [List.getLast?_eq_getElem?] at h
  rw [if_neg (by omega), if_pos (by rw [List.length_map]; omega)]
  have e : ((-1 : Int) + ((xs.map f).length : Nat)).toNat = xs.length - 1 := by rw [List.length_map]; omega
  simp only [Option.bind_some] at *
  first | (rw [e, List.getElem?_map, h]; rfl) | (simp [e, h]) | skip
theorem q_size {R : Prop} {n : Nat} (h : n ≤ sizeLine) (q : R) : n ≤ sizeLine ∧ R := ⟨h, q⟩
theorem q_tru {d : D} {k : Bool} {R : Bool → Prop} (h : truD d M = some k) (q : R k) : ∃ k, truD d M = some k ∧ R k := ⟨k, h, q⟩
theorem q_len {d : D} {ds : List D} (h : itemsOf M d = some ds) (q : Q (.int (ds.length : Nat)) M) : len2 [d] M Q := .inl ⟨d, ds, rfl, h, q⟩
theorem q_lenS {z : Str} (h : z.length ≤ sizeLine) (q : Q (.int (z.length : Nat)) M) : len2 [.str z] M Q := .inr ⟨z, rfl, h, q⟩
theorem q_int {i : Int} (q : Q (.int i) M) : int1 [.int i] M Q := .inl ⟨i, rfl, q⟩
theorem q_intB {b : Bool} (q : Q (.int (if b = true then 1 else 0)) M) : int1 [.bl b] M Q := .inr (.inl ⟨b, rfl, q⟩)
theorem q_intS {a : Str} {n : Int} (h1 : PySem.intText? a = some n) (h2 : a.length ≤ 640) (q : Q (.int n) M) : int1 [.str a] M Q := .inr (.inr ⟨a, n, rfl, h1, h2, q⟩)
theorem q_abs {i : Int} (q : Q (.int (if i < 0 then -i else i)) M) : abs1 [.int i] M Q := ⟨i, rfl, q⟩
theorem q_tuple {d : D} {ds : List D} (h : itemsOf M d = some ds) (q : Q (.tup ds) M) : tuple1 [d] M Q := ⟨d, ds, rfl, h, q⟩
theorem q_list {d : D} {ds : List D} (h : itemsOf M d = some ds) (q : ∀ p, M p = none → Q (.obj p) (mup M p (.lst ds))) : list1 [d] M Q := ⟨d, ds, rfl, h, q⟩
theorem q_sum {d : D} {ns : List Int} (h : itemsOf M d = some (ns.map D.int)) (q : Q (.int ns.sum) M) : sumA [d] M Q := ⟨d, ns, rfl, h, q⟩
theorem q_min2 {i j : Int} (q : Q (.int (if j < i then j else i)) M) : min2i [.int i, .int j] M Q := ⟨i, j, rfl, q⟩
theorem q_max2 {i j : Int} (q : Q (.int (if j > i then j else i)) M) : max2i [.int i, .int j] M Q := ⟨i, j, rfl, q⟩
theorem q_isi {d : D} {S T : String} {b : Bool} (h : tyD d M = some S) (k : kitB S T = some b) (q : Q (.bl b) M) : isi2 [d, .ty T] M Q := .inl ⟨d, T, S, b, rfl, h, k, q⟩
theorem q_isiT {d : D} {S : String} {Ts : List String} {b : Bool} (h : tyD d M = some S) (k : kitAnyB S Ts = some b) (q : Q (.bl b) M) : isi2 [d, .tup (Ts.map D.ty)] M Q := .inr ⟨d, Ts, S, b, rfl, h, k, q⟩
theorem q_isi2 {d : D} {S T U : String} {b : Bool} (h : tyD d M = some S) (k : kitAnyB S [T, U] = some b) (q : Q (.bl b) M) : isi2 [d, .tup [.ty T, .ty U]] M Q := q_isiT (Ts := [T, U]) h k q
theorem q_isi3 {d : D} {S T U W : String} {b : Bool} (h : tyD d M = some S) (k : kitAnyB S [T, U, W] = some b) (q : Q (.bl b) M) : isi2 [d, .tup [.ty T, .ty U, .ty W]] M Q := q_isiT (Ts := [T, U, W]) h k q
end
section
variable {X : Cx} {ρ : St2} {M : Mem} {N : List Str} {sc : Nms} {P : Program} {w : World} {K : PySem.W.Frag} {mg : Str → Option Value} {base : Heap} {k0 : Nat}
theorem we_gI (C : Cxt X N sc P w K mg base k0) {x : Str} {i : Int} {pos : Pos} {Q : QE} (hg : x ∈ sc.g) (hm : ∃ t, mg x = some (.int i t)) (q : Q (.int i) M) : WE X (.Name x pos) ρ M Q := by
  obtain ⟨t, hm⟩ := hm
  exact we_globI C hg hm q
theorem we_gS (C : Cxt X N sc P w K mg base k0) {x : Str} {i : Str} {pos : Pos} {Q : QE} (hg : x ∈ sc.g) (hm : ∃ t, mg x = some (.str i t)) (q : Q (.str i) M) : WE X (.Name x pos) ρ M Q := by
  obtain ⟨t, hm⟩ := hm
  exact we_globS C hg hm q
end
theorem kb_int_int : kitB "int" "int" = some true := by decide +kernel
theorem kb_int_bool : kitB "int" "bool" = some false := by decide +kernel
theorem kb_int_str : kitB "int" "str" = some false := by decide +kernel
theorem kb_int_tuple : kitB "int" "tuple" = some false := by decide +kernel
theorem kb_int_list : kitB "int" "list" = some false := by decide +kernel
theorem kb_int_dict : kitB "int" "dict" = some false := by decide +kernel
theorem kc_int : kitAnyB "int" ["list", "tuple"] = some false := by decide +kernel
theorem kd_int : kitAnyB "int" ["tuple", "list"] = some false := by decide +kernel
theorem kb_bool_int : kitB "bool" "int" = some true := by decide +kernel
theorem kb_bool_bool : kitB "bool" "bool" = some true := by decide +kernel
theorem kb_bool_str : kitB "bool" "str" = some false := by decide +kernel
theorem kb_bool_tuple : kitB "bool" "tuple" = some false := by decide +kernel
theorem kb_bool_list : kitB "bool" "list" = some false := by decide +kernel
theorem kb_bool_dict : kitB "bool" "dict" = some false := by decide +kernel
theorem kc_bool : kitAnyB "bool" ["list", "tuple"] = some false := by decide +kernel
theorem kd_bool : kitAnyB "bool" ["tuple", "list"] = some false := by decide +kernel
theorem kb_str_int : kitB "str" "int" = some false := by decide +kernel
theorem kb_str_bool : kitB "str" "bool" = some false := by decide +kernel
theorem kb_str_str : kitB "str" "str" = some true := by decide +kernel
theorem kb_str_tuple : kitB "str" "tuple" = some false := by decide +kernel
theorem kb_str_list : kitB "str" "list" = some false := by decide +kernel
theorem kb_str_dict : kitB "str" "dict" = some false := by decide +kernel
theorem kc_str : kitAnyB "str" ["list", "tuple"] = some false := by decide +kernel
theorem kd_str : kitAnyB "str" ["tuple", "list"] = some false := by decide +kernel
theorem kb_tuple_int : kitB "tuple" "int" = some false := by decide +kernel
theorem kb_tuple_bool : kitB "tuple" "bool" = some false := by decide +kernel
theorem kb_tuple_str : kitB "tuple" "str" = some false := by decide +kernel
theorem kb_tuple_tuple : kitB "tuple" "tuple" = some true := by decide +kernel
theorem kb_tuple_list : kitB "tuple" "list" = some false := by decide +kernel
theorem kb_tuple_dict : kitB "tuple" "dict" = some false := by decide +kernel
theorem kc_tuple : kitAnyB "tuple" ["list", "tuple"] = some true := by decide +kernel
theorem kd_tuple : kitAnyB "tuple" ["tuple", "list"] = some true := by decide +kernel
theorem kb_list_int : kitB "list" "int" = some false := by decide +kernel
theorem kb_list_bool : kitB "list" "bool" = some false := by decide +kernel
theorem kb_list_str : kitB "list" "str" = some false := by decide +kernel
theorem kb_list_tuple : kitB "list" "tuple" = some false := by decide +kernel
theorem kb_list_list : kitB "list" "list" = some true := by decide +kernel
theorem kb_list_dict : kitB "list" "dict" = some false := by decide +kernel
theorem kc_list : kitAnyB "list" ["list", "tuple"] = some true := by decide +kernel
theorem kd_list : kitAnyB "list" ["tuple", "list"] = some true := by decide +kernel
theorem kb_dict_int : kitB "dict" "int" = some false := by decide +kernel
theorem kb_dict_bool : kitB "dict" "bool" = some false := by decide +kernel
theorem kb_dict_str : kitB "dict" "str" = some false := by decide +kernel
theorem kb_dict_tuple : kitB "dict" "tuple" = some false := by decide +kernel
theorem kb_dict_list : kitB "dict" "list" = some false := by decide +kernel
theorem kb_dict_dict : kitB "dict" "dict" = some true := by decide +kernel
theorem kc_dict : kitAnyB "dict" ["list", "tuple"] = some false := by decide +kernel
theorem kd_dict : kitAnyB "dict" ["tuple", "list"] = some false := by decide +kernel
theorem kb_NoneType_int : kitB "NoneType" "int" = some false := by decide +kernel
theorem kb_NoneType_bool : kitB "NoneType" "bool" = some false := by decide +kernel
theorem kb_NoneType_str : kitB "NoneType" "str" = some false := by decide +kernel
theorem kb_NoneType_tuple : kitB "NoneType" "tuple" = some false := by decide +kernel
theorem kb_NoneType_list : kitB "NoneType" "list" = some false := by decide +kernel
theorem kb_NoneType_dict : kitB "NoneType" "dict" = some false := by decide +kernel
theorem kc_NoneType : kitAnyB "NoneType" ["list", "tuple"] = some false := by decide +kernel
theorem kd_NoneType : kitAnyB "NoneType" ["tuple", "list"] = some false := by decide +kernel
/-! ### lists of ints -/
theorem ixN_in {n : Nat} {k : Int} (h0 : 0 ≤ k) (h1 : k < n) : ixN n k = some k.toNat := by unfold ixN; rw [if_pos h0, if_pos h1]
theorem atI_in {ds : List D} {k : Int} (h0 : 0 ≤ k) (h1 : k < ds.length) : ∃ d, d ∈ ds ∧ atI ds k = some d ∧ ds[k.toNat]? = some d := by
  have hl : k.toNat < ds.length := by omega
  refine ⟨ds[k.toNat], List.getElem_mem hl, ?_, List.getElem?_eq_getElem hl⟩
  unfold atI
  rw [ixN_in h0 h1]
  exact List.getElem?_eq_getElem hl
theorem atI_int {cs : List Int} {k : Int} (h0 : 0 ≤ k) (h1 : k < cs.length) : ∃ x, x ∈ cs ∧ atI (cs.map D.int) k = some (.int x) := by
  obtain ⟨d, hd, e, _⟩ := atI_in (ds := cs.map D.int) h0 (by simpa using h1)
  obtain ⟨x, hx, rfl⟩ := List.mem_map.mp hd
  exact ⟨x, hx, e⟩
theorem set_ints {cs : List Int} {j : Nat} {v : Int} : (cs.map D.int).set j (.int v) = (cs.set j v).map D.int := by rw [List.map_set]
theorem mem_set {cs : List Int} {j : Nat} {v : Int} {p : Int → Prop} (h : ∀ x ∈ cs, p x) (hv : p v) : ∀ x ∈ cs.set j v, p x := fun x hx => by
  rcases List.mem_or_eq_of_mem_set hx with z | z
  · exact h x z
  · rw [z]; exact hv
theorem get_ints {ns : List Int} {i : Nat} {e : D} (h : (ns.map D.int)[i]? = some e) : ∃ z, e = .int z ∧ ns[i]? = some z := by
  rw [List.getElem?_map] at h
  cases q : ns[i]? with
  | none => rw [q] at h; cases h
  | some z => rw [q] at h; cases h; exact ⟨z, rfl, rfl⟩
theorem get_map {α : Type} {xs : List α} {f : α → D} {i : Nat} {e : D} (h : (xs.map f)[i]? = some e) : ∃ z, e = f z ∧ xs[i]? = some z := by
  rw [List.getElem?_map] at h
  cases q : xs[i]? with
  | none => rw [q] at h; cases h
  | some z => rw [q] at h; cases h; exact ⟨z, rfl, rfl⟩
theorem get_map2 {α β : Type} {xs : List α} {g : α → β} {f : β → D} {i : Nat} {z : D} {x : α} (h : ((xs.map g).map f)[i]? = some z) (e : xs[i]? = some x) : z = f (g x) := by
  rw [List.getElem?_map, List.getElem?_map, e] at h
  cases h; rfl
theorem rng_get {n : Nat} {f : Nat → D} {i : Nat} {d : D} (h : ((List.range n).map f)[i]? = some d) : i < n ∧ d = f i := by
  rw [List.getElem?_map] at h
  cases q : (List.range n)[i]? with
  | none => rw [q] at h; cases h
  | some j =>
    rw [q] at h
    cases h
    obtain ⟨a, b⟩ := List.getElem?_eq_some_iff.mp q
    rw [List.getElem_range] at b
    subst b
    exact ⟨by simpa using a, rfl⟩
/-! ### == of data -/
theorem py_ints : ∀ ns : List Int, pyL (ns.map D.int) = ns.map PyData.int
  | [] => rfl
  | n :: ns => by show PyData.int n :: pyL (ns.map D.int) = _; rw [py_ints ns]; rfl
theorem dat_ints : ∀ ns : List Int, isDatL (ns.map D.int) = true
  | [] => rfl
  | n :: ns => by show (true && isDatL (ns.map D.int)) = true; rw [dat_ints ns]; rfl
theorem canLay_ints : ∀ ns : List Int, PyData.canLayAll0 (ns.map PyData.int) = true
  | [] => rfl
  | n :: ns => by simp only [List.map_cons, PyData.canLayAll0, PyData.canLay0, canLay_ints ns, Bool.and_self]
theorem depth_ints : ∀ ns : List Int, PyData.depthAll (ns.map PyData.int) = 0
  | [] => rfl
  | n :: ns => by simp only [List.map_cons, PyData.depthAll, PyData.depth, depth_ints ns, Nat.max_self]
theorem shaped_ints (ns : List Int) : SeqAt.shaped (.list (ns.map PyData.int)) = true := by
  unfold SeqAt.shaped
  simp only [PyData.canLay0, canLay_ints, PyData.depth, depth_ints]
  rfl
theorem cut_tail {ds : List D} : cutD ds (some 1) none = ds.tail := by
  unfold cutD
  cases ds with
  | nil => rfl
  | cons d ds => simp [HT.sIx]
theorem cut_init {ds : List D} : cutD ds none (some (-1)) = ds.dropLast := by
  unfold cutD
  rw [List.dropLast_eq_take]
  cases ds with
  | nil => rfl
  | cons d ds =>
    simp [HT.sIx]
    omega
theorem cut_take {ds : List D} {n : Nat} (h : n ≤ ds.length) : cutD ds none (some (n : Int)) = ds.take n := by
  unfold cutD
  have e : HT.sIx ds.length ds.length (some (n : Int)) = min n ds.length := by
    show (if (n : Int) < 0 then ((n : Int) + ((ds.length : Nat) : Int)).toNat else min (n : Int).toNat ds.length) = _
    rw [if_neg (by omega), Int.toNat_natCast]
  rw [e, Nat.min_eq_left h]
  rfl
theorem ixN_nat {m n : Nat} {k : Int} (e : k = (n : Nat)) (l : n < m) : ixN m k = some n := by
  subst e
  unfold ixN
  rw [if_pos (by omega), if_pos (by omega), Int.toNat_natCast]
theorem ixN_last {m : Nat} (l : 0 < m) : ixN m (-1) = some (m - 1) := by
  unfold ixN
  rw [if_neg (by omega), if_pos (by omega)]
  congr 1
  omega
theorem q_setM {α : Type} {f : α → D} {a : Addr} {xs : List α} {n : Nat} {k : Int} {M : Mem} {R : Addr → List D → Nat → Prop} (h : M a = some (.lst (xs.map f))) (l : ixN xs.length k = some n) (q : R a (xs.map f) n) :
    ∃ a' ds k' j, D.obj a = .obj a' ∧ D.int k = .int k' ∧ M a' = some (.lst ds) ∧ ixN ds.length k' = some j ∧ R a' ds j :=
  ⟨a, _, k, n, rfl, rfl, h, by rw [List.length_map]; exact l, q⟩
theorem q_ixK {α : Type} {d : D} {xs : List α} {f : α → D} {n : Nat} {k : Int} {x : α} {M : Mem} {Q : QE} (h1 : itemsOf M d = some (xs.map f)) (l : ixN xs.length k = some n) (h : xs[n]? = some x) (q : Q (f x) M) : ix2 d (.int k) M Q := by
  refine q_ix h1 (d := f x) ?_ q
  unfold atI
  rw [List.length_map, l]
  show (xs.map f)[n]? = _
  rw [List.getElem?_map, h]
  rfl
theorem q_neNil {M : Mem} {Q : QE} {a b : Addr} {gs : List Int} (h1 : M a = some (.lst (gs.map D.int))) (h2 : M b = some (.lst [])) (q : Q (.bl (!decide (gs = []))) M) : eq2 not (.obj a) (.obj b) M Q := by
  refine .inr (.inl ⟨.list (gs.map PyData.int), .list [], dtr_of ?_, dtr_of ?_, shaped_ints gs, shaped_ints [], ?_⟩)
  · show (lstOf (M a)).bind _ = _
    rw [h1]
    show (if isDatL (gs.map D.int) = true then some (PyData.list (pyL (gs.map D.int))) else none) = _
    rw [if_pos (dat_ints gs), py_ints]
  · show (lstOf (M b)).bind _ = _
    rw [h2]
    rfl
  · have e : PyData.eqv (.list (gs.map PyData.int)) (.list []) = decide (gs = []) := by
      cases gs with
      | nil => simp [PyData.eqv, PyData.eqvAll]
      | cons g gs => simp [PyData.eqv, PyData.eqvAll]
    rw [e]
    exact q
end Y

set_option Elab.async false
set_option linter.all false
set_option autoImplicit false
set_option maxRecDepth 100000
set_option maxHeartbeats 4000000
/-! comprehensions whose elements change no memory -/
namespace Y
open PySem PySem.Spec PyProof.Rows L2
section
variable {X : Cx} {ρ : St2} {M : Mem} {N : List Str} {sc : Nms} {P : Program} {w : World} {K : PySem.W.Frag} {mg : Str → Option Value} {base : Heap} {k0 : Nat}
theorem mup_mup {M : Mem} {a : Addr} {o u : MO} : mup (mup M a o) a u = mup M a u := by
  funext b
  by_cases e : b = a
  · subst e; rw [mup_same, mup_same]
  · rw [mup_ne e, mup_ne e, mup_ne e]
/-- the body of a comprehension without tests, its element a function of the item -/
def LcBody (X : Cx) (scope : Scope) (elt : Expr) (t : Tgt) (ρw : St2) (M1 : Mem) (xs : List D) (stays : Mem → Prop) (f : D → D) : Prop :=
  xs.length ≤ sizeLine ∧ (∀ Dd acc, M1 Dd = none → stays (mup M1 Dd (.lst acc))) ∧
  ∀ (d : D) (Dd : Addr) (acc : List D), d ∈ xs → M1 Dd = none → ∃ ρ', bT t d ρw = some ρ' ∧ ∀ X', Blk X scope X' → WE X' elt ρ' (mup M1 Dd (.lst acc)) fun y M4 => M4 = mup M1 Dd (.lst acc) ∧ y = f d
/-- .. with a test -/
def LcBodyF (X : Cx) (scope : Scope) (elt c : Expr) (t : Tgt) (ρw : St2) (M1 : Mem) (xs : List D) (stays : Mem → Prop) (g : D → Bool) (f : D → D) : Prop :=
  xs.length ≤ sizeLine ∧ (∀ Dd acc, M1 Dd = none → stays (mup M1 Dd (.lst acc))) ∧
  ∀ (d : D) (Dd : Addr) (acc : List D), d ∈ xs → M1 Dd = none → ∃ ρ', bT t d ρw = some ρ' ∧ ∀ X', Blk X scope X' → WT X' c ρ' (mup M1 Dd (.lst acc)) fun b M3 => M3 = mup M1 Dd (.lst acc) ∧ b = g d ∧ (b = true → ∀ X2, Blk X scope X2 → WE X2 elt ρ' M3 fun y M4 => M4 = M3 ∧ y = f d)
theorem take_succ' {α : Type} {xs : List α} {i : Nat} {d : α} (h : xs[i]? = some d) : xs.take (i + 1) = xs.take i ++ [d] := by
  rw [List.take_add_one, h]; rfl
theorem lc_pure {M1 : Mem} {xs : List D} {stays : Mem → Prop} {scope : Scope} {elt : Expr} {t : Tgt} {ρw : St2} {f : D → D} {R' : Addr → Mem → Prop} (h : LcBody X scope elt t ρw M1 xs stays f) (k : ∀ Dd, M1 Dd = none → R' Dd (mup M1 Dd (.lst (xs.map f)))) :
    ∀ Dd, M1 Dd = none → ∃ I : Nat → Mem → Prop, I 0 (mup M1 Dd (.lst [])) ∧ (∀ i M, I i M → stays M) ∧
      (∀ (i : Nat) (d : D) (M : Mem), xs[i]? = some d → I i M → ∃ ρ', bT t d ρw = some ρ' ∧ ∀ X', Blk X scope X' → WTs X' [] ρ' M fun b M3 => Br b (∀ X2, Blk X scope X2 → WE X2 elt ρ' M3 fun y M4 => ∃ acc, M4 Dd = some (.lst acc) ∧ acc.length < sizeLine ∧ I (i + 1) (mup M4 Dd (.lst (acc ++ [y])))) (I (i + 1) M3)) ∧
      (∀ M, I xs.length M → R' Dd M) := by
  intro Dd hD
  obtain ⟨hz, hs, hb⟩ := h
  refine ⟨fun i M => M = mup M1 Dd (.lst ((xs.take i).map f)), by simp, fun i M e => by subst e; exact hs _ _ hD, ?_, fun M e => by subst e; rw [List.take_length]; exact k Dd hD⟩
  intro i d M hi e
  subst e
  have hl : i < xs.length := (List.getElem?_eq_some_iff.mp hi).1
  obtain ⟨ρ', e1, w1⟩ := hb d Dd ((xs.take i).map f) (List.mem_of_getElem? hi) hD
  refine ⟨ρ', e1, fun X' B => Br.t fun X2 B2 => WE.mono ?_ (w1 X2 B2)⟩
  rintro y M4 ⟨rfl, rfl⟩
  refine ⟨_, mup_same, by simp; omega, ?_⟩
  dsimp only
  rw [mup_mup, take_succ' hi, List.map_append]
  rfl
theorem lc_pureF {M1 : Mem} {xs : List D} {stays : Mem → Prop} {scope : Scope} {elt c : Expr} {t : Tgt} {ρw : St2} {g : D → Bool} {f : D → D} {R' : Addr → Mem → Prop} (h : LcBodyF X scope elt c t ρw M1 xs stays g f) (k : ∀ Dd, M1 Dd = none → R' Dd (mup M1 Dd (.lst ((xs.filter g).map f)))) :
    ∀ Dd, M1 Dd = none → ∃ I : Nat → Mem → Prop, I 0 (mup M1 Dd (.lst [])) ∧ (∀ i M, I i M → stays M) ∧
      (∀ (i : Nat) (d : D) (M : Mem), xs[i]? = some d → I i M → ∃ ρ', bT t d ρw = some ρ' ∧ ∀ X', Blk X scope X' → WTs X' [c] ρ' M fun b M3 => Br b (∀ X2, Blk X scope X2 → WE X2 elt ρ' M3 fun y M4 => ∃ acc, M4 Dd = some (.lst acc) ∧ acc.length < sizeLine ∧ I (i + 1) (mup M4 Dd (.lst (acc ++ [y])))) (I (i + 1) M3)) ∧
      (∀ M, I xs.length M → R' Dd M) := by
  intro Dd hD
  obtain ⟨hz, hs, hb⟩ := h
  refine ⟨fun i M => M = mup M1 Dd (.lst (((xs.take i).filter g).map f)), by simp, fun i M e => by subst e; exact hs _ _ hD, ?_, fun M e => by subst e; rw [List.take_length]; exact k Dd hD⟩
  intro i d M hi e
  subst e
  have hl : i < xs.length := (List.getElem?_eq_some_iff.mp hi).1
  obtain ⟨ρ', e1, w1⟩ := hb d Dd (((xs.take i).filter g).map f) (List.mem_of_getElem? hi) hD
  refine ⟨ρ', e1, fun X' B => WT.mono ?_ (w1 X' B)⟩
  rintro b M3 ⟨rfl, rfl, w2⟩
  refine ⟨fun z X2 B2 => WE.mono ?_ (w2 z X2 B2), fun z => ?_⟩
  · rintro y M4 ⟨rfl, rfl⟩
    refine ⟨_, mup_same, ?_, ?_⟩
    · have := List.length_filter_le g (xs.take i)
      simp at this ⊢
      omega
    · dsimp only
      rw [mup_mup, take_succ' hi, List.filter_append, List.map_append]
      simp [List.filter_cons, z]
  · dsimp only
    rw [take_succ' hi, List.filter_append]
    simp [List.filter_cons, z]
theorem we_lcP (C : Cxt X N sc P w K mg base k0) {tg iter elt : Expr} {scope : Scope} {pos : Pos} {t : Tgt} {own : List (Str × Nat)} {Q : QE} (hb : blkB N sc.f scope own = true) (ho : ∀ i ∈ slT t, i ∈ own.map (·.2)) (ht : ∀ X', Blk X scope X' → PT2 X' tg t) (hf : ∀ x, foldedSetIterable iter X.env x = pure x) (f : D → D)
    (h : WI X tg iter ρ M fun xs stays M1 => LcBody X scope elt t (wipe2 ρ (own.map (·.2))) M1 xs stays f ∧ ∀ Dd, M1 Dd = none → Q (.obj Dd) (mup M1 Dd (.lst (xs.map f)))) (hh : sc.hot = false := by first | k_dflt rfl | assumption) : WE X (.ListComp elt [{ target := tg, iter := iter, ifs := [], is_async := 0 }] scope pos) ρ M Q :=
  we_lc C hb ho ht hf fun σ H r => cI_mono (fun J H1 ⟨xs, stays, M1, a, b, c, d, e⟩ => ⟨xs, stays, M1, a, b, c, lc_pure d e⟩) (h σ H r)
theorem we_lcF (C : Cxt X N sc P w K mg base k0) {tg iter elt c : Expr} {scope : Scope} {pos : Pos} {t : Tgt} {own : List (Str × Nat)} {Q : QE} (hb : blkB N sc.f scope own = true) (ho : ∀ i ∈ slT t, i ∈ own.map (·.2)) (ht : ∀ X', Blk X scope X' → PT2 X' tg t) (hf : ∀ x, foldedSetIterable iter X.env x = pure x) (g : D → Bool) (f : D → D)
    (h : WI X tg iter ρ M fun xs stays M1 => LcBodyF X scope elt c t (wipe2 ρ (own.map (·.2))) M1 xs stays g f ∧ ∀ Dd, M1 Dd = none → Q (.obj Dd) (mup M1 Dd (.lst ((xs.filter g).map f)))) (hh : sc.hot = false := by first | k_dflt rfl | assumption) : WE X (.ListComp elt [{ target := tg, iter := iter, ifs := [c], is_async := 0 }] scope pos) ρ M Q :=
  we_lc C hb ho ht hf fun σ H r => cI_mono (fun J H1 ⟨xs, stays, M1, a, b, c, d, e⟩ => ⟨xs, stays, M1, a, b, c, lc_pureF d e⟩) (h σ H r)
theorem ws_setLcP (C : Cxt X N sc P w K mg base k0) {i : Nat} {y : Str} {py : Pos} {tg iter elt : Expr} {scope : Scope} {pos spos : Pos} {t : Tgt} {own : List (Str × Nat)} {E : Ends2} (nm : Nm N i y) (ly : y ∈ sc.c) (hl : (py.line == pos.line) = true) (ha : (scope.names.any fun (n, k) => n == y && (k == .local || k == .cell)) = false)
    (hb : blkB N sc.f scope own = true) (ho : ∀ i ∈ slT t, i ∈ own.map (·.2)) (ht : ∀ X', Blk X scope X' → PT2 X' tg t) (hf : ∀ x, foldedSetIterable iter X.env x = pure x) (f : D → D)
    (h : WI X tg iter ρ M fun xs stays M1 => LcBody X scope elt t (wipe2 ρ (own.map (·.2))) M1 xs stays f ∧ ∀ Dd, M1 Dd = none → ∃ ρ', Put N ρ y (.obj Dd) ρ' ∧ E.nx ρ' (mup M1 Dd (.lst (xs.map f)))) (hh : sc.hot = false := by first | k_dflt rfl | assumption) : WS X (.Assign [.Name y py] (.ListComp elt [{ target := tg, iter := iter, ifs := [], is_async := 0 }] scope pos) spos) E ρ M :=
  ws_setLc C nm ly hl ha hb ho ht hf fun σ H r => cI_mono (fun J H1 ⟨xs, stays, M1, a, b, c, d, e⟩ => ⟨xs, stays, M1, a, b, c, lc_pure (R' := fun Dd M => ∃ ρ', Put N ρ y (.obj Dd) ρ' ∧ E.nx ρ' M) d e⟩) (h σ H r)
/-! elements that make new objects, but change none -/
def LcBodyG (X : Cx) (scope : Scope) (elt : Expr) (t : Tgt) (ρw : St2) (M1 : Mem) (xs : List D) (stays : Mem → Prop) (zs : List D) : Prop :=
  xs.length ≤ sizeLine ∧ zs.length = xs.length ∧ (∀ M', Ext M1 M' → stays M') ∧
  ∀ (i : Nat) (d z : D) (M' : Mem), xs[i]? = some d → zs[i]? = some z → Ext M1 M' → ∃ ρ', bT t d ρw = some ρ' ∧ ∀ X', Blk X scope X' → WE X' elt ρ' M' fun y M4 => Ext M' M4 ∧ y = z
def LcBodyH {α : Type} (X : Cx) (scope : Scope) (elt c : Expr) (t : Tgt) (ρw : St2) (M1 : Mem) (xs : List D) (stays : Mem → Prop) (ys : List α) (e : α → D) (p : α → Bool) (g : α → D) : Prop :=
  xs = ys.map e ∧ xs.length ≤ sizeLine ∧ (∀ M', Ext M1 M' → stays M') ∧
  ∀ (i : Nat) (y : α) (M' : Mem), ys[i]? = some y → Ext M1 M' → ∃ ρ', bT t (e y) ρw = some ρ' ∧ ∀ X', Blk X scope X' → WT X' c ρ' M' fun b M3 => Ext M' M3 ∧ b = p y ∧ (b = true → ∀ X2, Blk X scope X2 → WE X2 elt ρ' M3 fun z M4 => Ext M3 M4 ∧ z = g y)
theorem Ext.put {M1 M : Mem} (h : Ext M1 M) {p : Addr} {o : MO} (e : M1 p = none) : Ext M1 (mup M p o) := fun a u x => by
  by_cases z : a = p
  · subst z; rw [e] at x; cases x
  · rw [mup_ne z]; exact h a u x
theorem lc_grow {M1 : Mem} {xs : List D} {stays : Mem → Prop} {scope : Scope} {elt : Expr} {t : Tgt} {ρw : St2} {zs : List D} {R' : Addr → Mem → Prop} (h : LcBodyG X scope elt t ρw M1 xs stays zs) (k : ∀ Dd M', M1 Dd = none → M' Dd = some (.lst zs) → Ext M1 M' → R' Dd M') :
    ∀ Dd, M1 Dd = none → ∃ I : Nat → Mem → Prop, I 0 (mup M1 Dd (.lst [])) ∧ (∀ i M, I i M → stays M) ∧
      (∀ (i : Nat) (d : D) (M : Mem), xs[i]? = some d → I i M → ∃ ρ', bT t d ρw = some ρ' ∧ ∀ X', Blk X scope X' → WTs X' [] ρ' M fun b M3 => Br b (∀ X2, Blk X scope X2 → WE X2 elt ρ' M3 fun y M4 => ∃ acc, M4 Dd = some (.lst acc) ∧ acc.length < sizeLine ∧ I (i + 1) (mup M4 Dd (.lst (acc ++ [y])))) (I (i + 1) M3)) ∧
      (∀ M, I xs.length M → R' Dd M) := by
  intro Dd hD
  obtain ⟨hz, hl, hs, hb⟩ := h
  refine ⟨fun i M => M Dd = some (.lst (zs.take i)) ∧ Ext M1 M, ⟨mup_same, Ext.new hD⟩, fun i M e => hs _ e.2, ?_, fun M ⟨e, x⟩ => k Dd M hD (by rw [e, ← hl, List.take_length]) x⟩
  rintro i d M hi ⟨e, x⟩
  have hi' : i < xs.length := (List.getElem?_eq_some_iff.mp hi).1
  have hzi : zs[i]? = some zs[i] := List.getElem?_eq_getElem (by omega)
  obtain ⟨ρ', e1, w1⟩ := hb i d _ M hi hzi x
  refine ⟨ρ', e1, fun X' B => Br.t fun X2 B2 => WE.mono ?_ (w1 X2 B2)⟩
  rintro y M4 ⟨x4, rfl⟩
  refine ⟨_, x4 _ _ e, by simp; omega, ?_, (x.trans x4).put hD⟩
  rw [mup_same, take_succ' hzi]
theorem lc_growF {α : Type} {M1 : Mem} {xs : List D} {stays : Mem → Prop} {scope : Scope} {elt c : Expr} {t : Tgt} {ρw : St2} {ys : List α} {e : α → D} {p : α → Bool} {g : α → D} {R' : Addr → Mem → Prop} (h : LcBodyH X scope elt c t ρw M1 xs stays ys e p g) (k : ∀ Dd M', M1 Dd = none → M' Dd = some (.lst ((ys.filter p).map g)) → Ext M1 M' → R' Dd M') :
    ∀ Dd, M1 Dd = none → ∃ I : Nat → Mem → Prop, I 0 (mup M1 Dd (.lst [])) ∧ (∀ i M, I i M → stays M) ∧
      (∀ (i : Nat) (d : D) (M : Mem), xs[i]? = some d → I i M → ∃ ρ', bT t d ρw = some ρ' ∧ ∀ X', Blk X scope X' → WTs X' [c] ρ' M fun b M3 => Br b (∀ X2, Blk X scope X2 → WE X2 elt ρ' M3 fun y M4 => ∃ acc, M4 Dd = some (.lst acc) ∧ acc.length < sizeLine ∧ I (i + 1) (mup M4 Dd (.lst (acc ++ [y])))) (I (i + 1) M3)) ∧
      (∀ M, I xs.length M → R' Dd M) := by
  intro Dd hD
  obtain ⟨rfl, hz, hs, hb⟩ := h
  rw [List.length_map] at hz
  refine ⟨fun i M => M Dd = some (.lst (((ys.take i).filter p).map g)) ∧ Ext M1 M, ⟨mup_same, Ext.new hD⟩, fun i M e => hs _ e.2, ?_, fun M ⟨e, x⟩ => k Dd M hD (by rw [e, List.length_map, List.take_length]) x⟩
  rintro i d M hi ⟨ed, x⟩
  rw [List.getElem?_map] at hi
  cases hy : ys[i]? with
  | none => rw [hy] at hi; cases hi
  | some y =>
    rw [hy] at hi; cases hi
    have hl : i < ys.length := (List.getElem?_eq_some_iff.mp hy).1
    obtain ⟨ρ', e1, w1⟩ := hb i y M hy x
    refine ⟨ρ', e1, fun X' B => WT.mono ?_ (w1 X' B)⟩
    rintro b M3 ⟨x3, rfl, w2⟩
    refine ⟨fun z X2 B2 => WE.mono ?_ (w2 z X2 B2), fun z => ⟨?_, x.trans x3⟩⟩
    · rintro v M4 ⟨x4, rfl⟩
      refine ⟨_, x4 _ _ (x3 _ _ ed), ?_, ?_, ((x.trans x3).trans x4).put hD⟩
      · have := List.length_filter_le p (ys.take i)
        simp at this ⊢
        omega
      · rw [mup_same, take_succ' hy, List.filter_append, List.map_append]
        simp [List.filter_cons, z]
    · rw [x3 _ _ ed, take_succ' hy, List.filter_append]
      simp [List.filter_cons, z]
theorem we_lcG (C : Cxt X N sc P w K mg base k0) {tg iter elt : Expr} {scope : Scope} {pos : Pos} {t : Tgt} {own : List (Str × Nat)} {Q : QE} (hb : blkB N sc.f scope own = true) (ho : ∀ i ∈ slT t, i ∈ own.map (·.2)) (ht : ∀ X', Blk X scope X' → PT2 X' tg t) (hf : ∀ x, foldedSetIterable iter X.env x = pure x)
    (h : WI X tg iter ρ M fun xs stays M1 => ∃ zs, LcBodyG X scope elt t (wipe2 ρ (own.map (·.2))) M1 xs stays zs ∧ ∀ Dd M', M1 Dd = none → M' Dd = some (.lst zs) → Ext M1 M' → Q (.obj Dd) M') (hh : sc.hot = false := by first | k_dflt rfl | assumption) : WE X (.ListComp elt [{ target := tg, iter := iter, ifs := [], is_async := 0 }] scope pos) ρ M Q :=
  we_lc C hb ho ht hf fun σ H r => cI_mono (fun J H1 ⟨xs, stays, M1, a, b, c, zs, d, e⟩ => ⟨xs, stays, M1, a, b, c, lc_grow d e⟩) (h σ H r)
theorem we_lcH {α : Type} (C : Cxt X N sc P w K mg base k0) {tg iter elt c : Expr} {scope : Scope} {pos : Pos} {t : Tgt} {own : List (Str × Nat)} {Q : QE} (hb : blkB N sc.f scope own = true) (ho : ∀ i ∈ slT t, i ∈ own.map (·.2)) (ht : ∀ X', Blk X scope X' → PT2 X' tg t) (hf : ∀ x, foldedSetIterable iter X.env x = pure x)
    (h : WI X tg iter ρ M fun xs stays M1 => ∃ (ys : List α) (e : α → D) (p : α → Bool) (g : α → D), LcBodyH X scope elt c t (wipe2 ρ (own.map (·.2))) M1 xs stays ys e p g ∧ ∀ Dd M', M1 Dd = none → M' Dd = some (.lst ((ys.filter p).map g)) → Ext M1 M' → Q (.obj Dd) M') (hh : sc.hot = false := by first | k_dflt rfl | assumption) : WE X (.ListComp elt [{ target := tg, iter := iter, ifs := [c], is_async := 0 }] scope pos) ρ M Q :=
  we_lc C hb ho ht hf fun σ H r => cI_mono (fun J H1 ⟨xs, stays, M1, a, b, c, ys, e, p, g, d, q⟩ => ⟨xs, stays, M1, a, b, c, lc_growF d q⟩) (h σ H r)
theorem ws_setLcG (C : Cxt X N sc P w K mg base k0) {i : Nat} {y : Str} {py : Pos} {tg iter elt : Expr} {scope : Scope} {pos spos : Pos} {t : Tgt} {own : List (Str × Nat)} {E : Ends2} (nm : Nm N i y) (ly : y ∈ sc.c) (hl : (py.line == pos.line) = true) (ha : (scope.names.any fun (n, k) => n == y && (k == .local || k == .cell)) = false)
    (hb : blkB N sc.f scope own = true) (ho : ∀ i ∈ slT t, i ∈ own.map (·.2)) (ht : ∀ X', Blk X scope X' → PT2 X' tg t) (hf : ∀ x, foldedSetIterable iter X.env x = pure x)
    (h : WI X tg iter ρ M fun xs stays M1 => ∃ zs, LcBodyG X scope elt t (wipe2 ρ (own.map (·.2))) M1 xs stays zs ∧ ∀ Dd M', M1 Dd = none → M' Dd = some (.lst zs) → Ext M1 M' → ∃ ρ', Put N ρ y (.obj Dd) ρ' ∧ E.nx ρ' M') (hh : sc.hot = false := by first | k_dflt rfl | assumption) : WS X (.Assign [.Name y py] (.ListComp elt [{ target := tg, iter := iter, ifs := [], is_async := 0 }] scope pos) spos) E ρ M :=
  ws_setLc C nm ly hl ha hb ho ht hf fun σ H r => cI_mono (fun J H1 ⟨xs, stays, M1, a, b, c, zs, d, e⟩ => ⟨xs, stays, M1, a, b, c, lc_grow (R' := fun Dd M => ∃ ρ', Put N ρ y (.obj Dd) ρ' ∧ E.nx ρ' M) d e⟩) (h σ H r)
/-- .. with a test -/
theorem ws_setLcH {α : Type} (C : Cxt X N sc P w K mg base k0) {i : Nat} {y : Str} {py : Pos} {tg iter elt c : Expr} {scope : Scope} {pos spos : Pos} {t : Tgt} {own : List (Str × Nat)} {E : Ends2} (nm : Nm N i y) (ly : y ∈ sc.c) (hl : (py.line == pos.line) = true) (ha : (scope.names.any fun (n, k) => n == y && (k == .local || k == .cell)) = false)
    (hb : blkB N sc.f scope own = true) (ho : ∀ i ∈ slT t, i ∈ own.map (·.2)) (ht : ∀ X', Blk X scope X' → PT2 X' tg t) (hf : ∀ x, foldedSetIterable iter X.env x = pure x)
    (h : WI X tg iter ρ M fun xs stays M1 => ∃ (ys : List α) (e : α → D) (p : α → Bool) (g : α → D), LcBodyH X scope elt c t (wipe2 ρ (own.map (·.2))) M1 xs stays ys e p g ∧ ∀ Dd M', M1 Dd = none → M' Dd = some (.lst ((ys.filter p).map g)) → Ext M1 M' → ∃ ρ', Put N ρ y (.obj Dd) ρ' ∧ E.nx ρ' M') (hh : sc.hot = false := by first | k_dflt rfl | assumption) : WS X (.Assign [.Name y py] (.ListComp elt [{ target := tg, iter := iter, ifs := [c], is_async := 0 }] scope pos) spos) E ρ M :=
  ws_setLc C nm ly hl ha hb ho ht hf fun σ H r => cI_mono (fun J H1 ⟨xs, stays, M1, a, b, c, ys, e, p, g, d, q⟩ => ⟨xs, stays, M1, a, b, c, lc_growF (R' := fun Dd M => ∃ ρ', Put N ρ y (.obj Dd) ρ' ∧ E.nx ρ' M) d q⟩) (h σ H r)
end
end Y

set_option Elab.async false
set_option linter.all false
set_option autoImplicit false
set_option maxRecDepth 100000
set_option maxHeartbeats 4000000
/-! the end of a law -/
namespace Y
open PySem PySem.Spec PyProof.Rows L2
/-- what a law's def promises: it gives True of every list of at most n ints -/
def spLaw (n : Nat) : Sp2 := fun ds M Q _ => ∃ ns : List Int, ds = [.ro (ns.map D.int)] ∧ ns.length ≤ n ∧ (∀ a, M a = none) ∧ ∀ M', Q (.bl true) M'
section
variable {P : Program} {w : World} {K : PySem.W.Frag} {mg mb : Str → Option Value} {k n : Nat} {fa a : Addr} {fd : FuncData} {x : Str} {s₁ : Shared} {vs : List Value} {ns : List Int}
/-- from an abstract heap H that tracks the script alone, or nothing -/
theorem law_from (KX : K.In s₁.heap) (hns : s₁.heap.Ns mainGlobals mg) (hb : s₁.heap.Ns builtinsNs mb) (hbb : ∀ x : Str, x ≠ "__name__" → mb x = bootBuiltins x) (hlim : s₁.heap.NoLimit) (hg : s₁.gens = #[])
    (ha : s₁.heap.get? a = some { cls := .type "list", data := .seq vs.toArray }) (hl : ns.length ≤ n) (hr : Room k callerA)
    (F : ∀ base : Heap, K.In base → base.Ns mainGlobals mg → Fn2 P w K mg base k fa fd [x] (spLaw n)) (hbind : ∀ (s : Shared) (u : Value), BindsTo s fd ⟨[u], []⟩ [(x, u)])
    (H : Hp) (hO : ∀ b u, H b = some u → b = a ∧ K.lookup a = none ∧ ∃ o xs, u = .frz o (.lst xs)) (hS : SqF K H a (ns.map V.int)) (hok : HOk P w H s₁.heap) :
    codeAny (model P w) callerA (.call (.ref fa) ⟨[.ref a], []⟩) (fun r s' => r = .ok (.ret (.bool true)) ∧ OldK s₁.heap s'.heap ∧ s'.os = s₁.os ∧ AllBare s'.gens) s₁ := by
  have off : ∀ {b : Addr}, b ≠ a → H b = none := fun {b} hb => by
    cases q : H b with
    | none => rfl
    | some u => exact absurd (hO b u q).1 hb
  have nsK : ∀ {b : Addr} {m : Str → Option Value}, s₁.heap.Ns b m → (hidT s₁.heap H).Ns b m := by
    rintro b m ⟨o, es, ep, e, d, r⟩
    refine ⟨o, es, ep, hidT_get e (off ?_), d, r⟩
    rintro rfl
    rw [ha] at e
    cases e
    cases d
  have hKb : K.In (hidT s₁.heap H) := fun b o e => hidT_get (KX b o e) (by
    cases q : H b with
    | none => rfl
    | some u =>
      obtain ⟨rfl, kn, _⟩ := hO b u q
      rw [kn] at e
      cases e)
  obtain ⟨mc, l1, l2⟩ := hlim
  have hM : Mod K mg (hidT s₁.heap H) := { kin := hKb, glob := nsK hns, blt := ⟨mb, nsK hb, hbb⟩, nolimit := ⟨mc, nsK l1, l2⟩ }
  have e0 : Env0 P w K mg (hidT s₁.heap H) callerA [] s₁ H := { frames := rfl, mod := hM, bs := fun b o e => of_hidT e, bsz := Nat.le_of_eq (hidT_size _ _), funs := trivial, frf := fun b hb => (nomatch hb), hok := hok, bare := .of_eq hg }
  have run := (F _ hKb (nsK hns)).run callerA [] s₁ H ⟨[.ref a], []⟩ [.ref a] [.ref a] [.ro (ns.map D.int)] (fun _ => none) (fun d _ => d = .bl true) (fun _ _ _ _ => False) hr rfl e0 (hbind s₁ (.ref a)) (.cons rfl .nil)
    (DenL.cons (den_ro.mpr ⟨a, _, rfl, hS, DenL.of_ints ns⟩) DenL.nil) (fun _ _ e => (nomatch e)) ⟨ns, rfl, hl, fun _ => rfl, fun _ => rfl⟩
  refine codeAny_mono run ?_
  rintro (e | fl) s' h
  · exact (cx_no h).elim
  · cases fl with
    | next => exact h.elim
    | brk => exact h.elim
    | cont => exact h.elim
    | ret u =>
      obtain ⟨v, H', os, bare, un, hok', r', d, M', dn, _, _, rfl⟩ := h
      rw [den_bl.mp dn] at r'
      obtain rfl : u = Value.bool true := r'
      refine ⟨rfl, OldK.of_keep fun b o e => ?_, os, bare⟩
      cases q : H b with
      | none => exact un.keep b o e q (fun z => (nomatch z)) (fun z => (nomatch z))
      | some t =>
        obtain ⟨_, _, ob, xs, rfl⟩ := hO b t q
        obtain ⟨e1, _⟩ := hok b _ q
        obtain ⟨e2, _⟩ := hok' b _ (un.frzs b ob _ q)
        rw [e1] at e
        cases e
        exact e2
theorem law_run (KX : K.In s₁.heap) (hns : s₁.heap.Ns mainGlobals mg) (hb : s₁.heap.Ns builtinsNs mb) (hbb : ∀ x : Str, x ≠ "__name__" → mb x = bootBuiltins x) (hlim : s₁.heap.NoLimit) (hg : s₁.gens = #[])
    (ha : s₁.heap.get? a = some { cls := .type "list", data := .seq vs.toArray }) (hi : IntsAre vs ns) (hl : ns.length ≤ n) (hn : n ≤ sizeLine) (hr : Room k callerA)
    (F : ∀ base : Heap, K.In base → base.Ns mainGlobals mg → Fn2 P w K mg base k fa fd [x] (spLaw n)) (hbind : ∀ (s : Shared) (u : Value), BindsTo s fd ⟨[u], []⟩ [(x, u)]) :
    codeAny (model P w) callerA (.call (.ref fa) ⟨[.ref a], []⟩) (fun r s' => r = .ok (.ret (.bool true)) ∧ OldK s₁.heap s'.heap ∧ s'.os = s₁.os ∧ AllBare s'.gens) s₁ := by
  have rv := vals_ints hi
  have hz := hi.length
  have go := law_from KX hns hb hbb hlim hg ha hl hr F hbind
  cases hk : K.lookup a with
  | some o =>
    have e := KX a o hk
    rw [ha] at e
    cases e
    exact go (fun _ => none) (fun b u e => (nomatch e)) (.inr ⟨_, vs.toArray, _, hk, rfl, rfl, rfl, by rw [List.size_toArray, hz]; omega, by simpa using rv⟩) (fun b u e => (nomatch e))
  | none =>
    refine go (fun b => if b = a then some (.frz { cls := .type "list", data := .seq vs.toArray } (.lst (ns.map V.int))) else none) (fun b u e => ?_) (.inl ⟨_, if_pos rfl⟩) (fun b u e => ?_)
    all_goals
      by_cases c : b = a
      · subst c
        cases (if_pos rfl).symm.trans e
        first
          | exact ⟨rfl, hk, _, _, rfl⟩
          | exact ⟨ha, by rw [List.length_map]; omega, vs, _, rv, ha⟩
      · exact absurd ((if_neg c).symm.trans e) (by simp)
end
/-- the goal that k_head leaves -/
theorem walk2 {l : PySem.W.OpenLaw} {n k : Nat} {q : Program} {loose : List Str} {XP : (Str → Option Value) → Heap → Prop} {YP : World → Heap → Prop} {d : DefRec} {K : Params → PySem.W.Frag} {x : Str}
    (hn : l.most = some n) (hn2 : n ≤ sizeLine) (hdf : d.params.defaults = []) (hr : Room k callerA) (hY : ∀ (w : World) (h : Heap), YP w h → (K w.params).In h)
    (F : ∀ (w : World) (mg : Str → Option Value) (fa : Addr) (h : Heap), (K w.params).In h → h.Ns mainGlobals mg → mg d.name = some (.ref fa) →
      ∃ fd : FuncData, (∀ (s : Shared) (u : Value), BindsTo s fd ⟨[u], []⟩ [(x, u)]) ∧ ∀ base : Heap, (K w.params).In base → base.Ns mainGlobals mg → Fn2 l.prog w (K w.params) mg base k fa fd [x] (spLaw n)) :
    PySem.W.WalkO q loose XP YP l.row.toRowW d [] (fun f vs => PySem.call f vs) := by
  refine Att.attach_call hn hdf ?_
  intro w s₀ s₁ mg mb fa o pm cd doc a vs ns G Y ho hd hcd hmg hobj hints hlen hg
  have KX := hY w _ Y
  obtain ⟨fd, hb, hF⟩ := F w mg fa _ KX G.T.g hmg
  exact law_run KX G.T.g G.T.b G.T.builtins G.T.nolimit hg hobj hints hlen hn2 hr hF hb
end Y

set_option Elab.async false
set_option linter.all false
set_option autoImplicit false
set_option maxRecDepth 100000
set_option maxHeartbeats 4000000
namespace Y
open PySem PySem.Spec PyProof.Rows L2

/-! ### repr of nested data -/
/-- a key, as Python's datum -/
def keyP : Key → PyData
  | .inl i => .int i
  | .inr x => .str x
mutual
inductive RdV (K : PySem.W.Frag) (H : Hp) : V → PyData → Prop
  | non : RdV K H .non .none
  | bl (b : Bool) : RdV K H (.bl b) (.bool b)
  | int (i : Int) : RdV K H (.int i) (.int i)
  | str (x : Str) : RdV K H (.str x) (.str x)
  | lst {a : Addr} {xs : List V} {ps : List PyData} : SqL K H a xs → RdVs K H xs ps → RdV K H (.ref a) (.list ps)
  | tup {a : Addr} {xs : List V} {ps : List PyData} : SqT K H a xs → RdVs K H xs ps → RdV K H (.ref a) (.tuple ps)
  | dk {a : Addr} {kvs : List (Key × V)} {ps : List PyData} : H a = some (.dK kvs) → RdVs K H (kvs.map (·.2)) ps → RdV K H (.ref a) (.dict ((kvs.map fun kv => keyP kv.1).zip ps))
inductive RdVs (K : PySem.W.Frag) (H : Hp) : List V → List PyData → Prop
  | nil : RdVs K H [] []
  | cons {v : V} {vs : List V} {p : PyData} {ps : List PyData} : RdV K H v p → RdVs K H vs ps → RdVs K H (v :: vs) (p :: ps)
end
theorem RdVs.len {K : PySem.W.Frag} {H : Hp} : ∀ {vs : List V} {ps : List PyData}, RdVs K H vs ps → ps.length = vs.length
  | _, _, .nil => rfl
  | _, _, .cons _ b => by rw [List.length_cons, List.length_cons, b.len]
theorem kv_rel : ∀ {kvs : List (Key × V)} {vs : List (Key × Value)}, KV kvs vs → kvs.map (·.1) = vs.map (·.1) ∧ Vals (kvs.map (·.2)) (vs.map (·.2))
  | _, _, .nil => ⟨rfl, .nil⟩
  | _, _, .cons a b => by
    obtain ⟨h1, h2⟩ := kv_rel b
    exact ⟨by simp only [List.map_cons, a.1, h1], .cons a.2 h2⟩
/-- keys, as they stand in a dict -/
theorem keys_show {P : Program} {w : World} {h : Heap} : ∀ {es : List DictEntry} {vs : List (Key × Value)}, Pairs (mixKind P w) es vs → PyData.showableAll (vs.map fun kv => keyP kv.1) = true → (∀ t ∈ PyData.shownAll (vs.map fun kv => keyP kv.1), t.length ≤ sizeLine) →
    es.map (·.val) = vs.map (·.2) ∧ ReadsAll h (es.map (·.key)) (vs.map fun kv => keyP kv.1) [] ∧ ReprAllK P w [] h (PyData.depthAll (vs.map fun kv => keyP kv.1)) (es.map (·.key)) (PyData.shownAll (vs.map fun kv => keyP kv.1))
  | _, _, .nil, _, _ => ⟨rfl, .nil, .nil⟩
  | _, _, .cons (e := e) (kv := kv) k v r, hs, hz => by
    simp only [List.map_cons, PyData.showableAll, Bool.and_eq_true] at hs
    simp only [List.map_cons, PyData.shownAll, List.mem_cons, forall_eq_or_imp] at hz
    obtain ⟨h1, h2, h3⟩ := keys_show (h := h) r hs.2 hz.2
    obtain ⟨kk, kvv⟩ := kv
    have dp : ∀ kk : Key, (keyP kk).depth = 0 := fun kk => by cases kk <;> simp [keyP, PyData.depth]
    simp only [List.map_cons, PyData.depthAll, PyData.shownAll, dp, Nat.zero_max]
    refine ⟨by rw [v, h1], ?_, .cons ?_ h3⟩
    · rcases keyIs_shape k with ⟨i, t, e1, e2⟩ | ⟨x, t, e1, e2⟩
      · simp only at e1; subst e1; rw [e2]; exact .cons (as := []) (.int i t) h2
      · simp only at e1; subst e1; rw [e2]; exact .cons (as := []) (.str x t) h2
    · rcases keyIs_shape k with ⟨i, t, e1, e2⟩ | ⟨x, t, e1, e2⟩
      · simp only at e1; subst e1; rw [e2]
        simp only [keyP, PyData.shown]
        exact .of_is (ReprIs.int t (by simpa [keyP, PyData.showable] using hs.1)) _ _ _
      · simp only at e1; subst e1; rw [e2]
        simp only [keyP, PyData.shown]
        exact .of_is (ReprIs.str x t (by simpa only [keyP, PyData.shown] using hz.1)) _ _ _
def Shw (P : Program) (w : World) (h : Heap) (u : Value) (p : PyData) : Prop := ∃ as bs, Reads h u p as ∧ ReadAtMost h p.depth bs ∧ ReprK P w bs h p.depth u p.shown ∧ ∀ a, u = .ref a → ∃ T idr, ShowsBy P w h a p T idr
def Shws (P : Program) (w : World) (h : Heap) (us : List Value) (ps : List PyData) : Prop := ∃ as bs, ReadsAll h us ps as ∧ ReadAtMost h (PyData.depthAll ps) bs ∧ ReprAllK P w bs h (PyData.depthAll ps) us (PyData.shownAll ps)
theorem shw_list {P : Program} {w : World} {h : Heap} {a : Addr} {o : Obj} {us : List Value} {n : Nat} {ps : List PyData} (h1 : h.get? a = some o) (h2 : o.cls = .type "list") (h3 : o.data = .seq us.toArray n) (hz : (listText (PyData.shownAll ps)).length ≤ sizeLine) (k : Shws P w h us ps) : Shw P w h (.ref a) (.list ps) := by
  obtain ⟨as, bs, ra, hb, hk⟩ := k
  have r : Reads h (.ref a) (.list ps) _ := .list h1 h2 h3 ra
  have hna : a ∉ bs := not_mem_of_deeper r (by simp only [PyData.depth]; omega) hb
  refine ⟨_, a :: bs, r, ReadAtMost.cons r (by simp only [PyData.depth]; omega) hb, ?_, fun a' ea => ?_⟩
  · simp only [PyData.depth, PyData.shown]
    cases us with
    | nil => cases ra; simp only [PyData.shownAll, listText_nil]; exact ReprK.listEmpty h1 h2 h3
    | cons x l => exact ReprK.list h1 h2 h3 hna (by simpa using hk.length_eq) (fun i y e => hk.item i y (by simpa using e))
  · cases ea
    refine ⟨"list", "list.__repr__", F.slot_list_repr.toG, F.slot_list_str, F.slot_list_format, fun s hk0 => ⟨o, hk0 _ _ h1, h2⟩, fun A E s Q hg hu hk0 hQ => ?_⟩
    simp only [PyData.depth] at hu
    simp only [PyData.shown] at hQ
    cases us with
    | nil =>
      cases ra
      simp only [PyData.shownAll, listText_nil] at hQ
      exact call_list_repr_empty ⟨o, hk0 _ _ h1, h2⟩ (hk0 _ _ h1) h3 (hQ s.heap _ _ fun _ _ e => e)
    | cons x l => exact call_list_reprK h1 h2 h3 hna (by simpa using hk.length_eq) (fun i y e => hk.item i y (by simpa using e)) hg (fun b _ => Clear.nil b) hu hk0 hQ hz
theorem shw_tuple {P : Program} {w : World} {h : Heap} {a : Addr} {o : Obj} {us : List Value} {n : Nat} {ps : List PyData} (h1 : h.get? a = some o) (h2 : o.cls = .type "tuple") (h3 : o.data = .seq us.toArray n) (hz : (tupleText (PyData.shownAll ps)).length ≤ sizeLine) (k : Shws P w h us ps) : Shw P w h (.ref a) (.tuple ps) := by
  obtain ⟨as, bs, ra, hb, hk⟩ := k
  have r : Reads h (.ref a) (.tuple ps) _ := .tuple h1 h2 h3 ra
  have hna : a ∉ bs := not_mem_of_deeper r (by simp only [PyData.depth]; omega) hb
  refine ⟨_, a :: bs, r, ReadAtMost.cons r (by simp only [PyData.depth]; omega) hb, ?_, fun a' ea => ?_⟩
  · simp only [PyData.depth, PyData.shown]
    exact ReprK.tuple h1 h2 h3 hna hk
  · cases ea
    refine ⟨"tuple", "tuple.__repr__", F.slot_tuple_repr, F.slot_tuple_str, F.slot_tuple_format, fun s hk0 => ⟨o, hk0 _ _ h1, h2⟩, fun A E s Q hg hu hk0 hQ => ?_⟩
    simp only [PyData.depth] at hu
    simp only [PyData.shown] at hQ
    exact call_tuple_reprK h1 h2 h3 hna hk hg (fun b _ => Clear.nil b) hu hk0 hQ hz
theorem zip_fst {α β : Type} : ∀ {l : List α} {m : List β}, l.length = m.length → (l.zip m).map (·.1) = l
  | [], [], _ => rfl
  | a :: l, b :: m, h => by simp only [List.zip_cons_cons, List.map_cons, zip_fst (Nat.succ.inj h)]
theorem zip_snd {α β : Type} : ∀ {l : List α} {m : List β}, l.length = m.length → (l.zip m).map (·.2) = m
  | [], [], _ => rfl
  | a :: l, b :: m, h => by simp only [List.zip_cons_cons, List.map_cons, zip_snd (Nat.succ.inj h)]
theorem shw_dict {P : Program} {w : World} {h : Heap} {a : Addr} {vs : List (Key × Value)} {ps : List PyData} (d : h.DictOf (mixKind P w) a vs) (hsys : (a == sysModules) = false) (hl : ps.length = vs.length) (hz : (dictText (PyData.shownKv ((vs.map fun kv => keyP kv.1).zip ps))).length ≤ sizeLine)
    (hs : PyData.showableAll (vs.map fun kv => keyP kv.1) = true) (k : Shws P w h (vs.map (·.2)) ps) : Shw P w h (.ref a) (.dict ((vs.map fun kv => keyP kv.1).zip ps)) := by
  obtain ⟨as, bs, ra, hb2, k2⟩ := k
  obtain ⟨o, es, ep, h1, hx, h3, _, hp, _⟩ := d
  have h2 : o.cls = .type "dict" := hx.1
  have hle : (vs.map fun kv => keyP kv.1).length = ps.length := by rw [List.length_map, hl]
  have e1 := zip_fst hle
  have e2 := zip_snd hle
  obtain ⟨q1, q2, k1⟩ := keys_show (h := h) hp hs (fun t ht => by
    obtain ⟨p, hp, hl⟩ := PyData.shownKv_key_le ((vs.map fun kv => keyP kv.1).zip ps) t (by rw [e1]; exact ht)
    exact Nat.le_trans hl (Nat.le_trans (dictText_mem_le hp) hz))
  have r : Reads h (.ref a) (.dict ((vs.map fun kv => keyP kv.1).zip ps)) _ := .dict h1 h2 h3 (by rw [e1]; exact q2) (by rw [e2, q1]; exact ra)
  have hb : ReadAtMost h (PyData.depthKv ((vs.map fun kv => keyP kv.1).zip ps)) bs := hb2.mono (by have := PyData.depthAll_vals_le ((vs.map fun kv => keyP kv.1).zip ps); rw [e2] at this; exact this)
  have hna : a ∉ bs := not_mem_of_deeper r (by simp only [PyData.depth]; omega) hb
  have en : ReprEntriesK P w bs h (PyData.depthKv ((vs.map fun kv => keyP kv.1).zip ps)) es.toList (List.zipWith (fun k v : Str => k ++ ": " ++ v) (PyData.shownAll (vs.map fun kv => keyP kv.1)) (PyData.shownAll ps)) :=
    ReprEntriesK.of_two es.toList _ _ (k1.more_le (as := []) (as' := bs) (fun b hb => absurd hb List.not_mem_nil) (by have := PyData.depthAll_keys_le ((vs.map fun kv => keyP kv.1).zip ps); rw [e1] at this; exact this))
      (by rw [q1]; exact k2.more_le (fun b hb => hb) (by have := PyData.depthAll_vals_le ((vs.map fun kv => keyP kv.1).zip ps); rw [e2] at this; exact this))
  have et : PyData.shownKv ((vs.map fun kv => keyP kv.1).zip ps) = List.zipWith (fun k v : Str => k ++ ": " ++ v) (PyData.shownAll (vs.map fun kv => keyP kv.1)) (PyData.shownAll ps) := by rw [PyData.shownKv_eq, e1, e2]
  refine ⟨_, a :: bs, r, ReadAtMost.cons r (by simp only [PyData.depth]; omega) hb, ?_, fun a' ea => ?_⟩
  · simp only [PyData.depth, PyData.shown]
    rw [et]
    exact ReprK.dict h1 h2 h3 hsys hna en
  · cases ea
    refine ⟨"dict", "dict.__repr__", F.slot_dict_repr, F.slot_dict_str, F.slot_dict_format, fun s hk0 => ⟨o, hk0 _ _ h1, h2⟩, fun A E s Q hg hu hk0 hQ => ?_⟩
    simp only [PyData.depth] at hu
    simp only [PyData.shown] at hQ
    rw [et] at hQ hz
    exact call_dict_reprK h1 h2 h3 hsys hna en hg (fun b _ => Clear.nil b) hu hk0 hQ hz
mutual
theorem rdv_show {X : Cx} {pins : List (Addr × Obj)} {σ : L2.St} {H : Hp} {s : Shared} (I : Inv X pins σ H s) : ∀ {v : V} {p : PyData} {u : Value}, RdV X.K H v p → RelV v u → p.showable = true → p.shown.length ≤ sizeLine → Shw X.prog X.w s.heap u p
  | _, _, u, .non, r, _, _ => by cases r; exact ⟨_, [], .none, (fun _ h => nomatch h), by simp only [PyData.shown]; exact .of_is ReprIs.none _ _ _, fun a e => nomatch e⟩
  | _, _, u, .bl b, r, _, _ => by cases r; exact ⟨_, [], .bool b, (fun _ h => nomatch h), by simp only [PyData.shown]; exact .of_is (ReprIs.bool b) _ _ _, fun a e => nomatch e⟩
  | _, _, u, .int i, r, hs, _ => by obtain ⟨t, rfl⟩ := r; exact ⟨_, [], .int i t, (fun _ h => nomatch h), by simp only [PyData.shown]; exact .of_is (ReprIs.int t (by simpa [PyData.showable] using hs)) _ _ _, fun a e => nomatch e⟩
  | _, _, u, .str x, r, _, hz => by obtain ⟨t, rfl⟩ := r; exact ⟨_, [], .str x t, (fun _ h => nomatch h), by simp only [PyData.shown]; exact .of_is (ReprIs.str x t (by simpa only [PyData.shown] using hz)) _ _ _, fun a e => nomatch e⟩
  | _, _, u, .lst (ps := ps) h k, r, hs, hz => by
    cases r
    obtain ⟨its, rv, pl, _⟩ := I.list h
    obtain ⟨o, ho, hc, n, hd⟩ := pl.isList
    have hz' : (listText (PyData.shownAll ps)).length ≤ sizeLine := by simpa only [PyData.shown] using hz
    exact shw_list ho hc hd hz' (rdvs_show I k rv (by simpa [PyData.showable] using hs) fun t ht => Nat.le_trans (listText_mem_le ht) hz')
  | _, _, u, .tup (ps := ps) h k, r, hs, hz => by
    cases r
    obtain ⟨its, rv, pl, _⟩ := I.tuple h
    obtain ⟨o, ho, hc, n, hd⟩ := pl
    have hz' : (tupleText (PyData.shownAll ps)).length ≤ sizeLine := by simpa only [PyData.shown] using hz
    exact shw_tuple ho hc hd hz' (rdvs_show I k rv (by simpa [PyData.showable] using hs) fun t ht => Nat.le_trans (tupleText_mem_le ht) hz')
  | _, _, u, .dk (kvs := kvs) (ps := ps) h k, r, hs, hz => by
    cases r
    obtain ⟨_, hsys, vs, kv, dd⟩ := dk_of I.hok h
    obtain ⟨e1, rv⟩ := kv_rel kv
    have e1' : kvs.map (fun kv => keyP kv.1) = vs.map fun kv => keyP kv.1 := by
      have := congrArg (List.map keyP) e1
      rw [List.map_map, List.map_map] at this
      exact this
    have hl : ps.length = vs.length := by rw [k.len, List.length_map]; have := congrArg List.length e1; simpa using this
    have hle : (vs.map fun kv => keyP kv.1).length = ps.length := by rw [List.length_map, hl]
    rw [e1'] at hs hz ⊢
    have hz' : (dictText (PyData.shownKv ((vs.map fun kv => keyP kv.1).zip ps))).length ≤ sizeLine := by simpa only [PyData.shown] using hz
    obtain ⟨s1, s2⟩ := PyData.showableKv_split _ (show PyData.showableKv ((vs.map fun kv => keyP kv.1).zip ps) = true by simpa [PyData.showable] using hs)
    rw [zip_fst hle] at s1
    rw [zip_snd hle] at s2
    exact shw_dict dd hsys hl hz' s1 (rdvs_show I k rv s2 fun t ht => by
      obtain ⟨p, hp, hl⟩ := PyData.shownKv_val_le ((vs.map fun kv => keyP kv.1).zip ps) t (by rw [zip_snd hle]; exact ht)
      exact Nat.le_trans hl (Nat.le_trans (dictText_mem_le hp) hz'))
theorem rdvs_show {X : Cx} {pins : List (Addr × Obj)} {σ : L2.St} {H : Hp} {s : Shared} (I : Inv X pins σ H s) : ∀ {vs : List V} {ps : List PyData} {us : List Value}, RdVs X.K H vs ps → Vals vs us → PyData.showableAll ps = true → (∀ t ∈ PyData.shownAll ps, t.length ≤ sizeLine) → Shws X.prog X.w s.heap us ps
  | _, _, us, .nil, r, _, _ => by cases r; exact ⟨_, [], .nil, (fun _ h => nomatch h), by simp only [PyData.shownAll]; exact .nil⟩
  | _, _, us, .cons (p := d) (ps := ds) a b, r, hs, hz => by
    cases r with
    | cons r1 r2 =>
      have hs' : d.showable = true ∧ PyData.showableAll ds = true := by simpa [PyData.showableAll] using hs
      obtain ⟨as, b1, x, hb1, k1, _⟩ := rdv_show I a r1 hs'.1 (hz _ (by simp only [PyData.shownAll]; exact List.mem_cons_self ..))
      obtain ⟨cs, b2, y, hb2, k2⟩ := rdvs_show I b r2 hs'.2 (fun t ht => hz t (by simp only [PyData.shownAll]; exact List.mem_cons_of_mem _ ht))
      refine ⟨_, b1 ++ b2, .cons x y, (hb1.mono ?_).append (hb2.mono ?_), ?_⟩
      · simp only [PyData.depthAll]; exact Nat.le_max_left _ _
      · simp only [PyData.depthAll]; exact Nat.le_max_right _ _
      · simp only [PyData.depthAll, PyData.shownAll]
        exact .cons ((k1.more fun b hb => List.mem_append_left _ hb).level_le (Nat.le_max_left _ _)) (k2.more_le (fun b hb => List.mem_append_right _ hb) (Nat.le_max_right _ _))
end
def rRepr (K : PySem.W.Frag) : List V → Hp → VK → Prop := fun vs H Q => ∃ (v : V) (p : PyData), vs = [v] ∧ RdV K H v p ∧ p.showable = true ∧ p.depth ≤ 60 ∧ p.shown.length ≤ sizeLine ∧ Q (.str p.shown) H
theorem cr_repr {X : Cx} {k : Nat} (hr : Room k X.A) (hg : X.A.guards = some []) : CallR X (.builtin "repr") (rRepr X.K) := by
  rintro pins s σ H vs us Q I r ⟨v, p, rfl, hv, h1, h3, h4, q⟩
  obtain ⟨u, rfl, ru⟩ := vals1 r
  have hu := hr.units
  have fin : ∀ h' t tk, (∀ b o, s.heap.get? b = some o → h'.get? b = some o) → EP X pins σ Q (.str p.shown t) { s with heap := h', toks := tk } := fun h' t tk hk => ⟨.str p.shown, H, I.kept hk, ⟨t, rfl⟩, q⟩
  obtain ⟨as, bs, rd, hb, rk, top⟩ := rdv_show I hv ru h1 h4
  have big : ∀ a, u = .ref a → wpAny (model X.prog X.w) X.A (call (.builtin "repr") [u]) (EP X pins σ Q) X.xe s := fun a ea => by
    obtain ⟨T, idr, S⟩ := top a ea
    subst ea
    exact call_repr_slot (by omega) (S.typeIs s fun _ _ e => e) S.slotRepr (S.call X.A.in1 X.xe s _ hg (by show X.A.units + 1 + p.depth < cLine; omega) (fun _ _ e => e) fun h' u tk hk => ⟨_, _, rfl, fin h' u tk hk⟩)
  cases hv with
  | non => cases ru; exact PySem.P.repr_of_none (fin _ _ _ fun _ _ e => e)
  | bl b => cases ru; cases b <;> exact PySem.P.repr_of_bool (fin _ _ _ fun _ _ e => e)
  | int i =>
    obtain ⟨t, rfl⟩ := ru
    exact PySem.P.repr_of_int (by simpa [PyData.showable] using h1) (fin _ _ _ fun _ _ e => e)
  | str x =>
    obtain ⟨t, rfl⟩ := ru
    exact PySem.P.repr_of_str (fin _ _ _ fun _ _ e => e) h4
  | lst a b => cases ru; exact big _ rfl
  | tup a b => cases ru; exact big _ rfl
  | dk a b => cases ru; exact big _ rfl
mutual
/-- what a datum holds, all through -/
inductive PyR (M : Mem) : D → PyData → Prop
  | non : PyR M .non .none
  | bl (b : Bool) : PyR M (.bl b) (.bool b)
  | int (i : Int) : PyR M (.int i) (.int i)
  | str (x : Str) : PyR M (.str x) (.str x)
  | tup {ds : List D} {ps : List PyData} : PyRs M ds ps → PyR M (.tup ds) (.tuple ps)
  | obj {a : Addr} {ds : List D} {ps : List PyData} : M a = some (.lst ds) → PyRs M ds ps → PyR M (.obj a) (.list ps)
  | dk {a : Addr} {kvs : List (Key × D)} {ps : List PyData} : M a = some (.dk kvs) → PyRs M (kvs.map (·.2)) ps → PyR M (.obj a) (.dict ((kvs.map fun kv => keyP kv.1).zip ps))
inductive PyRs (M : Mem) : List D → List PyData → Prop
  | nil : PyRs M [] []
  | cons {d : D} {ds : List D} {p : PyData} {ps : List PyData} : PyR M d p → PyRs M ds ps → PyRs M (d :: ds) (p :: ps)
end
theorem KVs.split {K : PySem.W.Frag} {H : Hp} : ∀ {kvs : List (Key × D)} {vs : List (Key × V)}, KVs K H kvs vs → kvs.map (fun kv => keyP kv.1) = vs.map (fun kv => keyP kv.1) ∧ DenL K H (kvs.map (·.2)) (vs.map (·.2))
  | _, _, .nil => ⟨rfl, DenL.nil⟩
  | _, _, .cons a b => by
    obtain ⟨h1, h2⟩ := KVs.split b
    exact ⟨by simp only [List.map_cons, a.1, h1], DenL.cons a.2 h2⟩
mutual
theorem PyR.rdv {K : PySem.W.Frag} {H : Hp} {M : Mem} (r : Rep K H M) : ∀ {d : D} {v : V} {p : PyData}, PyR M d p → Den K H d v → RdV K H v p
  | _, v, _, .non, h => by rw [den_non.mp h]; exact .non
  | _, v, _, .bl b, h => by rw [den_bl.mp h]; exact .bl b
  | _, v, _, .int i, h => by rw [den_int.mp h]; exact .int i
  | _, v, _, .str x, h => by rw [den_str.mp h]; exact .str x
  | _, v, _, .tup l, h => by
    obtain ⟨a, xs, rfl, s, dl⟩ := den_tup.mp h
    exact .tup s (PyRs.rdvs r l dl)
  | _, v, _, .obj e l, h => by
    rw [den_obj.mp h]
    obtain ⟨xs, hx, dl⟩ := r.lst e
    exact .lst (.inl (.inl hx)) (PyRs.rdvs r l dl)
  | _, v, _, .dk e l, h => by
    rw [den_obj.mp h]
    obtain ⟨vs, hx, kv⟩ := r _ _ e
    obtain ⟨e1, dl⟩ := KVs.split kv
    rw [e1]
    exact .dk hx (PyRs.rdvs r l dl)
theorem PyRs.rdvs {K : PySem.W.Frag} {H : Hp} {M : Mem} (r : Rep K H M) : ∀ {ds : List D} {vs : List V} {ps : List PyData}, PyRs M ds ps → DenL K H ds vs → RdVs K H vs ps
  | _, vs, _, .nil, h => by rw [denL_nil.mp h]; exact .nil
  | _, vs, _, .cons a b, h => by
    obtain ⟨v, vr, rfl, h1, h2⟩ := denL_cons.mp h
    exact .cons (PyR.rdv r a h1) (PyRs.rdvs r b h2)
end
mutual
theorem PyR.ext {M M' : Mem} (x : Ext M M') : ∀ {d : D} {p : PyData}, PyR M d p → PyR M' d p
  | _, _, .non => .non
  | _, _, .bl b => .bl b
  | _, _, .int i => .int i
  | _, _, .str s => .str s
  | _, _, .tup l => .tup (PyRs.ext x l)
  | _, _, .obj e l => .obj (x _ _ e) (PyRs.ext x l)
  | _, _, .dk e l => .dk (x _ _ e) (PyRs.ext x l)
theorem PyRs.ext {M M' : Mem} (x : Ext M M') : ∀ {ds : List D} {ps : List PyData}, PyRs M ds ps → PyRs M' ds ps
  | _, _, .nil => .nil
  | _, _, .cons a b => .cons (PyR.ext x a) (PyRs.ext x b)
end
theorem DenL.reverse {K : PySem.W.Frag} {H : Hp} : ∀ {ds : List D} {vs : List V}, DenL K H ds vs → DenL K H ds.reverse vs.reverse
  | [], vs, h => by rw [denL_nil.mp h]; exact DenL.nil
  | d :: ds, vs, h => by
    obtain ⟨v, r, rfl, a, b⟩ := denL_cons.mp h
    rw [List.reverse_cons, List.reverse_cons]
    exact DenL.append (DenL.reverse b) (DenL.cons a DenL.nil)
theorem PyRs.len {M : Mem} : ∀ {ds : List D} {ps : List PyData}, PyRs M ds ps → ps.length = ds.length
  | _, _, .nil => rfl
  | _, _, .cons a b => by rw [List.length_cons, List.length_cons, b.len]
/-- how long its text is, how deep it is -/
structure Sz (L K : Nat) (p : PyData) : Prop where
  len : p.shown.length ≤ L
  sh : p.showable = true
  dp : p.depth ≤ K
theorem Sz.le {L K L' K' : Nat} {p : PyData} (h : Sz L K p) (a : L ≤ L') (b : K ≤ K') : Sz L' K' p := ⟨Nat.le_trans h.len a, h.sh, Nat.le_trans h.dp b⟩
theorem sz_int {i : Int} (h : i.natAbs.log2 < 1900) : Sz 1921 0 (.int i) := by
  have hl : i.natAbs.log2 < 1920 := by omega
  refine ⟨?_, by simpa [PyData.showable] using hl, by simp [PyData.depth]⟩
  have e := int_text_length_le (k := 1920) (by decide) hl
  have e2 : (PyData.shown (.int i)).length = (toString i).length := by
    simp only [PyData.shown]; exact PySem.ofString_length _
  omega
theorem sz_all {L K m : Nat} : ∀ {ps : List PyData}, (∀ p ∈ ps, Sz L K p) → ((PyData.shownAll ps).map (·.length)).sum ≤ ps.length * L ∧ PyData.showableAll ps = true ∧ PyData.depthAll ps ≤ K
  | [], _ => ⟨by simp [PyData.shownAll], by simp [PyData.showableAll], by simp [PyData.depthAll]⟩
  | p :: ps, h => by
    have a := h p (List.mem_cons_self ..)
    obtain ⟨b1, b2, b4⟩ := sz_all (m := m) fun q hq => h q (List.mem_cons_of_mem _ hq)
    refine ⟨?_, by simp [PyData.showableAll, a.sh, b2], by simp only [PyData.depthAll]; exact Nat.max_le.mpr ⟨a.dp, b4⟩⟩
    have := a.len
    simp only [PyData.shownAll, List.map_cons, List.sum_cons, List.length_cons, Nat.add_mul]
    omega
theorem sz_len : ∀ (ps : List PyData), (PyData.shownAll ps).length = ps.length
  | [] => rfl
  | p :: ps => by simp only [PyData.shownAll, List.length_cons, sz_len ps]
theorem sz_list {L K m : Nat} {ps : List PyData} (h : ∀ p ∈ ps, Sz L K p) (hm : ps.length ≤ m) : Sz (m * (L + 2) + 3) (K + 1) (.list ps) := by
  obtain ⟨b1, b2, b4⟩ := sz_all (m := m) h
  refine ⟨?_, by simpa [PyData.showable] using b2, by simp only [PyData.depth]; omega⟩
  have h2 := listText_len_le (PyData.shownAll ps)
  have e := Nat.mul_le_mul_right L hm
  rw [sz_len] at h2
  simp only [PyData.shown]
  rw [Nat.mul_add]
  omega
theorem sz_tuple {L K m : Nat} {ps : List PyData} (h : ∀ p ∈ ps, Sz L K p) (hm : ps.length ≤ m) : Sz (m * (L + 2) + 3) (K + 1) (.tuple ps) := by
  obtain ⟨b1, b2, b4⟩ := sz_all (m := m) h
  refine ⟨?_, by simpa [PyData.showable] using b2, by simp only [PyData.depth]; omega⟩
  have h2 := tupleText_len_le (PyData.shownAll ps)
  have e := Nat.mul_le_mul_right L hm
  rw [sz_len] at h2
  simp only [PyData.shown]
  rw [Nat.mul_add]
  omega
/-- what a datum holds, and its size -/
structure PyS (M : Mem) (L K : Nat) (d : D) (p : PyData) : Prop where
  r : PyR M d p
  z : Sz L K p
structure PySs (M : Mem) (L K : Nat) (ds : List D) (ps : List PyData) : Prop where
  r : PyRs M ds ps
  z : ∀ p ∈ ps, Sz L K p
section
variable {M : Mem} {L K L' K' : Nat} {d : D} {p : PyData} {ds : List D} {ps : List PyData}
theorem PyS.le (h : PyS M L K d p) (a : L ≤ L') (b : K ≤ K') : PyS M L' K' d p := ⟨h.r, h.z.le a b⟩
theorem PyS.ext {M' : Mem} (x : Ext M M') (h : PyS M L K d p) : PyS M' L K d p := ⟨h.r.ext x, h.z⟩
theorem pys_non : PyS M 4 0 .non .none := ⟨.non, ⟨by decide, rfl, Nat.le_refl _⟩⟩
theorem pys_bl {b : Bool} : PyS M 5 0 (.bl b) (.bool b) := ⟨.bl b, ⟨by cases b <;> decide, rfl, Nat.le_refl _⟩⟩
theorem pys_int {i : Int} (h : i.natAbs.log2 < 1900) : PyS M 1921 0 (.int i) (.int i) := ⟨.int i, sz_int h⟩
/-- an int of usual size -/
theorem pys_i {i : Int} (h1 : -1000000000000000000 < i) (h2 : i < 1000000000000000000) : PyS M 20 0 (.int i) (.int i) := by
  have hn : i.natAbs < 10 ^ 18 := by have e : (10 : Nat) ^ 18 = 1000000000000000000 := by decide
                                     omega
  have hl : i.natAbs.log2 < 1920 := by
    by_cases z : i.natAbs = 0
    · rw [z]; decide
    · have h60 : i.natAbs < 2 ^ 60 := by have e : (2 : Nat) ^ 60 = 1152921504606846976 := by decide
                                         omega
      have := (Nat.log2_lt z).mpr h60
      omega
  have e := int_text_length_le10 (k := 18) (by decide) hn
  have e2 : (PyData.shown (.int i)).length = (toString i).length := by
    simp only [PyData.shown]; exact PySem.ofString_length _
  exact ⟨.int i, ⟨by omega, by simpa [PyData.showable] using hl, by simp [PyData.depth]⟩⟩
theorem pys_str {x : Str} {n : Nat} (h : (reprText x).length ≤ n) : PyS M n 0 (.str x) (.str x) := ⟨.str x, ⟨h, rfl, Nat.le_refl _⟩⟩
theorem pys_tup {m : Nat} (h : PySs M L K ds ps) (hm : ds.length ≤ m) : PyS M (m * (L + 2) + 3) (K + 1) (.tup ds) (.tuple ps) := ⟨.tup h.r, sz_tuple h.z (by rw [h.r.len]; exact hm)⟩
theorem pys_lst {m : Nat} {a : Addr} (e : M a = some (.lst ds)) (h : PySs M L K ds ps) (hm : ds.length ≤ m) : PyS M (m * (L + 2) + 3) (K + 1) (.obj a) (.list ps) := ⟨.obj e h.r, sz_list h.z (by rw [h.r.len]; exact hm)⟩
theorem pys_dk {a : Addr} {kvs : List (Key × D)} (e : M a = some (.dk kvs)) (h : PyRs M (kvs.map (·.2)) ps) (z : Sz L K (.dict ((kvs.map fun kv => keyP kv.1).zip ps))) : PyS M L K (.obj a) (.dict ((kvs.map fun kv => keyP kv.1).zip ps)) := ⟨.dk e h, z⟩
theorem pys_nil : PySs M L K [] [] := ⟨.nil, fun _ h => (by cases h)⟩
theorem pys_cons (a : PyS M L' K' d p) (h1 : L' ≤ L) (h2 : K' ≤ K) (b : PySs M L K ds ps) : PySs M L K (d :: ds) (p :: ps) := ⟨.cons a.r b.r, fun q hq => by
  rcases List.mem_cons.mp hq with e | e
  · subst e; exact a.z.le h1 h2
  · exact b.z q e⟩
theorem pys_map {α : Type} {f : α → D} {g : α → PyData} : ∀ {xs : List α}, (∀ x ∈ xs, PyS M L K (f x) (g x)) → PySs M L K (xs.map f) (xs.map g)
  | [], _ => pys_nil
  | x :: xs, h => pys_cons (h x (List.mem_cons_self ..)) (Nat.le_refl _) (Nat.le_refl _) (pys_map fun y hy => h y (List.mem_cons_of_mem _ hy))
theorem pys_app {es : List D} {qs : List PyData} (a : PySs M L K ds ps) (b : PySs M L K es qs) : PySs M L K (ds ++ es) (ps ++ qs) := by
  obtain ⟨r, z⟩ := a
  induction ds generalizing ps with
  | nil => cases r; exact b
  | cons d ds ih =>
    cases r with
    | cons r1 r2 => exact ⟨.cons r1 (ih r2 fun q hq => z q (List.mem_cons_of_mem _ hq)).r, fun q hq => by
        rcases List.mem_append.mp hq with e | e
        · exact z q e
        · exact b.z q e⟩
end
/-! ### items of lists, for o[i] += e -/
def rGetL : V → V → Hp → VK → Prop := fun o i H Q => ∃ p xs k j v, o = .ref p ∧ i = .int k ∧ H p = some (.lst xs) ∧ ixN xs.length k = some j ∧ xs[j]? = some v ∧ Q v H
theorem get_list0 {X : Cx} : PGet X rGetL := by
  rintro pins s σ H o i ov iv Q I ro ri ⟨p, xs, k, j, v, rfl, rfl, hp, hj, hv, q⟩
  cases ro
  obtain ⟨t, rfl⟩ := ri
  obtain ⟨its, r, pl, hz⟩ := I.list (X := X) (.inl (.inl hp))
  have he : atI xs k = some v := by unfold atI; rw [hj]; exact hv
  obtain ⟨j, h1, h2, h3, h4, h5⟩ := atI_get he
  obtain ⟨w, ew, rw'⟩ := r.get h2
  have hl := r.length
  have hn := line63
  have fin : EP X pins σ Q w s := ⟨v, H, I, rw', q⟩
  by_cases h0 : 0 ≤ k
  · have hj : k.toNat = j := by
      rw [seqIndex_of h0 h5] at h1
      exact Option.some.inj h1
    exact PyProof.Rows.getItem_listL pl.isList h0 (by omega) (by rw [hj]; exact ew) fin
  · have hj : (k + (its.toArray.size : Int)).toNat = j := by
      rw [seqIndex_neg (by omega) h4] at h1
      rw [List.size_toArray, ← hl]
      exact Option.some.inj h1
    exact wpAny_getItem_list_neg pl.isList (by omega) (by rw [List.size_toArray] <;> omega) (by omega) (by rw [hj]; simpa using ew) fin
theorem min_intTup {prog : Program} {w : World} {A : Around} {E : Value → Shared → Prop} {s : Shared} {t : Addr} {xs : Array (Int × Tok)} {Q : Value → Shared → Prop} (hh : A.handled = none) (ht : s.heap.IsTuple t (intItems xs)) (hne : 0 < xs.size)
    (h : ∀ v h' tk, (intItems xs)[argBest (fun i j => decide (numAt xs i < numAt xs j)) (xs.size - 1)]? = some v → (∀ b o, s.heap.get? b = some o → h'.get? b = some o) → Q v { s with heap := h', toks := tk }) :
    wpAny (model prog w) A (call (.builtin "min") [.ref t]) Q E s := by
  obtain ⟨o, ho, hc, n, hd⟩ := id ht
  have hn : t ≠ s.heap.objs.size := Nat.ne_of_lt (Heap.lt_size ho)
  refine call_min_walk (wpAny_pyIter_tuple ht ?_)
  refine ⟨_, _, _, _, _, _, _, rfl, Walks.tuple (A := A.in1) hh s.heap.objs.size t hn (intItems xs), ⟨⟨_, Heap.get?_push_size _ rfl, rfl, rfl⟩, ht.at fun o e => Heap.get?_push_of_some _ e⟩, fun b hb => ?_, by simpa [intItems] using hne, CmpOf.ints_lt (numAt xs) (fun _ _ => intItems_at), fun v h' tk hP hk => ?_⟩
  · rcases List.mem_cons.mp hb with rfl | hb
    · exact Heap.lt_size (Heap.get?_push_size _ rfl)
    · obtain rfl := List.mem_singleton.mp hb
      exact Heap.lt_size (Heap.get?_push_of_some _ ho)
  · exact h v h' tk (by simpa [intItems] using hP) (fun b o e => hk b o (fun hb => absurd (Heap.lt_size e) ((List.mem_singleton.mp hb) ▸ Nat.lt_irrefl _)) (Heap.get?_push_of_some _ e))
def repr1 (ds : List D) (M : Mem) (Q : QE) : Prop := ∃ (d : D) (p : PyData) (L K : Nat), ds = [d] ∧ PyS M L K d p ∧ L ≤ sizeLine ∧ K ≤ 60 ∧ Q (.str p.shown) M
section
variable {X : Cx} {ρ : St2} {M : Mem} {N : List Str} {sc : Nms} {P : Program} {w : World} {K : PySem.W.Frag} {mg : Str → Option Value} {base : Heap} {k0 : Nat}
theorem cl_repr : CallL K (rRepr K) repr1 := by
  rintro ds vs H ρ σ M H0 Q dn r t ⟨d, p, L, k, rfl, h, h1, h2, q⟩
  obtain ⟨v, rfl, a⟩ := one_arg (ds := []) dn
  exact ⟨v, p, rfl, h.r.rdv r.rep a, h.z.sh, Nat.le_trans h.z.dp h2, Nat.le_trans h.z.len h1, _, M, den_str.mpr rfl, r, t, q⟩
theorem wc_repr (C : Cxt X N sc P w K mg base k0) {e : Expr} {p pos : Pos} {Q : QE} (hg : ("repr" : Str) ∈ sc.g) (hm : mg "repr" = none) (hs : starEach [e] X.env = [(false, eval e X.env)]) (h : WE X e ρ M fun d M1 => repr1 [d] M1 Q) (hh : sc.hot = false := by first | k_dflt rfl | assumption) : WE X (.Call (.Name "repr" p) [e] [] pos) ρ M Q := by
  obtain rfl := C.hK
  exact we_callB C (cr_repr (C.room hh) C.gd) cl_repr hg hm (by first | exact PySem.boot_repr | exact PyProof.Rows.bootS_repr) hs (fun _ => rfl) (wa_one hs h)
theorem q_repr {d : D} {p : PyData} {L k : Nat} {Q : QE} (h : PyS M L k d p) (h1 : L ≤ sizeLine) (h2 : k ≤ 60) (q : Q (.str p.shown) M) : repr1 [d] M Q := ⟨d, p, L, k, rfl, h, h1, h2, q⟩
/-! ### == of data -/
theorem q_eqD {g : Bool → Bool} {d1 d2 : D} {p q : PyData} {Q : QE} (h1 : datOf M d1 = some p) (h2 : datOf M d2 = some q) (s1 : SeqAt.shaped p = true) (s2 : SeqAt.shaped q = true) (k : Q (.bl (g (PyData.eqv p q))) M) : eq2 g d1 d2 M Q := .inr (.inl ⟨p, q, dtr_of h1, dtr_of h2, s1, s2, k⟩)
theorem q_eqSame {g : Bool → Bool} {d1 d2 : D} {p : PyData} {Q : QE} (h1 : datOf M d1 = some p) (h2 : datOf M d2 = some p) (s1 : SeqAt.shaped p = true) (k : Q (.bl (g true)) M) : eq2 g d1 d2 M Q := by
  refine q_eqD h1 h2 s1 s1 ?_
  rw [SeqAt.eqv_refl p (SeqAt.canLay_of_shaped s1)]
  exact k
/-! ### o[::-1] -/
theorem we_rev {e : Expr} {k : Nat} {p1 p2 p3 pos : Pos} {Q : QE} (h : WE X e ρ M fun d M1 => ∃ a ds, d = .obj a ∧ M1 a = some (.lst ds) ∧ ∀ p, M1 p = none → Q (.obj p) (mup M1 p (.lst ds.reverse))) : WE X (.Subscript e (.Slice none none (some (.UnaryOp .USub (.Constant (.int 1) k p1) p2)) p3) pos) ρ M Q := fun σ H rr => by
  refine cE_of (pe_revL peC) ?_
  refine cE_mono ?_ (h σ H rr)
  rintro v H1 ⟨d, M1, dn, r1, t1, a, ds, rfl, ea, q⟩
  obtain ⟨xs, hx, l⟩ := r1.rep.lst ea
  refine ⟨a, xs, den_obj.mp dn, .inl (.inl hx), fun n hn => ?_⟩
  exact ⟨.obj n, _, den_obj.mpr rfl, r1.newL hn l.reverse, t1.trans (TK.fresh hn), q n (r1.rep.free hn)⟩
/-! ### o[i] += e of a list of ints -/
theorem ws_augS {o i e : Expr} {tpos pos : Pos} {E : Ends2}
    (ha : ∀ ov iv new, augStore i ov iv new = (do holding [new, ov, iv] (setItem ov iv new); release [new, ov, iv] []; pure .next))
    (h : WE X o ρ M fun d1 M1 => WE X i ρ M1 fun d2 M2 => ∃ a ds k j n, d1 = .obj a ∧ d2 = .int k ∧ M2 a = some (.lst ds) ∧ ixN ds.length k = some j ∧ ds[j]? = some (.int n) ∧
      WE X e ρ M2 fun d3 M3 => ∃ m ds', d3 = .int m ∧ M3 a = some (.lst ds') ∧ ds'.length = ds.length ∧ E.nx ρ (mup M3 a (.lst (ds'.set j (.int (n + m)))))) : WS X (.AugAssign (.Subscript o i tpos) .Add e pos) E ρ M := fun σ H r => by
  refine cS_of (ps_augS peC peC (get_list0 (X := X)) peC ip_add set_list ha) ?_
  refine cE_mono ?_ (h σ H r)
  rintro ov H1 ⟨d1, M1, dn1, r1, t1, q1⟩
  refine cE_mono ?_ (q1 σ H1 r1)
  rintro iv H2 ⟨d2, M2, dn2, r2, t2, a, ds, k, j, n, rfl, rfl, ea, ex, en, q⟩
  obtain ⟨xs, hx, l⟩ := r2.rep.lst ea
  obtain ⟨v, hv, dv⟩ := l.get' en
  rw [den_int.mp dv] at hv
  rw [den_obj.mp (dn1.mono t2), den_int.mp dn2]
  refine ⟨a, xs, k, j, V.int n, rfl, rfl, hx, by rw [l.length]; exact ex, hv, ?_⟩
  refine cE_mono ?_ (q σ H2 r2)
  rintro u H3 ⟨d3, M3, dn3, r3, t3, m, ds', rfl, ea3, el3, q3⟩
  obtain ⟨ys, hy, ly⟩ := r3.rep.lst ea3
  refine ⟨n, m, rfl, den_int.mp dn3, a, ys, k, j, rfl, rfl, hy, by rw [ly.length, el3]; exact ex, ?_⟩
  have tk := TK.lst (K := X.K) (o := .lst (ys.set j (V.int (n + m)))) hy
  exact ⟨ρ, _, r3.put (m := .lst (ds'.set j (.int (n + m)))) tk ⟨_, upd_same, (DenL.set (den_int.mpr rfl) j ly).mono tk⟩, ((t1.trans t2).trans t3).trans tk, q3⟩
/-! ### min, max of a tuple -/
def rMinT (K : PySem.W.Frag) : List V → Hp → VK → Prop := fun vs H Q => ∃ (a : Addr) (ns : List Int), vs = [V.ref a] ∧ SqT K H a (ns.map V.int) ∧ 0 < ns.length ∧ ∀ m, m ∈ ns → (∀ y, y ∈ ns → m ≤ y) → Q (.int m) H
theorem cr_minT {X : Cx} (hc : X.calm = true) : CallR X (.builtin "min") (rMinT X.K) := by
  rintro pins s σ H vs us Q I r ⟨a, ns, rfl, hs, hne, q⟩
  obtain ⟨its, rv, pl, hz⟩ := I.tuple hs
  rw [Vals.ref1 r]
  have hi := rv.ints
  obtain ⟨xs, e⟩ := hi.allInts.items
  have hn : numsOf (intItems xs).toList = ns := by rw [← e]; exact hi.numsOf
  rw [nums_intItems] at hn
  subst hn
  rw [e] at pl
  have hsz : 0 < xs.size := by simpa using hne
  refine min_intTup (I.ok.hd hc) pl hsz fun v h' tk hv hk => ?_
  obtain ⟨t, rfl⟩ := intItems_at hv
  obtain ⟨h1, h2⟩ := argBest_lt (numAt xs) (xs.size - 1)
  refine ⟨.int _, H, I.kept hk, ⟨t, rfl⟩, q _ ?_ fun a ha => ?_⟩
  · rw [numAt_eq]; exact PySem.getD_mem (by rw [List.length_map, Array.length_toList]; omega)
  · obtain ⟨j, hj, rfl⟩ := mem_getD ha
    rw [List.length_map, Array.length_toList] at hj
    rw [← numAt_eq]; exact h2 j (by omega)
def minA (ds : List D) (M : Mem) (Q : QE) : Prop := ∃ (d : D) (ns : List Int), ds = [d] ∧ itemsOf M d = some (ns.map D.int) ∧ 0 < ns.length ∧ ∀ m, m ∈ ns → (∀ y, y ∈ ns → m ≤ y) → Q (.int m) M
theorem cl_minA : CallL K (fun xs H Q => rMin K xs H Q ∨ rMinT K xs H Q) minA := by
  rintro ds vs H ρ σ M H0 Q dn r t ⟨d, ns, rfl, e, hl, q⟩
  obtain ⟨v, rfl, a⟩ := one_arg (ds := []) dn
  obtain ⟨p, xs, rfl, s, l⟩ := itemsOf_sq r e a
  rw [l.ints] at s
  exact s.elim (fun s => .inl ⟨p, ns, rfl, s, hl, fun m h1 h2 => ⟨_, M, den_int.mpr rfl, r, t, q m h1 h2⟩⟩) fun s => .inr ⟨p, ns, rfl, s, hl, fun m h1 h2 => ⟨_, M, den_int.mpr rfl, r, t, q m h1 h2⟩⟩
theorem wc_minA (C : Cxt X N sc P w K mg base k0) {e : Expr} {p pos : Pos} {Q : QE} (hg : ("min" : Str) ∈ sc.g) (hm : mg "min" = none) (hs : starEach [e] X.env = [(false, eval e X.env)]) (h : WE X e ρ M fun d M1 => minA [d] M1 Q) (hh : sc.hot = false := by first | k_dflt rfl | assumption) : WE X (.Call (.Name "min" p) [e] [] pos) ρ M Q := by
  obtain rfl := C.hK
  exact we_callB C (callr_or (cr_min (C.calm hh)) (cr_minT (C.calm hh))) cl_minA hg hm (by first | exact PySem.boot_min | exact PyProof.Rows.boot_min) hs (fun _ => rfl) (wa_one hs h)
end
theorem mup_old {M : Mem} {p p' : Addr} {o o' : MO} (h : M p = some o) (h' : M p' = none) : mup M p' o' p = some o := (mup_ne (mem_ne h h')).trans h
/-- a loop's body; a statement of a block -/
def forB : Stmt → List Stmt
  | .For _ _ b _ _ => b
  | .While _ b _ _ => b
  | _ => []
def stAt (l : List Stmt) (i : Nat) : Stmt := l.getD i (.Pass ⟨0, 0, 0, 0⟩)
section
variable {X : Cx} {ρ : St2} {M : Mem} {N : List Str} {sc : Nms} {P : Program} {w : World} {K : PySem.W.Frag} {mg : Str → Option Value} {base : Heap} {k0 : Nat}
theorem sw_sub {o i : Expr} {y : Str} {p p2 pt pt2 : Pos} {k1 k2 : _} {vs : List Expr} {env : Env} : swappedStores [.Tuple [.Subscript o i p, .Name y p2] k1 pt] (.Tuple vs k2 pt2) env = pure none := by
  unfold swappedStores
  by_cases h1 : env.blockKind = .function <;> by_cases h2 : (env.kindOf y == some NameKind.local && p2.line == p.line) = true <;> simp [h1, h2, Expr.pos]
  all_goals (intro _ _ h; exact absurd h (Nat.ne_of_lt (Nat.lt_of_le_of_lt (List.length_filterMap_le _ _) (Nat.lt_succ_self 1))))
/-- o[i], y = a, b -/
theorem ws_asgS {o i : Expr} {y : Str} {p p2 pt pt2 : Pos} {k1 k2 : _} {vs : List Expr} {pos : Pos} {E : Ends2} (h1 : swapsWithSole [.Tuple [.Subscript o i p, .Name y p2] k1 pt] (.Tuple vs k2 pt2) pos.line X.env = pure false) (h3 : List.map (fun x => x.2) (assignEach [.Tuple [.Subscript o i p, .Name y p2] k1 pt] X.env) = [assign (.Tuple [.Subscript o i p, .Name y p2] k1 pt) X.env])
    (h : WE X (.Tuple vs k2 pt2) ρ M fun d M1 => WG X (.Tuple [.Subscript o i p, .Name y p2] k1 pt) d ρ M1 E.nx) : WS X (.Assign [.Tuple [.Subscript o i p, .Name y p2] k1 pt] (.Tuple vs k2 pt2) pos) E ρ M := ws_asg h1 sw_sub h3 h
theorem sw_cell {x y : Str} {p p2 pt pt2 : Pos} {k1 k2 : _} {vs : List Expr} {env : Env} (hx : env.kindOf x ≠ some .local) : swappedStores [.Tuple [.Name x p, .Name y p2] k1 pt] (.Tuple vs k2 pt2) env = pure none := by
  unfold swappedStores
  by_cases h1 : env.blockKind = .function <;> by_cases h2 : (env.kindOf y == some NameKind.local && p2.line == p.line) = true <;> simp [h1, h2, hx, Expr.pos]
  all_goals (intro _ _ h; exact absurd h (Nat.ne_of_lt (Nat.lt_of_le_of_lt (List.length_filterMap_le _ _) (Nat.lt_succ_self 1))))
/-- x, y = a, b where x is a cell -/
theorem ws_parC (C : Cxt X N sc P w K mg base k0) {x y : Str} {p p2 pt pt2 : Pos} {k1 k2 : _} {vs : List Expr} {pos : Pos} {E : Ends2} (hf : x ∈ sc.f) (h1 : swapsWithSole [.Tuple [.Name x p, .Name y p2] k1 pt] (.Tuple vs k2 pt2) pos.line X.env = pure false) (h3 : List.map (fun x => x.2) (assignEach [.Tuple [.Name x p, .Name y p2] k1 pt] X.env) = [assign (.Tuple [.Name x p, .Name y p2] k1 pt) X.env])
    (h : WE X (.Tuple vs k2 pt2) ρ M fun d M1 => WG X (.Tuple [.Name x p, .Name y p2] k1 pt) d ρ M1 E.nx) : WS X (.Assign [.Tuple [.Name x p, .Name y p2] k1 pt] (.Tuple vs k2 pt2) pos) E ρ M :=
  ws_asg h1 (sw_cell (fun e => by rcases C.fr x hf with z | z <;> (rw [show X.env.kindOf x = X.env.scope.names.lookup x from rfl, z] at e; cases e))) h3 h
theorem swl_cell {y : Str} {py lp : Pos} {elt : Expr} {gs : List Comprehension} {scope : Scope} {line : Nat} {env : Env} (hx : env.kindOf y ≠ some .local) : swapsWithSole [.Name y py] (.ListComp elt gs scope lp) line env = pure false := by
  have e : (env.kindOf y == some NameKind.local) = false := by
    cases h : env.kindOf y with
    | none => rfl
    | some k => cases k <;> first | rfl | exact absurd h hx
  simp [swapsWithSole, swapsWith, e]
/-- a list comprehension into a cell -/
theorem ws_asgL (C : Cxt X N sc P w K mg base k0) {y : Str} {py lp : Pos} {elt : Expr} {gs : List Comprehension} {scope : Scope} {pos : Pos} {E : Ends2} (hf : y ∈ sc.f) (h2 : swappedStores [.Name y py] (.ListComp elt gs scope lp) X.env = pure none) (h3 : List.map (fun x => x.2) (assignEach [.Name y py] X.env) = [assign (.Name y py) X.env])
    (h : WE X (.ListComp elt gs scope lp) ρ M fun d M1 => WG X (.Name y py) d ρ M1 E.nx) : WS X (.Assign [.Name y py] (.ListComp elt gs scope lp) pos) E ρ M :=
  ws_asg (swl_cell (fun e => by rcases C.fr y hf with z | z <;> (rw [show X.env.kindOf y = X.env.scope.names.lookup y from rfl, z] at e; cases e))) h2 h3 h
theorem sw_trip {env : Env} {x y z : Str} {px py pz pt pt2 : Pos} {kt k2} {a b c : Expr} (hk : env.blockKind = .function) (hx : env.scope.names.lookup x = some .local) (hy : env.scope.names.lookup y = some .local) (hz : env.scope.names.lookup z = some .local)
    (hl : (py.line == px.line) = true) (hl2 : (pz.line == px.line) = true) (hne : ([x, y, z].eraseDups.length != 3) = false) (h1 : ([a, b, c].any fun | .Starred .. => true | _ => false) = false) (h2 : [a, b, c].all (foldedForSure 8) = false) (h3 : [a, b, c].all (constantsAlone 8) = false) :
    swappedStores [.Tuple [.Name x px, .Name y py, .Name z pz] kt pt] (.Tuple [a, b, c] k2 pt2) env = pure (some [x, y, z]) := by
  have kx : env.kindOf x = some .local := hx
  have ky : env.kindOf y = some .local := hy
  have kz : env.kindOf z = some .local := hz
  have hl' : py.line = px.line := by simpa using hl
  have hl2' : pz.line = px.line := by simpa using hl2
  have hne' : [x, y, z].eraseDups.length = 3 := by simpa using hne
  unfold swappedStores
  simp only [List.length_cons, List.length_nil, hk, List.head?_cons, Option.map_some, Option.getD_some, Expr.pos, List.filterMap_cons, kx, ky, kz, hl', hl2', beq_self_eq_true, Bool.and_self, if_true, List.filterMap_nil, hne', h2, h3, Bool.or_self, Bool.false_eq_true, if_false, bne_self_eq_false]
  refine (if_neg (by decide)).trans ((if_neg ?_).trans rfl)
  intro q
  have h1' := h1
  simp only [List.any_cons, List.any_nil, Bool.or_false, Bool.or_eq_false_iff] at h1'
  simp only [List.any_cons, List.any_nil, Bool.or_false, Bool.or_eq_true] at q
  rcases q with q | q | q
  · exact Bool.noConfusion (q.symm.trans h1'.1)
  · exact Bool.noConfusion (q.symm.trans h1'.2.1)
  · exact Bool.noConfusion (q.symm.trans h1'.2.2)
/-- a, b, c = e1, e2, e3 -/
theorem ws_par3 (C : Cxt X N sc P w K mg base k0) {i j l : Nat} {x y z : Str} {a b c : Expr} {px py pz pt : Pos} {kt k2 : Nat} {pt2 pos : Pos} {E : Ends2} (hi : Nm N i x) (hj : Nm N j y) (hl0 : Nm N l z) (hij : i ≠ j) (hil : i ≠ l) (hjl : j ≠ l) (lx : x ∈ sc.c) (ly : y ∈ sc.c) (lz : z ∈ sc.c)
    (hl : (py.line == px.line) = true) (hl2 : (pz.line == px.line) = true) (hne : ([x, y, z].eraseDups.length != 3) = false) (q1 : ([a, b, c].any fun | .Starred .. => true | _ => false) = false) (q2 : [a, b, c].all (foldedForSure 8) = false) (q3 : [a, b, c].all (constantsAlone 8) = false) (h2 : swapsWithSole [Expr.Tuple [Expr.Name x px, Expr.Name y py, Expr.Name z pz] kt pt] (Expr.Tuple [a, b, c] k2 pt2) pos.line X.env = pure false)
    (h : WA X [a, b, c] ρ M fun ds M1 => ∃ d e f ρ1 ρ2 ρ3, ds = [d, e, f] ∧ Put N ρ x d ρ1 ∧ Put N ρ1 y e ρ2 ∧ Put N ρ2 z f ρ3 ∧ E.nx ρ3 M1) (hh : sc.hot = false := by first | k_dflt rfl | assumption) : WS X (.Assign [Expr.Tuple [Expr.Name x px, Expr.Name y py, Expr.Name z pz] kt pt] (Expr.Tuple [a, b, c] k2 pt2) pos) E ρ M := fun σ H r => by
  refine cS_of (ps_par3 (i := i) (j := j) (l := l) (C.calm hh) (by rw [C.hN]; exact C.nd) (by rw [C.hN]; exact hi.get) (by rw [C.hN]; exact hj.get) (by rw [C.hN]; exact hl0.get) hij hil hjl (C.lcl x lx) (C.lcl y ly) (C.lcl z lz) paC (sw_trip (by unfold Env.blockKind; rw [C.kind]; rfl) (C.lcl x lx) (C.lcl y ly) (C.lcl z lz) hl hl2 hne q1 q2 q3) h2) ?_
  refine cA_mono ?_ (h σ H r)
  rintro vs H1 ⟨ds, M1, dn, r1, t1, d, e, f, ρ1, ρ2, ρ3, rfl, p1, p2, p3, q⟩
  obtain ⟨v, vr, rfl, a1, dn⟩ := denL_cons.mp dn
  obtain ⟨u, ur, rfl, a2, dn⟩ := denL_cons.mp dn
  obtain ⟨w1, wr, rfl, a3, dn⟩ := denL_cons.mp dn
  rw [denL_nil.mp dn]
  obtain ⟨i', ei, rfl⟩ := p1.get
  obtain ⟨j', ej, rfl⟩ := p2.get
  obtain ⟨l', el, rfl⟩ := p3.get
  obtain rfl : i' = i := nodup_ix C.nd ei hi.get
  obtain rfl : j' = j := nodup_ix C.nd ej hj.get
  obtain rfl : l' = l := nodup_ix C.nd el hl0.get
  exact ⟨v, u, w1, rfl, _, M1, ⟨((r1.env.set _ a1).set _ a2).set _ a3, r1.rep⟩, t1, q⟩
/-- an if of two values that come to one -/
theorem Br.joinE {c : Prop} [Decidable c] {e1 e2 : Expr} {K : QE} (d : D) (h1 : c → WE X e1 ρ M fun d' M' => d' = d ∧ M' = M) (h2 : ¬ c → WE X e2 ρ M fun d' M' => d' = d ∧ M' = M) (k : K d M) : Br (decide c) (WE X e1 ρ M K) (WE X e2 ρ M K) :=
  Br.dec (fun z => WE.mono (fun d' M' q => by obtain ⟨rfl, rfl⟩ := q; exact k) (h1 z)) fun z => WE.mono (fun d' M' q => by obtain ⟨rfl, rfl⟩ := q; exact k) (h2 z)
theorem q_aug {ρ' : St2} {x : Str} {n m : Int} {R : St2 → Prop} (pt : Put N ρ x (.int (n + m)) ρ') (q : R ρ') : ∃ (m' : Int) (ρ' : St2), D.int m = .int m' ∧ Put N ρ x (.int (n + m')) ρ' ∧ R ρ' := ⟨m, ρ', rfl, pt, q⟩
/-! ### guards: which goal it is -/
theorem gWE {e : Expr} {Q : QE} (h : WE X e ρ M Q) : WE X e ρ M Q := h
theorem gWA {es : List Expr} {Q : List D → Mem → Prop} (h : WA X es ρ M Q) : WA X es ρ M Q := h
theorem gWSs {st : List Stmt} {E : Ends2} (h : WSs X st E ρ M) : WSs X st E ρ M := h
theorem gWS {st : Stmt} {E : Ends2} (h : WS X st E ρ M) : WS X st E ρ M := h
theorem gWT {e : Expr} {Q : Bool → Mem → Prop} (h : WT X e ρ M Q) : WT X e ρ M Q := h
theorem gWW {e : Expr} {Q : Bool → Mem → Prop} (h : WW X e ρ M Q) : WW X e ρ M Q := h
theorem gWG {e : Expr} {d : D} {Q : St2 → Mem → Prop} (h : WG X e d ρ M Q) : WG X e d ρ M Q := h
theorem gWI {t e : Expr} {Q : QI} (h : WI X t e ρ M Q) : WI X t e ρ M Q := h
theorem guNm {x : Str} {p : Pos} {Q : QE} (h : WE X (.Name x p) ρ M Q) : WE X (.Name x p) ρ M Q := h
theorem gConst {c : Const} {k : Nat} {p : Pos} {Q : QE} (h : WE X (.Constant c k p) ρ M Q) : WE X (.Constant c k p) ρ M Q := h
theorem gCall {f : Expr} {as : List Expr} {ks : List Keyword} {p : Pos} {Q : QE} (h : WE X (.Call f as ks p) ρ M Q) : WE X (.Call f as ks p) ρ M Q := h
theorem gBin {a b : Expr} {op : Operator} {p : Pos} {Q : QE} (h : WE X (.BinOp a op b p) ρ M Q) : WE X (.BinOp a op b p) ρ M Q := h
end
end Y

set_option Elab.async false
set_option linter.all false
set_option autoImplicit false
set_option maxRecDepth 100000
set_option maxHeartbeats 4000000
/-! zip of a tuple and a list, by the library's zip over iterators of any kind -/
namespace Y
open PySem PySem.Spec PyProof.Rows L2
def ItzM (K : PySem.W.Frag) (a b : Addr) : It :=
  ⟨fun i H => ∃ (xs ys : List V) (x y : V), SqT K H a xs ∧ SqL K H b ys ∧ xs[i]? = some x ∧ ys[i]? = some y,
    fun i H v H' => ∃ T x y, v = .ref T ∧ H T = none ∧ H' = L2.upd H T (.tup [x, y]) ∧ (∀ xs, SqT K H a xs → xs[i]? = some x) ∧ ∀ ys, SqL K H b ys → ys[i]? = some y,
    fun i H => ∃ xs ys : List V, SqT K H a xs ∧ SqL K H b ys ∧ (xs.length ≤ i ∨ ys.length ≤ i) ∧ i ≤ xs.length ∧ i ≤ ys.length⟩
theorem sepM {z TI TO i1 i2 a b : Addr} (D : ZipApart z TI TO i1 i2 a b) : ZipSep2 z TI TO i1 i2 [i1, a] [i2, b] where
  TIz := D.TIz
  TOz := D.TOz
  TITO := D.TITO
  TIi1 := D.TIi1
  mem1 := by simp
  zf1 := by simp [Ne.symm D.i1z, Ne.symm D.l1z]
  Tf1 := by simp [D.TOi1, Ne.symm D.l1TO]
  TIi2 := D.TIi2
  mem2 := by simp
  zf2 := by simp [Ne.symm D.i2z, Ne.symm D.l2z]
  Tf2 := by simp [D.TOi2, Ne.symm D.l2TO]
  sep1_2 := by simp [D.i12, Ne.symm D.l2i1]
  sep2_1 := by simp [Ne.symm D.i12, Ne.symm D.l1i2]
theorem five {z TI TO i1 i2 c : Addr} (h : c ∈ [z, TI, TO, i1, i2]) : c = z ∨ c = TI ∨ c = TO ∨ c = i1 ∨ c = i2 := by simpa using h
theorem turn_zipM {P : Program} {w : World} {K : PySem.W.Frag} {elts : List Expr} {kk : Nat} {tpos : Pos} {a b z TI TO i1 i2 : Addr} (D : ZipApart z TI TO i1 i2 a b) :
    Turn P w K (.Tuple elts kk tpos) (ItzM K a b) [z, TI, TO, i1, i2] z (fun i h => IsZip h z TI TO .none ∧ IsPair h TI (.ref i1) (.ref i2) ∧ (∃ x y, IsPair h TO x y) ∧ h.IsTupleIter i1 a i ∧ h.IsListIter i2 b i) where
  mem := by simp
  obj := fun i h st c hc => by
    obtain ⟨hz, hTI, ⟨x, y, hTO⟩, ⟨o1, e1, _, d1⟩, ⟨o2, e2, _, d2⟩⟩ := st
    rcases five hc with q | q | q | q | q <;> subst q
    · exact ⟨_, hz, fun v q => nomatch q⟩
    · exact ⟨_, hTI, fun v q => nomatch q⟩
    · exact ⟨_, hTO, fun v q => nomatch q⟩
    · exact ⟨o1, e1, fun v q => by rw [d1] at q; cases q⟩
    · exact ⟨o2, e2, fun v q => by rw [d2] at q; cases q⟩
  keep := fun i h h' st k => by
    obtain ⟨hz, hTI, ⟨x, y, hTO⟩, h1, h2⟩ := st
    exact ⟨k z (by simp) _ hz, k TI (by simp) _ hTI, ⟨x, y, k TO (by simp) _ hTO⟩, h1.at fun o q => k i1 (by simp) o q, h2.at fun o q => k i2 (by simp) o q⟩
  item := by
    rintro X rfl rfl rfl hc i pins s σ H E I hf ⟨hz, hTI, ⟨x0, y0, hTO⟩, h1, h2⟩ ⟨xs, ys, x, y, hqx, hqy, hx, hy⟩
    obtain ⟨its, rv, p, _⟩ := I.tuple hqx
    obtain ⟨its2, rv2, p2, _⟩ := I.list hqy
    obtain ⟨u, hu, ru⟩ := rv.get hx
    obtain ⟨u2, hu2, ru2⟩ := rv2.get hy
    have hzl : z < s.heap.objs.size := Heap.lt_size hz
    have hh : X.A.in1.handled = none := I.ok.hd hc
    have n1 : i < its.toArray.size := by rw [List.size_toArray]; exact (List.getElem?_eq_some_iff.mp hu).1
    have n2 : i < its2.toArray.size := by rw [List.size_toArray]; exact (List.getElem?_eq_some_iff.mp hu2).1
    refine wpAny_pyNext_zipD2_item (sepM D) (Draws.tuple hh i1 a D.l1i1 its.toArray) (Draws.list hh i2 b D.l2i2 its2.toArray) hz hTI hTO ⟨h1, p⟩ ⟨h2, p2.isList⟩ n1 n2 fun v1 v2 h' tk q1 q2 z' TO' st1 st2 hT hsz hk => ?_
    have e1 : v1 = u := by
      have q1 : its.toArray[i]? = some v1 := q1
      rw [List.getElem?_toArray, hu] at q1; exact (Option.some.inj q1).symm
    have e2 : v2 = u2 := by
      have q2 : its2.toArray[i]? = some v2 := q2
      rw [List.getElem?_toArray, hu2] at q2; exact (Option.some.inj q2).symm
    subst e1 e2
    refine ⟨_, rfl, wpAny_letOwnedTupleGo_zip (s := { s with heap := h', toks := tk }) z' fun h'' z'' sb => ?_⟩
    have hT2 : h''.get? s.heap.objs.size = some { cls := .type "tuple", data := .seq #[v1, v2] } := (sb.2 _ (Nat.ne_of_gt hzl)).trans hT
    have new : ObjOk X.prog X.w (L2.upd H s.heap.objs.size (.tup [x, y])) h'' s.heap.objs.size (.tup [x, y]) :=
      ⟨by show 2 ≤ sizeLine; decide, [v1, v2], .cons ru (.cons ru2 .nil), ⟨_, hT2, rfl, _, rfl⟩⟩
    have I1 : Inv X pins σ (L2.upd H s.heap.objs.size (.tup [x, y])) { s with heap := h'', toks := tk } :=
      I.turnedNew (t' := tk) (ch := [z, TI, TO, i1, i2]) (fun c o hb q => (sb.2 c (fun q' => hb (by simp [q']))).trans (hk c o (fun q' => hb (by simp [q'])) (fun q' => hb (by simp [q'])) (fun q' => hb (by simp [q'])) (fun q' => hb (by simp [q'])) q)) hf (Nat.le_refl _) new
    refine ⟨.ref s.heap.objs.size, _, I1, rfl, ⟨_, x, y, rfl, I.hok.fresh (Nat.le_refl _), rfl, fun l hl => by rw [I.tuple_inj hl hqx]; exact hx, fun l hl => by rw [I.list_inj hl hqy]; exact hy⟩, ⟨z'', ?_, ⟨v1, v2, ?_⟩, ?_, ?_⟩, fun c hcm => ?_⟩
    · exact (sb.2 _ D.TIz).trans (hk _ _ D.TIz D.TITO D.TIi1 D.TIi2 hTI)
    · exact (sb.2 _ D.TOz).trans TO'
    · exact st1.1.at fun o q => (sb.2 _ D.i1z).trans q
    · exact st2.1.at fun o q => (sb.2 _ D.i2z).trans q
    · have hlt : c < s.heap.objs.size := by
        rcases five hcm with q | q | q | q | q <;> subst q
        · exact hzl
        · exact Heap.lt_size hTI
        · exact Heap.lt_size hTO
        · obtain ⟨_, e1, _⟩ := h1; exact Heap.lt_size e1
        · obtain ⟨_, e2, _⟩ := h2; exact Heap.lt_size e2
      rw [upd_ne (Nat.ne_of_lt hlt)]
      exact (hf c hcm).1
  done := by
    rintro X rfl rfl rfl hc i pins s σ H E I hf ⟨hz, hTI, ⟨x0, y0, hTO⟩, h1, h2⟩ ⟨xs, ys, hqx, hqy, hend, le1, le2⟩
    obtain ⟨its, rv, p, _⟩ := I.tuple hqx
    obtain ⟨its2, rv2, p2, _⟩ := I.list hqy
    have l1 := rv.length
    have l2 := rv2.length
    have hh : X.A.in1.handled = none := I.ok.hd hc
    refine wpAny_pyNext_zipD2_end (sepM D) (Draws.tuple hh i1 a D.l1i1 its.toArray) (Draws.list hh i2 b D.l2i2 its2.toArray) hz hTI hTO ⟨h1, p⟩ ⟨h2, p2.isList⟩ (by rw [List.size_toArray]; omega) (by rw [List.size_toArray]; omega) (by rw [List.size_toArray, List.size_toArray]; omega) fun h' tk hk => ⟨rfl, ?_⟩
    exact I.turnedL (t' := tk) (ch := [z, TI, TO, i1, i2]) (fun c o hb q => hk c o (fun q' => hb (by simp [q'])) (fun q' => hb (by simp [q'])) (fun q' => hb (by simp [q'])) (fun q' => hb (by simp [q'])) q) hf
  self := fun A i s Q E st h => wpAny_pyIter_zip st.1 h
abbrev zm1 (h : Heap) (a : Addr) : Heap := h.push { cls := .type "tuple_iterator", data := .fields #[.ref a, .int 0 0] }
abbrev zm2 (h : Heap) (a b : Addr) : Heap := (zm1 h a).push { cls := .type "list_iterator", data := .fields #[.ref b, .int 0 0] }
abbrev zm3 (h : Heap) (a b : Addr) : Heap := (zm2 h a b).push { cls := .type "tuple", data := .seq #[.ref h.objs.size, .ref (zm1 h a).objs.size] }
abbrev zm4 (h : Heap) (a b : Addr) : Heap := (zm3 h a b).push { cls := .type "tuple", data := .seq #[.none, .none] }
abbrev zm5 (h : Heap) (a b : Addr) : Heap := (zm4 h a b).push { cls := .type "zip", data := .fields #[.none, .bool false, .bool false, .ref (zm2 h a b).objs.size, .ref (zm3 h a b).objs.size] }
theorem zm_new (a b : Addr) (xs ys : Array Value) :
    Meets (Builtin.«zip.__new__» ⟨[.type "zip", .ref a, .ref b], []⟩) (fun _ R s => s.heap.IsTuple a xs ∧ s.heap.IsList b ys ∧ R (.ok (.ret (.ref (zm4 s.heap a b).objs.size))) { s with heap := zm5 s.heap a b }) :=
  .of_wp fun prog w A R s h => by
    obtain ⟨hp, g, d, tk, os⟩ := s; obtain ⟨hl1, hl2, h⟩ := h
    have hsub := sub_zip
    have hL1 : Heap.IsTuple (Shared.heap ⟨hp, g, d, tk, os⟩) a xs := hl1
    have hL2 : Heap.IsList (Shared.heap ⟨zm1 hp a, g, d, tk, os⟩) b ys := Heap.IsList.push hl2 _
    wp_walk using wpAny_pyIter_tuple hL1, wpAny_pyIter_list hL2
    exact ⟨_, rfl, h⟩
theorem zm_call {prog : Program} {w : World} {A : Around} {E : Value → Shared → Prop} {s : Shared} {a b : Addr} {xs ys : Array Value} {Q : Value → Shared → Prop} (hl1 : s.heap.IsTuple a xs) (hl2 : s.heap.IsList b ys)
    (h : Q (.ref (zm4 s.heap a b).objs.size) { s with heap := zm5 s.heap a b }) : wpAny (model prog w) A (call (.type "zip") [.ref a, .ref b]) Q E s := by
  refine callType_new F.called_zip (by decide) (F.typeCall_zip_2 _ _) (F.newCall_zip_2 _ _) (fun obj => F.args_object_init_3 obj _ _) F.entry_zip_new (zm_new a b xs ys) ⟨hl1, hl2, ?_⟩
  exact ⟨⟨_, Heap.get?_push_size _ rfl, rfl⟩, h⟩
def iZipM (K : PySem.W.Frag) (ta : TA) : TI := fun σ H R => ta σ H fun vs H1 => ∃ a b xs ys, vs = [V.ref a, V.ref b] ∧ SqT K H1 a xs ∧ SqL K H1 b ys ∧ R (ItzM K a b) H1
theorem pi_zipM {X : Cx} {e e2 : Expr} {ta : TA} {p pos tpos : Pos} {elts : List Expr} {kk : Nat} (hg : Gl X "zip") (hm : X.mg "zip" = none) (ha : PA X [e, e2] ta)
    (hs : starEach [e, e2] X.env = (false, eval e X.env) :: starEach [e2] X.env) (hpl : (backTo pos (starEach [e2] X.env)).any (·.1) = false) :
    PI X (.Tuple elts kk tpos) (.Call (.Name "zip" p) [e, e2] [] pos) (iZipM X.K ta) := by
  refine ⟨fun pins s σ H R I h => ?_⟩
  refine Call_ (ld_blt I hg hm PyProof.Rows.boot_zip (PyProof.Rows.callWith_type1 (thn (ha.run pos pins s σ H _ I h) fun us s1 ⟨vs, H1, I1, r1, q1⟩ => ?_) hs hpl))
  obtain ⟨a, b, xs, ys, ex, hqx, hqy, q⟩ := q1
  subst ex
  cases r1 with
  | cons r rr =>
    cases rr with
    | cons r' rr =>
      cases rr
      cases r
      cases r'
      obtain ⟨its, rv, p1, _⟩ := I1.tuple hqx
      obtain ⟨its2, rv2, p2, _⟩ := I1.list hqy
      obtain ⟨o1, ho1, _⟩ := id p1
      have D := PySem.W.ktu_apart s1.heap.objs.size a b (Heap.lt_size ho1) p2.lt
      refine zm_call (show s1.heap.IsTuple a its.toArray from p1) p2.isList ?_
      have k : ∀ c o, s1.heap.get? c = some o → (zm5 s1.heap a b).get? c = some o := fun c o x =>
        Heap.get?_push_of_some _ (Heap.get?_push_of_some _ (Heap.get?_push_of_some _ (Heap.get?_push_of_some _ (Heap.get?_push_of_some _ x))))
      have z1 : (zm1 s1.heap a).objs.size = s1.heap.objs.size + 1 := Heap.size_push ..
      have z2 : (zm2 s1.heap a b).objs.size = s1.heap.objs.size + 2 := by rw [Heap.size_push, z1]
      have z3 : (zm3 s1.heap a b).objs.size = s1.heap.objs.size + 3 := by rw [Heap.size_push, z2]
      have z4 : (zm4 s1.heap a b).objs.size = s1.heap.objs.size + 4 := by rw [Heap.size_push, z3]
      have g5 : (zm5 s1.heap a b).get? (zm4 s1.heap a b).objs.size = some _ := Heap.get?_push_size _ rfl
      have g4 : (zm5 s1.heap a b).get? (zm3 s1.heap a b).objs.size = some _ := Heap.get?_push_of_some _ (Heap.get?_push_size _ rfl)
      have g3 : (zm5 s1.heap a b).get? (zm2 s1.heap a b).objs.size = some _ := Heap.get?_push_of_some _ (Heap.get?_push_of_some _ (Heap.get?_push_size _ rfl))
      have g2 : (zm5 s1.heap a b).get? (zm1 s1.heap a).objs.size = some _ := Heap.get?_push_of_some _ (Heap.get?_push_of_some _ (Heap.get?_push_of_some _ (Heap.get?_push_size _ rfl)))
      have g1 : (zm5 s1.heap a b).get? s1.heap.objs.size = some _ := Heap.get?_push_of_some _ (Heap.get?_push_of_some _ (Heap.get?_push_of_some _ (Heap.get?_push_of_some _ (Heap.get?_push_size _ rfl))))
      rw [z2, z3, z4] at g5
      rw [z3] at g4
      rw [z1, z2] at g3
      rw [z1] at g2
      rw [z4]
      have I2 : Inv X pins σ H1 { s1 with heap := zm5 s1.heap a b } := I1.kept (t' := s1.toks) k
      refine wpAny_pyIter_zip g5 ?_
      refine ⟨s1.heap.objs.size + 4, [s1.heap.objs.size + 4, s1.heap.objs.size + 2, s1.heap.objs.size + 3, s1.heap.objs.size, s1.heap.objs.size + 1], _, _, H1, rfl, I2, turn_zipM D, ⟨g5, g3, ⟨_, _, g4⟩, ⟨_, g1, rfl, rfl⟩, ⟨_, g2, rfl, rfl⟩⟩, fun c hcm => ?_, q⟩
      have hle : s1.heap.objs.size ≤ c := by rcases five hcm with z | z | z | z | z <;> rw [z] <;> first | exact Nat.le_add_right _ _ | exact Nat.le_refl _
      exact I1.fpOk hle (I1.hok.fresh hle)
section
variable {X : Cx} {ρ : St2} {M : Mem} {N : List Str} {sc : Nms} {P : Program} {w : World} {K : PySem.W.Frag} {mg : Str → Option Value} {base : Heap} {k0 : Nat}
theorem adeq_zipM {H1 : Hp} {a b : Addr} {ds es : List D} {xs : List V} (s1 : SqT K H1 a xs) (l1 : DenL K H1 ds xs) : Adeq K H1 (ItzM K a b) (zipD ds es) (fun M => lstOf (M b) = some es) where
  go := fun i ρ M σ H r t s hi => by
    obtain ⟨ys, sq2, l2⟩ := lst_sq r s
    rw [zipD_len] at hi
    obtain ⟨v, hv, _⟩ := l1.get' (List.getElem?_eq_getElem (Nat.lt_of_lt_of_le hi (Nat.min_le_left _ _)))
    obtain ⟨u, hu, _⟩ := l2.get' (List.getElem?_eq_getElem (Nat.lt_of_lt_of_le hi (Nat.min_le_right _ _)))
    exact ⟨xs, ys, v, u, t.t _ _ s1, sq2, hv, hu⟩
  yld := fun i ρ M σ H x d H' r t s hd ⟨T, y, z, e1, hT, e2, hy, hz⟩ => by
    subst e1 e2
    obtain ⟨ys, sq2, l2⟩ := lst_sq r s
    obtain ⟨e, f, he, hf, rfl⟩ := zipD_get hd
    obtain ⟨v, hv, dn⟩ := l1.get' he
    obtain ⟨u, hu, dn2⟩ := l2.get' hf
    have h1 := hy xs (t.t _ _ s1)
    have h2 := hz ys sq2
    rw [hv] at h1
    rw [hu] at h2
    cases h1
    cases h2
    exact pair_new r hT (dn.mono t) dn2
  stop := fun ρ M σ H r t s => by
    obtain ⟨ys, sq2, l2⟩ := lst_sq r s
    refine ⟨xs, ys, t.t _ _ s1, sq2, ?_⟩
    rw [l1.length, l2.length, zipD_len]
    omega
theorem wi_zipM (C : Cxt X N sc P w K mg base k0) {e e2 : Expr} {p pos tpos : Pos} {elts : List Expr} {kk : Nat} {Q : QI} (hg : ("zip" : Str) ∈ sc.g) (hm : mg "zip" = none) (hs : starEach [e, e2] X.env = (false, eval e X.env) :: starEach [e2] X.env) (hn : ∀ pos, (backTo pos (starEach [e2] X.env)).any (·.1) = false)
    (h : WA X [e, e2] ρ M fun ds M1 => ∃ b as bs, ds = [.tup as, .obj b] ∧ lstOf (M1 b) = some bs ∧ Q (zipD as bs) (fun M => lstOf (M b) = some bs) M1) :
    WI X (.Tuple elts kk tpos) (.Call (.Name "zip" p) [e, e2] [] pos) ρ M Q := fun σ H r => by
  obtain rfl := C.hmg
  refine cI_of (pi_zipM (C.gl _ hg).1 hm paC hs (hn pos)) ?_
  refine cA_mono ?_ (h σ H r)
  rintro vs H1 ⟨ds, M1, dn, r1, t1, b, as, bs, rfl, hb, q⟩
  obtain ⟨v, u, rfl, a1, a2⟩ := two_args dn
  obtain ⟨a, xs, rfl, sq, l⟩ := den_tup.mp a1
  obtain ⟨ys, sq2, l2⟩ := lst_sq r1 hb
  rw [den_obj.mp a2]
  exact ⟨a, b, xs, ys, rfl, sq, sq2, _, _, M1, r1, t1, adeq_zipM sq l, q⟩
theorem Cxt.nox (C : Cxt X N sc P w K mg base k0) : Cxt X.nox N sc P w K mg base k0 where
  hP := C.hP
  hw := C.hw
  hK := C.hK
  hmg := C.hmg
  hbase := C.hbase
  hN := C.hN
  nd := C.nd
  calm := C.calm
  vis := C.vis
  loc := C.loc
  lcl := C.lcl
  gl := C.gl
  fn := C.fn
  fr := C.fr
  kind := C.kind
  room := C.room
  gd := C.gd
  never := PassesOwn.never
/-- a try whose body raises nothing -/
theorem ws_try0 {body : List Stmt} {h₀ : ExceptHandler} {hs : List ExceptHandler} {pos : Pos} {E : Ends2} (h : WSs X.nox body E ρ M) : WS X (.Try body (h₀ :: hs) [] [] pos) E ρ M := fun σ H r => by
  refine cS_of (ps_try_thru0 pssC) ?_
  exact h σ H r
theorem ws_subI (C : Cxt X N sc P w K mg base k0) {x : Str} {i : Nat} {e : Expr} {pos pos' : Pos} {E : Ends2} {n : Int} (sl : Slot N ρ i x (.int n)) (hx : x ∈ sc.l) (h : WE X e ρ M fun d M1 => ∃ m ρ', d = .int m ∧ Put N ρ x (.int (n - m)) ρ' ∧ E.nx ρ' M1) : WS X (.AugAssign (.Name x pos') .Sub e pos) E ρ M := fun σ H r => by
  refine cS_of (ps_aug (i := i) (by rw [C.hN]; exact C.nd) (by rw [C.hN]; exact sl.get.1) (C.loc x hx) peC ip_sub (C.fn x hx)) ?_
  obtain ⟨v, ev, dv⟩ := r.env.at_ i _ sl.get.2
  refine ⟨v, ev, ?_⟩
  refine cE_mono ?_ (h σ H r)
  rintro u H1 ⟨d, M1, dn, r1, t1, m, ρ', rfl, pt, q⟩
  obtain ⟨j, ej, rfl⟩ := pt.get
  have e : j = i := nodup_ix C.nd ej sl.get.1
  subst e
  exact ⟨n, m, den_int.mp dv, den_int.mp dn, _, M1, ⟨r1.env.set j (den_int.mpr rfl), r1.rep⟩, t1, q⟩
end
end Y

set_option Elab.async false
set_option linter.all false
set_option autoImplicit false
set_option maxRecDepth 100000
set_option maxHeartbeats 4000000
/-! an own exception class whose __init__ says super().__init__(text) and keeps its arguments: made -/
namespace Y
open PySem PySem.Spec PySem.Calls PyProof.Rows L2

/-! ### self.f = v on an exception, a base of any kind -/
section
open PySem.W Builtin Builtin.ObjectAttr
variable {prog : Program} {w : World} {A : Around} {E : Value → Shared → Prop} {K : Frag} {h : Heap} {g : Array GenState} {d : Drawn} {t : Nat} {os : OsState} {x C : Addr} {cd : ClassData} {bmB : List Value} {B : String} {name : Str} {v : Value} {fv : Array Value} {Q : Unit → Shared → Prop}
theorem sto_new (SF : StoreFacts B bmB "object.__setattr__" "object") (X : K.In h) (hx : h.get? x = some { cls := .ref C, data := .fields fv }) (hs : findIn K (.ref C) "__setattr__" = some (some (.builtin "object.__setattr__"))) (hp : excOver K C bmB = true) (ht : takerIn K C name = some none)
    (hc : clsIn K C = some cd) (hd : cd.hasDict = true)
    (hq : ∀ h' tk' dx, (∀ b o, b ≠ x → h.get? b = some o → h'.get? b = some o) → h.objs.size ≤ dx → dx ≠ x → h'.get? x = some { cls := .ref C, dict := some dx, data := .fields fv } → h'.Ns1 dx (fun y => if y = name then some v else none) → Q () ⟨h', g, d, tk', os⟩) :
    wpAny (model prog w) A (setAttr (.ref x) name v) Q E ⟨h, g, d, t, os⟩ := by
  have hxs : x ≠ h.objs.size := Nat.ne_of_lt (Heap.lt_size hx)
  refine set_plain (od := none) X ⟨hx, rfl, rfl, trivial⟩ hs (osa_openX (s := ⟨h, g, d, t + 1, os⟩) (od := none) SF X ⟨hx, rfl, rfl, trivial⟩ hp ht fun b => ?_)
  have Lc : Looks (model prog w) h (classData C) cd := looks_clsIn X hc
  show wpAny _ _ (storeInOwnDict (.ref x) (.ref C) _ name v b) _ _ _
  obtain ⟨n0, bs, mro, ns, qn, hd0, sn, sb, ab, col, del⟩ := cd
  dsimp only at hd
  subst hd
  unfold storeInOwnDict ownDictForStores
  repeat (first | with_reducible refine HandSPX.store_in_new ?_ ?_ | with_reducible refine wpAny_loadPart_at hx ?_ | with_reducible refine Lc.at ?_ | wp_step)
  · exact ⟨_, #[], _, (Heap.get?_update_ne _ _ _ _ hxs.symm).trans (Heap.get?_push_at rfl rfl), rfl, fun e he => absurd he (by simp), fun _ => rfl⟩
  · intro h' tk' hn' hs'
    have e1 : (h.push { cls := .type "dict", data := .dict #[] }).get? x = some { cls := .ref C, data := .fields fv } := Heap.get?_push_of_some _ hx
    refine hq h' tk' h.objs.size (fun b o hb ho => ?_) (Nat.le_refl _) hxs.symm ?_ hn'
    · exact (hs'.2 b (Nat.ne_of_lt (Heap.lt_size ho))).trans ((Heap.get?_update_ne _ _ _ _ hb).trans (Heap.get?_push_of_some _ ho))
    · exact (hs'.2 x hxs).trans (Heap.get?_update_self _ e1 rfl)
theorem sto_old {dx : Addr} {m0 : Str → Option Value} {nl : List Str} (SF : StoreFacts B bmB "object.__setattr__" "object") (X : K.In h) (hx : h.get? x = some { cls := .ref C, dict := some dx, data := .fields fv }) (hns : h.Ns1 dx m0) (hw : Within m0 nl) (hz : nl.length ≤ 1000) (hs : findIn K (.ref C) "__setattr__" = some (some (.builtin "object.__setattr__"))) (hp : excOver K C bmB = true) (ht : takerIn K C name = some none)
    (hc : clsIn K C = some cd) (hd : cd.hasDict = true)
    (hq : ∀ h' tk', (∀ b o, b ≠ dx → h.get? b = some o → h'.get? b = some o) → h'.Ns1 dx (fun y => if y = name then some v else m0 y) → Q () ⟨h', g, d, tk', os⟩) :
    wpAny (model prog w) A (setAttr (.ref x) name v) Q E ⟨h, g, d, t, os⟩ := by
  obtain ⟨oD, esD, epD, hoD, hdD, _⟩ := hns.count hw
  refine set_plain (od := some oD) X ⟨hx, rfl, rfl, hoD⟩ hs (osa_openX (s := ⟨h, g, d, t + 1, os⟩) (od := some oD) SF X ⟨hx, rfl, rfl, hoD⟩ hp ht fun b => ?_)
  have Lc : Looks (model prog w) h (classData C) cd := looks_clsIn X hc
  show wpAny _ _ (storeInOwnDict (.ref x) (.ref C) _ name v b) _ _ _
  obtain ⟨n0, bs, mro, ns, qn, hd0, sn, sb, ab, col, del⟩ := cd
  dsimp only at hd
  subst hd
  unfold storeInOwnDict ownDictForStores
  repeat (first | with_reducible refine PySem.OEX.store_in_old hns hw hz ?_ | with_reducible refine wpAny_loadPart_at hx ?_ | with_reducible refine Lc.at ?_ | wp_step)
  intro h' tk' hn' hs'
  exact hq h' tk' (fun b o hb ho => (hs'.2 b hb).trans ho) hn'
end

/-! ### the __init__ of such a class -/
/-- its body: super().__init__(msg), then self.f = a for each of fs -/
def supSt (msg : Str) (j : Nat) (p0 p1 p2 p3 p4 p5 : Pos) : Stmt := .Expr (.Call (.Attribute (.Call (.Name "super" p0) [] [] p1) "__init__" p2) [.Constant (.str msg) j p3] [] p4) p5
def keepSt (sf k a : Str) (p6 p7 p8 p9 : Pos) : Stmt := .Assign [.Attribute (.Name sf p6) k p7] (.Name a p8) p9
section
open PySem.W
variable {prog : Program} {w : World} {A : Around} {E : Value → Shared → Prop} {K : Frag} {hp : Heap} {g : Array GenState} {d : Drawn} {t : Nat} {os : OsState} {x C L fI cc cda : Addr} {cd : ClassData} {bmB : List Value} {B newId initId : String} {m mg mb : Str → Option Value}
/-- the frame's and the object's parts of a state within the __init__ -/
structure IRun (hp : Heap) (L x C : Addr) (m : Str → Option Value) (dv : Option Addr) (h : Heap) : Prop where
  fr : Fr hp L h m
  ob : ∃ t, h.get? x = some (excObj C t dv .none)
  xL : x ≠ L
  xn : hp.get? x = none
/-- super().__init__(msg) -/
theorem sup_run {body : List Stmt} {env : Env} {msg : Str} {j : Nat} {p0 p1 p2 p3 p4 p5 : Pos} {fd : FuncData} {ar : Arg} {vs : Array Value} {file : Str} {tf : Tok} {oc ccl cl : Value} {od cdd cld : Option Addr} {osl ccs csl : Array (Option Value)} {Q : Flow → Shared → Prop}
    (FB : ExcBaseFacts B newId initId bmB) (KF : KxsFacts B initId) (X : K.In hp) (hi : excInitIn K C bmB newId = true) (hc : clsIn K C = some cd)
    (hT : typeIn K (.ref C) = some (.type "type")) (hsup : ks_superIn K C C "__init__" = some (some (.builtin initId))) (hB : subIn K (.ref C) (.type B) = some true) (hop : nsIn K cStatics "thirdparty.any" = some none) (hmr : mroIn K C (.ref C) = some true)
    (hf : K.lookup fI = some ⟨oc, od, .func fd, osl⟩) (hpar : (fd.params.posonlyargs ++ fd.params.args).head? = some ar) (hcode : K.lookup cda = some ⟨ccl, cdd, .fields vs, ccs⟩) (hvs : vs[2]? = some (.str file tf)) (hfile : ((prog.main.file : Str) == file) = true)
    (hcell : K.lookup cc = some ⟨cl, cld, .cell (some (.ref C)), csl⟩)
    (htop : (prog.main.scope.names.lookup ("super" : Str)).isSome = false)
    (hg : hp.Ns mainGlobals mg) (hm : mg "super" = none) (hb : hp.Ns builtinsNs mb) (hmb : mb "super" = some (.type "super"))
    (e1 : env.locals = L) (e2 : env.globals = mainGlobals) (e3 : env.builtins = builtinsNs) (e4 : env.func = some fI) (e5 : env.code = .ref cda) (e6 : env.cells.lookup ("__class__" : Str) = some cc)
    (hk : env.scope.kind = .function) (hks : env.kindOf "super" = some .globalImplicit) (hkc : env.kindOf "__class__" = some .free) (hka : env.kindOf ar.arg = some .local) (hv : m ar.arg = some (.ref x))
    (hint : interactive env = false) (hsw : swapsWith (.Call (.Attribute (.Call (.Name "super" p0) [] [] p1) "__init__" p2) [.Constant (.str msg) j p3] [] p4) none p5.line env = pure false) {pl : Sem Bool}
    (hcall : eval (.Call (.Attribute (.Call (.Name "super" p0) [] [] p1) "__init__" p2) [.Constant (.str msg) j p3] [] p4) env = (do
      let ov ← attributeBase (.Call (.Name "super" p0) [] [] p1) "__init__" env (eval (.Call (.Name "super" p0) [] [] p1) env)
      standAt p2.atName
      let (f, first) ← holding [ov] (getMethod ov "__init__" pl)
      callWith p4 f first (backTo p4 (starEach [.Constant (.str msg) j p3] env)) []))
    {h : Heap} (I : IRun hp L x C m none h)
    (hq : ∀ h' tk, IRun hp L x C m none h' → Q .next ⟨h', g, d, tk, os⟩) :
    PySem.wpAt (model prog w) A (.func body env) (exec (supSt msg j p0 p1 p2 p3 p4 p5) env) Q E ⟨h, g, d, t, os⟩ := by
  have Xh : K.In h := X.keeps I.fr.keep
  obtain ⟨t0, hx⟩ := I.ob
  refine ks_wpAt_Expr_any ?_ hint hsw
  refine ks_wpAt_MethodCall (pl := pl) ?_ hcall
  have hL : x < h.objs.size := Heap.lt_size hx
  have N0 : News hp L h [(x, excObj C t0 none .none)] := fun p hm => by
    rw [List.mem_singleton.mp hm]
    exact ⟨hx, I.xL, I.xn⟩
  have hns := I.fr.ns
  have keepG := I.fr.keep
  obtain ⟨oD, hD1, hD2⟩ : ∃ oD, h.get? C = some oD ∧ oD.data = .cls cd := by
    unfold clsIn at hc
    split at hc
    · rename_i c0 d0 cd' sl ho
      cases hc
      exact ⟨_, Xh _ _ ho, rfl⟩
    · cases hc
  refine ks_wpAt_super_base hks hkc (by decide) e4 (Xh _ _ hf) rfl hpar e5 (Xh _ _ hcode) rfl hvs hfile htop ?_
  refine ks_loadName_global hk hks (loadGlobal_builtin (by rw [e2]; exact hg.keeps keepG) hm (by rw [e3]; exact hb.keeps keepG) hmb ⟨rfl, ?_⟩)
  refine wpAny_loadName_free hk hkc e6 ⟨_, Xh _ _ hcell, rfl⟩ ?_
  refine wpAny_loadName_local hk hka (by rw [e1]; exact hns) hv ?_
  refine ks_wpAny_isType_cls hD1 hD2 ⟨rfl, ?_⟩
  refine ks_wpAny_call_super hD1 hD2 hx rfl (fun c e => by cases e) (looks_mroIn Xh hmr) (fun h2 e k => ?_)
  obtain ⟨F2, N2, l2⟩ := ks_newsPush (s := ⟨h, g, d, t, os⟩) I.fr N0 rfl e k
  refine kxs_method (s := ⟨h2, g, d, t, os⟩) KF F2 X N2 (List.mem_cons_self ..) (InstAt.of_exc0 N2 (List.mem_cons_of_mem _ (List.mem_cons_self ..))) hop hsup hB (by decide) fun q h3 F3 N3 l3 => ?_
  refine kxs_callWith1 (s := ⟨h3, g, d, t + 1, os⟩) N3 (List.mem_cons_self ..) ?_
  show wpAny _ _ (spliced ((false, eval (.Constant (.str msg) j p3) env) :: backTo p4 (starEach [] env))) _ _ _
  refine Calls.spliced_cons (wpAny_Constant_str (Calls.spliced_nil ⟨kxs_at N3 (List.mem_cons_self ..), ?_⟩))
  have nso : h.objs.size ≠ x := Nat.ne_of_gt hL
  have nq : q ≠ x := fun z => by
    have := l3 (x, excObj C t0 none .none) (by simp)
    rw [z] at this
    exact Nat.lt_irrefl _ this
  refine kxs_call (s := ⟨h3, g, d, t + 1 + 1, os⟩) F3 X N3 FB hi (List.mem_cons_self ..) (.tail nq (.tail nso (.head (by simp)))) (by show 1 ≤ sizeLine; decide) fun t' h4 F4 N4 l4 => ?_
  exact hq h4 _ ⟨F4, ⟨t', (N4 (x, excObj C t' none .none) (by simp)).1⟩, I.xL, I.xn⟩

/-- the base's facts -/
structure BaseF (B newId initId : String) (bmB : List Value) : Prop where
  FB : ExcBaseFacts B newId initId bmB
  KF : KxsFacts B initId
  SF : StoreFacts B bmB "object.__setattr__" "object"
abbrev bmVE : List Value := [.type "ValueError", .type "Exception", .type "BaseException", .type "object"]
abbrev bmOE : List Value := [.type "OverflowError", .type "ArithmeticError", .type "Exception", .type "BaseException", .type "object"]
theorem base_VE : BaseF "ValueError" "ValueError.__new__" "ValueError.__init__" bmVE := ⟨PySem.F.excBase_ValueError, kxs_ValueError, PySem.F.store_ValueError⟩
theorem base_OE : BaseF "OverflowError" "OverflowError.__new__" "OverflowError.__init__" bmOE := ⟨PySem.F.excBase_OverflowError, kxs_OverflowError, PySem.F.store_OverflowError⟩
/-- what the written part says of such a class at C, its fields ks -/
structure XcK (K : Frag) (C : Addr) (B newId initId : String) (bmB : List Value) (ks : List Str) : Prop where
  base : BaseF B newId initId bmB
  hi : excInitIn K C bmB newId = true
  ov : excOver K C bmB = true
  hd : hasDictIn K C = true
  ty : typeIn K (.ref C) = some (.type "type")
  sup : ks_superIn K C C "__init__" = some (some (.builtin initId))
  sB : subIn K (.ref C) (.type B) = some true
  op : nsIn K cStatics "thirdparty.any" = some none
  mr : mroIn K C (.ref C) = some true
  sa : findIn K (.ref C) "__setattr__" = some (some (.builtin "object.__setattr__"))
  tk : ∀ k ∈ ks, takerIn K C k = some none
/-- what a made exception of the class at C is -/
structure MadeX (s : Shared) (C a d : Addr) (ks : List Str) (us : List Value) (h' : Heap) : Prop where
  keep : ∀ b o, s.heap.get? b = some o → h'.get? b = some o
  na : s.heap.objs.size ≤ a
  nd : s.heap.objs.size ≤ d
  ne : d ≠ a
  ob : ∃ t, h'.get? a = some (excObj C t (some d) .none)
  ns : ∃ mA, h'.Ns1 d mA ∧ ∀ f, mA f = (ks.zip us).lookup f
/-- C(us) makes one -/
def MkX (P : Program) (w : World) (K : Frag) (mg : Str → Option Value) (C : Addr) (ks : List Str) : Prop :=
  ∀ (A : Around) (E : Value → Shared → Prop) (s : Shared) (us : List Value) (mb : Str → Option Value) (Q : Value → Shared → Prop), Room 2 A → K.In s.heap → s.heap.NoLimit → s.heap.Ns mainGlobals mg → s.heap.Ns builtinsNs mb → mb "super" = some (.type "super") → us.length = ks.length →
    (∀ a d h' tk, MadeX s C a d ks us h' → Q (.ref a) { s with heap := h', toks := tk }) → wpAny (model P w) A (call (.ref C) us) Q E s
theorem zip1 {k f : Str} {u : Value} : (([k] : List Str).zip [u]).lookup f = if f = k then some u else none := by
  show ([(k, u)] : List (Str × Value)).lookup f = _
  by_cases h : f = k
  · subst h; simp [List.lookup]
  · have e : (f == k) = false := by simpa using h
    rw [if_neg h]
    simp [List.lookup, e]
theorem mk1 {P : Program} {w : World} {K : Frag} {mg : Str → Option Value} {C fI cc cda : Addr} {B newId initId : String} {bmB : List Value} {k sf pk qual : Str} {msg : Str} {j : Nat} {p0 p1 p2 p3 p4 p5 p6 p7 p8 p9 : Pos} {st : Stmt} {vs : Array Value} {file : Str} {tf : Tok}
    {oc ccl cl dV kV doc pm ct : Value} {od cdd cld an : Option Addr} {osl ccs csl : Array (Option Value)} {ar : Arg}
    (T : XcK K C B newId initId bmB [k]) (ini : findIn K (.ref C) "__init__" = some (some (.ref fI))) (isf : typeIn K (.ref fI) = some (.type "function"))
    (lk : K.lookup fI = some ⟨oc, od, .func (ksFn "__init__" qual (defArgs st) (defBody st) (defScope st) dV kV doc pm an (.ref cda) ct cc), osl⟩) (hcd : codeIn K (.ref cda) qual = true)
    (hcode : K.lookup cda = some ⟨ccl, cdd, .fields vs, ccs⟩) (hvs : vs[2]? = some (.str file tf)) (hfile : ((P.main.file : Str) == file) = true) (hcell : K.lookup cc = some ⟨cl, cld, .cell (some (.ref C)), csl⟩)
    (htop : (P.main.scope.names.lookup ("super" : Str)).isSome = false) (hm : mg "super" = none)
    (hbody : defBody st = [supSt msg j p0 p1 p2 p3 p4 p5, keepSt sf k pk p6 p7 p8 p9])
    (hpar : ((defArgs st).posonlyargs ++ (defArgs st).args).head? = some ar) (har : ar.arg = sf) (hne : sf ≠ pk)
    (hbind : ∀ (s : Shared) (x u : Value), BindsTo s (ksFn "__init__" qual (defArgs st) (defBody st) (defScope st) dV kV doc pm an (.ref cda) ct cc) ⟨[x, u], []⟩ [(sf, x), (pk, u)])
    (sk : (defScope st).kind = .function) (sco : (defScope st).isCoroutine = false) (sgen : (defScope st).isGenerator = false) (scell : ∀ x ∈ (defScope st).names, x.2 ≠ .cell)
    (s1 : (defScope st).names.lookup ("super" : Str) = some .globalImplicit) (s2 : (defScope st).names.lookup ("__class__" : Str) = some .free) (s3 : (defScope st).names.lookup sf = some .local) (s4 : (defScope st).names.lookup pk = some .local)
    (d1 : (sf == ("__debug__" : Str)) = false) (d2 : (pk == ("__debug__" : Str)) = false)
    (hint : ∀ L, interactive (ksEnv qual (defScope st) L fI (.ref cda) cc) = false)
    (hsw : ∀ L, swapsWith (.Call (.Attribute (.Call (.Name "super" p0) [] [] p1) "__init__" p2) [.Constant (.str msg) j p3] [] p4) none p5.line (ksEnv qual (defScope st) L fI (.ref cda) cc) = pure false) {pl : Addr → Sem Bool}
    (hcall : ∀ L, eval (.Call (.Attribute (.Call (.Name "super" p0) [] [] p1) "__init__" p2) [.Constant (.str msg) j p3] [] p4) (ksEnv qual (defScope st) L fI (.ref cda) cc) = (do
      let ov ← attributeBase (.Call (.Name "super" p0) [] [] p1) "__init__" (ksEnv qual (defScope st) L fI (.ref cda) cc) (eval (.Call (.Name "super" p0) [] [] p1) (ksEnv qual (defScope st) L fI (.ref cda) cc))
      standAt p2.atName
      let (f, first) ← holding [ov] (getMethod ov "__init__" (pl L))
      callWith p4 f first (backTo p4 (starEach [.Constant (.str msg) j p3] (ksEnv qual (defScope st) L fI (.ref cda) cc))) []))
    (hsw2 : ∀ L, swapsWith (.Name pk p8) (some (.Attribute (.Name sf p6) k p7)) p9.line (ksEnv qual (defScope st) L fI (.ref cda) cc) = pure false) : MkX P w K mg C [k] := by
  intro A E s us mb Q hr X hlim hg hb hmb hl hq
  obtain ⟨u, rfl⟩ : ∃ u, us = [u] := match us, hl with | [u], _ => ⟨u, rfl⟩
  obtain ⟨nm, N', qn, bs, bm, hdct, sn, sub, ab, col, dd, k0, k1, k2, k3, k5, hC, hT⟩ := excInit_of X T.hi
  obtain ⟨cd, hc, hcdd⟩ := any_some T.hd
  obtain ⟨hp, g, dr, tk, os⟩ := s
  refine wpAny_call (HandSPX.call_own T.base.FB hT hC (looks_findIn X ini) (fun self => bind_fn X self isf) (by show 1 ≤ sizeLine; decide) ?_)
  have kk : ∀ b o, hp.get? b = some o → ((hp.push (kdv_tup [u])).push (HandSPX.excO C hp.objs.size)).get? b = some o := fun b o e => Heap.get?_push_of_some _ (Heap.get?_push_of_some _ e)
  have hget : ((hp.push (kdv_tup [u])).push (HandSPX.excO C hp.objs.size)).get? (hp.objs.size + 1) = some (HandSPX.excO C hp.objs.size) := by heap_get
  have hsz : ((hp.push (kdv_tup [u])).push (HandSPX.excO C hp.objs.size)).objs.size = hp.objs.size + 2 := by rw [Heap.size_push, Heap.size_push]
  generalize hh1 : (hp.push (kdv_tup [u])).push (HandSPX.excO C hp.objs.size) = h1 at kk hget hsz ⊢
  have X1 : K.In h1 := X.keeps kk
  have xn : hp.get? (hp.objs.size + 1) = none := by
    cases e : hp.get? (hp.objs.size + 1) with
    | none => rfl
    | some o => exact absurd (Heap.lt_size e) (Nat.not_lt.mpr (Nat.le_succ _))
  refine ks_codeAny_call_defAt (hr.make C [u] []).depth (X1 _ _ lk) rfl (hlim.keeps kk) (codeRec_of X1 hcd) rfl (hbind _ _ _) scell (fun y hy => ?_) (fun h2 hns2 k2 => ?_) sco sgen sk
  · rcases List.mem_cons.mp hy with z | z
    · rw [z]; exact s3
    · rw [List.mem_singleton.mp z]; exact s4
  have kp2 : ∀ b o, hp.get? b = some o → h2.get? b = some o := fun b o e => k2 b o (kk b o e)
  have hz2 : (⟨h1, g, dr, tk, os⟩ : Shared).heap.objs.size = hp.objs.size + 2 := hsz
  have F2 : Fr hp (hp.objs.size + 2) h2 (fun y => ([(sf, Value.ref (hp.objs.size + 1)), (pk, u)] : List (Str × Value)).reverse.lookup y) := ⟨by rw [← hz2]; exact hns2, kp2, by omega⟩
  have I2 : IRun hp (hp.objs.size + 2) (hp.objs.size + 1) C (fun y => ([(sf, Value.ref (hp.objs.size + 1)), (pk, u)] : List (Str × Value)).reverse.lookup y) none h2 := ⟨F2, ⟨_, k2 _ _ hget⟩, Nat.ne_of_lt (Nat.lt_succ_self _), xn⟩
  have msf : ([(sf, Value.ref (hp.objs.size + 1)), (pk, u)] : List (Str × Value)).reverse.lookup sf = some (.ref (hp.objs.size + 1)) := by
    have e : (sf == pk) = false := by simpa using hne
    simp [List.lookup, e]
  have mpk : ([(sf, Value.ref (hp.objs.size + 1)), (pk, u)] : List (Str × Value)).reverse.lookup pk = some u := by simp [List.lookup]
  rw [hbody, hz2]
  refine ks_wpAt_execs_cons ?_
  refine sup_run (L := hp.objs.size + 2) T.base.FB T.base.KF X T.hi hc T.ty T.sup T.sB T.op T.mr lk hpar hcode hvs hfile hcell htop hg hm hb hmb (env := ksEnv qual (defScope st) (hp.objs.size + 2) fI (.ref cda) cc) rfl rfl rfl rfl rfl (by rfl) sk s1 s2 (by rw [har]; exact s3) (by rw [har]; exact msf) (by exact hint _) (by exact hsw _) (by exact hcall _) I2 fun h3 tk3 I3 => ?_
  obtain ⟨t3, ho3⟩ := I3.ob
  refine ks_wpAt_execs_cons ?_
  refine ks_wpAt_Assign_Attr (wpAt_of_wpAny (wpAny_Name (wpAny_loadName_local sk s4 I3.fr.ns mpk (wpAny_Name (wpAny_loadName_local sk s3 I3.fr.ns msf ?_) d1)) d2)) (by exact hsw2 _)
  refine sto_new T.base.SF (X.keeps I3.fr.keep) ho3 T.sa T.ov (T.tk k (List.mem_cons_self ..)) hc hcdd fun h4 tk4 dx k4 nd ne hx4 hn4 => ?_
  refine wpAt_of_wpAny (wpAny_execs_nil ?_)
  refine ⟨rfl, hq (hp.objs.size + 1) dx h4 tk4 ⟨fun b o e => k4 b o (fun z => ?_) (I3.fr.keep b o e), Nat.le_succ _, ?_, ne, ⟨t3, hx4⟩, _, hn4, fun f => zip1.symm⟩⟩
  · rw [z, xn] at e; cases e
  · have := Heap.lt_size ho3
    refine Nat.le_trans (Nat.le_trans (Nat.le_succ _) (Nat.le_of_lt this)) nd
end
end Y

set_option Elab.async false
set_option linter.all false
set_option autoImplicit false
set_option maxRecDepth 100000
set_option maxHeartbeats 4000000
/-! own exceptions in the second layer: made, raised, caught, looked at -/
namespace Y
open PySem PySem.Spec PySem.Calls PyProof.Rows L2

/-- the class that the module names x -/
structure XNm (K : PySem.W.Frag) (mg : Str → Option Value) (x : Str) : Prop where
  ex : ∃ C, mg x = some (.ref C) ∧ PySem.W.nsIn K mainGlobals x = some (some (.ref C))
/-- what is asked of its instances -/
structure XRd (K : PySem.W.Frag) (C : Addr) (ks : List Str) : Prop where
  ga : PySem.W.findIn K (.ref C) "__getattribute__" = some (some (.builtin "BaseException.__getattribute__"))
  gg : PySem.W.findIn K (.ref C) "__getattr__" = some none
  bx : PySem.W.subIn K (.ref C) (.type "BaseException") = some true
  ty : PySem.W.typeIn K (.ref C) = some (.type "type")
  hd : PySem.W.hasDictIn K C = true
  fl : ∀ k ∈ ks, PySem.W.findIn K (.ref C) k = some none
  cc : PySem.W.findIn K (.ref C) "__class__" = some (some (.builtin "object.__class__"))
  sp : PySem.W.specialIn K (.builtin "object.__class__") "__get__" = some (some (.builtin "getset_descriptor.__get__"))
  tk : PySem.W.takesIn K (.builtin "object.__class__") = some true
  mo : PySem.W.mroIn K C (.type "object") = some true
structure XDef (P : Program) (w : World) (K : PySem.W.Frag) (mg : Str → Option Value) (x : Str) (ks : List Str) : Prop where
  ex : ∃ C, mg x = some (.ref C) ∧ PySem.W.nsIn K mainGlobals x = some (some (.ref C)) ∧ PySem.W.keepIn K (.ref C) = true ∧ MkX P w K mg C ks ∧ XRd K C ks
theorem XDef.nm {P : Program} {w : World} {K : PySem.W.Frag} {mg : Str → Option Value} {x : Str} {ks : List Str} (D : XDef P w K mg x ks) : XNm K mg x := by
  obtain ⟨C, a, b, _⟩ := D.ex
  exact ⟨C, a, b⟩
/-- as many arguments as fields -/
def XnOk (ds : List D) (ks : List Str) (A : Prop) : Prop := ds.length = ks.length ∧ A
theorem q_xn {ds : List D} {ks : List Str} {A : Prop} (h : ds.length = ks.length) (a : A) : XnOk ds ks A := ⟨h, a⟩
theorem relO_zip : ∀ {ks : List Str} {vs : List V} {us : List Value}, Vals vs us → ∀ f, RelO ((ks.zip vs).lookup f) ((ks.zip us).lookup f)
  | [], _, _, _, _ => trivial
  | _ :: _, _, _, .nil, _ => trivial
  | k :: ks, _, _, .cons r rr, f => by
    simp only [List.zip_cons_cons, List.lookup_cons]
    cases f == k with
    | true => exact r
    | false => exact relO_zip rr f
section
variable {X : Cx} {ρ : St2} {M : Mem} {N : List Str} {sc : Nms} {P : Program} {w : World} {K : PySem.W.Frag} {mg : Str → Option Value} {base : Heap} {k0 : Nat}
/-- a made exception: the state without it, its dict told -/
theorem adopt {pins : List (Addr × Obj)} {σ : L2.St} {H : Hp} {s : Shared} {C a d : Addr} {ks : List Str} {us : List Value} {vs : List V} {h' : Heap} {tk : Nat} (I : Inv X pins σ H s) (m : MadeX s C a d ks us h') (rv : Vals vs us) :
    ∃ (G : Heap) (od : Obj), (∀ b o, G.get? b = some o → h'.get? b = some o) ∧ G.get? a = none ∧ H a = none ∧ H d = none ∧ Inv X pins σ (upd H d (.frz od (.xd (ks.zip vs)))) { s with heap := G, toks := tk } := by
  obtain ⟨G, g1, g2⟩ := restrict h' fun b => decide (b ≠ a)
  have gk : ∀ b, b ≠ a → G.get? b = h'.get? b := fun b hb => g1 b (decide_eq_true hb)
  have ga : G.get? a = none := g2 a (by simp)
  have na : ∀ {b : Addr} {o : Obj}, s.heap.get? b = some o → b ≠ a := fun {b o} z => Nat.ne_of_lt (Nat.lt_of_lt_of_le (Heap.lt_size z) m.na)
  obtain ⟨mA, hns, hl⟩ := m.ns
  obtain ⟨od, es, ep, hod, r⟩ := hns
  have hod' : G.get? d = some od := (gk d m.ne).trans hod
  refine ⟨G, od, fun b o e => ?_, ga, I.hok.fresh m.na, I.hok.fresh m.nd, ?_⟩
  · by_cases hb : b = a
    · rw [hb, ga] at e; cases e
    · exact (gk b hb).symm.trans e
  · refine I.laid (fun b u e => (gk b (na e)).trans (m.keep b u e)) m.nd ⟨hod', mA, ⟨od, es, ep, hod', r⟩, fun f => ?_⟩
    rw [hl f]
    exact relO_zip rv f
theorem frz_at {H : Hp} {a d : Addr} {oe od : Obj} {fs : List (Str × V)} (ne : d ≠ a) : (upd (upd H d (.frz od (.xd fs))) a (.frz oe (.own a))) d = some (.frz od (.xd fs)) := by rw [upd_ne ne, upd_same]
/-- C(..) as a value -/
theorem we_exn (C : Cxt X N sc P w K mg base k0) {x : Str} {ks : List Str} {p pos : Pos} {e : Expr} {es : List Expr} {Q : QE} (D : XDef P w K mg x ks) (hk : 2 ≤ k0) (hg : (x : Str) ∈ sc.g)
    (hs : starEach (e :: es) X.env = (false, eval e X.env) :: starEach es X.env) (hn : ∀ pos, (backTo pos (starEach es X.env)).any (·.1) = false) (h : WA X (e :: es) ρ M fun ds M1 => XnOk ds ks (Q (.exn x ks ds) M1)) (hh : sc.hot = false := by first | k_dflt rfl | assumption) : WE X (.Call (.Name x p) (e :: es) [] pos) ρ M Q := fun σ H rr pins s I => by
  obtain rfl := C.hP
  obtain rfl := C.hw
  obtain rfl := C.hK
  obtain rfl := C.hmg
  obtain rfl := C.hbase
  obtain ⟨Ca, hm, hn2, hkp, mk, rd⟩ := D.ex
  refine wpAny_Call_Name_kw (ld_glob I (C.gl x hg).1 hm (PySem.W.callWith_K (h₀ := X.base) I.ok.mod.kin hkp (thn (h σ H rr pos pins s I) ?_) hs (hn pos)) (C.gl _ hg).2.1)
  rintro us s1 ⟨vs, H1, I1, rv, ds, M1, dn, r1, t1, hl, q⟩
  refine ⟨I1.kIn, ?_⟩
  obtain ⟨mb, b1, b2⟩ := I1.mod.blt
  have hlu : us.length = ks.length := by rw [← rv.length, dn.length]; exact hl
  show wpAny _ _ (call (.ref Ca) us) _ _ _
  refine mk X.A X.xe s1 us mb _ ((C.room hh).mono hk) I1.kIn I1.nolimit (I1.mod.glob.keeps I1.bk) (b1.keeps I1.bk) ((b2 _ (by decide +kernel)).trans PyProof.Rows.Boot.«super») hlu fun a d h' tk md => ?_
  obtain ⟨G, od, k1, ga, na, nd, J⟩ := adopt (tk := tk) I1 md rv
  obtain ⟨t0, ho⟩ := md.ob
  have na' : upd H1 d (.frz od (.xd (ks.zip vs))) a = none := by rw [upd_ne (Ne.symm md.ne)]; exact na
  have J2 := J.laidN (t' := tk) (h' := h') (a := a) (o := .frz (PySem.W.excObj Ca t0 (some d) .none) (.own a)) k1 ga na' ⟨ho, ⟨_, ho⟩⟩
  have tk1 : TK X.K H1 (upd H1 d (.frz od (.xd (ks.zip vs)))) := TK.fresh nd
  have tk2 : TK X.K (upd H1 d (.frz od (.xd (ks.zip vs)))) (upd (upd H1 d (.frz od (.xd (ks.zip vs)))) a (.frz (PySem.W.excObj Ca t0 (some d) .none) (.own a))) := TK.fresh na'
  refine ⟨.ref a, _, J2, rfl, .exn x ks ds, M1, den_exn.mpr ⟨a, vs, rfl, ⟨Ca, _, d, od, hn2, upd_same, rfl, rfl, ⟨_, rfl⟩, frz_at md.ne⟩, (dn.mono tk1).mono tk2⟩, (r1.newT nd).newT na', (t1.trans tk1).trans tk2, q⟩

/-! ### raise -/
/-- the wish of a context about exceptions: the class's name, the fields, the frame, the memory -/
abbrev XE2 := Str → List Str → List D → St2 → Mem → Prop
structure Tks (X : Cx) (E : XE2) : Prop where
  tk : Takes X (fun cls d σ H => ∃ n ks ds ρ M, XD X.K n ks ds cls d H ∧ R X.K ρ M σ H ∧ E n ks ds ρ M)
  stk : X.stack = X.env :: X.outer
  frm : X.env.frame = some X.env.locals
  nex : X.ex = []
theorem pmk_x (C : Cxt X N sc P w K mg base k0) {x : Str} {ks : List Str} {p pos : Pos} {e : Expr} {es : List Expr} (D : XDef P w K mg x ks) (hk : 2 ≤ k0) (hg : (x : Str) ∈ sc.g)
    (hs : starEach (e :: es) X.env = (false, eval e X.env) :: starEach es X.env) (hn : ∀ pos, (backTo pos (starEach es X.env)).any (·.1) = false) (hh : sc.hot = false) :
    PMk X (.Call (.Name x p) (e :: es) [] pos) (fun σ H Q => cA X (e :: es) σ H fun vs H1 => vs.length = ks.length ∧ ∀ Ca d od, PySem.W.nsIn K mainGlobals x = some (some (.ref Ca)) → H1 d = none → Q (.ref Ca) (some d) (upd H1 d (.frz od (.xd (ks.zip vs))))) := by
  intro pins s σ H Q I h
  obtain rfl := C.hP
  obtain rfl := C.hw
  obtain rfl := C.hK
  obtain rfl := C.hmg
  obtain rfl := C.hbase
  obtain ⟨Ca, hm, hn2, hkp, mk, rd⟩ := D.ex
  refine wpAny_Call_Name_kw (ld_glob I (C.gl x hg).1 hm (PySem.W.callWith_K (h₀ := X.base) I.ok.mod.kin hkp (thn (h pos pins s I) ?_) hs (hn pos)) (C.gl _ hg).2.1)
  rintro us s1 ⟨vs, H1, I1, rv, hl, q⟩
  refine ⟨I1.kIn, ?_⟩
  obtain ⟨mb, b1, b2⟩ := I1.mod.blt
  have hlu : us.length = ks.length := by rw [← rv.length]; exact hl
  show wpAny _ _ (call (.ref Ca) us) _ _ _
  refine mk X.A X.xe s1 us mb _ ((C.room hh).mono hk) I1.kIn I1.nolimit (I1.mod.glob.keeps I1.bk) (b1.keeps I1.bk) ((b2 _ (by decide +kernel)).trans PyProof.Rows.Boot.«super») hlu fun a d h' tk md => ?_
  obtain ⟨G, od, k1, ga, na, nd, J⟩ := adopt (tk := tk) I1 md rv
  obtain ⟨t0, ho⟩ := md.ob
  exact ⟨a, _, _, _, _, .ref Ca, some d, rfl, J, k1, ga, ho, ⟨rfl, rfl⟩, rfl, rfl, by rw [upd_ne (Ne.symm md.ne)]; exact na, rfl, J.bare, raises_own rd.bx rd.ty, q Ca d od hn2 nd⟩
/-- raise C(..) -/
theorem ws_raise (C : Cxt X N sc P w K mg base k0) {E2 : XE2} (TX : Tks X E2) {x : Str} {ks : List Str} {p pos pos' : Pos} {e : Expr} {es : List Expr} {E : Ends2} (D : XDef P w K mg x ks) (hk : 2 ≤ k0) (hg : (x : Str) ∈ sc.g)
    (hs : starEach (e :: es) X.env = (false, eval e X.env) :: starEach es X.env) (hn : ∀ pos, (backTo pos (starEach es X.env)).any (·.1) = false) (h : WA X (e :: es) ρ M fun ds M1 => XnOk ds ks (E2 x ks ds ρ M1)) (hh : sc.hot = false := by first | k_dflt rfl | assumption) :
    WS X (.Raise (some (.Call (.Name x p) (e :: es) [] pos)) none pos') E ρ M := fun σ H r => by
  refine cS_of (ps_raise (C.calm hh) TX.tk (pmk_x C D hk hg hs hn hh)) ?_
  obtain rfl := C.hK
  refine cA_mono ?_ (h σ H r)
  rintro vs H1 ⟨ds, M1, dn, r1, t1, hl, q⟩
  refine ⟨by rw [dn.length]; exact hl, fun Ca d od hn2 hd => ?_⟩
  have tk1 : TK X.K H1 (upd H1 d (.frz od (.xd (ks.zip vs)))) := TK.fresh hd
  exact ⟨x, ks, ds, ρ, M1, ⟨Ca, d, od, vs, rfl, hn2, rfl, upd_same, dn.mono tk1⟩, r1.newT hd, q⟩
/-! ### a def that may let exceptions out -/
theorem cxt_ofX {N ps : List Str} {sc : Nms} {qual : Str} {scope : Scope} {f : Addr} {cd : Value} {A : Around} {outer : List Env} {s : Shared} {H : Hp} {E : XK} {k : Nat} (S : FnScope N ps scope) (ok : sc.ok scope = true) (hr : Room k (A.deeper (envOfC qual scope s.heap.objs.size f cd))) (hg : A.guards = some []) :
    Cxt (cxOf (L2.CX P w) P w K mg base N qual scope f cd A outer s H E) N sc P w K mg base k :=
  { cxt_of (CX := L2.CX P w) (P := P) (w := w) (K := K) (mg := mg) (base := base) (qual := qual) (f := f) (cd := cd) (outer := outer) (s := s) (H := H) (E := E) S ok hr hg with never := passes_of (X := cxOf (L2.CX P w) P w K mg base N qual scope f cd A outer s H E) rfl }
theorem fn2x_of {x qual : Str} {st : Stmt} {f : Addr} {fd : FuncData} {N ps : List Str} {k : Nat} {sp : Sp2} (F : Fun K x qual st f fd) (S : FnScope N ps (defScope st)) {sc : Nms} (ok : sc.ok (defScope st) = true) (len : ∀ ds M Q E, sp ds M Q E → ds.length = ps.length)
    (hbody : ∀ (X : Cx) (ds : List D) (M : Mem) (Q : QE) (E : XQ), Cxt X N sc P w K mg base k → Tks X (fun n ks es _ M' => E n ks es M') → sp ds M Q E → WSs X (defBody st) { nx := fun _ M' => Q .non M', rt := Q } (start2 N ds) M) : Fn2 P w K mg base (k + 1) f fd ps sp := by
  obtain ⟨oc, od, kV, doc, pm, an, cdv, ct, osl, rfl, lk, hcd⟩ := F.ex
  refine ⟨len, ?_⟩
  intro A outer s H args us vs ds M Q E hr hg e0 hb r dl rp h
  have hl : vs.length = ps.length := dl.length.trans (len _ _ _ _ h)
  have old : ∀ b o, base.get? b = some o → s.heap.get? b = some o := fun b o e => (e0.bs b o e).1
  have KX : K.In s.heap := e0.mod.kin.keeps old
  refine codeAny_call_function hr.depth (KX _ _ lk) rfl S.co S.gen rfl (PySem.W.codeRec_of KX hcd) (hb _ _ _ _ (wpAny_newFunctionEnv_cells S.kind ?_ fun env he s1 ic => ?_))
  · rintro ⟨n, v⟩ hy
    exact (S.par n (List.of_mem_zip hy).1).elim .inl fun q => .inr ⟨q, PySem.W.cellsFrom_some _ _ _ (.inl q)⟩
  · subst he
    refine ⟨(e0.mod.nolimit.keeps old).keeps ic.toInCall.keep, codeAny_func ?_⟩
    have I := inv_start (CX := L2.CX P w) (E := XL K H E) S hr.hd e0 hl r ic
    have C := cxt_ofX (P := P) (w := w) (K := K) (mg := mg) (base := base) (qual := qual) (f := f) (cd := cdv) (outer := outer) (H := H) (E := XL K H E) (s := s) S ok (hr.deeper _) hg
    have tk0 : Takes (cxOf (L2.CX P w) P w K mg base N qual (defScope st) f cdv A outer s H (XL K H E)) (fun cls d _ H' => XL K H E cls d H') := takes_of rfl rfl rfl rfl
    have TX : Tks (cxOf (L2.CX P w) P w K mg base N qual (defScope st) f cdv A outer s H (XL K H E)) (fun n ks es _ M' => E n ks es M') := ⟨fun u s' xe => by
      obtain ⟨a, B, sI, pins, σ, H', cls, d, e, I', nb, up, sky, na, os, ag, n, ks, es, ρ', M', xd, r', q⟩ := xe
      exact tk0 u s' ⟨a, B, sI, pins, σ, H', cls, d, e, I', nb, up, sky, na, os, ag, n, ks, es, M', xd, r'.rep, un_tk I'.base, q⟩, rfl, rfl, rfl⟩
    have W := hbody _ ds M Q E C TX h (L2.start N vs) H ⟨start_env dl, rp⟩
    have W2 := (pssC (X := cxOf (L2.CX P w) P w K mg base N qual (defScope st) f cdv A outer s H (XL K H E)) (st := defBody st)).run [] s1 (L2.start N vs) H _ I W
    refine wpAny_mono W2 (fun fl s' hs => ?_) fun _ _ z => z
    cases fl with
    | next =>
      obtain ⟨σ', H', J, ρ', M', r', t', q⟩ := hs
      exact ⟨.non, H', J.os, J.bare, J.base, J.hok, rfl, .non, M', den_non.mpr rfl, r'.rep, t', q⟩
    | ret u =>
      obtain ⟨v, σ', H', J, rv, q⟩ := hs
      exact ⟨v, H', J.os, J.bare, J.base, J.hok, rv, q⟩
    | brk => obtain ⟨_, _, _, _, _, _, _, q⟩ := hs; exact q.elim
    | cont => obtain ⟨_, _, _, _, _, _, _, q⟩ := hs; exact q.elim
/-! ### a call that may let exceptions out -/
theorem we_callX (C : Cxt X N sc P w K mg base k0) {E2 : XE2} (TX : Tks X E2) {x : Str} {p pos : Pos} {e : Expr} {es : List Expr} {k : Nat} {ps : List Str} {sp : Sp2} {Q : QE} (G : Def2 P w K mg base k x ps sp) (hk : k ≤ k0) (hg : (x : Str) ∈ sc.g)
    (hs : starEach (e :: es) X.env = (false, eval e X.env) :: starEach es X.env) (hn : ∀ pos, (backTo pos (starEach es X.env)).any (·.1) = false) (h : WA X (e :: es) ρ M fun ds M1 => sp ds M1 Q fun n ks es M2 => E2 n ks es ρ M2) (hh : sc.hot = false := by first | k_dflt rfl | assumption) : WE X (.Call (.Name x p) (e :: es) [] pos) ρ M Q := fun σ H rr pins s I => by
  obtain rfl := C.hP
  obtain rfl := C.hw
  obtain rfl := C.hK
  obtain rfl := C.hmg
  obtain rfl := C.hbase
  obtain ⟨f, fd, hm, hkp, hb, F⟩ := G.ex
  refine wpAny_Call_Name_kw (ld_glob I (C.gl x hg).1 hm (PySem.W.callWith_K (h₀ := X.base) I.ok.mod.kin hkp (thn (h σ H rr pos pins s I) ?_) hs (hn pos)) (C.gl _ hg).2.1)
  rintro us s1 ⟨vs, H1, I1, rv, ds, M1, dn, r1, t1, q⟩
  refine ⟨I1.kIn, ?_⟩
  have hl : us.length = ps.length := by rw [← rv.length, dn.length]; exact F.len _ _ _ _ q
  have hb' := hb s1 us I1.kIn (by simpa using hl)
  rw [List.append_nil] at hb'
  have run := F.run X.A X.stack s1 H1 ⟨us, []⟩ us vs ds M1 Q _ ((C.room hh).mono hk) C.gd I1.env0 hb' rv dn r1.rep q
  refine wpAny_call (codeAny_mono run fun r s' hq => ?_)
  cases r with
  | error e =>
    refine TX.tk e s' (XE.of_call I1 (fun cls d H' z => ?_) hq)
    obtain ⟨n, ks, es', M', xd, rp', tk', q'⟩ := z
    exact ⟨n, ks, es', ρ, M', xd, ⟨r1.env.mono tk', rp'⟩, q'⟩
  | ok fl =>
    cases fl with
    | ret u =>
      obtain ⟨v, H', os, bare, un, hok, rv', d, M', dn', rp', tk', qq⟩ := hq
      exact I1.after ⟨v, H', os, bare, un, hok, rv', d, M', dn', ⟨r1.env.mono tk', rp'⟩, t1.trans tk', qq⟩
    | next => exact hq.elim
    | brk => exact hq.elim
    | cont => exact hq.elim
end
end Y

set_option Elab.async false
set_option linter.all false
set_option autoImplicit false
set_option maxRecDepth 100000
set_option maxHeartbeats 4000000
/-! try: several clauses, a class or two named, the exception kept as a value -/
namespace Y
open PySem PySem.Spec PySem.Calls PyProof.Rows L2

/-! ### what flies, over a heap that has grown -/
theorem fly_grow {B : Heap} {l : List Env} {e : Addr} {Z : Obj → Prop} {h h' : Heap} (x : HandSPX.FlyingZ B l e Z h) (k : ∀ b o, h.get? b = some o → h'.get? b = some o) : HandSPX.FlyingZ B l e Z h' := by
  obtain ⟨x1, x2, x3, oe, vs, T, oT, ts, he, hz, hd, h1, hnT, hTe, hT, hdT, h3⟩ := x
  exact ⟨fun b o z => k b o (x1 b o z), x2, x3.of_keeps fun b o z _ => ⟨o, k b o z, rfl⟩, oe, vs, T, oT, ts, k _ _ he, hz, hd, h1, hnT, hTe, k _ _ hT, hdT, h3⟩
/-- how a clause's test answers, by the class of what is caught -/
structure Tst (X : Cx) (te : Expr) (tst : Value → Option Bool) : Prop where
  run : ∀ (a : Addr) (oe : Obj) (pn pins : List (Addr × Obj)) (σ : L2.St) (H : Hp) (s : Shared) (b : Bool) (Q : Bool → Shared → Prop) (E : Value → Shared → Prop), Inv (X.suite a ((a, oe) :: pn)) pins σ H s → tst oe.cls = some b →
    (∀ h' tk, (∀ c o, s.heap.get? c = some o → h'.get? c = some o) → Q b { s with heap := h', toks := tk }) →
    wpAny (model X.prog X.w) (X.A.mark (some (.ref a))) (eval te X.env) (fun c s₁ => wpAny (model X.prog X.w) (X.A.mark (some (.ref a))) (excMatches (.ref a) c) Q E s₁) E s
theorem tst_ld {X : Cx} {x : Str} {c : Value} {np : Pos} {a : Addr} {oe : Obj} {pn pins : List (Addr × Obj)} {σ : L2.St} {H : Hp} {s : Shared} {Q : Value → Shared → Prop} {E : Value → Shared → Prop} (hc : Names X x c) (I : Inv (X.suite a ((a, oe) :: pn)) pins σ H s) (q : Q c s) :
    wpAny (model X.prog X.w) (X.A.mark (some (.ref a))) (eval (.Name x np) X.env) Q E s := by
  obtain ⟨hg, hdbg, hm | ⟨hm, hv, hnn⟩⟩ := hc
  · exact ld_glob (X := X.suite a ((a, oe) :: pn)) I hg hm q hdbg
  · exact ld_blt (X := X.suite a ((a, oe) :: pn)) I hg hm hv q hnn hdbg
theorem tst_look {X : Cx} {a : Addr} {oe : Obj} {pn pins : List (Addr × Obj)} {σ : L2.St} {H : Hp} {s : Shared} (I : Inv (X.suite a ((a, oe) :: pn)) pins σ H s) : PySem.W.Looks (model X.prog X.w) s.heap (typeOf (.ref a)) oe.cls := fun A Q E s' k q =>
  wpAny_typeOf_ref (k _ _ (I.pin (a, oe) (List.mem_append_left _ List.mem_cons_self)).1) q
theorem tst_one {X : Cx} {x : Str} {c : Value} {np : Pos} (hc : Names X x c) : Tst X (.Name x np) (fun cls => PySem.W.exmOne X.K cls c) :=
  ⟨fun a oe pn pins σ H s b Q E I e q => tst_ld hc I ((PySem.W.exm_one I.kIn (tst_look I) e).here (q s.heap s.toks fun _ _ z => z))⟩
theorem tst_two {X : Cx} {x y : Str} {c d : Value} {np mp tp : Pos} {kk : Nat} (hc : Names X x c) (hd : Names X y d) : Tst X (.Tuple [.Name x np, .Name y mp] kk tp) (fun cls => PySem.W.exmAny X.K cls [c, d]) :=
  ⟨fun a oe pn pins σ H s b Q E I e q => by
    refine wpAny_Tuple ?_
    refine wpAny_items_cons (tst_ld hc I ?_)
    refine wpAny_items_cons (tst_ld hd I ?_)
    refine wpAny_items_nil ⟨by size_fits, ?_⟩
    have kp : ∀ q o, s.heap.get? q = some o → (s.heap.push { cls := .type "tuple", data := .seq [c, d].toArray }).get? q = some o := fun _ _ z => Heap.get?_push_of_some _ z
    have X1 : X.K.In s.heap := I.kIn
    exact (PySem.W.exm_tup2 (X1.keeps kp) ((tst_look I).keeps kp) (Heap.get?_push_size s.heap rfl) e).here (q _ _ kp)⟩

/-- a clause: its test, the slot of its name, its suite -/
structure HdS where
  tst : Value → Option Bool
  slot : Option Nat
  ts : Addr → TS
def wipeD (D : Ends) : Option Nat → Ends
  | none => D
  | some i => { nx := fun σ' H' => D.nx (σ'.set i none) H', rt := D.rt, bk := fun σ' H' => D.bk (σ'.set i none) H', ct := fun σ' H' => D.ct (σ'.set i none) H' }
def putS (σ : L2.St) (a : Addr) : Option Nat → L2.St
  | none => σ
  | some i => σ.set i (some (.ref a))
/-- what the clauses wish of an exception of the body -/
def wHds (Wout : WX) (D : Ends) : List HdS → WX
  | [] => Wout
  | h :: r => fun cls d σ H => ∃ b, h.tst cls = some b ∧ (b = true → ∀ a oe, H a = none → oe.cls = cls → oe.dict = d → (∃ ws, oe.data = .fields ws) → h.ts a (wipeD D h.slot) (putS σ a h.slot) (upd H a (.frz oe (.own a)))) ∧ (b = false → wHds Wout D r cls d σ H)
inductive HdsX (X : Cx) : List ExceptHandler → List HdS → Prop
  | nil : HdsX X [] []
  | bare {te : Expr} {tst : Value → Option Bool} {ts : Addr → TS} {b₀ : Stmt} {suite : List Stmt} {pos : Pos} {hds : List ExceptHandler} {l : List HdS} (ht : Tst X te tst) (hs : ∀ (a : Addr) (pn : List (Addr × Obj)), PSs (X.suite a pn) (b₀ :: suite) (ts a)) (r : HdsX X hds l) :
      HdsX X (.ExceptHandler (some te) none (b₀ :: suite) pos :: hds) (⟨tst, none, ts⟩ :: l)
  | named {te : Expr} {tst : Value → Option Bool} {ts : Addr → TS} {b₀ : Stmt} {suite : List Stmt} {pos : Pos} {n : Str} {i : Nat} {hds : List ExceptHandler} {l : List HdS} (ht : Tst X te tst) (hi : X.N[i]? = some n) (hl : X.env.kindOf n = some .local)
      (hs : ∀ (a : Addr) (pn : List (Addr × Obj)), PSs (X.suite a pn) (b₀ :: suite) (ts a)) (r : HdsX X hds l) : HdsX X (.ExceptHandler (some te) (some n) (b₀ :: suite) pos :: hds) (⟨tst, some i, ts⟩ :: l)
section
variable {X : Cx} {pins : List (Addr × Obj)} {σ : L2.St} {H : Hp} {s : Shared}
/-- the exception, kept as a frozen thing -/
theorem keepX (I : Inv X pins σ H s) {a : Addr} {oe : Obj} {vs : Array Value} (ha : s.heap.get? a = some oe) (na : H a = none) (n0 : X.s_0.heap.get? a = none) (nL : a ≠ X.env.locals) (hd : oe.data = .fields vs) (npn : ∀ p ∈ X.pn ++ pins, p.1 ≠ a) : Inv X pins σ (upd H a (.frz oe (.own a))) s := by
  refine ⟨I.ok, I.os, I.bare, ⟨I.base.keep, I.base.slot, fun b o e n hx => ?_, I.base.there, fun b xs e => ?_, fun b o u e => ?_, fun b ps e => ?_⟩, I.loc, I.cell, ?_, fun x c e => ?_, fun p hp => ?_, fun b o e => ?_, I.len⟩
  · have hb : b ≠ a := fun z => by rw [z, n0] at e; cases e
    rw [upd_ne hb]; exact I.base.free b o e n hx
  · have z := I.base.tups b xs e
    rw [upd_ne (ne_of_none z na)]; exact z
  · have z := I.base.frzs b o u e
    rw [upd_ne (ne_of_none z na)]; exact z
  · obtain ⟨more, z⟩ := I.base.tbls b ps e
    exact ⟨more, by rw [upd_ne (ne_of_none z na)]; exact z⟩
  · rw [upd_ne (Ne.symm nL)]; exact I.free
  · have hc : c ≠ a := fun z => by
      obtain ⟨v, o, ho, hcd⟩ := I.cell x c e
      rw [z, ha] at ho
      cases ho
      rw [hd] at hcd
      cases hcd
    rw [upd_ne hc]; exact I.freeC x c e
  · obtain ⟨e, n, ne, nf, d⟩ := I.pin p hp
    exact ⟨e, by rw [upd_ne (npn p hp)]; exact n, ne, nf, d⟩
  · by_cases hb : b = a
    · subst hb
      rw [upd_same] at e
      cases e
      exact ⟨ha, ⟨oe, ha⟩⟩
    · rw [upd_ne hb] at e
      exact (I.hok b o e).stay (fun c v hc z => z) (fun c hc => by rw [upd_ne (ne_of_none hc na)]; exact hc) fun c xs hc => by rw [upd_ne (ne_of_none hc na)]; exact hc
theorem suite0 (I : Inv X pins σ H s) (a : Addr) : Inv (X.suite a (X.pn ++ pins)) [] σ H s :=
  ⟨I.ok.suite _ _, I.os, I.bare, I.base, I.loc, I.cell, I.free, I.freeC, fun p hp => I.pin p (by rw [List.append_nil] at hp; exact hp), I.hok, I.len⟩
theorem unsuite0 {a : Addr} {pn' : List (Addr × Obj)} (I : Inv (X.suite a (X.pn ++ pins)) pn' σ H s) (ok : X.Ok) : Inv X pins σ H s :=
  ⟨ok, I.os, I.bare, I.base, I.loc, I.cell, I.free, I.freeC, fun p hp => I.pin p (List.mem_append_left _ hp), I.hok, I.len⟩
end
section
variable {X : Cx} {body : List Stmt} {hds : List ExceptHandler} {l : List HdS} {pos : Pos} {tb : WX → TS} {Wout : WX}
theorem ps_tryX {h₀ : ExceptHandler} (hs : X.stack = X.env :: X.outer) (hf : X.env.frame = some X.env.locals) (hN : X.N.Nodup) (hex : X.ex = []) (tk : Takes X Wout)
    (hb : ∀ (W : WX) (pn : List (Addr × Obj)) (xe : Value → Shared → Prop), Takes (X.tr pn xe) W → PassesOwn (model X.prog X.w) X.A X.env xe → PSs (X.tr pn xe) body (tb W))
    (hh : HdsX X (h₀ :: hds) l) : PS X (.Try body (h₀ :: hds) [] [] pos) (fun D σ H => tb (wHds Wout D l) D σ H) := by
  refine ⟨fun pins s σ H D I h => ?_⟩
  have ok := I.ok
  have hfr : X.A.frames = some (X.env :: X.outer) := by rw [ok.frames, hs]
  refine wpAny_Try_except ?_
  refine wpAny_mono ((hb (wHds Wout D l) (X.pn ++ pins) (fun e s₁ => wpAny (model X.prog X.w) X.A (noteFrame e X.env) (fun _ s₂ => wpAny (model X.prog X.w) X.A (setFlight e none) (fun _ s₃ =>
    wpAny (model X.prog X.w) X.A (handleBy e X.env (h₀ :: hds)) (SP X pins D) X.xe s₃) X.xe s₂) X.xe s₁) (fun u s' xx => ?_) PassesOwn.looking).run [] s σ H D (I.toTry _) h) (fun f s1 hsp => ?_) (fun e s1 he => he)
  · obtain ⟨a, B, sI, pins', σ', H', cls, d, rfl, J', nb, up, sky, na, os, ag, w⟩ := xx
    have J : Inv X pins σ' H' sI := J'.ofTry ok
    have sky' : Sky B (X.env :: X.outer) a (Zc cls d) X.env.locals s'.heap := by rw [← hs]; exact sky
    show wpAny (model X.prog X.w) X.A (noteFrame (.ref a) X.env) _ _ _
    refine Sky.land Zc.steady hfr hf sky' fun h3 fl3 up3 => ?_
    obtain ⟨hp, g, dr, tk0, os'⟩ := s'
    have nfr : ∀ {h : Heap}, HandSPX.FlyingZ B (X.env :: X.outer) a (Zc cls d) h → a ∉ frs (X.env :: X.outer) := fun {h} fl hm => by
      obtain ⟨oe, vs, he, hz, hd⟩ := fl.there
      obtain ⟨_, o', e', hnf⟩ := fl.2.2.1.mem hm
      rw [he] at e'; cases e'
      exact hnf _ hd
    have aI : sI.heap.get? a = none := by
      cases e : sI.heap.get? a with
      | none => rfl
      | some o =>
        have z := nb a o e (by rw [hs]; exact nfr fl3)
        rw [fl3.2.1] at z; cases z
    have a0 : X.s_0.heap.get? a = none := by
      cases e : X.s_0.heap.get? a with
      | none => rfl
      | some o =>
        obtain ⟨o', z⟩ := J.base.there a o e (by rw [hex]; simp)
        rw [aI] at z; cases z
    have aL : a ≠ X.env.locals := fun z => nfr fl3 (List.mem_filterMap.mpr ⟨X.env, List.mem_cons_self, by rw [hf, z]⟩)
    have aF : a ∉ X.fs := fun hm => by
      obtain ⟨e, he, q⟩ := List.mem_filterMap.mp hm
      exact nfr fl3 (List.mem_filterMap.mpr ⟨e, List.mem_cons_of_mem _ he, q⟩)
    have aP : ∀ p ∈ X.pn ++ pins, p.1 ≠ a := fun p hp z => by
      have := (J.pin p hp).1
      rw [z, aI] at this; cases this
    have land : ∀ {h : Heap} {t : Nat}, HandSPX.FlyingZ B (X.env :: X.outer) a (Zc cls d) h → sI.heap.UpToSlots h → Inv X pins σ' H' ⟨h, g, dr, t, os'⟩ := fun {h t} fl u => J.landed (s' := ⟨h, g, dr, t, os'⟩) nb fl.1 u os ag
    have go : ∀ {hds' : List ExceptHandler} {l' : List HdS}, HdsX X hds' l' → ∀ (h : Heap) (t : Nat), HandSPX.FlyingZ B (X.env :: X.outer) a (Zc cls d) h → sI.heap.UpToSlots h → wHds Wout D l' cls d σ' H' →
        wpAny (model X.prog X.w) X.A (handleBy (.ref a) X.env hds') (SP X pins D) X.xe ⟨h, g, dr, t, os'⟩ := by
      intro hds' l' hk
      induction hk with
      | nil =>
        intro h t fl u w
        refine wpAny_handleBy_nil ?_
        obtain ⟨k1, k2, k3, oe, vs, T, oT, ts', he, hz, hd, h1, hr⟩ := id fl
        unfold PySem.passOn
        refine wpAny_bind (wpAny_field he hd h1 ?_)
        rw [if_neg (show ¬ ((Value.ref T == Value.none) = true) from by simp)]
        have fin : wpAny (model X.prog X.w) X.A (setFlight (.ref a) X.env.frame) (fun _ s4 => wpAny (model X.prog X.w) X.A (throw (.ref a) : Sem Flow) (SP X pins D) X.xe s4) X.xe ⟨h, g, dr, t, os'⟩ := by
          rw [hf]
          refine HandSPX.setFlight_upZ fl fun h4 hh4 up4 => wpAny_throw (tk _ _ ?_)
          exact ⟨a, B, sI, pins, σ', H', cls, d, rfl, J, nb, u.trans up4, .inr (.inr (by rw [hs]; exact hh4)), na, os, ag, w⟩
        first
          | exact wpAny_bind (wpAny_pure (wpAny_bind fin))
          | exact wpAny_bind fin
      | @bare te tst ts b₀ suite pos' hds2 l2 ht hsu r ih =>
        intro h t fl u w
        obtain ⟨b, hb1, hyes, hno⟩ := w
        obtain ⟨oe, vs, he, hz, hd⟩ := fl.there
        have S : Inv (X.suite a ((a, oe) :: (X.pn ++ pins))) [] σ' H' ⟨h, g, dr, t, os'⟩ := (land fl u).suite he hd na aL aF
        refine wpAny_handleBy_cons (codeAny_handlers_test ?_) (by intro q; cases q)
        refine ht.run a oe (X.pn ++ pins) [] σ' H' _ b _ _ S (by rw [hz.1]; exact hb1) fun h5 t5 k5 => ?_
        have fl5 := fly_grow fl k5
        have u5 : sI.heap.UpToSlots h5 := u.trans (Heap.UpToSlots.of_keeps k5)
        cases b with
        | true =>
          refine codeAny_handlers_suite ?_
          refine HandSPX.lands_againZ fl5 fun h4 fl4 up4 => ?_
          obtain ⟨oe4, vs4, he4, hz4, hd4⟩ := fl4.there
          have S4 := keepX (suite0 (land (t := t5) fl4 (u5.trans up4)) a) he4 na a0 aL hd4 (fun p hp => aP p (by rw [List.append_nil] at hp; exact hp))
          refine wpAny_mono ((hsu a (X.pn ++ pins)).run [] _ _ _ _ S4 (hyes rfl a oe4 na hz4.1 hz4.2 ⟨_, hd4⟩)) (fun f s6 hsp => ?_) (fun _ _ z => False.elim z)
          cases f with
          | next => obtain ⟨σ6, H6, S6, q6⟩ := hsp; exact ⟨_, _, unsuite0 S6 ok, q6⟩
          | brk => obtain ⟨σ6, H6, S6, q6⟩ := hsp; exact ⟨_, _, unsuite0 S6 ok, q6⟩
          | cont => obtain ⟨σ6, H6, S6, q6⟩ := hsp; exact ⟨_, _, unsuite0 S6 ok, q6⟩
          | ret u => obtain ⟨v6, σ6, H6, S6, r6, q6⟩ := hsp; exact ⟨_, _, _, unsuite0 S6 ok, r6, q6⟩
        | false => exact ih h5 t5 fl5 u5 (hno rfl)
      | @named te tst ts b₀ suite pos' n i hds2 l2 ht hi hln hsu r ih =>
        intro h t fl u w
        obtain ⟨b, hb1, hyes, hno⟩ := w
        obtain ⟨oe, vs, he, hz, hd⟩ := fl.there
        have S : Inv (X.suite a ((a, oe) :: (X.pn ++ pins))) [] σ' H' ⟨h, g, dr, t, os'⟩ := (land fl u).suite he hd na aL aF
        refine wpAny_handleBy_cons (codeAny_handlers_test ?_) (by intro q; cases q)
        refine ht.run a oe (X.pn ++ pins) [] σ' H' _ b _ _ S (by rw [hz.1]; exact hb1) fun h5 t5 k5 => ?_
        have fl5 := fly_grow fl k5
        have u5 : sI.heap.UpToSlots h5 := u.trans (Heap.UpToSlots.of_keeps k5)
        cases b with
        | true =>
          refine codeAny_handlers_suite_as ?_
          refine HandSPX.lands_againZ fl5 fun h4 fl4 up4 => ?_
          obtain ⟨oe4, vs4, he4, hz4, hd4⟩ := fl4.there
          have S4 := keepX (suite0 (land (t := t5) fl4 (u5.trans up4)) a) he4 na a0 aL hd4 (fun p hp => aP p (by rw [List.append_nil] at hp; exact hp))
          refine store_ok (X := X.suite a (X.pn ++ pins)) (v := .ref a) S4 hN hi (.inl hln) rfl (fun s5 S5 => ?_) (.inr hln)
          refine wpAny_mono ((hsu a (X.pn ++ pins)).run [] s5 _ _ _ S5 (hyes rfl a oe4 na hz4.1 hz4.2 ⟨_, hd4⟩)) (fun f s6 hsp => ?_) (fun _ _ z => False.elim z)
          have end_ : ∀ {σ6 : L2.St} {H6 : Hp} {Q : Shared → Prop}, Inv (X.suite a (X.pn ++ pins)) [] σ6 H6 s6 → (∀ s7, Inv X pins (σ6.set i none) H6 s7 → Q s7) →
              wpAny (model X.prog X.w) X.A (do bindName X.env n .none; unbindBehindTheSuite X.env n pos') (fun _ s7 => Q s7) X.xe s6 := fun {σ6 H6 Q} S6 hq => gone_ok (unsuite0 S6 ok) hN hi hln hq
          cases f with
          | next => obtain ⟨σ6, H6, S6, q6⟩ := hsp; exact end_ S6 fun s7 J7 => ⟨_, _, J7, q6⟩
          | brk => obtain ⟨σ6, H6, S6, q6⟩ := hsp; exact end_ S6 fun s7 J7 => ⟨_, _, J7, q6⟩
          | cont => obtain ⟨σ6, H6, S6, q6⟩ := hsp; exact end_ S6 fun s7 J7 => ⟨_, _, J7, q6⟩
          | ret u => obtain ⟨v6, σ6, H6, S6, r6, q6⟩ := hsp; exact end_ S6 fun s7 J7 => ⟨_, _, _, J7, r6, q6⟩
        | false => exact ih h5 t5 fl5 u5 (hno rfl)
    exact go hh h3 tk0 fl3 (up.trans up3) w
  · cases f with
    | next => obtain ⟨σ', H', J', q⟩ := hsp; exact wpAny_execs_nil ⟨σ', H', J'.ofTry ok, q⟩
    | brk => obtain ⟨σ', H', J', q⟩ := hsp; exact ⟨σ', H', J'.ofTry ok, q⟩
    | cont => obtain ⟨σ', H', J', q⟩ := hsp; exact ⟨σ', H', J'.ofTry ok, q⟩
    | ret u => obtain ⟨v, σ', H', J', r, q⟩ := hsp; exact ⟨v, σ', H', J'.ofTry ok, r, q⟩
end
end Y

set_option Elab.async false
set_option linter.all false
set_option autoImplicit false
set_option maxRecDepth 100000
set_option maxHeartbeats 4000000
/-! the second layer's try; isinstance of an own exception; its fields -/
namespace Y
open PySem PySem.Spec PySem.Calls PyProof.Rows L2

/-! ### expressions and statements that may let an exception out -/
/-- an own exception, seen from an earlier heap -/
def XW (K : PySem.W.Frag) (E : XE2) (H : Hp) : WX := fun cls d σ' H' => ∃ n ks ds ρ' M', XD K n ks ds cls d H' ∧ R K ρ' M' σ' H' ∧ TK K H H' ∧ E n ks ds ρ' M'
theorem XW.back {K : PySem.W.Frag} {E : XE2} {H H1 : Hp} (t : TK K H H1) {c : Value} {d : Option Addr} {σ : L2.St} {H' : Hp} (h : XW K E H1 c d σ H') : XW K E H c d σ H' := by
  obtain ⟨n, ks, ds, ρ, M, a, b, t1, e⟩ := h
  exact ⟨n, ks, ds, ρ, M, a, b, t.trans t1, e⟩
def WEX (X : Cx) (e : Expr) (ρ : St2) (M : Mem) (Q : QE) (E : XE2) : Prop := ∀ σ H, R X.K ρ M σ H → Takes X (XW X.K E H) → cE X e σ H (LE X.K ρ σ H Q)
def WSX (X : Cx) (sts : List Stmt) (En : Ends2) (ρ : St2) (M : Mem) (E : XE2) : Prop := ∀ σ H, R X.K ρ M σ H → Takes X (XW X.K E H) → cSs X sts (LS X.K H En) σ H
section
variable {X : Cx} {ρ : St2} {M : Mem} {N : List Str} {sc : Nms} {P : Program} {w : World} {K : PySem.W.Frag} {mg : Str → Option Value} {base : Heap} {k0 : Nat} {E : XE2}
theorem wex_we {e : Expr} {Q : QE} (h : WE X e ρ M Q) : WEX X e ρ M Q E := fun σ H r _ => h σ H r
theorem wex_call (C : Cxt X N sc P w K mg base k0) {x : Str} {p pos : Pos} {e : Expr} {es : List Expr} {k : Nat} {ps : List Str} {sp : Sp2} {Q : QE} (G : Def2 P w K mg base k x ps sp) (hk : k ≤ k0) (hg : (x : Str) ∈ sc.g)
    (hs : starEach (e :: es) X.env = (false, eval e X.env) :: starEach es X.env) (hn : ∀ pos, (backTo pos (starEach es X.env)).any (·.1) = false) (h : WA X (e :: es) ρ M fun ds M1 => sp ds M1 Q fun n ks es M2 => E n ks es ρ M2) (hh : sc.hot = false := by first | k_dflt rfl | assumption) : WEX X (.Call (.Name x p) (e :: es) [] pos) ρ M Q E := fun σ H rr tk0 pins s I => by
  obtain rfl := C.hP
  obtain rfl := C.hw
  obtain rfl := C.hK
  obtain rfl := C.hmg
  obtain rfl := C.hbase
  obtain ⟨f, fd, hm, hkp, hb, F⟩ := G.ex
  refine wpAny_Call_Name_kw (ld_glob I (C.gl x hg).1 hm (PySem.W.callWith_K (h₀ := X.base) I.ok.mod.kin hkp (thn (h σ H rr pos pins s I) ?_) hs (hn pos)) (C.gl _ hg).2.1)
  rintro us s1 ⟨vs, H1, I1, rv, ds, M1, dn, r1, t1, q⟩
  refine ⟨I1.kIn, ?_⟩
  have hl : us.length = ps.length := by rw [← rv.length, dn.length]; exact F.len _ _ _ _ q
  have hb' := hb s1 us I1.kIn (by simpa using hl)
  rw [List.append_nil] at hb'
  have run := F.run X.A X.stack s1 H1 ⟨us, []⟩ us vs ds M1 Q _ ((C.room hh).mono hk) C.gd I1.env0 hb' rv dn r1.rep q
  refine wpAny_call (codeAny_mono run fun r s' hq => ?_)
  cases r with
  | error e =>
    refine tk0 e s' (XE.of_call I1 (fun cls d H' z => ?_) hq)
    obtain ⟨n, ks, es', M', xd, rp', tk', q'⟩ := z
    exact ⟨n, ks, es', ρ, M', xd, ⟨r1.env.mono tk', rp'⟩, t1.trans tk', q'⟩
  | ok fl =>
    cases fl with
    | ret u =>
      obtain ⟨v, H', os, bare, un, hok, rv', d, M', dn', rp', tk', qq⟩ := hq
      exact I1.after ⟨v, H', os, bare, un, hok, rv', d, M', dn', ⟨r1.env.mono tk', rp'⟩, t1.trans tk', qq⟩
    | next => exact hq.elim
    | brk => exact hq.elim
    | cont => exact hq.elim
/-- [e] -/
theorem wex_one {e : Expr} {pos : Pos} {Q : QE} (hs : starEach [e] X.env = [(false, eval e X.env)]) (h : WEX X e ρ M (fun d M1 => ∀ p, M1 p = none → Q (.obj p) (mup M1 p (.lst [d]))) E) : WEX X (.List [e] pos) ρ M Q E := fun σ H r tk0 => by
  refine cE_of (pe_lst (pa_cons peC pa_nil hs)) ?_
  refine cE_mono ?_ (h σ H r tk0)
  rintro v H1 ⟨d, M1, dn, r1, t1, q⟩
  exact ⟨by show 1 ≤ sizeLine; decide, fun p hp => ⟨.obj p, _, den_obj.mpr rfl, r1.newL hp (DenL.cons dn DenL.nil), t1.trans (TK.fresh hp), q p (r1.rep.free hp)⟩⟩
theorem wsx_asg {tg e : Expr} {pos : Pos} {En : Ends2} (h1 : swapsWithSole [tg] e pos.line X.env = pure false) (h2 : swappedStores [tg] e X.env = pure none) (h3 : List.map (fun x => x.2) (assignEach [tg] X.env) = [assign tg X.env])
    (h : WEX X e ρ M (fun d M1 => WG X tg d ρ M1 En.nx) E) : WSX X [.Assign [tg] e pos] En ρ M E := fun σ H r tk0 => by
  refine cSs_of (pss_one psC) ?_
  refine cS_of (ps_asg peC pgC h1 h2 h3) ?_
  refine cE_mono ?_ (h σ H r tk0)
  rintro v H1 ⟨d, M1, dn, r1, t1, q⟩
  refine cG_mono ?_ (q v σ H1 r1 dn)
  rintro σ2 H2 ⟨ρ2, M2, r2, t2, q2⟩
  exact ⟨ρ2, M2, r2, t1.trans t2, q2⟩
theorem wsx_expr {e : Expr} {pos : Pos} {En : Ends2} (hs : swapsWith e none pos.line X.env = pure false) (h : WEX X e ρ M (fun _ M1 => En.nx ρ M1) E) : WSX X [.Expr e pos] En ρ M E := fun σ H r tk0 => by
  refine cSs_of (pss_one psC) ?_
  refine cS_of (ps_expr peC hs) ?_
  refine cE_mono ?_ (h σ H r tk0)
  rintro v H1 ⟨d, M1, dn, r1, t1, q⟩
  exact ⟨ρ, M1, r1, t1, q⟩
theorem wsx_ret {e : Expr} {pos : Pos} {En : Ends2} (h : WEX X e ρ M En.rt E) : WSX X [.Return (some e) pos] En ρ M E := fun σ H r tk0 => by
  refine cSs_of (pss_one psC) ?_
  refine cS_of (ps_ret peC) ?_
  refine cE_mono ?_ (h σ H r tk0)
  rintro v H1 ⟨d, M1, dn, r1, t1, q⟩
  exact ⟨d, M1, dn, r1.rep, t1, q⟩

/-! ### contexts -/
theorem Cxt.tr (C : Cxt X N sc P w K mg base k0) {pn : List (Addr × Obj)} {xe : Value → Shared → Prop} (nv : PassesOwn (model X.prog X.w) X.A X.env xe) : Cxt (X.tr pn xe) N sc P w K mg base k0 where
  hP := C.hP
  hw := C.hw
  hK := C.hK
  hmg := C.hmg
  hbase := C.hbase
  hN := C.hN
  nd := C.nd
  calm := C.calm
  vis := C.vis
  loc := C.loc
  lcl := C.lcl
  gl := C.gl
  fn := C.fn
  fr := C.fr
  kind := C.kind
  room := C.room
  gd := C.gd
  never := nv
abbrev Nms.inSuite (n : Nms) : Nms := { n with hot := true }
theorem Cxt.suite (C : Cxt X N sc P w K mg base k0) (a : Addr) (pn : List (Addr × Obj)) : Cxt (X.suite a pn) N sc.inSuite P w K mg base k0 where
  hP := C.hP
  hw := C.hw
  hK := C.hK
  hmg := C.hmg
  hbase := C.hbase
  hN := C.hN
  nd := C.nd
  calm := fun z => nomatch z
  vis := C.vis
  loc := C.loc
  lcl := C.lcl
  gl := C.gl
  fn := C.fn
  fr := C.fr
  kind := C.kind
  room := fun z => nomatch z
  gd := C.gd
  never := PassesOwn.never

/-! ### which class is under which -/
structure IsK (K : PySem.W.Frag) (n t : Str) (b : Bool) : Prop where
  ex : ∃ C D, PySem.W.nsIn K mainGlobals n = some (some (.ref C)) ∧ PySem.W.nsIn K mainGlobals t = some (some (.ref D)) ∧ PySem.W.kitOne K (.ref C) (.ref D) = some b ∧ PySem.W.exmOne K (.ref C) (.ref D) = some b
structure IsB (K : PySem.W.Frag) (n : Str) (T : String) (b : Bool) : Prop where
  ex : ∃ C, PySem.W.nsIn K mainGlobals n = some (some (.ref C)) ∧ PySem.W.kitOne K (.ref C) (.type T) = some b ∧ PySem.W.exmOne K (.ref C) (.type T) = some b
def isKB (K : PySem.W.Frag) (n t : Str) (b : Bool) : Bool := match PySem.W.nsIn K mainGlobals n, PySem.W.nsIn K mainGlobals t with
  | some (some (.ref C)), some (some (.ref D)) => decide (PySem.W.kitOne K (.ref C) (.ref D) = some b) && decide (PySem.W.exmOne K (.ref C) (.ref D) = some b)
  | _, _ => false
def isBB (K : PySem.W.Frag) (n : Str) (T : String) (b : Bool) : Bool := match PySem.W.nsIn K mainGlobals n with
  | some (some (.ref C)) => decide (PySem.W.kitOne K (.ref C) (.type T) = some b) && decide (PySem.W.exmOne K (.ref C) (.type T) = some b)
  | _ => false
theorem isKB_ok {n t : Str} {b : Bool} (h : isKB K n t b = true) : IsK K n t b := by
  unfold isKB at h
  split at h
  · rename_i C D e1 e2
    obtain ⟨h1, h2⟩ := Bool.and_eq_true_iff.mp h
    exact ⟨C, D, e1, e2, of_decide_eq_true h1, of_decide_eq_true h2⟩
  · cases h
theorem isBB_ok {n : Str} {T : String} {b : Bool} (h : isBB K n T b = true) : IsB K n T b := by
  unfold isBB at h
  split at h
  · rename_i C e1
    obtain ⟨h1, h2⟩ := Bool.and_eq_true_iff.mp h
    exact ⟨C, e1, of_decide_eq_true h1, of_decide_eq_true h2⟩
  · cases h
/-- a class's name, what of the own ones it is under, what of the built-in ones -/
abbrev CTab := List (Str × List Str × List String)
def tabB (K : PySem.W.Frag) (tab : CTab) (own : List Str) (bts : List String) : Bool := tab.all fun r => own.all (fun t => isKB K r.1 t (r.2.1.contains t)) && bts.all (fun T => isBB K r.1 T (r.2.2.contains T))
def rowK (tab : CTab) (own : List Str) (n t : Str) (b : Bool) : Bool := tab.any fun r => decide (r.1 = n) && (decide (t ∈ own) && decide (r.2.1.contains t = b))
def rowB (tab : CTab) (bts : List String) (n : Str) (T : String) (b : Bool) : Bool := tab.any fun r => decide (r.1 = n) && (decide (T ∈ bts) && decide (r.2.2.contains T = b))
theorem isK_of {tab : CTab} {own : List Str} {bts : List String} {n t : Str} {b : Bool} (h : tabB K tab own bts = true) (r : rowK tab own n t b = true) : IsK K n t b := by
  obtain ⟨x, hx, z⟩ := List.any_eq_true.mp r
  obtain ⟨h1, z⟩ := Bool.and_eq_true_iff.mp z
  obtain ⟨h2, h3⟩ := Bool.and_eq_true_iff.mp z
  have := List.all_eq_true.mp h x hx
  have := List.all_eq_true.mp (Bool.and_eq_true_iff.mp this).1 t (of_decide_eq_true h2)
  rw [of_decide_eq_true h1, of_decide_eq_true h3] at this
  exact isKB_ok this
theorem isB_of {tab : CTab} {own : List Str} {bts : List String} {n : Str} {T : String} {b : Bool} (h : tabB K tab own bts = true) (r : rowB tab bts n T b = true) : IsB K n T b := by
  obtain ⟨x, hx, z⟩ := List.any_eq_true.mp r
  obtain ⟨h1, z⟩ := Bool.and_eq_true_iff.mp z
  obtain ⟨h2, h3⟩ := Bool.and_eq_true_iff.mp z
  have := List.all_eq_true.mp h x hx
  have := List.all_eq_true.mp (Bool.and_eq_true_iff.mp this).2 T (of_decide_eq_true h2)
  rw [of_decide_eq_true h1, of_decide_eq_true h3] at this
  exact isBB_ok this

/-! ### try, with clauses that name own classes -/
/-- a clause: the classes, the slot of the name, the suite -/
structure HdI where
  cs : List Str
  slot : Option Nat
  suite : List Stmt
inductive HdY (N : List Str) (sc : Nms) (K : PySem.W.Frag) (mg : Str → Option Value) : List ExceptHandler → List HdI → Prop
  | nil : HdY N sc K mg [] []
  | b1 {x : Str} {p pos : Pos} {b₀ : Stmt} {suite : List Stmt} {hds : List ExceptHandler} {l : List HdI} (hx : x ∈ sc.g) (n : XNm K mg x) (r : HdY N sc K mg hds l) : HdY N sc K mg (.ExceptHandler (some (.Name x p)) none (b₀ :: suite) pos :: hds) (⟨[x], none, b₀ :: suite⟩ :: l)
  | n1 {x y : Str} {i : Nat} {p pos : Pos} {b₀ : Stmt} {suite : List Stmt} {hds : List ExceptHandler} {l : List HdI} (hx : x ∈ sc.g) (n : XNm K mg x) (hi : Nm N i y) (hl : y ∈ sc.c) (r : HdY N sc K mg hds l) : HdY N sc K mg (.ExceptHandler (some (.Name x p)) (some y) (b₀ :: suite) pos :: hds) (⟨[x], some i, b₀ :: suite⟩ :: l)
  | b2 {x x' : Str} {kk : Nat} {p p' tp pos : Pos} {b₀ : Stmt} {suite : List Stmt} {hds : List ExceptHandler} {l : List HdI} (hx : x ∈ sc.g) (n : XNm K mg x) (hx' : x' ∈ sc.g) (n' : XNm K mg x') (r : HdY N sc K mg hds l) : HdY N sc K mg (.ExceptHandler (some (.Tuple [.Name x p, .Name x' p'] kk tp)) none (b₀ :: suite) pos :: hds) (⟨[x, x'], none, b₀ :: suite⟩ :: l)
  | n2 {x x' y : Str} {i kk : Nat} {p p' tp pos : Pos} {b₀ : Stmt} {suite : List Stmt} {hds : List ExceptHandler} {l : List HdI} (hx : x ∈ sc.g) (n : XNm K mg x) (hx' : x' ∈ sc.g) (n' : XNm K mg x') (hi : Nm N i y) (hl : y ∈ sc.c) (r : HdY N sc K mg hds l) : HdY N sc K mg (.ExceptHandler (some (.Tuple [.Name x p, .Name x' p'] kk tp)) (some y) (b₀ :: suite) pos :: hds) (⟨[x, x'], some i, b₀ :: suite⟩ :: l)
def clsV (K : PySem.W.Frag) (x : Str) : Value := match PySem.W.nsIn K mainGlobals x with | some (some v) => v | _ => .none
def tstOf (K : PySem.W.Frag) : List Str → Value → Option Bool
  | [x], cls => PySem.W.exmOne K cls (clsV K x)
  | xs, cls => PySem.W.exmAny K cls (xs.map (clsV K))
def HdI.up (X : Cx) (i : HdI) : HdS := ⟨tstOf X.K i.cs, i.slot, fun a D σ H => ∀ pn, cSs (X.suite a pn) i.suite D σ H⟩
theorem XNm.v {x : Str} (n : XNm K mg x) : ∃ C, mg x = some (.ref C) ∧ clsV K x = .ref C := by
  obtain ⟨C, a, b⟩ := n.ex
  exact ⟨C, a, by unfold clsV; rw [b]⟩
theorem HdY.up (C : Cxt X N sc P w K mg base k0) {hds : List ExceptHandler} {l : List HdI} (h : HdY N sc K mg hds l) : HdsX X hds (l.map (HdI.up X)) := by
  obtain rfl := C.hK
  obtain rfl := C.hmg
  have nmz : ∀ {x : Str}, x ∈ sc.g → XNm X.K X.mg x → Names X x (clsV X.K x) := fun {x} hx n => by
    obtain ⟨Ca, a, b⟩ := n.v
    rw [b]
    exact ⟨(C.gl x hx).1, (C.gl x hx).2.1, .inl a⟩
  have ss : ∀ (a : Addr) (pn : List (Addr × Obj)) (st : List Stmt), PSs (X.suite a pn) st (fun D σ H => ∀ pn, cSs (X.suite a pn) st D σ H) := fun a pn st => ⟨fun pins s σ H D I h => h pn pins s I⟩
  induction h with
  | nil => exact .nil
  | b1 hx n r ih => exact .bare (tst_one (nmz hx n)) (fun a pn => ss a pn _) ih
  | n1 hx n hi hl r ih => exact .named (tst_one (nmz hx n)) (by rw [C.hN]; exact hi.get) (C.lcl _ hl) (fun a pn => ss a pn _) ih
  | b2 hx n hx' n' r ih => exact .bare (tst_two (nmz hx n) (nmz hx' n')) (fun a pn => ss a pn _) ih
  | n2 hx n hx' n' hi hl r ih => exact .named (tst_two (nmz hx n) (nmz hx' n')) (by rw [C.hN]; exact hi.get) (C.lcl _ hl) (fun a pn => ss a pn _) ih
/-- what is under one of these classes -/
inductive IsAny (K : PySem.W.Frag) (n : Str) : List Str → Bool → Prop
  | one {x : Str} {b : Bool} (h : IsK K n x b) : IsAny K n [x] b
  | two {x y : Str} {b c : Bool} (h : IsK K n x b) (h' : IsK K n y c) : IsAny K n [x, y] (b || c)
def wipeY (En : Ends2) : Option Nat → Ends2
  | none => En
  | some i => { nx := fun ρ M => En.nx (ρ.set i none) M, rt := En.rt, bk := fun ρ M => En.bk (ρ.set i none) M, ct := fun ρ M => En.ct (ρ.set i none) M }
def putY (ρ : St2) (d : D) : Option Nat → St2
  | none => ρ
  | some i => ρ.set i (some d)
def WHd (X : Cx) (K : PySem.W.Frag) (Out : XE2) (En : Ends2) : List HdI → Str → List Str → List D → St2 → Mem → Prop
  | [], n, ks, ds, ρ, M => Out n ks ds ρ M
  | h :: r, n, ks, ds, ρ, M => ∃ b, IsAny K n h.cs b ∧ Br b (∀ a pn, WSs (X.suite a pn) h.suite (wipeY En h.slot) (putY ρ (.exn n ks ds) h.slot) M) (WHd X K Out En r n ks ds ρ M)
theorem q_whN {Out : XE2} {En : Ends2} {n : Str} {ks : List Str} {ds : List D} (h : Out n ks ds ρ M) : WHd X K Out En [] n ks ds ρ M := h
theorem q_wh1 {Out : XE2} {En : Ends2} {n x : Str} {ks : List Str} {ds : List D} {b : Bool} {sl : Option Nat} {st : List Stmt} {r : List HdI} (h : IsK K n x b) (br : Br b (∀ a pn, WSs (X.suite a pn) st (wipeY En sl) (putY ρ (.exn n ks ds) sl) M) (WHd X K Out En r n ks ds ρ M)) : WHd X K Out En (⟨[x], sl, st⟩ :: r) n ks ds ρ M := ⟨b, .one h, br⟩
theorem q_wh2 {Out : XE2} {En : Ends2} {n x y : Str} {ks : List Str} {ds : List D} {b c : Bool} {sl : Option Nat} {st : List Stmt} {r : List HdI} (h : IsK K n x b) (h' : IsK K n y c) (br : Br (b || c) (∀ a pn, WSs (X.suite a pn) st (wipeY En sl) (putY ρ (.exn n ks ds) sl) M) (WHd X K Out En r n ks ds ρ M)) : WHd X K Out En (⟨[x, y], sl, st⟩ :: r) n ks ds ρ M := ⟨b || c, .two h h', br⟩
theorem IsAny.tst {n : Str} {cs : List Str} {b : Bool} {C : Addr} (h : IsAny K n cs b) (e : PySem.W.nsIn K mainGlobals n = some (some (.ref C))) : tstOf K cs (.ref C) = some b := by
  cases h with
  | one h =>
    obtain ⟨C', D', e1, e2, _, h2⟩ := h.ex
    rw [e] at e1; cases e1
    show PySem.W.exmOne K _ (clsV K _) = _
    unfold clsV; rw [e2]; exact h2
  | @two x y b c h h' =>
    obtain ⟨C', D', e1, e2, _, h2⟩ := h.ex
    obtain ⟨C2, D2, e3, e4, _, h4⟩ := h'.ex
    rw [e] at e1 e3; cases e1; cases e3
    show PySem.W.exmAny K _ [clsV K x, clsV K y] = _
    unfold clsV; rw [e2, e4]
    show PySem.W.exmAny K (.ref C) [.ref D', .ref D2] = _
    have z : PySem.W.exmAny K (.ref C) [.ref D2] = some c := by
      unfold PySem.W.exmAny
      rw [h4]
      show some (c || false) = some c
      rw [Bool.or_false]
    unfold PySem.W.exmAny
    rw [h2, z]
theorem ls_wipe {H : Hp} {En : Ends2} {slot : Option Nat} {H0 : Hp} (t : TK K H0 H) : (∀ σ' H', (LS K H (wipeY En slot)).nx σ' H' → (wipeD (LS K H0 En) slot).nx σ' H') ∧ (∀ v H', (LS K H (wipeY En slot)).rt v H' → (wipeD (LS K H0 En) slot).rt v H') ∧ (∀ σ' H', (LS K H (wipeY En slot)).bk σ' H' → (wipeD (LS K H0 En) slot).bk σ' H') ∧ (∀ σ' H', (LS K H (wipeY En slot)).ct σ' H' → (wipeD (LS K H0 En) slot).ct σ' H') := by
  have wp : ∀ {ρ : St2} {σ : L2.St} {H : Hp} (i : Nat), EnvR K H ρ σ → EnvR K H (ρ.set i none) (σ.set i none) := fun {ρ σ H} i h => by
    refine ⟨by rw [List.length_set, List.length_set]; exact h.len, fun j d e => ?_⟩
    rw [List.getElem?_set] at e ⊢
    by_cases c : i = j
    · subst c
      rw [if_pos rfl] at e
      split at e <;> cases e
    · rw [if_neg c] at e ⊢
      exact h.at_ j d e
  cases slot with
  | none => exact ⟨fun _ _ ⟨a, b, c, t', q⟩ => ⟨a, b, c, t.trans t', q⟩, fun _ _ ⟨a, b, c, d, t', q⟩ => ⟨a, b, c, d, t.trans t', q⟩, fun _ _ ⟨a, b, c, t', q⟩ => ⟨a, b, c, t.trans t', q⟩, fun _ _ ⟨a, b, c, t', q⟩ => ⟨a, b, c, t.trans t', q⟩⟩
  | some i => exact ⟨fun _ _ ⟨a, b, c, t', q⟩ => ⟨_, b, ⟨wp i c.env, c.rep⟩, t.trans t', q⟩, fun _ _ ⟨a, b, c, d, t', q⟩ => ⟨a, b, c, d, t.trans t', q⟩, fun _ _ ⟨a, b, c, t', q⟩ => ⟨_, b, ⟨wp i c.env, c.rep⟩, t.trans t', q⟩, fun _ _ ⟨a, b, c, t', q⟩ => ⟨_, b, ⟨wp i c.env, c.rep⟩, t.trans t', q⟩⟩
theorem hds_of {Out : XE2} {En : Ends2} {H0 : Hp} {W : WX} (hW : ∀ c d σ H, XW X.K Out H0 c d σ H → W c d σ H) : ∀ {l : List HdI} {n : Str} {ks : List Str} {ds : List D} {ρ : St2} {M : Mem} {cls : Value} {d : Option Addr} {σ : L2.St} {H : Hp}, XD X.K n ks ds cls d H → R X.K ρ M σ H → TK X.K H0 H → WHd X X.K Out En l n ks ds ρ M →
    wHds W (LS X.K H0 En) (l.map (HdI.up X)) cls d σ H
  | [], n, ks, ds, ρ, M, cls, d, σ, H, xd, r, t, h => hW _ _ _ _ ⟨n, ks, ds, ρ, M, xd, r, t, h⟩
  | i :: l, n, ks, ds, ρ, M, cls, d, σ, H, xd, r, t, h => by
    obtain ⟨b, ia, br⟩ := h
    obtain ⟨Ca, dd, od, vs, rfl, e1, rfl, e2, dn⟩ := id xd
    refine ⟨b, ia.tst e1, fun hb a oe na ec ed ew pn => ?_, fun hb => hds_of hW xd r t (br.2 hb)⟩
    have z := br.1 hb a pn
    have tk1 : TK X.K H (upd H a (.frz oe (.own a))) := TK.fresh na
    have dE : Den X.K (upd H a (.frz oe (.own a))) (.exn n ks ds) (.ref a) := den_exn.mpr ⟨a, vs, rfl, ⟨Ca, oe, dd, od, e1, upd_same, ec, ed, ew, by rw [upd_ne (fun z => by rw [z, na] at e2; cases e2)]; exact e2⟩, dn.mono tk1⟩
    obtain ⟨k1, k2, k3, k4⟩ := ls_wipe (K := X.K) (En := En) (slot := i.slot) (t.trans tk1)
    refine cSs_mono k1 k2 k3 k4 (z (putS σ a i.slot) (upd H a (.frz oe (.own a))) ?_)
    cases hsl : i.slot with
    | none => exact r.newT na
    | some j => exact ⟨(r.env.mono tk1).set j dE, (r.newT na).rep⟩
theorem ws_try (C : Cxt X N sc P w K mg base k0) {Out E : XE2} (TX : Tks X Out) {body : List Stmt} {h₀ : ExceptHandler} {hds : List ExceptHandler} {pos : Pos} {En : Ends2} {l : List HdI} (hy : HdY N sc K mg (h₀ :: hds) l)
    (hb : ∀ pn xe, PassesOwn (model X.prog X.w) X.A X.env xe → WSX (X.tr pn xe) body En ρ M E) (hx : ∀ n ks ds ρ' M', E n ks ds ρ' M' → WHd X K Out En l n ks ds ρ' M') : WS X (.Try body (h₀ :: hds) [] [] pos) En ρ M := fun σ H r => by
  obtain rfl := C.hK
  have hN : X.N.Nodup := by rw [C.hN]; exact C.nd
  have hz := hy.up C
  refine cS_of (ps_tryX (Wout := fun cls d σ H => ∃ n ks ds ρ M, XD X.K n ks ds cls d H ∧ R X.K ρ M σ H ∧ Out n ks ds ρ M) (tb := fun W D σ H => ∀ pn xe, Takes (X.tr pn xe) W → PassesOwn (model X.prog X.w) X.A X.env xe → cSs (X.tr pn xe) body D σ H) TX.stk TX.frm hN TX.nex TX.tk (fun W pn xe tk po => ⟨fun pins s σ H D I h => h pn xe tk po pins s I⟩) hz) ?_
  intro pn xe tk po
  refine hb pn xe po σ H r (tk.imp fun c d σ' H' z => ?_)
  obtain ⟨n, ks, ds, ρ', M', xd, r', t', e⟩ := z
  exact hds_of (fun c d σ H z => by
    obtain ⟨n, ks, ds, ρ, M, a, b, _, q⟩ := z
    exact ⟨n, ks, ds, ρ, M, a, b, q⟩) xd r' t' (hx _ _ _ _ _ e)

/-! ### what an own exception is asked -/
structure RdN (K : PySem.W.Frag) (n : Str) (ks : List Str) : Prop where
  ex : ∃ C, PySem.W.nsIn K mainGlobals n = some (some (.ref C)) ∧ XRd K C ks
theorem XDef.rd {x : Str} {ks : List Str} (D : XDef P w K mg x ks) : RdN K x ks := by
  obtain ⟨C, _, b, _, _, r⟩ := D.ex
  exact ⟨C, b, r⟩
theorem we_kls (C : Cxt X N sc P w K mg base k0) {x : Str} {pos : Pos} {Q : QE} (hg : x ∈ sc.g) (D : XNm K mg x) (q : Q (.kls x) M) : WE X (.Name x pos) ρ M Q := by
  obtain ⟨Ca, a, b⟩ := D.ex
  exact we_glob C hg a (v := .ref Ca) rfl (fun _ => den_kls.mpr ⟨Ca, rfl, b⟩) q
theorem lookup_den {H : Hp} {f : Str} {d : D} : ∀ {ks : List Str} {ds : List D} {vs : List V}, DenL K H ds vs → (ks.zip ds).lookup f = some d → ∃ v, (ks.zip vs).lookup f = some v ∧ Den K H d v
  | [], _, _, _, h => by cases h
  | _ :: _, [], _, _, h => by cases h
  | k :: ks, d' :: ds, vs, l, h => by
    obtain ⟨v, r, rfl, a, b⟩ := denL_cons.mp l
    simp only [List.zip_cons_cons, List.lookup_cons] at h ⊢
    cases e : f == k with
    | true => rw [e] at h; cases h; exact ⟨v, rfl, a⟩
    | false => rw [e] at h; exact lookup_den b h
theorem exn_inst {pins : List (Addr × Obj)} {σ : L2.St} {H : Hp} {s : Shared} {n : Str} {ks : List Str} {a : Addr} {xs : List V} {C : Addr} (I : Inv X pins σ H s) (e : ExnAt X.K H n ks a xs) (hn : PySem.W.nsIn X.K mainGlobals n = some (some (.ref C))) :
    ∃ (oe od : Obj) (mA : Str → Option Value), PySem.W.InstAt s.heap a oe C (some od) ∧ (∀ f, PySem.W.lookIn f od = some (mA f)) ∧ ∀ f, RelO ((ks.zip xs).lookup f) (mA f) := by
  obtain ⟨C', oe, d, od, h1, h2, h3, h4, ⟨ws, h5⟩, h6⟩ := e
  rw [hn] at h1; cases h1
  have ha := (I.hok a _ h2).1
  obtain ⟨hd, mA, hns, hr⟩ := I.hok d _ h6
  obtain ⟨od', ho, hl⟩ := lookIn_ns hns
  rw [hd] at ho; cases ho
  refine ⟨oe, od, mA, ⟨ha, h3, by unfold PySem.W.notCls; rw [h5] <;> rfl, by rw [h4]; exact hd⟩, hl, hr⟩
/-- e.n of an own exception -/
def fld2 (K : PySem.W.Frag) (n : Str) (d : D) (M : Mem) (Q : QE) : Prop := ∃ nm ks ds v, d = .exn nm ks ds ∧ RdN K nm ks ∧ n ∈ ks ∧ (ks.zip ds).lookup n = some v ∧ Q v M
theorem we_field (C : Cxt X N sc P w K mg base k0) {e : Expr} {n : Str} {pos : Pos} {Q : QE} (hb : attributeBase e n X.env (eval e X.env) = eval e X.env) (h : WE X e ρ M fun d M1 => fld2 K n d M1 Q) : WE X (.Attribute e n pos) ρ M Q := fun σ H r pins s I => by
  obtain rfl := C.hK
  refine attr_of hb (thn (h σ H r pins s I) fun u s1 hh => ?_)
  obtain ⟨x, H1, I1, rx, d, M1, dn, r1, t1, nm, ks, ds, v, rfl, rd, hn, hl, q⟩ := hh
  obtain ⟨a, xs, rfl, ea, l⟩ := den_exn.mp dn
  obtain rfl : u = Value.ref a := rx
  obtain ⟨Ca, hc, R⟩ := rd.ex
  obtain ⟨oe, od, mA, J, hl1, hr⟩ := exn_inst I1 ea hc
  obtain ⟨v', hv', dv⟩ := lookup_den l hl
  obtain ⟨u, hu, ru⟩ := RelO.some_of (v := v') (o := mA n) (by rw [← hv']; exact hr n)
  exact HandSPX.exc_get I1.kIn J R.ga R.gg R.bx (PySem.W.findObj_own R.hd (R.fl n hn) rfl (by rw [hl1, hu])) (handed_of ru) ⟨v', H1, I1.tok _, ru, v, M1, dv, r1, t1, q⟩
/-- isinstance of an own exception -/
def rIsiE (K : PySem.W.Frag) : List V → Hp → VK → Prop := fun xs H Q => ∃ (n : Str) (ks : List Str) (a : Addr) (vs : List V) (C : Addr) (c : V) (u : Value) (b : Bool), xs = [.ref a, c] ∧ ExnAt K H n ks a vs ∧ PySem.W.nsIn K mainGlobals n = some (some (.ref C)) ∧ XRd K C ks ∧ (∀ u', RelV c u' → u' = u) ∧ PySem.W.kitOne K (.ref C) u = some b ∧ Q (.bl b) H
theorem call_isiE {X : Cx} : CallR X (.builtin "isinstance") (rIsiE X.K) := by
  intro pins s σ H xs us Q I r h
  obtain ⟨n, ks, a, vs, C, c, u, b, rfl, ea, hc, R, hu, e, q⟩ := h
  obtain ⟨u1, u2, rfl, r1, r2⟩ := vals2 r
  cases (show u1 = Value.ref a from r1)
  cases hu _ r2
  obtain ⟨oe, od, mA, J, _, _⟩ := exn_inst I ea hc
  obtain ⟨cd, hcd, _⟩ := PySem.W.any_some R.hd
  exact PySem.W.kia_one (PySem.W.kitx_exc (gt := none) (by rw [hcd]; rfl) R.ga R.gg R.bx R.cc R.sp R.tk R.mo) I.kIn J e (fun z => by cases z) fun tk => ⟨.bl b, H, I.tok tk, rfl, q⟩
/-- isinstance of an own exception, by a tuple of two own classes -/
def rIsiP (K : PySem.W.Frag) : List V → Hp → VK → Prop := fun xs H Q => ∃ (n : Str) (ks : List Str) (a : Addr) (vs : List V) (C : Addr) (tp D1 D2 : Addr) (b1 b2 : Bool), xs = [.ref a, .ref tp] ∧ ExnAt K H n ks a vs ∧ PySem.W.nsIn K mainGlobals n = some (some (.ref C)) ∧ XRd K C ks ∧ SqT K H tp [.ref D1, .ref D2] ∧
  PySem.W.kitOne K (.ref C) (.ref D1) = some b1 ∧ PySem.W.kitOne K (.ref C) (.ref D2) = some b2 ∧ Q (.bl (b1 || b2)) H
theorem call_isiP {X : Cx} : CallR X (.builtin "isinstance") (rIsiP X.K) := by
  intro pins s σ H xs us Q I r h
  obtain ⟨n, ks, a, vs, C, tp, D1, D2, b1, b2, rfl, ea, hc, R, hT, e1, e2, q⟩ := h
  obtain ⟨u1, u2, rfl, r1, r2⟩ := vals2 r
  cases (show u1 = Value.ref a from r1)
  cases (show u2 = Value.ref tp from r2)
  obtain ⟨oe, od, mA, J, _, _⟩ := exn_inst I ea hc
  obtain ⟨cd, hcd, _⟩ := PySem.W.any_some R.hd
  obtain ⟨its, rv, ⟨o, h1, h2, m, h3⟩, _⟩ := I.tuple hT
  obtain ⟨w1, w2, rfl, s1, s2⟩ := vals2 rv
  cases (show w1 = Value.ref D1 from s1)
  cases (show w2 = Value.ref D2 from s2)
  have ek : PySem.W.kitAny X.K (.ref C) [.ref D1, .ref D2] = some (b1 || b2) := by
    cases b1 <;> cases b2 <;> simp [PySem.W.kitAny, e1, e2]
  obtain ⟨oc, od', dt, sl⟩ := o
  simp only at h2 h3
  subst h2 h3
  exact PySem.W.kia_tup (PySem.W.kitx_exc (gt := none) (by rw [hcd]; rfl) R.ga R.gg R.bx R.cc R.sp R.tk R.mo) I.kIn J h1 ek (fun z => by cases z) fun tk => ⟨.bl (b1 || b2), H, I.tok tk, rfl, q⟩
def isi3 (K : PySem.W.Frag) (ds : List D) (M : Mem) (Q : QE) : Prop := (isi2 ds M Q ∨ ∃ n ks fs t1 t2 b1 b2, ds = [.exn n ks fs, .tup [.kls t1, .kls t2]] ∧ IsK K n t1 b1 ∧ IsK K n t2 b2 ∧ RdN K n ks ∧ Q (.bl (b1 || b2)) M) ∨ ∃ n ks fs b, ((∃ t, ds = [.exn n ks fs, .kls t] ∧ IsK K n t b) ∨ (∃ T, ds = [.exn n ks fs, .ty T] ∧ IsB K n T b)) ∧ RdN K n ks ∧ Q (.bl b) M
theorem cl_isi3 : CallL K (fun xs H Q => ((rIsi K xs H Q ∨ rIsiS K xs H Q) ∨ rIsiP K xs H Q) ∨ rIsiE K xs H Q) (isi3 K) := by
  rintro ds vs H ρ σ M H0 Q dn r t ((h | ⟨n, ks, fs, t1, t2, b1, b2, rfl, i1, i2, rd, q⟩) | ⟨n, ks, fs, b, h, rd, q⟩)
  · exact .inl (.inl (cl_isi ds vs H ρ σ M H0 Q dn r t h))
  · obtain ⟨C, hc, R⟩ := rd.ex
    obtain ⟨v, u, rfl, a1, a2⟩ := two_args dn
    obtain ⟨a, xs, rfl, ea, l⟩ := den_exn.mp a1
    obtain ⟨tp, ys, rfl, sq, l2⟩ := den_tup.mp a2
    obtain ⟨y1, y2, rfl, c1, c2⟩ := two_args l2
    obtain ⟨k1, rfl, m1⟩ := den_kls.mp c1
    obtain ⟨k2, rfl, m2⟩ := den_kls.mp c2
    obtain ⟨C1, D1, e1, e2, e3, _⟩ := i1.ex
    obtain ⟨C2, D2, f1, f2, f3, _⟩ := i2.ex
    rw [hc] at e1 f1; cases e1; cases f1
    rw [m1] at e2; cases e2
    rw [m2] at f2; cases f2
    exact .inl (.inr ⟨n, ks, a, xs, C, tp, _, _, b1, b2, rfl, ea, hc, R, sq, e3, f3, _, M, den_bl.mpr rfl, r, t, q⟩)
  · obtain ⟨C, hc, R⟩ := rd.ex
    rcases h with ⟨t', rfl, ik⟩ | ⟨T, rfl, ib⟩
    · obtain ⟨v, u, rfl, a1, a2⟩ := two_args dn
      obtain ⟨a, xs, rfl, ea, l⟩ := den_exn.mp a1
      obtain ⟨a', rfl, hn'⟩ := den_kls.mp a2
      obtain ⟨C', D', e1, e2, e3, _⟩ := ik.ex
      rw [hc] at e1; cases e1
      rw [hn'] at e2; cases e2
      exact .inr ⟨n, ks, a, xs, C, _, _, b, rfl, ea, hc, R, fun u' z => z, e3, _, M, den_bl.mpr rfl, r, t, q⟩
    · obtain ⟨v, u, rfl, a1, a2⟩ := two_args dn
      obtain ⟨a, xs, rfl, ea, l⟩ := den_exn.mp a1
      obtain ⟨C', e1, e3, _⟩ := ib.ex
      rw [hc] at e1; cases e1
      cases den_ty.mp a2
      exact .inr ⟨n, ks, a, xs, C, .ty T, .type T, b, rfl, ea, hc, R, fun u' z => z, e3, _, M, den_bl.mpr rfl, r, t, q⟩
theorem wc_isi3 (C : Cxt X N sc P w K mg base k0) {e e2 : Expr} {p pos : Pos} {Q : QE} (hg : ("isinstance" : Str) ∈ sc.g) (hm : mg "isinstance" = none) (hs : starEach [e, e2] X.env = (false, eval e X.env) :: starEach [e2] X.env) (hs2 : starEach [e2] X.env = [(false, eval e2 X.env)]) (h : WE X e ρ M fun d M1 => WE X e2 ρ M1 fun d2 M2 => isi3 K [d, d2] M2 Q) : WE X (.Call (.Name "isinstance" p) [e, e2] [] pos) ρ M Q := by
  obtain rfl := C.hK
  exact we_callB C (callr_or (callr_or (callr_or call_isi call_isiS) call_isiP) call_isiE) cl_isi3 hg hm (by first | exact PySem.boot_isinstance | exact PyProof.Rows.boot_isinstance) hs (fun pos => by rw [hs2]; rfl) (wa_two hs hs2 h)
theorem q_isi_ {d : D} {S T : String} {b : Bool} {Q : QE} (h : tyD d M = some S) (k : kitB S T = some b) (q : Q (.bl b) M) : isi3 K [d, .ty T] M Q := .inl (.inl (q_isi h k q))
theorem q_isi2_ {d : D} {S T U : String} {b : Bool} {Q : QE} (h : tyD d M = some S) (k : kitAnyB S [T, U] = some b) (q : Q (.bl b) M) : isi3 K [d, .tup [.ty T, .ty U]] M Q := .inl (.inl (q_isi2 h k q))
theorem q_isiK {n t : Str} {ks : List Str} {fs : List D} {b : Bool} {Q : QE} (rd : RdN K n ks) (h : IsK K n t b) (q : Q (.bl b) M) : isi3 K [.exn n ks fs, .kls t] M Q := .inr ⟨n, ks, fs, b, .inl ⟨t, rfl, h⟩, rd, q⟩
theorem q_isiB {n : Str} {T : String} {ks : List Str} {fs : List D} {b : Bool} {Q : QE} (rd : RdN K n ks) (h : IsB K n T b) (q : Q (.bl b) M) : isi3 K [.exn n ks fs, .ty T] M Q := .inr ⟨n, ks, fs, b, .inr ⟨T, rfl, h⟩, rd, q⟩
theorem q_isiP {n t1 t2 : Str} {ks : List Str} {fs : List D} {b1 b2 : Bool} {Q : QE} (rd : RdN K n ks) (h : IsK K n t1 b1) (h' : IsK K n t2 b2) (q : Q (.bl (b1 || b2)) M) : isi3 K [.exn n ks fs, .tup [.kls t1, .kls t2]] M Q := .inl (.inr ⟨n, ks, fs, t1, t2, b1, b2, rfl, h, h', rd, q⟩)
theorem q_field {nm n : Str} {ks : List Str} {ds : List D} {v : D} {Q : QE} (rd : RdN K nm ks) (hn : n ∈ ks) (hl : (ks.zip ds).lookup n = some v) (q : Q v M) : fld2 K n (.exn nm ks ds) M Q := ⟨nm, ks, ds, v, rfl, rd, hn, hl, q⟩
end
end Y

set_option Elab.async false
set_option linter.all false
set_option autoImplicit false
set_option maxRecDepth 100000
set_option maxHeartbeats 4000000
/-! an own exception class with two fields; what the written part says of the classes, in one test -/
namespace Y
open PySem PySem.Spec PySem.Calls PyProof.Rows L2
section
open PySem.W
theorem mk2 {P : Program} {w : World} {K : Frag} {mg : Str → Option Value} {C fI cc cda : Addr} {B newId initId : String} {bmB : List Value} {k kb sf pk pk2 qual : Str} {msg : Str} {j : Nat} {p0 p1 p2 p3 p4 p5 p6 p7 p8 p9 q6 q7 q8 q9 : Pos} {st : Stmt} {vs : Array Value} {file : Str} {tf : Tok}
    {oc ccl cl dV kV doc pm ct : Value} {od cdd cld an : Option Addr} {osl ccs csl : Array (Option Value)} {ar : Arg}
    (T : XcK K C B newId initId bmB [k, kb]) (ini : findIn K (.ref C) "__init__" = some (some (.ref fI))) (isf : typeIn K (.ref fI) = some (.type "function"))
    (lk : K.lookup fI = some ⟨oc, od, .func (ksFn "__init__" qual (defArgs st) (defBody st) (defScope st) dV kV doc pm an (.ref cda) ct cc), osl⟩) (hcd : codeIn K (.ref cda) qual = true)
    (hcode : K.lookup cda = some ⟨ccl, cdd, .fields vs, ccs⟩) (hvs : vs[2]? = some (.str file tf)) (hfile : ((P.main.file : Str) == file) = true) (hcell : K.lookup cc = some ⟨cl, cld, .cell (some (.ref C)), csl⟩)
    (htop : (P.main.scope.names.lookup ("super" : Str)).isSome = false) (hm : mg "super" = none)
    (hbody : defBody st = [supSt msg j p0 p1 p2 p3 p4 p5, keepSt sf k pk p6 p7 p8 p9, keepSt sf kb pk2 q6 q7 q8 q9])
    (hpar : ((defArgs st).posonlyargs ++ (defArgs st).args).head? = some ar) (har : ar.arg = sf) (hne : sf ≠ pk) (hne2 : sf ≠ pk2) (hne3 : pk ≠ pk2) (hnk : kb ≠ k)
    (hbind : ∀ (s : Shared) (x u u2 : Value), BindsTo s (ksFn "__init__" qual (defArgs st) (defBody st) (defScope st) dV kV doc pm an (.ref cda) ct cc) ⟨[x, u, u2], []⟩ [(sf, x), (pk, u), (pk2, u2)])
    (sk : (defScope st).kind = .function) (sco : (defScope st).isCoroutine = false) (sgen : (defScope st).isGenerator = false) (scell : ∀ x ∈ (defScope st).names, x.2 ≠ .cell)
    (s1 : (defScope st).names.lookup ("super" : Str) = some .globalImplicit) (s2 : (defScope st).names.lookup ("__class__" : Str) = some .free) (s3 : (defScope st).names.lookup sf = some .local) (s4 : (defScope st).names.lookup pk = some .local) (s5 : (defScope st).names.lookup pk2 = some .local)
    (d1 : (sf == ("__debug__" : Str)) = false) (d2 : (pk == ("__debug__" : Str)) = false) (d3 : (pk2 == ("__debug__" : Str)) = false)
    (hint : ∀ L, interactive (ksEnv qual (defScope st) L fI (.ref cda) cc) = false)
    (hsw : ∀ L, swapsWith (.Call (.Attribute (.Call (.Name "super" p0) [] [] p1) "__init__" p2) [.Constant (.str msg) j p3] [] p4) none p5.line (ksEnv qual (defScope st) L fI (.ref cda) cc) = pure false) {pl : Addr → Sem Bool}
    (hcall : ∀ L, eval (.Call (.Attribute (.Call (.Name "super" p0) [] [] p1) "__init__" p2) [.Constant (.str msg) j p3] [] p4) (ksEnv qual (defScope st) L fI (.ref cda) cc) = (do
      let ov ← attributeBase (.Call (.Name "super" p0) [] [] p1) "__init__" (ksEnv qual (defScope st) L fI (.ref cda) cc) (eval (.Call (.Name "super" p0) [] [] p1) (ksEnv qual (defScope st) L fI (.ref cda) cc))
      standAt p2.atName
      let (f, first) ← holding [ov] (getMethod ov "__init__" (pl L))
      callWith p4 f first (backTo p4 (starEach [.Constant (.str msg) j p3] (ksEnv qual (defScope st) L fI (.ref cda) cc))) []))
    (hsw2 : ∀ L, swapsWith (.Name pk p8) (some (.Attribute (.Name sf p6) k p7)) p9.line (ksEnv qual (defScope st) L fI (.ref cda) cc) = pure false)
    (hsw3 : ∀ L, swapsWith (.Name pk2 q8) (some (.Attribute (.Name sf q6) kb q7)) q9.line (ksEnv qual (defScope st) L fI (.ref cda) cc) = pure false) : MkX P w K mg C [k, kb] := by
  intro A E s us mb Q hr X hlim hg hb hmb hl hq
  obtain ⟨u, u2, rfl⟩ : ∃ u u2, us = [u, u2] := match us, hl with | [u, u2], _ => ⟨u, u2, rfl⟩
  obtain ⟨nm, N', qn, bs, bm, hdct, sn, sub, ab, col, dd, k0, k1, k2, k3, k5, hC, hT⟩ := excInit_of X T.hi
  obtain ⟨cd, hc, hcdd⟩ := any_some T.hd
  obtain ⟨hp, g, dr, tk, os⟩ := s
  refine wpAny_call (HandSPX.call_own T.base.FB hT hC (looks_findIn X ini) (fun self => bind_fn X self isf) (by show 2 ≤ sizeLine; decide) ?_)
  have kk : ∀ b o, hp.get? b = some o → ((hp.push (kdv_tup [u, u2])).push (HandSPX.excO C hp.objs.size)).get? b = some o := fun b o e => Heap.get?_push_of_some _ (Heap.get?_push_of_some _ e)
  have hget : ((hp.push (kdv_tup [u, u2])).push (HandSPX.excO C hp.objs.size)).get? (hp.objs.size + 1) = some (HandSPX.excO C hp.objs.size) := by heap_get
  have hsz : ((hp.push (kdv_tup [u, u2])).push (HandSPX.excO C hp.objs.size)).objs.size = hp.objs.size + 2 := by rw [Heap.size_push, Heap.size_push]
  generalize hh1 : (hp.push (kdv_tup [u, u2])).push (HandSPX.excO C hp.objs.size) = h1 at kk hget hsz ⊢
  have X1 : K.In h1 := X.keeps kk
  have xn : hp.get? (hp.objs.size + 1) = none := by
    cases e : hp.get? (hp.objs.size + 1) with
    | none => rfl
    | some o => exact absurd (Heap.lt_size e) (Nat.not_lt.mpr (Nat.le_succ _))
  refine ks_codeAny_call_defAt (hr.make C [u, u2] []).depth (X1 _ _ lk) rfl (hlim.keeps kk) (codeRec_of X1 hcd) rfl (hbind _ _ _ _) scell (fun y hy => ?_) (fun h2 hns2 k2 => ?_) sco sgen sk
  · rcases List.mem_cons.mp hy with z | z
    · rw [z]; exact s3
    · rcases List.mem_cons.mp z with z | z
      · rw [z]; exact s4
      · rw [List.mem_singleton.mp z]; exact s5
  have kp2 : ∀ b o, hp.get? b = some o → h2.get? b = some o := fun b o e => k2 b o (kk b o e)
  have hz2 : (⟨h1, g, dr, tk, os⟩ : Shared).heap.objs.size = hp.objs.size + 2 := hsz
  have F2 : Fr hp (hp.objs.size + 2) h2 (fun y => ([(sf, Value.ref (hp.objs.size + 1)), (pk, u), (pk2, u2)] : List (Str × Value)).reverse.lookup y) := ⟨by rw [← hz2]; exact hns2, kp2, by omega⟩
  have I2 : IRun hp (hp.objs.size + 2) (hp.objs.size + 1) C (fun y => ([(sf, Value.ref (hp.objs.size + 1)), (pk, u), (pk2, u2)] : List (Str × Value)).reverse.lookup y) none h2 := ⟨F2, ⟨_, k2 _ _ hget⟩, Nat.ne_of_lt (Nat.lt_succ_self _), xn⟩
  have msf : ([(sf, Value.ref (hp.objs.size + 1)), (pk, u), (pk2, u2)] : List (Str × Value)).reverse.lookup sf = some (.ref (hp.objs.size + 1)) := by
    have e : (sf == pk) = false := by simpa using hne
    have e2 : (sf == pk2) = false := by simpa using hne2
    simp [List.lookup, e, e2]
  have mpk : ([(sf, Value.ref (hp.objs.size + 1)), (pk, u), (pk2, u2)] : List (Str × Value)).reverse.lookup pk = some u := by
    have e : (pk == pk2) = false := by simpa using hne3
    simp [List.lookup, e]
  have mpk2 : ([(sf, Value.ref (hp.objs.size + 1)), (pk, u), (pk2, u2)] : List (Str × Value)).reverse.lookup pk2 = some u2 := by simp [List.lookup]
  rw [hbody, hz2]
  refine ks_wpAt_execs_cons ?_
  refine sup_run (L := hp.objs.size + 2) T.base.FB T.base.KF X T.hi hc T.ty T.sup T.sB T.op T.mr lk hpar hcode hvs hfile hcell htop hg hm hb hmb (env := ksEnv qual (defScope st) (hp.objs.size + 2) fI (.ref cda) cc) rfl rfl rfl rfl rfl (by rfl) sk s1 s2 (by rw [har]; exact s3) (by rw [har]; exact msf) (by exact hint _) (by exact hsw _) (by exact hcall _) I2 fun h3 tk3 I3 => ?_
  obtain ⟨t3, ho3⟩ := I3.ob
  refine ks_wpAt_execs_cons ?_
  refine ks_wpAt_Assign_Attr (wpAt_of_wpAny (wpAny_Name (wpAny_loadName_local sk s4 I3.fr.ns mpk (wpAny_Name (wpAny_loadName_local sk s3 I3.fr.ns msf ?_) d1)) d2)) (by exact hsw2 _)
  refine sto_new T.base.SF (X.keeps I3.fr.keep) ho3 T.sa T.ov (T.tk k (List.mem_cons_self ..)) hc hcdd fun h4 tk4 dx k4 nd ne hx4 hn4 => ?_
  have xL : hp.objs.size + 2 ≠ hp.objs.size + 1 := Nat.ne_of_gt (Nat.lt_succ_self _)
  have F4 : Fr hp (hp.objs.size + 2) h4 (fun y => ([(sf, Value.ref (hp.objs.size + 1)), (pk, u), (pk2, u2)] : List (Str × Value)).reverse.lookup y) := by
    obtain ⟨⟨o, es, ep, ho, r⟩, kp, le⟩ := I3.fr
    refine ⟨⟨o, es, ep, k4 _ _ xL ho, r⟩, fun b o e => k4 b o (fun z => ?_) (kp b o e), le⟩
    rw [z, xn] at e; cases e
  refine ks_wpAt_execs_cons ?_
  refine ks_wpAt_Assign_Attr (wpAt_of_wpAny (wpAny_Name (wpAny_loadName_local sk s5 F4.ns mpk2 (wpAny_Name (wpAny_loadName_local sk s3 F4.ns msf ?_) d1)) d3)) (by exact hsw3 _)
  refine sto_old (nl := [k]) T.base.SF (X.keeps F4.keep) hx4 hn4 (fun y hy => ?_) (by show 1 ≤ 1000; decide) T.sa T.ov (T.tk kb (List.mem_cons_of_mem _ (List.mem_cons_self ..))) hc hcdd fun h5 tk5 k5 hn5 => ?_
  · by_cases e : y = k
    · exact List.mem_singleton.mpr e
    · rw [if_neg e] at hy; exact absurd rfl hy
  refine wpAt_of_wpAny (wpAny_execs_nil ?_)
  have nd5 : hp.objs.size ≤ dx := by
    have := Heap.lt_size ho3
    exact Nat.le_trans (Nat.le_trans (Nat.le_succ _) (Nat.le_of_lt this)) nd
  refine ⟨rfl, hq (hp.objs.size + 1) dx h5 tk5 ⟨fun b o e => k5 b o (fun z => ?_) (F4.keep b o e), Nat.le_succ _, nd5, ne, ⟨t3, k5 _ _ (Ne.symm ne) hx4⟩, _, hn5, fun f => ?_⟩⟩
  · exact absurd (z ▸ Heap.lt_size e) (Nat.not_lt.mpr nd5)
  · show (if f = kb then some u2 else if f = k then some u else none) = List.lookup f [(k, u), (kb, u2)]
    by_cases e1 : f = k
    · subst e1
      rw [if_neg (fun z => hnk z.symm), if_pos rfl]
      simp [List.lookup]
    · have e1' : (f == k) = false := by simpa using e1
      rw [if_neg e1]
      by_cases e2 : f = kb
      · subst e2; simp [List.lookup, e1']
      · have e2' : (f == kb) = false := by simpa using e2
        rw [if_neg e2]
        simp [List.lookup, e1', e2']
end

/-! ### in one test -/
section
open PySem.W
def xcB (K : Frag) (C fI : Addr) (cda : Value) (qual : Str) (B newId initId : String) (bmB : List Value) (ks : List Str) : Bool :=
  (excInitIn K C bmB newId && (excOver K C bmB && (hasDictIn K C && (decide (typeIn K (.ref C) = some (.type "type")) && (decide (ks_superIn K C C "__init__" = some (some (.builtin initId))) && (decide (subIn K (.ref C) (.type B) = some true) && (decide (nsIn K cStatics "thirdparty.any" = some none) && (decide (mroIn K C (.ref C) = some true) && (decide (findIn K (.ref C) "__setattr__" = some (some (.builtin "object.__setattr__"))) && ks.all fun k => decide (takerIn K C k = some none)))))))))) &&
  ((decide (typeIn K (.ref fI) = some (.type "function")) && (codeIn K cda qual && keepIn K (.ref C))) &&
  (decide (findIn K (.ref C) "__getattribute__" = some (some (.builtin "BaseException.__getattribute__"))) && (decide (findIn K (.ref C) "__getattr__" = some none) && (decide (subIn K (.ref C) (.type "BaseException") = some true) && ((ks.all fun k => decide (findIn K (.ref C) k = some none)) && (decide (findIn K (.ref C) "__class__" = some (some (.builtin "object.__class__"))) && (decide (specialIn K (.builtin "object.__class__") "__get__" = some (some (.builtin "getset_descriptor.__get__"))) && (decide (takesIn K (.builtin "object.__class__") = some true) && decide (mroIn K C (.type "object") = some true)))))))))
structure XcF (K : Frag) (C fI : Addr) (cda : Value) (qual : Str) (B newId initId : String) (bmB : List Value) (ks : List Str) : Prop where
  k : BaseF B newId initId bmB → XcK K C B newId initId bmB ks
  r : XRd K C ks
  isf : typeIn K (.ref fI) = some (.type "function")
  hcd : codeIn K cda qual = true
  kp : keepIn K (.ref C) = true
theorem xcB_ok {K : Frag} {C fI : Addr} {cda : Value} {qual : Str} {B newId initId : String} {bmB : List Value} {ks : List Str} (h : xcB K C fI cda qual B newId initId bmB ks = true) : XcF K C fI cda qual B newId initId bmB ks := by
  unfold xcB at h
  simp only [Bool.and_eq_true, decide_eq_true_eq, List.all_eq_true] at h
  obtain ⟨⟨h1, h2, h3, h4, h5, h6, h7, h8, h9, h10⟩, ⟨i1, i2, i3⟩, g1, g2, g3, g4, g5, g6, g7, g8⟩ := h
  exact ⟨fun b => ⟨b, h1, h2, h3, h4, h5, h6, h7, h8, h9, h10⟩, ⟨g1, g2, g3, h4, h3, g4, g5, g6, g7, g8⟩, i1, i2, i3⟩
/-- the first statement of a class's body -/
def clsFn : Stmt → Stmt
  | .ClassDef _ _ _ b _ _ _ _ _ _ _ => b.getD 0 (.Pass ⟨0, 0, 0, 0⟩)
  | s => s
theorem xnm_of {K : Frag} {mg : Str → Option Value} {h : Heap} (X : K.In h) (G : h.Ns mainGlobals mg) {x : Str} {C : Addr} (a : nsIn K mainGlobals x = some (some (.ref C))) : XNm K mg x := ⟨C, mg_of X G a, a⟩
theorem xdef_of {P : Program} {w : World} {K : Frag} {mg : Str → Option Value} {h : Heap} (X : K.In h) (G : h.Ns mainGlobals mg) {x : Str} {C fI : Addr} {cda : Value} {qual : Str} {B newId initId : String} {bmB : List Value} {ks : List Str} (a : nsIn K mainGlobals x = some (some (.ref C)))
    (z : XcF K C fI cda qual B newId initId bmB ks) (m : MkX P w K mg C ks) : XDef P w K mg x ks := ⟨C, mg_of X G a, a, z.kp, m, z.r⟩
end
theorem bootX_ValueError : bootBuiltins "ValueError" = some (.type "ValueError") := by decide +kernel
theorem bootX_OverflowError : bootBuiltins "OverflowError" = some (.type "OverflowError") := by decide +kernel
theorem bootX_ArithmeticError : bootBuiltins "ArithmeticError" = some (.type "ArithmeticError") := by decide +kernel
theorem bootX_LookupError : bootBuiltins "LookupError" = some (.type "LookupError") := by decide +kernel
theorem bootX_TypeError : bootBuiltins "TypeError" = some (.type "TypeError") := by decide +kernel
theorem bootX_Exception : bootBuiltins "Exception" = some (.type "Exception") := by decide +kernel
theorem bootX_KeyError : bootBuiltins "KeyError" = some (.type "KeyError") := by decide +kernel
theorem bootX_IndexError : bootBuiltins "IndexError" = some (.type "IndexError") := by decide +kernel
/-! ### steps over new objects -/
theorem ext_gen {M M1 : Mem} {p : Addr} {o : MO} (h : mup M p o = M1) (hp : M p = none) : Ext M M1 := h ▸ Ext.new hp
theorem ext_mem {M M1 : Mem} {a : Addr} {o : MO} (x : Ext M M1) (h : M a = some o) : M1 a = some o := x _ _ h
section
variable {X : Cx} {ρ : St2} {M : Mem}
/-- {k: i} -/
theorem we_disp1i {k1 : Str} {i : Int} {j1 j2 : Nat} {q1 q2 pos : Pos} {Q : QE} (h : ∀ p, M p = none → Q (.obj p) (mup M p (.dk [(.inr k1, .int i)]))) : WE X (.Dict [some (.Constant (.str k1) j1 q1)] [.Constant (.int i) j2 q2] pos) ρ M Q := fun σ H r => by
  refine cE_of (pe_disp (pps_cons pe_str peC pps_nil) rfl rfl (by simp) (by show 1 ≤ 15; decide)) ?_
  intro p hp
  have r0 := r.put (m := .dk []) (o := .dK []) (TK.fresh hp) ⟨[], upd_same, .nil⟩
  refine cE_of pe_int ?_
  have hv : upd H p (.dK []) p = some (.dK []) := upd_same
  refine ⟨hv, [(.inr k1, .int i)], rfl, by show 1 ≤ 15; decide, ?_⟩
  have e : mergeK [] [((.inr k1 : Key), V.int i)] = [(.inr k1, .int i)] := by simp [mergeK, putK]
  rw [e]
  have tk := TK.dK (K := X.K) (o := .dK [(.inr k1, .int i)]) hv
  have r1 := r0.put (m := .dk [(.inr k1, .int i)]) tk ⟨_, upd_same, .cons ⟨rfl, den_int.mpr rfl⟩ .nil⟩
  have em : mup (mup M p (.dk [])) p (.dk [(.inr k1, .int i)]) = mup M p (.dk [(.inr k1, .int i)]) := by
    funext b
    unfold mup
    by_cases z : b = p
    · rw [if_pos z, if_pos z]
    · rw [if_neg z, if_neg z, if_neg z]
  rw [em] at r1
  exact ⟨.obj p, _, den_obj.mpr rfl, r1, (TK.fresh hp).trans tk, h p (r.rep.free hp)⟩
end
/-! ### lists of texts, compared -/
theorem dat_strs : ∀ ws : List Str, isDatL (ws.map D.str) = true
  | [] => rfl
  | w :: ws => by simp only [List.map_cons, isDatL, isDat, Bool.true_and]; exact dat_strs ws
theorem py_strs : ∀ ws : List Str, pyL (ws.map D.str) = ws.map PyData.str
  | [] => rfl
  | w :: ws => by simp only [List.map_cons, pyL, D.py, py_strs ws]
theorem datS {M : Mem} {a : Addr} {ws : List Str} (h : M a = some (.lst (ws.map D.str))) : datOf M (.obj a) = some (.list (ws.map PyData.str)) := by
  show (lstOf (M a)).bind _ = _
  rw [h]
  simp only [lstOf, Option.bind_some, dat_strs, if_true, py_strs]
theorem canLay_strs : ∀ {ws : List Str}, ws.all PyData.strOk = true → PyData.canLayAll0 (ws.map PyData.str) = true
  | [], _ => rfl
  | n :: ns, h => by
    simp only [List.all_cons, Bool.and_eq_true] at h
    simp only [List.map_cons, PyData.canLayAll0, PyData.canLay0, canLay_strs h.2, h.1, Bool.and_self]
theorem depth_strs : ∀ ws : List Str, PyData.depthAll (ws.map PyData.str) = 0
  | [] => rfl
  | n :: ns => by simp only [List.map_cons, PyData.depthAll, PyData.depth, depth_strs ns, Nat.max_self]
theorem shS {ws : List Str} (h : ws.all PyData.strOk = true) : SeqAt.shaped (.list (ws.map PyData.str)) = true := by
  unfold SeqAt.shaped
  simp only [PyData.canLay0, canLay_strs h, PyData.depth, depth_strs]
  rfl
/-! ### x, y = constants -/
theorem sw_fold {env : Env} {x y : Str} {px py pt pt2 : Pos} {kt k2} {a b : Expr} (hk : env.blockKind = .function) (hx : env.scope.names.lookup x = some .local) (hy : env.scope.names.lookup y = some .local)
    (hl : (py.line == px.line) = true) (hne : ([x, y].eraseDups.length != 2) = false) (h1 : ([a, b].any fun | .Starred .. => true | _ => false) = false) (h2 : [a, b].all (foldedForSure 8) = true) :
    swappedStores [.Tuple [.Name x px, .Name y py] kt pt] (.Tuple [a, b] k2 pt2) env = pure none := by
  have kx : env.kindOf x = some .local := hx
  have ky : env.kindOf y = some .local := hy
  have hl' : py.line = px.line := by simpa using hl
  have hne' : [x, y].eraseDups.length = 2 := by simpa using hne
  simp only [List.any_cons, List.any_nil, Bool.or_false, Bool.or_eq_false_iff] at h1
  simp only [List.all_cons, List.all_nil, Bool.and_true] at h2
  unfold swappedStores
  simp only [List.length_cons, List.length_nil, hk, List.any_cons, List.any_nil, h1.1, h1.2, List.head?_cons, Option.map_some, Option.getD_some, Expr.pos, List.filterMap_cons, kx, ky, hl', beq_self_eq_true, Bool.and_self, if_true, List.filterMap_nil, hne', List.all_cons, List.all_nil, Bool.and_true, h2, Bool.or_self, Bool.false_eq_true, if_false, bne_self_eq_false]
  refine (if_neg (by decide)).trans ((if_neg ?_).trans rfl)
  intro z
  rcases (Bool.or_eq_true _ _).mp z with z | z
  · exact Bool.noConfusion (z.symm.trans h1.1)
  · rw [Bool.or_false] at z
    exact Bool.noConfusion (z.symm.trans h1.2)
section
variable {X : Cx} {ρ : St2} {M : Mem} {N : List Str} {sc : Nms} {P : Program} {w : World} {K : PySem.W.Frag} {mg : Str → Option Value} {base : Heap} {k0 : Nat}
theorem ws_fold (C : Cxt X N sc P w K mg base k0) {x y : Str} {px py pt pt2 pos : Pos} {kt k2} {a b : Expr} {E : Ends2} (lx : x ∈ sc.c) (ly : y ∈ sc.c) (hl : (py.line == px.line) = true) (hne : ([x, y].eraseDups.length != 2) = false) (h1 : ([a, b].any fun | .Starred .. => true | _ => false) = false) (h2 : [a, b].all (foldedForSure 8) = true)
    (s1 : swapsWithSole [.Tuple [.Name x px, .Name y py] kt pt] (.Tuple [a, b] k2 pt2) pos.line X.env = pure false) (s3 : List.map (fun x => x.2) (assignEach [.Tuple [.Name x px, .Name y py] kt pt] X.env) = [assign (.Tuple [.Name x px, .Name y py] kt pt) X.env])
    (h : WE X (.Tuple [a, b] k2 pt2) ρ M fun d M1 => WG X (.Tuple [.Name x px, .Name y py] kt pt) d ρ M1 E.nx) : WS X (.Assign [.Tuple [.Name x px, .Name y py] kt pt] (.Tuple [a, b] k2 pt2) pos) E ρ M :=
  ws_asg s1 (sw_fold (by unfold Env.blockKind; rw [C.kind]; rfl) (C.lcl x lx) (C.lcl y ly) hl hne h1 h2) s3 h
end
/-- d is None -/
theorem q_isN {g : Bool → Bool} {d : D} {b : Bool} {M : Mem} {Q : QE} (h : g (isNon d) = b) (q : Q (.bl b) M) : is2 g d .non M Q := by
  show Q (.bl (g (isNon d))) M
  rw [h]; exact q
end Y

set_option Elab.async false
set_option linter.all false
set_option autoImplicit false
set_option maxRecDepth 100000
set_option maxHeartbeats 4000000
/-! an own exception class called by a keyword -/
namespace Y
open PySem PySem.Spec PySem.Calls PyProof.Rows L2
section
open PySem.W
variable {M : Model} {A : Around} {E : Value → Shared → Prop} {h : Heap} {g : Array GenState} {d : Drawn} {t : Nat} {os : OsState}
variable {nm q : Str} {C N : Addr} {bs bm bmB : List Value} {hdct : Bool} {sn : List Str} {sub : List Value} {ab : Bool} {col : Option Bool} {dd : Option Addr} {k0 k1 k2 k3 k5 : Option Value} {B newId initId : String} {k : Str} {u : Value}
theorem kw_check_new (F : ExcBaseFacts B newId initId bmB) (hT : ∀ X : String, bm.contains (.type X) = bmB.contains (.type X)) {Q : Unit → Shared → Prop}
    (hC : h.get? C = some (excClassObj nm q C N bs bm hdct sn sub ab col dd k0 k1 k2 k3 k5 newId)) (hq : Q () ⟨h, g, d, t, os⟩) : wpAny M A (checkBuiltinCall newId ⟨[.ref C], [(k, u)]⟩) Q E ⟨h, g, d, t, os⟩ := by
  have hcont : (Value.ref C :: bm).contains (.type B) = true := by rw [List.contains_cons, hT, F.hasB, Bool.or_true]
  have hstar := F.noStar
  simp only [checkBuiltinCall, F.newKind, F.newSplit, F.newRow]
  repeat (first | refine wpAny_loadPart_at hC ?_ | (refine wpAny_isSubtype_exc hC ?_; rw [hcont]) | refine wpAny_staticBase_exc hC ?_ | refine wpAny_madeBy_exc hC ?_ | simp only [bne_self_eq_false, Bool.false_eq_true, if_false] | wp_step)
  exact hq
theorem kw_check_call {Q : Unit → Shared → Prop} (hC : h.get? C = some (excClassObj nm q C N bs bm hdct sn sub ab col dd k0 k1 k2 k3 k5 newId))
    (hq : Q () ⟨h, g, d, t, os⟩) : wpAny M A (checkBuiltinCall "type.__call__" ⟨[.ref C], [(k, u)]⟩) Q E ⟨h, g, d, t, os⟩ := by
  have f3 := tc_sub
  have hT : (⟨h, g, d, t, os⟩ : Shared).TypeIs (.ref C) "type" := ⟨_, hC, rfl⟩
  simp only [checkBuiltinCall, tc_kind, tc_split]
  repeat (any_goals (first | assumption | with_reducible refine wpAny_loadPart_at hC ?_ | with_reducible refine wpAny_onRaise ?_ | with_reducible refine wpAny_map ?_ | wp_step))
end
section
open PySem.W
variable {prog : Program} {w : World} {A : Around} {E : Value → Shared → Prop} {R : Result → Shared → Prop} {h : Heap} {g : Array GenState} {d : Drawn} {t : Nat} {os : OsState}
variable {nm q : Str} {C N : Addr} {bs bm bmB : List Value} {hdct : Bool} {sn : List Str} {sub : List Value} {ab : Bool} {col : Option Bool} {dd : Option Addr} {k0 k1 k2 k3 k5 : Option Value} {B newId initId : String} {k : Str} {u : Value}
theorem kw_new (F : ExcBaseFacts B newId initId bmB) (hT : ∀ X : String, bm.contains (.type X) = bmB.contains (.type X))
    (hC : h.get? C = some (excClassObj nm q C N bs bm hdct sn sub ab col dd k0 k1 k2 k3 k5 newId))
    (hq : R (.ok (.ret (.ref (h.objs.size + 1)))) ⟨(h.push (kdv_tup [])).push (HandSPX.excO C h.objs.size), g, d, t, os⟩) :
    codeAny (model prog w) A (.builtin newId ⟨[.ref C], [(k, u)]⟩) R ⟨h, g, d, t, os⟩ := by
  have hends := F.ends
  have hcB : (Value.ref C :: bm).contains (.type B) = true := by rw [List.contains_cons, hT, F.hasB, Bool.or_true]
  have hcA : (Value.ref C :: bm).contains (.type "AttributeError") = false := by rw [List.contains_cons, hT, F.noAttr]; rfl
  have hcN : (Value.ref C :: bm).contains (.type "NameError") = false := by rw [List.contains_cons, hT, F.noName]; rfl
  refine codeAny_builtinAt F.entry ?_
  unfold Builtin.«BaseException.__new__»
  refine PySem.wpAt_bind ?_
  show PySem.wpAt _ _ _ (stack >>= _) _ _ _
  refine PySem.wpAt_bind (PySem.wpAt_stack fun p below => PySem.wpAt_of_wpAny ?_)
  wp_walk
  refine PySem.wpAt_of_wpAny ?_
  rw [F.owner]
  repeat (first | with_reducible refine wpAny_madeHere_exc F.canon hC ?_ | with_reducible refine wpAny_loadPart_at hC ?_ | (with_reducible refine wpAny_isSubtype_exc hC ?_; first | rw [hcB] | rw [hcA] | rw [hcN]) | wp_step)
  show R _ _
  rw [Heap.size_push]
  exact hq
theorem kw_type_call (F : ExcBaseFacts B newId initId bmB) (hT : ∀ X : String, bm.contains (.type X) = bmB.contains (.type X)) {fI : Addr} {Q : Fin → Shared → Prop}
    (hC : h.get? C = some (excClassObj nm q C N bs bm hdct sn sub ab col dd k0 k1 k2 k3 k5 newId))
    (hi : Looks (model prog w) h (typeLookup (.ref C) "__init__") (some (.ref fI))) (hb : ∀ self, Looks (model prog w) h (bindSpecial (.ref fI) self) (.ref fI, [self]))
    (hq : codeAny (model prog w) A (.call (.ref fI) ⟨[.ref (h.objs.size + 1)], [(k, u)]⟩)
      (fun r s' => match r with | .ok (.ret v) => v = .none ∧ Q (.done (.ret (.ref (h.objs.size + 1)))) s' | .ok _ => False | .error e => E e s')
      ⟨(h.push (kdv_tup [])).push (HandSPX.excO C h.objs.size), g, d, t, os⟩) :
    wpAny (model prog w) A (Builtin.«type.__call__» ⟨[.ref C], [(k, u)]⟩) Q E ⟨h, g, d, t, os⟩ := by
  repeat (first | with_reducible refine wpAny_loadPart_at hC ?_ | with_reducible refine wpAny_madeBy_exc hC ?_ | wp_step)
  refine codeAny_call_builtin_code (Code.quiet_builtin _ F.quiet) (kw_check_new F hT hC ?_)
  refine kw_new F hT hC ?_
  show wpAny _ _ _ _ _ _
  have kk : ∀ b o, h.get? b = some o → ((h.push (kdv_tup [])).push (HandSPX.excO C h.objs.size)).get? b = some o := fun b o e => Heap.get?_push_of_some _ (Heap.get?_push_of_some _ e)
  have hC₁ := kk _ _ hC
  have hget : ((h.push (kdv_tup [])).push (HandSPX.excO C h.objs.size)).get? (h.objs.size + 1) = some (HandSPX.excO C h.objs.size) := by heap_get
  have hcC : (Value.ref C :: bm).contains (.ref C) = true := by simp
  have i1 := hi.keeps kk
  have b1 := (hb (.ref (h.objs.size + 1))).keeps kk
  unfold isInstance
  repeat (first | with_reducible refine wpAny_loadPart_at hget ?_ | (with_reducible refine wpAny_isSubtype_exc hC₁ ?_; rw [hcC]) | wp_step)
  show wpAny _ _ (typeLookup (.ref C) _) _ _ _
  refine i1.at ?_
  refine wpAny_holding (wpAny_bind (b1.at ?_))
  refine wpAny_bind (wpAny_call (codeAny_mono hq fun r s' z => ?_))
  rcases r with e | (v | _ | _ | _) <;> first | exact z | exact z.elim | skip
  obtain ⟨rfl, z⟩ := z
  first
    | exact wpAny_pure (wpAny_pure z)
    | (wp_walk; exact z)
theorem kw_call (F : ExcBaseFacts B newId initId bmB) (hT : ∀ X : String, bm.contains (.type X) = bmB.contains (.type X)) {fI : Addr}
    (hC : h.get? C = some (excClassObj nm q C N bs bm hdct sn sub ab col dd k0 k1 k2 k3 k5 newId))
    (hi : Looks (model prog w) h (typeLookup (.ref C) "__init__") (some (.ref fI))) (hb : ∀ self, Looks (model prog w) h (bindSpecial (.ref fI) self) (.ref fI, [self]))
    (hq : codeAny (model prog w) (A.under (.builtin "type.__call__" ⟨[.ref C], [(k, u)]⟩)) (.call (.ref fI) ⟨[.ref (h.objs.size + 1)], [(k, u)]⟩) (InitBack (h.objs.size + 1) R)
      ⟨(h.push (kdv_tup [])).push (HandSPX.excO C h.objs.size), g, d, t, os⟩) :
    codeAny (model prog w) A (.call (.ref C) ⟨[], [(k, u)]⟩) R ⟨h, g, d, t, os⟩ := by
  have f1 := tc_lookup
  have f2 := tc_bind (.ref C)
  have hTy : (⟨h, g, d, t, os⟩ : Shared).TypeIs (.ref C) "type" := ⟨_, hC, rfl⟩
  refine codeAny_of_tree ?_
  show wpAny _ _ (callAny (.ref C) _) _ _ _
  repeat (any_goals (first | assumption | with_reducible refine wpAny_loadPart_at hC ?_ | wp_step))
  refine ⟨rfl, ?_⟩
  refine codeAny_call_builtin_at (Code.quiet_builtin _ (by decide +kernel)) entry_typeCall (kw_check_call hC (kw_type_call F hT hC hi hb ?_))
  refine codeAny_mono hq fun r s' z => ?_
  rcases r with e | (v | _ | _ | _) <;> exact z
end
section
open PySem.W
/-- C(k=u) makes one -/
def MkXk (P : Program) (w : World) (K : Frag) (mg : Str → Option Value) (C : Addr) (k pk : Str) : Prop :=
  ∀ (A : Around) (E : Value → Shared → Prop) (s : Shared) (u : Value) (mb : Str → Option Value) (Q : Value → Shared → Prop), Room 2 A → K.In s.heap → s.heap.NoLimit → s.heap.Ns mainGlobals mg → s.heap.Ns builtinsNs mb → mb "super" = some (.type "super") →
    (∀ a d h' tk, MadeX s C a d [k] [u] h' → Q (.ref a) { s with heap := h', toks := tk }) → wpAny (model P w) A (call (.ref C) [] [(pk, u)]) Q E s
theorem mk1k {P : Program} {w : World} {K : Frag} {mg : Str → Option Value} {C fI cc cda : Addr} {B newId initId : String} {bmB : List Value} {k sf pk qual : Str} {msg : Str} {j : Nat} {p0 p1 p2 p3 p4 p5 p6 p7 p8 p9 : Pos} {st : Stmt} {vs : Array Value} {file : Str} {tf : Tok}
    {oc ccl cl dV kV doc pm ct : Value} {od cdd cld an : Option Addr} {osl ccs csl : Array (Option Value)} {ar : Arg}
    (T : XcK K C B newId initId bmB [k]) (ini : findIn K (.ref C) "__init__" = some (some (.ref fI))) (isf : typeIn K (.ref fI) = some (.type "function"))
    (lk : K.lookup fI = some ⟨oc, od, .func (ksFn "__init__" qual (defArgs st) (defBody st) (defScope st) dV kV doc pm an (.ref cda) ct cc), osl⟩) (hcd : codeIn K (.ref cda) qual = true)
    (hcode : K.lookup cda = some ⟨ccl, cdd, .fields vs, ccs⟩) (hvs : vs[2]? = some (.str file tf)) (hfile : ((P.main.file : Str) == file) = true) (hcell : K.lookup cc = some ⟨cl, cld, .cell (some (.ref C)), csl⟩)
    (htop : (P.main.scope.names.lookup ("super" : Str)).isSome = false) (hm : mg "super" = none)
    (hbody : defBody st = [supSt msg j p0 p1 p2 p3 p4 p5, keepSt sf k pk p6 p7 p8 p9])
    (hpar : ((defArgs st).posonlyargs ++ (defArgs st).args).head? = some ar) (har : ar.arg = sf) (hne : sf ≠ pk)
    (hbind : ∀ (s : Shared) (x u : Value), BindsTo s (ksFn "__init__" qual (defArgs st) (defBody st) (defScope st) dV kV doc pm an (.ref cda) ct cc) ⟨[x], [(pk, u)]⟩ [(sf, x), (pk, u)])
    (sk : (defScope st).kind = .function) (sco : (defScope st).isCoroutine = false) (sgen : (defScope st).isGenerator = false) (scell : ∀ x ∈ (defScope st).names, x.2 ≠ .cell)
    (s1 : (defScope st).names.lookup ("super" : Str) = some .globalImplicit) (s2 : (defScope st).names.lookup ("__class__" : Str) = some .free) (s3 : (defScope st).names.lookup sf = some .local) (s4 : (defScope st).names.lookup pk = some .local)
    (d1 : (sf == ("__debug__" : Str)) = false) (d2 : (pk == ("__debug__" : Str)) = false)
    (hint : ∀ L, interactive (ksEnv qual (defScope st) L fI (.ref cda) cc) = false)
    (hsw : ∀ L, swapsWith (.Call (.Attribute (.Call (.Name "super" p0) [] [] p1) "__init__" p2) [.Constant (.str msg) j p3] [] p4) none p5.line (ksEnv qual (defScope st) L fI (.ref cda) cc) = pure false) {pl : Addr → Sem Bool}
    (hcall : ∀ L, eval (.Call (.Attribute (.Call (.Name "super" p0) [] [] p1) "__init__" p2) [.Constant (.str msg) j p3] [] p4) (ksEnv qual (defScope st) L fI (.ref cda) cc) = (do
      let ov ← attributeBase (.Call (.Name "super" p0) [] [] p1) "__init__" (ksEnv qual (defScope st) L fI (.ref cda) cc) (eval (.Call (.Name "super" p0) [] [] p1) (ksEnv qual (defScope st) L fI (.ref cda) cc))
      standAt p2.atName
      let (f, first) ← holding [ov] (getMethod ov "__init__" (pl L))
      callWith p4 f first (backTo p4 (starEach [.Constant (.str msg) j p3] (ksEnv qual (defScope st) L fI (.ref cda) cc))) []))
    (hsw2 : ∀ L, swapsWith (.Name pk p8) (some (.Attribute (.Name sf p6) k p7)) p9.line (ksEnv qual (defScope st) L fI (.ref cda) cc) = pure false) : MkXk P w K mg C k pk := by
  intro A E s u mb Q hr X hlim hg hb hmb hq
  obtain ⟨nm, N', qn, bs, bm, hdct, sn, sub, ab, col, dd, k0, k1, k2, k3, k5, hC, hT⟩ := excInit_of X T.hi
  obtain ⟨cd, hc, hcdd⟩ := any_some T.hd
  obtain ⟨hp, g, dr, tk, os⟩ := s
  refine wpAny_call (kw_call T.base.FB hT hC (looks_findIn X ini) (fun self => bind_fn X self isf) ?_)
  have kk : ∀ b o, hp.get? b = some o → ((hp.push (kdv_tup [])).push (HandSPX.excO C hp.objs.size)).get? b = some o := fun b o e => Heap.get?_push_of_some _ (Heap.get?_push_of_some _ e)
  have hget : ((hp.push (kdv_tup [])).push (HandSPX.excO C hp.objs.size)).get? (hp.objs.size + 1) = some (HandSPX.excO C hp.objs.size) := by heap_get
  have hsz : ((hp.push (kdv_tup [])).push (HandSPX.excO C hp.objs.size)).objs.size = hp.objs.size + 2 := by rw [Heap.size_push, Heap.size_push]
  generalize hh1 : (hp.push (kdv_tup [])).push (HandSPX.excO C hp.objs.size) = h1 at kk hget hsz ⊢
  have X1 : K.In h1 := X.keeps kk
  have xn : hp.get? (hp.objs.size + 1) = none := by
    cases e : hp.get? (hp.objs.size + 1) with
    | none => rfl
    | some o => exact absurd (Heap.lt_size e) (Nat.not_lt.mpr (Nat.le_succ _))
  refine ks_codeAny_call_defAt (hr.make C [] [(pk, u)]).depth (X1 _ _ lk) rfl (hlim.keeps kk) (codeRec_of X1 hcd) rfl (hbind _ _ _) scell (fun y hy => ?_) (fun h2 hns2 k2 => ?_) sco sgen sk
  · rcases List.mem_cons.mp hy with z | z
    · rw [z]; exact s3
    · rw [List.mem_singleton.mp z]; exact s4
  have kp2 : ∀ b o, hp.get? b = some o → h2.get? b = some o := fun b o e => k2 b o (kk b o e)
  have hz2 : (⟨h1, g, dr, tk, os⟩ : Shared).heap.objs.size = hp.objs.size + 2 := hsz
  have F2 : Fr hp (hp.objs.size + 2) h2 (fun y => ([(sf, Value.ref (hp.objs.size + 1)), (pk, u)] : List (Str × Value)).reverse.lookup y) := ⟨by rw [← hz2]; exact hns2, kp2, by omega⟩
  have I2 : IRun hp (hp.objs.size + 2) (hp.objs.size + 1) C (fun y => ([(sf, Value.ref (hp.objs.size + 1)), (pk, u)] : List (Str × Value)).reverse.lookup y) none h2 := ⟨F2, ⟨_, k2 _ _ hget⟩, Nat.ne_of_lt (Nat.lt_succ_self _), xn⟩
  have msf : ([(sf, Value.ref (hp.objs.size + 1)), (pk, u)] : List (Str × Value)).reverse.lookup sf = some (.ref (hp.objs.size + 1)) := by
    have e : (sf == pk) = false := by simpa using hne
    simp [List.lookup, e]
  have mpk : ([(sf, Value.ref (hp.objs.size + 1)), (pk, u)] : List (Str × Value)).reverse.lookup pk = some u := by simp [List.lookup]
  rw [hbody, hz2]
  refine ks_wpAt_execs_cons ?_
  refine sup_run (L := hp.objs.size + 2) T.base.FB T.base.KF X T.hi hc T.ty T.sup T.sB T.op T.mr lk hpar hcode hvs hfile hcell htop hg hm hb hmb (env := ksEnv qual (defScope st) (hp.objs.size + 2) fI (.ref cda) cc) rfl rfl rfl rfl rfl (by rfl) sk s1 s2 (by rw [har]; exact s3) (by rw [har]; exact msf) (by exact hint _) (by exact hsw _) (by exact hcall _) I2 fun h3 tk3 I3 => ?_
  obtain ⟨t3, ho3⟩ := I3.ob
  refine ks_wpAt_execs_cons ?_
  refine ks_wpAt_Assign_Attr (wpAt_of_wpAny (wpAny_Name (wpAny_loadName_local sk s4 I3.fr.ns mpk (wpAny_Name (wpAny_loadName_local sk s3 I3.fr.ns msf ?_) d1)) d2)) (by exact hsw2 _)
  refine sto_new T.base.SF (X.keeps I3.fr.keep) ho3 T.sa T.ov (T.tk k (List.mem_cons_self ..)) hc hcdd fun h4 tk4 dx k4 nd ne hx4 hn4 => ?_
  refine wpAt_of_wpAny (wpAny_execs_nil ?_)
  refine ⟨rfl, hq (hp.objs.size + 1) dx h4 tk4 ⟨fun b o e => k4 b o (fun z => ?_) (I3.fr.keep b o e), Nat.le_succ _, ?_, ne, ⟨t3, hx4⟩, _, hn4, fun f => zip1.symm⟩⟩
  · rw [z, xn] at e; cases e
  · have := Heap.lt_size ho3
    refine Nat.le_trans (Nat.le_trans (Nat.le_succ _) (Nat.le_of_lt this)) nd
end
structure XDefK (P : Program) (w : World) (K : PySem.W.Frag) (mg : Str → Option Value) (x k pk : Str) : Prop where
  ex : ∃ C, mg x = some (.ref C) ∧ PySem.W.nsIn K mainGlobals x = some (some (.ref C)) ∧ PySem.W.keepIn K (.ref C) = true ∧ MkXk P w K mg C k pk ∧ XRd K C [k]
theorem xdefk_of {P : Program} {w : World} {K : PySem.W.Frag} {mg : Str → Option Value} {h : Heap} (X : K.In h) (G : h.Ns mainGlobals mg) {x k pk : Str} {C fI : Addr} {cda : Value} {qual : Str} {B newId initId : String} {bmB : List Value} (a : PySem.W.nsIn K mainGlobals x = some (some (.ref C)))
    (z : XcF K C fI cda qual B newId initId bmB [k]) (m : MkXk P w K mg C k pk) : XDefK P w K mg x k pk := ⟨C, PySem.W.mg_of X G a, a, z.kp, m, z.r⟩
section
variable {X : Cx} {ρ : St2} {M : Mem} {N : List Str} {sc : Nms} {P : Program} {w : World} {K : PySem.W.Frag} {mg : Str → Option Value} {base : Heap} {k0 : Nat}
theorem we_exnK (C : Cxt X N sc P w K mg base k0) {x k pk : Str} {p pos kp : Pos} {e : Expr} {Q : QE} (D : XDefK P w K mg x k pk) (hk : 2 ≤ k0) (hg : (x : Str) ∈ sc.g) (h : WE X e ρ M fun d M1 => Q (.exn x [k] [d]) M1) (hh : sc.hot = false := by first | k_dflt rfl | assumption) : WE X (.Call (.Name x p) [] [⟨some pk, e, kp⟩] pos) ρ M Q := fun σ H rr pins s I => by
  obtain rfl := C.hP
  obtain rfl := C.hw
  obtain rfl := C.hK
  obtain rfl := C.hmg
  obtain rfl := C.hbase
  obtain ⟨Ca, hm, hn2, hkp, mk, rd⟩ := D.ex
  have h2 : tCons (cE X e) tNil σ H (fun vs H1 => ∃ v, vs = [v] ∧ LE X.K ρ σ H (fun d M1 => Q (.exn x [k] [d]) M1) v H1) := cE_mono (fun v H1 q => ⟨v, rfl, q⟩) (h σ H rr)
  refine wpAny_Call_Name_kw (ld_glob I (C.gl x hg).1 hm (PySem.W.callWith_KW0 (h₀ := X.base) I.ok.mod.kin hkp rfl (thn ((pk_cons (peC (X := X)) pk_nil).run pos pins s σ H _ I h2) ?_) rfl) (C.gl _ hg).2.1)
  rintro us s1 ⟨vs, H1, I1, rv, v, rfl, d0, M1, dn0, r1, t1, q⟩
  refine ⟨I1.kIn, ?_⟩
  obtain ⟨u, rfl, ru⟩ := vals1 rv
  have dn : DenL X.K H1 [d0] [v] := DenL.cons dn0 DenL.nil
  obtain ⟨mb, b1, b2⟩ := I1.mod.blt
  show wpAny _ _ (call (.ref Ca) [] [(pk, u)]) _ _ _
  refine mk X.A X.xe s1 u mb _ ((C.room hh).mono hk) I1.kIn I1.nolimit (I1.mod.glob.keeps I1.bk) (b1.keeps I1.bk) ((b2 _ (by decide +kernel)).trans PyProof.Rows.Boot.«super») fun a d h' tk md => ?_
  obtain ⟨G, od, k1, ga, na, nd, J⟩ := adopt (tk := tk) I1 md rv
  obtain ⟨t0, ho⟩ := md.ob
  have na' : upd H1 d (.frz od (.xd ([k].zip [v]))) a = none := by rw [upd_ne (Ne.symm md.ne)]; exact na
  have J2 := J.laidN (t' := tk) (h' := h') (a := a) (o := .frz (PySem.W.excObj Ca t0 (some d) .none) (.own a)) k1 ga na' ⟨ho, ⟨_, ho⟩⟩
  have tk1 : TK X.K H1 (upd H1 d (.frz od (.xd ([k].zip [v])))) := TK.fresh nd
  have tk2 : TK X.K (upd H1 d (.frz od (.xd ([k].zip [v])))) (upd (upd H1 d (.frz od (.xd ([k].zip [v])))) a (.frz (PySem.W.excObj Ca t0 (some d) .none) (.own a))) := TK.fresh na'
  refine ⟨.ref a, _, J2, rfl, .exn x [k] [d0], M1, den_exn.mpr ⟨a, [v], rfl, ⟨Ca, _, d, od, hn2, upd_same, rfl, rfl, ⟨_, rfl⟩, frz_at md.ne⟩, (dn.mono tk1).mono tk2⟩, (r1.newT nd).newT na', (t1.trans tk1).trans tk2, q⟩
end
end Y

set_option Elab.async false
set_option linter.all false
set_option autoImplicit false
set_option maxRecDepth 100000
set_option maxHeartbeats 4000000
/-! a lambda handed to a def, in the second layer -/
namespace Y
open PySem PySem.Spec PySem.Calls PyProof.Rows L2

/-! ### what the handed lambda does; the def that calls it -/
abbrev LBx := Mem → QE → XQ → Prop
/-- .. a wish for less is granted, too -/
def LMono (LB : LBx) : Prop := ∀ (M : Mem) (Q Q' : QE) (E E' : XQ), (∀ d M, Q d M → Q' d M) → (∀ n ks es M, E n ks es M → E' n ks es M) → LB M Q E → LB M Q' E'
/-- in X the parameter a stands for the lambda at f (its code object at c'): a() does LB -/
structure Act (X : Cx) (a : Str) (f c' : Addr) (q : Str) (LB : LBx) : Prop where
  mono : LMono LB
  run : ∀ (pn : List (Addr × Obj)) (xe : Value → Shared → Prop) (ρ : St2) (M : Mem) (Q : QE) (E : XE2) (p1 p2 : Pos), ρ[0]? = some (some (.obj f)) → M c' = some (.code q) → LB M Q (fun n ks es M' => E n ks es ρ M') → WEX (X.tr pn xe) (.Call (.Name a p1) [] [] p2) ρ M Q E
abbrev SpL := LBx → Mem → QE → XQ → Prop
/-- the context of the def that got it -/
structure ToldCx (P : Program) (w : World) (K : PySem.W.Frag) (mg : Str → Option Value) (base : Heap) (A : Around) (outer : List Env) (s : Shared) (H : Hp) (a : Str) (k : Nat) (Z : Cx) : Prop where
  ex : ∃ (CXg : CXT) (N : List Str) (qg : Str) (sg : Scope) (g : Addr) (cdg : Value) (Eg : XK), Z = cxOf CXg P w K mg base N qg sg g cdg A outer s H Eg ∧ N[0]? = some a ∧ Vis sg a ∧ Room k (A.deeper (envOfC qg sg s.heap.objs.size g cdg))
structure FnL (P : Program) (w : World) (K : PySem.W.Frag) (mg : Str → Option Value) (base : Heap) (k : Nat) (g : Addr) (fd : FuncData) (a : Str) (sp : SpL) : Prop where
  run : ∀ (A : Around) (outer : List Env) (s : Shared) (H : Hp) (args : Args) (f c' : Addr) (q : Str) (LB : LBx) (M : Mem) (Q : QE) (E : XQ), Room (k + 1) A → A.guards = some [] → Env0 P w K mg base A outer s H → BindsTo s fd args [(a, .ref f)] → Rep K H M → M c' = some (.code q) →
    (∀ Z, ToldCx P w K mg base A outer s H a k Z → Act Z a f c' q LB) → sp LB M Q E →
    codeAny (model P w) A (.call (.ref g) args) (CR (L2.CX P w) outer P w H s (LR K H Q) (XL K H E)) s
structure DefL (P : Program) (w : World) (K : PySem.W.Frag) (mg : Str → Option Value) (base : Heap) (k : Nat) (x a : Str) (sp : SpL) : Prop where
  ex : ∃ g fd, mg x = some (.ref g) ∧ PySem.W.keepIn K (.ref g) = true ∧ Binds K fd [a] [] ∧ FnL P w K mg base k g fd a sp
section
variable {P : Program} {w : World} {K : PySem.W.Frag} {mg : Str → Option Value} {base : Heap}
theorem fnl_of {x qual : Str} {st : Stmt} {f : Addr} {fd : FuncData} {a : Str} {N : List Str} {k : Nat} {sp : SpL} (F : Fun K x qual st f fd) (S : FnScope (a :: N) [a] (defScope st)) {sc : Nms} (ok : sc.ok (defScope st) = true) (hva : visB (defScope st) a = true)
    (hbody : ∀ (X : Cx) (fl c' : Addr) (q : Str) (LB : LBx) (M : Mem) (Q : QE) (E : XQ), Cxt X (a :: N) sc P w K mg base k → Tks X (fun n ks es _ M' => E n ks es M') → Act X a fl c' q LB → M c' = some (.code q) → sp LB M Q E → WSs X (defBody st) { nx := fun _ M' => Q .non M', rt := Q } (some (.obj fl) :: List.replicate N.length none) M) : FnL P w K mg base k f fd a sp := by
  obtain ⟨oc, od, kV, doc, pm, an, cdv, ct, osl, rfl, lk, hcd⟩ := F.ex
  refine ⟨?_⟩
  intro A outer s H args fl c' q LB M Q E hr hg e0 hb rp hc act h
  have old : ∀ b o, base.get? b = some o → s.heap.get? b = some o := fun b o e => (e0.bs b o e).1
  have KX : K.In s.heap := e0.mod.kin.keeps old
  have rv : Vals [V.ref fl] [Value.ref fl] := .cons rfl .nil
  refine codeAny_call_function hr.depth (KX _ _ lk) rfl S.co S.gen rfl (PySem.W.codeRec_of KX hcd) (hb _ _ _ _ (wpAny_newFunctionEnv_cells S.kind ?_ fun env he s1 ic => ?_))
  · rintro ⟨n, v⟩ hy
    have hn : n ∈ [a] := by
      have := List.mem_singleton.mp hy
      cases this; exact List.mem_singleton.mpr rfl
    exact (S.par n hn).elim .inl fun q => .inr ⟨q, PySem.W.cellsFrom_some _ _ _ (.inl q)⟩
  · subst he
    refine ⟨(e0.mod.nolimit.keeps old).keeps ic.toInCall.keep, codeAny_func ?_⟩
    have I := inv_start (CX := L2.CX P w) (E := XL K H E) (N := a :: N) (ps := [a]) (vs := [V.ref fl]) (us := [Value.ref fl]) S hr.hd e0 rfl rv ic
    have C := cxt_ofX (P := P) (w := w) (K := K) (mg := mg) (base := base) (qual := qual) (f := f) (cd := cdv) (outer := outer) (H := H) (E := XL K H E) (s := s) S ok (hr.deeper _) hg
    have tk0 : Takes (cxOf (L2.CX P w) P w K mg base (a :: N) qual (defScope st) f cdv A outer s H (XL K H E)) (fun cls d _ H' => XL K H E cls d H') := takes_of rfl rfl rfl rfl
    have TX : Tks (cxOf (L2.CX P w) P w K mg base (a :: N) qual (defScope st) f cdv A outer s H (XL K H E)) (fun n ks es _ M' => E n ks es M') := ⟨fun u s' xe => by
      obtain ⟨a', B, sI, pins, σ, H', cls, d, e, I', nb, up, sky, na, os, ag, n, ks, es, ρ', M', xd, r', q⟩ := xe
      exact tk0 u s' ⟨a', B, sI, pins, σ, H', cls, d, e, I', nb, up, sky, na, os, ag, n, ks, es, M', xd, r'.rep, un_tk I'.base, q⟩, rfl, rfl, rfl⟩
    have T : ToldCx P w K mg base A outer s H a k (cxOf (L2.CX P w) P w K mg base (a :: N) qual (defScope st) f cdv A outer s H (XL K H E)) := ⟨L2.CX P w, a :: N, qual, defScope st, f, cdv, XL K H E, rfl, rfl, vis_of hva, hr.deeper _⟩
    have W := hbody _ fl c' q LB M Q E C TX (act _ T) hc h (L2.start (a :: N) [V.ref fl]) H ⟨start_env (N := a :: N) (ds := [.obj fl]) (DenL.cons (den_obj.mpr rfl) DenL.nil), rp⟩
    have W2 := (pssC (X := cxOf (L2.CX P w) P w K mg base (a :: N) qual (defScope st) f cdv A outer s H (XL K H E)) (st := defBody st)).run [] s1 (L2.start (a :: N) [V.ref fl]) H _ I W
    refine wpAny_mono W2 (fun fl s' hs => ?_) fun _ _ z => z
    cases fl with
    | next =>
      obtain ⟨σ', H', J, ρ', M', r', t', q⟩ := hs
      exact ⟨.non, H', J.os, J.bare, J.base, J.hok, rfl, .non, M', den_non.mpr rfl, r'.rep, t', q⟩
    | ret u =>
      obtain ⟨v, σ', H', J, rv, q⟩ := hs
      exact ⟨v, H', J.os, J.bare, J.base, J.hok, rv, q⟩
    | brk => obtain ⟨_, _, _, _, _, _, _, q⟩ := hs; exact q.elim
    | cont => obtain ⟨_, _, _, _, _, _, _, q⟩ := hs; exact q.elim
end

/-! ### the lambda's own context -/
section
variable {X : Cx} {ρ : St2} {M : Mem} {N : List Str} {sc scl : Nms} {P : Program} {w : World} {K : PySem.W.Frag} {mg : Str → Option Value} {base : Heap} {k0 k : Nat}
theorem cxt_lam (C : Cxt X N sc P w K mg base k0) {A : Around} {outer : List Env} {s : Shared} {H : Hp} {E : XK} {scope : Scope} {f c' : Addr} (L : LamX.LamS X.env.scope scope) (ok : scl.ok scope = true) (hr : Room k (A.deeper (LamX.lamEnv X scope s.heap.objs.size f c'))) (hg : A.guards = some []) :
    Cxt (LamX.lamCx X A outer s H E scope f c') N scl P w K mg base k where
  hP := C.hP
  hw := C.hw
  hK := C.hK
  hmg := C.hmg
  hbase := C.hbase
  hN := C.hN
  nd := C.nd
  calm := fun _ => rfl
  vis := fun x h => ⟨vis_of ((Nms.at_ ok).1 x h), visB_dbg ((Nms.at_ ok).1 x h)⟩
  loc := fun x h => loc_of ((Nms.at_ ok).2.1 x h)
  lcl := fun x h => lcl_of ((Nms.at_ ok).2.2.1 x h)
  gl := fun x h => ⟨gl_of ((Nms.at_ ok).2.2.2.1 x h), glB_dbg ((Nms.at_ ok).2.2.2.1 x h)⟩
  fn := fun x h => by
    have z := loc_of ((Nms.at_ ok).2.1 x h)
    rcases z with z | z
    · exact .inr z
    · exact absurd rfl (L.own _ (PySem.mem_of_lookup z)).2
  fr := fun x h => fr_of ((Nms.at_ ok).2.2.2.2 x h)
  kind := L.kind
  room := fun _ => hr
  gd := hg
  never := passes_of (X := LamX.lamCx X A outer s H E scope f c') rfl
/-- what the lambda's body does, seen from its maker's frame ρ -/
def LamB (N : List Str) (scl : Nms) (P : Program) (w : World) (K : PySem.W.Frag) (mg : Str → Option Value) (base : Heap) (k : Nat) (body : Expr) (ρ : St2) : LBx := fun M Q E => ∀ Xl, Cxt Xl N scl P w K mg base k → Tks Xl (fun n ks es _ M' => E n ks es M') → WE Xl body ρ M Q
theorem lamB_mono {body : Expr} : LMono (LamB N scl P w K mg base k body ρ) := fun M Q Q' E E' hq he h Xl C T => WE.mono hq (h Xl C ⟨T.tk.imp fun c d σ H z => by
  obtain ⟨n, ks, ds, ρ', M', a, b, e⟩ := z
  exact ⟨n, ks, ds, ρ', M', a, b, he _ _ _ _ e⟩, T.stk, T.frm, T.nex⟩)
/-- the handed lambda does what its body does -/
theorem act_of (C : Cxt X N sc P w K mg base k0) {pins : List (Addr × Obj)} {σ : L2.St} {H : Hp} {s : Shared} {f c' : Addr} {pm ctv : Value} {params : Arguments} {body : Expr} {scope : Scope} {a : Str} {Z : Cx} (I : Inv X pins σ H s) (re : EnvR K H ρ σ) (L : LamX.LamS X.env.scope scope) (ok : scl.ok scope = true)
    (hf : s.heap.get? f = some (PySem.W.kla_obj "<lambda>" (X.env.qual ++ "<lambda>") params body scope (cloFrom X.env.cells scope.names []) pm c' ctv)) (hfn : H f = none) (hfr : f ∉ frs X.stack)
    (hbind : bindArgs (PySem.W.kla_fn "<lambda>" (X.env.qual ++ "<lambda>") params body scope (cloFrom X.env.cells scope.names []) pm (.ref c') ctv) ⟨[], []⟩ = pure [])
    (T : ToldCx X.prog X.w X.K X.mg X.base X.A X.stack s H a (k + 1) Z) (hd : (a == ("__debug__" : Str)) = false) (hcd : (a == ("__classdict__" : Str)) = false) :
    Act Z a f c' (X.env.qual ++ "<lambda>") (LamB N scl P w K mg base k body ρ) := by
  obtain ⟨CXg, Ng, qg, sg, g, cdg, Eg, rfl, hN, hv, hr⟩ := T.ex
  obtain rfl := C.hP
  obtain rfl := C.hw
  obtain rfl := C.hK
  obtain rfl := C.hmg
  obtain rfl := C.hbase
  refine ⟨lamB_mono, fun pn xe ρZ M' Q E p1 p2 h0 hc0 hb σZ HZ rr tk0 pinsZ sZ IZ => ?_⟩
  obtain ⟨v0, hs, dv⟩ := rr.env.at_ 0 _ h0
  rw [den_obj.mp dv] at hs
  have hc : HZ c' = some (LamX.CodeO c' (X.env.qual ++ "<lambda>")) := rr.rep _ _ hc0
  refine wpAny_Call_Name_kw (thn ((pe_var (X := (cxOf CXg X.prog X.w X.K X.mg X.base Ng qg sg g cdg X.A X.stack s H Eg).tr pn xe) (pos := p1) (i := 0) hN hv hd hcd).run pinsZ sZ σZ HZ (fun v H1 => v = .ref f ∧ H1 = HZ) IZ ⟨.ref f, hs, rfl, rfl⟩) fun u s1 ⟨v, H1, I1, r1, q1⟩ => ?_)
  obtain ⟨ev, eH⟩ := q1
  subst ev
  rw [eH] at I1
  obtain rfl : u = Value.ref f := r1
  have of1 : s1.heap.get? f = some (PySem.W.kla_obj "<lambda>" (X.env.qual ++ "<lambda>") params body scope (cloFrom X.env.cells scope.names []) pm c' ctv) := I1.base.keep f _ hf hfn hfr (fun z => nomatch (show f ∈ ([] : List Addr) from z))
  refine PySem.W.callWith_F0 ⟨_, _, _, _, of1⟩ ?_
  have un : Un (frs X.stack) [] H HZ s.heap s1.heap := I1.base
  obtain ⟨⟨oc, vs, t, hoc, hdc, hvc⟩, _, _⟩ := I1.hok c' _ hc
  have rc : codeAny (model X.prog X.w) (X.A.deeper (envOfC qg sg s.heap.objs.size g cdg)) (.call (.ref f) ⟨[], []⟩) (CR (L2.CX X.prog X.w) (envOfC qg sg s.heap.objs.size g cdg :: X.stack) X.prog X.w HZ s1 (LR X.K HZ Q) (XL X.K HZ fun n ks es M'' => E n ks es ρZ M'')) s1 := by
    refine PySem.W.kla_callFunE hr.depth of1 rfl L.co L.gen rfl ⟨c', oc, vs, t, rfl, hoc, hdc, hvc⟩ ?_
    rw [hbind]
    refine wpAny_pure (wpAny_newFunctionEnv (fun y hy => (L.own y hy).2) (fun y hy => absurd hy (by simp)) (fun h₁ hns hsb => ⟨I1.nolimit.fresh _ hsb, ?_⟩) L.kind)
    show codeAny _ _ (.expr body (LamX.lamEnv X scope s1.heap.objs.size f c')) _ _
    have kp : ∀ b o, s1.heap.get? b = some o → h₁.get? b = some o := fun b o e => hsb.extBut b o (Nat.ne_of_lt (Heap.lt_size e)) (Heap.get?_push_of_some _ e)
    have J : Inv (LamX.lamCx X (X.A.deeper (envOfC qg sg s.heap.objs.size g cdg)) (envOfC qg sg s.heap.objs.size g cdg :: X.stack) s1 HZ (XL X.K HZ fun n ks es M'' => E n ks es ρZ M'') scope f c') [] σ HZ { s1 with heap := h₁, toks := s1.toks + ([] : List (Str × Value)).length } :=
      LamX.lam_start2 I L I1.env0 hr.hd un hns kp
    have hr2 : Room k ((X.A.deeper (envOfC qg sg s.heap.objs.size g cdg)).deeper (LamX.lamEnv X scope s1.heap.objs.size f c')) := hr.deeper _
    have Cl := cxt_lam (scl := scl) (A := X.A.deeper (envOfC qg sg s.heap.objs.size g cdg)) (outer := envOfC qg sg s.heap.objs.size g cdg :: X.stack) (s := s1) (H := HZ) (E := XL X.K HZ fun n ks es M'' => E n ks es ρZ M'') (f := f) (c' := c') C L ok hr2 C.gd
    have tk1 : Takes (LamX.lamCx X (X.A.deeper (envOfC qg sg s.heap.objs.size g cdg)) (envOfC qg sg s.heap.objs.size g cdg :: X.stack) s1 HZ (XL X.K HZ fun n ks es M'' => E n ks es ρZ M'') scope f c') (fun cls d _ H' => XL X.K HZ (fun n ks es M'' => E n ks es ρZ M'') cls d H') := takes_of rfl rfl rfl rfl
    have TX : Tks (LamX.lamCx X (X.A.deeper (envOfC qg sg s.heap.objs.size g cdg)) (envOfC qg sg s.heap.objs.size g cdg :: X.stack) s1 HZ (XL X.K HZ fun n ks es M'' => E n ks es ρZ M'') scope f c') (fun n ks es _ M'' => E n ks es ρZ M'') := ⟨fun u s' xe => by
      obtain ⟨a', B, sI, pins, σ', H', cls, d, e, I', nb, up, sky, na, os, ag, n, ks, es, ρ', M'', xd, r', q⟩ := xe
      exact tk1 u s' ⟨a', B, sI, pins, σ', H', cls, d, e, I', nb, up, sky, na, os, ag, n, ks, es, M'', xd, r'.rep, un_tk I'.base, q⟩, rfl, rfl, rfl⟩
    have W := hb _ Cl TX σ HZ ⟨re.mono (un_tk un), rr.rep⟩
    refine PySem.W.kla_codeExpr (wpAny_mono (W [] _ J) (fun v s' hq => ?_) fun e s' hq => hq)
    obtain ⟨w', H', J', rv, d, M'', dn, r', t', q⟩ := hq
    exact ⟨w', H', J'.os, J'.bare, J'.base, J'.hok, rv, d, M'', dn, r'.rep, t', q⟩
  refine wpAny_call (codeAny_mono rc fun r s' hq => ?_)
  cases r with
  | error e =>
    refine tk0 e s' (XE.of_call I1 (fun cls d H' z => ?_) hq)
    obtain ⟨n, ks, es', M'', xd, rp', tk', q'⟩ := z
    exact ⟨n, ks, es', ρZ, M'', xd, ⟨rr.env.mono tk', rp'⟩, tk', q'⟩
  | ok fl =>
    cases fl with
    | ret u =>
      obtain ⟨v, H', os, bare, un, hok, rv', d, M'', dn', rp', tk', qq⟩ := hq
      exact I1.after ⟨v, H', os, bare, un, hok, rv', d, M'', dn', ⟨rr.env.mono tk', rp'⟩, tk', qq⟩
    | next => exact hq.elim
    | brk => exact hq.elim
    | cont => exact hq.elim
/-- the context of a def that makes lambdas: its code object, the table of those that it makes -/
structure Mkr (X : Cx) (K : PySem.W.Frag) (mg : Str → Option Value) (base : Heap) (T : Addr) : Prop where
  ex : ∃ c, X.env.code = .ref c ∧ LamX.TabB base mg c T
theorem code_same {pins : List (Addr × Obj)} {σ : L2.St} {H : Hp} {s : Shared} {c : Addr} {q q' : Str} (I : Inv X pins σ H s) (h : H c = some (LamX.CodeO c q)) (h' : H c = some (LamX.CodeO c q')) : q' = q := by
  obtain ⟨⟨oc, vs, t, e1, e2, e3⟩, _⟩ := I.hok c _ h
  obtain ⟨⟨oc', vs', t', e1', e2', e3'⟩, _⟩ := I.hok c _ h'
  rw [e1] at e1'; cases e1'
  rw [e2] at e2'; cases e2'
  rw [e3] at e3'; cases e3'
  rfl
/-- a code object, told in the memory -/
theorem code_ext {pins : List (Addr × Obj)} {σ : L2.St} {H : Hp} {s : Shared} {c : Addr} {q : Str} (I : Inv X pins σ H s) (r : Rep X.K H M) (h : H c = some (LamX.CodeO c q)) : Ext M (mup M c (.code q)) ∧ Rep X.K H (mup M c (.code q)) := by
  refine ⟨fun b o e => ?_, fun b o e => ?_⟩
  · by_cases hbc : b = c
    · subst hbc
      rw [mup_same]
      have ro := r _ _ e
      cases o with
      | lst ds => obtain ⟨xs, e1, _⟩ := ro; rw [h] at e1; cases e1
      | dk ds => obtain ⟨xs, e1, _⟩ := ro; rw [h] at e1; cases e1
      | ins _ ds => obtain ⟨dx, xs, e1, _⟩ := ro; rw [h] at e1; cases e1
      | tab q0 => obtain ⟨ps, e1, _⟩ := ro; rw [h] at e1; cases e1
      | code q' => rw [code_same I h ro]
    · rw [mup_ne hbc]; exact e
  · by_cases hbc : b = c
    · subst hbc; rw [mup_same] at e; cases e; exact h
    · rw [mup_ne hbc] at e; exact r _ _ e
/-- the handed lambda's def is called -/
theorem told_go (C : Cxt X N sc P w K mg base k0) {x a : Str} {sp : SpL} {params : Arguments} {body : Expr} {scope : Scope} {Q : QE} (G : DefL P w K mg base (k + 1) x a sp) {g : Addr} (hm : mg x = some (.ref g)) (hk : k + 2 ≤ k0)
    (L : LamX.LamS X.env.scope scope) (ok : scl.ok scope = true) {f c' : Addr} {pm ctv : Value} {σ : L2.St} {H H1 : Hp} {s' : Shared} {pins : List (Addr × Obj)} {M1 : Mem}
    (hbind : bindArgs (PySem.W.kla_fn "<lambda>" (X.env.qual ++ "<lambda>") params body scope (cloFrom X.env.cells scope.names []) pm (.ref c') ctv) ⟨[], []⟩ = pure [])
    (I1 : Inv X pins σ H1 s') (tk : TK K H H1) (r1 : R K ρ M1 σ H1) (mc : M1 c' = some (.code (X.env.qual ++ "<lambda>"))) (hf : s'.heap.get? f = some (PySem.W.kla_obj "<lambda>" (X.env.qual ++ "<lambda>") params body scope (cloFrom X.env.cells scope.names []) pm c' ctv)) (hfn : H1 f = none) (hfr : f ∉ frs X.stack)
    (h : sp (LamB N scl P w K mg base k body ρ) M1 Q fun _ _ _ _ => False) (hd : (a == ("__debug__" : Str)) = false) (hcd : (a == ("__classdict__" : Str)) = false) (hh : sc.hot = false) :
    wpAny (model X.prog X.w) X.A (call (.ref g) [.ref f]) (EP X pins σ (LE X.K ρ σ H Q)) X.xe s' := by
  have Cc := C
  obtain rfl := C.hP
  obtain rfl := C.hw
  obtain rfl := C.hK
  obtain rfl := C.hmg
  obtain rfl := C.hbase
  obtain ⟨g', fd, hm', hkp, hb, F⟩ := G.ex
  rw [hm] at hm'; cases hm'
  have run := F.run X.A X.stack s' H1 ⟨[.ref f], []⟩ f c' (X.env.qual ++ "<lambda>") (LamB N scl X.prog X.w X.K X.mg X.base k body ρ) _ Q (fun _ _ _ _ => False) ((C.room hh).mono hk) C.gd I1.env0 (hb s' [.ref f] I1.kIn rfl) r1.rep mc
    (fun Z hZ => act_of Cc I1 r1.env L ok hf hfn hfr hbind hZ hd hcd) h
  refine wpAny_call (codeAny_mono run fun r s2 hq => ?_)
  cases r with
  | error e => exact (cx_no hq).elim
  | ok fl =>
    cases fl with
    | ret u =>
      obtain ⟨v, H', os, bare, un, hok, rv', d, M', dn', rp', tk', qq⟩ := hq
      exact I1.after ⟨v, H', os, bare, un, hok, rv', d, M', dn', ⟨r1.env.mono tk', rp'⟩, tk.trans tk', qq⟩
    | next => exact hq.elim
    | brk => exact hq.elim
    | cont => exact hq.elim
/-- x(lambda: body) -/
theorem we_told (C : Cxt X N sc P w K mg base k0) {T : Addr} (MK : Mkr X K mg base T) {x a : Str} {sp : SpL} {params : Arguments} {body : Expr} {scope : Scope} {p lpos pos : Pos} {Q : QE} (G : DefL P w K mg base (k + 1) x a sp) (hk : k + 2 ≤ k0) (hg : (x : Str) ∈ sc.g)
    (L : LamX.LamS X.env.scope scope) (ok : scl.ok scope = true) (hdef : defaultsOf params X.env = ([], [])) (hbind : ∀ (q : Str) (cl : List (Str × Addr)) (pm cv ctv : Value), bindArgs (PySem.W.kla_fn "<lambda>" q params body scope cl pm cv ctv) ⟨[], []⟩ = pure [])
    (hM : M T = some (.tab (X.env.qual ++ "<lambda>"))) (h : ∀ M1, Ext M M1 → sp (LamB N scl P w K mg base k body ρ) M1 Q fun _ _ _ _ => False) (hd : (a == ("__debug__" : Str)) = false := by decide) (hcd : (a == ("__classdict__" : Str)) = false := by decide) (hh : sc.hot = false := by first | k_dflt rfl | assumption) :
    WE X (.Call (.Name x p) [.Lambda params body scope lpos] [] pos) ρ M Q := fun σ H rr pins s I => by
  have Cc := C
  have GG := G
  obtain rfl := C.hP
  obtain rfl := C.hw
  obtain rfl := C.hK
  obtain rfl := C.hmg
  obtain rfl := C.hbase
  obtain ⟨g, fd, hm, hkp, hb, F⟩ := G.ex
  obtain ⟨c, hcode, TB⟩ := MK.ex
  obtain ⟨ps, hP, ht, ha⟩ := rr.rep _ _ hM
  refine wpAny_Call_Name_kw (ld_glob I (C.gl x hg).1 hm ?_ (C.gl _ hg).2.1)
  refine PySem.W.callWith_K (h₀ := X.base) I.ok.mod.kin hkp ?_ (by rfl) (by rfl)
  show wpAny _ _ (spliced ((false, eval (.Lambda params body scope lpos) X.env) :: backTo pos (starEach [] X.env))) _ _ s
  refine Calls.spliced_cons (PySem.W.kla_eval hdef ?_)
  have bP : s.heap.BuiltinsAt X.mg T := TB.bm.keeps I.bk
  have hP' : s.heap.get? T = some { cls := .none, data := .fields ps } := I.hok T _ hP
  have nofr : ∀ f, s.heap.objs.size ≤ f → f ∉ frs X.stack := fun f hf z => by
    rcases List.mem_cons.mp (I.stkSub _ z) with e | e
    · exact Nat.lt_irrefl _ (Nat.lt_of_lt_of_le (e ▸ I.lt) hf)
    · exact I.nofs hf e
  cases hc : codeAmong lpos ps.toList with
  | none =>
    refine PySem.W.kla_makeFunction (mg := X.mg) (c := c) (P := T) (ps := ps) (closure_ok (L.has I.ok)) I.ok.glob (I.mod.glob.keeps I.bk) hcode (TB.code.keeps I.bk) hP' ht hc TB.gP bP fun c' ctv h' tk hx hge hlt hrec htb => ?_
    obtain ⟨c2, oc, vs, t, e2, hoc, hdc, hv⟩ := hrec
    cases e2
    have hsz : s.heap.objs.size ≤ h'.objs.size := Nat.le_trans hge (Nat.le_of_lt hlt)
    have nC : H c' = none := I.hok.fresh hge
    have I1 := LamX.inv_table (t' := tk) (more := #[rawInt lpos.line, rawInt lpos.col, .ref c']) (h' := h'.push (PySem.W.kla_obj "<lambda>" (X.env.qual ++ "<lambda>") params body scope (cloFrom X.env.cells scope.names []) ((X.mg "__name__").getD .none) c' ctv)) I hP
      (fun b o hb e => Heap.get?_push_of_some _ (hx b o hb e)) (Heap.get?_push_of_some _ htb) hge ⟨oc, vs, t, Heap.get?_push_of_some _ hoc, hdc, hv⟩
    have nTc : T ≠ c' := ne_of_none hP nC
    have nC1 : upd H T (.tbl (ps ++ #[rawInt lpos.line, rawInt lpos.col, .ref c'])) c' = none := by rw [upd_ne (Ne.symm nTc)]; exact nC
    have tk1 : TK X.K H (upd H T (.tbl (ps ++ #[rawInt lpos.line, rawInt lpos.col, .ref c']))) := TK.store fun u e => by rw [hP] at e; cases e; exact ⟨(fun _ z => by cases z), (fun _ _ z => by cases z)⟩
    have tk2 : TK X.K (upd H T (.tbl (ps ++ #[rawInt lpos.line, rawInt lpos.col, .ref c']))) (upd (upd H T (.tbl (ps ++ #[rawInt lpos.line, rawInt lpos.col, .ref c']))) c' (LamX.CodeO c' (X.env.qual ++ "<lambda>"))) := TK.fresh nC1
    have rp : Rep X.K (upd (upd H T (.tbl (ps ++ #[rawInt lpos.line, rawInt lpos.col, .ref c']))) c' (LamX.CodeO c' (X.env.qual ++ "<lambda>"))) M := fun b o e => by
      have hbc : b ≠ c' := fun z => by rw [z, rr.rep.free nC] at e; cases e
      by_cases hb : b = T
      · subst hb
        rw [hM] at e; cases e
        have eL : (ps ++ #[rawInt lpos.line, rawInt lpos.col, .ref c']).toList = ps.toList ++ [rawInt lpos.line, rawInt lpos.col, .ref c'] := by simp
        refine ⟨_, by rw [upd_ne nTc, upd_same], by rw [eL]; exact PySem.TriplesOk_snoc _ _ _ _ ht, fun p' cv hcv => ?_⟩
        rw [eL] at hcv
        rcases LamX.among_app _ ht hcv with z | z
        · obtain ⟨c0, e1, e2⟩ := ha p' cv z
          refine ⟨c0, e1, ?_⟩
          rw [upd_ne (ne_of_none e2 nC), upd_ne fun z => by rw [z, hP] at e2; cases e2]
          exact e2
        · exact ⟨c', z, upd_same⟩
      · exact RepO.store tk2 (NoX.none nC1) hbc (RepO.store tk1 (NoX.tbl hP) hb (rr.rep _ _ e))
    have hf0 : upd (upd H T (.tbl (ps ++ #[rawInt lpos.line, rawInt lpos.col, .ref c']))) c' (LamX.CodeO c' (X.env.qual ++ "<lambda>")) h'.objs.size = none := by
      rw [upd_ne (Nat.ne_of_gt hlt), upd_ne (Nat.ne_of_gt (Nat.lt_of_lt_of_le (Heap.lt_size hP') hsz))]
      exact I.hok.fresh hsz
    obtain ⟨x1, rp1⟩ := code_ext I1 rp upd_same
    refine Calls.spliced_nil ⟨I1.kIn, ?_⟩
    exact told_go Cc GG hm hk L ok (hbind _ _ _ _ _) I1 (tk1.trans tk2) ⟨rr.env.mono (tk1.trans tk2), rp1⟩ mup_same (Heap.get?_push_size _ rfl) hf0 (nofr _ hsz) (h _ x1) hd hcd hh
  | some cv =>
    obtain ⟨c', e, hco⟩ := ha lpos cv hc
    subst e
    refine PySem.W.kla_makeFunctionHit (mg := X.mg) (c := c) (P := T) (ps := ps) (closure_ok (L.has I.ok)) I.ok.glob (I.mod.glob.keeps I.bk) hcode (TB.code.keeps I.bk) hP' ht hc bP fun ctv h' tk hx hsz => ?_
    have I1 : Inv X pins σ H { s with heap := h'.push (PySem.W.kla_obj "<lambda>" (X.env.qual ++ "<lambda>") params body scope (cloFrom X.env.cells scope.names []) ((X.mg "__name__").getD .none) c' ctv), toks := tk } := I.kept fun b o e => Heap.get?_push_of_some _ (hx b o e)
    obtain ⟨x1, rp1⟩ := code_ext I1 rr.rep hco
    refine Calls.spliced_nil ⟨I1.kIn, ?_⟩
    exact told_go Cc GG hm hk L ok (hbind _ _ _ _ _) I1 (TK.refl _) ⟨rr.env, rp1⟩ mup_same (Heap.get?_push_size _ rfl) (I.hok.fresh hsz) (nofr _ hsz) (h _ x1) hd hcd hh
end
end Y

set_option Elab.async false
set_option linter.all false
set_option autoImplicit false
set_option maxRecDepth 100000
set_option maxHeartbeats 4000000
/-! the end of a law whose defs make lambdas -/
namespace Y
open PySem PySem.Spec PyProof.Rows L2
/-- the code object of the def that the module names x; its table -/
def codeAd (K : PySem.W.Frag) (x : Str) : Addr := match PySem.W.nsIn K mainGlobals x with
  | some (some (.ref f)) => (match K.lookup f with
    | some ⟨_, _, .func fd, _⟩ => (match fd.code with
      | .ref c => c
      | _ => 0)
    | _ => 0)
  | _ => 0
def tabAd (K : PySem.W.Frag) (x : Str) : Addr := match K.lookup (codeAd K x) with
  | some ⟨_, _, .fields vs, _⟩ => (match (vs[11]? : Option Value) with
    | some (.ref T) => T
    | _ => 0)
  | _ => 0
def lamQ (x : Str) : Str := (x ++ ".<locals>.") ++ "<lambda>"
/-- what a law's def promises, the tables of the defs ms known -/
def spLawT (n : Nat) (K : PySem.W.Frag) (ms : List Str) : Sp2 := fun ds M Q _ => ∃ ns : List Int, ds = [.ro (ns.map D.int)] ∧ ns.length ≤ n ∧ (∀ x ∈ ms, M (tabAd K x) = some (.tab (lamQ x))) ∧ ∀ M', Q (.bl true) M'
section
variable {P : Program} {w : World} {K : PySem.W.Frag} {mg mb : Str → Option Value} {k n : Nat} {fa a : Addr} {fd : FuncData} {x : Str} {s₁ : Shared} {vs : List Value} {ns : List Int} {ms : List Str}
/-- the tables stand empty, are not written out, are two by two different -/
structure TabsE (K : PySem.W.Frag) (ms : List Str) : Prop where
  out : ∀ x ∈ ms, K.lookup (tabAd K x) = none
  hd : ∀ x ∈ ms, PySem.W.codeHdIn K (codeAd K x) (tabAd K x) = true
  inj : ∀ x ∈ ms, ∀ y ∈ ms, tabAd K x = tabAd K y → x = y
theorem law_fromT (KX : K.In s₁.heap) (hns : s₁.heap.Ns mainGlobals mg) (hb : s₁.heap.Ns builtinsNs mb) (hbb : ∀ x : Str, x ≠ "__name__" → mb x = bootBuiltins x) (hlim : s₁.heap.NoLimit) (hg : s₁.gens = #[])
    (hbm : ∃ (bm : Addr) (ob : Obj), mg "__builtins__" = some (.ref bm) ∧ bm ≠ builtinsNs ∧ s₁.heap.get? bm = some ob ∧ ob.cls = .type "module" ∧ ob.dict = some builtinsNs ∧ ob.data = .plain)
    (TE : TabsE K ms) (hT : ∀ x ∈ ms, s₁.heap.get? (tabAd K x) = some { cls := .none, data := .fields #[] })
    (ha : s₁.heap.get? a = some { cls := .type "list", data := .seq vs.toArray }) (hl : ns.length ≤ n) (hr : Room k callerA)
    (F : ∀ base : Heap, K.In base → base.Ns mainGlobals mg → (∀ x ∈ ms, LamX.TabB base mg (codeAd K x) (tabAd K x)) → Fn2 P w K mg base k fa fd [x] (spLawT n K ms)) (hbind : ∀ (s : Shared) (u : Value), BindsTo s fd ⟨[u], []⟩ [(x, u)])
    (H : Hp) (hO : ∀ b u, H b = some u → (b = a ∧ K.lookup a = none ∧ ∃ o xs, u = .frz o (.lst xs)) ∨ (u = .tbl #[] ∧ ∃ x ∈ ms, b = tabAd K x)) (hH : ∀ x ∈ ms, H (tabAd K x) = some (.tbl #[])) (hS : SqF K H a (ns.map V.int)) (hok : HOk P w H s₁.heap) :
    codeAny (model P w) callerA (.call (.ref fa) ⟨[.ref a], []⟩) (fun r s' => r = .ok (.ret (.bool true)) ∧ OldK s₁.heap s'.heap ∧ s'.os = s₁.os ∧ AllBare s'.gens) s₁ := by
  have off : ∀ {b : Addr} {o : Obj}, s₁.heap.get? b = some o → (∀ us n, o.data ≠ .seq us n) → (∀ us, o.data ≠ .fields us) → H b = none := fun {b o} e h1 h2 => by
    cases q : H b with
    | none => rfl
    | some u =>
      rcases hO b u q with ⟨z, _⟩ | ⟨_, y, hy, z⟩
      · rw [z, ha] at e; cases e; exact (h1 _ _ rfl).elim
      · rw [z, hT y hy] at e; cases e; exact (h2 _ rfl).elim
  have nsK : ∀ {b : Addr} {m : Str → Option Value}, s₁.heap.Ns b m → (hidT s₁.heap H).Ns b m := by
    rintro b m ⟨o, es, ep, e, d, r⟩
    exact ⟨o, es, ep, hidT_get e (off e (fun us n z => by rw [d] at z; cases z) (fun us z => by rw [d] at z; cases z)), d, r⟩
  have hKb : K.In (hidT s₁.heap H) := fun b o e => hidT_get (KX b o e) (by
    cases q : H b with
    | none => rfl
    | some u =>
      rcases hO b u q with ⟨z, kn, _⟩ | ⟨_, y, hy, z⟩
      · rw [z, kn] at e; cases e
      · rw [z, TE.out y hy] at e; cases e)
  obtain ⟨mc, l1, l2⟩ := hlim
  have hM : Mod K mg (hidT s₁.heap H) := { kin := hKb, glob := nsK hns, blt := ⟨mb, nsK hb, hbb⟩, nolimit := ⟨mc, nsK l1, l2⟩ }
  have TB : ∀ x ∈ ms, LamX.TabB (hidT s₁.heap H) mg (codeAd K x) (tabAd K x) := fun y hy => by
    obtain ⟨om, esm, epm, em, hdm, _⟩ := id hns
    refine ⟨PySem.W.codeHd_of_K hKb (TE.hd y hy), ?_, fun z => ?_⟩
    · obtain ⟨bm, ob, b1, b2, b3, b4, b5, b6⟩ := hbm
      refine ⟨bm, ob, b1, b2, fun q => ?_, fun q => ?_, hidT_get b3 (off b3 (fun us n z => by rw [b6] at z; cases z) (fun us z => by rw [b6] at z; cases z)), b4, b5, b6⟩
      · rw [q, em] at b3; cases b3; rw [hdm] at b6; cases b6
      · rw [q, hT y hy] at b3; cases b3; cases b6
    · rw [z, hT y hy] at em; cases em; cases hdm
  have e0 : Env0 P w K mg (hidT s₁.heap H) callerA [] s₁ H := { frames := rfl, mod := hM, bs := fun b o e => of_hidT e, bsz := Nat.le_of_eq (hidT_size _ _), funs := trivial, frf := fun b hb => (nomatch hb), hok := hok, bare := .of_eq hg }
  have m0 : ∀ y ∈ ms, (ms.find? fun z => tabAd K z == tabAd K y).map (fun z => MO.tab (lamQ z)) = some (.tab (lamQ y)) := fun y hy => by
    cases q : ms.find? fun z => tabAd K z == tabAd K y with
    | none => exact absurd (List.find?_eq_none.mp q y hy) (by simp)
    | some z =>
      have h1 := List.mem_of_find?_eq_some q
      have h2 := List.find?_some q
      rw [TE.inj z h1 y hy (beq_iff_eq.mp h2)]; rfl
  have run := (F _ hKb (nsK hns) TB).run callerA [] s₁ H ⟨[.ref a], []⟩ [.ref a] [.ref a] [.ro (ns.map D.int)] (fun b => (ms.find? fun z => tabAd K z == b).map fun z => MO.tab (lamQ z)) (fun d _ => d = .bl true) (fun _ _ _ _ => False) hr rfl e0 (hbind s₁ (.ref a)) (.cons rfl .nil)
    (DenL.cons (den_ro.mpr ⟨a, _, rfl, hS, DenL.of_ints ns⟩) DenL.nil) (fun b o e => by
      replace e : (ms.find? fun z => tabAd K z == b).map (fun z => MO.tab (lamQ z)) = some o := e
      cases q : ms.find? fun z => tabAd K z == b with
      | none => rw [q] at e; cases e
      | some z =>
        rw [q] at e; cases e
        have h1 := List.mem_of_find?_eq_some q
        have h2' := List.find?_some q
        have h2 := beq_iff_eq.mp h2'
        exact LamX.TabS.nil (h2 ▸ hH z h1)) ⟨ns, rfl, hl, m0, fun _ => rfl⟩
  refine codeAny_mono run ?_
  rintro (e | fl) s' h
  · exact (cx_no h).elim
  · cases fl with
    | next => exact h.elim
    | brk => exact h.elim
    | cont => exact h.elim
    | ret u =>
      obtain ⟨v, H', os, bare, un, hok', r', d, M', dn, _, _, rfl⟩ := h
      rw [den_bl.mp dn] at r'
      obtain rfl : u = Value.bool true := r'
      have tabO : ∀ y ∈ ms, ∃ more : Array Value, s'.heap.get? (tabAd K y) = some { cls := .none, data := .fields more } := fun y hy => by
        obtain ⟨more, z⟩ := un.tbls (tabAd K y) #[] (hH y hy)
        exact ⟨_, hok' _ _ z⟩
      have key : ∀ b o, (∀ y ∈ ms, b ≠ tabAd K y) → s₁.heap.get? b = some o → s'.heap.get? b = some o := fun b o nb e => by
        cases q : H b with
        | none => exact un.keep b o e q (fun z => (nomatch z)) (fun z => (nomatch z))
        | some t =>
          rcases hO b t q with ⟨_, _, ob, xs, rfl⟩ | ⟨_, y, hy, z⟩
          · obtain ⟨e1, _⟩ := hok b _ q
            obtain ⟨e2, _⟩ := hok' b _ (un.frzs b ob _ q)
            rw [e1] at e
            cases e
            exact e2
          · exact absurd z (nb y hy)
      refine ⟨rfl, ⟨fun b o e => ?_, fun b o e => ?_⟩, os, bare⟩
      · by_cases hb : ∃ y ∈ ms, b = tabAd K y
        · obtain ⟨y, hy, rfl⟩ := hb
          obtain ⟨more, hm⟩ := tabO y hy
          rw [hT y hy] at e
          cases e
          exact .inr (.inl ⟨((PySem.W.codeHd_of_K KX (TE.hd y hy)).tab (hT y hy)).isCodeTable, rfl, #[], more, rfl, by rw [Array.empty_append]; exact hm⟩)
        · exact .inl (key b o (fun y hy z => hb ⟨y, hy, z⟩) e)
      · by_cases hb : ∃ y ∈ ms, b = tabAd K y
        · obtain ⟨y, hy, rfl⟩ := hb
          obtain ⟨more, hm⟩ := tabO y hy
          exact ⟨_, hm⟩
        · exact ⟨o, key b o (fun y hy z => hb ⟨y, hy, z⟩) e⟩
theorem law_runT (KX : K.In s₁.heap) (hns : s₁.heap.Ns mainGlobals mg) (hb : s₁.heap.Ns builtinsNs mb) (hbb : ∀ x : Str, x ≠ "__name__" → mb x = bootBuiltins x) (hlim : s₁.heap.NoLimit) (hg : s₁.gens = #[])
    (hbm : ∃ (bm : Addr) (ob : Obj), mg "__builtins__" = some (.ref bm) ∧ bm ≠ builtinsNs ∧ s₁.heap.get? bm = some ob ∧ ob.cls = .type "module" ∧ ob.dict = some builtinsNs ∧ ob.data = .plain)
    (TE : TabsE K ms) (hT : ∀ x ∈ ms, s₁.heap.get? (tabAd K x) = some { cls := .none, data := .fields #[] })
    (ha : s₁.heap.get? a = some { cls := .type "list", data := .seq vs.toArray }) (hi : IntsAre vs ns) (hl : ns.length ≤ n) (hn : n ≤ sizeLine) (hr : Room k callerA)
    (F : ∀ base : Heap, K.In base → base.Ns mainGlobals mg → (∀ x ∈ ms, LamX.TabB base mg (codeAd K x) (tabAd K x)) → Fn2 P w K mg base k fa fd [x] (spLawT n K ms)) (hbind : ∀ (s : Shared) (u : Value), BindsTo s fd ⟨[u], []⟩ [(x, u)]) :
    codeAny (model P w) callerA (.call (.ref fa) ⟨[.ref a], []⟩) (fun r s' => r = .ok (.ret (.bool true)) ∧ OldK s₁.heap s'.heap ∧ s'.os = s₁.os ∧ AllBare s'.gens) s₁ := by
  have rv := vals_ints hi
  have hz := hi.length
  have go := law_fromT KX hns hb hbb hlim hg hbm TE hT ha hl hr F hbind
  have aT : ∀ y ∈ ms, tabAd K y ≠ a := fun y hy z => by
    have q := hT y hy
    rw [z, ha] at q; cases q
  cases hk : K.lookup a with
  | some o =>
    have e := KX a o hk
    rw [ha] at e
    cases e
    refine go (fun b => if ∃ y ∈ ms, b = tabAd K y then some (.tbl #[]) else none) (fun b u e => ?_) (fun y hy => if_pos ⟨y, hy, rfl⟩) (.inr ⟨_, vs.toArray, _, hk, rfl, rfl, rfl, by rw [List.size_toArray, hz]; omega, by simpa using rv⟩) (fun b u e => ?_)
    · by_cases c : ∃ y ∈ ms, b = tabAd K y
      · cases (if_pos c).symm.trans e; exact .inr ⟨rfl, c⟩
      · cases (if_neg c).symm.trans e
    · by_cases c : ∃ y ∈ ms, b = tabAd K y
      · cases (if_pos c).symm.trans e
        obtain ⟨y, hy, rfl⟩ := c
        exact hT y hy
      · cases (if_neg c).symm.trans e
  | none =>
    refine go (fun b => if b = a then some (.frz { cls := .type "list", data := .seq vs.toArray } (.lst (ns.map V.int))) else if ∃ y ∈ ms, b = tabAd K y then some (.tbl #[]) else none) (fun b u e => ?_) (fun y hy => (if_neg (aT y hy)).trans (if_pos ⟨y, hy, rfl⟩)) (.inl ⟨_, if_pos rfl⟩) (fun b u e => ?_)
    · by_cases ca : b = a
      · cases (if_pos ca).symm.trans e; exact .inl ⟨ca, hk, _, _, rfl⟩
      · by_cases c : ∃ y ∈ ms, b = tabAd K y
        · cases ((if_neg ca).trans (if_pos c)).symm.trans e; exact .inr ⟨rfl, c⟩
        · cases ((if_neg ca).trans (if_neg c)).symm.trans e
    · by_cases ca : b = a
      · subst ca
        cases (if_pos rfl).symm.trans e
        exact ⟨ha, by rw [List.length_map]; omega, vs, _, rv, ha⟩
      · by_cases c : ∃ y ∈ ms, b = tabAd K y
        · cases ((if_neg ca).trans (if_pos c)).symm.trans e
          obtain ⟨y, hy, rfl⟩ := c
          exact hT y hy
        · cases ((if_neg ca).trans (if_neg c)).symm.trans e
end
/-- the goal that k_head leaves, where lambdas are made -/
theorem walk2T {l : PySem.W.OpenLaw} {n k : Nat} {q : Program} {loose : List Str} {XP : (Str → Option Value) → Heap → Prop} {YP : World → Heap → Prop} {d : DefRec} {K : Params → PySem.W.Frag} {x : Str} {ms : List Str}
    (hn : l.most = some n) (hn2 : n ≤ sizeLine) (hdf : d.params.defaults = []) (hr : Room k callerA) (hY : ∀ (w : World) (h : Heap), YP w h → (K w.params).In h)
    (hT : ∀ (w : World) (h : Heap), YP w h → ∀ x ∈ ms, h.get? (tabAd (K w.params) x) = some { cls := .none, data := .fields #[] }) (TE : ∀ w : World, TabsE (K w.params) ms)
    (F : ∀ (w : World) (mg : Str → Option Value) (fa : Addr) (h : Heap), (K w.params).In h → h.Ns mainGlobals mg → mg d.name = some (.ref fa) →
      ∃ fd : FuncData, (∀ (s : Shared) (u : Value), BindsTo s fd ⟨[u], []⟩ [(x, u)]) ∧ ∀ base : Heap, (K w.params).In base → base.Ns mainGlobals mg → (∀ x ∈ ms, LamX.TabB base mg (codeAd (K w.params) x) (tabAd (K w.params) x)) → Fn2 l.prog w (K w.params) mg base k fa fd [x] (spLawT n (K w.params) ms)) :
    PySem.W.WalkO q loose XP YP l.row.toRowW d [] (fun f vs => PySem.call f vs) := by
  refine Att.attach_call hn hdf ?_
  intro w s₀ s₁ mg mb fa o pm cd doc a vs ns G Y ho hd hcd hmg hobj hints hlen hg
  have KX := hY w _ Y
  obtain ⟨fd, hb, hF⟩ := F w mg fa _ KX G.T.g hmg
  exact law_runT KX G.T.g G.T.b G.T.builtins G.T.nolimit hg G.T.bmain (TE w) (hT w _ Y) hobj hints hlen hn2 hr hF hb
/-! ### a def that makes lambdas -/
section
variable {P : Program} {w : World} {K : PySem.W.Frag} {mg : Str → Option Value} {base : Heap}
theorem fn2m_of {x : Str} {st : Stmt} {f : Addr} {fd : FuncData} {N ps : List Str} {k : Nat} {sp : Sp2} (F : Fun K x x st f fd) (hx : PySem.W.nsIn K mainGlobals x = some (some (.ref f))) (TB : LamX.TabB base mg (codeAd K x) (tabAd K x)) (S : FnScope N ps (defScope st)) {sc : Nms} (ok : sc.ok (defScope st) = true) (len : ∀ ds M Q E, sp ds M Q E → ds.length = ps.length)
    (hbody : ∀ (X : Cx) (ds : List D) (M : Mem) (Q : QE) (E : XQ), Cxt X N sc P w K mg base k → Mkr X K mg base (tabAd K x) → X.env.qual ++ "<lambda>" = lamQ x → sp ds M Q E → WSs X (defBody st) { nx := fun _ M' => Q .non M', rt := Q } (start2 N ds) M) : Fn2 P w K mg base (k + 1) f fd ps sp := by
  obtain ⟨oc, od, kV, doc, pm, an, cdv, ct, osl, rfl, lk, hcd⟩ := F.ex
  obtain ⟨c, rfl⟩ := He.codeIn_ref hcd
  have ec : codeAd K x = c := by unfold codeAd; rw [hx]; dsimp only; rw [lk]
  refine ⟨len, ?_⟩
  intro A outer s H args us vs ds M Q E hr hg e0 hb r dl rp h
  have hl : vs.length = ps.length := dl.length.trans (len _ _ _ _ h)
  have old : ∀ b o, base.get? b = some o → s.heap.get? b = some o := fun b o e => (e0.bs b o e).1
  have KX : K.In s.heap := e0.mod.kin.keeps old
  refine codeAny_call_function hr.depth (KX _ _ lk) rfl S.co S.gen rfl (PySem.W.codeRec_of KX hcd) (hb _ _ _ _ (wpAny_newFunctionEnv_cells S.kind ?_ fun env he s1 ic => ?_))
  · rintro ⟨n, v⟩ hy
    exact (S.par n (List.of_mem_zip hy).1).elim .inl fun q => .inr ⟨q, PySem.W.cellsFrom_some _ _ _ (.inl q)⟩
  · subst he
    refine ⟨(e0.mod.nolimit.keeps old).keeps ic.toInCall.keep, codeAny_func ?_⟩
    have I := inv_start (CX := L2.CX P w) (E := XL K H E) S hr.hd e0 hl r ic
    have C := cxt_of (CX := L2.CX P w) (P := P) (w := w) (K := K) (mg := mg) (base := base) (qual := x) (f := f) (cd := .ref c) (outer := outer) (H := H) (E := XL K H E) (s := s) S ok (hr.deeper _) hg
    have W := hbody _ ds M Q E C ⟨c, rfl, ec ▸ TB⟩ rfl h (L2.start N vs) H ⟨start_env dl, rp⟩
    have W2 := (PSs.nox (t := _) (pssC (st := defBody st))).run [] s1 (L2.start N vs) H _ I W
    refine wpAny_mono W2 (fun fl s' hs => ?_) fun _ _ z => z
    cases fl with
    | next =>
      obtain ⟨σ', H', J, ρ', M', r', t', q⟩ := hs
      exact ⟨.non, H', J.os, J.bare, J.base, J.hok, rfl, .non, M', den_non.mpr rfl, r'.rep, t', q⟩
    | ret u =>
      obtain ⟨v, σ', H', J, rv, q⟩ := hs
      exact ⟨v, H', J.os, J.bare, J.base, J.hok, rv, q⟩
    | brk => obtain ⟨_, _, _, _, _, _, _, q⟩ := hs; exact q.elim
    | cont => obtain ⟨_, _, _, _, _, _, _, q⟩ := hs; exact q.elim
end
/-! ### in one test -/
def tabsEB (K : PySem.W.Frag) (ms : List Str) : Bool := (ms.all fun x => (K.lookup (tabAd K x)).isNone && PySem.W.codeHdIn K (codeAd K x) (tabAd K x)) && ms.all fun x => ms.all fun y => !(tabAd K x == tabAd K y) || decide (x = y)
theorem tabsE_of {K : PySem.W.Frag} {ms : List Str} (h : tabsEB K ms = true) : TabsE K ms := by
  unfold tabsEB at h
  simp only [Bool.and_eq_true, List.all_eq_true, Bool.or_eq_true, Bool.not_eq_true', decide_eq_true_eq, Option.isNone_iff_eq_none] at h
  obtain ⟨h1, h2⟩ := h
  refine ⟨fun x hx => (h1 x hx).1, fun x hx => (h1 x hx).2, fun x hx y hy e => ?_⟩
  rcases h2 x hx y hy with z | z
  · rw [e] at z; simp at z
  · exact z
theorem tabs_at {K : PySem.W.Frag} {ms : List Str} {ts : List Addr} {h : Heap} {o : Obj} (b : (ms.all fun x => ts.contains (tabAd K x)) = true) (t : ∀ T ∈ ts, h.get? T = some o) : ∀ x ∈ ms, h.get? (tabAd K x) = some o := fun x hx =>
  t _ (List.contains_iff_mem.mp (List.all_eq_true.mp b x hx))
theorem Mkr.blk {X X' : Cx} {K : PySem.W.Frag} {mg : Str → Option Value} {base : Heap} {T : Addr} {scope : Scope} (MK : Mkr X K mg base T) (B : Blk X scope X') : Mkr X' K mg base T ∧ X'.env.qual = X.env.qual := by
  obtain ⟨c, h1, h2⟩ := MK.ex
  obtain ⟨s, H, A, cl, fp, rfl⟩ := B
  exact ⟨⟨c, h1, h2⟩, rfl⟩
/-! ### x(lambda: body), in the def d that makes it -/
def lamB (fr : List Str) (scope : Scope) : Bool := decide (scope.kind = .function) && !scope.isCoroutine && !scope.isGenerator && scope.names.all fun y => !decide (y.2 = .local) && !decide (y.2 = .cell) && (!decide (y.2 = .free) || decide (y.1 ∈ fr))
section
variable {X : Cx} {ρ : St2} {M : Mem} {N : List Str} {sc scl : Nms} {P : Program} {w : World} {K : PySem.W.Frag} {mg : Str → Option Value} {base : Heap} {k0 k : Nat}
theorem lamS_of (C : Cxt X N sc P w K mg base k0) {scope : Scope} (h : lamB sc.f scope = true) : LamX.LamS X.env.scope scope := by
  unfold lamB at h
  simp only [Bool.and_eq_true, Bool.or_eq_true, Bool.not_eq_true', decide_eq_true_eq, decide_eq_false_iff_not, List.all_eq_true] at h
  obtain ⟨⟨⟨h1, h2⟩, h3⟩, h4⟩ := h
  refine ⟨h1, h2, h3, fun y hy => (h4 y hy).1, fun y hy e => ?_⟩
  rcases (h4 y hy).2 with z | z
  · exact absurd e z
  · exact C.fr _ z
theorem we_tell (C : Cxt X N sc P w K mg base k0) {d : Str} (MK : Mkr X K mg base (tabAd K d)) (hq : X.env.qual ++ "<lambda>" = lamQ d) {x a : Str} {sp : SpL} {params : Arguments} {body : Expr} {scope : Scope} {p lpos pos : Pos} {Q : QE} (G : DefL P w K mg base (k + 1) x a sp) (hk : k + 2 ≤ k0) (hg : (x : Str) ∈ sc.g)
    (L : lamB sc.f scope = true) (ok : scl.ok scope = true) (hdef : defaultsOf params X.env = ([], [])) (hbind : ∀ (q : Str) (cl : List (Str × Addr)) (pm cv ctv : Value), bindArgs (PySem.W.kla_fn "<lambda>" q params body scope cl pm cv ctv) ⟨[], []⟩ = pure [])
    (hM : M (tabAd K d) = some (.tab (lamQ d))) (h : ∀ M1, Ext M M1 → sp (LamB N scl P w K mg base k body ρ) M1 Q fun _ _ _ _ => False) (hd : (a == ("__debug__" : Str)) = false := by decide) (hcd : (a == ("__classdict__" : Str)) = false := by decide) (hh : sc.hot = false := by first | k_dflt rfl | assumption) :
    WE X (.Call (.Name x p) [.Lambda params body scope lpos] [] pos) ρ M Q :=
  we_told C MK G hk hg (lamS_of C L) ok hdef hbind (by rw [hq]; exact hM) h hd hcd hh
end
end Y

set_option Elab.async false
set_option linter.all false
set_option autoImplicit false
set_option maxRecDepth 100000
set_option maxHeartbeats 4000000
/-! a lambda with a default parameter that its body does not read (lambda y=0: body), handed to a def -/
namespace Y
open PySem PySem.Spec PySem.Calls PyProof.Rows L2
/-- no name of its own but such as the maker has not -/
structure LamSD (N : List Str) (sc scope : Scope) : Prop where
  kind : scope.kind = .function
  co : scope.isCoroutine = false
  gen : scope.isGenerator = false
  own : ∀ y ∈ scope.names, y.2 ≠ .cell ∧ (y.2 = .local → y.1 ∉ N)
  free : ∀ y ∈ scope.names, y.2 = .free → sc.names.lookup y.1 = some .cell ∨ sc.names.lookup y.1 = some .free
theorem LamSD.has {N : List Str} {X : Cx} {scope : Scope} (L : LamSD N X.env.scope scope) (ok : X.Ok) : ∀ y ∈ scope.names, y.2 = .free → ∃ c, X.env.cells.lookup y.1 = some c := fun y hy e => by
  rcases L.free y hy e with k | k
  · exact ok.has _ (.inl k)
  · exact ok.has _ (.inr k)
section
variable {X : Cx} {pins : List (Addr × Obj)} {σ : L2.St} {H HZ : Hp} {s s1 : Shared}
theorem lam_start3 {A : Around} {outer : List Env} {E : XK} {scope : Scope} {f c' : Addr} {h₁ : Heap} {tk : Nat} {bs : List (Str × Value)} (I : Inv X pins σ H s) (L : LamSD X.N X.env.scope scope) (e0 : Env0 X.prog X.w X.K X.mg X.base A outer s1 HZ) (hd : A.handled = none)
    (un : Un (frs X.stack) [] H HZ s.heap s1.heap) (hns : h₁.Ns s1.heap.objs.size fun y => bs.reverse.lookup y) (kp : ∀ b o, s1.heap.get? b = some o → h₁.get? b = some o) :
    Inv (LamX.lamCx X A outer s1 HZ E scope f c') [] σ HZ { s1 with heap := h₁, toks := tk } := by
  have hfree := L.has I.ok
  have cm : ∀ {y c}, (cloFrom X.env.cells scope.names []).lookup y = some c → X.env.cells.lookup y = some c := fun {y c} e => by
    rcases cloFrom_mem (PySem.mem_of_lookup e) with hm | ⟨h1, h2⟩
    · cases hm
    · obtain ⟨c1, hc⟩ := hfree _ h1 rfl
      have hc : X.env.cells.lookup y = some c1 := hc
      have e2 : c = c1 := by
        rw [h2, hc] <;> rfl
      rw [e2]
      exact hc
  have look : ∀ {y}, scope.names.lookup y = some .free → ∃ c, (cloFrom X.env.cells scope.names []).lookup y = some c := fun {y} hl => by
    have hy : (y, NameKind.free) ∈ scope.names := PySem.mem_of_lookup hl
    exact mem_lookup (cloFrom_has (cells := X.env.cells) (acc := []) hy)
  have cellK : ∀ {c : Addr} {v : Option Value}, H c = none → s.heap.IsCell c v → h₁.IsCell c v := fun {c v} n ⟨o, ho, hd⟩ => by
    obtain ⟨sl, q⟩ := un.any ho n (by simp)
    exact ⟨_, kp _ _ q, hd⟩
  have noA : ∀ b : Addr, b ∉ (LamX.lamCx X A outer s1 HZ E scope f c').ex := fun b z => absurd (show b ∈ ([] : List Addr) from z) (by simp)
  refine ⟨⟨e0.mod, L.kind, rfl, rfl, Nat.le_refl _, fun y z c e1 e2 => I.ok.inj y z c (cm e1) (cm e2), fun y hy => ?_, fun y c z _ => ?_, fun _ => hd, Around.frames_deeper e0.frames, .inr ⟨rfl, rfl⟩, fun b z => absurd z (noA b), e0.bs, e0.bsz, fun b _ _ => noA b,
      fun b z => absurd z (noA b), e0.funs, e0.frf⟩,
    rfl, e0.bare, Un.kept kp, ⟨_, hns, fun i y v e1 e2 e3 => ?_⟩, fun y c e => ?_, e0.hok.fresh (Nat.le_refl _), fun y c e => ?_, fun q hq => absurd (show q ∈ ([] : List (Addr × Obj)) ++ [] from hq) (by simp), e0.hok.kept kp, I.len⟩
  · have hy : scope.names.lookup y = some .cell ∨ scope.names.lookup y = some .free := hy
    rcases hy with hy | hy
    · exact absurd rfl (L.own _ (PySem.mem_of_lookup hy)).1
    · exact look hy
  · have z : false = true := z
    cases z
  · have e3 : Vis scope y := e3
    rcases e3 with k | k | k
    · exact absurd (List.mem_of_getElem? e1) ((L.own _ (PySem.mem_of_lookup k)).2 rfl)
    · exact absurd rfl (L.own _ (PySem.mem_of_lookup k)).1
    · obtain ⟨m, hn, hl⟩ := I.loc
      have hvis : Vis X.env.scope y := (L.free _ (PySem.mem_of_lookup k) rfl).elim (fun k => .inr (.inl k)) (fun k => .inr (.inr k))
      obtain ⟨w', r, q⟩ := hl i y v e1 e2 hvis
      obtain ⟨c2, h2⟩ := look k
      refine ⟨w', r, .inr ⟨.inr k, c2, h2, ?_⟩⟩
      have c1 := cm h2
      rcases q with ⟨k', _⟩ | ⟨_, c3, e', z⟩
      · have k' : X.env.scope.names.lookup y = some .local := k'
        rcases L.free _ (PySem.mem_of_lookup k) rfl with k2 | k2 <;> rw [show X.env.scope.names.lookup y = _ from k2] at k' <;> cases k'
      · rw [c1] at e'
        cases e'
        exact cellK (I.freeC y _ c1) z
  · obtain ⟨w', z⟩ := I.cell y c (cm e)
    exact ⟨w', cellK (I.freeC y c (cm e)) z⟩
  · obtain ⟨v, o, ho, hd⟩ := I.cell y c (cm e)
    exact un.free c o ho (I.freeC y c (cm e)) (by simp)
end
section
variable {X : Cx} {ρ : St2} {M : Mem} {N : List Str} {sc scl : Nms} {P : Program} {w : World} {K : PySem.W.Frag} {mg : Str → Option Value} {base : Heap} {k0 k : Nat}
theorem cxt_lamD (C : Cxt X N sc P w K mg base k0) {A : Around} {outer : List Env} {s : Shared} {H : Hp} {E : XK} {scope : Scope} {f c' : Addr} (L : LamSD X.N X.env.scope scope) (ok : scl.ok scope = true) (hr : Room k (A.deeper (LamX.lamEnv X scope s.heap.objs.size f c'))) (hg : A.guards = some []) :
    Cxt (LamX.lamCx X A outer s H E scope f c') N scl P w K mg base k where
  hP := C.hP
  hw := C.hw
  hK := C.hK
  hmg := C.hmg
  hbase := C.hbase
  hN := C.hN
  nd := C.nd
  calm := fun _ => rfl
  vis := fun x h => ⟨vis_of ((Nms.at_ ok).1 x h), visB_dbg ((Nms.at_ ok).1 x h)⟩
  loc := fun x h => loc_of ((Nms.at_ ok).2.1 x h)
  lcl := fun x h => lcl_of ((Nms.at_ ok).2.2.1 x h)
  gl := fun x h => ⟨gl_of ((Nms.at_ ok).2.2.2.1 x h), glB_dbg ((Nms.at_ ok).2.2.2.1 x h)⟩
  fn := fun x h => by
    have z := loc_of ((Nms.at_ ok).2.1 x h)
    rcases z with z | z
    · exact .inr z
    · exact absurd rfl (L.own _ (PySem.mem_of_lookup z)).1
  fr := fun x h => fr_of ((Nms.at_ ok).2.2.2.2 x h)
  kind := L.kind
  room := fun _ => hr
  gd := hg
  never := passes_of (X := LamX.lamCx X A outer s H E scope f c') rfl
abbrev lamO (q : Str) (params : Arguments) (body : Expr) (scope : Scope) (clos : List (Str × Addr)) (T0 : Addr) (doc pm : Value) (c' : Addr) (ctv : Value) : Obj := PySem.W.kdv_obj "<lambda>" q params (.expr body) scope clos (.ref T0) doc pm c' ctv
/-- the default parameter y is bound -/
def BindD (params : Arguments) (body : Expr) (scope : Scope) (y : Str) : Prop := ∀ (q : Str) (cl : List (Str × Addr)) (dV doc pm cv ctv : Value), ∃ k, bindArgs (PySem.W.kdv_fn "<lambda>" q params (.expr body) scope cl dV doc pm cv ctv) ⟨[], []⟩ = (seqItems? dV >>= k) ∧ ∀ u, k (some #[u]) = pure [(y, u)]
theorem act_ofD (C : Cxt X N sc P w K mg base k0) {pins : List (Addr × Obj)} {σ : L2.St} {H : Hp} {s : Shared} {f c' T0 : Addr} {u0 doc pm ctv : Value} {params : Arguments} {body : Expr} {scope : Scope} {a y : Str} {Z : Cx} (I : Inv X pins σ H s) (re : EnvR K H ρ σ) (L : LamSD X.N X.env.scope scope) (ok : scl.ok scope = true) (ly : scope.names.lookup y = some .local)
    (hf : s.heap.get? f = some (lamO (X.env.qual ++ "<lambda>") params body scope (cloFrom X.env.cells scope.names []) T0 doc pm c' ctv)) (hfn : H f = none) (hfr : f ∉ frs X.stack)
    (hT : s.heap.get? T0 = some (PySem.W.kdv_tup [u0])) (hTn : H T0 = none) (hTr : T0 ∉ frs X.stack)
    (hbind : BindD params body scope y)
    (T : ToldCx X.prog X.w X.K X.mg X.base X.A X.stack s H a (k + 1) Z) (hd : (a == ("__debug__" : Str)) = false) (hcd : (a == ("__classdict__" : Str)) = false) :
    Act Z a f c' (X.env.qual ++ "<lambda>") (LamB N scl P w K mg base k body ρ) := by
  obtain ⟨CXg, Ng, qg, sg, g, cdg, Eg, rfl, hN, hv, hr⟩ := T.ex
  obtain rfl := C.hP
  obtain rfl := C.hw
  obtain rfl := C.hK
  obtain rfl := C.hmg
  obtain rfl := C.hbase
  refine ⟨lamB_mono, fun pn xe ρZ M' Q E p1 p2 h0 hc0 hb σZ HZ rr tk0 pinsZ sZ IZ => ?_⟩
  obtain ⟨v0, hs, dv⟩ := rr.env.at_ 0 _ h0
  rw [den_obj.mp dv] at hs
  have hc : HZ c' = some (LamX.CodeO c' (X.env.qual ++ "<lambda>")) := rr.rep _ _ hc0
  refine wpAny_Call_Name_kw (thn ((pe_var (X := (cxOf CXg X.prog X.w X.K X.mg X.base Ng qg sg g cdg X.A X.stack s H Eg).tr pn xe) (pos := p1) (i := 0) hN hv hd hcd).run pinsZ sZ σZ HZ (fun v H1 => v = .ref f ∧ H1 = HZ) IZ ⟨.ref f, hs, rfl, rfl⟩) fun u s1 ⟨v, H1, I1, r1, q1⟩ => ?_)
  obtain ⟨ev, eH⟩ := q1
  subst ev
  rw [eH] at I1
  obtain rfl : u = Value.ref f := r1
  have of1 : s1.heap.get? f = some (lamO (X.env.qual ++ "<lambda>") params body scope (cloFrom X.env.cells scope.names []) T0 doc pm c' ctv) := I1.base.keep f _ hf hfn hfr (fun z => nomatch (show f ∈ ([] : List Addr) from z))
  have oT1 : s1.heap.get? T0 = some (PySem.W.kdv_tup [u0]) := I1.base.keep T0 _ hT hTn hTr (fun z => nomatch (show T0 ∈ ([] : List Addr) from z))
  refine PySem.W.callWith_F0 ⟨_, _, _, _, of1⟩ ?_
  have un : Un (frs X.stack) [] H HZ s.heap s1.heap := I1.base
  obtain ⟨⟨oc, vs, t, hoc, hdc, hvc⟩, _, _⟩ := I1.hok c' _ hc
  have rc : codeAny (model X.prog X.w) (X.A.deeper (envOfC qg sg s.heap.objs.size g cdg)) (.call (.ref f) ⟨[], []⟩) (CR (L2.CX X.prog X.w) (envOfC qg sg s.heap.objs.size g cdg :: X.stack) X.prog X.w HZ s1 (LR X.K HZ Q) (XL X.K HZ fun n ks es M'' => E n ks es ρZ M'')) s1 := by
    refine PySem.W.kla_callFunE hr.depth of1 rfl L.co L.gen rfl ⟨c', oc, vs, t, rfl, hoc, hdc, hvc⟩ ?_
    obtain ⟨kk, b1, b2⟩ := hbind (X.env.qual ++ "<lambda>") (cloFrom X.env.cells scope.names []) (.ref T0) doc pm (.ref c') ctv
    refine BindsTo.of_defaults (T := T0) rfl oT1 rfl b1 (b2 u0) _ _ _ _ ?_
    refine wpAny_newFunctionEnv (fun y hy => (L.own y hy).1) (fun z hz => by rw [List.mem_singleton] at hz; subst hz; exact ly) (fun h₁ hns hsb => ⟨I1.nolimit.fresh _ hsb, ?_⟩) L.kind
    show codeAny _ _ (.expr body (LamX.lamEnv X scope s1.heap.objs.size f c')) _ _
    have kp : ∀ b o, s1.heap.get? b = some o → h₁.get? b = some o := fun b o e => hsb.extBut b o (Nat.ne_of_lt (Heap.lt_size e)) (Heap.get?_push_of_some _ e)
    have J : Inv (LamX.lamCx X (X.A.deeper (envOfC qg sg s.heap.objs.size g cdg)) (envOfC qg sg s.heap.objs.size g cdg :: X.stack) s1 HZ (XL X.K HZ fun n ks es M'' => E n ks es ρZ M'') scope f c') [] σ HZ { s1 with heap := h₁, toks := s1.toks + ([(y, u0)] : List (Str × Value)).length } :=
      lam_start3 I L I1.env0 hr.hd un hns kp
    have hr2 : Room k ((X.A.deeper (envOfC qg sg s.heap.objs.size g cdg)).deeper (LamX.lamEnv X scope s1.heap.objs.size f c')) := hr.deeper _
    have Cl := cxt_lamD (scl := scl) (A := X.A.deeper (envOfC qg sg s.heap.objs.size g cdg)) (outer := envOfC qg sg s.heap.objs.size g cdg :: X.stack) (s := s1) (H := HZ) (E := XL X.K HZ fun n ks es M'' => E n ks es ρZ M'') (f := f) (c' := c') C L ok hr2 C.gd
    have tk1 : Takes (LamX.lamCx X (X.A.deeper (envOfC qg sg s.heap.objs.size g cdg)) (envOfC qg sg s.heap.objs.size g cdg :: X.stack) s1 HZ (XL X.K HZ fun n ks es M'' => E n ks es ρZ M'') scope f c') (fun cls d _ H' => XL X.K HZ (fun n ks es M'' => E n ks es ρZ M'') cls d H') := takes_of rfl rfl rfl rfl
    have TX : Tks (LamX.lamCx X (X.A.deeper (envOfC qg sg s.heap.objs.size g cdg)) (envOfC qg sg s.heap.objs.size g cdg :: X.stack) s1 HZ (XL X.K HZ fun n ks es M'' => E n ks es ρZ M'') scope f c') (fun n ks es _ M'' => E n ks es ρZ M'') := ⟨fun u s' xe => by
      obtain ⟨a', B, sI, pins, σ', H', cls, d, e, I', nb, up, sky, na, os, ag, n, ks, es, ρ', M'', xd, r', q⟩ := xe
      exact tk1 u s' ⟨a', B, sI, pins, σ', H', cls, d, e, I', nb, up, sky, na, os, ag, n, ks, es, M'', xd, r'.rep, un_tk I'.base, q⟩, rfl, rfl, rfl⟩
    have W := hb _ Cl TX σ HZ ⟨re.mono (un_tk un), rr.rep⟩
    refine PySem.W.kla_codeExpr (wpAny_mono (W [] _ J) (fun v s' hq => ?_) fun e s' hq => hq)
    obtain ⟨w', H', J', rv, d, M'', dn, r', t', q⟩ := hq
    exact ⟨w', H', J'.os, J'.bare, J'.base, J'.hok, rv, d, M'', dn, r'.rep, t', q⟩
  refine wpAny_call (codeAny_mono rc fun r s' hq => ?_)
  cases r with
  | error e =>
    refine tk0 e s' (XE.of_call I1 (fun cls d H' z => ?_) hq)
    obtain ⟨n, ks, es', M'', xd, rp', tk', q'⟩ := z
    exact ⟨n, ks, es', ρZ, M'', xd, ⟨rr.env.mono tk', rp'⟩, tk', q'⟩
  | ok fl =>
    cases fl with
    | ret u =>
      obtain ⟨v, H', os, bare, un, hok, rv', d, M'', dn', rp', tk', qq⟩ := hq
      exact I1.after ⟨v, H', os, bare, un, hok, rv', d, M'', dn', ⟨rr.env.mono tk', rp'⟩, tk', qq⟩
    | next => exact hq.elim
    | brk => exact hq.elim
    | cont => exact hq.elim
theorem told_goD (C : Cxt X N sc P w K mg base k0) {x a y : Str} {sp : SpL} {params : Arguments} {body : Expr} {scope : Scope} {Q : QE} (G : DefL P w K mg base (k + 1) x a sp) {g : Addr} (hm : mg x = some (.ref g)) (hk : k + 2 ≤ k0)
    (L : LamSD X.N X.env.scope scope) (ok : scl.ok scope = true) (ly : scope.names.lookup y = some .local) {f c' T0 : Addr} {u0 doc pm ctv : Value} {σ : L2.St} {H H1 : Hp} {s' : Shared} {pins : List (Addr × Obj)} {M1 : Mem}
    (hbind : BindD params body scope y)
    (I1 : Inv X pins σ H1 s') (tk : TK K H H1) (r1 : R K ρ M1 σ H1) (mc : M1 c' = some (.code (X.env.qual ++ "<lambda>"))) (hf : s'.heap.get? f = some (lamO (X.env.qual ++ "<lambda>") params body scope (cloFrom X.env.cells scope.names []) T0 doc pm c' ctv)) (hfn : H1 f = none) (hfr : f ∉ frs X.stack)
    (hT : s'.heap.get? T0 = some (PySem.W.kdv_tup [u0])) (hTn : H1 T0 = none) (hTr : T0 ∉ frs X.stack)
    (h : sp (LamB N scl P w K mg base k body ρ) M1 Q fun _ _ _ _ => False) (hd : (a == ("__debug__" : Str)) = false) (hcd : (a == ("__classdict__" : Str)) = false) (hh : sc.hot = false) :
    wpAny (model X.prog X.w) X.A (call (.ref g) [.ref f]) (EP X pins σ (LE X.K ρ σ H Q)) X.xe s' := by
  have Cc := C
  obtain rfl := C.hP
  obtain rfl := C.hw
  obtain rfl := C.hK
  obtain rfl := C.hmg
  obtain rfl := C.hbase
  obtain ⟨g', fd, hm', hkp, hb, F⟩ := G.ex
  rw [hm] at hm'; cases hm'
  have run := F.run X.A X.stack s' H1 ⟨[.ref f], []⟩ f c' (X.env.qual ++ "<lambda>") (LamB N scl X.prog X.w X.K X.mg X.base k body ρ) _ Q (fun _ _ _ _ => False) ((C.room hh).mono hk) C.gd I1.env0 (hb s' [.ref f] I1.kIn rfl) r1.rep mc
    (fun Z hZ => act_ofD Cc I1 r1.env L ok ly hf hfn hfr hT hTn hTr hbind hZ hd hcd) h
  refine wpAny_call (codeAny_mono run fun r s2 hq => ?_)
  cases r with
  | error e => exact (cx_no hq).elim
  | ok fl =>
    cases fl with
    | ret u =>
      obtain ⟨v, H', os, bare, un, hok, rv', d, M', dn', rp', tk', qq⟩ := hq
      exact I1.after ⟨v, H', os, bare, un, hok, rv', d, M', dn', ⟨r1.env.mono tk', rp'⟩, tk.trans tk', qq⟩
    | next => exact hq.elim
    | brk => exact hq.elim
    | cont => exact hq.elim
/-- x(lambda y=i: body) -/
theorem we_toldD (C : Cxt X N sc P w K mg base k0) {T : Addr} (MK : Mkr X K mg base T) {x a y : Str} {sp : SpL} {params : Arguments} {body : Expr} {scope : Scope} {p lpos pos p0 : Pos} {i : Int} {j : Nat} {Q : QE} (G : DefL P w K mg base (k + 1) x a sp) (hk : k + 2 ≤ k0) (hg : (x : Str) ∈ sc.g)
    (L : LamSD X.N X.env.scope scope) (ok : scl.ok scope = true) (ly : scope.names.lookup y = some .local) (hdef : params.defaults = [.Constant (.int i) j p0]) (hkd : params.kw_defaults = []) (hbind : BindD params body scope y)
    (hM : M T = some (.tab (X.env.qual ++ "<lambda>"))) (h : ∀ M1, Ext M M1 → sp (LamB N scl P w K mg base k body ρ) M1 Q fun _ _ _ _ => False) (hd : (a == ("__debug__" : Str)) = false := by decide) (hcd : (a == ("__classdict__" : Str)) = false := by decide) (hh : sc.hot = false := by first | k_dflt rfl | assumption) :
    WE X (.Call (.Name x p) [.Lambda params body scope lpos] [] pos) ρ M Q := fun σ H rr pins s I => by
  have Cc := C
  have GG := G
  obtain rfl := C.hP
  obtain rfl := C.hw
  obtain rfl := C.hK
  obtain rfl := C.hmg
  obtain rfl := C.hbase
  obtain ⟨g, fd, hm, hkp, hb, F⟩ := G.ex
  obtain ⟨c, hcode, TB⟩ := MK.ex
  obtain ⟨ps, hP, ht, ha⟩ := rr.rep _ _ hM
  refine wpAny_Call_Name_kw (ld_glob I (C.gl x hg).1 hm ?_ (C.gl _ hg).2.1)
  refine PySem.W.callWith_K (h₀ := X.base) I.ok.mod.kin hkp ?_ (by rfl) (by rfl)
  show wpAny _ _ (spliced ((false, eval (.Lambda params body scope lpos) X.env) :: backTo pos (starEach [] X.env))) _ _ s
  refine Calls.spliced_cons (PySem.W.kdv_lam (by rw [hdef]; rfl) hkd ?_)
  rw [hdef]
  refine PySem.W.kdv_all1 (wpAny_mono ((pe_int (X := X) (i := i)).run pins s σ H (fun v H' => H' = H) I rfl) (fun u0 s0 hs0 => ?_) fun _ _ z => z)
  obtain ⟨v0, H0, I0, rv0, eH⟩ := hs0
  subst eH
  refine PySem.W.kdv_all0 ?_
  rw [makeFunction_eq]
  simp only [List.zip_nil_right, List.filterMap_nil, List.isEmpty_nil, List.isEmpty_cons, if_true, pure_bind, Bool.false_eq_true, if_false]
  refine wpAny_bind (wpAny_newTextTuple ?_)
  have sz0 : s0.heap.objs.size < (s0.heap.push (PySem.W.kdv_tup [u0])).objs.size := by rw [Heap.size_push]; omega
  have hT0 : (s0.heap.push (PySem.W.kdv_tup [u0])).get? s0.heap.objs.size = some (PySem.W.kdv_tup [u0]) := Heap.get?_push_size _ rfl
  have I2 : Inv X pins σ H0 { s0 with heap := s0.heap.push (PySem.W.kdv_tup [u0]) } := I0.kept fun b o e => Heap.get?_push_of_some _ e
  have nT0 : H0 s0.heap.objs.size = none := I0.hok.fresh (Nat.le_refl _)
  have nofr0 : s0.heap.objs.size ∉ frs X.stack := fun z => by
    rcases List.mem_cons.mp (I0.stkSub _ z) with e | e
    · exact Nat.lt_irrefl _ (e ▸ I0.lt)
    · exact I0.nofs (Nat.le_refl _) e
  generalize hs2 : ({ s0 with heap := s0.heap.push (PySem.W.kdv_tup [u0]) } : Shared) = s2 at I2 ⊢
  have eh2 : s2.heap = s0.heap.push (PySem.W.kdv_tup [u0]) := by rw [← hs2]
  rw [← eh2] at hT0 sz0
  clear hs2 eh2
  generalize s0.heap.objs.size = T0 at hT0 sz0 nT0 nofr0 ⊢
  have bP : s2.heap.BuiltinsAt X.mg T := TB.bm.keeps I2.bk
  have hP' : s2.heap.get? T = some { cls := .none, data := .fields ps } := I2.hok T _ hP
  have nofr : ∀ f, s2.heap.objs.size ≤ f → f ∉ frs X.stack := fun f hf z => by
    rcases List.mem_cons.mp (I2.stkSub _ z) with e | e
    · exact Nat.lt_irrefl _ (Nat.lt_of_lt_of_le (e ▸ I2.lt) hf)
    · exact I2.nofs hf e
  have TT : T0 ≠ T := Ne.symm (ne_of_none hP nT0)
  cases hc : codeAmong lpos ps.toList with
  | none =>
    refine PySem.W.kdv_makeTail (mg := X.mg) (c := c) (P := T) (ps := ps) (closure_ok (L.has I2.ok)) I2.ok.glob (I2.mod.glob.keeps I2.bk) hcode (TB.code.keeps I2.bk) hP' ht hc TB.gP bP fun c' ctv doc h' tk hx hge hlt hrec htb => ?_
    obtain ⟨c2, oc, vs, t, e2, hoc, hdc, hv⟩ := hrec
    cases e2
    have hsz : s2.heap.objs.size ≤ h'.objs.size := Nat.le_trans hge (Nat.le_of_lt hlt)
    have nC : H0 c' = none := I2.hok.fresh hge
    have I1 := LamX.inv_table (t' := tk) (more := #[rawInt lpos.line, rawInt lpos.col, .ref c']) (h' := h'.push (lamO (X.env.qual ++ "<lambda>") params body scope (cloFrom X.env.cells scope.names []) T0 doc ((X.mg "__name__").getD .none) c' ctv)) I2 hP
      (fun b o hb e => Heap.get?_push_of_some _ (hx b o hb e)) (Heap.get?_push_of_some _ htb) hge ⟨oc, vs, t, Heap.get?_push_of_some _ hoc, hdc, hv⟩
    have nTc : T ≠ c' := ne_of_none hP nC
    have nC1 : upd H0 T (.tbl (ps ++ #[rawInt lpos.line, rawInt lpos.col, .ref c'])) c' = none := by rw [upd_ne (Ne.symm nTc)]; exact nC
    have tk1 : TK X.K H0 (upd H0 T (.tbl (ps ++ #[rawInt lpos.line, rawInt lpos.col, .ref c']))) := TK.store fun u e => by rw [hP] at e; cases e; exact ⟨(fun _ z => by cases z), (fun _ _ z => by cases z)⟩
    have tk2 : TK X.K (upd H0 T (.tbl (ps ++ #[rawInt lpos.line, rawInt lpos.col, .ref c']))) (upd (upd H0 T (.tbl (ps ++ #[rawInt lpos.line, rawInt lpos.col, .ref c']))) c' (LamX.CodeO c' (X.env.qual ++ "<lambda>"))) := TK.fresh nC1
    have rp : Rep X.K (upd (upd H0 T (.tbl (ps ++ #[rawInt lpos.line, rawInt lpos.col, .ref c']))) c' (LamX.CodeO c' (X.env.qual ++ "<lambda>"))) M := fun b o e => by
      have hbc : b ≠ c' := fun z => by rw [z, rr.rep.free nC] at e; cases e
      by_cases hb : b = T
      · subst hb
        rw [hM] at e; cases e
        have eL : (ps ++ #[rawInt lpos.line, rawInt lpos.col, .ref c']).toList = ps.toList ++ [rawInt lpos.line, rawInt lpos.col, .ref c'] := by simp
        refine ⟨_, by rw [upd_ne nTc, upd_same], by rw [eL]; exact PySem.TriplesOk_snoc _ _ _ _ ht, fun p' cv hcv => ?_⟩
        rw [eL] at hcv
        rcases LamX.among_app _ ht hcv with z | z
        · obtain ⟨c0, e1, e2⟩ := ha p' cv z
          refine ⟨c0, e1, ?_⟩
          rw [upd_ne (ne_of_none e2 nC), upd_ne fun z => by rw [z, hP] at e2; cases e2]
          exact e2
        · exact ⟨c', z, upd_same⟩
      · exact RepO.store tk2 (NoX.none nC1) hbc (RepO.store tk1 (NoX.tbl hP) hb (rr.rep _ _ e))
    have hf0 : upd (upd H0 T (.tbl (ps ++ #[rawInt lpos.line, rawInt lpos.col, .ref c']))) c' (LamX.CodeO c' (X.env.qual ++ "<lambda>")) h'.objs.size = none := by
      rw [upd_ne (Nat.ne_of_gt hlt), upd_ne (Nat.ne_of_gt (Nat.lt_of_lt_of_le (Heap.lt_size hP') hsz))]
      exact I2.hok.fresh hsz
    have hTn2 : upd (upd H0 T (.tbl (ps ++ #[rawInt lpos.line, rawInt lpos.col, .ref c']))) c' (LamX.CodeO c' (X.env.qual ++ "<lambda>")) T0 = none := by
      rw [upd_ne (Nat.ne_of_lt (Nat.lt_of_lt_of_le sz0 hge)), upd_ne TT]
      exact nT0
    obtain ⟨x1, rp1⟩ := code_ext I1 rp upd_same
    refine Calls.spliced_nil ⟨I1.kIn, ?_⟩
    exact told_goD Cc GG hm hk L ok ly hbind I1 (tk1.trans tk2) ⟨rr.env.mono (tk1.trans tk2), rp1⟩ mup_same (Heap.get?_push_size _ rfl) hf0 (nofr _ hsz) (Heap.get?_push_of_some _ (hx _ _ TT hT0)) hTn2 nofr0 (h _ x1) hd hcd hh
  | some cv =>
    obtain ⟨c', e, hco⟩ := ha lpos cv hc
    subst e
    refine PySem.W.kdv_makeTailHit (mg := X.mg) (c := c) (P := T) (ps := ps) (closure_ok (L.has I2.ok)) I2.ok.glob (I2.mod.glob.keeps I2.bk) hcode (TB.code.keeps I2.bk) hP' ht hc bP fun ctv doc h' tk hx hsz => ?_
    have I1 : Inv X pins σ H0 { s2 with heap := h'.push (lamO (X.env.qual ++ "<lambda>") params body scope (cloFrom X.env.cells scope.names []) T0 doc ((X.mg "__name__").getD .none) c' ctv), toks := tk } := I2.kept fun b o e => Heap.get?_push_of_some _ (hx b o e)
    obtain ⟨x1, rp1⟩ := code_ext I1 rr.rep hco
    refine Calls.spliced_nil ⟨I1.kIn, ?_⟩
    exact told_goD Cc GG hm hk L ok ly hbind I1 (TK.refl _) ⟨rr.env, rp1⟩ mup_same (Heap.get?_push_size _ rfl) (I2.hok.fresh hsz) (nofr _ hsz) (Heap.get?_push_of_some _ (hx _ _ hT0)) nT0 nofr0 (h _ x1) hd hcd hh
def lamBD (N fr : List Str) (scope : Scope) : Bool := decide (scope.kind = .function) && !scope.isCoroutine && !scope.isGenerator && scope.names.all fun y => !decide (y.2 = .cell) && (!decide (y.2 = .local) || !decide (y.1 ∈ N)) && (!decide (y.2 = .free) || decide (y.1 ∈ fr))
theorem lamSD_of (C : Cxt X N sc P w K mg base k0) {scope : Scope} (h : lamBD N sc.f scope = true) : LamSD X.N X.env.scope scope := by
  unfold lamBD at h
  simp only [Bool.and_eq_true, Bool.or_eq_true, Bool.not_eq_true', decide_eq_true_eq, decide_eq_false_iff_not, List.all_eq_true] at h
  obtain ⟨⟨⟨h1, h2⟩, h3⟩, h4⟩ := h
  refine ⟨h1, h2, h3, fun y hy => ⟨(h4 y hy).1.1, fun e => ?_⟩, fun y hy e => ?_⟩
  · rw [C.hN]
    rcases (h4 y hy).1.2 with z | z
    · exact absurd e z
    · exact z
  · rcases (h4 y hy).2 with z | z
    · exact absurd e z
    · exact C.fr _ z
theorem we_tellD (C : Cxt X N sc P w K mg base k0) {d : Str} (MK : Mkr X K mg base (tabAd K d)) (hq : X.env.qual ++ "<lambda>" = lamQ d) {x a y : Str} {sp : SpL} {params : Arguments} {body : Expr} {scope : Scope} {p lpos pos p0 : Pos} {i : Int} {j : Nat} {Q : QE} (G : DefL P w K mg base (k + 1) x a sp) (hk : k + 2 ≤ k0) (hg : (x : Str) ∈ sc.g)
    (L : lamBD N sc.f scope = true) (ok : scl.ok scope = true) (ly : scope.names.lookup y = some .local) (hdef : params.defaults = [.Constant (.int i) j p0]) (hkd : params.kw_defaults = []) (hbind : BindD params body scope y)
    (hM : M (tabAd K d) = some (.tab (lamQ d))) (h : ∀ M1, Ext M M1 → sp (LamB N scl P w K mg base k body ρ) M1 Q fun _ _ _ _ => False) (hd : (a == ("__debug__" : Str)) = false := by decide) (hcd : (a == ("__classdict__" : Str)) = false := by decide) (hh : sc.hot = false := by first | k_dflt rfl | assumption) :
    WE X (.Call (.Name x p) [.Lambda params body scope lpos] [] pos) ρ M Q :=
  we_toldD C MK G hk hg (lamSD_of C L) ok ly hdef hkd hbind (by rw [hq]; exact hM) h hd hcd hh
end
end Y

set_option Elab.async false
set_option linter.all false
set_option autoImplicit false
set_option maxRecDepth 100000
set_option maxHeartbeats 4000000
/-! data of tuples compared -/
namespace Y
open PySem PySem.Spec PyProof.Rows L2
structure DatK (k : Nat) (d : D) : Prop where
  dat : isDat d = true
  lay : d.py.canLay0 = true
  dep : d.py.depth ≤ k
theorem DatK.le {k k' : Nat} {d : D} (h : DatK k d) (l : k ≤ k') : DatK k' d := ⟨h.dat, h.lay, Nat.le_trans h.dep l⟩
theorem datk_int {i : Int} : DatK 0 (.int i) := ⟨rfl, rfl, Nat.le_refl _⟩
theorem datk_bl {b : Bool} : DatK 0 (.bl b) := ⟨rfl, rfl, Nat.le_refl _⟩
theorem datk_non : DatK 0 .non := ⟨rfl, rfl, Nat.le_refl _⟩
theorem datk_str {x : Str} (h : PyData.strOk x = true) : DatK 0 (.str x) := ⟨rfl, h, Nat.le_refl _⟩
theorem datk_all {k : Nat} : ∀ {ds : List D}, (∀ d ∈ ds, DatK k d) → isDatL ds = true ∧ PyData.canLayAll0 (pyL ds) = true ∧ PyData.depthAll (pyL ds) ≤ k
  | [], _ => ⟨rfl, rfl, Nat.zero_le _⟩
  | d :: ds, h => by
    obtain ⟨a, b, c⟩ := datk_all (ds := ds) fun x hx => h x (List.mem_cons_of_mem _ hx)
    have z := h d List.mem_cons_self
    refine ⟨by simp [isDatL, z.dat, a], by simp [pyL, PyData.canLayAll0, z.lay, b], ?_⟩
    have := z.dep
    simp only [pyL, PyData.depthAll]
    omega
theorem datk_tup {k : Nat} {ds : List D} (h : ∀ d ∈ ds, DatK k d) : DatK (k + 1) (.tup ds) := by
  obtain ⟨a, b, c⟩ := datk_all h
  exact ⟨by simp [isDat, a], by simpa [D.py, PyData.canLay0] using b, by simp only [D.py, PyData.depth]; omega⟩
theorem datk_nil {k : Nat} : ∀ d ∈ ([] : List D), DatK k d := fun d h => by cases h
theorem datk_cons {k : Nat} {d : D} {ds : List D} (a : DatK k d) (b : ∀ e ∈ ds, DatK k e) : ∀ e ∈ d :: ds, DatK k e := fun e he => by
  rcases List.mem_cons.mp he with rfl | he
  · exact a
  · exact b e he
theorem datk_map {k : Nat} {α : Type} {f : α → D} {xs : List α} (h : ∀ x ∈ xs, DatK k (f x)) : ∀ e ∈ xs.map f, DatK k e := fun e he => by
  obtain ⟨x, hx, rfl⟩ := List.mem_map.mp he
  exact h x hx
theorem datk_ints {k : Nat} (ns : List Int) : ∀ e ∈ ns.map D.int, DatK k e := datk_map fun _ _ => datk_int.le (Nat.zero_le _)
theorem DatK.shaped {k : Nat} {d : D} (h : DatK k d) (hk : k ≤ 60) : SeqAt.shaped d.py = true := by
  have a := h.lay
  have b := h.dep
  simp [SeqAt.shaped, a]
  omega
theorem DatK.of {k : Nat} {d : D} (h : DatK k d) {M : Mem} : datOf M d = some d.py := by
  have := h.dat
  cases d <;> first | (simp [isDat] at this; done) | (simp only [datOf]; rw [if_pos this])
theorem q_eqSelf {M : Mem} {g : Bool → Bool} {d : D} {k : Nat} {Q : QE} (h : DatK k d) (hk : k ≤ 60) (q : Q (.bl (g true)) M) : eq2 g d d M Q := q_eqSame h.of h.of (h.shaped hk) q
theorem q_app {M : Mem} {p : Addr} {ds : List D} {R : Addr → Prop} (h : M p = some (.lst ds)) (q : R p) : ∃ a ds0, D.obj p = .obj a ∧ M a = some (.lst ds0) ∧ R a := ⟨p, ds, rfl, h, q⟩
/-! ### comprehensions whose elements are new objects -/
/-- all that stands off p stands -/
def Off1 (p : Addr) (M M' : Mem) : Prop := ∀ b o, b ≠ p → M b = some o → M' b = some o
theorem Off1.refl {p : Addr} (M : Mem) : Off1 p M M := fun _ _ _ h => h
theorem Off1.trans {p : Addr} {A B C : Mem} (h : Off1 p A B) (g : Off1 p B C) : Off1 p A C := fun b o n e => g b o n (h b o n e)
theorem Ext.off {p : Addr} {A B : Mem} (h : Ext A B) : Off1 p A B := fun b o _ e => h b o e
theorem off_ext {p : Addr} {A B C : Mem} (x : Ext A B) (h : A p = none) (o : Off1 p B C) : Ext A C := fun b u e => o b u (fun z => by rw [z, h] at e; cases e) (x b u e)
theorem Off1.put {p : Addr} {M : Mem} {o : MO} : Off1 p M (mup M p o) := fun _ _ n e => (mup_ne n).trans e
section
variable {X : Cx} {ρ : St2} {M : Mem} {N : List Str} {sc : Nms} {P : Program} {w : World} {K : PySem.W.Frag} {mg : Str → Option Value} {base : Heap} {k0 : Nat}
def LcBodyK (X : Cx) (scope : Scope) (elt : Expr) (t : Tgt) (ρw : St2) (M1 : Mem) (xs : List D) (stays : Mem → Prop) (Pr : Nat → D → Mem → Prop) : Prop :=
  xs.length ≤ sizeLine ∧ (∀ M', Ext M1 M' → stays M') ∧
  ∀ (i : Nat) (d : D) (Dd : Addr) (M' : Mem) (acc : List D), xs[i]? = some d → M1 Dd = none → Ext M1 M' → M' Dd = some (.lst acc) → ∃ ρ', bT t d ρw = some ρ' ∧ ∀ X', Blk X scope X' → WE X' elt ρ' M' fun y M4 => Ext M' M4 ∧ ∀ M'', Off1 Dd M4 M'' → Pr i y M''
theorem lc_kept {M1 : Mem} {xs : List D} {stays : Mem → Prop} {scope : Scope} {elt : Expr} {t : Tgt} {ρw : St2} {Pr : Nat → D → Mem → Prop} {R' : Addr → Mem → Prop} (h : LcBodyK X scope elt t ρw M1 xs stays Pr) (k : ∀ Dd M' acc, M1 Dd = none → M' Dd = some (.lst acc) → acc.length = xs.length → (∀ i y, acc[i]? = some y → Pr i y M') → Ext M1 M' → R' Dd M') :
    ∀ Dd, M1 Dd = none → ∃ I : Nat → Mem → Prop, I 0 (mup M1 Dd (.lst [])) ∧ (∀ i M, I i M → stays M) ∧
      (∀ (i : Nat) (d : D) (M : Mem), xs[i]? = some d → I i M → ∃ ρ', bT t d ρw = some ρ' ∧ ∀ X', Blk X scope X' → WTs X' [] ρ' M fun b M3 => Br b (∀ X2, Blk X scope X2 → WE X2 elt ρ' M3 fun y M4 => ∃ acc, M4 Dd = some (.lst acc) ∧ acc.length < sizeLine ∧ I (i + 1) (mup M4 Dd (.lst (acc ++ [y])))) (I (i + 1) M3)) ∧
      (∀ M, I xs.length M → R' Dd M) := by
  intro Dd hD
  obtain ⟨hz, hs, hb⟩ := h
  refine ⟨fun i M => ∃ acc, M Dd = some (.lst acc) ∧ acc.length = i ∧ Ext M1 M ∧ ∀ j y, acc[j]? = some y → ∀ M'', Off1 Dd M M'' → Pr j y M'', ⟨[], mup_same, rfl, Ext.new hD, fun j y e => by simp at e⟩, fun i M ⟨acc, _, _, x, _⟩ => hs _ x, ?_, fun M ⟨acc, e, l, x, f⟩ => k Dd M acc hD e l (fun i y hy => f i y hy M (Off1.refl M)) x⟩
  rintro i d M hi ⟨acc, e, l, x, f⟩
  have hi' : i < xs.length := (List.getElem?_eq_some_iff.mp hi).1
  obtain ⟨ρ', e1, w1⟩ := hb i d Dd M acc hi hD x e
  refine ⟨ρ', e1, fun X' B => Br.t fun X2 B2 => WE.mono ?_ (w1 X2 B2)⟩
  rintro y M4 ⟨x4, py⟩
  refine ⟨_, x4 _ _ e, by omega, acc ++ [y], mup_same, by simp [l], (x.trans x4).put hD, fun j z hz M'' o => ?_⟩
  have o4 : Off1 Dd M4 M'' := Off1.put.trans o
  by_cases c : j < acc.length
  · rw [List.getElem?_append_left c] at hz
    exact f j z hz M'' ((Ext.off x4).trans o4)
  · rw [List.getElem?_append_right (by omega)] at hz
    cases q : j - acc.length with
    | zero =>
      rw [q] at hz
      cases hz
      obtain rfl : j = i := by omega
      exact py M'' o4
    | succ m => rw [q] at hz; simp at hz
theorem we_lcK (C : Cxt X N sc P w K mg base k0) {tg iter elt : Expr} {scope : Scope} {pos : Pos} {t : Tgt} {own : List (Str × Nat)} {Q : QE} (hb : blkB N sc.f scope own = true) (ho : ∀ i ∈ slT t, i ∈ own.map (·.2)) (ht : ∀ X', Blk X scope X' → PT2 X' tg t) (hf : ∀ x, foldedSetIterable iter X.env x = pure x)
    (h : WI X tg iter ρ M fun xs stays M1 => ∃ Pr, LcBodyK X scope elt t (wipe2 ρ (own.map (·.2))) M1 xs stays Pr ∧ ∀ Dd M' acc, M1 Dd = none → M' Dd = some (.lst acc) → acc.length = xs.length → (∀ i y, acc[i]? = some y → Pr i y M') → Ext M1 M' → Q (.obj Dd) M') (hh : sc.hot = false := by first | k_dflt rfl | assumption) : WE X (.ListComp elt [{ target := tg, iter := iter, ifs := [], is_async := 0 }] scope pos) ρ M Q :=
  we_lc C hb ho ht hf fun σ H r => cI_mono (fun J H1 ⟨xs, stays, M1, a, b, c, zs, d, e⟩ => ⟨xs, stays, M1, a, b, c, lc_kept d e⟩) (h σ H r)
theorem ws_setLcK (C : Cxt X N sc P w K mg base k0) {i : Nat} {y : Str} {py : Pos} {tg iter elt : Expr} {scope : Scope} {pos spos : Pos} {t : Tgt} {own : List (Str × Nat)} {E : Ends2} (nm : Nm N i y) (ly : y ∈ sc.c) (hl : (py.line == pos.line) = true) (ha : (scope.names.any fun (n, k) => n == y && (k == .local || k == .cell)) = false)
    (hb : blkB N sc.f scope own = true) (ho : ∀ i ∈ slT t, i ∈ own.map (·.2)) (ht : ∀ X', Blk X scope X' → PT2 X' tg t) (hf : ∀ x, foldedSetIterable iter X.env x = pure x)
    (h : WI X tg iter ρ M fun xs stays M1 => ∃ Pr, LcBodyK X scope elt t (wipe2 ρ (own.map (·.2))) M1 xs stays Pr ∧ ∀ Dd M' acc, M1 Dd = none → M' Dd = some (.lst acc) → acc.length = xs.length → (∀ i y, acc[i]? = some y → Pr i y M') → Ext M1 M' → ∃ ρ', Put N ρ y (.obj Dd) ρ' ∧ E.nx ρ' M') (hh : sc.hot = false := by first | k_dflt rfl | assumption) : WS X (.Assign [.Name y py] (.ListComp elt [{ target := tg, iter := iter, ifs := [], is_async := 0 }] scope pos) spos) E ρ M :=
  ws_setLc C nm ly hl ha hb ho ht hf fun σ H r => cI_mono (fun J H1 ⟨xs, stays, M1, a, b, c, zs, d, e⟩ => ⟨xs, stays, M1, a, b, c, lc_kept (R' := fun Dd M => ∃ ρ', Put N ρ y (.obj Dd) ρ' ∧ E.nx ρ' M) d e⟩) (h σ H r)
end
theorem pys_same {M : Mem} {L K : Nat} {p : PyData} : ∀ {acc : List D}, (∀ x ∈ acc, PyS M L K x p) → PySs M L K acc (List.replicate acc.length p)
  | [], _ => pys_nil
  | x :: r, h => pys_cons (h x List.mem_cons_self) (Nat.le_refl _) (Nat.le_refl _) (pys_same fun y hy => h y (List.mem_cons_of_mem _ hy))
end Y

set_option Elab.async false
set_option linter.all false
set_option autoImplicit false
set_option maxRecDepth 100000
set_option maxHeartbeats 4000000
/-! t[::-1] of a tuple; values of any kind -/
namespace Y
open PySem PySem.Spec PySem.Calls PyProof.Rows L2 HT
section
variable {prog : Program} {w : World} {A : Around} {E : Value → Shared → Prop} {s : Shared}
theorem adjust_rev (n : Nat) : Builtin.Slice.sliceAdjust none none (-1) (n : Int) = ((n : Int) - 1, -1) := by
  unfold Builtin.Slice.sliceAdjust
  simp
theorem places_rev (n : Nat) : Builtin.Slice.slicePlaces ((n : Int) - 1) (-1) (-1) = n := by
  unfold Builtin.Slice.slicePlaces
  have h1 : ¬ ((-1 : Int) > 0) := by omega
  simp only [h1, if_false]
  split
  · have : (n : Int) - 1 - -1 - 1 = (n : Int) - 1 := by omega
    rw [this, show (-(-1 : Int)) = 1 by rfl, Int.ediv_one]
    omega
  · rename_i h
    have : n = 0 := by omega
    subst this; rfl
theorem sliceApplied_rev {sl : Addr} {vl vu vs : Value} {n : Nat} {Q : Int × Int × Nat → Shared → Prop} (hs : s.heap.IsSliceOf sl vl vu vs) (pl : IsPart vl none) (pu : IsPart vu none) (ps : IsPart vs (some (-1)))
    (h : Q ((n : Int) - 1, -1, n) s) : wpAny (model prog w) A (Builtin.Slice.sliceApplied (.ref sl) (pure (n : Int))) Q E s := by
  obtain ⟨os, hos, hcs, hds⟩ := id hs
  unfold Builtin.Slice.sliceApplied Builtin.Slice.sliceFields
  refine wpAny_bind (wpAny_bind (wpAny_field hos hds (x := vl) rfl (wpAny_bind (wpAny_field hos hds (x := vu) rfl (wpAny_bind (wpAny_field hos hds (x := vs) rfl (wpAny_pure ?_)))))))
  refine wpAny_bind (slicePart_ ps ?_)
  show wpAny _ _ (if ((-1 : Int) == 0) = true then _ else _) _ _ s
  rw [if_neg (by decide)]
  refine wpAny_bind (slicePart_ pl (wpAny_bind (slicePart_ pu (wpAny_bind (wpAny_pure ?_)))))
  show wpAny _ _ (match Builtin.Slice.sliceAdjust none none (-1) (n : Int) with | (lo, hi) => pure (lo, (-1 : Int), Builtin.Slice.slicePlaces lo hi (-1))) _ _ s
  rw [adjust_rev n]
  show wpAny _ _ (pure ((n : Int) - 1, (-1 : Int), Builtin.Slice.slicePlaces ((n : Int) - 1) (-1) (-1))) _ _ s
  rw [places_rev]
  exact wpAny_pure h
theorem fm_congr {α β : Type} {f g : α → Option β} : ∀ {l : List α}, (∀ x ∈ l, f x = g x) → l.filterMap f = l.filterMap g
  | [], _ => rfl
  | x :: r, h => by rw [List.filterMap_cons, List.filterMap_cons, h x List.mem_cons_self, fm_congr fun y hy => h y (List.mem_cons_of_mem _ hy)]
theorem pick_rev (xs : Array Value) : ((List.range xs.size).filterMap fun (m : Nat) => xs[(((xs.size : Nat) : Int) - 1 + (m : Int) * -1).toNat]?).toArray = xs.toList.reverse.toArray := by
  congr 1
  have e : ((List.range xs.size).filterMap fun (m : Nat) => xs[(((xs.size : Nat) : Int) - 1 + (m : Int) * -1).toNat]?) = ((List.range xs.size).map fun k => xs.size - 1 - k).filterMap (xs[·]?) := by
    rw [List.filterMap_map]
    refine fm_congr fun m hm => ?_
    have hm := List.mem_range.mp hm
    show _ = xs[xs.size - 1 - m]?
    rw [show (((xs.size : Nat) : Int) - 1 + (m : Int) * -1).toNat = xs.size - 1 - m by omega]
  rw [e, PySem.W.krv_range, List.filterMap_reverse, PySem.W.krv_all]
theorem getItem_tuple_rev {t sl : Addr} {items : Array Value} {vl vu vs : Value} {Q : Value → Shared → Prop} (ht : IsTup s.heap t items) (hs : s.heap.IsSliceOf sl vl vu vs) (pl : IsPart vl none) (pu : IsPart vu none) (ps : IsPart vs (some (-1)))
    (h : Q (.ref s.heap.objs.size) { s with heap := s.heap.push { cls := .type "tuple", data := .seq items.toList.reverse.toArray } })
    (hsz : items.size ≤ sizeLine) : wpAny (model prog w) A (getItem (.ref t) (.ref sl)) Q E s := by
  have htake : sizeOk (.seq items.toList.reverse.toArray) := by
    show items.toList.reverse.toArray.size ≤ sizeLine
    rw [List.size_toArray, List.length_reverse, Array.length_toList]
    exact hsz
  obtain ⟨os, hos, hcs, hds⟩ := id hs
  have hTs : s.TypeIs (.ref sl) "slice" := ⟨os, hos, hcs⟩
  unfold getItem
  try with_reducible refine wpAny_holding ?_
  first | refine wpAny_bind (wpAny_pure ?_) | skip
  refine wpAny_bind (wpAny_sequenceKey ht.typeIs (by decide) ?_)
  refine wpAny_bind (wpAny_callSpecial?_slot (name := Str.ofString "__getitem__") ht.typeIs PyProof.Rows.slot_tuple_getitem
    (wpAny_call_entry PyProof.Rows.slot_tuple_getitem ht.typeIs entry_tuple_getitem ?_ (args_tuple_getitem _ _)))
  show wpAny _ _ (Builtin.Tuple.tupleItemsOf (.ref t) >>= _) _ _ s
  refine wpAny_bind (tupleItemsOf_ ht ?_)
  refine wpAny_bind (wpAny_typeOf hTs ?_)
  rw [if_pos (by decide)]
  refine wpAny_bind (sliceApplied_rev hs pl pu ps ?_)
  have hno : ¬ ((((items.size : Nat) : Int) - 1 == 0 && (-1 : Int) == 1 && items.size == items.size) = true) := by
    intro q
    rw [Bool.and_eq_true, Bool.and_eq_true] at q
    exact absurd q.1.2 (by decide)
  show wpAny _ _ (if (((items.size : Nat) : Int) - 1 == 0 && (-1 : Int) == 1 && items.size == items.size) = true then _ else _) _ _ s
  rw [if_neg hno, pick_rev]
  first
    | exact wpAny_bind (m := Builtin.Tuple.tupleExact _) (wpAny_newObj_type (wpAny_pure ⟨_, rfl, wpAny_pure h⟩) htake)
    | exact wpAny_bind (m := Builtin.Tuple.tupleExact _) (wpAny_newObj_type (wpAny_bind (wpAny_pure (wpAny_pure ⟨_, rfl, wpAny_pure h⟩))) htake)
    | exact wpAny_bind (wpAny_bind (m := Builtin.Tuple.tupleExact _) (wpAny_newObj_type (wpAny_pure (wpAny_pure ⟨_, rfl, wpAny_pure h⟩)) htake))
    | exact wpAny_bind (wpAny_bind (m := Builtin.Tuple.tupleExact _) (wpAny_newObj_type (wpAny_pure ⟨_, rfl, wpAny_pure h⟩) htake))
end
section
variable {X : Cx} {ρ : St2} {M : Mem} {N : List Str} {sc : Nms} {P : Program} {w : World} {K : PySem.W.Frag} {mg : Str → Option Value} {base : Heap} {k0 : Nat}
def tRevT (K : PySem.W.Frag) (te : TE) : TE := fun σ H Q => te σ H fun x H1 => ∃ a xs, x = .ref a ∧ SqT K H1 a xs ∧ ∀ p, H1 p = none → Q (.ref p) (upd H1 p (.tup xs.reverse))
theorem pe_revT {e : Expr} {te : TE} {k : Nat} {p1 p2 p3 pos : Pos} (he : PE X e te) : PE X (.Subscript e (.Slice none none (some (.UnaryOp .USub (.Constant (.int 1) k p1) p2)) p3) pos) (tRevT X.K te) := by
  refine ⟨fun pins s σ H Q I h => ?_⟩
  refine Subscript_ (thn (he.run pins s σ H _ I h) fun v s1 ⟨x, H1, I1, r1, q1⟩ => ?_)
  obtain ⟨a, xs, ex, hx, q⟩ := q1
  subst ex
  cases r1
  have hst : PO X (some (.UnaryOp .USub (.Constant (.int 1) k p1) p2)) (tPart (tUn (rU fun i => .int (-i)) (tC (.int 1)))) := po_some (pe_un un_neg pe_int)
  refine wpAny_Slice (thn (po_none.run pins s1 σ H1 (fun o H2 => o = none ∧ H2 = H1) I1 ⟨rfl, rfl⟩) fun vl s2 ⟨l, H2, I2, pl, el, e2⟩ => ?_)
  subst el e2
  refine thn (po_none.run pins s2 σ H2 (fun o H3 => o = none ∧ H3 = H2) I2 ⟨rfl, rfl⟩) fun vu s3 ⟨u, H3, I3, pu, eu, e3⟩ => ?_
  subst eu e3
  refine thn (hst.run pins s3 σ H3 (fun o H4 => o = some (-1) ∧ H4 = H3) I3 ⟨1, rfl, -1, rfl, rfl, rfl⟩) fun vs s4 ⟨o, H4, I4, ps, eo, e4⟩ => ?_
  subst eo e4
  have I5 : Inv X pins σ H4 { s4 with heap := s4.heap.push { cls := .type "slice", data := .fields #[vl, vu, vs] } } := I4.kept (t' := s4.toks) fun b ob q => Heap.get?_push_of_some _ q
  obtain ⟨its, r, ht, hz⟩ := I5.tuple hx
  have hlen := r.length
  show wpAny (model X.prog X.w) X.A (subscriptTail e (.Slice none none (some (.UnaryOp .USub (.Constant (.int 1) k p1) p2)) p3) (.ref a) (.ref s4.heap.objs.size)) (EP X pins σ Q) X.xe { s4 with heap := s4.heap.push { cls := .type "slice", data := .fields #[vl, vu, vs] } }
  refine tail_any (ops := [.ref a, .ref s4.heap.objs.size]) ht.typeIs (PyProof.Rows.slot_tuple_getitem.lookup) ?_ (by with_unfolding_all rfl)
  refine getItem_tuple_rev ht (Heap.IsSliceOf.new _ vl vu vs) pl pu ps ?_ (by rw [List.size_toArray]; omega)
  refine ⟨.ref _, _, I5.laid (t' := s4.toks) (o := .tup xs.reverse) (fun b ob q => Heap.get?_push_of_some _ q) (Nat.le_refl _) ?_, rfl, q _ (I5.hok.fresh (Nat.le_refl _))⟩
  exact ⟨by rw [List.length_reverse]; exact hz, _, r.reverse, IsTup.new _ _⟩
def tRevA (K : PySem.W.Frag) (te : TE) : TE := fun σ H Q => te σ H fun x H1 => (∃ a xs, x = .ref a ∧ SqL K H1 a xs ∧ ∀ p, H1 p = none → Q (.ref p) (upd H1 p (.lst xs.reverse))) ∨ ∃ a xs, x = .ref a ∧ SqT K H1 a xs ∧ ∀ p, H1 p = none → Q (.ref p) (upd H1 p (.tup xs.reverse))
theorem pe_revA {e : Expr} {te : TE} {k : Nat} {p1 p2 p3 pos : Pos} (he : PE X e te) : PE X (.Subscript e (.Slice none none (some (.UnaryOp .USub (.Constant (.int 1) k p1) p2)) p3) pos) (tRevA X.K te) := by
  refine ⟨fun pins s σ H Q I h => ?_⟩
  refine Subscript_ (thn (he.run pins s σ H _ I h) fun v s1 ⟨x, H1, I1, r1, q1⟩ => ?_)
  have hst : PO X (some (.UnaryOp .USub (.Constant (.int 1) k p1) p2)) (tPart (tUn (rU fun i => .int (-i)) (tC (.int 1)))) := po_some (pe_un un_neg pe_int)
  refine wpAny_Slice (thn (po_none.run pins s1 σ H1 (fun o H2 => o = none ∧ H2 = H1) I1 ⟨rfl, rfl⟩) fun vl s2 ⟨l, H2, I2, pl, el, e2⟩ => ?_)
  subst el e2
  refine thn (po_none.run pins s2 σ H2 (fun o H3 => o = none ∧ H3 = H2) I2 ⟨rfl, rfl⟩) fun vu s3 ⟨u, H3, I3, pu, eu, e3⟩ => ?_
  subst eu e3
  refine thn (hst.run pins s3 σ H3 (fun o H4 => o = some (-1) ∧ H4 = H3) I3 ⟨1, rfl, -1, rfl, rfl, rfl⟩) fun vs s4 ⟨o, H4, I4, ps, eo, e4⟩ => ?_
  subst eo e4
  have I5 : Inv X pins σ H4 { s4 with heap := s4.heap.push { cls := .type "slice", data := .fields #[vl, vu, vs] } } := I4.kept (t' := s4.toks) fun b ob q => Heap.get?_push_of_some _ q
  rcases q1 with ⟨a, xs, ex, hx, q⟩ | ⟨a, xs, ex, hx, q⟩
  · subst ex
    cases r1
    obtain ⟨its, r, ht, hz⟩ := I5.list hx
    have hlen := r.length
    show wpAny (model X.prog X.w) X.A (subscriptTail e (.Slice none none (some (.UnaryOp .USub (.Constant (.int 1) k p1) p2)) p3) (.ref a) (.ref s4.heap.objs.size)) (EP X pins σ Q) X.xe { s4 with heap := s4.heap.push { cls := .type "slice", data := .fields #[vl, vu, vs] } }
    refine tail_any (ops := [.ref a, .ref s4.heap.objs.size]) ht.isList.typeIs (PySem.slot_list_getitem.lookup) ?_ (by with_unfolding_all rfl)
    refine wpAny_getItem_list_slice ht.isList (Heap.IsSliceOf.new _ vl vu vs) pl pu ps (by decide) ?_ (by rw [List.size_toArray]; omega)
    rw [PySem.W.krv_pick]
    refine ⟨.ref _, _, I5.laid (t' := s4.toks) (o := .lst xs.reverse) (fun b ob q => Heap.get?_push_of_some _ q) (Nat.le_refl _) ?_, rfl, q _ (I5.hok.fresh (Nat.le_refl _))⟩
    exact ⟨by rw [List.length_reverse]; exact hz, _, 0, r.reverse, Heap.get?_push_size _ rfl⟩
  · subst ex
    cases r1
    obtain ⟨its, r, ht, hz⟩ := I5.tuple hx
    have hlen := r.length
    show wpAny (model X.prog X.w) X.A (subscriptTail e (.Slice none none (some (.UnaryOp .USub (.Constant (.int 1) k p1) p2)) p3) (.ref a) (.ref s4.heap.objs.size)) (EP X pins σ Q) X.xe { s4 with heap := s4.heap.push { cls := .type "slice", data := .fields #[vl, vu, vs] } }
    refine tail_any (ops := [.ref a, .ref s4.heap.objs.size]) ht.typeIs (PyProof.Rows.slot_tuple_getitem.lookup) ?_ (by with_unfolding_all rfl)
    refine getItem_tuple_rev ht (Heap.IsSliceOf.new _ vl vu vs) pl pu ps ?_ (by rw [List.size_toArray]; omega)
    refine ⟨.ref _, _, I5.laid (t' := s4.toks) (o := .tup xs.reverse) (fun b ob q => Heap.get?_push_of_some _ q) (Nat.le_refl _) ?_, rfl, q _ (I5.hok.fresh (Nat.le_refl _))⟩
    exact ⟨by rw [List.length_reverse]; exact hz, _, r.reverse, IsTup.new _ _⟩
def rev1 : D → Mem → QE → Prop
  | .obj a, M, Q => ∃ ds, M a = some (.lst ds) ∧ ∀ p, M p = none → Q (.obj p) (mup M p (.lst ds.reverse))
  | .tup ds, M, Q => Q (.tup ds.reverse) M
  | _, _, _ => False
theorem q_revT {ds : List D} {Q : QE} (q : Q (.tup ds.reverse) M) : rev1 (.tup ds) M Q := q
theorem q_revL {a : Addr} {ds : List D} {Q : QE} (h : M a = some (.lst ds)) (q : ∀ p, M p = none → Q (.obj p) (mup M p (.lst ds.reverse))) : rev1 (.obj a) M Q := ⟨ds, h, q⟩
theorem we_revA {e : Expr} {k : Nat} {p1 p2 p3 pos : Pos} {Q : QE} (h : WE X e ρ M fun d M1 => rev1 d M1 Q) : WE X (.Subscript e (.Slice none none (some (.UnaryOp .USub (.Constant (.int 1) k p1) p2)) p3) pos) ρ M Q := fun σ H rr => by
  refine cE_of (pe_revA peC) ?_
  refine cE_mono ?_ (h σ H rr)
  rintro v H1 ⟨d, M1, dn, r1, t1, q⟩
  cases d with
  | obj a =>
    obtain ⟨ds, ea, q⟩ := q
    obtain ⟨xs, hx, l⟩ := r1.rep.lst ea
    refine .inl ⟨a, xs, den_obj.mp dn, .inl (.inl hx), fun n hn => ?_⟩
    exact ⟨.obj n, _, den_obj.mpr rfl, r1.newL hn l.reverse, t1.trans (TK.fresh hn), q n (r1.rep.free hn)⟩
  | tup ds =>
    obtain ⟨a, xs, e, s, l⟩ := den_tup.mp dn
    refine .inr ⟨a, xs, e, s, fun n hn => ?_⟩
    exact ⟨_, M1, den_newT hn l.reverse, r1.newT hn, t1.trans (TK.fresh hn), q⟩
  | non => exact q.elim
  | bl _ => exact q.elim
  | int _ => exact q.elim
  | str _ => exact q.elim
  | ty _ => exact q.elim
  | ro _ => exact q.elim
  | exn _ _ _ => exact q.elim
  | kls _ => exact q.elim
end
/-! ### values of any kind -/
def Kn (M : Mem) (d : D) : Prop := ∃ p, PyR M d p
theorem Kn.ext {M M' : Mem} {d : D} (h : Kn M d) (x : Ext M M') : Kn M' d := h.imp fun _ h => h.ext x
theorem PyRs.mem {M : Mem} : ∀ {ds : List D} {ps : List PyData}, PyRs M ds ps → ∀ e ∈ ds, Kn M e
  | _, _, .cons a b, e, h => by
    rcases List.mem_cons.mp h with rfl | h
    · exact ⟨_, a⟩
    · exact PyRs.mem b e h
theorem Kn.tup {M : Mem} {ds : List D} (h : Kn M (.tup ds)) : ∀ e ∈ ds, Kn M e := by
  obtain ⟨p, h⟩ := h
  cases h with
  | tup l => exact l.mem
theorem PyS.kn {M : Mem} {L K : Nat} {d : D} {p : PyData} (h : PyS M L K d p) : Kn M d := ⟨p, h.r⟩
theorem ty_dk {M : Mem} {a : Addr} {kvs : List (Key × D)} (h : M a = some (.dk kvs)) : tyD (.obj a) M = some "dict" := by show (match M a with | some (.lst _) => some "list" | some (.dk _) => some "dict" | _ => none) = _; rw [h]
/-- an int within bounds -/
def wh (v : D) (a b : Int) : Bool := match v with
  | .int i => decide (a ≤ i ∧ i ≤ b)
  | _ => false
theorem wh_int {v : D} {a b : Int} (h : wh v a b = true) : ∃ i, v = .int i ∧ a ≤ i ∧ i ≤ b := by
  cases v <;> first | (cases h; done) | (unfold wh at h; exact ⟨_, rfl, of_decide_eq_true h⟩)
/-- what is known of a value, by its kind -/
theorem Kn.cases {M : Mem} {d : D} (h : Kn M d) {R : D → Prop} (h1 : R .non) (h2 : ∀ b, R (.bl b)) (h3 : ∀ i, R (.int i)) (h4 : ∀ x, R (.str x)) (h5 : ∀ ds, (∀ e ∈ ds, Kn M e) → R (.tup ds)) (h6 : ∀ a ds, M a = some (.lst ds) → R (.obj a)) (h7 : ∀ a kvs, M a = some (.dk kvs) → R (.obj a)) : R d := by
  obtain ⟨p, h⟩ := h
  cases h with
  | non => exact h1
  | bl b => exact h2 b
  | int i => exact h3 i
  | str x => exact h4 x
  | tup l => exact h5 _ l.mem
  | obj e _ => exact h6 _ _ e
  | dk e _ => exact h7 _ _ e
/-! ### comparable data -/
/-- data that may be compared (no dict within) -/
def Cmp (M : Mem) (d : D) : Prop := ∃ p, DtR M d p ∧ p.canLay0 = true ∧ p.depth ≤ 20
theorem DtR.ext' {M M' : Mem} (x : Ext M M') {a : Addr} {ds : List D} (h : lstOf (M a) = some ds) : lstOf (M' a) = some ds := by
  cases e : M a with
  | none => rw [e] at h; cases h
  | some o => rw [x _ _ e]; rw [e] at h; exact h
mutual
theorem DtR.ext {M M' : Mem} (x : Ext M M') : ∀ {d : D} {p : PyData}, DtR M d p → DtR M' d p
  | _, _, .non => .non
  | _, _, .bl b => .bl b
  | _, _, .int i => .int i
  | _, _, .str s => .str s
  | _, _, .tup l => .tup (DtRs.ext x l)
  | _, _, .ro l => .ro (DtRs.ext x l)
  | _, _, .obj e l => .obj (DtR.ext' x e) (DtRs.ext x l)
theorem DtRs.ext {M M' : Mem} (x : Ext M M') : ∀ {ds : List D} {ps : List PyData}, DtRs M ds ps → DtRs M' ds ps
  | _, _, .nil => .nil
  | _, _, .cons a b => .cons (DtR.ext x a) (DtRs.ext x b)
end
theorem Cmp.ext {M M' : Mem} {d : D} (h : Cmp M d) (x : Ext M M') : Cmp M' d := h.imp fun _ h => ⟨h.1.ext x, h.2⟩
theorem cmp_all {M : Mem} : ∀ {ds : List D}, (∀ e ∈ ds, Cmp M e) → ∃ ps, DtRs M ds ps ∧ PyData.canLayAll0 ps = true ∧ PyData.depthAll ps ≤ 20 ∧ ps.length = ds.length
  | [], _ => ⟨[], .nil, rfl, Nat.zero_le _, rfl⟩
  | d :: ds, h => by
    obtain ⟨p, a, b, c⟩ := h d List.mem_cons_self
    obtain ⟨ps, a2, b2, c2, d2⟩ := cmp_all (ds := ds) fun e he => h e (List.mem_cons_of_mem _ he)
    refine ⟨p :: ps, .cons a a2, by simp [PyData.canLayAll0, b, b2], ?_, by simp [d2]⟩
    simp only [PyData.depthAll]
    omega
theorem cmp_dat {M : Mem} {k : Nat} {d : D} (h : DatK k d) (l : k ≤ 20) : Cmp M d := ⟨d.py, dtr_dat h.dat, h.lay, Nat.le_trans h.dep l⟩
theorem cmp_lst {M : Mem} {a : Addr} {ds : List D} (h : M a = some (.lst ds)) (k : ∀ d ∈ ds, ∃ p, DtR M d p ∧ p.canLay0 = true ∧ p.depth ≤ 19) : Cmp M (.obj a) := by
  have : ∀ {ds : List D}, (∀ d ∈ ds, ∃ p, DtR M d p ∧ p.canLay0 = true ∧ p.depth ≤ 19) → ∃ ps, DtRs M ds ps ∧ PyData.canLayAll0 ps = true ∧ PyData.depthAll ps ≤ 19 := fun {ds} => by
    induction ds with
    | nil => intro _; exact ⟨[], .nil, rfl, Nat.zero_le _⟩
    | cons d ds ih =>
      intro h
      obtain ⟨p, a, b, c⟩ := h d List.mem_cons_self
      obtain ⟨ps, a2, b2, c2⟩ := ih fun e he => h e (List.mem_cons_of_mem _ he)
      refine ⟨p :: ps, .cons a a2, by simp [PyData.canLayAll0, b, b2], ?_⟩
      simp only [PyData.depthAll]
      omega
  obtain ⟨ps, a1, b1, c1⟩ := this k
  exact ⟨.list ps, .obj (lst_lst h) a1, by simpa [PyData.canLay0] using b1, by simp only [PyData.depth]; omega⟩
/-- xs != [] -/
theorem q_neNilC {M : Mem} {Q : QE} {a b : Addr} {ds : List D} (h1 : M a = some (.lst ds)) (h2 : M b = some (.lst [])) (hc : ∀ e ∈ ds, Cmp M e) (q : Q (.bl (!ds.isEmpty)) M) : eq2 not (.obj a) (.obj b) M Q := by
  obtain ⟨ps, r, c, d, l⟩ := cmp_all hc
  refine .inr (.inl ⟨.list ps, .list [], .obj (lst_lst h1) r, .obj (lst_lst h2) .nil, ?_, rfl, ?_⟩)
  · simp [SeqAt.shaped, PyData.canLay0, PyData.depth, c]; omega
  · have e : PyData.eqv (.list ps) (.list []) = ds.isEmpty := by
      cases ps with
      | nil => cases ds with
        | nil => simp [PyData.eqv, PyData.eqvAll]
        | cons _ _ => simp at l
      | cons p ps => cases ds with
        | nil => simp at l
        | cons _ _ => simp [PyData.eqv, PyData.eqvAll]
    rw [e]
    exact q
/-- the same of xs == [] -/
theorem q_eqNilC {M : Mem} {Q : QE} {a b : Addr} {ds : List D} (h1 : M a = some (.lst ds)) (h2 : M b = some (.lst [])) (hc : ∀ e ∈ ds, Cmp M e) (q : Q (.bl ds.isEmpty) M) : eq2 id (.obj a) (.obj b) M Q := by
  obtain ⟨ps, r, c, d, l⟩ := cmp_all hc
  refine .inr (.inl ⟨.list ps, .list [], .obj (lst_lst h1) r, .obj (lst_lst h2) .nil, ?_, rfl, ?_⟩)
  · simp [SeqAt.shaped, PyData.canLay0, PyData.depth, c]; omega
  · have e : PyData.eqv (.list ps) (.list []) = ds.isEmpty := by
      cases ps with
      | nil => cases ds with
        | nil => simp [PyData.eqv, PyData.eqvAll]
        | cons _ _ => simp at l
      | cons p ps => cases ds with
        | nil => simp at l
        | cons _ _ => simp [PyData.eqv, PyData.eqvAll]
    show Q (.bl (PyData.eqv (.list ps) (.list []))) M
    rw [e]
    exact q
theorem q_par3 {N : List Str} {x y z : Str} {d e f : D} {ρ ρ1 ρ2 ρ3 : St2} {R : St2 → Prop} (p1 : Put N ρ x d ρ1) (p2 : Put N ρ1 y e ρ2) (p3 : Put N ρ2 z f ρ3) (q : R ρ3) : ∃ d' e' f' ρ1 ρ2 ρ3, [d, e, f] = [d', e', f'] ∧ Put N ρ x d' ρ1 ∧ Put N ρ1 y e' ρ2 ∧ Put N ρ2 z f' ρ3 ∧ R ρ3 := ⟨d, e, f, ρ1, ρ2, ρ3, rfl, p1, p2, p3, q⟩
theorem pyss_mem {M : Mem} {L K : Nat} : ∀ {ds : List D}, (∀ e ∈ ds, ∃ p, PyS M L K e p) → ∃ ps, PySs M L K ds ps
  | [], _ => ⟨[], pys_nil⟩
  | d :: ds, h => by
    obtain ⟨p, a⟩ := h d List.mem_cons_self
    obtain ⟨ps, b⟩ := pyss_mem (ds := ds) fun e he => h e (List.mem_cons_of_mem _ he)
    exact ⟨p :: ps, pys_cons a (Nat.le_refl _) (Nat.le_refl _) b⟩
theorem cutD_mem {ds : List D} {lo hi : Option Int} : ∀ e ∈ cutD ds lo hi, e ∈ ds := fun e he => List.mem_of_mem_drop (List.mem_of_mem_take he)
theorem cutD_len {ds : List D} {lo hi : Option Int} : (cutD ds lo hi).length ≤ ds.length := by
  unfold cutD
  rw [List.length_take, List.length_drop]
  omega
section
variable {X : Cx} {ρ : St2} {M : Mem} {N : List Str} {sc : Nms} {P : Program} {w : World} {K : PySem.W.Frag} {mg : Str → Option Value} {base : Heap} {k0 : Nat}
theorem sw_cell2 {x y : Str} {p p2 pt pt2 : Pos} {k1 k2 : _} {vs : List Expr} {env : Env} (hy : env.kindOf y ≠ some .local) : swappedStores [.Tuple [.Name x p, .Name y p2] k1 pt] (.Tuple vs k2 pt2) env = pure none := by
  unfold swappedStores
  by_cases h1 : env.blockKind = .function <;> by_cases h2 : env.kindOf x = some NameKind.local <;> simp [h1, h2, hy, Expr.pos, List.filterMap_cons]
/-- x, y = a, b where y is a cell -/
theorem ws_parC2 (C : Cxt X N sc P w K mg base k0) {x y : Str} {p p2 pt pt2 : Pos} {k1 k2 : _} {vs : List Expr} {pos : Pos} {E : Ends2} (hf : y ∈ sc.f) (h1 : swapsWithSole [.Tuple [.Name x p, .Name y p2] k1 pt] (.Tuple vs k2 pt2) pos.line X.env = pure false) (h3 : List.map (fun x => x.2) (assignEach [.Tuple [.Name x p, .Name y p2] k1 pt] X.env) = [assign (.Tuple [.Name x p, .Name y p2] k1 pt) X.env])
    (h : WE X (.Tuple vs k2 pt2) ρ M fun d M1 => WG X (.Tuple [.Name x p, .Name y p2] k1 pt) d ρ M1 E.nx) : WS X (.Assign [.Tuple [.Name x p, .Name y p2] k1 pt] (.Tuple vs k2 pt2) pos) E ρ M :=
  ws_asg h1 (sw_cell2 (fun e => by rcases C.fr y hf with z | z <;> (rw [show X.env.kindOf y = X.env.scope.names.lookup y from rfl, z] at e; cases e))) h3 h
end
theorem q_eqInts {M : Mem} {g : Bool → Bool} {a b : Addr} {zs : List Int} {Q : QE} (h1 : M a = some (.lst (zs.map D.int))) (h2 : M b = some (.lst (zs.map D.int))) (q : Q (.bl (g true)) M) : eq2 g (.obj a) (.obj b) M Q := by
  refine q_eqSame (p := .list (zs.map .int)) ?_ ?_ (shaped_ints zs) q
  · show (lstOf (M a)).bind _ = _
    rw [lst_lst h1]
    show (if isDatL (zs.map D.int) = true then some (PyData.list (pyL (zs.map D.int))) else none) = _
    rw [if_pos (dat_ints zs), py_ints]
  · show (lstOf (M b)).bind _ = _
    rw [lst_lst h2]
    show (if isDatL (zs.map D.int) = true then some (PyData.list (pyL (zs.map D.int))) else none) = _
    rw [if_pos (dat_ints zs), py_ints]
theorem q_eqT0 {M : Mem} {Q : QE} {ds : List D} (q : Q (.bl ds.isEmpty) M) : eq2 id (.tup ds) (.tup []) M Q := .inr (.inr ⟨rfl, ds, rfl, rfl, q⟩)
instance (i j : Int) : Decidable (CPow i j) := by unfold CPow; infer_instance
end Y

set_option Elab.async false
set_option linter.all false
set_option autoImplicit false
set_option maxRecDepth 100000
set_option maxHeartbeats 4000000
/-! texts: str(int), split, join, for over a text, in of a text -/
namespace Y
open PySem PySem.Spec PySem.Calls PyProof.Rows L2 HT
section
variable {X : Cx} {ρ : St2} {M : Mem} {N : List Str} {sc : Nms} {P : Program} {w : World} {K : PySem.W.Frag} {mg : Str → Option Value} {base : Heap} {k0 : Nat}
theorem denL_strs {H : Hp} : ∀ (ys : List Str), DenL K H (ys.map D.str) (ys.map V.str)
  | [] => DenL.nil
  | y :: ys => DenL.cons (den_str.mpr rfl) (denL_strs ys)
theorem denL_strs' {H : Hp} : ∀ {ys : List Str} {xs : List V}, DenL K H (ys.map D.str) xs → xs = ys.map V.str
  | [], _, h => denL_nil.mp h
  | y :: ys, _, h => by
    obtain ⟨v, r, rfl, a, b⟩ := denL_cons.mp h
    rw [den_str.mp a, denL_strs' b]
    rfl
/-- str(i) -/
def str1 (ds : List D) (M : Mem) (Q : QE) : Prop := ∃ i : Int, ds = [.int i] ∧ i.natAbs.log2 < 1920 ∧ Q (.str (Str.ofString (toString i))) M
theorem cl_str : CallL K (fun xs H Q => ∃ i : Int, xs = [V.int i] ∧ i.natAbs.log2 < 1920 ∧ Q (.str (Str.ofString (toString i))) H) str1 := by
  rintro ds vs H ρ σ M H0 Q dn r t ⟨i, rfl, h, q⟩
  obtain ⟨v, rfl, a⟩ := one_arg (ds := []) dn
  exact ⟨i, by rw [den_int.mp a], h, _, M, den_str.mpr rfl, r, t, q⟩
theorem wc_str (C : Cxt X N sc P w K mg base k0) {e : Expr} {p pos : Pos} {Q : QE} (hg : ("str" : Str) ∈ sc.g) (hm : mg "str" = none) (hs : starEach [e] X.env = [(false, eval e X.env)]) (h : WE X e ρ M fun d M1 => str1 [d] M1 Q) : WE X (.Call (.Name "str" p) [e] [] pos) ρ M Q := by
  obtain rfl := C.hK
  exact we_callT C call_str_int cl_str hg hm (by first | exact PySem.boot_str | exact PyProof.Rows.boot_str) hs (fun _ => rfl) (wa_one hs h)
theorem q_str {i : Int} {Q : QE} (h : i.natAbs.log2 < 1920) (q : Q (.str (Str.ofString (toString i))) M) : str1 [.int i] M Q := ⟨i, rfl, h, q⟩
/-- a.split(b) -/
def split2 (d1 d2 : D) (M : Mem) (Q : QE) : Prop := ∃ a b : Str, d1 = .str a ∧ d2 = .str b ∧ (b.length == 0) = false ∧ a.length + 2 ≤ sizeLine ∧ ∀ p, M p = none → Q (.obj p) (mup M p (.lst ((Txt.split a b).map D.str)))
theorem we_split {o e : Expr} {apos pos : Pos} {Q : QE} (hs : starEach [e] X.env = [(false, eval e X.env)]) (hb : attributeBase o "split" X.env (eval o X.env) = eval o X.env) (hl : (apos.endLine == pos.line) = true)
    (h : WE X o ρ M fun d1 M1 => (∃ a, d1 = .str a) ∧ WE X e ρ M1 fun d2 M2 => split2 d1 d2 M2 Q) : WE X (.Call (.Attribute o "split" apos) [e] [] pos) ρ M Q := fun σ H rr => by
  refine cE_of (pe_split peC peC hs hb hl) ?_
  refine cE_mono ?_ (h σ H rr)
  rintro v H1 ⟨d1, M1, dn1, r1, t1, ⟨a, rfl⟩, q1⟩
  obtain rfl := den_str.mp dn1
  refine ⟨⟨a, rfl⟩, cE_mono ?_ (q1 σ H1 r1)⟩
  rintro u H2 ⟨d2, M2, dn2, r2, t2, a', b, e1, rfl, h1, h2, q⟩
  cases e1
  obtain rfl := den_str.mp dn2
  refine ⟨a, b, rfl, rfl, h1, h2, fun n hn => ?_⟩
  exact ⟨.obj n, _, den_obj.mpr rfl, r2.newL hn (denL_strs _), (t1.trans t2).trans (TK.fresh hn), q n (r2.rep.free hn)⟩
theorem q_split {a b : Str} {Q : QE} (h1 : (b.length == 0) = false) (h2 : a.length + 2 ≤ sizeLine) (q : ∀ p, M p = none → Q (.obj p) (mup M p (.lst ((Txt.split a b).map D.str)))) : split2 (.str a) (.str b) M Q := ⟨a, b, rfl, rfl, h1, h2, q⟩
/-- a.join(..) -/
def join2 (d1 d2 : D) (M : Mem) (Q : QE) : Prop := ∃ (a : Str) (ys : List Str), d1 = .str a ∧ itemsOf M d2 = some (ys.map D.str) ∧ (ys.map (·.length)).sum + ys.length * a.length ≤ 16777216 ∧ Q (.str (Txt.join a ys)) M
theorem we_join {o e : Expr} {apos pos : Pos} {Q : QE} (hs : starEach [e] X.env = [(false, eval e X.env)]) (hb : attributeBase o "join" X.env (eval o X.env) = eval o X.env) (hl : (apos.endLine == pos.line) = true)
    (h : WE X o ρ M fun d1 M1 => (∃ a, d1 = .str a) ∧ WE X e ρ M1 fun d2 M2 => join2 d1 d2 M2 Q) : WE X (.Call (.Attribute o "join" apos) [e] [] pos) ρ M Q := fun σ H rr => by
  refine cE_of (pe_join peC peC hs hb hl) ?_
  refine cE_mono ?_ (h σ H rr)
  rintro v H1 ⟨d1, M1, dn1, r1, t1, ⟨a, rfl⟩, q1⟩
  obtain rfl := den_str.mp dn1
  refine ⟨⟨a, rfl⟩, cE_mono ?_ (q1 σ H1 r1)⟩
  rintro u H2 ⟨d2, M2, dn2, r2, t2, a', ys, e1, e2, h1, q⟩
  cases e1
  obtain ⟨p, xs, rfl, s, l⟩ := itemsOf_sq r2 e2 dn2
  rw [denL_strs' l] at s
  exact ⟨a, p, ys, rfl, rfl, s, h1, .str _, M2, den_str.mpr rfl, r2, t1.trans t2, q⟩
theorem q_join {a : Str} {d : D} {ys : List Str} {Q : QE} (h : itemsOf M d = some (ys.map D.str)) (h1 : (ys.map (·.length)).sum + ys.length * a.length ≤ 16777216) (q : Q (.str (Txt.join a ys)) M) : join2 (.str a) d M Q := ⟨a, ys, rfl, h, h1, q⟩
theorem q_exS {a : Str} {R : Prop} (q : R) : (∃ b, D.str a = .str b) ∧ R := ⟨⟨a, rfl⟩, q⟩
/-- for c in a text -/
def chD1 (c : Nat) : D := .str ⟨#[c]⟩
theorem adeq_str {H1 : Hp} {z : Str} : Adeq K H1 (Its z) (z.cps.toList.map chD1) (fun _ => True) where
  go := fun i ρ M σ H r t s hi => by
    show i < z.cps.size
    simpa using hi
  yld := fun i ρ M σ H x d H' r t s hd ⟨e, c, hc, y⟩ => by
    subst e
    subst y
    rw [List.getElem?_map, Array.getElem?_toList, hc] at hd
    cases hd
    exact ⟨r, TK.refl _, den_str.mpr rfl⟩
  stop := fun ρ M σ H r t s => by
    show z.cps.size ≤ _
    simp
theorem wi_str {tg l : Expr} {Q : QI} (h : WE X l ρ M fun d M1 => ∃ z, d = .str z ∧ Q (z.cps.toList.map chD1) (fun _ => True) M1) : WI X tg l ρ M Q := fun σ H r => by
  refine cI_of (pi_str peC) ?_
  refine cE_mono ?_ (h σ H r)
  rintro v H1 ⟨d, M1, dn, r1, t1, z, rfl, q⟩
  exact ⟨z, den_str.mp dn, _, _, M1, r1, t1, adeq_str, q⟩
theorem q_inS {g : Bool → Bool} {c : Nat} {z : Str} {Q : QE} (q : Q (.bl (g (decide (c ∈ z.cps.toList)))) M) : in2 g (chD1 c) (.str z) M Q := .inr (.inr ⟨c, z, rfl, rfl, q⟩)
/-! ### a call that may let exceptions out, walked by itself -/
inductive XMk (x : Str) : Prop
  | mk
theorem we_callXm (C : Cxt X N sc P w K mg base k0) {E2 : XE2} (TX : Tks X E2) {x : Str} (xm : XMk x) {p pos : Pos} {e : Expr} {es : List Expr} {k : Nat} {ps : List Str} {sp : Sp2} {Q : QE} (G : Def2 P w K mg base k x ps sp) (hk : k ≤ k0) (hg : (x : Str) ∈ sc.g)
    (hs : starEach (e :: es) X.env = (false, eval e X.env) :: starEach es X.env) (hn : ∀ pos, (backTo pos (starEach es X.env)).any (·.1) = false) (h : WA X (e :: es) ρ M fun ds M1 => sp ds M1 Q fun n ks es M2 => E2 n ks es ρ M2) (hh : sc.hot = false := by first | k_dflt rfl | assumption) : WE X (.Call (.Name x p) (e :: es) [] pos) ρ M Q := we_callX C TX G hk hg hs hn h hh
/-! ### what is known, of tuples and lists -/
theorem pyrs_of : ∀ {ds : List D}, (∀ e ∈ ds, Kn M e) → ∃ ps, PyRs M ds ps
  | [], _ => ⟨[], .nil⟩
  | d :: ds, h => by
    obtain ⟨p, hp⟩ := h d List.mem_cons_self
    obtain ⟨ps, hps⟩ := pyrs_of (ds := ds) fun e he => h e (List.mem_cons_of_mem _ he)
    exact ⟨p :: ps, .cons hp hps⟩
theorem kn_tup {ds : List D} (h : ∀ e ∈ ds, Kn M e) : Kn M (.tup ds) := by
  obtain ⟨ps, hp⟩ := pyrs_of h
  exact ⟨_, .tup hp⟩
theorem kn_obj {a : Addr} {ds : List D} (e : M a = some (.lst ds)) (h : ∀ e ∈ ds, Kn M e) : Kn M (.obj a) := by
  obtain ⟨ps, hp⟩ := pyrs_of h
  exact ⟨_, .obj e hp⟩
theorem kn_int {i : Int} : Kn M (.int i) := ⟨_, .int i⟩
theorem kn_str {x : Str} : Kn M (.str x) := ⟨_, .str x⟩
theorem kn_non : Kn M .non := ⟨_, .non⟩
theorem kn_bl {b : Bool} : Kn M (.bl b) := ⟨_, .bl b⟩
theorem kn_ints {ns : List Int} : ∀ e ∈ ns.map D.int, Kn M e := fun e he => by
  obtain ⟨n, _, rfl⟩ := List.mem_map.mp he
  exact kn_int
theorem kn_strs {ns : List Str} : ∀ e ∈ ns.map D.str, Kn M e := fun e he => by
  obtain ⟨n, _, rfl⟩ := List.mem_map.mp he
  exact kn_str
/-! ### a tuple of texts that the module names -/
structure TupS (K : PySem.W.Frag) (mg : Str → Option Value) (x : Str) (ss : List Str) : Prop where
  ex : ∃ (a : Addr) (o : Obj) (its : Array Value) (n : Nat), mg x = some (.ref a) ∧ K.lookup a = some o ∧ o.cls = .type "tuple" ∧ o.data = .seq its n ∧ its.size ≤ sizeLine ∧ Vals (ss.map V.str) its.toList
def strsB : List Str → List Value → Bool
  | [], [] => true
  | s :: ss, .str x _ :: vs => decide (s = x) && strsB ss vs
  | _, _ => false
theorem strsB_ok : ∀ {ss : List Str} {vs : List Value}, strsB ss vs = true → Vals (ss.map V.str) vs
  | [], [], _ => .nil
  | [], _ :: _, h => by cases h
  | _ :: _, [], h => by cases h
  | s :: ss, v :: vs, h => by
    cases v with
    | str x t =>
      simp only [strsB, Bool.and_eq_true, decide_eq_true_eq] at h
      obtain ⟨rfl, h⟩ := h
      exact .cons ⟨t, rfl⟩ (strsB_ok h)
    | _ => cases h
def tupB (K : PySem.W.Frag) (a : Addr) (ss : List Str) : Bool := match K.lookup a with
  | some ⟨.type "tuple", _, .seq its _, _⟩ => decide (its.size ≤ sizeLine) && strsB ss its.toList
  | _ => false
theorem tupB_ok {a : Addr} {x : Str} {ss : List Str} (hm : mg x = some (.ref a)) (h : tupB K a ss = true) : TupS K mg x ss := by
  unfold tupB at h
  split at h
  · rename_i e
    simp only [Bool.and_eq_true, decide_eq_true_eq] at h
    exact ⟨a, _, _, _, hm, e, rfl, rfl, h.1, strsB_ok h.2⟩
  · cases h
theorem we_gT (C : Cxt X N sc P w K mg base k0) {x : Str} {ss : List Str} {pos : Pos} {Q : QE} (hg : x ∈ sc.g) (hm : TupS K mg x ss) (q : Q (.tup (ss.map D.str)) M) : WE X (.Name x pos) ρ M Q := by
  obtain ⟨a, o, its, n, h1, h2, h3, h4, h5, h6⟩ := hm.ex
  exact we_glob C hg h1 (v := .ref a) rfl (fun H => den_tup.mpr ⟨a, _, rfl, .inr ⟨o, its, n, h2, h3, h4, h5, h6⟩, denL_strs _⟩) q
/-- targets of a list -/
theorem wg_unl (C : Cxt X N sc P w K mg base k0) {es : List Expr} {k : Nat} {pos : Pos} {p : Addr} {ds : List D} {Q : St2 → Mem → Prop} (e : M p = some (.lst ds)) (h1 : (assignEach es X.env).length = ds.length) (h2 : List.findIdx? (fun x => x.1) (assignEach es X.env) = none) (h : WGs X es ds ρ M Q) (hh : sc.hot = false := by first | k_dflt rfl | assumption) : WG X (.Tuple es k pos) (.obj p) ρ M Q := fun v σ H r dn => by
  obtain ⟨xs, hx, l⟩ := r.rep.lst e
  exact cG_of (pg_unl (C.calm hh) pgsC h1 h2) ⟨p, xs, den_obj.mp dn, .inl (.inl hx), l.length, h xs σ H r l⟩
/-! ### o[i], u[j] = a, b -/
theorem sw_sub2 {o i o2 i2 : Expr} {p p2 pt pt2 : Pos} {k1 k2 : _} {vs : List Expr} {env : Env} : swappedStores [.Tuple [.Subscript o i p, .Subscript o2 i2 p2] k1 pt] (.Tuple vs k2 pt2) env = pure none := by
  unfold swappedStores
  by_cases h1 : env.blockKind = .function <;> simp [h1, Expr.pos]
theorem ws_asgSS {o i o2 i2 : Expr} {p p2 pt pt2 : Pos} {k1 k2 : _} {vs : List Expr} {pos : Pos} {E : Ends2} (h1 : swapsWithSole [.Tuple [.Subscript o i p, .Subscript o2 i2 p2] k1 pt] (.Tuple vs k2 pt2) pos.line X.env = pure false) (h3 : List.map (fun x => x.2) (assignEach [.Tuple [.Subscript o i p, .Subscript o2 i2 p2] k1 pt] X.env) = [assign (.Tuple [.Subscript o i p, .Subscript o2 i2 p2] k1 pt) X.env])
    (h : WE X (.Tuple vs k2 pt2) ρ M fun d M1 => WG X (.Tuple [.Subscript o i p, .Subscript o2 i2 p2] k1 pt) d ρ M1 E.nx) : WS X (.Assign [.Tuple [.Subscript o i p, .Subscript o2 i2 p2] k1 pt] (.Tuple vs k2 pt2) pos) E ρ M := ws_asg h1 sw_sub2 h3 h
end
end Y

set_option Elab.async false
set_option linter.all false
set_option autoImplicit false
set_option maxRecDepth 100000
set_option maxHeartbeats 4000000
/-! own classes: instances made, attributes read and stored, methods, properties, len, ==, isinstance -/
namespace Y
open PySem PySem.Spec PyProof.Rows L2

/-- where the class lies that the module names n -/
def cad (K : PySem.W.Frag) (n : Str) : Addr := match PySem.W.nsIn K mainGlobals n with
  | some (some (.ref C)) => C
  | _ => 0
theorem cad_of {K : PySem.W.Frag} {n : Str} {C : Addr} (h : PySem.W.nsIn K mainGlobals n = some (some (.ref C))) : cad K n = C := by unfold cad; rw [h]
def putFD (f : Str) (d : D) : List (Str × D) → List (Str × D)
  | [] => [(f, d)]
  | (g, x) :: r => if g = f then (g, d) :: r else (g, x) :: putFD f d r
section
variable {K : PySem.W.Frag} {H : Hp} {f : Str} {d : D} {v : V}
theorem FVs.put (dn : Den K H d v) : ∀ {fs : List (Str × D)} {gs : List (Str × V)}, FVs K H fs gs → FVs K H (putFD f d fs) (putF f v gs) := by
  intro fs gs r
  induction r with
  | nil => exact .cons ⟨rfl, dn⟩ .nil
  | @cons p q ps qs a b ih =>
    obtain ⟨g, x⟩ := p
    obtain ⟨g', y⟩ := q
    obtain ⟨rfl, a⟩ := a
    show FVs K H (if g = f then (g, d) :: ps else (g, x) :: putFD f d ps) (if g = f then (g, v) :: qs else (g, y) :: putF f v qs)
    by_cases c : g = f
    · rw [if_pos c, if_pos c]; exact .cons ⟨rfl, dn⟩ b
    · rw [if_neg c, if_neg c]; exact .cons ⟨rfl, a⟩ ih
theorem FVs.look : ∀ {fs : List (Str × D)} {gs : List (Str × V)}, FVs K H fs gs → fs.lookup f = some d → ∃ v, gs.lookup f = some v ∧ Den K H d v := by
  intro fs gs r
  induction r with
  | nil => intro h; cases h
  | @cons p q ps qs a b ih =>
    obtain ⟨g, x⟩ := p
    obtain ⟨g', y⟩ := q
    obtain ⟨rfl, a⟩ := a
    intro h
    rw [List.lookup_cons] at h ⊢
    cases c : f == g with
    | true => rw [c] at h; cases h; exact ⟨y, rfl, a⟩
    | false => rw [c] at h; exact ih h
theorem FVs.look0 : ∀ {fs : List (Str × D)} {gs : List (Str × V)}, FVs K H fs gs → fs.lookup f = none → gs.lookup f = none := by
  intro fs gs r
  induction r with
  | nil => intro _; rfl
  | @cons p q ps qs a b ih =>
    obtain ⟨g, x⟩ := p
    obtain ⟨g', y⟩ := q
    obtain ⟨rfl, a⟩ := a
    intro h
    rw [List.lookup_cons] at h ⊢
    cases c : f == g with
    | true => rw [c] at h; cases h
    | false => rw [c] at h; exact ih h
theorem FVs.length {fs : List (Str × D)} {gs : List (Str × V)} (r : FVs K H fs gs) : fs.length = gs.length := Paired.length r
end

/-! ### what the written part says of a class -/
structure ClsF (K : PySem.W.Frag) (n : Str) (ks : List Str) : Prop where
  at_ : PySem.W.nsIn K mainGlobals n = some (some (.ref (cad K n)))
  cl : Cls K (cad K n)
  na : ∀ k ∈ ks, NoAttr K (cad K n) k
def clsB (K : PySem.W.Frag) (C : Addr) (ks : List Str) : Bool := PySem.W.plainGet K C Str.empty && (PySem.W.hasDictIn K C && (PySem.W.plainOver K C && (decide (PySem.W.findIn K (.ref C) "__setattr__" = some (some (.builtin "object.__setattr__"))) && ks.all fun k => decide (PySem.W.findIn K (.ref C) k = some none))))
theorem clsB_ok {K : PySem.W.Frag} {n : Str} {C : Addr} {ks : List Str} (e : PySem.W.nsIn K mainGlobals n = some (some (.ref C))) (h : clsB K C ks = true) : ClsF K n ks := by
  have ec := cad_of e
  unfold clsB at h
  simp only [Bool.and_eq_true, decide_eq_true_eq, List.all_eq_true] at h
  obtain ⟨a, b, c, d, f⟩ := h
  exact ⟨by rw [ec]; exact e, by rw [ec]; exact ⟨a, b, c, d⟩, fun k hk => by rw [ec]; exact f k hk⟩
def insB (K : PySem.W.Frag) (C : Addr) : Bool := decide (PySem.W.findIn K (.ref C) "__class__" = some (some (.builtin "object.__class__"))) && (decide (PySem.W.specialIn K (.builtin "object.__class__") "__get__" = some (some (.builtin "getset_descriptor.__get__"))) && (decide (PySem.W.takesIn K (.builtin "object.__class__") = some true) && (decide (PySem.W.mroIn K C (.type "object") = some true) && decide (PySem.W.kitOne K (.ref C) (.ref C) = some true))))
theorem insB_ok {K : PySem.W.Frag} {C : Addr} (c : Cls K C) (h : insB K C = true) : C8.InsC K C := by
  unfold insB at h
  simp only [Bool.and_eq_true, decide_eq_true_eq] at h
  obtain ⟨a, b, d, e, f⟩ := h
  exact ⟨c, a, b, d, e, f⟩
section
variable {P : Program} {w : World} {K : PySem.W.Frag} {mg : Str → Option Value} {base : Heap}
/-- a method as callers know it -/
structure Met2 (P : Program) (w : World) (K : PySem.W.Frag) (mg : Str → Option Value) (base : Heap) (k : Nat) (n m : Str) (ps : List Str) (sp : Sp2) : Prop where
  ex : ∃ f fd, Cls K (cad K n) ∧ Meth K (cad K n) m f ∧ Binds K fd ps [] ∧ Fn2 P w K mg base k f fd ps sp
/-- a property -/
structure Prp2 (P : Program) (w : World) (K : PySem.W.Frag) (mg : Str → Option Value) (base : Heap) (k : Nat) (n m : Str) (ps : List Str) (sp : Sp2) : Prop where
  ex : ∃ p f fd, Cls K (cad K n) ∧ PropOf K (cad K n) m p f ∧ Binds K fd ps [] ∧ Fn2 P w K mg base k f fd ps sp
/-- __init__ -/
structure Mak2 (P : Program) (w : World) (K : PySem.W.Frag) (mg : Str → Option Value) (base : Heap) (k : Nat) (n : Str) (ps : List Str) (sp : Sp2) : Prop where
  ex : ∃ f fd, mg n = some (.ref (cad K n)) ∧ Mk K (cad K n) f ∧ Binds K fd ps [] ∧ Fn2 P w K mg base k f fd ps sp
end

section
variable {X : Cx} {ρ : St2} {M : Mem} {N : List Str} {sc : Nms} {P : Program} {w : World} {K : PySem.W.Frag} {mg : Str → Option Value} {base : Heap} {k0 : Nat}
/-- the callee runs -/
theorem run2 {A : Around} {k : Nat} {f : Addr} {fd : FuncData} {ps : List Str} {sp : Sp2} {pins : List (Addr × Obj)} {σ σ2 : L2.St} {s1 : Shared} {H1 : Hp} {us : List Value} {vs : List V} {ds : List D} {M1 : Mem} {Q : QE} {E : XQ} {Er : Value → Shared → Prop}
    (F : Fn2 X.prog X.w X.K X.mg X.base k f fd ps sp) (hb : Binds X.K fd ps []) (hr : Room k A) (hg : A.guards = some []) (I1 : Inv X pins σ H1 s1) (e0 : Env0 X.prog X.w X.K X.mg X.base A X.stack s1 H1) (rv : Vals vs us) (dn : DenL X.K H1 ds vs) (r1 : R X.K ρ M1 σ2 H1) (q : sp ds M1 Q E)
    (hx : ∀ e s', L2.CX X.prog X.w X.stack H1 s1 (XL X.K H1 E) e s' → Er e s') :
    codeAny (model X.prog X.w) A (.call (.ref f) ⟨us, []⟩) (fun r s' => match r with
      | .ok (.ret u) => EP X pins σ (fun v H' => ∃ d M', Den X.K H' d v ∧ R X.K ρ M' σ2 H' ∧ TK X.K H1 H' ∧ Q d M') u s'
      | .ok _ => False
      | .error e => Er e s') s1 := by
  have hl : us.length = ps.length := by rw [← rv.length, dn.length]; exact F.len _ _ _ _ q
  have hb' := hb s1 us I1.kIn (by simpa using hl)
  rw [List.append_nil] at hb'
  refine codeAny_mono (F.run A X.stack s1 H1 ⟨us, []⟩ us vs ds M1 Q E hr hg e0 hb' rv dn r1.rep q) fun r s' hq => ?_
  cases r with
  | error e => exact hx e s' hq
  | ok fl =>
    cases fl with
    | ret u =>
      obtain ⟨v, H', os, bare, un, hok, rv', d, M', dn', rp', tk', qq⟩ := hq
      exact I1.after ⟨v, H', os, bare, un, hok, rv', d, M', dn', ⟨r1.env.mono tk', rp'⟩, tk', qq⟩
    | next => exact hq.elim
    | brk => exact hq.elim
    | cont => exact hq.elim
/-- an attribute of an instance, read -/
def fldI (K : PySem.W.Frag) (f : Str) (d : D) (M : Mem) (Q : QE) : Prop := ∃ a n ks fs v, d = .obj a ∧ M a = some (.ins (cad K n) fs) ∧ ClsF K n ks ∧ f ∈ ks ∧ fs.lookup f = some v ∧ Q v M
theorem q_fldI {f n : Str} {ks : List Str} {a : Addr} {fs : List (Str × D)} {v : D} {Q : QE} (c : ClsF K n ks) (hk : f ∈ ks) (e : M a = some (.ins (cad K n) fs)) (l : fs.lookup f = some v) (q : Q v M) : fldI K f (.obj a) M Q := ⟨a, n, ks, fs, v, rfl, e, c, hk, l, q⟩
theorem we_fldI (C : Cxt X N sc P w K mg base k0) {e : Expr} {f : Str} {pos : Pos} {Q : QE} (hb : attributeBase e f X.env (eval e X.env) = eval e X.env) (h : WE X e ρ M fun d M1 => fldI K f d M1 Q) : WE X (.Attribute e f pos) ρ M Q := fun σ H r => by
  obtain rfl := C.hK
  refine cE_of (pe_fld peC hb) ?_
  refine cE_mono ?_ (h σ H r)
  rintro v H1 ⟨d, M1, dn, r1, t1, a, n, ks, fs, x, rfl, e0, c, hk, l, q⟩
  obtain ⟨dx, gs, hy, ly⟩ := r1.rep a _ e0
  obtain ⟨y, ey, dy⟩ := ly.look l
  rw [den_obj.mp dn]
  exact ⟨a, _, dx, gs, y, rfl, hy, c.cl, c.na f hk, ey, x, M1, dy, r1, t1, q⟩
structure FMk (f : Str) : Prop where
theorem q_itT {ds : List D} {R : List D → Prop} (q : R ds) : ∃ ds', itemsOf M (.tup ds) = some ds' ∧ R ds' := ⟨ds, rfl, q⟩
theorem we_fldIm (C : Cxt X N sc P w K mg base k0) {e : Expr} {f : Str} {pos : Pos} {Q : QE} (_ : FMk f) (hb : attributeBase e f X.env (eval e X.env) = eval e X.env) (h : WE X e ρ M fun d M1 => fldI K f d M1 Q) : WE X (.Attribute e f pos) ρ M Q := we_fldI C hb h
theorem q_exIns {n m : Str} {a : Addr} {fs : List (Str × D)} {R : Addr → Prop} (e : M a = some (.ins (cad K n) fs)) (l : fs.lookup m = none) (q : R a) : ∃ a' fs, D.obj a = .obj a' ∧ M a' = some (.ins (cad K n) fs) ∧ fs.lookup m = none ∧ R a' := ⟨a, fs, rfl, e, l, q⟩
theorem q_exPrp {n : Str} {a : Addr} {fs : List (Str × D)} {R : Addr → Prop} (e : M a = some (.ins (cad K n) fs)) (q : R a) : ∃ a' fs, D.obj a = .obj a' ∧ M a' = some (.ins (cad K n) fs) ∧ R a' := ⟨a, fs, rfl, e, q⟩
theorem q_stF {f n : Str} {ks : List Str} {a : Addr} {fs : List (Str × D)} {d : D} {R : Mem → Prop} (c : ClsF K n ks) (hk : f ∈ ks) (e : M a = some (.ins (cad K n) fs)) (l : fs.length < 1000) (q : R (mup M a (.ins (cad K n) (putFD f d fs)))) : ∃ a' n ks fs, D.obj a = .obj a' ∧ M a' = some (.ins (cad K n) fs) ∧ ClsF K n ks ∧ f ∈ ks ∧ fs.length < 1000 ∧ R (mup M a' (.ins (cad K n) (putFD f d fs))) := ⟨a, n, ks, fs, rfl, e, c, hk, l, q⟩
/-- o.f = e -/
theorem ws_fldI (C : Cxt X N sc P w K mg base k0) {o e : Expr} {f : Str} {pos pos' : Pos} {E : Ends2} (hs : swapsWith e (some (.Attribute o f pos')) pos.line X.env = pure false)
    (h : WE X e ρ M fun d M1 => WE X o ρ M1 fun d1 M2 => ∃ a n ks fs, d1 = .obj a ∧ M2 a = some (.ins (cad K n) fs) ∧ ClsF K n ks ∧ f ∈ ks ∧ fs.length < 1000 ∧ E.nx ρ (mup M2 a (.ins (cad K n) (putFD f d fs)))) : WS X (.Assign [.Attribute o f pos'] e pos) E ρ M := fun σ H r => by
  obtain rfl := C.hK
  refine cS_of (ps_fld peC peC hs) ?_
  refine cE_mono ?_ (h σ H r)
  rintro v H1 ⟨d, M1, dn, r1, t1, q1⟩
  refine cE_mono ?_ (q1 σ H1 r1)
  rintro x H2 ⟨d1, M2, dn1, r2, t2, a, n, ks, fs, rfl, ea, c, hk, hz, q⟩
  obtain ⟨dx, gs, hv, kv⟩ := r2.rep a _ ea
  rw [den_obj.mp dn1]
  have tk := TK.ins (K := X.K) (o := .ins (cad X.K n) dx (putF f v gs)) hv
  refine ⟨a, _, dx, gs, rfl, hv, c.cl, c.na f hk, by rw [← kv.length]; exact hz, ρ, _, r2.put (m := .ins (cad X.K n) (putFD f d fs)) tk ⟨dx, _, upd_same, (kv.put (dn.mono t2)).mono tk⟩, (t1.trans t2).trans tk, q⟩
/-- o.m(e, ..) -/
theorem we_meth (C : Cxt X N sc P w K mg base k0) {o e : Expr} {es : List Expr} {n m : Str} {apos pos : Pos} {k : Nat} {ps : List Str} {sp : Sp2} {Q : QE} {pl : Sem Bool} (G : Met2 P w K mg base k n m ps sp) (hk : k ≤ k0)
    (hst : starEach (e :: es) X.env = (false, eval e X.env) :: starEach es X.env) (hpl : ∀ pos, (backTo pos (starEach es X.env)).any (·.1) = false)
    (ht : eval (.Call (.Attribute o m apos) (e :: es) [] pos) X.env = (do
      let ov ← eval o X.env
      standAt apos.atName
      let (f, first) ← holding [ov] (getMethod ov m pl)
      callWith pos f first (backTo pos (starEach (e :: es) X.env)) (backToKw pos (keywordEach [] X.env))))
    (h : WE X o ρ M fun d M1 => ∃ a fs, d = .obj a ∧ M1 a = some (.ins (cad K n) fs) ∧ fs.lookup m = none ∧ WA X (e :: es) ρ M1 fun ds M2 => sp (.obj a :: ds) M2 Q fun _ _ _ _ => False) (hh : sc.hot = false := by first | k_dflt rfl | assumption) : WE X (.Call (.Attribute o m apos) (e :: es) [] pos) ρ M Q := fun σ H rr pins s I => by
  obtain rfl := C.hP
  obtain rfl := C.hw
  obtain rfl := C.hK
  obtain rfl := C.hmg
  obtain rfl := C.hbase
  obtain ⟨f, fd, c, hm, hb, F⟩ := G.ex
  refine PySem.W.methodCall_KW (pl := pl) (thn (h σ H rr pins s I) fun u s1 hh1 => ?_) ht
  obtain ⟨x, H1, I1, rx, d, M1, dn, r1, t1, a, fs, rfl, e0, l, q1⟩ := hh1
  obtain ⟨dx, gs, hy, ly⟩ := r1.rep a _ e0
  rw [den_obj.mp dn] at rx
  obtain rfl : u = Value.ref a := rx
  refine getmeth_ok I1 hy c hm (ly.look0 l) ?_
  refine PySem.W.callWith_K (first := [.ref a]) (h₀ := X.base) I.ok.mod.kin hm.kp (thn (q1 σ H1 r1 pos pins s1 I1) ?_) hst (hpl pos)
  rintro us s2 ⟨vs, H2, I2, rv, ds, M2, dn2, r2, t2, q⟩
  refine ⟨I2.kIn, ?_⟩
  refine wpAny_call (codeAny_mono (run2 (Er := fun _ _ => False) F hb ((C.room hh).mono hk) C.gd I2 I2.env0 (us := .ref a :: us) (vs := .ref a :: vs) (.cons rfl rv) (DenL.cons (den_obj.mpr rfl) dn2) r2 q fun e s' z => (cx_no z).elim) fun r s' hq => ?_)
  cases r with
  | error e => exact (show False from hq).elim
  | ok fl =>
    cases fl with
    | ret u =>
      obtain ⟨v, H', I3, rv', d, M', a1, a2, a3, a4⟩ := hq
      exact ⟨v, H', I3, rv', d, M', a1, a2, (t1.trans t2).trans a3, a4⟩
    | next => exact hq.elim
    | brk => exact hq.elim
    | cont => exact hq.elim
theorem we_meth0 (C : Cxt X N sc P w K mg base k0) {o : Expr} {n m : Str} {apos pos : Pos} {k : Nat} {ps : List Str} {sp : Sp2} {Q : QE} {pl : Sem Bool} (G : Met2 P w K mg base k n m ps sp) (hk : k ≤ k0)
    (ht : eval (.Call (.Attribute o m apos) [] [] pos) X.env = (do
      let ov ← eval o X.env
      standAt apos.atName
      let (f, first) ← holding [ov] (getMethod ov m pl)
      callWith pos f first (backTo pos (starEach [] X.env)) (backToKw pos (keywordEach [] X.env))))
    (h : WE X o ρ M fun d M1 => ∃ a fs, d = .obj a ∧ M1 a = some (.ins (cad K n) fs) ∧ fs.lookup m = none ∧ sp [.obj a] M1 Q fun _ _ _ _ => False) (hh : sc.hot = false := by first | k_dflt rfl | assumption) : WE X (.Call (.Attribute o m apos) [] [] pos) ρ M Q := fun σ H rr pins s I => by
  obtain rfl := C.hP
  obtain rfl := C.hw
  obtain rfl := C.hK
  obtain rfl := C.hmg
  obtain rfl := C.hbase
  obtain ⟨f, fd, c, hm, hb, F⟩ := G.ex
  refine PySem.W.methodCall_KW (pl := pl) (thn (h σ H rr pins s I) fun u s1 hh1 => ?_) ht
  obtain ⟨x, H1, I1, rx, d, M1, dn, r1, t1, a, fs, rfl, e0, l, q⟩ := hh1
  obtain ⟨dx, gs, hy, ly⟩ := r1.rep a _ e0
  rw [den_obj.mp dn] at rx
  obtain rfl : u = Value.ref a := rx
  refine getmeth_ok I1 hy c hm (ly.look0 l) ?_
  refine PySem.W.callWith_K0 (first := [.ref a]) I1.kIn hm.kp ?_
  refine wpAny_call (codeAny_mono (run2 (Er := fun _ _ => False) F hb ((C.room hh).mono hk) C.gd I1 I1.env0 (us := [.ref a]) (vs := [.ref a]) (.cons rfl .nil) (DenL.cons (den_obj.mpr rfl) DenL.nil) r1 q fun e s' z => (cx_no z).elim) fun r s' hq => ?_)
  cases r with
  | error e => exact (show False from hq).elim
  | ok fl =>
    cases fl with
    | ret u =>
      obtain ⟨v, H', I3, rv', d, M', a1, a2, a3, a4⟩ := hq
      exact ⟨v, H', I3, rv', d, M', a1, a2, t1.trans a3, a4⟩
    | next => exact hq.elim
    | brk => exact hq.elim
    | cont => exact hq.elim
/-- e.f, a property -/
theorem we_prop (C : Cxt X N sc P w K mg base k0) {e : Expr} {n f : Str} {pos : Pos} {k : Nat} {ps : List Str} {sp : Sp2} {Q : QE} (G : Prp2 P w K mg base k n f ps sp) (hk : k + 1 ≤ k0) (hab : attributeBase e f X.env (eval e X.env) = eval e X.env)
    (h : WE X e ρ M fun d M1 => ∃ a fs, d = .obj a ∧ M1 a = some (.ins (cad K n) fs) ∧ sp [.obj a] M1 Q fun _ _ _ _ => False) (hh : sc.hot = false := by first | k_dflt rfl | assumption) : WE X (.Attribute e f pos) ρ M Q := fun σ H rr pins s I => by
  obtain rfl := C.hP
  obtain rfl := C.hw
  obtain rfl := C.hK
  obtain rfl := C.hmg
  obtain rfl := C.hbase
  obtain ⟨p, g, fd, c, hp, hb, F⟩ := G.ex
  refine attr_of hab (thn (h σ H rr pins s I) fun u s1 hh1 => ?_)
  obtain ⟨x, H1, I1, rx, d, M1, dn, r1, t1, a, fs, rfl, e0, q⟩ := hh1
  obtain ⟨dx, gs, hy, ly⟩ := r1.rep a _ e0
  rw [den_obj.mp dn] at rx
  obtain rfl : u = Value.ref a := rx
  obtain ⟨mA, O, _, _, _, _⟩ := ins_get I1.hok hy
  obtain ⟨od, J, _⟩ := O.look
  obtain ⟨rest, hrec⟩ := hp.rec_
  have I2 := I1.tok (s1.toks + 1)
  have hc : (PySem.W.clsIn X.K (cad X.K n)).isSome = true := by
    obtain ⟨cd, hc, _⟩ := PySem.W.any_some c.hd
    rw [hc]
    rfl
  refine PySem.W.get_bind I1.kIn J (PySem.W.plainGet_of (c.get f)).1 (PySem.W.findObj_data hc hp.at_ hp.get hp.tak) (PySem.W.plainGet_of (c.get f)).2 (wpAny_call (PySem.W.prop_get (s := { s1 with toks := s1.toks + 1 }) I1.kIn hrec ?_))
  refine codeAny_mono (run2 (Er := fun _ _ => False) F hb (((C.room hh).mono hk).in1) C.gd I2 I2.env0.in1 (us := [.ref a]) (vs := [.ref a]) (.cons rfl .nil) (DenL.cons (den_obj.mpr rfl) DenL.nil) r1 q fun e s' z => (cx_no z).elim) fun r s' hq => ?_
  cases r with
  | error e => exact (show False from hq).elim
  | ok fl =>
    cases fl with
    | ret u =>
      obtain ⟨v, H', I3, rv', d, M', a1, a2, a3, a4⟩ := hq
      show wpAny _ _ (handedOut u) _ _ _
      rw [PySem.W.handedOut_of (handed_of rv')]
      exact wpAny_pure ⟨v, H', I3, rv', d, M', a1, a2, t1.trans a3, a4⟩
    | next => exact hq.elim
    | brk => exact hq.elim
    | cont => exact hq.elim
/-- C(e, ..): a new instance -/
theorem we_make (C : Cxt X N sc P w K mg base k0) {x : Str} {p pos : Pos} {e : Expr} {es : List Expr} {k : Nat} {ps : List Str} {sp : Sp2} {Q : QE} (G : Mak2 P w K mg base k x ps sp) (hk : k + 1 ≤ k0) (hg : (x : Str) ∈ sc.g)
    (hs : starEach (e :: es) X.env = (false, eval e X.env) :: starEach es X.env) (hn : ∀ pos, (backTo pos (starEach es X.env)).any (·.1) = false)
    (h : WA X (e :: es) ρ M fun ds M1 => ∀ a, M1 a = none → sp (.obj a :: ds) (mup M1 a (.ins (cad K x) [])) (fun d M2 => d = .non ∧ Q (.obj a) M2) fun _ _ _ _ => False) (hh : sc.hot = false := by first | k_dflt rfl | assumption) : WE X (.Call (.Name x p) (e :: es) [] pos) ρ M Q := fun σ H rr pins s I => by
  obtain rfl := C.hP
  obtain rfl := C.hw
  obtain rfl := C.hK
  obtain rfl := C.hmg
  obtain rfl := C.hbase
  obtain ⟨f, fd, hm, MK, hb, F⟩ := G.ex
  refine wpAny_Call_Name_kw (ld_glob I (C.gl x hg).1 hm (PySem.W.callWith_K (h₀ := X.base) I.ok.mod.kin MK.kp (thn (h σ H rr pos pins s I) ?_) hs (hn pos)) (C.gl _ hg).2.1)
  rintro us s1 ⟨vs, H1, I1, rv, ds, M1, dn, r1, t1, q⟩
  refine ⟨I1.kIn, ?_⟩
  have f1 : H1 s1.heap.objs.size = none := I1.hok.fresh (Nat.le_refl _)
  have f2 : H1 (s1.heap.objs.size + 1) = none := I1.hok.fresh (Nat.le_succ _)
  have ne : s1.heap.objs.size ≠ s1.heap.objs.size + 1 := Nat.ne_of_lt (Nat.lt_succ_self _)
  have I2 := Inv.made (C := cad X.K x) I1
  have q2 := q (s1.heap.objs.size + 1) (r1.rep.free f2)
  have k1 : TK X.K H1 (upd H1 s1.heap.objs.size (.own (s1.heap.objs.size + 1))) := TK.fresh f1
  have f3 : upd H1 s1.heap.objs.size (.own (s1.heap.objs.size + 1)) (s1.heap.objs.size + 1) = none := by rw [upd_ne ne.symm]; exact f2
  have k2 : TK X.K (upd H1 s1.heap.objs.size (.own (s1.heap.objs.size + 1))) (upd (upd H1 s1.heap.objs.size (.own (s1.heap.objs.size + 1))) (s1.heap.objs.size + 1) (.ins (cad X.K x) s1.heap.objs.size [])) := TK.fresh f3
  have rep2 : Rep X.K (upd (upd H1 s1.heap.objs.size (.own (s1.heap.objs.size + 1))) (s1.heap.objs.size + 1) (.ins (cad X.K x) s1.heap.objs.size [])) (mup M1 (s1.heap.objs.size + 1) (.ins (cad X.K x) [])) :=
    (r1.rep.tup f1).put k2 ⟨_, [], upd_same, .nil⟩ (NoX.none f3)
  have r2 : R X.K ρ (mup M1 (s1.heap.objs.size + 1) (.ins (cad X.K x) [])) σ (upd (upd H1 s1.heap.objs.size (.own (s1.heap.objs.size + 1))) (s1.heap.objs.size + 1) (.ins (cad X.K x) s1.heap.objs.size [])) := ⟨r1.env.mono (k1.trans k2), rep2⟩
  refine wpAny_call (make_map (f := f) I1.kIn MK.makes MK.init (beq_iff_eq.mp MK.fn) (codeAny_mono (run2 (Er := fun _ _ => False) F hb (((C.room hh).mono hk).make (cad X.K x) us []) (by first | exact C.gd | (simpa [Around.under, Code.isGuard, guardIds] using C.gd)) I2 (I2.env0.make (cad X.K x) us []) (us := .ref (s1.heap.objs.size + 1) :: us) (vs := .ref (s1.heap.objs.size + 1) :: vs) (.cons rfl rv) (DenL.cons (den_obj.mpr rfl) (dn.mono (k1.trans k2))) r2 q2 fun e s' z => (cx_no z).elim) fun r s' hq => ?_))
  cases r with
  | error e => exact (show False from hq).elim
  | ok fl =>
    cases fl with
    | ret u =>
      obtain ⟨v, H', I3, rv', d, M', a1, a2, a3, rfl, a4⟩ := hq
      have ev := den_non.mp a1
      subst ev
      exact ⟨rv', V.ref (s1.heap.objs.size + 1), H', I3, rfl, .obj (s1.heap.objs.size + 1), M', den_obj.mpr rfl, a2, ((t1.trans k1).trans k2).trans a3, a4⟩
    | next => exact hq.elim
    | brk => exact hq.elim
    | cont => exact hq.elim
/-- len(e), e an instance with a __len__ of its own, or a list, tuple, text -/
def rLenI (X : Cx) (f C : Addr) : List V → Hp → VK → Prop := fun xs H Q => ∃ a dx fs, xs = [.ref a] ∧ H a = some (.ins C dx fs) ∧ ∀ pins σ s, Inv X pins σ H s → wpAny (model X.prog X.w) X.A.in1 (call (.ref f) [.ref a]) (EP X pins σ fun v H' => (∃ i : Int, v = .int i ∧ 0 ≤ i ∧ i < 2 ^ 63) ∧ Q v H') X.xe s
theorem call_lenI {f C : Addr} (hs : PySem.W.findIn X.K (.ref C) "__len__" = some (some (.ref f))) (hf : PySem.W.isFn X.K (.ref f) = true) : CallR X (.builtin "len") (rLenI X f C) := by
  intro pins s σ H xs us Q I rv ⟨a, dx, fs, e1, ea, q⟩
  subst e1
  cases rv with
  | cons r1 rr =>
    cases rr
    obtain rfl := (show _ = Value.ref a from r1)
    obtain ⟨mA, O, _, _, _, _⟩ := ins_get I.hok ea
    obtain ⟨od, J, _⟩ := O.look
    obtain ⟨m, hF⟩ := I.fr
    refine PySem.W.len_K hF I.ok.mod.kin J hs hf (wpAny_mono (q pins σ s I) (fun u s' z => ?_) fun _ _ z => z)
    obtain ⟨v, H', I', rv, ⟨i, rfl, h0, h1⟩, q'⟩ := z
    obtain ⟨t, rfl⟩ := (show ∃ t, u = Value.int i t from rv)
    exact ⟨⟨h0, h1⟩, .int i, H', I'.tok _, ⟨_, rfl⟩, q'⟩
def lenU (K : PySem.W.Frag) (n : Str) (sp : Sp2) (d : D) (M : Mem) (Q : QE) : Prop := len2 [d] M Q ∨ ∃ a fs, d = .obj a ∧ M a = some (.ins (cad K n) fs) ∧ sp [.obj a] M (fun d' M2 => ∃ i : Int, d' = .int i ∧ 0 ≤ i ∧ i < 2 ^ 63 ∧ Q (.int i) M2) fun _ _ _ _ => False
theorem q_lenUI {n : Str} {sp : Sp2} {a : Addr} {fs : List (Str × D)} {Q : QE} (e : M a = some (.ins (cad K n) fs)) (q : sp [.obj a] M (fun d' M2 => ∃ i : Int, d' = .int i ∧ 0 ≤ i ∧ i < 2 ^ 63 ∧ Q (.int i) M2) fun _ _ _ _ => False) : lenU K n sp (.obj a) M Q := .inr ⟨a, fs, rfl, e, q⟩
theorem q_lenUL {n : Str} {sp : Sp2} {d : D} {ds : List D} {Q : QE} (e : itemsOf M d = some ds) (q : Q (.int (ds.length : Nat)) M) : lenU K n sp d M Q := .inl (.inl ⟨d, ds, rfl, e, q⟩)
theorem wc_lenU (C : Cxt X N sc P w K mg base k0) {e : Expr} {p pos : Pos} {n : Str} {k : Nat} {ps : List Str} {sp : Sp2} {Q : QE} (G : Met2 P w K mg base k n "__len__" ps sp) (hk : k + 1 ≤ k0) (hg : ("len" : Str) ∈ sc.g) (hm : mg "len" = none) (hs : starEach [e] X.env = [(false, eval e X.env)]) (h : WE X e ρ M fun d M1 => lenU K n sp d M1 Q) (hh : sc.hot = false := by first | k_dflt rfl | assumption) : WE X (.Call (.Name "len" p) [e] [] pos) ρ M Q := fun σ H rr => by
  obtain rfl := C.hP
  obtain rfl := C.hw
  obtain rfl := C.hK
  obtain rfl := C.hmg
  obtain rfl := C.hbase
  obtain ⟨f, fd, c, hmt, hb, F⟩ := G.ex
  refine cE_of (pe_callB (cr_or (cr_or call_len_seq call_len_str) (call_lenI hmt.at_ hmt.fn)) (C.gl _ hg).1 hm (by first | exact PySem.boot_len | exact PyProof.Rows.boot_len) paC (C.gl _ hg).2.2 (C.gl _ hg).2.1 hs rfl) ?_
  refine cA_mono ?_ (wa_one (Q := fun ds M1 => ∃ d, ds = [d] ∧ lenU X.K n sp d M1 Q) hs (WE.mono (fun d M1 z => ⟨d, rfl, z⟩) h) σ H rr)
  rintro vs H1 ⟨ds, M1, dn, r1, t1, d, rfl, q⟩
  rcases q with q | ⟨a, fs, rfl, e0, q⟩
  · exact .inl (cl_len _ _ H1 ρ σ M1 H Q dn r1 t1 q)
  · obtain ⟨v, rfl, dv⟩ := one_arg (ds := []) dn
    obtain ⟨dx, gs, hy, ly⟩ := r1.rep a _ e0
    rw [den_obj.mp dv]
    refine .inr ⟨a, dx, gs, rfl, hy, fun pins σ' s I => ?_⟩
    refine wpAny_call (codeAny_mono (run2 (Er := fun _ _ => False) F hb (((C.room hh).mono hk).in1) C.gd I I.env0.in1 (us := [.ref a]) (vs := [.ref a]) (.cons rfl .nil) (DenL.cons (den_obj.mpr rfl) DenL.nil) r1 q fun e s' z => (cx_no z).elim) fun r s' hq => ?_)
    cases r with
    | error e => exact (show False from hq).elim
    | ok fl =>
      cases fl with
      | ret u =>
        obtain ⟨v, H', I3, rv', d, M', a1, a2, a3, ⟨i, rfl, h0, h1, qq⟩⟩ := hq
        have ev := den_int.mp a1
        exact ⟨v, H', I3, rv', ⟨i, ev, h0, h1⟩, .int i, M', a1, a2, t1.trans a3, qq⟩
      | next => exact hq.elim
      | brk => exact hq.elim
      | cont => exact hq.elim
/-- a == b, a an instance with an __eq__ of its own and b one of the same class, or data -/
def rEqI (X : Cx) (f C : Addr) : R2 := fun x y H Q => ∃ a dx fs b dy gs, x = .ref a ∧ y = .ref b ∧ H a = some (.ins C dx fs) ∧ H b = some (.ins C dy gs) ∧ ∀ pins σ s, Inv X pins σ H s → wpAny (model X.prog X.w) X.A (call (.ref f) [.ref a, .ref b]) (EP X pins σ fun v H' => (∃ k, v = .bl k) ∧ Q v H') X.xe s
theorem op_eqI {f C : Addr} (hu : X.A.units < cLine) (hs : PySem.W.findIn X.K (.ref C) "__eq__" = some (some (.ref f))) (hf : PySem.W.isFn X.K (.ref f) = true) : OpR X (compareOp .Eq) (rEqI X f C) := by
  intro pins s σ H x y v u Q I rx ry ⟨a, dx, fs, b, dy, gs, e1, e2, ea, eb, q⟩
  subst e1 e2
  obtain rfl := (show v = Value.ref a from rx)
  obtain rfl := (show u = Value.ref b from ry)
  obtain ⟨mA, O, _, _, _, _⟩ := ins_get I.hok ea
  obtain ⟨od, J, _⟩ := O.look
  obtain ⟨mB, O', _, _, _, _⟩ := ins_get I.hok eb
  obtain ⟨od', J', _⟩ := O'.look
  obtain ⟨m, hF⟩ := I.fr
  show wpAny (model X.prog X.w) X.A (richCompare .Eq (.ref a) (.ref b)) _ _ s
  refine PySem.W.cmp_K (op := .Eq) (tb := .ref C) hu hF I.ok.mod.kin J J'.type (by simp [PySem.W.notFirst]) hs hf (wpAny_mono (q pins σ s I) (fun w s' z => ?_) fun _ _ z => z)
  obtain ⟨v, H', I', rv, ⟨k, rfl⟩, q'⟩ := z
  obtain rfl := (show w = Value.bool k from rv)
  exact ⟨.bl k, H', I', rfl, q'⟩
def eqU (K : PySem.W.Frag) (n : Str) (sp : Sp2) (d d2 : D) (M : Mem) (Q : QE) : Prop := eq2 id d d2 M Q ∨ ∃ a fs b gs, d = .obj a ∧ d2 = .obj b ∧ M a = some (.ins (cad K n) fs) ∧ M b = some (.ins (cad K n) gs) ∧ sp [.obj a, .obj b] M (fun d' M2 => ∃ k, d' = .bl k ∧ Q (.bl k) M2) fun _ _ _ _ => False
theorem q_eqUI {n : Str} {sp : Sp2} {a b : Addr} {fs gs : List (Str × D)} {Q : QE} (e : M a = some (.ins (cad K n) fs)) (e2 : M b = some (.ins (cad K n) gs)) (q : sp [.obj a, .obj b] M (fun d' M2 => ∃ k, d' = .bl k ∧ Q (.bl k) M2) fun _ _ _ _ => False) : eqU K n sp (.obj a) (.obj b) M Q := .inr ⟨a, fs, b, gs, rfl, rfl, e, e2, q⟩
theorem q_eqUL {n : Str} {sp : Sp2} {d d2 : D} {Q : QE} (q : eq2 id d d2 M Q) : eqU K n sp d d2 M Q := .inl q
theorem we_eqU (C : Cxt X N sc P w K mg base k0) {e e2 : Expr} {pos : Pos} {n : Str} {k : Nat} {ps : List Str} {sp : Sp2} {Q : QE} (G : Met2 P w K mg base k n "__eq__" ps sp) (hk : k ≤ k0) (hm : behindInMarks .Eq e2 = false) (h : WE X e ρ M fun d M1 => WE X e2 ρ M1 fun d2 M2 => eqU K n sp d d2 M2 Q) (hh : sc.hot = false := by first | k_dflt rfl | assumption) : WE X (.Compare e [.Eq] [e2] pos) ρ M Q := fun σ H rr => by
  obtain rfl := C.hP
  obtain rfl := C.hw
  obtain rfl := C.hK
  obtain rfl := C.hmg
  obtain rfl := C.hbase
  obtain ⟨f, fd, c, hmt, hb, F⟩ := G.ex
  obtain ⟨r, h1, _, h3⟩ := (ob_eq C hh).ex
  refine cE_of (pe_cmpR (opr_or h1 (op_eqI (C.room hh).units0 hmt.at_ hmt.fn)) peC peC hm) (we_two (r2 := eqU X.K n sp) ?_ h rr)
  intro d1 d2 x y H1 ρ σ M1 H0 Q a1 a2 r1 t1 q
  rcases q with q | ⟨a, fs, b, gs, rfl, rfl, e0, e1, q⟩
  · exact .inl (h3 d1 d2 x y H1 ρ σ M1 H0 Q a1 a2 r1 t1 q)
  · obtain ⟨dx, fv, hy, ly⟩ := r1.rep a _ e0
    obtain ⟨dy, gv, hz, lz⟩ := r1.rep b _ e1
    rw [den_obj.mp a1, den_obj.mp a2]
    refine .inr ⟨a, dx, fv, b, dy, gv, rfl, rfl, hy, hz, fun pins σ' s I => ?_⟩
    refine wpAny_call (codeAny_mono (run2 (Er := fun _ _ => False) F hb ((C.room hh).mono hk) C.gd I I.env0 (us := [.ref a, .ref b]) (vs := [.ref a, .ref b]) (.cons rfl (.cons rfl .nil)) (DenL.cons (den_obj.mpr rfl) (DenL.cons (den_obj.mpr rfl) DenL.nil)) r1 q fun e s' z => (cx_no z).elim) fun r s' hq => ?_)
    cases r with
    | error e => exact (show False from hq).elim
    | ok fl =>
      cases fl with
      | ret u =>
        obtain ⟨v, H', I3, rv', d, M', a1, a2, a3, ⟨i, rfl, qq⟩⟩ := hq
        have ev := den_bl.mp a1
        exact ⟨v, H', I3, rv', ⟨i, ev⟩, .bl i, M', a1, a2, t1.trans a3, qq⟩
      | next => exact hq.elim
      | brk => exact hq.elim
      | cont => exact hq.elim
/-- isinstance(e, C), e an instance of C -/
structure InsN (K : PySem.W.Frag) (n : Str) : Prop where
  c : C8.InsC K (cad K n)
  at_ : PySem.W.nsIn K mainGlobals n = some (some (.ref (cad K n)))
def isiI (K : PySem.W.Frag) (ds : List D) (M : Mem) (Q : QE) : Prop := ∃ a n fs, ds = [.obj a, .kls n] ∧ M a = some (.ins (cad K n) fs) ∧ InsN K n ∧ Q (.bl true) M
theorem cl_isiI : CallL K (fun xs H Q => ∃ C, C8.InsC K C ∧ ∃ a dx fs, xs = [V.ref a, .ref C] ∧ H a = some (.ins C dx fs) ∧ Q (.bl true) H) (isiI K) := by
  rintro ds vs H ρ σ M H0 Q dn r t ⟨a, n, fs, rfl, e, I, q⟩
  obtain ⟨v, vs', rfl, d1, dn2⟩ := denL_cons.mp dn
  obtain ⟨v2, rfl, d2⟩ := one_arg (ds := []) dn2
  obtain ⟨Ca, rfl, hc⟩ := den_kls.mp d2
  have := cad_of hc
  rw [den_obj.mp d1]
  obtain ⟨dx, gs, hy, ly⟩ := r.rep a _ e
  rw [← this]
  exact ⟨_, I.c, a, dx, gs, rfl, hy, _, M, den_bl.mpr rfl, r, t, q⟩
theorem wc_isiI (C : Cxt X N sc P w K mg base k0) {e e2 : Expr} {p pos : Pos} {Q : QE} (hg : ("isinstance" : Str) ∈ sc.g) (hm : mg "isinstance" = none) (hs : starEach [e, e2] X.env = (false, eval e X.env) :: starEach [e2] X.env) (hs2 : starEach [e2] X.env = [(false, eval e2 X.env)]) (h : WE X e ρ M fun d M1 => WE X e2 ρ M1 fun d2 M2 => isiI K [d, d2] M2 Q) (hh : sc.hot = false := by first | k_dflt rfl | assumption) : WE X (.Call (.Name "isinstance" p) [e, e2] [] pos) ρ M Q := by
  obtain rfl := C.hK
  exact we_callB C (r := fun xs H Q => ∃ C, C8.InsC X.K C ∧ ∃ a dx fs, xs = [V.ref a, .ref C] ∧ H a = some (.ins C dx fs) ∧ Q (.bl true) H) (fun pins s σ H xs us Q I rv ⟨Ca, ic, z⟩ => C8.call_isC ic pins s σ H xs us Q I rv z) cl_isiI hg hm (by first | exact PySem.boot_isinstance | exact PyProof.Rows.boot_isinstance) hs (fun pos => by rw [hs2]; rfl) (wa_two hs hs2 h)
theorem q_isBB {g : Bool → Bool} {a b c : Bool} {Q : QE} (h : g (decide (a = b)) = c) (q : Q (.bl c) M) : is2 g (.bl a) (.bl b) M Q := by
  show Q (.bl (g (decide (a = b)))) M
  rw [h]
  exact q
theorem q_dgS {a : Addr} {kvs : List (Key × D)} {k : Key} {d : D} {R : D → Prop} (e : M a = some (.dk kvs)) (v : valD kvs k = some d) (q : R d) : ∃ a' kvs d', D.obj a = .obj a' ∧ M a' = some (.dk kvs) ∧ valD kvs k = some d' ∧ R d' := ⟨a, kvs, d, rfl, e, v, q⟩
theorem q_dpS {a : Addr} {kvs : List (Key × D)} {k : Key} {d : D} {R : Mem → Prop} (e : M a = some (.dk kvs)) (l : kvs.length < sizeLine) (q : R (mup M a (.dk (putD kvs k d)))) : ∃ a' kvs, D.obj a = .obj a' ∧ M a' = some (.dk kvs) ∧ kvs.length < sizeLine ∧ R (mup M a' (.dk (putD kvs k d))) := ⟨a, kvs, rfl, e, l, q⟩
/-- a display of two text keys -/
theorem we_disp2 {k1 k2 : Str} {j1 j2 : Nat} {q1 q2 pos : Pos} {e1 e2 : Expr} {Q : QE} (n12 : k2 ≠ k1)
    (h : ∀ p, M p = none → WE X e1 ρ (mup M p (.dk [])) fun d1 M1 => WE X e2 ρ M1 fun d2 M2 => M2 p = some (.dk []) ∧ Q (.obj p) (mup M2 p (.dk [(.inr k1, d1), (.inr k2, d2)]))) :
    WE X (.Dict [some (.Constant (.str k1) j1 q1), some (.Constant (.str k2) j2 q2)] [e1, e2] pos) ρ M Q := fun σ H r => by
  refine cE_of (pe_disp (pps_cons pe_str peC (pps_cons pe_str peC pps_nil)) rfl rfl (by simp) (by show 2 ≤ 15; decide)) ?_
  intro p hp
  have r0 := r.put (m := .dk []) (o := .dK []) (TK.fresh hp) ⟨[], upd_same, .nil⟩
  refine cE_mono ?_ (h p (r.rep.free hp) σ _ r0)
  rintro v1 H1 ⟨d1, M1, dn1, r1, t1, z1⟩
  refine cE_mono ?_ (z1 σ H1 r1)
  rintro v2 H2 ⟨d2, M2, dn2, r2, t2, ep, q⟩
  obtain ⟨vs, hv, kv⟩ := r2.rep p _ ep
  cases kv
  refine ⟨hv, [(.inr k1, v1), (.inr k2, v2)], rfl, by show 2 ≤ 15; decide, ?_⟩
  have e : mergeK [] [((.inr k1 : Key), v1), (.inr k2, v2)] = [(.inr k1, v1), (.inr k2, v2)] := by
    have c1 : ¬ ((Sum.inr k1 : Key) = Sum.inr k2) := fun z => n12 (Sum.inr.inj z).symm
    simp [mergeK, putK, c1]
  rw [e]
  have tk := TK.dK (K := X.K) (o := .dK [(.inr k1, v1), (.inr k2, v2)]) hv
  refine ⟨.obj p, _, den_obj.mpr rfl, r2.put (m := .dk [(.inr k1, d1), (.inr k2, d2)]) tk ⟨_, upd_same, ?_⟩, (((TK.fresh hp).trans t1).trans t2).trans tk, q⟩
  exact .cons ⟨rfl, (dn1.mono (t2.trans tk))⟩ (.cons ⟨rfl, dn2.mono tk⟩ .nil)
def rIsiO (K : PySem.W.Frag) : List V → Hp → VK → Prop := fun xs H Q => ∃ C, C8.InsC K C ∧ ∃ a dx fs, xs = [V.ref a, .ref C] ∧ H a = some (.ins C dx fs) ∧ Q (.bl true) H
theorem call_isiO : CallR X (.builtin "isinstance") (rIsiO X.K) := fun pins s σ H xs us Q I rv ⟨Ca, ic, z⟩ => C8.call_isC (C := Ca) ic pins s σ H xs us Q I rv z
def isiU (K : PySem.W.Frag) (ds : List D) (M : Mem) (Q : QE) : Prop := isi3 K ds M Q ∨ isiI K ds M Q
theorem q_isiUI {n : Str} {a : Addr} {fs : List (Str × D)} {Q : QE} (e : M a = some (.ins (cad K n) fs)) (I : InsN K n) (q : Q (.bl true) M) : isiU K [.obj a, .kls n] M Q := .inr ⟨a, n, fs, rfl, e, I, q⟩
theorem q_isiUL {ds : List D} {Q : QE} (q : isi3 K ds M Q) : isiU K ds M Q := .inl q
theorem wc_isiU (C : Cxt X N sc P w K mg base k0) {n : Str} (_ : InsN K n) {e e2 : Expr} {p pos : Pos} {Q : QE} (hg : ("isinstance" : Str) ∈ sc.g) (hm : mg "isinstance" = none) (hs : starEach [e, e2] X.env = (false, eval e X.env) :: starEach [e2] X.env) (hs2 : starEach [e2] X.env = [(false, eval e2 X.env)]) (h : WE X e ρ M fun d M1 => WE X e2 ρ M1 fun d2 M2 => isiU K [d, d2] M2 Q) : WE X (.Call (.Name "isinstance" p) [e, e2] [] pos) ρ M Q := by
  obtain rfl := C.hK
  refine we_callB C (callr_or (callr_or (callr_or (callr_or call_isi call_isiS) call_isiP) call_isiE) call_isiO) ?_ hg hm (by first | exact PySem.boot_isinstance | exact PyProof.Rows.boot_isinstance) hs (fun pos => by rw [hs2]; rfl) (wa_two hs hs2 h)
  exact fun ds vs H ρ σ M H0 Q dn r t q => q.elim (fun q => .inl (cl_isi3 ds vs H ρ σ M H0 Q dn r t q)) fun q => .inr (cl_isiI ds vs H ρ σ M H0 Q dn r t q)
end
section
variable {P : Program} {w : World} {K : PySem.W.Frag} {mg : Str → Option Value} {base : Heap}
def mkB (K : PySem.W.Frag) (C : Addr) : Bool := PySem.W.makesIn K C && PySem.W.keepIn K (.ref C)
def prpB (K : PySem.W.Frag) (p : Addr) : Bool := decide (PySem.W.specialIn K (.ref p) "__get__" = some (some (.builtin "property.__get__"))) && decide (PySem.W.takesIn K (.ref p) = some true)
theorem insN_of {n : Str} {C : Addr} {ks : List Str} (a : PySem.W.nsIn K mainGlobals n = some (some (.ref C))) (c : ClsF K n ks) (z : insB K C = true) : InsN K n := ⟨insB_ok c.cl (by rw [cad_of a]; exact z), c.at_⟩
theorem met2_of {n m : Str} {C f : Addr} {ks ps : List Str} {fd : FuncData} {k : Nat} {sp : Sp2} (a : PySem.W.nsIn K mainGlobals n = some (some (.ref C))) (c : ClsF K n ks) (i : PySem.W.findIn K (.ref C) m = some (some (.ref f))) (z : PySem.W.isFn K (.ref f) = true) (kp : PySem.W.keepIn K (.ref f) = true) (b : Binds K fd ps []) (F : Fn2 P w K mg base k f fd ps sp) : Met2 P w K mg base k n m ps sp :=
  ⟨f, fd, c.cl, ⟨by rw [cad_of a]; exact i, z, kp⟩, b, F⟩
theorem prp2_of {n m : Str} {C p f : Addr} {ks ps : List Str} {rs : List Value} {fd : FuncData} {k : Nat} {sp : Sp2} (a : PySem.W.nsIn K mainGlobals n = some (some (.ref C))) (c : ClsF K n ks) (i : PySem.W.findIn K (.ref C) m = some (some (.ref p))) (r : PySem.W.recIn K p "property" = some (.ref f :: rs)) (z : prpB K p = true) (b : Binds K fd ps []) (F : Fn2 P w K mg base k f fd ps sp) : Prp2 P w K mg base k n m ps sp := by
  unfold prpB at z
  simp only [Bool.and_eq_true, decide_eq_true_eq] at z
  exact ⟨p, f, fd, c.cl, ⟨by rw [cad_of a]; exact i, z.1, z.2, ⟨rs, r⟩⟩, b, F⟩
theorem mak2_of {n : Str} {C f : Addr} {ps : List Str} {fd : FuncData} {k : Nat} {sp : Sp2} (a : PySem.W.nsIn K mainGlobals n = some (some (.ref C))) (hm : mg n = some (.ref C)) (i : PySem.W.findIn K (.ref C) "__init__" = some (some (.ref f))) (z : PySem.W.isFn K (.ref f) = true) (zm : mkB K C = true) (b : Binds K fd ps []) (F : Fn2 P w K mg base k f fd ps sp) : Mak2 P w K mg base k n ps sp := by
  unfold mkB at zm
  rw [Bool.and_eq_true] at zm
  exact ⟨f, fd, by rw [cad_of a]; exact hm, by rw [cad_of a]; exact ⟨zm.1, i, z, zm.2⟩, b, F⟩
/-- a statement of a class's body -/
def clsAt : Stmt → Nat → Stmt
  | .ClassDef _ _ _ b _ _ _ _ _ _ _, j => b.getD j (.Pass ⟨0, 0, 0, 0⟩)
  | s, _ => s
end
end Y

set_option Elab.async false
set_option linter.all false
set_option autoImplicit false
set_option maxRecDepth 100000
set_option maxHeartbeats 8000000
namespace K90
open PySem PySem.Spec PyProof.Rows L2 Y
def top (i : Nat) : Stmt := PySem.Challenge.pw_uporders_k90_whole_led_chains.main.body.getD i (.Pass ⟨0, 0, 0, 0⟩)
def ctab : CTab := [("BadChain", ["BadChain"], []), ("BadDemand", ["BadDemand"], []), ("BadNumber", ["BadNumber"], []), ("BadRule", ["BadRule"], []), ("TooGreat", ["TooGreat"], [])]
def cown : List Str := ["BadChain", "BadDemand", "TooGreat", "BadNumber", "BadRule"]
def cbts : List String := []
/-- what the top has written, as the walk asks for it -/
structure Txt (P : Program) (w : World) (K : PySem.W.Frag) (mg : Str → Option Value) (base : Heap) : Prop where
  b_isinstance : mg "isinstance" = none
  b_int : mg "int" = none
  b_bool : mg "bool" = none
  b_tuple : mg "tuple" = none
  b_len : mg "len" = none
  b_str : mg "str" = none
  b_enumerate : mg "enumerate" = none
  b_sum : mg "sum" = none
  b_min : mg "min" = none
  b_list : mg "list" = none
  b_max : mg "max" = none
  b_repr : mg "repr" = none
  b_range : mg "range" = none
  c_MOST_LEVEL : ∃ t, mg "MOST_LEVEL" = some (.int 30 t)
  c_FILL : ∃ t, mg "FILL" = some (.str "fill" t)
  c_PACKS : ∃ t, mg "PACKS" = some (.str "packs" t)
  c_MOST_SIZE : ∃ t, mg "MOST_SIZE" = some (.int 10 t)
  c_MOST_DELAY : ∃ t, mg "MOST_DELAY" = some (.int 4 t)
  c_MOST_HOUSES : ∃ t, mg "MOST_HOUSES" = some (.int 3 t)
  c_MOST_WAIT : ∃ t, mg "MOST_WAIT" = some (.int 9 t)
  c_MOST_DEMAND : ∃ t, mg "MOST_DEMAND" = some (.int 9 t)
  c_MOST_DEEDS : ∃ t, mg "MOST_DEEDS" = some (.int 400 t)
  c_SELL : ∃ t, mg "SELL" = some (.str "sell" t)
  c_EXCHANGE : ∃ t, mg "EXCHANGE" = some (.str "exchange" t)
  x_BadChain : XDef P w K mg "BadChain" ["place"]
  x_BadDemand : XDef P w K mg "BadDemand" ["place"]
  x_BadNumber : XDef P w K mg "BadNumber" ["value"]
  x_BadRule : XDef P w K mg "BadRule" ["value"]
  x_TooGreat : XDef P w K mg "TooGreat" ["most"]
  tab : tabB K ctab cown cbts = true
  n_Led : XNm K mg "Led"
  cls_Led : ClsF K "Led" ["past", "later"]
  ins_Led : InsN K "Led"
theorem fm_later : FMk "later" := ⟨⟩
theorem fm_past : FMk "past" := ⟨⟩
/-! ### the steps: words for k_extra, registered once -/
example : True := by
  k_with "gl" =>
    first
      | k_extra "in"
      | fail
  k_with "in" =>
    first
      | with_reducible exact List.mem_cons_self
      | (with_reducible apply List.mem_cons_of_mem; k_extra "in")
      | fail
  k_with "slot" =>
    first
      | with_reducible exact Slot.here
      | (with_reducible apply Slot.there; k_extra "slot")
      | fail
  k_with "nm" =>
    first
      | with_reducible exact Nm.here
      | (with_reducible apply Nm.there; k_extra "nm")
      | fail
  k_with "put" =>
    first
      | with_reducible exact Put.here
      | (with_reducible apply Put.there; k_extra "put")
      | fail
  k_with "mne" =>
    first
      | assumption
      | exact Ne.symm (by assumption)
      | exact mem_ne (by assumption) (by assumption)
      | exact (mem_ne (by assumption) (by assumption)).symm
      | (intro e; subst e; simp_all; done)
      | fail
  k_with "mem" =>
    first
      | assumption
      | exact mup_same
      | (refine (mup_ne ?_).trans ?_; (k_extra "mne"); (k_extra "mem"))
      | (refine' ext_mem ?memA ?memB; (case memA => assumption); (case memB => k_extra "mem"))
      | fail
  k_with "ext" =>
    first
      | with_reducible exact Ext.refl _
      | (with_reducible refine' Ext.trans ?exA ?exB; (case exB => assumption); (case exA => k_extra "ext"))
      | fail
  k_with "n" =>
    first
      | (intro p hp; generalize hM : mup _ p _ = M1; have e1 := (congrFun hM p).symm.trans mup_same; have x1 := ext_gen hM hp; clear hM)
      | fail
  k_with "dk" =>
    first
      | (with_reducible refine' q_dgS ?q_dgS_0 ?q_dgS_1 ?_; (case q_dgS_0 => k_extra "mem"); (case q_dgS_1 => first | k_dflt rfl | (k_dflt (simp [valD]); done)))
      | fail
  k_with "z" =>
    first
      | (refine Nat.le_trans (m := 1000) ?_ (by decide); k_dflt (simp only [List.length_cons, List.length_append, List.length_nil, List.length_map]; omega))
      | fail
  k_with "items" =>
    first
      | assumption
      | exact items_lst (by k_extra "mem")
      | exact lst_lst (by k_extra "mem")
      | k_dflt rfl
      | fail
  k_with "wss" =>
    first
      | with_reducible refine' wss_one ?_
      | with_reducible refine' wss_cons ?_
      | with_reducible refine' wss_nil ?_
      | fail
  k_with "ws" =>
    first
      | with_reducible refine' ws_ret ?_
      | (with_reducible refine' ws_raise ?ws_raise_0 ?ws_raise_1 ?ws_raise_2 ?ws_raise_3 ?ws_raise_4 ?ws_raise_5 ?ws_raise_6 ?_ (hh := ?ws_raise_hh); (case ws_raise_0 => assumption); (case ws_raise_1 => assumption); (case ws_raise_2 => k_extra "xd"); (case ws_raise_3 => decide); (case ws_raise_4 => k_extra "gl"); (case ws_raise_5 => k_dflt rfl); (case ws_raise_6 => k_dflt (intro _; rfl)); (case ws_raise_hh => first | k_dflt rfl | assumption))
      | with_reducible refine' ws_if ?_
      | (with_reducible refine' ws_expr ?ws_expr_0 ?_; (case ws_expr_0 => k_dflt rfl))
      | (with_reducible refine' ws_dputS ?ws_dputS_0 ?ws_dputS_1 ?_ (hh := ?ws_dputS_hh); (case ws_dputS_0 => assumption); (case ws_dputS_1 => k_dflt rfl); (case ws_dputS_hh => first | k_dflt rfl | assumption))
      | (with_reducible refine' ws_par ?ws_par_0 ?ws_par_1 ?ws_par_2 ?ws_par_3 ?ws_par_4 ?ws_par_5 ?ws_par_6 ?ws_par_7 ?ws_par_8 ?ws_par_9 ?ws_par_10 ?ws_par_11 ?_ (hh := ?ws_par_hh); (case ws_par_0 => assumption); (case ws_par_1 => k_extra "nm"); (case ws_par_2 => k_extra "nm"); (case ws_par_3 => decide); (case ws_par_4 => k_extra "gl"); (case ws_par_5 => k_extra "gl"); (case ws_par_6 => k_dflt rfl); (case ws_par_7 => k_dflt (decide +kernel)); (case ws_par_8 => k_dflt rfl); (case ws_par_9 => k_dflt rfl); (case ws_par_10 => k_dflt rfl); (case ws_par_11 => k_dflt rfl); (case ws_par_hh => first | k_dflt rfl | assumption))
      | (with_reducible refine' ws_par3 ?ws_par3_0 ?ws_par3_1 ?ws_par3_2 ?ws_par3_3 ?ws_par3_4 ?ws_par3_5 ?ws_par3_6 ?ws_par3_7 ?ws_par3_8 ?ws_par3_9 ?ws_par3_10 ?ws_par3_11 ?ws_par3_12 ?ws_par3_13 ?ws_par3_14 ?ws_par3_15 ?ws_par3_16 ?_ (hh := ?ws_par3_hh); (case ws_par3_0 => assumption); (case ws_par3_1 => k_extra "nm"); (case ws_par3_2 => k_extra "nm"); (case ws_par3_3 => k_extra "nm"); (case ws_par3_4 => decide); (case ws_par3_5 => decide); (case ws_par3_6 => decide); (case ws_par3_7 => k_extra "gl"); (case ws_par3_8 => k_extra "gl"); (case ws_par3_9 => k_extra "gl"); (case ws_par3_10 => k_dflt rfl); (case ws_par3_11 => k_dflt rfl); (case ws_par3_12 => k_dflt (decide +kernel)); (case ws_par3_13 => k_dflt rfl); (case ws_par3_14 => k_dflt rfl); (case ws_par3_15 => k_dflt rfl); (case ws_par3_16 => k_dflt rfl); (case ws_par3_hh => first | k_dflt rfl | assumption))
      | (with_reducible refine' ws_parC ?ws_parC_0 ?ws_parC_1 ?ws_parC_2 ?ws_parC_3 ?_; (case ws_parC_0 => assumption); (case ws_parC_1 => k_extra "gl"); (case ws_parC_2 => k_dflt rfl); (case ws_parC_3 => k_dflt rfl))
      | (with_reducible refine' ws_parC2 ?ws_parC2_0 ?ws_parC2_1 ?ws_parC2_2 ?ws_parC2_3 ?_; (case ws_parC2_0 => assumption); (case ws_parC2_1 => k_extra "gl"); (case ws_parC2_2 => k_dflt rfl); (case ws_parC2_3 => k_dflt rfl))
      | (with_reducible refine' ws_fold ?ws_fold_0 ?ws_fold_1 ?ws_fold_2 ?ws_fold_3 ?ws_fold_4 ?ws_fold_5 ?ws_fold_6 ?ws_fold_7 ?ws_fold_8 ?_; (case ws_fold_0 => assumption); (case ws_fold_1 => k_extra "gl"); (case ws_fold_2 => k_extra "gl"); (case ws_fold_3 => k_dflt rfl); (case ws_fold_4 => k_dflt (decide +kernel)); (case ws_fold_5 => k_dflt rfl); (case ws_fold_6 => k_dflt rfl); (case ws_fold_7 => k_dflt rfl); (case ws_fold_8 => k_dflt rfl))
      | (with_reducible refine' ws_fldI ?ws_fldI_0 ?ws_fldI_1 ?_; (case ws_fldI_0 => assumption); (case ws_fldI_1 => k_dflt rfl))
      | (with_reducible refine' ws_asgS ?ws_asgS_0 ?ws_asgS_1 ?_; (case ws_asgS_0 => k_dflt rfl); (case ws_asgS_1 => k_dflt rfl))
      | (with_reducible refine' ws_asgSS ?ws_asgSS_0 ?ws_asgSS_1 ?_; (case ws_asgSS_0 => k_dflt rfl); (case ws_asgSS_1 => k_dflt rfl))
      | (with_reducible refine' ws_asg ?ws_asg_0 ?ws_asg_1 ?ws_asg_2 ?_; (case ws_asg_0 => k_dflt rfl); (case ws_asg_1 => k_dflt rfl); (case ws_asg_2 => k_dflt rfl))
      | (with_reducible refine' ws_augI ?ws_augI_0 ?ws_augI_1 ?ws_augI_2 ?_; (case ws_augI_0 => assumption); (case ws_augI_1 => k_extra "slot"); (case ws_augI_2 => k_extra "gl"))
      | with_reducible refine' ws_brk ?_
      | with_reducible refine' ws_cont ?_
      | fail
  k_with "cmp" =>
    first
      | with_reducible apply ob_lt
      | with_reducible apply ob_le
      | with_reducible apply ob_gt
      | with_reducible apply ob_ge
      | with_reducible apply ob_is
      | with_reducible apply ob_isnot
      | (with_reducible exact ob_eq (by assumption))
      | (with_reducible exact ob_ne (by assumption))
      | (with_reducible exact ob_in (by assumption))
      | (with_reducible exact ob_notin (by assumption))
      | with_reducible apply ob_inF
      | with_reducible apply ob_notinF
      | fail
  k_with "we" =>
    first
      | (with_reducible refine' guNm ?_; k_extra "wname")
      | (with_reducible refine' gConst ?_; k_extra "wconst")
      | (with_reducible refine' gCall ?_; k_extra "call")
      | (with_reducible refine' gBin ?_; k_extra "wbin")
      | with_reducible refine' we_tup ?_
      | with_reducible refine' we_lst ?_
      | with_reducible refine' we_dnil ?_
      | with_reducible refine' we_disp1i ?_
      | (with_reducible refine' we_dgetS ?we_dgetS_0 ?_ (hh := ?we_dgetS_hh); (case we_dgetS_0 => assumption); (case we_dgetS_hh => first | k_dflt rfl | assumption))
      | with_reducible refine' we_revA ?_
      | with_reducible refine' we_slice ?_
      | (with_reducible refine' we_ix ?we_ix_0 ?_; (case we_ix_0 => k_dflt (exact fun _ _ => rfl)))
      | (with_reducible refine' we_prop ?we_prop_0 ?we_prop_1 ?we_prop_2 ?we_prop_3 ?_ (hh := ?we_prop_hh); (case we_prop_0 => assumption); (case we_prop_1 => assumption); (case we_prop_2 => first | decide | omega); (case we_prop_3 => k_dflt rfl); (case we_prop_hh => first | k_dflt rfl | assumption))
      | (with_reducible refine' we_fldIm ?we_fldIm_0 ?we_fldIm_1 ?we_fldIm_2 ?_; (case we_fldIm_0 => assumption); (case we_fldIm_1 => k_extra "fmk"); (case we_fldIm_2 => k_dflt rfl))
      | (with_reducible refine' we_field ?we_field_0 ?we_field_1 ?_; (case we_field_0 => assumption); (case we_field_1 => k_dflt rfl))
      | with_reducible refine' we_if ?_
      | with_reducible refine' we_one ?_
      | with_reducible refine' we_and ?_
      | with_reducible refine' we_or ?_
      | with_reducible refine' we_not ?_
      | with_reducible refine' we_neg ?_
      | (with_reducible refine' we_chain ?we_chain_0 ?we_chain_1 ?we_chain_2 ?_; (case we_chain_0 => k_extra "cmp"); (case we_chain_1 => k_extra "cmp"); (case we_chain_2 => k_dflt rfl))
      | (with_reducible refine' we_eqU ?we_eqU_0 ?we_eqU_1 ?we_eqU_2 ?we_eqU_3 ?_ (hh := ?we_eqU_hh); (case we_eqU_0 => assumption); (case we_eqU_1 => assumption); (case we_eqU_2 => first | decide | omega); (case we_eqU_3 => k_dflt rfl); (case we_eqU_hh => first | k_dflt rfl | assumption))
      | (with_reducible refine' we_cmp ?we_cmp_0 ?we_cmp_1 ?_; (case we_cmp_0 => k_extra "cmp"); (case we_cmp_1 => k_dflt rfl))
      | fail
  k_with "wname" =>
    first
      | (with_reducible refine' we_var ?we_var_0 ?we_var_1 ?we_var_2 ?_; (case we_var_0 => assumption); (case we_var_1 => k_extra "slot"); (case we_var_2 => k_extra "gl"))
      | k_extra "glob"
      | fail
  k_with "wconst" =>
    first
      | with_reducible refine' we_int ?_
      | with_reducible refine' we_str ?_
      | with_reducible refine' we_bl ?_
      | with_reducible refine' we_non ?_
      | fail
  k_with "wbin" =>
    first
      | with_reducible apply we_binop ob_add
      | with_reducible apply we_binop ob_sub
      | with_reducible apply we_binop ob_mul
      | with_reducible apply we_binop ob_mod
      | with_reducible apply we_binop ob_fdiv
      | with_reducible apply we_binop ob_pow
      | fail
  k_with "call" =>
    first
      | (with_reducible refine' wc_lenU ?wc_lenU_0 ?wc_lenU_1 ?wc_lenU_2 ?wc_lenU_3 ?wc_lenU_4 ?wc_lenU_5 ?_ (hh := ?wc_lenU_hh); (case wc_lenU_0 => assumption); (case wc_lenU_1 => assumption); (case wc_lenU_2 => first | decide | omega); (case wc_lenU_3 => k_extra "gl"); (case wc_lenU_4 => k_extra "mg0"); (case wc_lenU_5 => k_dflt rfl); (case wc_lenU_hh => first | k_dflt rfl | assumption))
      | (with_reducible refine' wc_isiU ?wc_isiU_0 ?wc_isiU_1 ?wc_isiU_2 ?wc_isiU_3 ?wc_isiU_4 ?wc_isiU_5 ?_; (case wc_isiU_0 => assumption); (case wc_isiU_1 => k_extra "insn"); (case wc_isiU_2 => k_extra "gl"); (case wc_isiU_3 => k_extra "mg0"); (case wc_isiU_4 => k_dflt rfl); (case wc_isiU_5 => k_dflt rfl))
      | (with_reducible refine' wc_len ?wc_len_0 ?wc_len_1 ?wc_len_2 ?wc_len_3 ?_; (case wc_len_0 => assumption); (case wc_len_1 => k_extra "gl"); (case wc_len_2 => k_extra "mg0"); (case wc_len_3 => k_dflt rfl))
      | (with_reducible refine' wc_int ?wc_int_0 ?wc_int_1 ?wc_int_2 ?wc_int_3 ?_; (case wc_int_0 => assumption); (case wc_int_1 => k_extra "gl"); (case wc_int_2 => k_extra "mg0"); (case wc_int_3 => k_dflt rfl))
      | (with_reducible refine' wc_str ?wc_str_0 ?wc_str_1 ?wc_str_2 ?wc_str_3 ?_; (case wc_str_0 => assumption); (case wc_str_1 => k_extra "gl"); (case wc_str_2 => k_extra "mg0"); (case wc_str_3 => k_dflt rfl))
      | (with_reducible refine' wc_tuple ?wc_tuple_0 ?wc_tuple_1 ?wc_tuple_2 ?wc_tuple_3 ?_; (case wc_tuple_0 => assumption); (case wc_tuple_1 => k_extra "gl"); (case wc_tuple_2 => k_extra "mg0"); (case wc_tuple_3 => k_dflt rfl))
      | (with_reducible refine' wc_list ?wc_list_0 ?wc_list_1 ?wc_list_2 ?wc_list_3 ?_; (case wc_list_0 => assumption); (case wc_list_1 => k_extra "gl"); (case wc_list_2 => k_extra "mg0"); (case wc_list_3 => k_dflt rfl))
      | (with_reducible refine' wc_sum ?wc_sum_0 ?wc_sum_1 ?wc_sum_2 ?wc_sum_3 ?_ (hh := ?wc_sum_hh); (case wc_sum_0 => assumption); (case wc_sum_1 => k_extra "gl"); (case wc_sum_2 => k_extra "mg0"); (case wc_sum_3 => k_dflt rfl); (case wc_sum_hh => first | k_dflt rfl | assumption))
      | (with_reducible refine' wc_all ?wc_all_0 ?wc_all_1 ?wc_all_2 ?wc_all_3 ?_ (hh := ?wc_all_hh); (case wc_all_0 => assumption); (case wc_all_1 => k_extra "gl"); (case wc_all_2 => k_extra "mg0"); (case wc_all_3 => k_dflt rfl); (case wc_all_hh => first | k_dflt rfl | assumption))
      | (with_reducible refine' wc_any ?wc_any_0 ?wc_any_1 ?wc_any_2 ?wc_any_3 ?_ (hh := ?wc_any_hh); (case wc_any_0 => assumption); (case wc_any_1 => k_extra "gl"); (case wc_any_2 => k_extra "mg0"); (case wc_any_3 => k_dflt rfl); (case wc_any_hh => first | k_dflt rfl | assumption))
      | (with_reducible refine' wc_abs ?wc_abs_0 ?wc_abs_1 ?wc_abs_2 ?wc_abs_3 ?_; (case wc_abs_0 => assumption); (case wc_abs_1 => k_extra "gl"); (case wc_abs_2 => k_extra "mg0"); (case wc_abs_3 => k_dflt rfl))
      | (with_reducible refine' wc_minA ?wc_minA_0 ?wc_minA_1 ?wc_minA_2 ?wc_minA_3 ?_ (hh := ?wc_minA_hh); (case wc_minA_0 => assumption); (case wc_minA_1 => k_extra "gl"); (case wc_minA_2 => k_extra "mg0"); (case wc_minA_3 => k_dflt rfl); (case wc_minA_hh => first | k_dflt rfl | assumption))
      | (with_reducible refine' wc_maxL ?wc_maxL_0 ?wc_maxL_1 ?wc_maxL_2 ?wc_maxL_3 ?_ (hh := ?wc_maxL_hh); (case wc_maxL_0 => assumption); (case wc_maxL_1 => k_extra "gl"); (case wc_maxL_2 => k_extra "mg0"); (case wc_maxL_3 => k_dflt rfl); (case wc_maxL_hh => first | k_dflt rfl | assumption))
      | (with_reducible refine' wc_repr ?wc_repr_0 ?wc_repr_1 ?wc_repr_2 ?wc_repr_3 ?_ (hh := ?wc_repr_hh); (case wc_repr_0 => assumption); (case wc_repr_1 => k_extra "gl"); (case wc_repr_2 => k_extra "mg0"); (case wc_repr_3 => k_dflt rfl); (case wc_repr_hh => first | k_dflt rfl | assumption))
      | (with_reducible refine' wc_min2 ?wc_min2_0 ?wc_min2_1 ?wc_min2_2 ?wc_min2_3 ?wc_min2_4 ?_ (hh := ?wc_min2_hh); (case wc_min2_0 => assumption); (case wc_min2_1 => k_extra "gl"); (case wc_min2_2 => k_extra "mg0"); (case wc_min2_3 => k_dflt rfl); (case wc_min2_4 => k_dflt rfl); (case wc_min2_hh => first | k_dflt rfl | assumption))
      | (with_reducible refine' wc_max2 ?wc_max2_0 ?wc_max2_1 ?wc_max2_2 ?wc_max2_3 ?wc_max2_4 ?_ (hh := ?wc_max2_hh); (case wc_max2_0 => assumption); (case wc_max2_1 => k_extra "gl"); (case wc_max2_2 => k_extra "mg0"); (case wc_max2_3 => k_dflt rfl); (case wc_max2_4 => k_dflt rfl); (case wc_max2_hh => first | k_dflt rfl | assumption))
      | (with_reducible refine' wc_isi3 ?wc_isi3_0 ?wc_isi3_1 ?wc_isi3_2 ?wc_isi3_3 ?wc_isi3_4 ?_; (case wc_isi3_0 => assumption); (case wc_isi3_1 => k_extra "gl"); (case wc_isi3_2 => k_extra "mg0"); (case wc_isi3_3 => k_dflt rfl); (case wc_isi3_4 => k_dflt rfl))
      | (with_reducible refine' we_split ?we_split_0 ?we_split_1 ?we_split_2 ?_; (case we_split_0 => k_dflt rfl); (case we_split_1 => k_dflt rfl); (case we_split_2 => k_dflt rfl))
      | (with_reducible refine' we_join ?we_join_0 ?we_join_1 ?we_join_2 ?_; (case we_join_0 => k_dflt rfl); (case we_join_1 => k_dflt rfl); (case we_join_2 => k_dflt rfl))
      | (with_reducible refine' we_append ?we_append_0 ?we_append_1 ?we_append_2 ?we_append_3 ?_; (case we_append_0 => k_dflt rfl); (case we_append_1 => k_dflt rfl); (case we_append_2 => k_dflt rfl); (case we_append_3 => k_dflt rfl))
      | (with_reducible refine' we_pop ?we_pop_0 ?we_pop_1 ?_; (case we_pop_0 => k_dflt rfl); (case we_pop_1 => k_dflt rfl))
      | (with_reducible refine' we_callXm ?we_callXm_0 ?we_callXm_1 ?we_callXm_2 ?we_callXm_3 ?we_callXm_4 ?we_callXm_5 ?we_callXm_6 ?we_callXm_7 ?_ (hh := ?we_callXm_hh); (case we_callXm_0 => assumption); (case we_callXm_1 => assumption); (case we_callXm_2 => k_extra "xmk"); (case we_callXm_3 => assumption); (case we_callXm_4 => first | decide | omega); (case we_callXm_5 => k_extra "gl"); (case we_callXm_6 => k_dflt rfl); (case we_callXm_7 => k_dflt (intro _; rfl)); (case we_callXm_hh => first | k_dflt rfl | assumption))
      | (with_reducible refine' we_make ?we_make_0 ?we_make_1 ?we_make_2 ?we_make_3 ?we_make_4 ?we_make_5 ?_ (hh := ?we_make_hh); (case we_make_0 => assumption); (case we_make_1 => assumption); (case we_make_2 => first | decide | omega); (case we_make_3 => k_extra "gl"); (case we_make_4 => k_dflt rfl); (case we_make_5 => k_dflt (intro _; rfl)); (case we_make_hh => first | k_dflt rfl | assumption))
      | (with_reducible refine' we_meth ?we_meth_0 ?we_meth_1 ?we_meth_2 ?we_meth_3 ?we_meth_4 ?we_meth_5 ?_ (hh := ?we_meth_hh); (case we_meth_0 => assumption); (case we_meth_1 => assumption); (case we_meth_2 => first | decide | omega); (case we_meth_3 => k_dflt rfl); (case we_meth_4 => k_dflt (intro _; rfl)); (case we_meth_5 => k_dflt rfl); (case we_meth_hh => first | k_dflt rfl | assumption))
      | (with_reducible refine' we_meth0 ?we_meth0_0 ?we_meth0_1 ?we_meth0_2 ?we_meth0_3 ?_ (hh := ?we_meth0_hh); (case we_meth0_0 => assumption); (case we_meth0_1 => assumption); (case we_meth0_2 => first | decide | omega); (case we_meth0_3 => k_dflt rfl); (case we_meth0_hh => first | k_dflt rfl | assumption))
      | (with_reducible refine' we_call ?we_call_0 ?we_call_1 ?we_call_2 ?we_call_3 ?we_call_4 ?we_call_5 ?_ (hh := ?we_call_hh); (case we_call_0 => assumption); (case we_call_1 => assumption); (case we_call_2 => first | decide | omega); (case we_call_3 => k_extra "gl"); (case we_call_4 => k_dflt rfl); (case we_call_5 => k_dflt (intro _; rfl)); (case we_call_hh => first | k_dflt rfl | assumption))
      | (with_reducible refine' we_call0 ?we_call0_0 ?we_call0_1 ?we_call0_2 ?we_call0_3 ?_ (hh := ?we_call0_hh); (case we_call0_0 => assumption); (case we_call0_1 => assumption); (case we_call0_2 => first | decide | omega); (case we_call0_3 => k_extra "gl"); (case we_call0_hh => first | k_dflt rfl | assumption))
      | (with_reducible refine' we_exnK ?we_exnK_0 ?we_exnK_1 ?we_exnK_2 ?we_exnK_3 ?_ (hh := ?we_exnK_hh); (case we_exnK_0 => assumption); (case we_exnK_1 => k_extra "xk"); (case we_exnK_2 => decide); (case we_exnK_3 => k_extra "gl"); (case we_exnK_hh => first | k_dflt rfl | assumption))
      | (with_reducible refine' we_exn ?we_exn_0 ?we_exn_1 ?we_exn_2 ?we_exn_3 ?we_exn_4 ?we_exn_5 ?_ (hh := ?we_exn_hh); (case we_exn_0 => assumption); (case we_exn_1 => k_extra "xd"); (case we_exn_2 => decide); (case we_exn_3 => k_extra "gl"); (case we_exn_4 => k_dflt rfl); (case we_exn_5 => k_dflt (intro _; rfl)); (case we_exn_hh => first | k_dflt rfl | assumption))
      | fail
  k_with "glob" =>
    first
      | (with_reducible refine' we_kls ?we_kls_0 ?we_kls_1 ?we_kls_2 ?_; (case we_kls_0 => assumption); (case we_kls_1 => k_extra "gl"); (case we_kls_2 => k_extra "xn"))
      | (with_reducible refine' we_gI ?we_gI_0 ?we_gI_1 ?we_gI_2 ?_; (case we_gI_0 => assumption); (case we_gI_1 => k_extra "gl"); (case we_gI_2 => k_extra "mgI"))
      | (with_reducible refine' we_gS ?we_gS_0 ?we_gS_1 ?we_gS_2 ?_; (case we_gS_0 => assumption); (case we_gS_1 => k_extra "gl"); (case we_gS_2 => k_extra "mgI"))
      | (with_reducible refine' we_gT ?we_gT_0 ?we_gT_1 ?we_gT_2 ?_; (case we_gT_0 => assumption); (case we_gT_1 => k_extra "gl"); (case we_gT_2 => k_extra "mgT"))
      | (with_reducible refine' we_type ?we_type_0 ?we_type_1 ?we_type_2 ?we_type_3 ?_; (case we_type_0 => assumption); (case we_type_1 => k_extra "gl"); (case we_type_2 => k_extra "mg0"); (case we_type_3 => first | exact PySem.boot_int | exact PyProof.Rows.boot_int | exact PyProof.Rows.boot_bool | exact PyProof.Rows.boot_str | exact PyProof.Rows.boot_tuple | exact PyProof.Rows.boot_list | k_extra "bootx"))
      | fail
  k_with "wt" =>
    first
      | with_reducible refine' wt_bool ?_
      | with_reducible refine' wt_not ?_
      | (with_reducible refine' wt_chain ?wt_chain_0 ?wt_chain_1 ?wt_chain_2 ?_; (case wt_chain_0 => k_extra "cmp"); (case wt_chain_1 => k_extra "cmp"); (case wt_chain_2 => k_dflt rfl))
      | (with_reducible refine' wt_cmp ?wt_cmp_0 ?wt_cmp_1 ?_; (case wt_cmp_0 => k_extra "cmp"); (case wt_cmp_1 => k_dflt rfl))
      | (with_reducible refine' wt_truth ?wt_truth_0 ?_; (case wt_truth_0 => k_dflt (intro _; rfl)))
      | fail
  k_with "ww" =>
    first
      | with_reducible refine' ww_and1 ?_
      | with_reducible refine' ww_or1 ?_
      | with_reducible refine' ww_and ?_
      | with_reducible refine' ww_or ?_
      | fail
  k_with "wa" =>
    first
      | with_reducible refine' wa_nil ?_
      | (with_reducible refine' wa_star ?wa_star_0 ?_; (case wa_star_0 => k_dflt rfl))
      | (with_reducible refine' wa_cons ?wa_cons_0 ?_; (case wa_cons_0 => k_dflt rfl))
      | fail
  k_with "tgt" =>
    first
      | (with_reducible refine' pt2_name ?pt2_name_0 ?pt2_name_1 ?pt2_name_2; (case pt2_name_0 => assumption); (case pt2_name_1 => k_extra "nm"); (case pt2_name_2 => k_extra "gl"))
      | (with_reducible apply pt2_tup; (assumption); (k_dflt rfl); (k_dflt rfl); (k_extra "tgts"); (k_dflt rfl))
      | fail
  k_with "tgts" =>
    first
      | with_reducible exact pts2_nil
      | (with_reducible apply pts2_cons; (k_dflt rfl); (k_extra "tgt"); (k_extra "tgts"))
      | fail
  k_with "wg" =>
    first
      | (with_reducible refine' wg_name ?wg_name_0 ?wg_name_1 ?wg_name_2 ?wg_name_3 ?_; (case wg_name_0 => assumption); (case wg_name_1 => k_extra "nm"); (case wg_name_2 => k_extra "gl"); (case wg_name_3 => k_extra "put"))
      | (with_reducible refine' wg_tgt ?wg_tgt_0 ?wg_tgt_1 ?_; (case wg_tgt_0 => k_extra "tgt"); (case wg_tgt_1 => k_dflt rfl))
      | (with_reducible refine' wg_sub ?wg_sub_0 ?_; (case wg_sub_0 => k_dflt (intro _; rfl)))
      | (with_reducible refine' wg_tup ?wg_tup_0 ?wg_tup_1 ?wg_tup_2 ?_ (hh := ?wg_tup_hh); (case wg_tup_0 => assumption); (case wg_tup_1 => k_dflt rfl); (case wg_tup_2 => k_dflt rfl); (case wg_tup_hh => first | k_dflt rfl | assumption))
      | (with_reducible refine' wg_unl ?wg_unl_0 ?wg_unl_1 ?wg_unl_2 ?wg_unl_3 ?_ (hh := ?wg_unl_hh); (case wg_unl_0 => assumption); (case wg_unl_1 => k_extra "mem"); (case wg_unl_2 => k_dflt rfl); (case wg_unl_3 => k_dflt rfl); (case wg_unl_hh => first | k_dflt rfl | assumption))
      | fail
  k_with "wgs" =>
    first
      | with_reducible refine' wgs_nil ?_
      | (with_reducible refine' wgs_cons ?wgs_cons_0 ?_; (case wgs_cons_0 => k_dflt rfl))
      | fail
  k_with "kb" =>
    first
      | with_reducible exact kb_int_int
      | with_reducible exact kb_int_bool
      | with_reducible exact kb_int_str
      | with_reducible exact kb_int_tuple
      | with_reducible exact kb_int_list
      | with_reducible exact kb_int_dict
      | with_reducible exact kb_tuple_int
      | with_reducible exact kb_tuple_bool
      | with_reducible exact kb_tuple_str
      | with_reducible exact kb_tuple_tuple
      | with_reducible exact kb_tuple_list
      | with_reducible exact kb_tuple_dict
      | with_reducible exact kb_str_int
      | with_reducible exact kb_str_bool
      | with_reducible exact kb_str_str
      | with_reducible exact kb_str_tuple
      | with_reducible exact kb_str_list
      | with_reducible exact kb_str_dict
      | with_reducible exact kb_bool_int
      | with_reducible exact kb_bool_bool
      | with_reducible exact kb_bool_str
      | with_reducible exact kb_bool_tuple
      | with_reducible exact kb_bool_list
      | with_reducible exact kb_bool_dict
      | with_reducible exact kb_list_int
      | with_reducible exact kb_list_bool
      | with_reducible exact kb_list_str
      | with_reducible exact kb_list_tuple
      | with_reducible exact kb_list_list
      | with_reducible exact kb_list_dict
      | with_reducible exact kb_NoneType_int
      | with_reducible exact kb_NoneType_bool
      | with_reducible exact kb_NoneType_str
      | with_reducible exact kb_NoneType_tuple
      | with_reducible exact kb_NoneType_list
      | with_reducible exact kb_NoneType_dict
      | with_reducible exact kb_dict_int
      | with_reducible exact kb_dict_bool
      | with_reducible exact kb_dict_str
      | with_reducible exact kb_dict_tuple
      | with_reducible exact kb_dict_list
      | with_reducible exact kb_dict_dict
      | fail
  k_with "kc" =>
    first
      | with_reducible exact kc_int
      | with_reducible exact kd_int
      | with_reducible exact kc_tuple
      | with_reducible exact kd_tuple
      | with_reducible exact kc_str
      | with_reducible exact kd_str
      | with_reducible exact kc_bool
      | with_reducible exact kd_bool
      | with_reducible exact kc_list
      | with_reducible exact kd_list
      | with_reducible exact kc_NoneType
      | with_reducible exact kd_NoneType
      | with_reducible exact kc_dict
      | with_reducible exact kd_dict
      | fail
  k_with "q" =>
    first
      | with_reducible refine' q_add ?_
      | with_reducible refine' q_eqT0 ?_
      | with_reducible refine' q_i0 ?_
      | (with_reducible refine' q_i2 ?q_i2_0 ?_; (case q_i2_0 => decide))
      | with_reducible refine' q_i2 ?_ ?_
      | with_reducible refine' q_mul ?_ ?_
      | with_reducible refine' q_isB ?_
      | (with_reducible refine' q_fldI ?q_fldI_0 ?q_fldI_1 ?q_fldI_2 ?q_fldI_3 ?_; (case q_fldI_0 => k_extra "clsf"); (case q_fldI_1 => k_extra "gl"); (case q_fldI_2 => k_extra "mem"); (case q_fldI_3 => k_dflt rfl))
      | with_reducible refine' q_itT ?_
      | (with_reducible refine' q_isBB (c := true) ?isb_0 ?_; (case isb_0 => k_dflt rfl))
      | (with_reducible refine' q_isBB (c := false) ?isb_0 ?_; (case isb_0 => k_dflt rfl))
      | (with_reducible refine' q_isiUI ?q_isiUI_0 ?q_isiUI_1 ?_; (case q_isiUI_0 => k_extra "mem"); (case q_isiUI_1 => k_extra "insn"))
      | with_reducible refine' q_isiUL ?_
      | (with_reducible refine' q_stF ?q_stF_0 ?q_stF_1 ?q_stF_2 ?q_stF_3 ?_; (case q_stF_0 => k_extra "clsf"); (case q_stF_1 => k_extra "gl"); (case q_stF_2 => k_extra "mem"); (case q_stF_3 => k_dflt (simp only [List.length_cons, List.length_nil]; decide)))
      | (with_reducible refine' q_exIns ?q_exIns_0 ?q_exIns_1 ?_; (case q_exIns_0 => k_extra "mem"); (case q_exIns_1 => k_dflt rfl))
      | (with_reducible refine' q_exPrp ?q_exPrp_0 ?_; (case q_exPrp_0 => k_extra "mem"))
      | (with_reducible refine' q_lenUI ?q_lenUI_0 ?_; (case q_lenUI_0 => k_extra "mem"))
      | (with_reducible refine' q_lenUL ?q_lenUL_0 ?_; (case q_lenUL_0 => k_extra "items"))
      | (with_reducible refine' q_eqUI ?q_eqUI_0 ?q_eqUI_1 ?_; (case q_eqUI_0 => k_extra "mem"); (case q_eqUI_1 => k_extra "mem"))
      | with_reducible refine' q_eqUL ?_
      | (with_reducible refine' q_tru ?q_tru_0 ?_; (case q_tru_0 => k_dflt rfl))
      | (with_reducible refine' q_par ?q_par_0 ?q_par_1 ?_; (case q_par_0 => k_extra "put"); (case q_par_1 => k_extra "put"))
      | (with_reducible refine' q_par3 ?q_par3_0 ?q_par3_1 ?q_par3_2 ?_; (case q_par3_0 => k_extra "put"); (case q_par3_1 => k_extra "put"); (case q_par3_2 => k_extra "put"))
      | (with_reducible refine' q_slL ?q_slL_0 ?_; (case q_slL_0 => k_extra "mem"))
      | with_reducible refine' q_revT ?_
      | (with_reducible refine' q_revL ?q_revL_0 ?_; (case q_revL_0 => k_extra "mem"))
      | (with_reducible refine' q_aug ?q_aug_0 ?_; (case q_aug_0 => k_extra "put"))
      | with_reducible refine' q_exI ?_
      | with_reducible refine' q_exT ?_
      | with_reducible refine' q_slT ?_
      | (with_reducible refine' q_size ?q_size_0 ?_; (case q_size_0 => k_dflt (simp only [List.length_cons, List.length_nil]; decide)))
      | with_reducible refine' Br.not ?_
      | with_reducible refine' Br.idd ?_
      | with_reducible refine' Br.t ?_
      | with_reducible refine' Br.f ?_
      | with_reducible refine' q_eqI ?_
      | with_reducible refine' q_eqS ?_
      | (with_reducible refine' q_ix ?q_ix_0 ?q_ix_1 ?_; (case q_ix_0 => k_dflt rfl); (case q_ix_1 => k_dflt rfl))
      | (with_reducible refine' q_ix ?q_ix_0 ?q_ix_1 ?_; (case q_ix_0 => k_extra "items"); (case q_ix_1 => k_dflt rfl))
      | (with_reducible refine' q_ixM ?q_ixM_0 ?q_ixM_1 ?_; (case q_ixM_0 => k_extra "items"); (case q_ixM_1 => assumption))
      | (with_reducible refine' q_ixL ?q_ixL_0 ?q_ixL_1 ?_; (case q_ixL_0 => k_extra "items"); (case q_ixL_1 => assumption))
      | (with_reducible refine' q_ixH ?q_ixH_0 ?q_ixH_1 ?_; (case q_ixH_0 => k_extra "items"); (case q_ixH_1 => first | assumption | k_dflt rfl))
      | (with_reducible refine' q_len ?q_len_0 ?_; (case q_len_0 => k_extra "items"))
      | with_reducible refine' q_int ?_
      | with_reducible refine' q_intB ?_
      | with_reducible refine' q_exS ?_
      | (with_reducible refine' q_lenS ?q_lenS_0 ?_; (case q_lenS_0 => assumption))
      | with_reducible refine' q_inS ?_
      | with_reducible refine' q_abs ?_
      | (with_reducible refine' q_sum ?q_sum_0 ?_; (case q_sum_0 => k_extra "items"))
      | (with_reducible refine' q_tuple ?q_tuple_0 ?_; (case q_tuple_0 => k_extra "items"))
      | (with_reducible refine' q_list ?q_list_0 ?_; (case q_list_0 => k_extra "items"))
      | with_reducible refine' q_min2 ?_
      | with_reducible refine' q_max2 ?_
      | (with_reducible refine' q_isi_ ?q_isi__0 ?q_isi__1 ?_; (case q_isi__0 => first | k_dflt rfl | exact ty_lst (by k_extra "mem") | exact ty_dk (by k_extra "mem")); (case q_isi__1 => k_extra "kb"))
      | (with_reducible refine' q_isi2_ ?q_isi2__0 ?q_isi2__1 ?_; (case q_isi2__0 => first | k_dflt rfl | exact ty_lst (by k_extra "mem") | exact ty_dk (by k_extra "mem")); (case q_isi2__1 => k_extra "kc"))
      | (with_reducible refine' q_isiK (b := true) ?is_0 ?is_1 ?_; (case is_0 => k_extra "rd"); (case is_1 => k_extra "isk"))
      | (with_reducible refine' q_isiK (b := false) ?is_0 ?is_1 ?_; (case is_0 => k_extra "rd"); (case is_1 => k_extra "isk"))
      | (with_reducible refine' q_isiB (b := true) ?is_0 ?is_1 ?_; (case is_0 => k_extra "rd"); (case is_1 => k_extra "isb"))
      | (with_reducible refine' q_isiB (b := false) ?is_0 ?is_1 ?_; (case is_0 => k_extra "rd"); (case is_1 => k_extra "isb"))
      | (with_reducible refine' q_isiP (b1 := false) (b2 := false) ?ip_0 ?ip_1 ?ip_2 ?_; (case ip_0 => k_extra "rd"); (case ip_1 => k_extra "isk"); (case ip_2 => k_extra "isk"))
      | (with_reducible refine' q_isiP (b1 := false) (b2 := true) ?ip_0 ?ip_1 ?ip_2 ?_; (case ip_0 => k_extra "rd"); (case ip_1 => k_extra "isk"); (case ip_2 => k_extra "isk"))
      | (with_reducible refine' q_isiP (b1 := true) (b2 := false) ?ip_0 ?ip_1 ?ip_2 ?_; (case ip_0 => k_extra "rd"); (case ip_1 => k_extra "isk"); (case ip_2 => k_extra "isk"))
      | (with_reducible refine' q_isiP (b1 := true) (b2 := true) ?ip_0 ?ip_1 ?ip_2 ?_; (case ip_0 => k_extra "rd"); (case ip_1 => k_extra "isk"); (case ip_2 => k_extra "isk"))
      | (with_reducible refine' q_isN (b := true) ?isn_0 ?_; (case isn_0 => k_dflt rfl))
      | (with_reducible refine' q_isN (b := false) ?isn_0 ?_; (case isn_0 => k_dflt rfl))
      | (with_reducible refine' q_field ?q_field_0 ?q_field_1 ?q_field_2 ?_; (case q_field_0 => k_extra "rd"); (case q_field_1 => k_extra "gl"); (case q_field_2 => k_dflt rfl))
      | (with_reducible refine' q_wh1 (b := true) ?is_0 ?_; (case is_0 => k_extra "isk"))
      | (with_reducible refine' q_wh1 (b := false) ?is_0 ?_; (case is_0 => k_extra "isk"))
      | (with_reducible refine' q_wh2 (b := true) (c := false) ?wh_0 ?wh_1 ?_; (case wh_0 => k_extra "isk"); (case wh_1 => k_extra "isk"))
      | (with_reducible refine' q_wh2 (b := true) (c := true) ?wh_0 ?wh_1 ?_; (case wh_0 => k_extra "isk"); (case wh_1 => k_extra "isk"))
      | (with_reducible refine' q_wh2 (b := false) (c := false) ?wh_0 ?wh_1 ?_; (case wh_0 => k_extra "isk"); (case wh_1 => k_extra "isk"))
      | (with_reducible refine' q_wh2 (b := false) (c := true) ?wh_0 ?wh_1 ?_; (case wh_0 => k_extra "isk"); (case wh_1 => k_extra "isk"))
      | with_reducible refine' q_addT ?_ ?_
      | (with_reducible refine' q_addL ?q_addL_0 ?q_addL_1 ?_ ?_; (case q_addL_0 => k_extra "mem"); (case q_addL_1 => k_extra "mem"))
      | with_reducible refine' wo_none ?_
      | with_reducible refine' wo_some ?_
      | (with_reducible refine' q_xn ?q_xn_0 ?_; (case q_xn_0 => k_dflt rfl))
      | (with_reducible refine' q_app ?q_app_0 ?_; (case q_app_0 => k_extra "mem"))
      | fail
  k_with "wi" =>
    first
      | (with_reducible refine' wi_rng1 ?wi_rng1_0 ?wi_rng1_1 ?wi_rng1_2 ?wi_rng1_3 ?_; (case wi_rng1_0 => assumption); (case wi_rng1_1 => k_extra "gl"); (case wi_rng1_2 => k_extra "mg0"); (case wi_rng1_3 => k_dflt rfl))
      | (with_reducible refine' wi_rng2 ?wi_rng2_0 ?wi_rng2_1 ?wi_rng2_2 ?wi_rng2_3 ?wi_rng2_4 ?_; (case wi_rng2_0 => assumption); (case wi_rng2_1 => k_extra "gl"); (case wi_rng2_2 => k_extra "mg0"); (case wi_rng2_3 => k_dflt rfl); (case wi_rng2_4 => k_dflt rfl))
      | (with_reducible refine' wi_zip ?wi_zip_0 ?wi_zip_1 ?wi_zip_2 ?wi_zip_3 ?wi_zip_4 ?_; (case wi_zip_0 => assumption); (case wi_zip_1 => k_extra "gl"); (case wi_zip_2 => k_extra "mg0"); (case wi_zip_3 => k_dflt rfl); (case wi_zip_4 => k_dflt (intro _; rfl)))
      | fail
  k_with "enT" =>
    first
      | (with_reducible refine' wi_enumT ?wi_enumT_0 ?wi_enumT_1 ?wi_enumT_2 ?wi_enumT_3 ?_; (case wi_enumT_0 => assumption); (case wi_enumT_1 => k_extra "gl"); (case wi_enumT_2 => k_extra "mg0"); (case wi_enumT_3 => k_dflt rfl))
      | fail
  k_with "enL" =>
    first
      | (with_reducible refine' wi_enumL ?wi_enumL_0 ?wi_enumL_1 ?wi_enumL_2 ?wi_enumL_3 ?_; (case wi_enumL_0 => assumption); (case wi_enumL_1 => k_extra "gl"); (case wi_enumL_2 => k_extra "mg0"); (case wi_enumL_3 => k_dflt rfl))
      | fail
  k_with "enR" =>
    first
      | (with_reducible refine' wi_enumR ?wi_enumR_0 ?wi_enumR_1 ?wi_enumR_2 ?wi_enumR_3 ?_; (case wi_enumR_0 => assumption); (case wi_enumR_1 => k_extra "gl"); (case wi_enumR_2 => k_extra "mg0"); (case wi_enumR_3 => k_dflt rfl))
      | fail
  k_with "side" =>
    first
      | assumption
      | k_dflt rfl
      | omega
      | k_dflt (simp only [List.length_cons, List.length_nil, List.length_map]; omega)
      | k_dflt (decide)
      | fail
  k_with "br" =>
    first
      | (with_reducible refine' Br.decT ?brT ?_; (case brT => k_extra "side"))
      | (with_reducible refine' Br.decF ?brF ?_; (case brF => k_extra "side"))
      | fail
  k_with "y" =>
    first
      | (with_reducible refine' gWE ?_; k_extra "we")
      | (with_reducible refine' gWA ?_; k_extra "wa")
      | (with_reducible refine' gWSs ?_; k_extra "wss")
      | (with_reducible refine' gWS ?_; k_extra "ws")
      | (with_reducible refine' gWT ?_; k_extra "wt")
      | (with_reducible refine' gWW ?_; k_extra "ww")
      | (with_reducible refine' gWG ?_; k_extra "wg")
      | (with_reducible refine' gWI ?_; k_extra "wi")
      | k_extra "q"
      | k_extra "lq"
      | k_extra "wgs"
      | k_extra "br"
      | fail
  trivial

example : True := by
  k_with "mg0" => first | with_reducible exact Txt.b_isinstance (by assumption) | with_reducible exact Txt.b_int (by assumption) | with_reducible exact Txt.b_bool (by assumption) | with_reducible exact Txt.b_tuple (by assumption) | with_reducible exact Txt.b_len (by assumption) | with_reducible exact Txt.b_str (by assumption) | with_reducible exact Txt.b_enumerate (by assumption) | with_reducible exact Txt.b_sum (by assumption) | with_reducible exact Txt.b_min (by assumption) | with_reducible exact Txt.b_list (by assumption) | with_reducible exact Txt.b_max (by assumption) | with_reducible exact Txt.b_repr (by assumption) | with_reducible exact Txt.b_range (by assumption)
  k_with "mgI" => first | with_reducible exact Txt.c_MOST_LEVEL (by assumption) | with_reducible exact Txt.c_FILL (by assumption) | with_reducible exact Txt.c_PACKS (by assumption) | with_reducible exact Txt.c_MOST_SIZE (by assumption) | with_reducible exact Txt.c_MOST_DELAY (by assumption) | with_reducible exact Txt.c_MOST_HOUSES (by assumption) | with_reducible exact Txt.c_MOST_WAIT (by assumption) | with_reducible exact Txt.c_MOST_DEMAND (by assumption) | with_reducible exact Txt.c_MOST_DEEDS (by assumption) | with_reducible exact Txt.c_SELL (by assumption) | with_reducible exact Txt.c_EXCHANGE (by assumption)
  k_with "xk" => fail
  k_with "xd" => first | with_reducible exact Txt.x_BadChain (by assumption) | with_reducible exact Txt.x_BadDemand (by assumption) | with_reducible exact Txt.x_BadNumber (by assumption) | with_reducible exact Txt.x_BadRule (by assumption) | with_reducible exact Txt.x_TooGreat (by assumption)
  k_with "rd" => first | with_reducible exact XDef.rd (Txt.x_BadChain (by assumption)) | with_reducible exact XDef.rd (Txt.x_BadDemand (by assumption)) | with_reducible exact XDef.rd (Txt.x_BadNumber (by assumption)) | with_reducible exact XDef.rd (Txt.x_BadRule (by assumption)) | with_reducible exact XDef.rd (Txt.x_TooGreat (by assumption))
  k_with "xn" => first | with_reducible exact XDef.nm (Txt.x_BadChain (by assumption)) | with_reducible exact XDef.nm (Txt.x_BadDemand (by assumption)) | with_reducible exact XDef.nm (Txt.x_BadNumber (by assumption)) | with_reducible exact XDef.nm (Txt.x_BadRule (by assumption)) | with_reducible exact XDef.nm (Txt.x_TooGreat (by assumption)) | with_reducible exact Txt.n_Led (by assumption)
  k_with "isk" => exact isK_of (Txt.tab (by assumption)) (by decide +kernel)
  k_with "isb" => exact isB_of (Txt.tab (by assumption)) (by decide +kernel)
  k_with "bootx" => fail
  k_with "fmk" => first | with_reducible exact fm_later | with_reducible exact fm_past
  k_with "clsf" => first | with_reducible exact Txt.cls_Led (by assumption)
  k_with "insn" => first | with_reducible exact Txt.ins_Led (by assumption)
  k_with "mgT" => fail
  k_with "xmk" => fail
  trivial
section
variable {P : Program} {w : World} {K : PySem.W.Frag} {mg : Str → Option Value} {base : Heap}
/-! ### _law_mixed -/
abbrev s__law_mixed : Stmt := top 40
theorem sc__law_mixed : FnScope ["_law_cell", "_law_n", "_law_blend"] ["_law_cell", "_law_n"] (defScope s__law_mixed) := ⟨rfl, rfl, rfl, by decide +kernel, rfl, by decide +kernel, by decide +kernel⟩
abbrev nm__law_mixed : Nms := ⟨["_law_cell", "_law_n", "_law_blend"], ["_law_cell", "_law_n", "_law_blend"], ["_law_cell", "_law_n", "_law_blend"], ["int"], [], false⟩
theorem no__law_mixed : nm__law_mixed.ok (defScope s__law_mixed) = true := by decide +kernel
def sp__law_mixed : Sp2 := fun ds M Q _ => ∃ c n : Int, ds = [.int c, .int n] ∧ Bd 64 c ∧ Bd 40 n ∧ ∀ r : Int, 0 ≤ r → r < 2147483648 → Q (.int r) M
theorem ok__law_mixed {f : Addr} {fd : FuncData} (F : Fun K "_law_mixed" "_law_mixed" s__law_mixed f fd) (T : Txt P w K mg base)  : Fn2 P w K mg base 1 f fd ["_law_cell", "_law_n"] sp__law_mixed := by
  refine fn2_of F sc__law_mixed no__law_mixed (fun ds M Q E h => ?_) (fun X ds M Q E C h => ?_)
  · repeat (first | (obtain ⟨rfl, _⟩ := h; rfl) | (obtain ⟨_, h⟩ := h))
  · obtain ⟨c, n, rfl, hc, hn, k⟩ := h
    show WSs X _ _ [some (.int c), some (.int n), none] M
    refine wss_cons ?_
    have b2 : Bd 42 (2 * n) := (Bd.mul (a := 2) (b := 40) (by decide) hn)
    have b3 : Bd 43 (1 + 2 * n) := Bd.add (Bd.le (a := 1) (by decide) (by decide)) b2
    have b4 : Bd 107 (c * (1 + 2 * n)) := hc.mul b3
    have b5 : Bd 53 (7919 * n) := Bd.mul (a := 13) (by decide) hn
    have b6 : Bd 93 (7919 * n * n) := b5.mul hn
    have b7 : Bd 57 (104729 * n) := Bd.mul (a := 17) (by decide) hn
    have b8 : Bd 31 ((c * (1 + 2 * n) * 48271).fmod 2147483647) := Bd.b31 (Int.fmod_nonneg_of_pos _ (by decide)) (Int.lt_trans (Int.fmod_lt_of_pos _ (by decide)) (by decide))
    have b9 : Bd 95 ((c * (1 + 2 * n) * 48271).fmod 2147483647 + 7919 * n * n + 104729 * n) := Bd.add (Bd.add (b8.le (by decide)) (b6.le (by decide))) (b7.le (by decide))
    repeat' (k_extra "y")
    · exact mulW (a := 2) (b := 40) (by decide) hn
    · exact mulW hc b3
    · exact mulW (b := 16) b4 (by decide)
    · exact mulW (a := 13) (by decide) hn
    · exact mulW b5 hn
    · exact mulW (a := 17) (by decide) hn
    · exact mulW (b := 17) b9 (by decide)
    · exact divW' (by decide) (by decide)
    · generalize ((c * (1 + 2 * n) * 48271).fmod 2147483647 + 7919 * n * n + 104729 * n) * 69621 = z
      have h1 := Int.fmod_nonneg_of_pos z (b := 2147483629) (by decide)
      have h2 := Int.fmod_lt_of_pos z (b := 2147483629) (by decide)
      exact k _ (Int.ediv_nonneg h1 (by decide)) (by omega)
/-! ### _law_folded -/
abbrev s__law_folded : Stmt := top 41
theorem sc__law_folded : FnScope ["_law_script", "_law_found", "_law_n", "_law_cell"] ["_law_script"] (defScope s__law_folded) := ⟨rfl, rfl, rfl, by decide +kernel, rfl, by decide +kernel, by decide +kernel⟩
abbrev nm__law_folded : Nms := ⟨["_law_script", "_law_n", "_law_found", "_law_cell"], ["_law_script", "_law_n", "_law_found", "_law_cell"], ["_law_script", "_law_n", "_law_found", "_law_cell"], ["range", "enumerate", "int"], [], false⟩
theorem no__law_folded : nm__law_folded.ok (defScope s__law_folded) = true := by decide +kernel
abbrev nb__law_folded_0 : Nms := ⟨["_law_n"], ["_law_n"], ["_law_n"], [], [], false⟩
abbrev ow__law_folded_0 : List (Str × Nat) := [("_law_n", 2)]
def Cells (cs : List Int) : Prop := cs.length = 64 ∧ ∀ x ∈ cs, 0 ≤ x ∧ x < 2147483648
theorem cells_mod (z : Int) : 0 ≤ z.fmod 2147483647 ∧ z.fmod 2147483647 < 2147483648 := ⟨Int.fmod_nonneg_of_pos _ (by decide), Int.lt_trans (Int.fmod_lt_of_pos _ (by decide)) (by decide)⟩
def sp__law_folded : Sp2 := fun ds M Q _ => ∃ ns : List Int, ds = [.ro (ns.map D.int)] ∧ ∀ p cs, M p = none → Cells cs → Q (.obj p) (mup M p (.lst (cs.map D.int)))
theorem ok__law_folded {f : Addr} {fd : FuncData} (F : Fun K "_law_folded" "_law_folded" s__law_folded f fd) (T : Txt P w K mg base)  : Fn2 P w K mg base 1 f fd ["_law_script"] sp__law_folded := by
  refine fn2_of F sc__law_folded no__law_folded (fun ds M Q E h => ?_) (fun X ds M Q E C h => ?_)
  · repeat (first | (obtain ⟨rfl, _⟩ := h; rfl) | (obtain ⟨_, h⟩ := h))
  · obtain ⟨ns, rfl, k⟩ := h
    show WSs X _ _ [some (.ro (ns.map D.int)), none, none, none] M
    refine wss_cons ?_
    refine ws_setLcP (own := ow__law_folded_0) (t := .nm 2) C (by k_extra "nm") (by k_extra "gl") rfl rfl (by decide +kernel) (by decide) (fun X' B => pt2_name (C.blk (sc2 := nb__law_folded_0) B rfl (by decide +kernel)) (by k_extra "nm") (by k_extra "gl")) (fun _ => rfl) (fun d => match d with | .int i => .int (17 + i) | d => d) ?_
    k_extra "y"
    k_extra "y"
    refine ⟨64, rfl, by decide, by decide, ⟨by decide, fun _ _ _ => trivial, fun d Dd acc hd _ => ?_⟩, fun p hp => ⟨_, by k_extra "put", ?_⟩⟩
    · obtain ⟨i, _, rfl⟩ := List.mem_map.mp hd
      refine ⟨[some (.ro (ns.map D.int)), none, some (.int (0 + (i : Nat))), none], rfl, fun X' B => ?_⟩
      have C' := C.blk (sc2 := nb__law_folded_0) B rfl (by decide +kernel)
      repeat' (k_extra "y")
      exact ⟨rfl, rfl⟩
    · obtain ⟨cs, e, hc⟩ : ∃ cs : List Int, ((List.range (64 : Int).toNat).map fun i => D.int (0 + (i : Nat))).map (fun d => match d with | .int i => D.int (17 + i) | d => d) = cs.map D.int ∧ Cells cs := by
        refine ⟨(List.range 64).map fun i => 17 + (0 + ((i : Nat) : Int)), ?_, by simp, fun x hx => ?_⟩
        · rw [List.map_map, List.map_map]; rfl
        · obtain ⟨i, hi, rfl⟩ := List.mem_map.mp hx
          have := List.mem_range.mp hi
          omega
      rw [e]
      clear e
      refine wss_cons ?_
      refine ws_for (t := .tp [.nm 2, .nm 3]) C (by k_extra "tgt") (fun _ => rfl) ?_
      k_extra "enR"
      k_extra "y"
      refine ⟨_, rfl, fun i ρ M' => ∃ cs a b, ρ = [some (.ro (ns.map D.int)), some (.obj p), a, b] ∧ M' = mup M p (.lst (cs.map D.int)) ∧ Cells cs, ⟨cs, _, _, rfl, rfl, hc⟩, fun _ _ _ _ => trivial, ?_, ?_⟩
      · rintro i d ρ M' hd ⟨cs, a, b, rfl, rfl, hc⟩
        obtain ⟨e, he, rfl⟩ := enumD_get hd
        obtain ⟨z, rfl, _⟩ := get_ints he
        refine ⟨[some (.ro (ns.map D.int)), some (.obj p), some (.int (i : Nat)), some (.int z)], rfl, ?_⟩
        have h1 := Int.fmod_nonneg_of_pos (i : Int) (b := 64) (by decide)
        have h2 := Int.fmod_lt_of_pos (i : Int) (b := 64) (by decide)
        obtain ⟨x, hx, ex⟩ := atI_int (cs := cs) h1 (by rw [hc.1]; exact h2)
        have bx := hc.2 x hx
        repeat' (k_extra "y")
        refine q_ix (items_lst mup_same) ex ?_
        repeat' (k_extra "y")
        · exact mulW (b := 16) (Bd.b31 bx.1 bx.2) (by decide)
        · refine ⟨p, _, _, _, rfl, rfl, mup_same, ixN_in h1 (by rw [List.length_map, hc.1]; exact h2), ?_⟩
          rw [mup_mup, set_ints]
          exact ⟨_, _, _, rfl, rfl, by rw [List.length_set]; exact hc.1, mem_set hc.2 (cells_mod _)⟩
      · rintro ρ M' ⟨cs, a, b, rfl, rfl, hc⟩
        refine wss_cons ?_
        refine ws_for (t := .nm 2) C (by k_extra "tgt") (fun _ => rfl) ?_
        k_extra "y"
        k_extra "y"
        k_extra "y"
        k_extra "y"
        k_extra "y"
        k_extra "y"
        refine ⟨1, 64, rfl, by decide, fun i ρ M' => ∃ cs a, ρ = [some (.ro (ns.map D.int)), some (.obj p), a, b] ∧ M' = mup M p (.lst (cs.map D.int)) ∧ Cells cs, ⟨cs, _, rfl, rfl, hc⟩, fun _ _ _ _ => trivial, ?_, ?_⟩
        · rintro i d ρ M' hd ⟨cs, a, rfl, rfl, hc⟩
          obtain ⟨hi, rfl⟩ := rng_get hd
          have hi' : i < 63 := hi
          refine ⟨[some (.ro (ns.map D.int)), some (.obj p), some (.int (1 + (i : Nat))), b], rfl, ?_⟩
          obtain ⟨x, hx, ex⟩ := atI_int (cs := cs) (k := 1 + (i : Nat)) (by omega) (by rw [hc.1]; omega)
          obtain ⟨y, hy, ey⟩ := atI_int (cs := cs) (k := 1 + (i : Nat) - 1) (by omega) (by rw [hc.1]; omega)
          have bx := hc.2 x hx
          have bY := hc.2 y hy
          repeat' (k_extra "y")
          refine q_ix (items_lst mup_same) ex ?_
          repeat' (k_extra "y")
          refine q_ix (items_lst mup_same) ey ?_
          repeat' (k_extra "y")
          · exact mulW (b := 15) (Bd.b31 bY.1 bY.2) (by decide)
          · refine ⟨p, _, _, _, rfl, rfl, mup_same, ixN_in (by omega) (by rw [List.length_map, hc.1]; omega), ?_⟩
            rw [mup_mup, set_ints]
            exact ⟨_, _, rfl, rfl, by rw [List.length_set]; exact hc.1, mem_set hc.2 (cells_mod _)⟩
        · rintro ρ M' ⟨cs, a, rfl, rfl, hc⟩
          repeat' (k_extra "y")
          exact k p cs hp hc
/-! ### _law_draw -/
abbrev s__law_draw : Stmt := top 38
theorem sc__law_draw : FnScope ["_law_m", "_law_limit", "_law_n", "_law_lot", "_law_here", "_law_cell"] ["_law_m", "_law_limit"] (defScope s__law_draw) := ⟨rfl, rfl, rfl, by decide +kernel, rfl, by decide +kernel, by decide +kernel⟩
abbrev nm__law_draw : Nms := ⟨["_law_m", "_law_limit", "_law_n", "_law_lot", "_law_here", "_law_cell"], ["_law_m", "_law_limit", "_law_n", "_law_lot", "_law_here", "_law_cell"], ["_law_m", "_law_limit", "_law_n", "_law_lot", "_law_here", "_law_cell"], ["int", "len", "_law_mixed"], [], false⟩
theorem no__law_draw : nm__law_draw.ok (defScope s__law_draw) = true := by decide +kernel
/-- the state from which all numbers are drawn: at m, its list of great cells at g, behind n numbers -/
def Drw (M : Mem) (m g c : Addr) (n : Int) : Prop := ∃ (cs gs : List Int), M m = some (.dk [(.inr "cells", .obj c), (.inr "great", .obj g), (.inr "spot", .int n)]) ∧ M c = some (.lst (cs.map D.int)) ∧ M g = some (.lst (gs.map D.int)) ∧ c ≠ g ∧ Cells cs ∧ (∀ x ∈ gs, 0 ≤ x) ∧ 0 ≤ n
/-- all that stood, but m and g, is as it was -/
def But (m g : Addr) (M M' : Mem) : Prop := ∀ b o, b ≠ m → b ≠ g → M b = some o → M' b = some o
theorem But.refl {m g : Addr} (M : Mem) : But m g M M := fun _ _ _ _ h => h
theorem But.trans {m g : Addr} {A B C : Mem} (h : But m g A B) (k : But m g B C) : But m g A C := fun b o x y e => k b o x y (h b o x y e)
theorem But.new {m g p : Addr} {o : MO} {M : Mem} (h : M p = none) : But m g M (mup M p o) := fun b u _ _ e => (mup_ne (mem_ne e h)).trans e
theorem n_cg : ¬ (Str.ofString "cells" = Str.ofString "great") := by decide +kernel
theorem n_cs : ¬ (Str.ofString "cells" = Str.ofString "spot") := by decide +kernel
theorem n_gs : ¬ (Str.ofString "great" = Str.ofString "spot") := by decide +kernel
theorem n_sg : ¬ (Str.ofString "spot" = Str.ofString "great") := by decide +kernel
theorem val_c {a b c : D} : valD [((Sum.inr (Str.ofString "cells") : Key), a), (Sum.inr (Str.ofString "great"), b), (Sum.inr (Str.ofString "spot"), c)] (Sum.inr (Str.ofString "cells")) = some a := by simp [valD]
theorem val_g {a b c : D} : valD [((Sum.inr (Str.ofString "cells") : Key), a), (Sum.inr (Str.ofString "great"), b), (Sum.inr (Str.ofString "spot"), c)] (Sum.inr (Str.ofString "great")) = some b := by simp [valD, n_cg, List.find?_cons]
theorem val_s {a b c : D} : valD [((Sum.inr (Str.ofString "cells") : Key), a), (Sum.inr (Str.ofString "great"), b), (Sum.inr (Str.ofString "spot"), c)] (Sum.inr (Str.ofString "spot")) = some c := by simp [valD, n_cs, n_gs, List.find?_cons]
theorem put_s {a b c d : D} : putD [((Sum.inr (Str.ofString "cells") : Key), a), (Sum.inr (Str.ofString "great"), b), (Sum.inr (Str.ofString "spot"), c)] (Sum.inr (Str.ofString "spot")) d = [((Sum.inr (Str.ofString "cells") : Key), a), (Sum.inr (Str.ofString "great"), b), (Sum.inr (Str.ofString "spot"), d)] := by simp [putD, n_cs, n_gs]
theorem put_g {a b c d : D} : putD [((Sum.inr (Str.ofString "cells") : Key), a), (Sum.inr (Str.ofString "great"), b), (Sum.inr (Str.ofString "spot"), c)] (Sum.inr (Str.ofString "great")) d = [((Sum.inr (Str.ofString "cells") : Key), a), (Sum.inr (Str.ofString "great"), d), (Sum.inr (Str.ofString "spot"), c)] := by simp [putD, n_cg, n_sg]
def sp__law_draw : Sp2 := fun ds M Q _ => ∃ (m g c : Addr) (n l : Int), ds = [.obj m, .int l] ∧ Drw M m g c n ∧ 0 < l ∧ l < 1152921504606846976 ∧ n < 274877906944 ∧ ∀ (r : Int) (M' : Mem), 0 ≤ r → r < l → Drw M' m g c (n + 1) → But m g M M' → Q (.int r) M'
theorem ok__law_draw {f : Addr} {fd : FuncData} (F : Fun K "_law_draw" "_law_draw" s__law_draw f fd) (T : Txt P w K mg base) (G__law_mixed : Def2 P w K mg base 1 "_law_mixed" ["_law_cell", "_law_n"] sp__law_mixed) : Fn2 P w K mg base 2 f fd ["_law_m", "_law_limit"] sp__law_draw := by
  refine fn2_of F sc__law_draw no__law_draw (fun ds M Q E h => ?_) (fun X ds M Q E C h => ?_)
  · repeat (first | (obtain ⟨rfl, _⟩ := h; rfl) | (obtain ⟨_, h⟩ := h))
  · obtain ⟨m, g, c, n, l, rfl, ⟨cs, gs, hm, hc, hg, cg, Cc, Cg, n0⟩, l0, l1, n1, k⟩ := h
    show WSs X _ _ [some (.obj m), some (.int l), none, none, none, none] M
    have mc : c ≠ m := fun e => by subst e; rw [hc] at hm; cases hm
    have mg' : g ≠ m := fun e => by subst e; rw [hg] at hm; cases hm
    refine wss_cons ?_
    k_extra "y"
    k_extra "y"
    k_extra "y"
    refine ⟨m, _, .int n, rfl, hm, val_s, ?_⟩
    k_extra "y"
    k_extra "y"
    k_extra "y"
    repeat' (k_extra "y")
    refine ⟨m, _, rfl, hm, by show 3 < sizeLine; decide, ?_⟩
    rw [put_s]
    generalize hM1 : mup M m (.dk [(.inr "cells", .obj c), (.inr "great", .obj g), (.inr "spot", .int (n + 1))]) = M1
    have hm1 : M1 m = some (.dk [(.inr "cells", .obj c), (.inr "great", .obj g), (.inr "spot", .int (n + 1))]) := by rw [← hM1]; exact mup_same
    have hc1 : M1 c = some (.lst (cs.map D.int)) := by rw [← hM1, mup_ne mc]; exact hc
    have hg1 : M1 g = some (.lst (gs.map D.int)) := by rw [← hM1, mup_ne mg']; exact hg
    have bt1 : But m g M M1 := fun b o h1 h2 e => by rw [← hM1, mup_ne h1]; exact e
    clear hM1
    -- the mixed number
    have last : ∀ (a b d : Option D) (M2 : Mem), M2 m = some (.dk [(.inr "cells", .obj c), (.inr "great", .obj g), (.inr "spot", .int (n + 1))]) → M2 c = some (.lst (cs.map D.int)) → M2 g = some (.lst (gs.map D.int)) → But m g M M2 →
        WSs X ((defBody s__law_draw).drop 3) { nx := fun _ M' => Q .non M', rt := Q } [some (.obj m), some (.int l), some (.int n), a, b, d] M2 := by
      intro a b d M2 hm2 hc2 hg2 bt2
      refine wss_cons ?_
      k_extra "y"
      k_extra "y"
      k_extra "y"
      refine ⟨m, _, _, rfl, hm2, val_c, ?_⟩
      have h1 := Int.fmod_nonneg_of_pos n (b := 64) (by decide)
      have h2 := Int.fmod_lt_of_pos n (b := 64) (by decide)
      obtain ⟨x, hx, ex⟩ := atI_int (cs := cs) h1 (by rw [Cc.1]; exact h2)
      have bx := Cc.2 x hx
      repeat' (k_extra "y")
      refine q_ix (items_lst hc2) ex ?_
      repeat' (k_extra "y")
      · exact divW' (by decide) (by decide)
      · exact mulW (a := 5) (b := 40) (by decide) (by unfold Bd; omega)
      · refine ⟨_, _, rfl, by unfold Bd; omega, by unfold Bd; omega, fun r1 r10 r11 => ?_⟩
        repeat' (k_extra "y")
        refine ⟨_, _, rfl, by unfold Bd; omega, by unfold Bd; omega, fun r2 r20 r21 => ?_⟩
        repeat' (k_extra "y")
        · omega
        · exact k _ _ (Int.fmod_nonneg_of_pos _ l0) (Int.fmod_lt_of_pos _ l0) ⟨cs, gs, hm2, hc2, hg2, cg, Cc, Cg, by omega⟩ bt2
    refine wss_cons ?_
    k_extra "y"
    k_extra "y"
    k_extra "y"
    k_extra "y"
    refine ⟨m, _, _, rfl, hm1, val_g, ?_⟩
    k_extra "y"
    k_extra "y"
    refine ⟨by decide, fun q hq => ?_⟩
    have gq := mem_ne hg1 hq
    have cq := mem_ne hc1 hq
    have mq := mem_ne hm1 hq
    refine q_neNil (gs := gs) ((mup_ne gq).trans hg1) mup_same ?_
    have bt2 : But m g M (mup M1 q (.lst [])) := bt1.trans (But.new hq)
    have hm2 : mup M1 q (.lst []) m = some (.dk [(.inr "cells", .obj c), (.inr "great", .obj g), (.inr "spot", .int (n + 1))]) := (mup_ne mq).trans hm1
    have hc2 : mup M1 q (.lst []) c = some (.lst (cs.map D.int)) := (mup_ne cq).trans hc1
    have hg2 : mup M1 q (.lst []) g = some (.lst (gs.map D.int)) := (mup_ne gq).trans hg1
    generalize mup M1 q (.lst []) = M2 at bt2 hm2 hc2 hg2 ⊢
    refine q_isB (Br.not (Br.dec (fun e => ?_) fun ne => ?_))
    · refine wss_nil ?_
      exact last _ _ _ M2 hm2 hc2 hg2 bt2
    · have gl : 0 < gs.length := List.length_pos_iff.mpr ne
      refine wss_cons ?_
      k_extra "y"
      k_extra "y"
      k_extra "y"
      refine ⟨m, _, _, rfl, hm2, val_g, ?_⟩
      have h1 := Int.fmod_nonneg_of_pos n (b := ((gs.map D.int).length : Nat)) (by rw [List.length_map]; omega)
      have h2 := Int.fmod_lt_of_pos n (b := ((gs.map D.int).length : Nat)) (by rw [List.length_map]; omega)
      obtain ⟨x, hx, ex⟩ := atI_int (cs := gs) h1 (by rw [List.length_map] at h2; rw [List.length_map]; exact h2)
      have bx := Cg x hx
      repeat' (k_extra "y")
      · rw [List.length_map]; omega
      refine q_ix (items_lst hg2) ex ?_
      repeat' (k_extra "y")
      refine Br.dec (fun hp => ?_) fun hp => ?_
      · repeat' (k_extra "y")
        · exact divW' l0 l1
        · refine ⟨g, _, _, _, rfl, rfl, hg2, ixN_in h1 h2, ?_⟩
          rw [set_ints]
          repeat' (k_extra "y")
          · omega
          · refine k _ _ (Int.fmod_nonneg_of_pos _ l0) (Int.fmod_lt_of_pos _ l0) ⟨cs, _, (mup_ne (Ne.symm mg')).trans hm2, (mup_ne cg).trans hc2, mup_same, cg, Cc, mem_set Cg (Int.ediv_nonneg bx (by omega)), by omega⟩ fun b o b1 b2 e => ?_
            exact (mup_ne b2).trans (bt2 b o b1 b2 e)
      · refine wss_nil ?_
        exact last _ _ _ M2 hm2 hc2 hg2 bt2
/-! ### _law_begun -/
abbrev s__law_begun : Stmt := top 37
theorem sc__law_begun : FnScope ["_law_script", "_law_m", "_law_cell"] ["_law_script"] (defScope s__law_begun) := ⟨rfl, rfl, rfl, by decide +kernel, rfl, by decide +kernel, by decide +kernel⟩
abbrev nm__law_begun : Nms := ⟨["_law_script", "_law_m"], ["_law_script", "_law_m"], ["_law_script", "_law_m"], ["_law_folded"], [], false⟩
theorem no__law_begun : nm__law_begun.ok (defScope s__law_begun) = true := by decide +kernel
abbrev nb__law_begun_0 : Nms := ⟨["_law_cell"], ["_law_cell"], ["_law_cell"], [], [], false⟩
abbrev ow__law_begun_0 : List (Str × Nat) := [("_law_cell", 2)]
def sp__law_begun : Sp2 := fun ds M Q _ => ∃ ns : List Int, ds = [.ro (ns.map D.int)] ∧ ns.length ≤ 63 ∧ ∀ m g c M', Ext M M' → Drw M' m g c 0 → Q (.obj m) M'
theorem ok__law_begun {f : Addr} {fd : FuncData} (F : Fun K "_law_begun" "_law_begun" s__law_begun f fd) (T : Txt P w K mg base) (G__law_folded : Def2 P w K mg base 1 "_law_folded" ["_law_script"] sp__law_folded) : Fn2 P w K mg base 2 f fd ["_law_script"] sp__law_begun := by
  refine fn2_of F sc__law_begun no__law_begun (fun ds M Q E h => ?_) (fun X ds M Q E C h => ?_)
  · repeat (first | (obtain ⟨rfl, _⟩ := h; rfl) | (obtain ⟨_, h⟩ := h))
  · obtain ⟨ns, rfl, hl, k⟩ := h
    show WSs X _ _ [some (.ro (ns.map D.int)), none, none] M
    refine wss_cons ?_
    k_extra "y"
    with_reducible apply we_disp3
    · decide +kernel
    · decide +kernel
    · decide +kernel
    intro m hm
    k_extra "y"
    k_extra "y"
    k_extra "y"
    k_extra "y"
    refine ⟨ns, rfl, fun c cs hc Cc => ?_⟩
    have mc := mem_ne (mup_same : mup M m (.dk []) m = _) hc
    k_extra "y"
    k_extra "y"
    refine ⟨by decide, fun g hg => ?_⟩
    have cg := mem_ne (mup_same : mup (mup M m (.dk [])) c (.lst (cs.map D.int)) c = _) hg
    have mg' := mem_ne (show mup (mup M m (.dk [])) c (.lst (cs.map D.int)) m = _ from (mup_ne mc).trans mup_same) hg
    k_extra "y"
    refine ⟨(mup_ne mg').trans ((mup_ne mc).trans mup_same), ?_⟩
    generalize hM1 : mup (mup (mup (mup M m (.dk [])) c (.lst (cs.map D.int))) g (.lst [])) m (.dk [(.inr (Str.ofString "cells"), .obj c), (.inr (Str.ofString "great"), .obj g), (.inr (Str.ofString "spot"), .int 0)]) = M1
    have hm1 : M1 m = some (.dk [(.inr (Str.ofString "cells"), .obj c), (.inr (Str.ofString "great"), .obj g), (.inr (Str.ofString "spot"), .int 0)]) := by rw [← hM1]; exact mup_same
    have x0 : Ext M M1 := by
      have a1 := (Ext.new (o := .dk []) hm)
      have a2 := a1.put (p := c) (o := .lst (cs.map D.int)) (a1.free hc)
      have a3 := a2.put (p := g) (o := .lst []) (a2.free hg)
      rw [← hM1]
      exact a3.put hm
    have hc1 : M1 c = some (.lst (cs.map D.int)) := by rw [← hM1]; exact (mup_ne (Ne.symm mc)).trans ((mup_ne cg).trans mup_same)
    clear hM1
    k_extra "y"
    refine wss_cons ?_
    with_reducible refine' ws_dputS C ?_ ?_
    · k_dflt rfl
    refine we_lcP (own := ow__law_begun_0) (t := .nm 2) C (by decide +kernel) (by decide) (fun X' B => pt2_name (C.blk (sc2 := nb__law_begun_0) B rfl (by decide +kernel)) (by k_extra "nm") (by k_extra "gl")) (fun _ => rfl) (fun d => match d with | .int i => .int (if 10 ^ 18 ≤ i then i else 0) | d => d) ?_
    refine wi_ro ?_
    k_extra "y"
    refine ⟨_, rfl, ⟨by rw [List.length_map]; exact Nat.le_trans hl (by decide), fun _ _ _ => trivial, fun d Dd acc hd _ => ?_⟩, fun p hp => ?_⟩
    · obtain ⟨i, _, rfl⟩ := List.mem_map.mp hd
      refine ⟨[some (.ro (ns.map D.int)), some (.obj m), some (.int i)], rfl, fun X' B => ?_⟩
      have C' := C.blk (sc2 := nb__law_begun_0) B rfl (by decide +kernel)
      repeat' (k_extra "y")
      · refine Br.dec (fun h => ?_) fun h => ?_
        · repeat' (k_extra "y")
          exact ⟨rfl, by show D.int i = D.int (if (10 : Int) ^ 18 ≤ i then i else 0); rw [if_pos (show (10 : Int) ^ 18 ≤ i from h)]⟩
        · repeat' (k_extra "y")
          exact ⟨rfl, by show D.int 0 = D.int (if (10 : Int) ^ 18 ≤ i then i else 0); rw [if_neg (show ¬ (10 : Int) ^ 18 ≤ i from h)]⟩
    · have e : (ns.map D.int).map (fun d => match d with | .int i => D.int (if 10 ^ 18 ≤ i then i else 0) | d => d) = (ns.map fun i => if 10 ^ 18 ≤ i then i else 0).map D.int := by rw [List.map_map, List.map_map]; rfl
      rw [e]
      clear e
      have pm := mem_ne hm1 hp
      have pc := mem_ne hc1 hp
      repeat' (k_extra "y")
      refine ⟨m, _, rfl, (mup_ne pm).trans hm1, by show 3 < sizeLine; decide, ?_⟩
      rw [put_g]
      repeat' (k_extra "y")
      refine k m p c _ ((x0.put (x0.free hp)).put hm) ⟨cs, _, mup_same, (mup_ne (Ne.symm mc)).trans ((mup_ne pc).trans hc1), (mup_ne (Ne.symm pm)).trans mup_same, pc, Cc, fun x hx => ?_, by omega⟩
      obtain ⟨y, _, rfl⟩ := List.mem_map.mp hx
      split <;> omega
theorem Drw.put {M : Mem} {m g c p : Addr} {n : Int} {o : MO} (d : Drw M m g c n) (h1 : p ≠ m) (h2 : p ≠ g) (h3 : p ≠ c) : Drw (mup M p o) m g c n := by
  obtain ⟨cs, gs, e1, e2, e3, r⟩ := d
  exact ⟨cs, gs, (mup_ne (Ne.symm h1)).trans e1, (mup_ne (Ne.symm h3)).trans e2, (mup_ne (Ne.symm h2)).trans e3, r⟩
theorem Drw.ne {M : Mem} {m g c p : Addr} {n : Int} (d : Drw M m g c n) (h : M p = none) : p ≠ m ∧ p ≠ g ∧ p ≠ c := by
  obtain ⟨cs, gs, h1, h2, h3, r⟩ := d
  exact ⟨(mem_ne h1 h).symm, (mem_ne h3 h).symm, (mem_ne h2 h).symm⟩
theorem But.free {m g p : Addr} {M M' : Mem} (b : But m g M M') (h : M' p = none) (h1 : p ≠ m) (h2 : p ≠ g) : M p = none := by
  cases e : M p with
  | none => rfl
  | some o => have := b p o h1 h2 e; rw [h] at this; cases this
theorem But.put {m g p : Addr} {o : MO} {M M' : Mem} (b : But m g M M') (h : M p = none) : But m g M (mup M' p o) := fun a u h1 h2 e => by
  by_cases z : a = p
  · subst z; rw [h] at e; cases e
  · exact (mup_ne z).trans (b a u h1 h2 e)
theorem Drw.eq {M : Mem} {m g c : Addr} {n k : Int} (d : Drw M m g c n) (h : n = k) : Drw M m g c k := h ▸ d
theorem Drw.ext {M M' : Mem} {m g c : Addr} {n : Int} (d : Drw M m g c n) (x : Ext M M') : Drw M' m g c n := by
  obtain ⟨cs, gs, h1, h2, h3, r⟩ := d
  exact ⟨cs, gs, x _ _ h1, x _ _ h2, x _ _ h3, r⟩

/-! ### _law_like -/
abbrev s__law_like : Stmt := top 39
theorem sc__law_like : FnScope ["_law_answer", "_law_due"] ["_law_answer", "_law_due"] (defScope s__law_like) := ⟨rfl, rfl, rfl, by decide +kernel, rfl, by decide +kernel, by decide +kernel⟩
abbrev nm__law_like : Nms := ⟨["_law_answer", "_law_due"], ["_law_answer", "_law_due"], ["_law_answer", "_law_due"], ["repr"], [], false⟩
theorem no__law_like : nm__law_like.ok (defScope s__law_like) = true := by decide +kernel
def sp__law_like : Sp2 := fun ds M Q _ => ∃ (d1 d2 : D) (p : PyData) (l1 k1 l2 k2 : Nat), ds = [d1, d2] ∧ PyS M l1 k1 d1 p ∧ PyS M l2 k2 d2 p ∧ l1 ≤ sizeLine ∧ k1 ≤ 60 ∧ l2 ≤ sizeLine ∧ k2 ≤ 60 ∧ Q (.bl true) M
theorem ok__law_like {f : Addr} {fd : FuncData} (F : Fun K "_law_like" "_law_like" s__law_like f fd) (T : Txt P w K mg base)  : Fn2 P w K mg base 1 f fd ["_law_answer", "_law_due"] sp__law_like := by
  refine fn2_of F sc__law_like no__law_like (fun ds M Q E h => ?_) (fun X ds M Q E C h => ?_)
  · repeat (first | (obtain ⟨rfl, _⟩ := h; rfl) | (obtain ⟨_, h⟩ := h))
  · obtain ⟨d1, d2, p, l1, k1, l2, k2, rfl, h1, h2, b1, b2, b3, b4, k⟩ := h
    show WSs X _ _ [some d1, some d2] M
    refine wss_one ?_
    repeat' (k_extra "y")
    refine q_repr h1 b1 b2 ?_
    repeat' (k_extra "y")
    refine q_repr h2 b3 b4 ?_
    repeat' (k_extra "y")
    simpa using k
structure Hs where
  fl : Bool
  lo : Int
  mo : Int
  la : Int
def kw (b : Bool) : Str := if b then "fill" else "packs"
def ruD (h : Hs) : D := .tup [.str (kw h.fl), .int h.lo, .int h.mo]
def hsD (h : Hs) : D := .tup [.tup [.str (kw h.fl), .int h.lo, .int h.mo], .int h.la]
structure HOk (h : Hs) : Prop where
  l0 : 0 ≤ h.lo
  l1 : h.lo ≤ 30
  f : h.fl = true → h.lo ≤ h.mo ∧ h.mo ≤ 30
  p : h.fl = false → 1 ≤ h.mo ∧ h.mo ≤ 10
  d0 : 1 ≤ h.la
  d1 : h.la ≤ 4
theorem kw_t : kw true = "fill" := rfl
theorem kw_f : kw false = "packs" := rfl
theorem n_pf : ¬ (Str.ofString "packs" = Str.ofString "fill") := by decide +kernel
def chD (hs : List Hs) (w : Int) : D := .tup [.tup (hs.map hsD), .int w]
structure COk (hs : List Hs) (w : Int) : Prop where
  n0 : 1 ≤ hs.length
  n1 : hs.length ≤ 3
  h : ∀ h ∈ hs, HOk h
  w0 : 0 ≤ w
  w1 : w ≤ 9
def topH (h : Hs) : Int := if h.fl = true then h.mo else h.lo + h.mo - 1
/-! ### is_whole -/
abbrev s_is_whole : Stmt := top 17
theorem sc_is_whole : FnScope ["value", "least", "most"] ["value", "least", "most"] (defScope s_is_whole) := ⟨rfl, rfl, rfl, by decide +kernel, rfl, by decide +kernel, by decide +kernel⟩
abbrev nm_is_whole : Nms := ⟨["value", "least", "most"], ["value", "least", "most"], ["value", "least", "most"], ["isinstance", "int", "bool"], [], false⟩
theorem no_is_whole : nm_is_whole.ok (defScope s_is_whole) = true := by decide +kernel
def sp_is_whole : Sp2 := fun ds M Q _ => ∃ v a b : Int, ds = [.int v, .int a, .int b] ∧ Q (.bl (decide (a ≤ v ∧ v ≤ b))) M
theorem st_is_whole {M : Mem} {Q : QE} {E : XQ} {v a b : Int} (q : Q (.bl (decide (a ≤ v ∧ v ≤ b))) M) : sp_is_whole [.int v, .int a, .int b] M Q E := ⟨v, a, b, rfl, q⟩
theorem ok_is_whole {f : Addr} {fd : FuncData} (F : Fun K "is_whole" "is_whole" s_is_whole f fd) (T : Txt P w K mg base)  : Fn2 P w K mg base 1 f fd ["value", "least", "most"] sp_is_whole := by
  refine fn2_of F sc_is_whole no_is_whole (fun ds M Q E h => ?_) (fun X ds M Q E C h => ?_)
  · repeat (first | (obtain ⟨rfl, _⟩ := h; rfl) | (obtain ⟨_, h⟩ := h))
  · obtain ⟨v, a, b, rfl, k⟩ := h
    show WSs X _ _ [some (.int v), some (.int a), some (.int b)] M
    refine wss_one ?_
    repeat' (k_extra "y")
    refine Br.dec (fun h1 => ?_) fun h1 => ?_
    · repeat' (k_extra "y")
      simpa [h1] using k
    · simpa [h1] using k
example : True := by
  k_with "lq" => first | with_reducible apply st_is_whole | fail
  trivial
/-! ### top_of -/
abbrev s_top_of : Stmt := top 21
theorem sc_top_of : FnScope ["house", "word", "low", "more"] ["house"] (defScope s_top_of) := ⟨rfl, rfl, rfl, by decide +kernel, rfl, by decide +kernel, by decide +kernel⟩
abbrev nm_top_of : Nms := ⟨["house", "word", "low", "more"], ["house", "word", "low", "more"], ["house", "word", "low", "more"], ["FILL"], [], false⟩
theorem no_top_of : nm_top_of.ok (defScope s_top_of) = true := by decide +kernel
def sp_top_of : Sp2 := fun ds M Q _ => ∃ h : Hs, ds = [hsD h] ∧ Q (.int (topH h)) M
theorem st_top_of {M : Mem} {Q : QE} {E : XQ} {h : Hs} (q : Q (.int (topH h)) M) : sp_top_of [hsD h] M Q E := ⟨h, rfl, q⟩
theorem ok_top_of {f : Addr} {fd : FuncData} (F : Fun K "top_of" "top_of" s_top_of f fd) (T : Txt P w K mg base)  : Fn2 P w K mg base 1 f fd ["house"] sp_top_of := by
  refine fn2_of F sc_top_of no_top_of (fun ds M Q E h => ?_) (fun X ds M Q E C h => ?_)
  · repeat (first | (obtain ⟨rfl, _⟩ := h; rfl) | (obtain ⟨_, h⟩ := h))
  · obtain ⟨⟨fl, lo, mo, la⟩, rfl, k⟩ := h
    show WSs X _ _ [some (.tup [.tup [.str (kw fl), .int lo, .int mo], .int la]), none, none, none] M
    have n := n_pf
    cases fl
    · rw [kw_f]
      refine wss_cons ?_
      repeat' (k_extra "y")
      exact k
    · rw [kw_t]
      refine wss_cons ?_
      repeat' (k_extra "y")
      exact k
example : True := by
  k_with "lq" => first | with_reducible apply st_top_of | fail
  trivial
/-! ### is_rule -/
abbrev s_is_rule : Stmt := top 18
theorem sc_is_rule : FnScope ["value"] ["value"] (defScope s_is_rule) := ⟨rfl, rfl, rfl, by decide +kernel, rfl, by decide +kernel, by decide +kernel⟩
abbrev nm_is_rule : Nms := ⟨["value"], ["value"], ["value"], ["isinstance", "tuple", "len", "str", "is_whole", "MOST_LEVEL", "FILL", "PACKS", "MOST_SIZE"], [], false⟩
theorem no_is_rule : nm_is_rule.ok (defScope s_is_rule) = true := by decide +kernel
def sp_is_rule : Sp2 := fun ds M Q _ => ∃ h : Hs, ds = [.tup [.str (kw h.fl), .int h.lo, .int h.mo]] ∧ HOk h ∧ Q (.bl true) M
theorem st_is_rule {M : Mem} {Q : QE} {E : XQ} {h : Hs} (ok : HOk h) (q : Q (.bl true) M) : sp_is_rule [.tup [.str (kw h.fl), .int h.lo, .int h.mo]] M Q E := ⟨h, rfl, ok, q⟩
theorem ok_is_rule {f : Addr} {fd : FuncData} (F : Fun K "is_rule" "is_rule" s_is_rule f fd) (T : Txt P w K mg base) (G_is_whole : Def2 P w K mg base 1 "is_whole" ["value", "least", "most"] sp_is_whole) : Fn2 P w K mg base 2 f fd ["value"] sp_is_rule := by
  refine fn2_of F sc_is_rule no_is_rule (fun ds M Q E h => ?_) (fun X ds M Q E C h => ?_)
  · repeat (first | (obtain ⟨rfl, _⟩ := h; rfl) | (obtain ⟨_, h⟩ := h))
  · obtain ⟨⟨fl, lo, mo, la⟩, rfl, ⟨l0, l1, hf, hp, d0, d1⟩, k⟩ := h
    simp only at l0 l1 hf hp
    show WSs X _ _ [some (.tup [.str (kw fl), .int lo, .int mo])] M
    cases fl
    · have hp := hp rfl
      rw [kw_f]
      have n := n_pf
      refine wss_cons ?_
      repeat' (k_extra "y")
      simpa [hp] using k
    · have hf := hf rfl
      rw [kw_t]
      refine wss_cons ?_
      repeat' (k_extra "y")
      simpa [hf] using k
example : True := by
  k_with "lq" => first | (with_reducible refine' st_is_rule ?st_1 ?_; (case st_1 => assumption)) | fail
  trivial
/-! ### is_house -/
abbrev s_is_house : Stmt := top 19
theorem sc_is_house : FnScope ["value"] ["value"] (defScope s_is_house) := ⟨rfl, rfl, rfl, by decide +kernel, rfl, by decide +kernel, by decide +kernel⟩
abbrev nm_is_house : Nms := ⟨["value"], ["value"], ["value"], ["isinstance", "tuple", "len", "is_rule", "is_whole", "MOST_DELAY"], [], false⟩
theorem no_is_house : nm_is_house.ok (defScope s_is_house) = true := by decide +kernel
def sp_is_house : Sp2 := fun ds M Q _ => ∃ h : Hs, ds = [hsD h] ∧ HOk h ∧ Q (.bl true) M
theorem st_is_house {M : Mem} {Q : QE} {E : XQ} {h : Hs} (ok : HOk h) (q : Q (.bl true) M) : sp_is_house [hsD h] M Q E := ⟨h, rfl, ok, q⟩
theorem ok_is_house {f : Addr} {fd : FuncData} (F : Fun K "is_house" "is_house" s_is_house f fd) (T : Txt P w K mg base) (G_is_whole : Def2 P w K mg base 1 "is_whole" ["value", "least", "most"] sp_is_whole) (G_is_rule : Def2 P w K mg base 2 "is_rule" ["value"] sp_is_rule) : Fn2 P w K mg base 3 f fd ["value"] sp_is_house := by
  refine fn2_of F sc_is_house no_is_house (fun ds M Q E h => ?_) (fun X ds M Q E C h => ?_)
  · repeat (first | (obtain ⟨rfl, _⟩ := h; rfl) | (obtain ⟨_, h⟩ := h))
  · obtain ⟨h, rfl, ok, k⟩ := h
    show WSs X _ _ [some (.tup [.tup [.str (kw h.fl), .int h.lo, .int h.mo], .int h.la])] M
    have d0 := ok.d0
    have d1 := ok.d1
    refine wss_one ?_
    repeat' (k_extra "y")
    simpa [d0, d1] using k
example : True := by
  k_with "lq" => first | (with_reducible refine' st_is_house ?st_1 ?_; (case st_1 => assumption)) | fail
  trivial
/-! ### need_chain -/
abbrev s_need_chain : Stmt := top 20
theorem sc_need_chain : FnScope ["chain", "number", "house"] ["chain"] (defScope s_need_chain) := ⟨rfl, rfl, rfl, by decide +kernel, rfl, by decide +kernel, by decide +kernel⟩
abbrev nm_need_chain : Nms := ⟨["chain", "number", "house"], ["chain", "number", "house"], ["chain", "number", "house"], ["isinstance", "tuple", "len", "BadChain", "MOST_HOUSES", "enumerate", "is_house", "is_whole", "MOST_WAIT"], [], false⟩
theorem no_need_chain : nm_need_chain.ok (defScope s_need_chain) = true := by decide +kernel
def sp_need_chain : Sp2 := fun ds M Q _ => ∃ hs w, ds = [chD hs w] ∧ COk hs w ∧ Q (chD hs w) M
theorem st_need_chain {M : Mem} {Q : QE} {E : XQ} {hs : List Hs} {w : Int} (ok : COk hs w) (q : Q (chD hs w) M) : sp_need_chain [chD hs w] M Q E := ⟨hs, w, rfl, ok, q⟩
theorem ok_need_chain {f : Addr} {fd : FuncData} (F : Fun K "need_chain" "need_chain" s_need_chain f fd) (T : Txt P w K mg base) (G_is_whole : Def2 P w K mg base 1 "is_whole" ["value", "least", "most"] sp_is_whole) (G_is_house : Def2 P w K mg base 3 "is_house" ["value"] sp_is_house) : Fn2 P w K mg base 4 f fd ["chain"] sp_need_chain := by
  refine fn2_of F sc_need_chain no_need_chain (fun ds M Q E h => ?_) (fun X ds M Q E C h => ?_)
  · repeat (first | (obtain ⟨rfl, _⟩ := h; rfl) | (obtain ⟨_, h⟩ := h))
  · obtain ⟨hs, w, rfl, ok, k⟩ := h
    have n0 := ok.n0
    have n1 := ok.n1
    have w0 := ok.w0
    have w1 := ok.w1
    unfold chD at k ⊢
    show WSs X _ _ [some (.tup [.tup (hs.map hsD), .int w]), none, none] M
    refine wss_cons ?_
    repeat' (k_extra "y")
    refine ws_for (t := .tp [.nm 1, .nm 2]) C (by k_extra "tgt") (fun _ => rfl) ?_
    k_extra "enT"
    repeat' (k_extra "y")
    refine ⟨fun i ρ M' => ∃ a b, ρ = [some (.tup [.tup (hs.map hsD), .int w]), a, b] ∧ M' = M, ⟨_, _, rfl, rfl⟩, fun _ _ _ _ => trivial, ?_, ?_⟩
    · rintro i d ρ M' hd ⟨a, b, rfl, rfl⟩
      obtain ⟨e, he, rfl⟩ := enumD_get hd
      obtain ⟨h, rfl, hh⟩ := get_map he
      have ok1 : HOk h := ok.h h (List.mem_of_getElem? hh)
      refine ⟨[some (.tup [.tup (hs.map hsD), .int w]), some (.int (i : Nat)), some (hsD h)], rfl, ?_⟩
      repeat' (k_extra "y")
      exact ⟨_, _, rfl, rfl⟩
    · rintro ρ M' ⟨a, b, rfl, rfl⟩
      repeat' (k_extra "y")
      exact k
example : True := by
  k_with "lq" => first | (with_reducible refine' st_need_chain ?st_1 ?_; (case st_1 => assumption)) | fail
  trivial
/-- what a house orders at a position -/
def ord (h : Hs) (p : Int) : Int := if h.lo ≤ p then 0 else if h.fl = true then h.mo - p else (h.lo - p + h.mo - 1) / h.mo * h.mo
/-! ### order_of -/
abbrev s_order_of : Stmt := top 22
theorem sc_order_of : FnScope ["house", "position", "word", "low", "more"] ["house", "position"] (defScope s_order_of) := ⟨rfl, rfl, rfl, by decide +kernel, rfl, by decide +kernel, by decide +kernel⟩
abbrev nm_order_of : Nms := ⟨["house", "position", "word", "low", "more"], ["house", "position", "word", "low", "more"], ["house", "position", "word", "low", "more"], ["FILL"], [], false⟩
theorem no_order_of : nm_order_of.ok (defScope s_order_of) = true := by decide +kernel
def sp_order_of : Sp2 := fun ds M Q _ => ∃ (h : Hs) (p : Int), ds = [hsD h, .int p] ∧ HOk h ∧ Bd 1000 p ∧ Q (.int (ord h p)) M
theorem st_order_of {M : Mem} {Q : QE} {E : XQ} {h : Hs} {p : Int} (ok : HOk h) (b : Bd 1000 p) (q : Q (.int (ord h p)) M) : sp_order_of [hsD h, .int p] M Q E := ⟨h, p, rfl, ok, b, q⟩
theorem ok_order_of {f : Addr} {fd : FuncData} (F : Fun K "order_of" "order_of" s_order_of f fd) (T : Txt P w K mg base)  : Fn2 P w K mg base 1 f fd ["house", "position"] sp_order_of := by
  refine fn2_of F sc_order_of no_order_of (fun ds M Q E h => ?_) (fun X ds M Q E C h => ?_)
  · repeat (first | (obtain ⟨rfl, _⟩ := h; rfl) | (obtain ⟨_, h⟩ := h))
  · obtain ⟨⟨fl, lo, mo, la⟩, p, rfl, ⟨l0, l1, hf, hp, d0, d1⟩, pb, k⟩ := h
    simp only [ord] at l0 l1 hf hp k
    show WSs X _ _ [some (.tup [.tup [.str (kw fl), .int lo, .int mo], .int la]), some (.int p), none, none, none] M
    have n := n_pf
    refine wss_cons ?_
    cases fl
    · rw [kw_f]
      have hp := hp rfl
      repeat' (k_extra "y")
      refine Br.dec (fun c => ?_) fun c => ?_
      · repeat' (k_extra "y")
        rw [if_pos (show lo ≤ p by omega)] at k
        exact k
      · rw [if_neg (show ¬ lo ≤ p by omega), if_neg (by decide)] at k
        have e3 : 0 ≤ (lo - p + mo - 1) / mo := Int.ediv_nonneg (by omega) (by omega)
        have e4 : (lo - p + mo - 1) / mo ≤ lo - p + mo - 1 := Int.ediv_le_self _ (by omega)
        have b1 : Bd 1001 (-p + (lo + mo - 1)) := Bd.add (show Bd 1000 (-p) by unfold Bd at *; rw [Int.natAbs_neg]; exact pb) (Bd.le (a := 10) (by unfold Bd; omega) (by decide))
        have b2 : Bd 1001 ((lo - p + mo - 1) / mo) := Nat.lt_of_le_of_lt (show _ ≤ (-p + (lo + mo - 1)).natAbs by omega) b1
        repeat' (k_extra "y")
        · exact divW' (by omega) (by omega)
        · exact mulW (a := 1001) (b := 4) b2 (by unfold Bd; omega)
        · exact k
    · rw [kw_t]
      have hf := hf rfl
      repeat' (k_extra "y")
      refine Br.dec (fun c => ?_) fun c => ?_
      · repeat' (k_extra "y")
        rw [if_pos (show lo ≤ p by omega)] at k
        exact k
      · repeat' (k_extra "y")
        rw [if_neg (show ¬ lo ≤ p by omega), if_pos rfl] at k
        exact k
example : True := by
  k_with "lq" => first | with_reducible apply st_order_of | fail
  trivial
structure Pl where
  ha : Int
  co : List Int
  ow : Int
def plD (p : Pl) : D := .tup [.int p.ha, .tup (p.co.map D.int), .int p.ow]
def fH (qs : List Pl) (j : Nat) : Int := match qs[j]? with | some q => q.ha | none => 0
def fC (qs : List Pl) (j : Nat) : Int := match qs[j]? with | some q => q.co.sum | none => 0
def fO (qs : List Pl) (j : Nat) : Int := match qs[j]? with | some q => q.ow | none => 0
def posP (qs : List Pl) (j : Nat) : Int := fH qs j + fC qs j + fO qs (j + 1) - fO qs j
def bgP (h : Hs) : Pl := ⟨topH h, List.replicate h.la.toNat 0, 0⟩
def arP (p : Pl) : Pl := ⟨p.ha + p.co.headD 0, p.co.tail ++ [0], p.ow⟩
def aL (c : List Int) (m : Int) : List Int := c.dropLast ++ [c.getLastD 0 + m]
structure PlOk (h : Hs) (p : Pl) : Prop where
  h0 : 0 ≤ p.ha
  h1 : p.ha ≤ 1000000
  o0 : 0 ≤ p.ow
  o1 : p.ow ≤ 1000000
  cl : p.co.length = h.la.toNat
  c : ∀ x ∈ p.co, 0 ≤ x ∧ x ≤ 1000000
  no : p.ha = 0 ∨ p.ow = 0
/-! ### arrived -/
abbrev s_arrived : Stmt := top 26
theorem sc_arrived : FnScope ["stand", "hand", "coming", "owed"] ["stand"] (defScope s_arrived) := ⟨rfl, rfl, rfl, by decide +kernel, rfl, by decide +kernel, by decide +kernel⟩
abbrev nm_arrived : Nms := ⟨["stand"], ["stand"], ["stand"], ["tuple"], [], false⟩
theorem no_arrived : nm_arrived.ok (defScope s_arrived) = true := by decide +kernel
abbrev nb_arrived_0 : Nms := ⟨["hand", "coming", "owed"], ["hand", "coming", "owed"], ["hand", "coming", "owed"], [], [], false⟩
abbrev ow_arrived_0 : List (Str × Nat) := [("hand", 1), ("coming", 2), ("owed", 3)]
def sp_arrived : Sp2 := fun ds M Q _ => ∃ ps : List Pl, ds = [.tup (ps.map plD)] ∧ ps.length ≤ 3 ∧ (∀ p ∈ ps, 1 ≤ p.co.length ∧ p.co.length ≤ 4) ∧ ∀ M', Ext M M' → Q (.tup ((ps.map arP).map plD)) M'
theorem ok_arrived {f : Addr} {fd : FuncData} (F : Fun K "arrived" "arrived" s_arrived f fd) (T : Txt P w K mg base)  : Fn2 P w K mg base 1 f fd ["stand"] sp_arrived := by
  refine fn2_of F sc_arrived no_arrived (fun ds M Q E h => ?_) (fun X ds M Q E C h => ?_)
  · repeat (first | (obtain ⟨rfl, _⟩ := h; rfl) | (obtain ⟨_, h⟩ := h))
  · obtain ⟨ps, rfl, l, hc, k⟩ := h
    show WSs X _ _ [some (.tup (ps.map plD)), none, none, none] M
    refine wss_one ?_
    k_extra "y"
    k_extra "y"
    refine we_lcG (own := ow_arrived_0) (t := .tp [.nm 1, .nm 2, .nm 3]) C (by decide +kernel) (by decide) (fun X' B => by have C' := C.blk (sc2 := nb_arrived_0) B rfl (by decide +kernel); k_extra "tgt") (fun _ => rfl) ?_
    refine wi_tup ?_
    repeat' (k_extra "y")
    refine ⟨(ps.map arP).map plD, ⟨by rw [List.length_map]; exact Nat.le_trans l (by decide), by simp, fun _ _ => trivial, fun i d z M' hd hz x => ?_⟩, fun Dd M' hD e x => ?_⟩
    · obtain ⟨⟨ha, co, ow⟩, rfl, hh⟩ := get_map hd
      have ez := get_map2 hz hh
      have ⟨l1, l2⟩ := hc _ (List.mem_of_getElem? hh)
      subst ez
      cases co with
      | nil => simp at l1
      | cons c cs =>
        refine ⟨[some (.tup (ps.map plD)), some (.int ha), some (.tup ((c :: cs).map D.int)), some (.int ow)], rfl, fun X' B => ?_⟩
        have C' := C.blk (sc2 := nb_arrived_0) B rfl (by decide +kernel)
        repeat' (k_extra "y")
        · rw [cut_tail]
          have z : 10 ≤ sizeLine := by decide
          simp at l2 ⊢
          omega
        · exact ⟨Ext.refl _, by rw [cut_tail]; simp [plD, arP]⟩
    · repeat' (k_extra "y")
      exact k _ x
/-! ### with_coming -/
abbrev s_with_coming : Stmt := top 28
theorem sc_with_coming : FnScope ["place", "more", "hand", "coming", "owed"] ["place", "more"] (defScope s_with_coming) := ⟨rfl, rfl, rfl, by decide +kernel, rfl, by decide +kernel, by decide +kernel⟩
abbrev nm_with_coming : Nms := ⟨["place", "more", "hand", "coming", "owed"], ["place", "more", "hand", "coming", "owed"], ["place", "more", "hand", "coming", "owed"], [], [], false⟩
theorem no_with_coming : nm_with_coming.ok (defScope s_with_coming) = true := by decide +kernel
def sp_with_coming : Sp2 := fun ds M Q _ => ∃ (p : Pl) (m : Int), ds = [plD p, .int m] ∧ 1 ≤ p.co.length ∧ p.co.length ≤ 4 ∧ Q (plD ⟨p.ha, aL p.co m, p.ow⟩) M
theorem ok_with_coming {f : Addr} {fd : FuncData} (F : Fun K "with_coming" "with_coming" s_with_coming f fd) (T : Txt P w K mg base)  : Fn2 P w K mg base 1 f fd ["place", "more"] sp_with_coming := by
  refine fn2_of F sc_with_coming no_with_coming (fun ds M Q E h => ?_) (fun X ds M Q E C h => ?_)
  · repeat (first | (obtain ⟨rfl, _⟩ := h; rfl) | (obtain ⟨_, h⟩ := h))
  · obtain ⟨⟨ha, co, ow⟩, m, rfl, l, l4, k⟩ := h
    simp only at l l4 k
    show WSs X _ _ [some (.tup [.int ha, .tup (co.map D.int), .int ow]), some (.int m), none, none, none] M
    refine wss_cons ?_
    repeat' (k_extra "y")
    obtain ⟨xs, x, rfl⟩ : ∃ xs x, co = xs ++ [x] := ⟨co.dropLast, co.getLast (by rintro rfl; simp at l), (List.dropLast_concat_getLast _).symm⟩
    refine q_ixL rfl (x := x) (by simp) ?_
    rw [cut_init]
    repeat' (k_extra "y")
    · have z : 10 ≤ sizeLine := by decide
      simp at l4 ⊢
      omega
    · simpa [aL, plD] using k
/-! ### asked_of -/
abbrev s_asked_of : Stmt := top 29
theorem sc_asked_of : FnScope ["place", "asked", "hand", "coming", "owed", "sent"] ["place", "asked"] (defScope s_asked_of) := ⟨rfl, rfl, rfl, by decide +kernel, rfl, by decide +kernel, by decide +kernel⟩
abbrev nm_asked_of : Nms := ⟨["place", "asked", "hand", "coming", "owed", "sent"], ["place", "asked", "hand", "coming", "owed", "sent"], ["place", "asked", "hand", "coming", "owed", "sent"], ["min"], [], false⟩
theorem no_asked_of : nm_asked_of.ok (defScope s_asked_of) = true := by decide +kernel
def sp_asked_of : Sp2 := fun ds M Q _ => ∃ (p : Pl) (a : Int), ds = [plD p, .int a] ∧ ∀ s : Int, s = (if p.ow + a < p.ha then p.ow + a else p.ha) → Q (.tup [plD ⟨p.ha - s, p.co, p.ow + a - s⟩, .int s]) M
theorem ok_asked_of {f : Addr} {fd : FuncData} (F : Fun K "asked_of" "asked_of" s_asked_of f fd) (T : Txt P w K mg base)  : Fn2 P w K mg base 1 f fd ["place", "asked"] sp_asked_of := by
  refine fn2_of F sc_asked_of no_asked_of (fun ds M Q E h => ?_) (fun X ds M Q E C h => ?_)
  · repeat (first | (obtain ⟨rfl, _⟩ := h; rfl) | (obtain ⟨_, h⟩ := h))
  · obtain ⟨⟨ha, co, ow⟩, m, rfl, k⟩ := h
    simp only at k
    show WSs X _ _ [some (.tup [.int ha, .tup (co.map D.int), .int ow]), some (.int m), none, none, none, none] M
    refine wss_cons ?_
    repeat' (k_extra "y")
    exact k _ rfl
/-! ### position_of -/
abbrev s_position_of : Stmt := top 27
theorem sc_position_of : FnScope ["stand", "number", "hand", "coming", "owed", "above"] ["stand", "number"] (defScope s_position_of) := ⟨rfl, rfl, rfl, by decide +kernel, rfl, by decide +kernel, by decide +kernel⟩
abbrev nm_position_of : Nms := ⟨["stand", "number", "hand", "coming", "owed", "above"], ["stand", "number", "hand", "coming", "owed", "above"], ["stand", "number", "hand", "coming", "owed", "above"], ["len", "sum"], [], false⟩
theorem no_position_of : nm_position_of.ok (defScope s_position_of) = true := by decide +kernel
def sp_position_of : Sp2 := fun ds M Q _ => ∃ (d : D) (ps : List Pl) (n : Nat), ds = [d, .int n] ∧ itemsOf M d = some (ps.map plD) ∧ n < ps.length ∧ Q (.int (posP ps n)) M
theorem ok_position_of {f : Addr} {fd : FuncData} (F : Fun K "position_of" "position_of" s_position_of f fd) (T : Txt P w K mg base)  : Fn2 P w K mg base 1 f fd ["stand", "number"] sp_position_of := by
  refine fn2_of F sc_position_of no_position_of (fun ds M Q E h => ?_) (fun X ds M Q E C h => ?_)
  · repeat (first | (obtain ⟨rfl, _⟩ := h; rfl) | (obtain ⟨_, h⟩ := h))
  · obtain ⟨d, ps, n, rfl, hd, l, k⟩ := h
    show WSs X _ _ [some d, some (.int n), none, none, none, none] M
    refine wss_cons ?_
    repeat' (k_extra "y")
    obtain ⟨p, hp⟩ : ∃ p, ps[n]? = some p := ⟨_, List.getElem?_eq_getElem l⟩
    repeat' (k_extra "y")
    obtain ⟨ha, co, ow⟩ := p
    dsimp only [plD]
    repeat' (k_extra "y")
    rw [List.length_map]
    refine Br.dec (fun c => ?_) fun c => ?_
    · obtain ⟨q, hq⟩ : ∃ q, ps[n + 1]? = some q := ⟨_, List.getElem?_eq_getElem (by omega)⟩
      repeat' (k_extra "y")
      refine q_ixM (n := n + 1) hd hq ?_
      dsimp only [plD]
      repeat' (k_extra "y")
      unfold posP fH fC fO at k
      simpa [hp, hq] using k
    · have hq : ps[n + 1]? = none := List.getElem?_eq_none (by omega)
      repeat' (k_extra "y")
      unfold posP fH fC fO at k
      simpa [hp, hq] using k
/-! ### begin_of -/
abbrev s_begin_of : Stmt := top 24
theorem sc_begin_of : FnScope ["chain", "house"] ["chain"] (defScope s_begin_of) := ⟨rfl, rfl, rfl, by decide +kernel, rfl, by decide +kernel, by decide +kernel⟩
abbrev nm_begin_of : Nms := ⟨["chain"], ["chain"], ["chain"], ["tuple"], [], false⟩
theorem no_begin_of : nm_begin_of.ok (defScope s_begin_of) = true := by decide +kernel
abbrev nb_begin_of_0 : Nms := ⟨["house"], ["house"], ["house"], ["top_of"], [], false⟩
abbrev ow_begin_of_0 : List (Str × Nat) := [("house", 1)]
def sp_begin_of : Sp2 := fun ds M Q _ => ∃ hs w, ds = [chD hs w] ∧ COk hs w ∧ ∀ M', Ext M M' → Q (.tup ((hs.map bgP).map plD)) M'
theorem ok_begin_of {f : Addr} {fd : FuncData} (F : Fun K "begin_of" "begin_of" s_begin_of f fd) (T : Txt P w K mg base) (G_top_of : Def2 P w K mg base 1 "top_of" ["house"] sp_top_of) : Fn2 P w K mg base 2 f fd ["chain"] sp_begin_of := by
  refine fn2_of F sc_begin_of no_begin_of (fun ds M Q E h => ?_) (fun X ds M Q E C h => ?_)
  · repeat (first | (obtain ⟨rfl, _⟩ := h; rfl) | (obtain ⟨_, h⟩ := h))
  · obtain ⟨hs, w, rfl, ok, k⟩ := h
    show WSs X _ _ [some (.tup [.tup (hs.map hsD), .int w]), none] M
    have n1 := ok.n1
    refine wss_one ?_
    k_extra "y"
    k_extra "y"
    refine we_lcG (own := ow_begin_of_0) (t := .nm 1) C (by decide +kernel) (by decide) (fun X' B => by have C' := C.blk (sc2 := nb_begin_of_0) B rfl (by decide +kernel); k_extra "tgt") (fun _ => rfl) ?_
    refine wi_tup ?_
    repeat' (k_extra "y")
    refine ⟨(hs.map bgP).map plD, ⟨by rw [List.length_map]; exact Nat.le_trans n1 (by decide), by simp, fun _ _ => trivial, fun i d z M' hd hz x => ?_⟩, fun Dd M' hD e x => ?_⟩
    · obtain ⟨h, rfl, hh⟩ := get_map hd
      have ok1 : HOk h := ok.h h (List.mem_of_getElem? hh)
      have ez := get_map2 hz hh
      subst ez
      have d0 := ok1.d0
      have d1 := ok1.d1
      refine ⟨[some (.tup [.tup (hs.map hsD), .int w]), some (hsD h)], rfl, fun X' B => ?_⟩
      have C' := C.blk (sc2 := nb_begin_of_0) B rfl (by decide +kernel)
      repeat' (k_extra "y")
      refine ⟨by simp, by omega, by omega, by simp, ?_⟩
      repeat' (k_extra "y")
      exact ⟨Ext.refl _, by simp [plD, bgP]⟩
    · repeat' (k_extra "y")
      exact k _ x
theorem set_pl {qs : List Pl} {i : Nat} {q : Pl} : (qs.map plD).set i (plD q) = (qs.set i q).map plD := by rw [List.map_set]
theorem aL_len {c : List Int} {m : Int} (h : 1 ≤ c.length) : (aL c m).length = c.length := by
  simp [aL]
  omega
def adc (p : Pl) (m : Int) : Pl := ⟨p.ha, aL p.co m, p.ow⟩
structure Sd where
  qs : List Pl
  A : Int
  F : Int
  L : Int
  os : List Int
def snt (q : Pl) (A : Int) : Int := if q.ow + A < q.ha then q.ow + A else q.ha
def los (q : Pl) (A w : Int) : Int := if q.ow + A - snt q A - w > 0 then q.ow + A - snt q A - w else 0
def stp0 (w : Int) (h : Hs) (q : Pl) (S : Sd) : Sd :=
  ⟨S.qs.set 0 ⟨q.ha - snt q S.A, q.co, q.ow + S.A - snt q S.A - los q S.A w⟩, ord h (posP (S.qs.set 0 ⟨q.ha - snt q S.A, q.co, q.ow + S.A - snt q S.A - los q S.A w⟩) 0), snt q S.A, los q S.A w, S.os ++ [ord h (posP (S.qs.set 0 ⟨q.ha - snt q S.A, q.co, q.ow + S.A - snt q S.A - los q S.A w⟩) 0)]⟩
def stpS (j : Nat) (h : Hs) (q q0 : Pl) (S : Sd) : Sd :=
  ⟨(S.qs.set (j + 1) ⟨q.ha - snt q S.A, q.co, q.ow + S.A - snt q S.A⟩).set j ⟨q0.ha, aL q0.co (snt q S.A), q0.ow⟩, ord h (posP ((S.qs.set (j + 1) ⟨q.ha - snt q S.A, q.co, q.ow + S.A - snt q S.A⟩).set j ⟨q0.ha, aL q0.co (snt q S.A), q0.ow⟩) (j + 1)), S.F, S.L,
    S.os ++ [ord h (posP ((S.qs.set (j + 1) ⟨q.ha - snt q S.A, q.co, q.ow + S.A - snt q S.A⟩).set j ⟨q0.ha, aL q0.co (snt q S.A), q0.ow⟩) (j + 1))]⟩
def stp (hs : List Hs) (w : Int) (S : Sd) (i : Nat) : Sd := match hs[i]?, S.qs[i]?, i with
  | some h, some q, 0 => stp0 w h q S
  | some h, some q, j + 1 => match S.qs[j]? with | some q0 => stpS j h q q0 S | none => S
  | _, _, _ => S
theorem stp_zero {hs : List Hs} {w : Int} {S : Sd} {h : Hs} {q : Pl} (hh : hs[0]? = some h) (hq : S.qs[0]? = some q) : stp hs w S 0 = stp0 w h q S := by simp [stp, hh, hq]
theorem stp_succ {hs : List Hs} {w : Int} {S : Sd} {j : Nat} {h : Hs} {q q0 : Pl} (hh : hs[j + 1]? = some h) (hq : S.qs[j + 1]? = some q) (hq0 : S.qs[j]? = some q0) : stp hs w S (j + 1) = stpS j h q q0 S := by simp [stp, hh, hq, hq0]
def sts (hs : List Hs) (w : Int) (ps : List Pl) (a : Int) : Nat → Sd
  | 0 => ⟨ps.map arP, a, 0, 0, []⟩
  | i + 1 => stp hs w (sts hs w ps a i) i
def fin (S : Sd) (n : Nat) : List Pl := match S.qs[n]? with | some q => S.qs.set n ⟨q.ha, aL q.co S.A, q.ow⟩ | none => S.qs
structure Nz where
  F : Int
  L : Int
  os : List Int
def nzD (n : Nz) : D := .tup [.int n.F, .int n.L, .tup (n.os.map D.int)]
def dayQ (hs : List Hs) (w : Int) (ps : List Pl) (a : Int) : List Pl := fin (sts hs w ps a hs.length) (hs.length - 1)
def dayN (hs : List Hs) (w : Int) (ps : List Pl) (a : Int) : Nz := ⟨(sts hs w ps a hs.length).F, (sts hs w ps a hs.length).L, (sts hs w ps a hs.length).os⟩
structure PlB (X : Int) (q : Pl) : Prop where
  h0 : 0 ≤ q.ha
  h1 : q.ha ≤ X
  o0 : 0 ≤ q.ow
  o1 : q.ow ≤ X
  c : ∀ x ∈ q.co, 0 ≤ x ∧ x ≤ X
  l1 : 1 ≤ q.co.length
  l4 : q.co.length ≤ 4
structure Bn (X : Int) (n : Nat) (S : Sd) : Prop where
  len : S.qs.length = n
  q : ∀ q ∈ S.qs, PlB X q
  A0 : 0 ≤ S.A
  A1 : S.A ≤ X
theorem sum_b {X : Int} : ∀ {cs : List Int}, (∀ x ∈ cs, 0 ≤ x ∧ x ≤ X) → 0 ≤ cs.sum ∧ cs.sum ≤ cs.length * X
  | [], _ => by simp
  | c :: cs, h => by
    obtain ⟨a, b⟩ := sum_b (cs := cs) fun x hx => h x (List.mem_cons_of_mem _ hx)
    have := h c (List.mem_cons_self ..)
    rw [List.sum_cons, List.length_cons, Int.natCast_add, Int.add_mul]
    omega
theorem PlB.sum {X : Int} {q : Pl} (b : PlB X q) : 0 ≤ q.co.sum ∧ q.co.sum ≤ 4 * X := by
  obtain ⟨a, c⟩ := sum_b b.c
  refine ⟨a, Int.le_trans c ?_⟩
  have h0 := b.h0
  have h1 := b.h1
  have l4 := b.l4
  exact Int.mul_le_mul_of_nonneg_right (by omega) (by omega)
theorem PlB.le {X Y : Int} {q : Pl} (b : PlB X q) (h : X ≤ Y) : PlB Y q := ⟨b.h0, Int.le_trans b.h1 h, b.o0, Int.le_trans b.o1 h, fun x hx => ⟨(b.c x hx).1, Int.le_trans (b.c x hx).2 h⟩, b.l1, b.l4⟩
theorem fH_b {X : Int} {qs : List Pl} (b : ∀ q ∈ qs, PlB X q) (x0 : 0 ≤ X) (j : Nat) : 0 ≤ fH qs j ∧ fH qs j ≤ X := by
  unfold fH
  split
  · rename_i q e; have := b q (List.mem_of_getElem? e); exact ⟨this.h0, this.h1⟩
  · omega
theorem fO_b {X : Int} {qs : List Pl} (b : ∀ q ∈ qs, PlB X q) (x0 : 0 ≤ X) (j : Nat) : 0 ≤ fO qs j ∧ fO qs j ≤ X := by
  unfold fO
  split
  · rename_i q e; have := b q (List.mem_of_getElem? e); exact ⟨this.o0, this.o1⟩
  · omega
theorem fC_b {X : Int} {qs : List Pl} (b : ∀ q ∈ qs, PlB X q) (x0 : 0 ≤ X) (j : Nat) : 0 ≤ fC qs j ∧ fC qs j ≤ 4 * X := by
  unfold fC
  split
  · rename_i q e; exact (b q (List.mem_of_getElem? e)).sum
  · omega
theorem posP_b {X : Int} {qs : List Pl} (b : ∀ q ∈ qs, PlB X q) (x0 : 0 ≤ X) (j : Nat) : -X ≤ posP qs j ∧ posP qs j ≤ 6 * X := by
  have h1 := fH_b b x0 j
  have h2 := fC_b b x0 j
  have h3 := fO_b b x0 j
  have h4 := fO_b b x0 (j + 1)
  unfold posP
  omega
theorem ord_b {h : Hs} {p X : Int} (ok : HOk h) (b : -X ≤ p) (x0 : 0 ≤ X) : 0 ≤ ord h p ∧ ord h p ≤ X + 40 := by
  have l0 := ok.l0
  have l1 := ok.l1
  unfold ord
  split
  · omega
  split
  · rename_i e; have := ok.f e; omega
  · rename_i e
    have := ok.p (by simpa using e)
    have e0 := Int.mul_ediv_add_emod (h.lo - p + h.mo - 1) h.mo
    have e1 := Int.emod_nonneg (h.lo - p + h.mo - 1) (b := h.mo) (by omega)
    have e3 : 0 ≤ (h.lo - p + h.mo - 1) / h.mo := Int.ediv_nonneg (by omega) (by omega)
    have e5 : 0 ≤ (h.lo - p + h.mo - 1) / h.mo * h.mo := Int.mul_nonneg e3 (by omega)
    rw [Int.mul_comm] at e0
    omega
theorem snt_b {X : Int} {q : Pl} {A : Int} (b : PlB X q) (a : 0 ≤ A) : 0 ≤ snt q A ∧ snt q A ≤ q.ha ∧ snt q A ≤ q.ow + A := by
  have := b.h0
  have := b.o0
  unfold snt
  split <;> omega
theorem los_b {X : Int} {q : Pl} {A w : Int} (b : PlB X q) (a : 0 ≤ A) (w0 : 0 ≤ w) : 0 ≤ los q A w ∧ los q A w ≤ q.ow + A - snt q A := by
  have := snt_b b a
  unfold los
  split <;> omega
theorem mem_setP {qs : List Pl} {i : Nat} {x q : Pl} (h : q ∈ qs.set i x) : q = x ∨ q ∈ qs := by
  rcases List.mem_or_eq_of_mem_set h with e | e
  · exact .inr e
  · exact .inl e
theorem aL_b {X m : Int} {c : List Int} (h : ∀ x ∈ c, 0 ≤ x ∧ x ≤ X) (m0 : 0 ≤ m) (m1 : m ≤ X) (l : 1 ≤ c.length) : ∀ x ∈ aL c m, 0 ≤ x ∧ x ≤ 2 * X := by
  obtain ⟨xs, y, rfl⟩ : ∃ xs y, c = xs ++ [y] := ⟨c.dropLast, c.getLast (by rintro rfl; simp at l), (List.dropLast_concat_getLast _).symm⟩
  intro x hx
  have hy := h y (by simp)
  simp [aL] at hx
  rcases hx with hx | hx
  · have := h x (by simp [hx]); omega
  · omega
theorem stp_b {hs : List Hs} {w X : Int} {S : Sd} {i n : Nat} (ok : COk hs w) (b : Bn X n S) (hn : n = hs.length) (hi : i < hs.length) : Bn (4 * X + 100) n (stp hs w S i) := by
  obtain ⟨h, hh⟩ : ∃ h, hs[i]? = some h := ⟨_, List.getElem?_eq_getElem hi⟩
  obtain ⟨q, hq⟩ : ∃ q, S.qs[i]? = some q := ⟨_, List.getElem?_eq_getElem (by rw [b.len, hn]; exact hi)⟩
  have o := ok.h h (List.mem_of_getElem? hh)
  have bq := b.q q (List.mem_of_getElem? hq)
  have A0 := b.A0
  have A1 := b.A1
  have sb := snt_b bq A0
  have h0 := bq.h0
  have h1 := bq.h1
  have o0 := bq.o0
  have o1 := bq.o1
  cases i with
  | zero =>
    have lb := los_b bq A0 ok.w0
    rw [stp_zero hh hq]
    have key : ∀ q' ∈ S.qs.set 0 ⟨q.ha - snt q S.A, q.co, q.ow + S.A - snt q S.A - los q S.A w⟩, PlB (4 * X) q' := by
      intro q' hq'
      rcases mem_setP hq' with e | e
      · subst e
        exact ⟨by simp only; omega, by simp only; omega, by simp only; omega, by simp only; omega, fun x hx => ⟨(bq.c x hx).1, by have := (bq.c x hx).2; omega⟩, bq.l1, bq.l4⟩
      · exact (b.q q' e).le (by omega)
    have pb := posP_b key (by omega) 0
    have ob := ord_b o pb.1 (by omega)
    exact ⟨by simp only [stp0, List.length_set]; exact b.len, fun q' hq' => (key q' hq').le (by omega), ob.1, by simp only [stp0]; omega⟩
  | succ j =>
    obtain ⟨q0, hq0⟩ : ∃ q, S.qs[j]? = some q := ⟨_, List.getElem?_eq_getElem (by rw [b.len, hn]; omega)⟩
    have b0 := b.q q0 (List.mem_of_getElem? hq0)
    rw [stp_succ hh hq hq0]
    have key : ∀ q' ∈ (S.qs.set (j + 1) ⟨q.ha - snt q S.A, q.co, q.ow + S.A - snt q S.A⟩).set j ⟨q0.ha, aL q0.co (snt q S.A), q0.ow⟩, PlB (4 * X) q' := by
      intro q' hq'
      rcases mem_setP hq' with e | e
      · subst e
        have := b0.h0
        have := b0.h1
        have := b0.o0
        have := b0.o1
        exact ⟨by simp only; omega, by simp only; omega, by simp only; omega, by simp only; omega, fun x hx => by have := aL_b b0.c sb.1 (by omega) b0.l1 x hx; omega, by simp only; rw [aL_len b0.l1]; exact b0.l1, by simp only; rw [aL_len b0.l1]; exact b0.l4⟩
      rcases mem_setP e with e | e
      · subst e
        exact ⟨by simp only; omega, by simp only; omega, by simp only; omega, by simp only; omega, fun x hx => ⟨(bq.c x hx).1, by have := (bq.c x hx).2; omega⟩, bq.l1, bq.l4⟩
      · exact (b.q q' e).le (by omega)
    have pb := posP_b key (by omega) (j + 1)
    have ob := ord_b o pb.1 (by omega)
    exact ⟨by simp only [stpS, List.length_set]; exact b.len, fun q' hq' => (key q' hq').le (by omega), ob.1, by simp only [stpS]; omega⟩
def XB (X : Int) : Nat → Int
  | 0 => 2 * X + 9
  | i + 1 => 4 * XB X i + 100
theorem arP_b {X : Int} {q : Pl} (b : PlB X q) : PlB (2 * X + 9) (arP q) := by
  obtain ⟨ha, co, ow⟩ := q
  obtain ⟨h0, h1, o0, o1, hc, l1, l4⟩ := b
  simp only at h0 h1 o0 o1 hc l1 l4
  cases co with
  | nil => simp at l1
  | cons c cs =>
    have hc0 := hc c (by simp)
    refine ⟨by simp [arP]; omega, by simp [arP]; omega, by simp [arP]; omega, by simp [arP]; omega, fun x hx => ?_, by simp [arP], by simp [arP] at l4 ⊢; omega⟩
    simp [arP] at hx
    rcases hx with hx | hx
    · have := hc x (by simp [hx]); omega
    · omega
theorem sts_b {hs : List Hs} {w X a : Int} {ps : List Pl} (ok : COk hs w) (l : ps.length = hs.length) (b : ∀ q ∈ ps, PlB X q) (x0 : 0 ≤ X) (a0 : 0 ≤ a) (a1 : a ≤ 9) : ∀ {i : Nat}, i ≤ hs.length → Bn (XB X i) hs.length (sts hs w ps a i)
  | 0, _ => ⟨by simp only [sts, List.length_map]; exact l, fun q hq => by
      obtain ⟨p, hp, rfl⟩ := List.mem_map.mp hq
      exact arP_b (b p hp), a0, by simp only [sts, XB]; omega⟩
  | i + 1, hi => stp_b ok (sts_b ok l b x0 a0 a1 (i := i) (by omega)) rfl (by omega)
theorem XB_le {X : Int} {i : Nat} (x0 : 0 ≤ X) (hi : i ≤ 3) : 0 ≤ XB X i ∧ XB X i ≤ 128 * X + 2700 := by
  match i, hi with
  | 0, _ => simp only [XB]; omega
  | 1, _ => simp only [XB]; omega
  | 2, _ => simp only [XB]; omega
  | 3, _ => simp only [XB]; omega
  | n + 4, z => omega
theorem fin_b {S : Sd} {X : Int} {n k : Nat} (b : Bn X n S) : (fin S k).length = n ∧ ∀ q ∈ fin S k, PlB (2 * X) q := by
  have a0 := b.A0
  have a1 := b.A1
  unfold fin
  split
  · rename_i q e
    have bq := b.q q (List.mem_of_getElem? e)
    refine ⟨by rw [List.length_set]; exact b.len, fun q' hq' => ?_⟩
    rcases mem_setP hq' with e | e
    · subst e
      have := bq.h0
      have := bq.h1
      have := bq.o0
      have := bq.o1
      exact ⟨by simp only; omega, by simp only; omega, by simp only; omega, by simp only; omega, aL_b bq.c a0 a1 bq.l1, by simp only; rw [aL_len bq.l1]; exact bq.l1, by simp only; rw [aL_len bq.l1]; exact bq.l4⟩
    · exact (b.q q' e).le (by omega)
  · exact ⟨b.len, fun q hq => (b.q q hq).le (by omega)⟩
theorem day_b {hs : List Hs} {w X a : Int} {ps : List Pl} (ok : COk hs w) (l : ps.length = hs.length) (b : ∀ q ∈ ps, PlB X q) (x0 : 1 ≤ X) (a0 : 0 ≤ a) (a1 : a ≤ 9) : (dayQ hs w ps a).length = hs.length ∧ ∀ q ∈ dayQ hs w ps a, PlB (10000 * X) q := by
  have n1 := ok.n1
  have s := sts_b ok l b (by omega) a0 a1 (i := hs.length) (Nat.le_refl _)
  obtain ⟨h1, h2⟩ := fin_b (k := hs.length - 1) s
  have x := XB_le (X := X) (i := hs.length) (by omega) n1
  exact ⟨h1, fun q hq => (h2 q hq).le (by omega)⟩
theorem day_pos {hs : List Hs} {w X a : Int} {ps : List Pl} {i j : Nat} (ok : COk hs w) (l : ps.length = hs.length) (b : ∀ q ∈ ps, PlB X q) (x0 : 1 ≤ X) (xb : Bd 900 X) (a0 : 0 ≤ a) (a1 : a ≤ 9) (hi : i ≤ hs.length) : Bd 1000 (posP (sts hs w ps a i).qs j) := by
  have n1 := ok.n1
  have s := sts_b ok l b (by omega) a0 a1 hi
  have x := XB_le (X := X) (i := i) (by omega) (by omega)
  have p := posP_b s.q x.1 j
  have h1 : Bd 917 (100000 * X) := Bd.mul (a := 17) (by decide) xb
  exact Nat.lt_of_le_of_lt (show _ ≤ (100000 * X).natAbs by omega) (h1.le (by decide))
/-! ### day_of -/
abbrev s_day_of : Stmt := top 30
theorem sc_day_of : FnScope ["chain", "stand", "demand", "places", "asked", "orders", "first", "lost", "number", "house", "sent", "hand", "coming", "owed"] ["chain", "stand", "demand"] (defScope s_day_of) := ⟨rfl, rfl, rfl, by decide +kernel, rfl, by decide +kernel, by decide +kernel⟩
abbrev nm_day_of : Nms := ⟨["chain", "stand", "demand", "places", "asked", "orders", "first", "lost", "number", "house", "sent", "hand", "coming", "owed"], ["chain", "stand", "demand", "places", "asked", "orders", "first", "lost", "number", "house", "sent", "hand", "coming", "owed"], ["chain", "stand", "demand", "places", "asked", "orders", "first", "lost", "number", "house", "sent", "hand", "coming", "owed"], ["list", "arrived", "enumerate", "asked_of", "max", "with_coming", "order_of", "position_of", "tuple"], [], false⟩
theorem no_day_of : nm_day_of.ok (defScope s_day_of) = true := by decide +kernel
def sp_day_of : Sp2 := fun ds M Q _ => ∃ (hs : List Hs) (w : Int) (ps : List Pl) (a X : Int), ds = [chD hs w, .tup (ps.map plD), .int a] ∧ COk hs w ∧ ps.length = hs.length ∧ (∀ q ∈ ps, PlB X q) ∧ 1 ≤ X ∧ Bd 900 X ∧ 0 ≤ a ∧ a ≤ 9 ∧
  ∀ M' : Mem, Ext M M' → Q (.tup [.tup ((dayQ hs w ps a).map plD), nzD (dayN hs w ps a)]) M'
theorem ok_day_of {f : Addr} {fd : FuncData} (F : Fun K "day_of" "day_of" s_day_of f fd) (T : Txt P w K mg base) (G_order_of : Def2 P w K mg base 1 "order_of" ["house", "position"] sp_order_of) (G_arrived : Def2 P w K mg base 1 "arrived" ["stand"] sp_arrived) (G_position_of : Def2 P w K mg base 1 "position_of" ["stand", "number"] sp_position_of) (G_with_coming : Def2 P w K mg base 1 "with_coming" ["place", "more"] sp_with_coming) (G_asked_of : Def2 P w K mg base 1 "asked_of" ["place", "asked"] sp_asked_of) : Fn2 P w K mg base 2 f fd ["chain", "stand", "demand"] sp_day_of := by
  refine fn2_of F sc_day_of no_day_of (fun ds M Q E h => ?_) (fun X ds M Q E C h => ?_)
  · repeat (first | (obtain ⟨rfl, _⟩ := h; rfl) | (obtain ⟨_, h⟩ := h))
  · obtain ⟨hs, w, ps, a, X0, rfl, ok, hlen, hb, x1', xb, a0, a1, k⟩ := h
    have n0 := ok.n0
    have n1 := ok.n1
    have w0 := ok.w0
    show WSs X _ _ [some (.tup [.tup (hs.map hsD), .int w]), some (.tup (ps.map plD)), some (.int a), none, none, none, none, none, none, none, none, none, none, none] M
    refine wss_cons ?_
    repeat' (k_extra "y")
    refine ⟨ps, rfl, by omega, fun p hp => ⟨(hb p hp).l1, (hb p hp).l4⟩, fun M1 x1 => ?_⟩
    repeat' (k_extra "y")
    intro pa hpa
    repeat' (k_extra "y")
    intro pb hpb
    have pab : pa ≠ pb := mem_ne (mup_same : mup M1 pa (.lst ((ps.map arP).map plD)) pa = _) hpb
    generalize hM2 : mup (mup M1 pa (.lst ((ps.map arP).map plD))) pb (.lst []) = M2
    have ea : M2 pa = some (.lst ((ps.map arP).map plD)) := by rw [← hM2, mup_ne pab]; exact mup_same
    have eb : M2 pb = some (.lst (([] : List Int).map D.int)) := by rw [← hM2]; exact mup_same
    have x2 : Ext M M2 := by rw [← hM2]; exact (x1.put (x1.free hpa)).put (x1.free (by rw [mup_ne (Ne.symm pab)] at hpb; exact hpb))
    have fa : M pa = none := x1.free hpa
    have fb : M pb = none := x1.free (by rw [mup_ne (Ne.symm pab)] at hpb; exact hpb)
    clear hM2
    repeat' (k_extra "y")
    refine ws_for (t := .tp [.nm 8, .nm 9]) C (by k_extra "tgt") (fun _ => rfl) ?_
    k_extra "enT"
    repeat' (k_extra "y")
    refine ⟨fun i ρ M' => ∃ (S : Sd) (n' h' s' c1 c2 c3 : Option D), ρ = [some (.tup [.tup (hs.map hsD), .int w]), some (.tup (ps.map plD)), some (.int a), some (.obj pa), some (.int S.A), some (.obj pb), some (.int S.F), some (.int S.L), n', h', s', c1, c2, c3] ∧
      S = sts hs w ps a i ∧ M' pa = some (.lst (S.qs.map plD)) ∧ M' pb = some (.lst (S.os.map D.int)) ∧ Ext M M' ∧ S.os.length = i,
      ⟨sts hs w ps a 0, _, _, _, _, _, _, rfl, rfl, ea, eb, x2, rfl⟩, fun _ _ _ _ => trivial, ?_, ?_⟩
    · rintro i d ρ M' hd ⟨S, n', h', s', c1, c2, c3, rfl, eS, ha, hb', x, hl⟩
      obtain ⟨f, hf, rfl⟩ := enumD_get hd
      obtain ⟨h, rfl, hh⟩ := get_map hf
      have ok1 : HOk h := ok.h h (List.mem_of_getElem? hh)
      have hi : i < hs.length := (List.getElem?_eq_some_iff.mp hh).1
      have bn := sts_b ok hlen hb (by omega) a0 a1 (i := i) (by omega)
      have bp := fun j => day_pos (j := j) ok hlen hb x1' xb a0 a1 (i := i + 1) (by omega)
      have eS' : sts hs w ps a (i + 1) = stp hs w S i := by rw [eS]; rfl
      rw [← eS] at bn
      rw [eS'] at bp
      have blen := bn.len
      obtain ⟨q, hq⟩ : ∃ q, S.qs[i]? = some q := ⟨_, List.getElem?_eq_getElem (by rw [blen]; exact hi)⟩
      have co1 := bn.q q (List.mem_of_getElem? hq)
      obtain ⟨qs, A, F, L, os⟩ := S
      dsimp only at ha hb' hl hq blen ⊢
      refine ⟨[some (.tup [.tup (hs.map hsD), .int w]), some (.tup (ps.map plD)), some (.int a), some (.obj pa), some (.int A), some (.obj pb), some (.int F), some (.int L), some (.int (i : Nat)), some (hsD h), s', c1, c2, c3], rfl, ?_⟩
      repeat' (k_extra "y")
      refine ⟨q, A, rfl, fun s es => ?_⟩
      have es : s = snt q A := es
      repeat' (k_extra "y")
      refine q_setM ha (ixN_nat rfl (by rw [blen]; exact hi)) ?_
      rw [set_pl]
      generalize hM3 : mup M' pa (.lst ((qs.set i ⟨q.ha - s, q.co, q.ow + A - s⟩).map plD)) = M3
      have ha3 : M3 pa = some (.lst ((qs.set i ⟨q.ha - s, q.co, q.ow + A - s⟩).map plD)) := by rw [← hM3]; exact mup_same
      have hb3 : M3 pb = some (.lst (os.map D.int)) := by rw [← hM3, mup_ne (Ne.symm pab)]; exact hb'
      have x3 : Ext M M3 := by rw [← hM3]; exact x.put fa
      clear hM3
      have hqs : (qs.set i ⟨q.ha - s, q.co, q.ow + A - s⟩)[i]? = some ⟨q.ha - s, q.co, q.ow + A - s⟩ := by rw [List.getElem?_set, if_pos rfl, if_pos (by rw [blen]; exact hi)]
      repeat' (k_extra "y")
      refine Br.dec (fun c => ?_) fun c => ?_
      · have c : i = 0 := by omega
        subst c
        have eS2 := eS'.trans (stp_zero hh hq)
        rw [stp_zero hh hq] at bp
        simp only [stp0] at eS2 bp
        repeat' (k_extra "y")
        have l0 : 0 < qs.length := by rw [blen]; exact hi
        refine q_ixK (items_lst ha3) (n := 0) (ixN_nat rfl (by rw [List.length_set]; exact l0)) hqs ?_
        dsimp only [plD]
        repeat' (k_extra "y")
        subst es
        generalize eL : (if q.ow + A - snt q A - w > 0 then q.ow + A - snt q A - w else 0) = L2
        have eL : L2 = los q A w := eL.symm
        refine q_setM ha3 (n := 0) (ixN_nat rfl (by rw [List.length_set]; exact l0)) ?_
        rw [show D.tup [D.int (q.ha - snt q A), D.tup (q.co.map D.int), D.int (q.ow + A - snt q A - L2)] = plD ⟨q.ha - snt q A, q.co, q.ow + A - snt q A - L2⟩ from rfl, set_pl, List.set_set]
        subst eL
        generalize eq4 : qs.set 0 ⟨q.ha - snt q A, q.co, q.ow + A - snt q A - los q A w⟩ = qs4 at eS2 bp ⊢
        have l4 : qs4.length = qs.length := by rw [← eq4, List.length_set]
        generalize hM4 : mup M3 pa (.lst (qs4.map plD)) = M4
        have ha4 : M4 pa = some (.lst (qs4.map plD)) := by rw [← hM4]; exact mup_same
        have hb4 : M4 pb = some (.lst (os.map D.int)) := by rw [← hM4, mup_ne (Ne.symm pab)]; exact hb3
        have x4 : Ext M M4 := by rw [← hM4]; exact x3.put fa
        clear hM4
        repeat' (k_extra "y")
        refine ⟨_, qs4, 0, rfl, items_lst ha4, by omega, ?_⟩
        repeat' (k_extra "y")
        · assumption
        · exact bp 0
        repeat' (k_extra "y")
        repeat' (k_extra "y")
        refine ⟨_, hb4, by rw [List.length_map, hl]; exact Nat.lt_of_le_of_lt (show 0 ≤ 3 by omega) (by decide), ?_⟩
        exact ⟨⟨qs4, ord h (posP qs4 0), snt q A, los q A w, os ++ [ord h (posP qs4 0)]⟩, _, _, _, _, _, _, rfl, eS2.symm, by rw [mup_ne pab]; exact ha4, by rw [mup_same, List.map_append]; rfl, x4.put fb, by simp [hl]⟩
      · obtain ⟨j, rfl⟩ : ∃ j, i = j + 1 := ⟨i - 1, by omega⟩
        repeat' (k_extra "y")
        have l0 : j + 1 < qs.length := by rw [blen]; exact hi
        obtain ⟨q0, hq0⟩ : ∃ q0, qs[j]? = some q0 := ⟨_, List.getElem?_eq_getElem (by omega)⟩
        have co0 := bn.q q0 (List.mem_of_getElem? hq0)
        have d0 := co0.l1
        have d1 := co0.l4
        have eS2 := eS'.trans (stp_succ hh hq hq0)
        rw [stp_succ hh hq hq0] at bp
        simp only [stpS] at eS2 bp
        have hq0' : (qs.set (j + 1) ⟨q.ha - s, q.co, q.ow + A - s⟩)[j]? = some q0 := by rw [List.getElem?_set, if_neg (by omega)]; exact hq0
        refine q_ixK (items_lst ha3) (n := j) (ixN_nat (by omega) (by rw [List.length_set]; omega)) hq0' ?_
        repeat' (k_extra "y")
        refine ⟨q0, s, rfl, d0, d1, ?_⟩
        repeat' (k_extra "y")
        refine q_setM ha3 (n := j) (ixN_nat (by omega) (by rw [List.length_set]; omega)) ?_
        rw [set_pl]
        subst es
        generalize eq4 : (qs.set (j + 1) ⟨q.ha - snt q A, q.co, q.ow + A - snt q A⟩).set j ⟨q0.ha, aL q0.co (snt q A), q0.ow⟩ = qs4 at eS2 bp ⊢
        have l4 : qs4.length = qs.length := by rw [← eq4, List.length_set, List.length_set]
        generalize hM4 : mup M3 pa (.lst (qs4.map plD)) = M4
        have ha4 : M4 pa = some (.lst (qs4.map plD)) := by rw [← hM4]; exact mup_same
        have hb4 : M4 pb = some (.lst (os.map D.int)) := by rw [← hM4, mup_ne (Ne.symm pab)]; exact hb3
        have x4 : Ext M M4 := by rw [← hM4]; exact x3.put fa
        clear hM4
        repeat' (k_extra "y")
        refine ⟨_, qs4, (j + 1), rfl, items_lst ha4, by omega, ?_⟩
        repeat' (k_extra "y")
        · assumption
        · exact bp (j + 1)
        repeat' (k_extra "y")
        repeat' (k_extra "y")
        refine ⟨_, hb4, by rw [List.length_map, hl]; exact Nat.lt_of_le_of_lt (show (j + 1) ≤ 3 by omega) (by decide), ?_⟩
        exact ⟨⟨qs4, ord h (posP qs4 (j + 1)), F, L, os ++ [ord h (posP qs4 (j + 1))]⟩, _, _, _, _, _, _, rfl, eS2.symm, by rw [mup_ne pab]; exact ha4, by rw [mup_same, List.map_append]; rfl, x4.put fb, by simp [hl]⟩
    · rintro ρ M' ⟨S, n', h', s', c1, c2, c3, rfl, eS, ha, hb', x, hl⟩
      have el : (enumD (hs.map hsD)).length = hs.length := by rw [enumD_len, List.length_map]
      rw [el] at eS
      have bn := sts_b ok hlen hb (by omega) a0 a1 (i := hs.length) (by omega)
      rw [← eS] at bn
      have hlq := bn.len
      obtain ⟨n, hn⟩ : ∃ n, hs.length = n + 1 := ⟨hs.length - 1, by omega⟩
      obtain ⟨q, hq⟩ : ∃ q, S.qs[n]? = some q := ⟨_, List.getElem?_eq_getElem (by omega)⟩
      have co1 := bn.q q (List.mem_of_getElem? hq)
      have d0 := co1.l1
      have d1 := co1.l4
      have e1 : dayQ hs w ps a = S.qs.set n ⟨q.ha, aL q.co S.A, q.ow⟩ := by
        unfold dayQ
        rw [← eS, show hs.length - 1 = n by omega]
        simp [fin, hq]
      have e2 : dayN hs w ps a = ⟨S.F, S.L, S.os⟩ := by unfold dayN; rw [← eS]
      rw [e1, e2] at k
      repeat' (k_extra "y")
      refine q_ixL (items_lst ha) (x := q) (by rw [List.getLast?_eq_getElem?, hlq, hn]; exact hq) ?_
      repeat' (k_extra "y")
      refine ⟨q, S.A, rfl, d0, d1, ?_⟩
      repeat' (k_extra "y")
      refine q_setM ha (n := n) (by rw [ixN_last (by omega)]; congr 1; omega) ?_
      rw [set_pl]
      repeat' (k_extra "y")
      exact k _ (x.put fa)
def rnS (hs : List Hs) (w : Int) (S : List Pl × List Nz) (a : Int) : List Pl × List Nz := (dayQ hs w S.1 a, S.2 ++ [dayN hs w S.1 a])
def rn (hs : List Hs) (w : Int) (ps : List Pl) (ns : List Int) : List Pl × List Nz := ns.foldl (rnS hs w) (ps, [])
theorem rn_take {hs : List Hs} {w : Int} {ps : List Pl} {ns : List Int} {i : Nat} {a : Int} (h : ns[i]? = some a) : rn hs w ps (ns.take (i + 1)) = rnS hs w (rn hs w ps (ns.take i)) a := by
  unfold rn
  rw [take_succ' h, List.foldl_append]
  rfl
theorem p10 (i : Nat) : 1 ≤ (10000 : Int) ^ i := by
  induction i with
  | zero => decide
  | succ i ih => rw [Int.pow_succ]; omega
theorem p10b (i : Nat) : Bd (14 * i + 1) ((10000 : Int) ^ i) := by
  induction i with
  | zero => decide
  | succ i ih =>
    rw [Int.pow_succ]
    exact (Bd.mul ih (b := 14) (by decide)).le (by omega)
theorem rn_b {hs : List Hs} {w : Int} {ps : List Pl} (ok : COk hs w) (l : ps.length = hs.length) (b : ∀ q ∈ ps, PlB 40 q) : ∀ {ns : List Int} (i : Nat), i ≤ ns.length → (∀ a ∈ ns, 0 ≤ a ∧ a ≤ 9) → (rn hs w ps (ns.take i)).1.length = hs.length ∧ (∀ q ∈ (rn hs w ps (ns.take i)).1, PlB (10000 ^ i * 40) q) ∧ (rn hs w ps (ns.take i)).2.length = i := by
  intro ns i
  induction i with
  | zero => intro _ _; exact ⟨l, fun q hq => (b q hq).le (by decide), rfl⟩
  | succ i ih =>
    intro hi hn
    obtain ⟨h1, h2, h3⟩ := ih (by omega) hn
    have e : ns[i]? = some ns[i] := List.getElem?_eq_getElem (by omega)
    have ⟨a0, a1⟩ := hn _ (List.mem_of_getElem? e)
    have p := p10 i
    have d := day_b ok h1 h2 (by omega) a0 a1
    rw [rn_take e]
    refine ⟨d.1, fun q hq => (d.2 q hq).le ?_, by simp [rnS, h3]⟩
    rw [Int.pow_succ]
    omega
theorem rn_X {i : Nat} (h : i ≤ 30) : 1 ≤ (10000 : Int) ^ i * 40 ∧ Bd 900 ((10000 : Int) ^ i * 40) := by
  have p := p10 i
  exact ⟨by omega, (Bd.mul (p10b i) (b := 6) (by decide)).le (by omega)⟩
theorem bg_b {hs : List Hs} {w : Int} (ok : COk hs w) : ∀ q ∈ hs.map bgP, PlB 40 q := by
  intro q hq
  obtain ⟨h, hh, rfl⟩ := List.mem_map.mp hq
  have o := ok.h h hh
  have l0 := o.l0
  have l1 := o.l1
  have d0 := o.d0
  have d1 := o.d1
  have t : 0 ≤ topH h ∧ topH h ≤ 39 := by
    unfold topH
    split
    · rename_i e; have := o.f e; omega
    · rename_i e; have := o.p (by simpa using e); omega
  refine ⟨t.1, by simp only [bgP]; omega, by simp [bgP], by simp [bgP], fun x hx => ?_, by simp [bgP]; omega, by simp [bgP]; omega⟩
  simp [bgP] at hx
  omega
/-! ### need_demand -/
abbrev s_need_demand : Stmt := top 25
theorem sc_need_demand : FnScope ["demand"] ["demand"] (defScope s_need_demand) := ⟨rfl, rfl, rfl, by decide +kernel, rfl, by decide +kernel, by decide +kernel⟩
abbrev nm_need_demand : Nms := ⟨["demand"], ["demand"], ["demand"], ["is_whole", "MOST_DEMAND", "BadDemand"], [], false⟩
theorem no_need_demand : nm_need_demand.ok (defScope s_need_demand) = true := by decide +kernel
def sp_need_demand : Sp2 := fun ds M Q _ => ∃ a : Int, ds = [.int a] ∧ 0 ≤ a ∧ a ≤ 9 ∧ Q (.int a) M
theorem ok_need_demand {f : Addr} {fd : FuncData} (F : Fun K "need_demand" "need_demand" s_need_demand f fd) (T : Txt P w K mg base) (G_is_whole : Def2 P w K mg base 1 "is_whole" ["value", "least", "most"] sp_is_whole) : Fn2 P w K mg base 3 f fd ["demand"] sp_need_demand := by
  refine fn2_of F sc_need_demand no_need_demand (fun ds M Q E h => ?_) (fun X ds M Q E C h => ?_)
  · repeat (first | (obtain ⟨rfl, _⟩ := h; rfl) | (obtain ⟨_, h⟩ := h))
  · obtain ⟨a, rfl, a0, a1, k⟩ := h
    show WSs X _ _ [some (.int a)] M
    refine wss_cons ?_
    repeat' (k_extra "y")
    exact k
structure Rc where
  de : D
  hs : List Hs
  w : Int
  qs : List Pl
  no : Option Nz
def noD : Option Nz → D
  | none => .non
  | some n => nzD n
def rcD (r : Rc) : D := .tup [r.de, chD r.hs r.w, .tup (r.qs.map plD), noD r.no]
abbrev ledO (K : PySem.W.Frag) (ps ls : List Rc) : MO := .ins (cad K "Led") [("past", .tup (ps.map rcD)), ("later", .tup (ls.map rcD))]
theorem Ext.mup {M M1 : Mem} {a : Addr} {o : MO} (x : Y.Ext M M1) : Y.Ext (mup M a o) (mup M1 a o) := fun b u e => by
  by_cases c : b = a
  · subst c; rw [mup_same] at e ⊢; exact e
  · rw [mup_ne c] at e ⊢; exact x b u e
theorem mup_mup {M : Mem} {a : Addr} {o o' : MO} : mup (mup M a o) a o' = mup M a o' := by
  funext b
  unfold mup
  by_cases c : b = a
  · rw [if_pos c, if_pos c]
  · rw [if_neg c, if_neg c, if_neg c]
theorem put1 {d : D} : putFD "past" d [] = ([("past", d)] : List (Str × D)) := rfl
theorem n_pl : ¬ ("past" : Str) = "later" := by decide +kernel
theorem put2 {d p : D} : putFD "later" d ([("past", p)] : List (Str × D)) = ([("past", p), ("later", d)] : List (Str × D)) := by unfold putFD; rw [if_neg n_pl]; rfl
theorem put3 {d p l : D} : putFD "past" d ([("past", p), ("later", l)] : List (Str × D)) = ([("past", d), ("later", l)] : List (Str × D)) := by unfold putFD; rw [if_pos rfl]
theorem put4 {d p l : D} : putFD "later" d ([("past", p), ("later", l)] : List (Str × D)) = ([("past", p), ("later", d)] : List (Str × D)) := by unfold putFD; rw [if_neg n_pl]; unfold putFD; rw [if_pos rfl]
theorem cut_dropG {ds : List D} {n : Nat} : Y.cutD ds (some (n : Int)) none = ds.drop n := by
  unfold Y.cutD
  have e : HT.sIx ds.length 0 (some (n : Int)) = min n ds.length := by
    show (if (n : Int) < 0 then ((n : Int) + ((ds.length : Nat) : Int)).toNat else min (n : Int).toNat ds.length) = _
    rw [if_neg (by omega), Int.toNat_natCast]
  rw [e, show HT.sIx ds.length ds.length none = ds.length from rfl]
  rw [List.take_of_length_le (by rw [List.length_drop]; exact Nat.le_refl _)]
  by_cases c : n ≤ ds.length
  · rw [Nat.min_eq_left c]
  · rw [Nat.min_eq_right (by omega), List.drop_of_length_le (Nat.le_refl _), List.drop_of_length_le (by omega)]
/-- the notes of a record -/
def notes (ps : List Rc) : List Nz := ps.filterMap (·.no)
theorem notes_eq (ps : List Rc) : (ps.filter (fun r => r.no.isSome)).map (fun r => noD r.no) = (notes ps).map nzD := by
  unfold notes
  induction ps with
  | nil => rfl
  | cons r ps ih =>
    cases h : r.no with
    | none =>
      simp only [List.filter_cons, List.filterMap_cons, h, Option.isSome_none]
      exact ih
    | some n =>
      simp only [List.filter_cons, List.filterMap_cons, h, Option.isSome_some, if_true, List.map_cons]
      rw [ih]
      rfl
/-! ### Led_chain -/
abbrev s_Led_chain : Stmt := clsAt (top 35) 1
theorem sc_Led_chain : FnScope ["self"] ["self"] (defScope s_Led_chain) := ⟨rfl, rfl, rfl, by decide +kernel, rfl, by decide +kernel, by decide +kernel⟩
abbrev nm_Led_chain : Nms := ⟨["self"], ["self"], ["self"], [], [], false⟩
theorem no_Led_chain : nm_Led_chain.ok (defScope s_Led_chain) = true := by decide +kernel
def sp_Led_chain (K : PySem.W.Frag) : Sp2 := fun ds M Q _ => ∃ (a : Addr) (ps ls : List Rc) (r : Rc), ds = [.obj a] ∧ M a = some (ledO K ps ls) ∧ ps.getLast? = some r ∧ Q (chD r.hs r.w) M
theorem st_Led_chain {M : Mem} {Q : QE} {E : XQ} {a : Addr} {ps ls : List Rc} {r : Rc} (e : M a = some (ledO K ps ls)) (h : ps.getLast? = some r) (q : Q (chD r.hs r.w) M) : sp_Led_chain K [.obj a] M Q E := ⟨a, ps, ls, r, rfl, e, h, q⟩
theorem ok_Led_chain {f : Addr} {fd : FuncData} (F : Fun K "chain" "Led.chain" s_Led_chain f fd) (T : Txt P w K mg base)  : Fn2 P w K mg base 1 f fd ["self"] (sp_Led_chain K) := by
  refine fn2_of F sc_Led_chain no_Led_chain (fun ds M Q E h => ?_) (fun X ds M Q E C h => ?_)
  · repeat (first | (obtain ⟨rfl, _⟩ := h; rfl) | (obtain ⟨_, h⟩ := h))
  · obtain ⟨a, ps, ls, r, rfl, e, hr, k⟩ := h
    show WSs X _ _ [some (.obj a)] M
    refine wss_one ?_
    repeat' (first | k_extra "y" | k_extra "n" | k_extra "z")
    exact k
example : True := by
  k_with "lq" => first | (with_reducible refine' st_Led_chain ?st_1 ?st_2 ?_; (case st_1 => k_extra "mem"); (case st_2 => assumption)) | fail
  trivial
/-! ### Led_stand -/
abbrev s_Led_stand : Stmt := clsAt (top 35) 2
theorem sc_Led_stand : FnScope ["self"] ["self"] (defScope s_Led_stand) := ⟨rfl, rfl, rfl, by decide +kernel, rfl, by decide +kernel, by decide +kernel⟩
abbrev nm_Led_stand : Nms := ⟨["self"], ["self"], ["self"], [], [], false⟩
theorem no_Led_stand : nm_Led_stand.ok (defScope s_Led_stand) = true := by decide +kernel
def sp_Led_stand (K : PySem.W.Frag) : Sp2 := fun ds M Q _ => ∃ (a : Addr) (ps ls : List Rc) (r : Rc), ds = [.obj a] ∧ M a = some (ledO K ps ls) ∧ ps.getLast? = some r ∧ Q (.tup (r.qs.map plD)) M
theorem st_Led_stand {M : Mem} {Q : QE} {E : XQ} {a : Addr} {ps ls : List Rc} {r : Rc} (e : M a = some (ledO K ps ls)) (h : ps.getLast? = some r) (q : Q (.tup (r.qs.map plD)) M) : sp_Led_stand K [.obj a] M Q E := ⟨a, ps, ls, r, rfl, e, h, q⟩
theorem ok_Led_stand {f : Addr} {fd : FuncData} (F : Fun K "stand" "Led.stand" s_Led_stand f fd) (T : Txt P w K mg base)  : Fn2 P w K mg base 1 f fd ["self"] (sp_Led_stand K) := by
  refine fn2_of F sc_Led_stand no_Led_stand (fun ds M Q E h => ?_) (fun X ds M Q E C h => ?_)
  · repeat (first | (obtain ⟨rfl, _⟩ := h; rfl) | (obtain ⟨_, h⟩ := h))
  · obtain ⟨a, ps, ls, r, rfl, e, hr, k⟩ := h
    show WSs X _ _ [some (.obj a)] M
    refine wss_one ?_
    repeat' (first | k_extra "y" | k_extra "n" | k_extra "z")
    exact k
example : True := by
  k_with "lq" => first | (with_reducible refine' st_Led_stand ?st_1 ?st_2 ?_; (case st_1 => k_extra "mem"); (case st_2 => assumption)) | fail
  trivial
/-! ### Led___len__ -/
abbrev s_Led___len__ : Stmt := clsAt (top 35) 3
theorem sc_Led___len__ : FnScope ["self"] ["self"] (defScope s_Led___len__) := ⟨rfl, rfl, rfl, by decide +kernel, rfl, by decide +kernel, by decide +kernel⟩
abbrev nm_Led___len__ : Nms := ⟨["self"], ["self"], ["self"], ["len"], [], false⟩
theorem no_Led___len__ : nm_Led___len__.ok (defScope s_Led___len__) = true := by decide +kernel
def sp_Led___len__ (K : PySem.W.Frag) : Sp2 := fun ds M Q _ => ∃ (a : Addr) (ps ls : List Rc), ds = [.obj a] ∧ M a = some (ledO K ps ls) ∧ Q (.int ((ps.length - 1 : Nat) : Int)) M
theorem st_Led___len__ {M : Mem} {Q : QE} {E : XQ} {a : Addr} {ps ls : List Rc} (e : M a = some (ledO K ps ls)) (q : Q (.int ((ps.length - 1 : Nat) : Int)) M) : sp_Led___len__ K [.obj a] M Q E := ⟨a, ps, ls, rfl, e, q⟩
theorem ok_Led___len__ {f : Addr} {fd : FuncData} (F : Fun K "__len__" "Led.__len__" s_Led___len__ f fd) (T : Txt P w K mg base)  : Fn2 P w K mg base 1 f fd ["self"] (sp_Led___len__ K) := by
  refine fn2_of F sc_Led___len__ no_Led___len__ (fun ds M Q E h => ?_) (fun X ds M Q E C h => ?_)
  · repeat (first | (obtain ⟨rfl, _⟩ := h; rfl) | (obtain ⟨_, h⟩ := h))
  · obtain ⟨a, ps, ls, rfl, e, k⟩ := h
    show WSs X _ _ [some (.obj a)] M
    refine wss_one ?_
    repeat' (first | k_extra "y" | k_extra "n" | k_extra "z")
    rw [cut_tail, List.length_tail, List.length_map]
    exact k
example : True := by
  k_with "lq" => first | (with_reducible refine' st_Led___len__ ?st_1 ?_; (case st_1 => k_extra "mem")) | fail
  trivial
/-! ### Led_notes -/
abbrev s_Led_notes : Stmt := clsAt (top 35) 4
theorem sc_Led_notes : FnScope ["self", "one"] ["self"] (defScope s_Led_notes) := ⟨rfl, rfl, rfl, by decide +kernel, rfl, by decide +kernel, by decide +kernel⟩
abbrev nm_Led_notes : Nms := ⟨["self"], ["self"], ["self"], ["tuple"], [], false⟩
theorem no_Led_notes : nm_Led_notes.ok (defScope s_Led_notes) = true := by decide +kernel
abbrev nb_Led_notes_0 : Nms := ⟨["one"], ["one"], ["one"], [], [], false⟩
abbrev ow_Led_notes_0 : List (Str × Nat) := [("one", 1)]
def sp_Led_notes (K : PySem.W.Frag) : Sp2 := fun ds M Q _ => ∃ (a : Addr) (ps ls : List Rc), ds = [.obj a] ∧ M a = some (ledO K ps ls) ∧ ps.length ≤ 1000 ∧ ∀ M', Ext M M' → Q (.tup ((notes ps).map nzD)) M'
theorem ok_Led_notes {f : Addr} {fd : FuncData} (F : Fun K "notes" "Led.notes" s_Led_notes f fd) (T : Txt P w K mg base)  : Fn2 P w K mg base 1 f fd ["self"] (sp_Led_notes K) := by
  refine fn2_of F sc_Led_notes no_Led_notes (fun ds M Q E h => ?_) (fun X ds M Q E C h => ?_)
  · repeat (first | (obtain ⟨rfl, _⟩ := h; rfl) | (obtain ⟨_, h⟩ := h))
  · obtain ⟨a, ps, ls, rfl, e, hl, k⟩ := h
    show WSs X _ _ [some (.obj a), none] M
    refine wss_one ?_
    repeat' (first | k_extra "y" | k_extra "n" | k_extra "z")
    refine we_lcH (α := Rc) (own := ow_Led_notes_0) (t := .nm 1) C (by decide +kernel) (by decide) (fun X1 B => by have C1 := C.blk (sc2 := nb_Led_notes_0) B rfl (by decide +kernel); k_extra "tgt") (fun _ => rfl) ?_
    refine wi_tup ?_
    repeat' (first | k_extra "y" | k_extra "n" | k_extra "z")
    refine ⟨ps, rcD, fun r => r.no.isSome, fun r => noD r.no, ⟨rfl, by rw [List.length_map]; exact Nat.le_trans hl (by decide), fun _ _ => trivial, fun i r M' hr x => ?_⟩, fun Dd M' hD e' x => ?_⟩
    · refine ⟨[some (.obj a), some (rcD r)], rfl, fun X' B => ?_⟩
      have C' := C.blk (sc2 := nb_Led_notes_0) B rfl (by decide +kernel)
      obtain ⟨de, hs, w, qs, no⟩ := r
      cases no with
      | none =>
        repeat' (first | k_extra "y" | k_extra "n" | k_extra "z")
        exact ⟨Ext.refl _, rfl, fun z => by cases z⟩
      | some n =>
        repeat' (first | k_extra "y" | k_extra "n" | k_extra "z")
        refine ⟨Ext.refl _, rfl, fun _ X2 B2 => ?_⟩
        have C2 := C.blk (sc2 := nb_Led_notes_0) B2 rfl (by decide +kernel)
        repeat' (first | k_extra "y" | k_extra "n" | k_extra "z")
        exact ⟨Ext.refl _, rfl⟩
    · repeat' (first | k_extra "y" | k_extra "n" | k_extra "z")
      rw [notes_eq]
      exact k _ x
/-! ### Led_keep -/
abbrev s_Led_keep : Stmt := clsAt (top 35) 8
theorem sc_Led_keep : FnScope ["self", "one"] ["self", "one"] (defScope s_Led_keep) := ⟨rfl, rfl, rfl, by decide +kernel, rfl, by decide +kernel, by decide +kernel⟩
abbrev nm_Led_keep : Nms := ⟨["self", "one"], ["self", "one"], ["self", "one"], [], [], false⟩
theorem no_Led_keep : nm_Led_keep.ok (defScope s_Led_keep) = true := by decide +kernel
def sp_Led_keep (K : PySem.W.Frag) : Sp2 := fun ds M Q _ => ∃ (a : Addr) (ps ls : List Rc) (r : Rc), ds = [.obj a, rcD r] ∧ M a = some (ledO K ps ls) ∧ ps.length ≤ 1000 ∧ ∀ M', Ext (mup M a (ledO K (ps ++ [r]) [])) M' → Q .non M'
theorem ok_Led_keep {f : Addr} {fd : FuncData} (F : Fun K "keep" "Led.keep" s_Led_keep f fd) (T : Txt P w K mg base)  : Fn2 P w K mg base 1 f fd ["self", "one"] (sp_Led_keep K) := by
  refine fn2_of F sc_Led_keep no_Led_keep (fun ds M Q E h => ?_) (fun X ds M Q E C h => ?_)
  · repeat (first | (obtain ⟨rfl, _⟩ := h; rfl) | (obtain ⟨_, h⟩ := h))
  · obtain ⟨a, ps, ls, r, rfl, e, hl, k⟩ := h
    show WSs X _ _ [some (.obj a), some (rcD r)] M
    refine wss_cons ?_
    repeat' (first | k_extra "y" | k_extra "n" | k_extra "z")
    refine ⟨by rw [List.length_append, List.length_map]; exact Nat.le_trans (show ps.length + 1 ≤ 1001 by omega) (by decide), ?_⟩
    repeat' (first | k_extra "y" | k_extra "n" | k_extra "z")
    rw [put3, show ps.map rcD ++ [rcD r] = (ps ++ [r]).map rcD by rw [List.map_append]; rfl]
    repeat' (first | k_extra "y" | k_extra "n" | k_extra "z")
    rw [put4, mup_mup]
    exact k _ (Ext.refl _)
/-! ### Led_need_room -/
abbrev s_Led_need_room : Stmt := clsAt (top 35) 7
theorem sc_Led_need_room : FnScope ["self"] ["self"] (defScope s_Led_need_room) := ⟨rfl, rfl, rfl, by decide +kernel, rfl, by decide +kernel, by decide +kernel⟩
abbrev nm_Led_need_room : Nms := ⟨["self"], ["self"], ["self"], ["len", "MOST_DEEDS", "TooGreat"], [], false⟩
theorem no_Led_need_room : nm_Led_need_room.ok (defScope s_Led_need_room) = true := by decide +kernel
def sp_Led_need_room (K : PySem.W.Frag) : Sp2 := fun ds M Q _ => ∃ (a : Addr) (ps ls : List Rc), ds = [.obj a] ∧ M a = some (ledO K ps ls) ∧ ps.length ≤ 400 ∧ Q .non M
theorem ok_Led_need_room {f : Addr} {fd : FuncData} (F : Fun K "need_room" "Led.need_room" s_Led_need_room f fd) (T : Txt P w K mg base) (G_Led___len__ : Met2 P w K mg base 1 "Led" "__len__" ["self"] (sp_Led___len__ K)) : Fn2 P w K mg base 3 f fd ["self"] (sp_Led_need_room K) := by
  refine fn2_of F sc_Led_need_room no_Led_need_room (fun ds M Q E h => ?_) (fun X ds M Q E C h => ?_)
  · repeat (first | (obtain ⟨rfl, _⟩ := h; rfl) | (obtain ⟨_, h⟩ := h))
  · obtain ⟨a, ps, ls, rfl, e, hl, k⟩ := h
    show WSs X _ _ [some (.obj a)] M
    refine wss_one ?_
    repeat' (first | k_extra "y" | k_extra "n" | k_extra "z")
    refine ⟨by omega, by omega, ?_⟩
    repeat' (first | k_extra "y" | k_extra "n" | k_extra "z")
    exact k
/-! ### Led___init__ -/
abbrev s_Led___init__ : Stmt := clsAt (top 35) 0
theorem sc_Led___init__ : FnScope ["self", "chain"] ["self", "chain"] (defScope s_Led___init__) := ⟨rfl, rfl, rfl, by decide +kernel, rfl, by decide +kernel, by decide +kernel⟩
abbrev nm_Led___init__ : Nms := ⟨["self", "chain"], ["self", "chain"], ["self", "chain"], ["need_chain", "begin_of"], [], false⟩
theorem no_Led___init__ : nm_Led___init__.ok (defScope s_Led___init__) = true := by decide +kernel
def sp_Led___init__ (K : PySem.W.Frag) : Sp2 := fun ds M Q _ => ∃ (a : Addr) (hs : List Hs) (w : Int), ds = [.obj a, chD hs w] ∧ COk hs w ∧ M a = some (.ins (cad K "Led") []) ∧ ∀ M', Ext (mup M a (ledO K [⟨.non, hs, w, hs.map bgP, none⟩] [])) M' → Q .non M'
theorem ok_Led___init__ {f : Addr} {fd : FuncData} (F : Fun K "__init__" "Led.__init__" s_Led___init__ f fd) (T : Txt P w K mg base) (G_need_chain : Def2 P w K mg base 4 "need_chain" ["chain"] sp_need_chain) (G_begin_of : Def2 P w K mg base 2 "begin_of" ["chain"] sp_begin_of) : Fn2 P w K mg base 5 f fd ["self", "chain"] (sp_Led___init__ K) := by
  refine fn2_of F sc_Led___init__ no_Led___init__ (fun ds M Q E h => ?_) (fun X ds M Q E C h => ?_)
  · repeat (first | (obtain ⟨rfl, _⟩ := h; rfl) | (obtain ⟨_, h⟩ := h))
  · obtain ⟨a, hs, w, rfl, ok, e, k⟩ := h
    show WSs X _ _ [some (.obj a), some (chD hs w)] M
    refine wss_cons ?_
    repeat' (first | k_extra "y" | k_extra "n" | k_extra "z")
    refine ⟨hs, w, rfl, ok, ?_⟩
    repeat' (first | k_extra "y" | k_extra "n" | k_extra "z")
    intro M1 x1
    repeat' (first | k_extra "y" | k_extra "n" | k_extra "z")
    rw [put1]
    repeat' (first | k_extra "y" | k_extra "n" | k_extra "z")
    rw [put2, mup_mup]
    exact k _ (Ext.mup x1)
/-! ### Led_sell -/
abbrev s_Led_sell : Stmt := clsAt (top 35) 9
theorem sc_Led_sell : FnScope ["self", "demand", "stand", "note"] ["self", "demand"] (defScope s_Led_sell) := ⟨rfl, rfl, rfl, by decide +kernel, rfl, by decide +kernel, by decide +kernel⟩
abbrev nm_Led_sell : Nms := ⟨["self", "demand", "stand", "note"], ["self", "demand", "stand", "note"], ["self", "demand", "stand", "note"], ["need_demand", "day_of", "SELL"], [], false⟩
theorem no_Led_sell : nm_Led_sell.ok (defScope s_Led_sell) = true := by decide +kernel
def sp_Led_sell (K : PySem.W.Frag) : Sp2 := fun ds M Q _ => ∃ (a : Addr) (ps ls : List Rc) (r : Rc) (d Y : Int), ds = [.obj a, .int d] ∧ M a = some (ledO K ps ls) ∧ ps.getLast? = some r ∧ ps.length ≤ 400 ∧ COk r.hs r.w ∧ r.qs.length = r.hs.length ∧ (∀ q ∈ r.qs, PlB Y q) ∧ 1 ≤ Y ∧ Bd 900 Y ∧ 0 ≤ d ∧ d ≤ 9 ∧
  ∀ M', Ext (mup M a (ledO K (ps ++ [⟨.tup [.str "sell", .int d], r.hs, r.w, dayQ r.hs r.w r.qs d, some (dayN r.hs r.w r.qs d)⟩]) [])) M' → Q (nzD (dayN r.hs r.w r.qs d)) M'
theorem ok_Led_sell {f : Addr} {fd : FuncData} (F : Fun K "sell" "Led.sell" s_Led_sell f fd) (T : Txt P w K mg base) (G_need_demand : Def2 P w K mg base 3 "need_demand" ["demand"] sp_need_demand) (G_day_of : Def2 P w K mg base 2 "day_of" ["chain", "stand", "demand"] sp_day_of) (G_Led_chain : Prp2 P w K mg base 1 "Led" "chain" ["self"] (sp_Led_chain K)) (G_Led_stand : Prp2 P w K mg base 1 "Led" "stand" ["self"] (sp_Led_stand K)) (G_Led_need_room : Met2 P w K mg base 3 "Led" "need_room" ["self"] (sp_Led_need_room K)) (G_Led_keep : Met2 P w K mg base 1 "Led" "keep" ["self", "one"] (sp_Led_keep K)) : Fn2 P w K mg base 5 f fd ["self", "demand"] (sp_Led_sell K) := by
  refine fn2_of F sc_Led_sell no_Led_sell (fun ds M Q E h => ?_) (fun X ds M Q E C h => ?_)
  · repeat (first | (obtain ⟨rfl, _⟩ := h; rfl) | (obtain ⟨_, h⟩ := h))
  · obtain ⟨a, ps, ls, r, d, Y, rfl, e, hr, hl, ok, ql, hb, y1, yb, d0, d9, k⟩ := h
    show WSs X _ _ [some (.obj a), some (.int d), none, none] M
    refine wss_cons ?_
    repeat' (first | k_extra "y" | k_extra "n" | k_extra "z")
    refine ⟨d, rfl, d0, d9, ?_⟩
    repeat' (first | k_extra "y" | k_extra "n" | k_extra "z")
    refine ⟨a, ps, ls, rfl, e, hl, ?_⟩
    repeat' (first | k_extra "y" | k_extra "n" | k_extra "z")
    refine ⟨r.hs, r.w, r.qs, d, Y, rfl, ok, ql, hb, y1, yb, d0, d9, fun M1 x1 => ?_⟩
    have e1 := x1 _ _ e
    repeat' (first | k_extra "y" | k_extra "n" | k_extra "z")
    refine ⟨a, ps, ls, ⟨.tup [.str "sell", .int d], r.hs, r.w, dayQ r.hs r.w r.qs d, some (dayN r.hs r.w r.qs d)⟩, rfl, e1, by omega, fun M2 x2 => ?_⟩
    repeat' (first | k_extra "y" | k_extra "n" | k_extra "z")
    exact k _ ((Ext.mup x1).trans x2)
/-! ### Led_exchange -/
abbrev s_Led_exchange : Stmt := clsAt (top 35) 10
theorem sc_Led_exchange : FnScope ["self", "number", "rule", "houses", "wait", "fresh"] ["self", "number", "rule"] (defScope s_Led_exchange) := ⟨rfl, rfl, rfl, by decide +kernel, rfl, by decide +kernel, by decide +kernel⟩
abbrev nm_Led_exchange : Nms := ⟨["self", "number", "rule", "houses", "wait", "fresh"], ["self", "number", "rule", "houses", "wait", "fresh"], ["self", "number", "rule", "houses", "wait", "fresh"], ["is_whole", "len", "BadNumber", "is_rule", "BadRule", "EXCHANGE"], [], false⟩
theorem no_Led_exchange : nm_Led_exchange.ok (defScope s_Led_exchange) = true := by decide +kernel
def sp_Led_exchange (K : PySem.W.Frag) : Sp2 := fun ds M Q _ => ∃ (a : Addr) (ps ls : List Rc) (r : Rc) (n : Nat) (h h' : Hs), ds = [.obj a, .int n, ruD h'] ∧ M a = some (ledO K ps ls) ∧ ps.getLast? = some r ∧ ps.length ≤ 400 ∧ r.hs[n]? = some h ∧ r.hs.length ≤ 3 ∧ HOk h' ∧ h'.la = h.la ∧
  ∀ M', Ext (mup M a (ledO K (ps ++ [⟨.tup [.str "exchange", .int n, ruD h'], r.hs.set n h', r.w, r.qs, none⟩]) [])) M' → Q .non M'
theorem ok_Led_exchange {f : Addr} {fd : FuncData} (F : Fun K "exchange" "Led.exchange" s_Led_exchange f fd) (T : Txt P w K mg base) (G_is_whole : Def2 P w K mg base 1 "is_whole" ["value", "least", "most"] sp_is_whole) (G_is_rule : Def2 P w K mg base 2 "is_rule" ["value"] sp_is_rule) (G_Led_chain : Prp2 P w K mg base 1 "Led" "chain" ["self"] (sp_Led_chain K)) (G_Led_stand : Prp2 P w K mg base 1 "Led" "stand" ["self"] (sp_Led_stand K)) (G_Led_need_room : Met2 P w K mg base 3 "Led" "need_room" ["self"] (sp_Led_need_room K)) (G_Led_keep : Met2 P w K mg base 1 "Led" "keep" ["self", "one"] (sp_Led_keep K)) : Fn2 P w K mg base 5 f fd ["self", "number", "rule"] (sp_Led_exchange K) := by
  refine fn2_of F sc_Led_exchange no_Led_exchange (fun ds M Q E h => ?_) (fun X ds M Q E C h => ?_)
  · repeat (first | (obtain ⟨rfl, _⟩ := h; rfl) | (obtain ⟨_, h⟩ := h))
  · obtain ⟨a, ps, ls, r, n, h, h', rfl, e, hr, hl, hh, h3, ok, ela, k⟩ := h
    have hn := (List.getElem?_eq_some_iff.mp hh).1
    show WSs X _ _ [some (.obj a), some (.int n), some (ruD h'), none, none, none] M
    refine wss_cons ?_
    repeat' (first | k_extra "y" | k_extra "n" | k_extra "z")
    unfold chD
    repeat' (first | k_extra "y" | k_extra "n" | k_extra "z")
    refine ⟨h', rfl, ok, ?_⟩
    repeat' (first | k_extra "y" | k_extra "n" | k_extra "z")
    have c1 : Y.cutD (r.hs.map hsD) none (some (n : Int)) = (r.hs.take n).map hsD := by rw [List.map_take]; exact cut_take (by rw [List.length_map]; omega)
    have c2 : Y.cutD (r.hs.map hsD) (some ((n : Int) + 1)) none = (r.hs.drop (n + 1)).map hsD := by rw [List.map_drop]; exact cut_dropG (n := n + 1)
    have ec : (r.hs.take n).map hsD ++ [D.tup [ruD h', .int h.la]] ++ (r.hs.drop (n + 1)).map hsD = (r.hs.set n h').map hsD := by
      rw [List.set_eq_take_append_cons_drop, if_pos hn, List.map_append, List.map_cons, List.append_assoc]
      congr 1
      show _ = hsD h' :: _
      rw [show hsD h' = D.tup [ruD h', .int h.la] by rw [← ela]; rfl]
      rfl
    refine ⟨a, ps, ls, rfl, e, hl, ?_⟩
    repeat' (first | k_extra "y" | k_extra "n" | k_extra "z")
    · rw [c1]; simp only [List.length_map, List.length_take, List.length_cons, List.length_nil]; exact Nat.le_trans (show _ ≤ 10 by omega) (by decide)
    · rw [c1, c2]; simp only [List.length_append, List.length_map, List.length_take, List.length_drop, List.length_cons, List.length_nil]; exact Nat.le_trans (show _ ≤ 10 by omega) (by decide)
    rw [c1, c2, ec]
    exact ⟨a, ps, ls, ⟨.tup [.str "exchange", .int n, ruD h'], r.hs.set n h', r.w, r.qs, none⟩, rfl, e, by omega, fun M2 x2 => k _ x2⟩
/-! ### Led___eq__ -/
abbrev s_Led___eq__ : Stmt := clsAt (top 35) 15
theorem sc_Led___eq__ : FnScope ["self", "other", "one"] ["self", "other"] (defScope s_Led___eq__) := ⟨rfl, rfl, rfl, by decide +kernel, rfl, by decide +kernel, by decide +kernel⟩
abbrev nm_Led___eq__ : Nms := ⟨["self", "other"], ["self", "other"], ["self", "other"], ["isinstance", "Led"], [], false⟩
theorem no_Led___eq__ : nm_Led___eq__.ok (defScope s_Led___eq__) = true := by decide +kernel
abbrev nb_Led___eq___0 : Nms := ⟨["one"], ["one"], ["one"], [], [], false⟩
abbrev ow_Led___eq___0 : List (Str × Nat) := [("one", 2)]
abbrev nb_Led___eq___1 : Nms := ⟨["one"], ["one"], ["one"], [], [], false⟩
abbrev ow_Led___eq___1 : List (Str × Nat) := [("one", 2)]
theorem rcD_inj0 {r s : Rc} (h : rcD r = rcD s) : r.de = s.de := by
  simp only [rcD, D.tup.injEq, List.cons.injEq] at h
  exact h.1
theorem eqvAll_ne : ∀ {xs ys : List PyData}, xs.length ≠ ys.length → PyData.eqvAll xs ys = false
  | [], [], h => absurd rfl h
  | [], _ :: _, _ => by simp [PyData.eqvAll]
  | _ :: _, [], _ => by simp [PyData.eqvAll]
  | x :: xs, y :: ys, h => by
    have := eqvAll_ne (xs := xs) (ys := ys) (by simpa using h)
    simp [PyData.eqvAll, this]
theorem pyL_len : ∀ ds : List D, (pyL ds).length = ds.length
  | [] => rfl
  | d :: ds => by simp only [pyL, List.length_cons, pyL_len ds]
theorem shaped_l {k : Nat} {ds : List D} (hk : ∀ d ∈ ds, DatK k d) (l : k ≤ 50) : isDatL ds = true ∧ SeqAt.shaped (.list (pyL ds)) = true := by
  obtain ⟨x, y, z⟩ := datk_all hk
  refine ⟨x, ?_⟩
  simp [SeqAt.shaped, PyData.canLay0, PyData.depth, y]
  omega
theorem q_sameL {M : Mem} {Q : QE} {g : Bool → Bool} {a b : Addr} {ds : List D} {k : Nat} (h1 : M a = some (.lst ds)) (h2 : M b = some (.lst ds)) (hk : ∀ d ∈ ds, DatK k d) (l : k ≤ 50) (q : Q (.bl (g true)) M) : eq2 g (.obj a) (.obj b) M Q := by
  obtain ⟨x, s⟩ := shaped_l hk l
  refine .inr (.inl ⟨_, _, .obj (lst_lst h1) (dtrs_dat x), .obj (lst_lst h2) (dtrs_dat x), s, s, ?_⟩)
  rw [SeqAt.eqv_refl _ (SeqAt.canLay_of_shaped s)]
  exact q
theorem q_diffL {M : Mem} {Q : QE} {g : Bool → Bool} {a b : Addr} {ds es : List D} {k : Nat} (h1 : M a = some (.lst ds)) (h2 : M b = some (.lst es)) (hk : ∀ d ∈ ds, DatK k d) (he : ∀ d ∈ es, DatK k d) (l : k ≤ 50) (hl : ds.length ≠ es.length) (q : Q (.bl (g false)) M) : eq2 g (.obj a) (.obj b) M Q := by
  obtain ⟨x, s⟩ := shaped_l hk l
  obtain ⟨x', s'⟩ := shaped_l he l
  refine .inr (.inl ⟨_, _, .obj (lst_lst h1) (dtrs_dat x), .obj (lst_lst h2) (dtrs_dat x'), s, s', ?_⟩)
  rw [show PyData.eqv (.list (pyL ds)) (.list (pyL es)) = false by show PyData.eqvAll _ _ = false; exact eqvAll_ne (by rw [pyL_len, pyL_len]; exact hl)]
  exact q
def sp_Led___eq__ (K : PySem.W.Frag) : Sp2 := fun ds M Q _ => ∃ (a b : Addr) (ps ls qs ms : List Rc) (r s : Rc) (v : Bool), ds = [.obj a, .obj b] ∧ M a = some (ledO K ps ls) ∧ M b = some (ledO K qs ms) ∧ ps.head? = some r ∧ qs.head? = some s ∧ rcD r = rcD s ∧ DatK 10 (rcD r) ∧ ps.length ≤ 1000 ∧ qs.length ≤ 1000 ∧ (∀ x ∈ ps, DatK 10 x.de) ∧ (∀ x ∈ qs, DatK 10 x.de) ∧ ((v = true ∧ ps.map (·.de) = qs.map (·.de)) ∨ (v = false ∧ ps.length ≠ qs.length)) ∧ ∀ M', Ext M M' → Q (.bl v) M'
theorem ok_Led___eq__ {f : Addr} {fd : FuncData} (F : Fun K "__eq__" "Led.__eq__" s_Led___eq__ f fd) (T : Txt P w K mg base) (G_Led___init__ : Mak2 P w K mg base 5 "Led" ["self", "chain"] (sp_Led___init__ K)) : Fn2 P w K mg base 7 f fd ["self", "other"] (sp_Led___eq__ K) := by
  refine fn2_of F sc_Led___eq__ no_Led___eq__ (fun ds M Q E h => ?_) (fun X ds M Q E C h => ?_)
  · repeat (first | (obtain ⟨rfl, _⟩ := h; rfl) | (obtain ⟨_, h⟩ := h))
  · obtain ⟨a, b, ps, ls, qs, ms, r, s, v, rfl, ea, eb, hr, hs, ers, dr, pl, ql, dp, dq, hv, k⟩ := h
    have hs' : (qs.map rcD).head? = some (rcD r) := by rw [List.head?_map, hs, ers]; rfl
    have hr' : (ps.map rcD).head? = some (rcD r) := by rw [List.head?_map, hr]; rfl
    show WSs X _ _ [some (.obj a), some (.obj b), none] M
    refine wss_cons ?_
    repeat' (first | k_extra "y" | k_extra "n" | k_extra "z")
    rw [← ers]
    refine q_eqSelf (k := 10) dr (by decide) ?_
    repeat' (first | k_extra "y" | k_extra "n" | k_extra "z")
    refine we_lcG (own := ow_Led___eq___0) (t := .nm 2) C (by decide +kernel) (by decide) (fun X1 B => by have C1 := C.blk (sc2 := nb_Led___eq___0) B rfl (by decide +kernel); k_extra "tgt") (fun _ => rfl) ?_
    refine wi_tup ?_
    repeat' (first | k_extra "y" | k_extra "n" | k_extra "z")
    refine ⟨ps.map (·.de), ⟨by rw [List.length_map]; exact Nat.le_trans pl (by decide), by simp, fun _ _ => trivial, fun i d z M' hd hz x => ?_⟩, fun Dd M1 hD e1 x1 => ?_⟩
    · obtain ⟨u, rfl, hu⟩ := get_map hd
      obtain ⟨u', rfl, hu'⟩ := get_map hz
      rw [hu] at hu'
      cases hu'
      refine ⟨[some (.obj a), some (.obj b), some (rcD u)], rfl, fun X' B => ?_⟩
      have C' := C.blk (sc2 := nb_Led___eq___0) B rfl (by decide +kernel)
      repeat' (first | k_extra "y" | k_extra "n" | k_extra "z")
      exact ⟨Ext.refl _, rfl⟩
    have eb1 := x1 _ _ eb
    repeat' (first | k_extra "y" | k_extra "n" | k_extra "z")
    refine we_lcG (own := ow_Led___eq___1) (t := .nm 2) C (by decide +kernel) (by decide) (fun X1 B => by have C1 := C.blk (sc2 := nb_Led___eq___1) B rfl (by decide +kernel); k_extra "tgt") (fun _ => rfl) ?_
    refine wi_tup ?_
    repeat' (first | k_extra "y" | k_extra "n" | k_extra "z")
    refine ⟨qs.map (·.de), ⟨by rw [List.length_map]; exact Nat.le_trans ql (by decide), by simp, fun _ _ => trivial, fun i d z M' hd hz x => ?_⟩, fun De M2 hD2 e2 x2 => ?_⟩
    · obtain ⟨u, rfl, hu⟩ := get_map hd
      obtain ⟨u', rfl, hu'⟩ := get_map hz
      rw [hu] at hu'
      cases hu'
      refine ⟨[some (.obj a), some (.obj b), some (rcD u)], rfl, fun X' B => ?_⟩
      have C' := C.blk (sc2 := nb_Led___eq___1) B rfl (by decide +kernel)
      repeat' (first | k_extra "y" | k_extra "n" | k_extra "z")
      exact ⟨Ext.refl _, rfl⟩
    have e12 := x2 _ _ e1
    have kp : ∀ d ∈ ps.map (·.de), DatK 10 d := fun d hd => by obtain ⟨x, hx, rfl⟩ := List.mem_map.mp hd; exact dp x hx
    have kq : ∀ d ∈ qs.map (·.de), DatK 10 d := fun d hd => by obtain ⟨x, hx, rfl⟩ := List.mem_map.mp hd; exact dq x hx
    rcases hv with ⟨rfl, hv⟩ | ⟨rfl, hv⟩
    · rw [← hv] at e2
      exact q_sameL e12 e2 kp (by decide) (k _ (x1.trans x2))
    · exact q_diffL e12 e2 kp kq (by decide) (by rw [List.length_map, List.length_map]; exact hv) (k _ (x1.trans x2))
theorem fH_some {qs : List Pl} {j : Nat} {q : Pl} (h : qs[j]? = some q) : fH qs j = q.ha := by unfold fH; rw [h]
theorem fC_some {qs : List Pl} {j : Nat} {q : Pl} (h : qs[j]? = some q) : fC qs j = q.co.sum := by unfold fC; rw [h]
theorem fO_some {qs : List Pl} {j : Nat} {q : Pl} (h : qs[j]? = some q) : fO qs j = q.ow := by unfold fO; rw [h]
theorem sts_os {hs : List Hs} {w X a : Int} {ps : List Pl} (ok : COk hs w) (l : ps.length = hs.length) (b : ∀ q ∈ ps, PlB X q) (x0 : 0 ≤ X) (a0 : 0 ≤ a) (a1 : a ≤ 9) : ∀ {i : Nat}, i ≤ hs.length → (sts hs w ps a i).os.length = i
  | 0, _ => rfl
  | i + 1, hi => by
    have ih := sts_os ok l b x0 a0 a1 (i := i) (by omega)
    have bn := sts_b ok l b x0 a0 a1 (i := i) (by omega)
    obtain ⟨h, hh⟩ : ∃ h, hs[i]? = some h := ⟨_, List.getElem?_eq_getElem (by omega)⟩
    obtain ⟨q, hq⟩ : ∃ q, (sts hs w ps a i).qs[i]? = some q := ⟨_, List.getElem?_eq_getElem (by rw [bn.len]; omega)⟩
    show (stp hs w (sts hs w ps a i) i).os.length = i + 1
    cases i with
    | zero => rw [stp_zero hh hq]; simp [stp0, ih]
    | succ j =>
      obtain ⟨q0, hq0⟩ : ∃ q, (sts hs w ps a (j + 1)).qs[j]? = some q := ⟨_, List.getElem?_eq_getElem (by rw [bn.len]; omega)⟩
      rw [stp_succ hh hq hq0]; simp [stpS, ih]
def pyPl (q : Pl) : PyData := .tuple [.int q.ha, .tuple (q.co.map .int), .int q.ow]
def pyNz (n : Nz) : PyData := .tuple [.int n.F, .int n.L, .tuple (n.os.map .int)]
def pyHs (h : Hs) : PyData := .tuple [.tuple [.str (kw h.fl), .int h.lo, .int h.mo], .int h.la]
def pyCh (hs : List Hs) (w : Int) : PyData := .tuple [.tuple (hs.map pyHs), .int w]
theorem bd_l19 {i : Int} (h : Bd 1000 i) : i.natAbs.log2 < 1900 := by
  by_cases z : i.natAbs = 0
  · rw [z]; decide
  · have := (Nat.log2_lt z).mpr h
    omega
theorem pys_b {M : Mem} {i : Int} (h : Bd 1000 i) : PyS M 1921 0 (.int i) (.int i) := pys_int (bd_l19 h)
theorem bd_nn {X i : Int} {k : Nat} (b : Bd k X) (h0 : 0 ≤ i) (h1 : i ≤ X) : Bd k i := Nat.lt_of_le_of_lt (show i.natAbs ≤ X.natAbs by omega) b
theorem pys_pl {M : Mem} {X : Int} {q : Pl} (b : PlB X q) (xb : Bd 1000 X) : PyS M 23094 2 (plD q) (pyPl q) := by
  have h1 : PySs M 1921 0 (q.co.map D.int) (q.co.map .int) := pys_map fun x hx => pys_b (bd_nn xb (b.c x hx).1 (b.c x hx).2)
  refine pys_tup (m := 3) (L := 7695) (K := 1) ?_ (by simp)
  refine pys_cons (pys_b (bd_nn xb b.h0 b.h1)) (by decide) (by decide) (pys_cons (pys_tup (m := 4) h1 (by rw [List.length_map]; exact b.l4)) (by decide) (by decide) (pys_cons (pys_b (bd_nn xb b.o0 b.o1)) (by decide) (by decide) pys_nil))
theorem pys_stand {M : Mem} {X : Int} {ps : List Pl} (b : ∀ q ∈ ps, PlB X q) (xb : Bd 1000 X) (l : ps.length ≤ 3) : PyS M 69291 3 (.tup (ps.map plD)) (.tuple (ps.map pyPl)) :=
  pys_tup (m := 3) (pys_map fun q hq => pys_pl (b q hq) xb) (by rw [List.length_map]; exact l)
theorem pys_hs {M : Mem} {h : Hs} (o : HOk h) : PyS M 195 2 (hsD h) (pyHs h) := by
  have l0 := o.l0
  have l1 := o.l1
  have d0 := o.d0
  have d1 := o.d1
  have m : -1000000000000000000 < h.mo ∧ h.mo < 1000000000000000000 := by
    cases e : h.fl
    · have := o.p e; omega
    · have := o.f e; omega
  have s : (reprText (kw h.fl)).length ≤ 20 := by cases h.fl <;> decide +kernel
  exact pys_tup (m := 2) (L := 94) (K := 1) (pys_cons (pys_tup (m := 3) (L := 20) (K := 0) (pys_cons (pys_str s) (by decide) (by decide) (pys_cons (pys_i (by omega) (by omega)) (by decide) (by decide) (pys_cons (pys_i m.1 m.2) (by decide) (by decide) pys_nil))) (Nat.le_refl _)) (by decide) (by decide) (pys_cons (pys_i (by omega) (by omega)) (by decide) (by decide) pys_nil)) (Nat.le_refl _)
theorem pys_ch {M : Mem} {hs : List Hs} {w : Int} (ok : COk hs w) : PyS M 1195 4 (chD hs w) (pyCh hs w) := by
  have w0 := ok.w0
  have w1 := ok.w1
  exact pys_tup (m := 2) (L := 594) (K := 3) (pys_cons (pys_tup (m := 3) (pys_map fun h hh => pys_hs (ok.h h hh)) (by rw [List.length_map]; exact ok.n1)) (by decide) (by decide) (pys_cons (pys_i (by omega) (by omega)) (by decide) (by decide) pys_nil)) (Nat.le_refl _)
structure NzB (X : Int) (n : Nz) : Prop where
  f0 : 0 ≤ n.F
  f1 : n.F ≤ X
  l0 : 0 ≤ n.L
  l1 : n.L ≤ X
  o : ∀ x ∈ n.os, 0 ≤ x ∧ x ≤ X
  ol : n.os.length ≤ 3
theorem pys_nz {M : Mem} {X : Int} {n : Nz} (b : NzB X n) (xb : Bd 1000 X) : PyS M 17328 2 (nzD n) (pyNz n) := by
  have h1 : PySs M 1921 0 (n.os.map D.int) (n.os.map .int) := pys_map fun x hx => pys_b (bd_nn xb (b.o x hx).1 (b.o x hx).2)
  exact pys_tup (m := 3) (L := 5773) (K := 1) (pys_cons (pys_b (bd_nn xb b.f0 b.f1)) (by decide) (by decide) (pys_cons (pys_b (bd_nn xb b.l0 b.l1)) (by decide) (by decide) (pys_cons (pys_tup (m := 3) h1 (by rw [List.length_map]; exact b.ol)) (by decide) (by decide) pys_nil))) (by simp)
/-- a day's note, bounded -/
structure Nb (X : Int) (S : Sd) : Prop where
  f0 : 0 ≤ S.F
  f1 : S.F ≤ X
  l0 : 0 ≤ S.L
  l1 : S.L ≤ X
  o : ∀ x ∈ S.os, 0 ≤ x ∧ x ≤ X
theorem stp_nb {hs : List Hs} {w X : Int} {S : Sd} {i n : Nat} (ok : COk hs w) (b : Bn X n S) (nb : Nb X S) (hn : n = hs.length) (hi : i < hs.length) : Nb (4 * X + 100) (stp hs w S i) := by
  have b' := stp_b ok b hn hi
  obtain ⟨h, hh⟩ : ∃ h, hs[i]? = some h := ⟨_, List.getElem?_eq_getElem hi⟩
  obtain ⟨q, hq⟩ : ∃ q, S.qs[i]? = some q := ⟨_, List.getElem?_eq_getElem (by rw [b.len, hn]; exact hi)⟩
  have bq := b.q q (List.mem_of_getElem? hq)
  have A0 := b.A0
  have A1 := b.A1
  have sb := snt_b bq A0
  have h1 := bq.h1
  have o1 := bq.o1
  have f1 := nb.f1
  have l1 := nb.l1
  have x0 : 0 ≤ X := by have := bq.h0; omega
  cases i with
  | zero =>
    have lb := los_b bq A0 ok.w0
    rw [stp_zero hh hq] at b' ⊢
    refine ⟨sb.1, by simp only [stp0]; omega, lb.1, by simp only [stp0]; omega, fun x hx => ?_⟩
    rcases List.mem_append.mp hx with e | e
    · have := nb.o x e; omega
    · rw [List.mem_singleton] at e; subst e; exact ⟨b'.A0, b'.A1⟩
  | succ j =>
    obtain ⟨q0, hq0⟩ : ∃ q, S.qs[j]? = some q := ⟨_, List.getElem?_eq_getElem (by rw [b.len, hn]; omega)⟩
    rw [stp_succ hh hq hq0] at b' ⊢
    refine ⟨nb.f0, by simp only [stpS]; omega, nb.l0, by simp only [stpS]; omega, fun x hx => ?_⟩
    rcases List.mem_append.mp hx with e | e
    · have := nb.o x e; omega
    · rw [List.mem_singleton] at e; subst e; exact ⟨b'.A0, b'.A1⟩
theorem sts_nb {hs : List Hs} {w X a : Int} {ps : List Pl} (ok : COk hs w) (l : ps.length = hs.length) (b : ∀ q ∈ ps, PlB X q) (x0 : 0 ≤ X) (a0 : 0 ≤ a) (a1 : a ≤ 9) : ∀ {i : Nat}, i ≤ hs.length → Nb (XB X i) (sts hs w ps a i)
  | 0, _ => ⟨Int.le_refl _, by simp only [sts, XB]; omega, Int.le_refl _, by simp only [sts, XB]; omega, by simp [sts]⟩
  | i + 1, hi => stp_nb ok (sts_b ok l b x0 a0 a1 (i := i) (by omega)) (sts_nb ok l b x0 a0 a1 (i := i) (by omega)) rfl (by omega)
theorem dayN_b {hs : List Hs} {w X a : Int} {ps : List Pl} (ok : COk hs w) (l : ps.length = hs.length) (b : ∀ q ∈ ps, PlB X q) (x0 : 1 ≤ X) (a0 : 0 ≤ a) (a1 : a ≤ 9) : NzB (10000 * X) (dayN hs w ps a) := by
  have n1 := ok.n1
  have s := sts_nb ok l b (by omega) a0 a1 (i := hs.length) (Nat.le_refl _)
  have x := XB_le (X := X) (i := hs.length) (by omega) n1
  have f1 := s.f1
  have l1 := s.l1
  have ol := sts_os ok l b (by omega) a0 a1 (i := hs.length) (Nat.le_refl _)
  exact ⟨s.f0, by simp only [dayN]; omega, s.l0, by simp only [dayN]; omega, fun x hx => by have := s.o x hx; omega, by simp only [dayN]; omega⟩
theorem rn_nb {hs : List Hs} {w : Int} {ps : List Pl} (ok : COk hs w) (l : ps.length = hs.length) (b : ∀ q ∈ ps, PlB 40 q) : ∀ {ns : List Int} (i : Nat), i ≤ ns.length → (∀ a ∈ ns, 0 ≤ a ∧ a ≤ 9) → ∀ n ∈ (rn hs w ps (ns.take i)).2, NzB (10000 ^ i * 40) n := by
  intro ns i
  induction i with
  | zero => intro _ _ n hn; simp [rn] at hn
  | succ i ih =>
    intro hi hn n hm
    obtain ⟨h1, h2, h3⟩ := rn_b (w := w) ok l b (ns := ns) i (by omega) hn
    have e : ns[i]? = some ns[i] := List.getElem?_eq_getElem (by omega)
    have ⟨a0, a1⟩ := hn _ (List.mem_of_getElem? e)
    have p := p10 i
    rw [rn_take e] at hm
    have pw : (10000 : Int) ^ (i + 1) * 40 = 10000 * (10000 ^ i * 40) := by rw [Int.pow_succ]; omega
    rw [pw]
    rcases List.mem_append.mp hm with z | z
    · have u := ih (by omega) hn n z
      exact ⟨u.f0, by have := u.f1; omega, u.l0, by have := u.l1; omega, fun x hx => by have := u.o x hx; omega, u.ol⟩
    · rw [List.mem_singleton] at z
      subst z
      exact dayN_b ok h1 h2 (by omega) a0 a1
theorem cut2 {a b c : D} : cutD [a, b, c] none (some 2) = [a, b] := rfl
theorem pys_due {M : Mem} {X : Int} {ps : List Pl} {n : Nz} (b : ∀ q ∈ ps, PlB X q) (xb : Bd 1000 X) (l : ps.length ≤ 3) (nb : NzB X n) : PyS M 138589 4 (.tup [.tup (ps.map plD), nzD n]) (.tuple [.tuple (ps.map pyPl), pyNz n]) :=
  pys_tup (m := 2) (L := 69291) (K := 3) (pys_cons (pys_stand b xb l) (by decide) (by decide) (pys_cons (pys_nz nb xb) (by decide) (by decide) pys_nil)) (Nat.le_refl _)
theorem pys_two {M : Mem} {p : Addr} {a b : D} {x y : PyData} {L K : Nat} (e : M p = some (.lst [a, b])) (h1 : PyS M L K a x) (h2 : PyS M L K b y) : PyS M (2 * (L + 2) + 3) (K + 1) (.obj p) (.list [x, y]) :=
  pys_lst (m := 2) e (pys_cons h1 (Nat.le_refl _) (Nat.le_refl _) (pys_cons h2 (Nat.le_refl _) (Nat.le_refl _) pys_nil)) (Nat.le_refl _)
theorem b6 : Bd 1000 1000000 := (show Bd 20 1000000 by decide).le (by decide)
theorem pys_run {M : Mem} {X : Int} {ps : List Pl} {ts : List Nz} (b : ∀ q ∈ ps, PlB X q) (xb : Bd 1000 X) (l : ps.length ≤ 3) (nb : ∀ n ∈ ts, NzB X n) (tl : ts.length ≤ 30) : PyS M 1039813 4 (.tup [.tup (ps.map plD), .tup (ts.map nzD)]) (.tuple [.tuple (ps.map pyPl), .tuple (ts.map pyNz)]) :=
  pys_tup (m := 2) (L := 519903) (K := 3) (pys_cons (pys_stand b xb l) (by decide) (by decide) (pys_cons (pys_tup (m := 30) (pys_map fun n hn => pys_nz (nb n hn) xb) (by rw [List.length_map]; exact tl)) (by decide) (by decide) pys_nil)) (Nat.le_refl _)

theorem fH_set {qs : List Pl} {i j : Nat} {q : Pl} (l : i < qs.length) : fH (qs.set i q) j = if j = i then q.ha else fH qs j := by
  unfold fH
  rw [List.getElem?_set]
  by_cases e : i = j
  · subst e; simp [l]
  · rw [if_neg e, if_neg (fun z => e z.symm)]
theorem fC_set {qs : List Pl} {i j : Nat} {q : Pl} (l : i < qs.length) : fC (qs.set i q) j = if j = i then q.co.sum else fC qs j := by
  unfold fC
  rw [List.getElem?_set]
  by_cases e : i = j
  · subst e; simp [l]
  · rw [if_neg e, if_neg (fun z => e z.symm)]
theorem fO_set {qs : List Pl} {i j : Nat} {q : Pl} (l : i < qs.length) : fO (qs.set i q) j = if j = i then q.ow else fO qs j := by
  unfold fO
  rw [List.getElem?_set]
  by_cases e : i = j
  · subst e; simp [l]
  · rw [if_neg e, if_neg (fun z => e z.symm)]
def tot (qs : List Pl) : Int := (qs.map fun p => p.ha + p.co.sum).sum
theorem tot_set : ∀ {qs : List Pl} {i : Nat} {p q : Pl}, qs[i]? = some p → tot (qs.set i q) = tot qs - (p.ha + p.co.sum) + (q.ha + q.co.sum)
  | [], i, p, q, h => by simp at h
  | x :: xs, 0, p, q, h => by simp at h; subst h; simp [tot]; omega
  | x :: xs, i + 1, p, q, h => by
    have := tot_set (qs := xs) (i := i) (p := p) (q := q) (by simpa using h)
    simp [tot] at this ⊢
    omega
theorem aL_sum {c : List Int} {m : Int} (h : 1 ≤ c.length) : (aL c m).sum = c.sum + m := by
  obtain ⟨xs, x, rfl⟩ : ∃ xs x, c = xs ++ [x] := ⟨c.dropLast, c.getLast (by rintro rfl; simp at h), (List.dropLast_concat_getLast _).symm⟩
  simp [aL]
  omega
theorem aL_pos {c : List Int} {m : Int} (h0 : ∀ x ∈ c, 0 ≤ x) (m0 : 0 ≤ m) : ∀ x ∈ aL c m, 0 ≤ x := by
  intro x hx
  unfold aL at hx
  rcases List.mem_append.mp hx with z | z
  · exact h0 x (List.dropLast_subset _ z)
  · have e : x = c.getLastD 0 + m := by simpa using z
    cases q : c.getLast? with
    | none => rw [List.getLastD_eq_getLast?, q] at e; simp at e; omega
    | some y =>
      rw [List.getLastD_eq_getLast?, q] at e
      have := h0 y (List.mem_of_getLast? q)
      simp at e
      omega
structure POk (h : Hs) (p : Pl) : Prop where
  h0 : 0 ≤ p.ha
  o0 : 0 ≤ p.ow
  c0 : ∀ x ∈ p.co, 0 ≤ x
  cl : p.co.length = h.la.toNat
structure SOk (hs : List Hs) (w : Int) (qs : List Pl) (i : Nat) (A : Int) : Prop where
  len : qs.length = hs.length
  pl : ∀ (j : Nat) (h : Hs) (q : Pl), hs[j]? = some h → qs[j]? = some q → POk h q
  ps : ∀ (j : Nat) (h : Hs), hs[j]? = some h → h.lo ≤ posP qs j + (if j + 1 = i then A else 0) ∧ posP qs j + (if j + 1 = i then A else 0) ≤ topH h
  no : ∀ (j : Nat) (q : Pl), j < i → qs[j]? = some q → q.ha = 0 ∨ q.ow = 0
  ow : fO qs 0 ≤ w
theorem topH_le {h : Hs} (ok : HOk h) : topH h ≤ 39 := by
  have := ok.l1
  unfold topH
  split
  · rename_i e; have := ok.f e; omega
  · rename_i e; have := ok.p (by simpa using e); omega
theorem lo_topH {h : Hs} (ok : HOk h) : h.lo ≤ topH h := by
  unfold topH
  split
  · rename_i e; have := ok.f e; omega
  · rename_i e; have := ok.p (by simpa using e); omega
theorem arP_sum (p : Pl) : (arP p).ha + (arP p).co.sum = p.ha + p.co.sum := by
  obtain ⟨ha, co, ow⟩ := p
  cases co <;> simp [arP]
  omega
theorem tot_ar (ps : List Pl) : tot (ps.map arP) = tot ps := by
  unfold tot
  rw [List.map_map]
  congr 1
  exact List.map_congr_left fun p _ => arP_sum p
theorem fO_ar (ps : List Pl) (j : Nat) : fO (ps.map arP) j = fO ps j := by
  unfold fO
  rw [List.getElem?_map]
  cases ps[j]? <;> rfl
theorem posP_ar (ps : List Pl) (j : Nat) : posP (ps.map arP) j = posP ps j := by
  unfold posP
  rw [fO_ar, fO_ar]
  unfold fH fC
  rw [List.getElem?_map]
  cases ps[j]? with
  | none => rfl
  | some p => have := arP_sum p; simp only [Option.map_some]; omega
theorem sok_arr {hs : List Hs} {w A : Int} {ps : List Pl} {n : Nat} (ok : COk hs w) (S : SOk hs w ps n 0) : SOk hs w (ps.map arP) 0 A := by
  refine ⟨by rw [List.length_map]; exact S.len, fun j h q hh hq => ?_, fun j h hh => ?_, fun j q z => absurd z (by omega), by rw [fO_ar]; exact S.ow⟩
  · rw [List.getElem?_map] at hq
    cases e : ps[j]? with
    | none => rw [e] at hq; cases hq
    | some p =>
      rw [e] at hq; cases hq
      have o := S.pl j h p hh e
      have o1 := (ok.h h (List.mem_of_getElem? hh)).d0
      obtain ⟨ha, co, ow⟩ := p
      obtain ⟨h0, o0, c0, cl⟩ := o
      simp only at h0 o0 c0 cl
      cases co with
      | nil => simp at cl; omega
      | cons c cs =>
        refine ⟨?_, o0, ?_, ?_⟩
        · have := c0 c (by simp); simp [arP]; omega
        · intro x hx
          simp [arP] at hx
          rcases hx with hx | hx
          · exact c0 x (by simp [hx])
          · omega
        · simp [arP] at cl ⊢; omega
  · have := S.ps j h hh
    rw [posP_ar]
    rw [if_neg (by omega)]
    split at this <;> omega
theorem sok_first {hs : List Hs} {w A s L : Int} {qs : List Pl} {h : Hs} {q : Pl} (S : SOk hs w qs 0 A) (hh : hs[0]? = some h) (hq : qs[0]? = some q) (A0 : 0 ≤ A) (w0 : 0 ≤ w) (es : s = if q.ow + A < q.ha then q.ow + A else q.ha) (eL : L = if q.ow + A - s - w > 0 then q.ow + A - s - w else 0) :
    (posP (qs.set 0 ⟨q.ha - s, q.co, q.ow + A - s - L⟩) 0 ≤ topH h ∧ h.lo - A ≤ posP (qs.set 0 ⟨q.ha - s, q.co, q.ow + A - s - L⟩) 0 ∧ tot (qs.set 0 ⟨q.ha - s, q.co, q.ow + A - s - L⟩) + s = tot qs ∧ s + L + fO (qs.set 0 ⟨q.ha - s, q.co, q.ow + A - s - L⟩) 0 = A + fO qs 0) ∧
    ∀ r, 0 ≤ r → h.lo ≤ posP (qs.set 0 ⟨q.ha - s, q.co, q.ow + A - s - L⟩) 0 + r → posP (qs.set 0 ⟨q.ha - s, q.co, q.ow + A - s - L⟩) 0 + r ≤ topH h → SOk hs w (qs.set 0 ⟨q.ha - s, q.co, q.ow + A - s - L⟩) 1 r := by
  have l : 0 < qs.length := (List.getElem?_eq_some_iff.mp hq).1
  obtain ⟨h0, o0, c0, cl⟩ := S.pl 0 h q hh hq
  have hps := S.ps 0 h hh
  have how := S.ow
  have f1 := fH_some hq
  have f2 := fC_some hq
  have f3 := fO_some hq
  have ht := tot_set (q := ⟨q.ha - s, q.co, q.ow + A - s - L⟩) hq
  have hP : posP (qs.set 0 ⟨q.ha - s, q.co, q.ow + A - s - L⟩) 0 = posP qs 0 - A + L := by
    unfold posP
    rw [fH_set l, fC_set l, fO_set l, fO_set l]
    simp
    omega
  have hO : fO (qs.set 0 ⟨q.ha - s, q.co, q.ow + A - s - L⟩) 0 = q.ow + A - s - L := by rw [fO_set l]; simp
  rw [if_neg (by omega)] at hps
  have s0 : 0 ≤ s ∧ s ≤ q.ow + A ∧ s ≤ q.ha ∧ (s = q.ow + A ∨ s = q.ha) := by split at es <;> omega
  have L0 : 0 ≤ L ∧ (L = 0 ∨ L = q.ow + A - s - w) ∧ q.ow + A - s - L ≤ w := by split at eL <;> omega
  refine ⟨⟨by omega, by omega, by rw [ht]; simp only; omega, by omega⟩, fun r r0 r1 r2 => ?_⟩
  refine ⟨by rw [List.length_set]; exact S.len, fun j h' q' hh' hq' => ?_, fun j h' hh' => ?_, fun j q' hj hq' => ?_, by rw [hO]; omega⟩
  · rw [List.getElem?_set] at hq'
    by_cases e : 0 = j
    · subst e
      rw [if_pos rfl, if_pos l] at hq'
      cases hq'
      rw [hh] at hh'; cases hh'
      exact ⟨by simp only; omega, by simp only; omega, c0, cl⟩
    · rw [if_neg e] at hq'
      exact S.pl j h' q' hh' hq'
  · by_cases e : j = 0
    · subst e
      rw [hh] at hh'; cases hh'
      rw [if_pos rfl]
      exact ⟨r1, r2⟩
    · have := S.ps j h' hh'
      rw [if_neg (by omega)] at this ⊢
      have e2 : posP (qs.set 0 ⟨q.ha - s, q.co, q.ow + A - s - L⟩) j = posP qs j := by
        unfold posP
        rw [fH_set l, fC_set l, fO_set l, fO_set l, if_neg e, if_neg e, if_neg e, if_neg (by omega)]
      rw [e2]
      exact this
  · have e : j = 0 := by omega
    subst e
    rw [List.getElem?_set, if_pos rfl, if_pos l] at hq'
    cases hq'
    simp only
    omega
theorem sok_next {hs : List Hs} {w A s : Int} {qs : List Pl} {i : Nat} {h h0 : Hs} {q q0 : Pl} (ok : COk hs w) (S : SOk hs w qs (i + 1) A) (hh : hs[i + 1]? = some h) (hq : qs[i + 1]? = some q) (hh0 : hs[i]? = some h0) (hq0 : qs[i]? = some q0) (A0 : 0 ≤ A) (es : s = if q.ow + A < q.ha then q.ow + A else q.ha) :
    (posP ((qs.set (i + 1) ⟨q.ha - s, q.co, q.ow + A - s⟩).set i ⟨q0.ha, aL q0.co s, q0.ow⟩) (i + 1) ≤ topH h ∧ h.lo - A ≤ posP ((qs.set (i + 1) ⟨q.ha - s, q.co, q.ow + A - s⟩).set i ⟨q0.ha, aL q0.co s, q0.ow⟩) (i + 1) ∧
      tot ((qs.set (i + 1) ⟨q.ha - s, q.co, q.ow + A - s⟩).set i ⟨q0.ha, aL q0.co s, q0.ow⟩) = tot qs ∧ fO ((qs.set (i + 1) ⟨q.ha - s, q.co, q.ow + A - s⟩).set i ⟨q0.ha, aL q0.co s, q0.ow⟩) 0 = fO qs 0) ∧
    ∀ r, 0 ≤ r → h.lo ≤ posP ((qs.set (i + 1) ⟨q.ha - s, q.co, q.ow + A - s⟩).set i ⟨q0.ha, aL q0.co s, q0.ow⟩) (i + 1) + r → posP ((qs.set (i + 1) ⟨q.ha - s, q.co, q.ow + A - s⟩).set i ⟨q0.ha, aL q0.co s, q0.ow⟩) (i + 1) + r ≤ topH h → SOk hs w ((qs.set (i + 1) ⟨q.ha - s, q.co, q.ow + A - s⟩).set i ⟨q0.ha, aL q0.co s, q0.ow⟩) (i + 2) r := by
  have l : i + 1 < qs.length := (List.getElem?_eq_some_iff.mp hq).1
  have l' : i < (qs.set (i + 1) ⟨q.ha - s, q.co, q.ow + A - s⟩).length := by rw [List.length_set]; omega
  have o := S.pl (i + 1) h q hh hq
  have o' := S.pl i h0 q0 hh0 hq0
  have d0 := (ok.h h0 (List.mem_of_getElem? hh0)).d0
  have cl1 : 1 ≤ q0.co.length := by rw [o'.cl]; omega
  have hs1 := S.ps (i + 1) h hh
  have hs0 := S.ps i h0 hh0
  rw [if_neg (by omega)] at hs1
  rw [if_pos rfl] at hs0
  have f1 := fH_some hq
  have f2 := fC_some hq
  have f3 := fO_some hq
  have g1 := fH_some hq0
  have g2 := fC_some hq0
  have g3 := fO_some hq0
  have s0 : 0 ≤ s ∧ s ≤ q.ow + A ∧ s ≤ q.ha ∧ (s = q.ow + A ∨ s = q.ha) := by
    have := o.h0
    have := o.o0
    split at es <;> omega
  have hq0' : (qs.set (i + 1) ⟨q.ha - s, q.co, q.ow + A - s⟩)[i]? = some q0 := by rw [List.getElem?_set, if_neg (by omega)]; exact hq0
  have ht1 := tot_set (q := ⟨q.ha - s, q.co, q.ow + A - s⟩) hq
  have ht2 := tot_set (q := ⟨q0.ha, aL q0.co s, q0.ow⟩) hq0'
  rw [ht1] at ht2
  have sm := aL_sum (m := s) cl1
  simp only [sm] at ht2
  have P : ∀ j, posP ((qs.set (i + 1) ⟨q.ha - s, q.co, q.ow + A - s⟩).set i ⟨q0.ha, aL q0.co s, q0.ow⟩) j = posP qs j + (if j = i then A else if j = i + 1 then -A else 0) := by
    intro j
    unfold posP
    rw [fH_set l', fC_set l', fO_set l', fO_set l', fH_set l, fC_set l, fO_set l, fO_set l]
    simp only [sm]
    by_cases e1 : j = i
    · subst e1
      simp
      omega
    · by_cases e2 : j = i + 1
      · subst e2
        simp
        omega
      · by_cases e3 : j + 1 = i
        · subst e3
          simp
          omega
        · simp [e1, e2, e3]
  have hO : ∀ j, fO ((qs.set (i + 1) ⟨q.ha - s, q.co, q.ow + A - s⟩).set i ⟨q0.ha, aL q0.co s, q0.ow⟩) j = if j = i + 1 then q.ow + A - s else fO qs j := by
    intro j
    rw [fO_set l', fO_set l]
    by_cases e1 : j = i
    · subst e1; simp; omega
    · simp [e1]
  have P1 := P (i + 1)
  rw [if_neg (by omega), if_pos rfl] at P1
  refine ⟨⟨by omega, by omega, by omega, by rw [hO, if_neg (by omega)]⟩, fun r r0 r1 r2 => ?_⟩
  refine ⟨by rw [List.length_set, List.length_set]; exact S.len, fun j h' q' hh' hq' => ?_, fun j h' hh' => ?_, fun j q' hj hq' => ?_, by rw [hO, if_neg (by omega)]; exact S.ow⟩
  · rw [List.getElem?_set] at hq'
    by_cases e : i = j
    · subst e
      rw [if_pos rfl, if_pos l'] at hq'
      cases hq'
      rw [hh0] at hh'; cases hh'
      exact ⟨o'.h0, o'.o0, aL_pos o'.c0 s0.1, by simp only; rw [aL_len cl1]; exact o'.cl⟩
    · rw [if_neg e, List.getElem?_set] at hq'
      by_cases e2 : i + 1 = j
      · subst e2
        rw [if_pos rfl, if_pos l] at hq'
        cases hq'
        rw [hh] at hh'; cases hh'
        exact ⟨by simp only; omega, by simp only; omega, o.c0, o.cl⟩
      · rw [if_neg e2] at hq'
        exact S.pl j h' q' hh' hq'
  · by_cases e : j = i + 1
    · subst e
      rw [hh] at hh'; cases hh'
      rw [if_pos rfl]
      exact ⟨r1, r2⟩
    · have z := S.ps j h' hh'
      rw [P j, if_neg e]
      by_cases e2 : j = i
      · subst e2
        rw [if_pos rfl] at z
        simp
        omega
      · rw [if_neg e2, if_neg (by omega)]
        rw [if_neg (by omega)] at z
        omega
  · rw [List.getElem?_set] at hq'
    by_cases e : i = j
    · subst e
      rw [if_pos rfl, if_pos l'] at hq'
      cases hq'
      exact S.no i q0 (by omega) hq0
    · rw [if_neg e, List.getElem?_set] at hq'
      by_cases e2 : i + 1 = j
      · subst e2
        rw [if_pos rfl, if_pos l] at hq'
        cases hq'
        simp only
        omega
      · rw [if_neg e2] at hq'
        exact S.no j q' (by omega) hq'
theorem sok_last {hs : List Hs} {w A : Int} {qs : List Pl} {i : Nat} {q0 : Pl} {h0 : Hs} (ok : COk hs w) (S : SOk hs w qs (i + 1) A) (hn : hs.length = i + 1) (hh0 : hs[i]? = some h0) (hq0 : qs[i]? = some q0) (A0 : 0 ≤ A) :
    SOk hs w (qs.set i ⟨q0.ha, aL q0.co A, q0.ow⟩) hs.length 0 ∧ tot (qs.set i ⟨q0.ha, aL q0.co A, q0.ow⟩) = tot qs + A ∧ fO (qs.set i ⟨q0.ha, aL q0.co A, q0.ow⟩) 0 = fO qs 0 := by
  have l : i < qs.length := (List.getElem?_eq_some_iff.mp hq0).1
  have o' := S.pl i h0 q0 hh0 hq0
  have d0 := (ok.h h0 (List.mem_of_getElem? hh0)).d0
  have cl1 : 1 ≤ q0.co.length := by rw [o'.cl]; omega
  have g1 := fH_some hq0
  have g2 := fC_some hq0
  have g3 := fO_some hq0
  have sm := aL_sum (m := A) cl1
  have ht2 := tot_set (q := ⟨q0.ha, aL q0.co A, q0.ow⟩) hq0
  simp only [sm] at ht2
  have hO : ∀ j, fO (qs.set i ⟨q0.ha, aL q0.co A, q0.ow⟩) j = fO qs j := by
    intro j
    rw [fO_set l]
    split
    · rename_i e; subst e; exact g3.symm
    · rfl
  have P : ∀ j, posP (qs.set i ⟨q0.ha, aL q0.co A, q0.ow⟩) j = posP qs j + (if j = i then A else 0) := by
    intro j
    unfold posP
    rw [hO, hO, fH_set l, fC_set l]
    simp only [sm]
    split
    · rename_i e; subst e; omega
    · omega
  refine ⟨⟨by rw [List.length_set]; exact S.len, fun j h' q' hh' hq' => ?_, fun j h' hh' => ?_, fun j q' hj hq' => ?_, by rw [hO]; exact S.ow⟩, by omega, hO 0⟩
  · rw [List.getElem?_set] at hq'
    by_cases e : i = j
    · subst e
      rw [if_pos rfl, if_pos l] at hq'
      cases hq'
      rw [hh0] at hh'; cases hh'
      exact ⟨o'.h0, o'.o0, aL_pos o'.c0 A0, by simp only; rw [aL_len cl1]; exact o'.cl⟩
    · rw [if_neg e] at hq'
      exact S.pl j h' q' hh' hq'
  · have z := S.ps j h' hh'
    rw [P j]
    by_cases e : j = i
    · subst e
      rw [if_pos rfl] at z
      simp
      omega
    · rw [if_neg (by omega)] at z
      rw [if_neg e]
      split <;> omega
  · rw [List.getElem?_set] at hq'
    by_cases e : i = j
    · subst e
      rw [if_pos rfl, if_pos l] at hq'
      cases hq'
      exact S.no i q0 (by omega) hq0
    · rw [if_neg e] at hq'
      exact S.no j q' (by omega) hq'
theorem bg_sum (n : Nat) : (List.replicate n (0 : Int)).sum = 0 := by
  induction n with
  | zero => rfl
  | succ n ih => rw [List.replicate_succ, List.sum_cons, ih]; rfl
theorem tot_bg (hs : List Hs) : tot (hs.map bgP) = (hs.map topH).sum := by
  unfold tot
  rw [List.map_map]
  congr 1
  refine List.map_congr_left fun h _ => ?_
  simp [bgP, bg_sum]
theorem fO_bg (hs : List Hs) (j : Nat) : fO (hs.map bgP) j = 0 := by
  unfold fO
  rw [List.getElem?_map]
  cases hs[j]? <;> rfl
theorem sok_bg {hs : List Hs} {w : Int} {n : Nat} (ok : COk hs w) : SOk hs w (hs.map bgP) n 0 := by
  refine ⟨by simp, fun j h q hh hq => ?_, fun j h hh => ?_, fun j q _ hq => ?_, by rw [fO_bg]; exact ok.w0⟩
  · rw [List.getElem?_map, hh] at hq
    cases hq
    have o := ok.h h (List.mem_of_getElem? hh)
    have := lo_topH o
    have := o.l0
    exact ⟨by simp only [bgP]; omega, by simp [bgP], by simp [bgP], by simp [bgP]⟩
  · have o := ok.h h (List.mem_of_getElem? hh)
    have := lo_topH o
    unfold posP
    rw [fO_bg, fO_bg]
    have e1 : fH (hs.map bgP) j = topH h := by unfold fH; rw [List.getElem?_map, hh]; rfl
    have e2 : fC (hs.map bgP) j = 0 := by unfold fC; rw [List.getElem?_map, hh]; simp [bgP, bg_sum]
    rw [e1, e2]
    split <;> omega
  · rw [List.getElem?_map] at hq
    cases e : hs[j]? with
    | none => rw [e] at hq; cases hq
    | some h => rw [e] at hq; cases hq; exact .inr rfl
theorem ord_ok {h : Hs} {p : Int} (ok : HOk h) (l : p ≤ topH h) : 0 ≤ ord h p ∧ h.lo ≤ p + ord h p ∧ p + ord h p ≤ topH h := by
  have l0 := ok.l0
  unfold ord
  by_cases c : h.lo ≤ p
  · rw [if_pos c]; omega
  · rw [if_neg c]
    by_cases f : h.fl = true
    · rw [if_pos f]
      have := ok.f f
      unfold topH
      rw [if_pos f]
      omega
    · rw [if_neg f]
      have hp := ok.p (by simpa using f)
      unfold topH
      rw [if_neg f]
      have e0 := Int.mul_ediv_add_emod (h.lo - p + h.mo - 1) h.mo
      have e1 := Int.emod_nonneg (h.lo - p + h.mo - 1) (b := h.mo) (by omega)
      have e2 := Int.emod_lt_of_pos (h.lo - p + h.mo - 1) (b := h.mo) (by omega)
      rw [Int.mul_comm] at e0
      omega
theorem sok_sts {hs : List Hs} {w a : Int} {ps : List Pl} (ok : COk hs w) (S : SOk hs w ps hs.length 0) (a0 : 0 ≤ a) : ∀ {i : Nat}, i ≤ hs.length → SOk hs w (sts hs w ps a i).qs i (sts hs w ps a i).A ∧ 0 ≤ (sts hs w ps a i).A
  | 0, _ => ⟨sok_arr ok S, a0⟩
  | i + 1, hi => by
    obtain ⟨ih, A0⟩ := sok_sts ok S a0 (i := i) (by omega)
    obtain ⟨h, hh⟩ : ∃ h, hs[i]? = some h := ⟨_, List.getElem?_eq_getElem (by omega)⟩
    obtain ⟨q, hq⟩ : ∃ q, (sts hs w ps a i).qs[i]? = some q := ⟨_, List.getElem?_eq_getElem (by rw [ih.len]; omega)⟩
    have okh := ok.h h (List.mem_of_getElem? hh)
    show SOk hs w (stp hs w (sts hs w ps a i) i).qs (i + 1) (stp hs w (sts hs w ps a i) i).A ∧ 0 ≤ (stp hs w (sts hs w ps a i) i).A
    cases i with
    | zero =>
      rw [stp_zero hh hq]
      obtain ⟨⟨t1, _, _, _⟩, k⟩ := sok_first (s := snt q (sts hs w ps a 0).A) (L := los q (sts hs w ps a 0).A w) ih hh hq A0 ok.w0 rfl rfl
      obtain ⟨o1, o2, o3⟩ := ord_ok okh t1
      exact ⟨k _ o1 o2 o3, o1⟩
    | succ j =>
      obtain ⟨h0, hh0⟩ : ∃ h, hs[j]? = some h := ⟨_, List.getElem?_eq_getElem (by omega)⟩
      obtain ⟨q0, hq0⟩ : ∃ q, (sts hs w ps a (j + 1)).qs[j]? = some q := ⟨_, List.getElem?_eq_getElem (by rw [ih.len]; omega)⟩
      rw [stp_succ hh hq hq0]
      obtain ⟨⟨t1, _, _, _⟩, k⟩ := sok_next (s := snt q (sts hs w ps a (j + 1)).A) ok ih hh hq hh0 hq0 A0 rfl
      obtain ⟨o1, o2, o3⟩ := ord_ok okh t1
      exact ⟨k _ o1 o2 o3, o1⟩
theorem sok_day {hs : List Hs} {w a : Int} {ps : List Pl} (ok : COk hs w) (S : SOk hs w ps hs.length 0) (a0 : 0 ≤ a) : SOk hs w (dayQ hs w ps a) hs.length 0 := by
  obtain ⟨s, A0⟩ := sok_sts ok S a0 (i := hs.length) (Nat.le_refl _)
  have n0 := ok.n0
  obtain ⟨n, hn⟩ : ∃ n, hs.length = n + 1 := ⟨hs.length - 1, by omega⟩
  obtain ⟨h0, hh0⟩ : ∃ h, hs[n]? = some h := ⟨_, List.getElem?_eq_getElem (by omega)⟩
  obtain ⟨q0, hq0⟩ : ∃ q, (sts hs w ps a hs.length).qs[n]? = some q := ⟨_, List.getElem?_eq_getElem (by rw [s.len]; omega)⟩
  have e : dayQ hs w ps a = (sts hs w ps a hs.length).qs.set n ⟨q0.ha, aL q0.co (sts hs w ps a hs.length).A, q0.ow⟩ := by
    unfold dayQ
    rw [show hs.length - 1 = n by omega]
    simp only [fin, hq0]
  rw [e]
  have s2 : SOk hs w (sts hs w ps a hs.length).qs (n + 1) (sts hs w ps a hs.length).A := by rw [← hn]; exact s
  exact (sok_last ok s2 hn hh0 hq0 A0).1
theorem mem_sum {x : Int} : ∀ {cs : List Int}, (∀ y ∈ cs, 0 ≤ y) → x ∈ cs → x ≤ cs.sum ∧ 0 ≤ cs.sum
  | [], _, h => by cases h
  | c :: cs, h0, h => by
    have hc := h0 c (by simp)
    have hs : 0 ≤ cs.sum := by
      clear h
      induction cs with
      | nil => simp
      | cons d ds ih =>
        rw [List.sum_cons]
        have := h0 d (by simp)
        have := ih fun y hy => h0 y (by simp at hy ⊢; rcases hy with rfl | hy <;> simp [*])
        omega
    rw [List.sum_cons]
    rcases List.mem_cons.mp h with rfl | h
    · omega
    · have := mem_sum (fun y hy => h0 y (by simp [hy])) h
      omega
theorem sum_nn : ∀ {cs : List Int}, (∀ y ∈ cs, 0 ≤ y) → 0 ≤ cs.sum
  | [], _ => by simp
  | c :: cs, h => by
    rw [List.sum_cons]
    have := h c (by simp)
    have := sum_nn (cs := cs) fun y hy => h y (by simp [hy])
    omega
/-- all that stands there is small -/
theorem sok_small {hs : List Hs} {w : Int} {ps : List Pl} (ok : COk hs w) (S : SOk hs w ps hs.length 0) {j : Nat} {q : Pl} (hq : ps[j]? = some q) : (0 ≤ q.ha ∧ q.ha ≤ 200) ∧ (0 ≤ q.ow ∧ q.ow ≤ 200) ∧ ∀ x ∈ q.co, 0 ≤ x ∧ x ≤ 200 := by
  have n1 := ok.n1
  have bound : ∀ (i : Nat), i < hs.length → ∃ (h : Hs) (p : Pl), hs[i]? = some h ∧ ps[i]? = some p ∧ POk h p ∧ p.ha + p.co.sum + fO ps (i + 1) - p.ow ≤ 39 ∧ 0 ≤ p.co.sum := fun i hi => by
    obtain ⟨h, hh⟩ : ∃ h, hs[i]? = some h := ⟨_, List.getElem?_eq_getElem hi⟩
    obtain ⟨p, hp⟩ : ∃ p, ps[i]? = some p := ⟨_, List.getElem?_eq_getElem (by rw [S.len]; exact hi)⟩
    have po := S.pl i h p hh hp
    have tp := topH_le (ok.h h (List.mem_of_getElem? hh))
    have pp := (S.ps i h hh).2
    have eP : posP ps i = p.ha + p.co.sum + fO ps (i + 1) - p.ow := by unfold posP; rw [fH_some hp, fC_some hp, fO_some hp]
    refine ⟨h, p, hh, hp, po, ?_, sum_nn po.c0⟩
    split at pp <;> omega
  have fo0 : ∀ i, 0 ≤ fO ps i := fun i => by
    unfold fO
    split
    · rename_i p e
      have hi : i < hs.length := by rw [← S.len]; exact (List.getElem?_eq_some_iff.mp e).1
      obtain ⟨h, hh⟩ : ∃ h, hs[i]? = some h := ⟨_, List.getElem?_eq_getElem hi⟩
      exact (S.pl i h p hh e).o0
    · omega
  have ow : ∀ i, fO ps i ≤ 9 + 39 * (i : Int) ∨ hs.length < i := fun i => by
    induction i with
    | zero => exact .inl (by have := S.ow; have := ok.w1; omega)
    | succ i ih =>
      by_cases c : i < hs.length
      · obtain ⟨h, p, _, hp, po, b, s0⟩ := bound i c
        have e := fO_some hp
        have := po.h0
        rcases ih with ih | ih
        · left; rw [e] at ih; push_cast; omega
        · omega
      · right; omega
  have hj : j < hs.length := by rw [← S.len]; exact (List.getElem?_eq_some_iff.mp hq).1
  obtain ⟨h, p, _, hp, po, b, s0⟩ := bound j hj
  rw [hq] at hp
  cases hp
  have e := fO_some hq
  have f1 := fo0 (j + 1)
  have o0 := po.o0
  have h0 := po.h0
  have ob : q.ow ≤ 9 + 39 * (j : Int) := by
    rcases ow j with z | z
    · rw [e] at z; exact z
    · omega
  have hb := S.no j q hj hq
  refine ⟨⟨h0, by omega⟩, ⟨o0, by omega⟩, fun x hx => ?_⟩
  have := mem_sum po.c0 hx
  exact ⟨po.c0 x hx, by omega⟩

def ruD3 (fl : Bool) (lo mo : Int) : D := .tup [.str (kw fl), .int lo, .int mo]
def RuOk (fl : Bool) (lo mo : Int) : Prop := ∀ la : Int, 1 ≤ la → la ≤ 4 → HOk ⟨fl, lo, mo, la⟩
/-! ### _law_rule -/
abbrev s__law_rule : Stmt := top 42
theorem sc__law_rule : FnScope ["_law_m", "_law_low", "_law_wide", "_law_level", "_law_more"] ["_law_m", "_law_low", "_law_wide"] (defScope s__law_rule) := ⟨rfl, rfl, rfl, by decide +kernel, rfl, by decide +kernel, by decide +kernel⟩
abbrev nm__law_rule : Nms := ⟨["_law_m", "_law_low", "_law_wide", "_law_level", "_law_more"], ["_law_m", "_law_low", "_law_wide", "_law_level", "_law_more"], ["_law_m", "_law_low", "_law_wide", "_law_level", "_law_more"], ["_law_draw"], [], false⟩
theorem no__law_rule : nm__law_rule.ok (defScope s__law_rule) = true := by decide +kernel
def sp__law_rule : Sp2 := fun ds M Q _ => ∃ (m g c : Addr) (n low wide : Int), ds = [.obj m, .int low, .int wide] ∧ Drw M m g c n ∧ n < 1000000 ∧ 0 ≤ low ∧ 0 ≤ wide ∧ low + wide ≤ 30 ∧ wide ≤ 9 ∧ ∀ (fl : Bool) (lo mo : Int) (M' : Mem), RuOk fl lo mo → Drw M' m g c (n + 3) → But m g M M' → Q (ruD3 fl lo mo) M'
theorem ok__law_rule {f : Addr} {fd : FuncData} (F : Fun K "_law_rule" "_law_rule" s__law_rule f fd) (T : Txt P w K mg base) (G__law_draw : Def2 P w K mg base 2 "_law_draw" ["_law_m", "_law_limit"] sp__law_draw) : Fn2 P w K mg base 3 f fd ["_law_m", "_law_low", "_law_wide"] sp__law_rule := by
  refine fn2_of F sc__law_rule no__law_rule (fun ds M Q E h => ?_) (fun X ds M Q E C h => ?_)
  · repeat (first | (obtain ⟨rfl, _⟩ := h; rfl) | (obtain ⟨_, h⟩ := h))
  · obtain ⟨m, g, c, n, low, wide, rfl, dr, nb, h1, h2, h3, h4, k⟩ := h
    show WSs X _ _ [some (.obj m), some (.int low), some (.int wide), none, none] M
    refine wss_cons ?_
    repeat' (k_extra "y")
    refine ⟨m, g, c, n, _, rfl, dr, by omega, by omega, by omega, fun lo M1 r0 r1 dr1 b1 => ?_⟩
    repeat' (k_extra "y")
    refine ⟨m, g, c, _, _, rfl, dr1, by omega, by omega, by omega, fun mo M2 q0 q1 dr2 b2 => ?_⟩
    repeat' (k_extra "y")
    intro p hp
    have ⟨pm, pg, pc⟩ := dr2.ne hp
    repeat' (k_extra "y")
    refine ⟨m, g, c, _, 2, rfl, dr2.put pm pg pc, by omega, by omega, by omega, fun j M3 j0 j1 dr3 b3 => ?_⟩
    have ep : M3 p = some (.lst [.tup [.str "fill", .int lo, .int (lo + mo)], .tup [.str "packs", .int lo, .int (1 + mo)]]) := b3 p _ pm pg mup_same
    have bb : But m g M M3 := ((b1.trans b2).trans (But.new hp)).trans b3
    by_cases c : j = 0
    · subst c
      repeat' (k_extra "y")
      exact k true lo (lo + mo) M3 (fun la a b => ⟨r0, by show lo ≤ 30; omega, fun _ => ⟨by show lo ≤ lo + mo; omega, by show lo + mo ≤ 30; omega⟩, (fun z => by cases z), a, b⟩) (dr3.eq (by omega)) bb
    · obtain rfl : j = 1 := by omega
      repeat' (k_extra "y")
      exact k false lo (1 + mo) M3 (fun la a b => ⟨r0, by show lo ≤ 30; omega, (fun z => by cases z), fun _ => ⟨by show 1 ≤ 1 + mo; omega, by show 1 + mo ≤ 10; omega⟩, a, b⟩) (dr3.eq (by omega)) bb
/-! ### _law_chain -/
abbrev s__law_chain : Stmt := top 43
theorem sc__law_chain : FnScope ["_law_m", "_law_most", "_law_low", "_law_wide", "_law_many", "_law_k"] ["_law_m", "_law_most", "_law_low", "_law_wide"] (defScope s__law_chain) := ⟨rfl, rfl, rfl, by decide +kernel, rfl, by decide +kernel, by decide +kernel⟩
abbrev nm__law_chain : Nms := ⟨["_law_m", "_law_most", "_law_low", "_law_wide", "_law_many"], ["_law_m", "_law_most", "_law_low", "_law_wide", "_law_many"], ["_law_most", "_law_many"], ["_law_draw", "tuple", "range"], ["_law_m", "_law_low", "_law_wide"], false⟩
theorem no__law_chain : nm__law_chain.ok (defScope s__law_chain) = true := by decide +kernel
abbrev nb__law_chain_0 : Nms := ⟨["_law_k", "_law_low", "_law_m", "_law_wide"], ["_law_k"], ["_law_k"], ["_law_rule", "_law_draw"], ["_law_low", "_law_m", "_law_wide"], false⟩
abbrev ow__law_chain_0 : List (Str × Nat) := [("_law_k", 5)]
def sp__law_chain : Sp2 := fun ds M Q _ => ∃ (m g c : Addr) (n most low wide : Int), ds = [.obj m, .int most, .int low, .int wide] ∧ Drw M m g c n ∧ n < 900000 ∧ 1 ≤ most ∧ most ≤ 3 ∧ 0 ≤ low ∧ 0 ≤ wide ∧ low + wide ≤ 30 ∧ wide ≤ 9 ∧ ∀ (hs : List Hs) (w k' : Int) (M' : Mem), COk hs w → (hs.length : Int) ≤ most → k' ≤ n + 14 → Drw M' m g c k' → But m g M M' → Q (chD hs w) M'
theorem ok__law_chain {f : Addr} {fd : FuncData} (F : Fun K "_law_chain" "_law_chain" s__law_chain f fd) (T : Txt P w K mg base) (G__law_draw : Def2 P w K mg base 2 "_law_draw" ["_law_m", "_law_limit"] sp__law_draw) (G__law_rule : Def2 P w K mg base 3 "_law_rule" ["_law_m", "_law_low", "_law_wide"] sp__law_rule) : Fn2 P w K mg base 4 f fd ["_law_m", "_law_most", "_law_low", "_law_wide"] sp__law_chain := by
  refine fn2_of F sc__law_chain no__law_chain (fun ds M Q E h => ?_) (fun X ds M Q E C h => ?_)
  · repeat (first | (obtain ⟨rfl, _⟩ := h; rfl) | (obtain ⟨_, h⟩ := h))
  · obtain ⟨m, g, c, n, most, low, wide, rfl, dr, nb, m1, m3, h1, h2, h3, h4, k⟩ := h
    show WSs X _ _ [some (.obj m), some (.int most), some (.int low), some (.int wide), none, none] M
    refine wss_cons ?_
    repeat' (k_extra "y")
    refine ⟨m, g, c, n, _, rfl, dr, by omega, by omega, by omega, fun v M1 v0 v1 dr1 b1 => ?_⟩
    repeat' (k_extra "y")
    refine we_lc (own := ow__law_chain_0) (t := .nm 5) C (by decide +kernel) (by decide) (fun X1 B => by have C1 := C.blk (sc2 := nb__law_chain_0) B rfl (by decide +kernel); k_extra "tgt") (fun _ => rfl) ?_
    repeat' (k_extra "y")
    refine ⟨by omega, by omega, fun p hp => ?_⟩
    have ⟨pm, pg, pc⟩ := dr1.ne hp
    refine ⟨fun i M' => ∃ hs : List Hs, M' p = some (.lst (hs.map hsD)) ∧ hs.length = i ∧ (∀ h ∈ hs, HOk h) ∧ Drw M' m g c (n + 1 + 4 * (i : Int)) ∧ But m g M M', ⟨[], mup_same, rfl, by simp, (dr1.put pm pg pc).eq (by omega), b1.trans (But.new hp)⟩, fun _ _ _ => trivial, ?_, ?_⟩
    · rintro i d M' hd ⟨hs, e, hl, ho, d', b⟩
      obtain ⟨hii, rfl⟩ := rng_get hd
      refine ⟨[some (.obj m), some (.int most), some (.int low), some (.int wide), some (.int (1 + v)), some (.int (0 + (i : Nat)))], rfl, fun X' B => ?_⟩
      refine Br.t fun X2 B2 => ?_
      have C' := C.blk (sc2 := nb__law_chain_0) B2 rfl (by decide +kernel)
      repeat' (k_extra "y")
      refine ⟨m, g, c, _, low, wide, rfl, d', by omega, by omega, by omega, by omega, by omega, fun fl lo mo M3 ru d3 b3 => ?_⟩
      repeat' (k_extra "y")
      refine ⟨m, g, c, _, _, rfl, d3, by omega, by omega, by omega, fun u M4 u0 u1 d4 b4 => ?_⟩
      repeat' (k_extra "y")
      refine ⟨_, b4 p _ pm pg (b3 p _ pm pg e), by rw [List.length_map, hl]; exact Nat.lt_of_lt_of_le (show i < 4 by omega) (by decide), hs ++ [⟨fl, lo, mo, 1 + u⟩], by rw [mup_same, List.map_append]; rfl, by simp [hl], ?_, (d4.put pm pg pc).eq (by omega), ?_⟩
      · intro h' hh'
        rcases List.mem_append.mp hh' with z | z
        · exact ho h' z
        · rw [List.mem_singleton.mp z]; exact ru _ (by omega) (by omega)
      · exact ((b.trans b3).trans b4).put (b1.free hp pm pg)
    · rintro M' ⟨hs, e, hl, ho, d', b⟩
      rw [List.length_map, List.length_range] at hl d'
      repeat' (k_extra "y")
      refine ⟨m, g, c, _, 4, rfl, d', by omega, by omega, by omega, fun u M3 u0 u1 d3 b3 => ?_⟩
      repeat' (k_extra "y")
      exact k hs u _ M3 ⟨by omega, by omega, ho, by omega, by omega⟩ (by omega) (by omega) d3 (b.trans b3)
theorem sok_rn {hs : List Hs} {w : Int} {ns : List Int} (ok : COk hs w) (hn : ∀ a ∈ ns, 0 ≤ a ∧ a ≤ 9) : ∀ i : Nat, i ≤ ns.length → SOk hs w (rn hs w (hs.map bgP) (ns.take i)).1 hs.length 0
  | 0, _ => sok_bg ok
  | i + 1, hi => by
    have e : ns[i]? = some ns[i] := List.getElem?_eq_getElem (by omega)
    rw [rn_take e]
    exact sok_day ok (sok_rn ok hn i (by omega)) (hn _ (List.mem_of_getElem? e)).1
theorem sok_plb {hs : List Hs} {w : Int} {ps : List Pl} (ok : COk hs w) (S : SOk hs w ps hs.length 0) : ∀ p ∈ ps, PlB 200 p := fun p hp => by
  obtain ⟨j, hj⟩ := List.getElem?_of_mem hp
  have hjl : j < hs.length := by rw [← S.len]; exact (List.getElem?_eq_some_iff.mp hj).1
  obtain ⟨h, hh⟩ : ∃ h, hs[j]? = some h := ⟨_, List.getElem?_eq_getElem hjl⟩
  have po := S.pl j h p hh hj
  have okh := ok.h h (List.mem_of_getElem? hh)
  obtain ⟨a, o, c⟩ := sok_small ok S hj
  have d0 := okh.d0
  have d1 := okh.d1
  have cl := po.cl
  exact ⟨a.1, a.2, o.1, o.2, c, by omega, by omega⟩
theorem bd200 : Bd 900 200 := by decide +kernel
theorem sok_plok {hs : List Hs} {w : Int} {ps : List Pl} (ok : COk hs w) (S : SOk hs w ps hs.length 0) : ∀ (j : Nat) (h : Hs) (p : Pl), hs[j]? = some h → ps[j]? = some p → PlOk h p := fun j h p hh hp => by
  have hjl : j < hs.length := (List.getElem?_eq_some_iff.mp hh).1
  have po := S.pl j h p hh hp
  obtain ⟨a, o, c⟩ := sok_small ok S hp
  exact ⟨a.1, by omega, o.1, by omega, po.cl, fun x hx => ⟨(c x hx).1, by have := (c x hx).2; omega⟩, S.no j p hjl hp⟩
theorem sok_ow {hs : List Hs} {w : Int} {ps : List Pl} (S : SOk hs w ps hs.length 0) : ∀ p, ps[0]? = some p → p.ow ≤ w := fun p hp => by
  have := S.ow
  rw [fO_some hp] at this
  exact this
theorem datk_hs {h : Hs} : DatK 2 (hsD h) := datk_tup (datk_cons (datk_tup (datk_cons (datk_str (by cases h.fl <;> decide +kernel)) (datk_cons (datk_int.le (by decide)) (datk_cons (datk_int.le (by decide)) datk_nil)))) (datk_cons (datk_int.le (by decide)) datk_nil))
theorem datk_ch {hs : List Hs} {w : Int} : DatK 4 (chD hs w) := datk_tup (datk_cons (datk_tup (datk_map fun h _ => datk_hs)) (datk_cons (datk_int.le (by decide)) datk_nil))
theorem datk_pl {p : Pl} : DatK 2 (plD p) := datk_tup (datk_cons (datk_int.le (by decide)) (datk_cons (datk_tup (datk_ints _)) (datk_cons (datk_int.le (by decide)) datk_nil)))
theorem datk_st {ps : List Pl} : DatK 3 (.tup (ps.map plD)) := datk_tup (datk_map fun p _ => datk_pl)
theorem datk_cmp {M : Mem} {k : Nat} {d : D} (h : DatK k d) (l : k ≤ 20) : Cmp M d := ⟨_, dtr_dat h.dat, h.lay, Nat.le_trans h.dep l⟩
theorem hd_one {ps : List Rc} {r : Rc} (h : ps.head? = some r) (l : ps.length = ([] : List Int).length + 1) : ps = [r] := by
  match ps, h, l with
  | [a], h, _ => cases h; rfl
  | _ :: _ :: _, _, l => simp at l
/-- what a led chain that was sold by has kept: the stand and the notes are S -/
structure Hist (hs : List Hs) (w : Int) (S : List Pl × List Nz) (L : Nat) (ps : List Rc) : Prop where
  last : ∃ de no, ps.getLast? = some ⟨de, hs, w, S.1, no⟩
  nt : notes ps = S.2
  len : ps.length = L
  hd : ps.head? = some ⟨.non, hs, w, hs.map bgP, none⟩
  dk : ∀ x ∈ ps, DatK 10 x.de
theorem hist_init {hs : List Hs} {w : Int} : Hist hs w (hs.map bgP, []) 1 [⟨.non, hs, w, hs.map bgP, none⟩] := ⟨⟨_, _, rfl⟩, rfl, rfl, rfl, fun x hx => by rw [List.mem_singleton.mp hx]; exact datk_non.le (by decide)⟩
theorem hist_snoc {hs : List Hs} {w : Int} {S S' : List Pl × List Nz} {L : Nat} {ps : List Rc} {de : D} {no : Option Nz} (h : Hist hs w S L ps) (hd : DatK 10 de) (hn : S'.2 = S.2 ++ no.toList) : Hist hs w S' (L + 1) (ps ++ [⟨de, hs, w, S'.1, no⟩]) := by
  refine ⟨⟨de, no, by simp⟩, ?_, by simp [h.len], ?_, fun x hx => ?_⟩
  · unfold notes
    rw [List.filterMap_append, hn, show List.filterMap (fun x : Rc => x.no) ps = S.2 from h.nt]
    cases no <;> rfl
  · have := h.hd
    cases ps with
    | nil => cases this
    | cons p r => exact this
  · rcases List.mem_append.mp hx with hx | hx
    · exact h.dk x hx
    · rw [List.mem_singleton.mp hx]; exact hd
theorem hist_sell {hs : List Hs} {w : Int} {S : List Pl × List Nz} {L : Nat} {ps : List Rc} {d : Int} (h : Hist hs w S L ps) : Hist hs w (rnS hs w S d) (L + 1) (ps ++ [⟨.tup [.str "sell", .int d], hs, w, dayQ hs w S.1 d, some (dayN hs w S.1 d)⟩]) :=
  hist_snoc h (datk_tup (k := 9) (datk_cons ((datk_str (x := "sell") (by decide +kernel)).le (by decide)) (datk_cons (datk_int.le (by decide)) datk_nil))) rfl
theorem datk_rule {h : Hs} : DatK 1 (ruD h) := datk_tup (datk_cons (datk_str (by cases h.fl <;> decide +kernel)) (datk_cons (datk_int.le (by decide)) (datk_cons (datk_int.le (by decide)) datk_nil)))
theorem hist_exch {hs : List Hs} {w : Int} {S : List Pl × List Nz} {L n : Nat} {ps : List Rc} {r : Hs} (h : Hist hs w S L ps) : Hist hs w S (L + 1) (ps ++ [⟨.tup [.str "exchange", .int n, ruD r], hs, w, S.1, none⟩]) :=
  hist_snoc (S' := S) h (datk_tup (k := 9) (datk_cons ((datk_str (x := "exchange") (by decide +kernel)).le (by decide)) (datk_cons (datk_int.le (by decide)) (datk_cons (datk_rule.le (by decide)) datk_nil)))) (by simp)
structure St91 (M : Mem) (m g c p a b : Addr) (k : Int) (ns : List Int) (oa ob : MO) : Prop where
  d : Drw M m g c k
  r : M p = some (.lst (ns.map D.int))
  ea : M a = some oa
  eb : M b = some ob
  na : a ≠ m ∧ a ≠ g ∧ a ≠ c
  nb : b ≠ m ∧ b ≠ g ∧ b ≠ c
  np : p ≠ m ∧ p ≠ g
  ab : a ≠ b
  pa : p ≠ a
  pb : p ≠ b
section
variable {M M' : Mem} {m g c p a b : Addr} {k k' : Int} {ns : List Int} {oa ob o : MO}
theorem St91.ext (h : St91 M m g c p a b k ns oa ob) (x : Ext M M') : St91 M' m g c p a b k ns oa ob := ⟨h.d.ext x, x _ _ h.r, x _ _ h.ea, x _ _ h.eb, h.na, h.nb, h.np, h.ab, h.pa, h.pb⟩
theorem St91.but (h : St91 M m g c p a b k ns oa ob) (d : Drw M' m g c k') (x : But m g M M') : St91 M' m g c p a b k' ns oa ob := ⟨d, x _ _ h.np.1 h.np.2 h.r, x _ _ h.na.1 h.na.2.1 h.ea, x _ _ h.nb.1 h.nb.2.1 h.eb, h.na, h.nb, h.np, h.ab, h.pa, h.pb⟩
theorem St91.seta (h : St91 M m g c p a b k ns oa ob) : St91 (mup M a o) m g c p a b k ns o ob := ⟨h.d.put h.na.1 h.na.2.1 h.na.2.2, by rw [mup_ne h.pa]; exact h.r, mup_same, by rw [mup_ne h.ab.symm]; exact h.eb, h.na, h.nb, h.np, h.ab, h.pa, h.pb⟩
theorem St91.setb (h : St91 M m g c p a b k ns oa ob) : St91 (mup M b o) m g c p a b k ns oa o := ⟨h.d.put h.nb.1 h.nb.2.1 h.nb.2.2, by rw [mup_ne h.pb]; exact h.r, by rw [mup_ne h.ab]; exact h.ea, mup_same, h.na, h.nb, h.np, h.ab, h.pa, h.pb⟩
end
theorem set_self {hs : List Hs} {j : Nat} {h : Hs} (e : hs[j]? = some h) : hs.set j h = hs := by
  refine List.ext_getElem? fun i => ?_
  rw [List.getElem?_set]
  by_cases c : j = i
  · subst c
    rw [if_pos rfl, e, if_pos (List.getElem?_eq_some_iff.mp e).1]
  · rw [if_neg c]

theorem set_same {α : Type} : ∀ {xs : List α} {i : Nat} {x : α}, xs[i]? = some x → xs.set i x = xs
  | [], _, _, h => by simp at h
  | y :: ys, 0, x, h => by simp at h; subst h; rfl
  | y :: ys, i + 1, x, h => by rw [List.set_cons_succ, set_same (by simpa using h)]
theorem fO_none {qs : List Pl} {j : Nat} (h : qs[j]? = none) : fO qs j = 0 := by unfold fO; rw [h]
structure RA (M : Mem) (rs : List Addr) (qs : List Pl) : Prop where
  len : rs.length = qs.length
  at_ : ∀ (j : Nat) (r : Addr) (q : Pl), rs[j]? = some r → qs[j]? = some q → M r = some (.lst (q.co.map D.int))
theorem RA.put {M : Mem} {rs : List Addr} {qs : List Pl} {p : Addr} {o : MO} (h : RA M rs qs) (hp : p ∉ rs) : RA (mup M p o) rs qs :=
  ⟨h.len, fun j r q hr hq => by rw [mup_ne (fun e => hp (by rw [← e]; exact List.mem_of_getElem? hr))]; exact h.at_ j r q hr hq⟩
theorem RA.same {M : Mem} {rs : List Addr} {qs : List Pl} {i : Nat} {q q' : Pl} (h : RA M rs qs) (hq : qs[i]? = some q) (e : q'.co = q.co) : RA M rs (qs.set i q') :=
  ⟨by rw [List.length_set]; exact h.len, fun j r u hr hu => by
    rw [List.getElem?_set] at hu
    by_cases c : i = j
    · subst c
      rw [if_pos rfl, if_pos (List.getElem?_eq_some_iff.mp hq).1] at hu
      cases hu
      rw [e]
      exact h.at_ i r q hr hq
    · rw [if_neg c] at hu
      exact h.at_ j r u hr hu⟩
theorem RA.set {M : Mem} {rs : List Addr} {qs : List Pl} {i : Nat} {r : Addr} {q' : Pl} (h : RA M rs qs) (nd : rs.Nodup) (hr : rs[i]? = some r) : RA (mup M r (.lst (q'.co.map D.int))) rs (qs.set i q') :=
  ⟨by rw [List.length_set]; exact h.len, fun j r' u hr' hu => by
    rw [List.getElem?_set] at hu
    by_cases c : i = j
    · subst c
      rw [hr] at hr'
      cases hr'
      rw [if_pos rfl] at hu
      split at hu
      · cases hu; exact mup_same
      · cases hu
    · rw [if_neg c] at hu
      have ne : r' ≠ r := fun e => by
        subst e
        have l1 := (List.getElem?_eq_some_iff.mp hr).1
        exact c ((List.getElem?_inj l1 nd).mp (hr.trans hr'.symm))
      rw [mup_ne ne]
      exact h.at_ j r' u hr' hu⟩
/-- the law's lists of a day are apart -/
structure Ap3 (pp po pr : Addr) (rs : List Addr) : Prop where
  a : pp ≠ po
  b : pp ≠ pr
  d : po ≠ pr
  p : pp ∉ rs
  o : po ∉ rs
  r : pr ∉ rs
  nd : rs.Nodup
structure LD3 (M : Mem) (pp po pr : Addr) (rs : List Addr) (S : Sd) : Prop where
  p : M pp = some (.lst ((S.qs.map Pl.ha).map D.int))
  o : M po = some (.lst ((S.qs.map Pl.ow).map D.int))
  r : M pr = some (.lst (rs.map D.obj))
  ra : RA M rs S.qs
theorem get_ha {qs : List Pl} {i : Nat} {q : Pl} (h : qs[i]? = some q) : (qs.map Pl.ha)[i]? = some q.ha := by rw [List.getElem?_map, h]; rfl
theorem get_ow {qs : List Pl} {i : Nat} {q : Pl} (h : qs[i]? = some q) : (qs.map Pl.ow)[i]? = some q.ow := by rw [List.getElem?_map, h]; rfl
theorem fO_get {qs : List Pl} {i : Nat} : fO qs i = (match (qs.map Pl.ow)[i]? with | some x => x | none => 0) := by
  unfold fO
  rw [List.getElem?_map]
  cases qs[i]? <;> rfl

/-! ### _law_top -/
abbrev s__law_top : Stmt := top 44
theorem sc__law_top : FnScope ["_law_rule_here"] ["_law_rule_here"] (defScope s__law_top) := ⟨rfl, rfl, rfl, by decide +kernel, rfl, by decide +kernel, by decide +kernel⟩
abbrev nm__law_top : Nms := ⟨["_law_rule_here"], ["_law_rule_here"], ["_law_rule_here"], [], [], false⟩
theorem no__law_top : nm__law_top.ok (defScope s__law_top) = true := by decide +kernel
def sp__law_top : Sp2 := fun ds M Q _ => ∃ h : Hs, ds = [.tup [.str (kw h.fl), .int h.lo, .int h.mo]] ∧ Q (.int (topH h)) M
theorem st__law_top {M : Mem} {Q : QE} {E : XQ} {h : Hs} (q : Q (.int (topH h)) M) : sp__law_top [.tup [.str (kw h.fl), .int h.lo, .int h.mo]] M Q E := ⟨h, rfl, q⟩
theorem ok__law_top {f : Addr} {fd : FuncData} (F : Fun K "_law_top" "_law_top" s__law_top f fd) (T : Txt P w K mg base)  : Fn2 P w K mg base 1 f fd ["_law_rule_here"] sp__law_top := by
  refine fn2_of F sc__law_top no__law_top (fun ds M Q E h => ?_) (fun X ds M Q E C h => ?_)
  · repeat (first | (obtain ⟨rfl, _⟩ := h; rfl) | (obtain ⟨_, h⟩ := h))
  · obtain ⟨⟨fl, lo, mo, la⟩, rfl, k⟩ := h
    show WSs X _ _ [some (.tup [.str (kw fl), .int lo, .int mo])] M
    have n := n_pf
    cases fl
    · rw [kw_f]
      refine wss_one ?_
      repeat' (k_extra "y")
      exact k
    · rw [kw_t]
      refine wss_one ?_
      repeat' (k_extra "y")
      exact k
example : True := by
  k_with "lq" => first | with_reducible apply st__law_top | fail
  trivial
/-! ### _law_order -/
abbrev s__law_order : Stmt := top 46
theorem sc__law_order : FnScope ["_law_rule_here", "_law_place", "_law_some"] ["_law_rule_here", "_law_place"] (defScope s__law_order) := ⟨rfl, rfl, rfl, by decide +kernel, rfl, by decide +kernel, by decide +kernel⟩
abbrev nm__law_order : Nms := ⟨["_law_rule_here", "_law_place", "_law_some"], ["_law_rule_here", "_law_place", "_law_some"], ["_law_rule_here", "_law_place", "_law_some"], [], [], false⟩
theorem no__law_order : nm__law_order.ok (defScope s__law_order) = true := by decide +kernel
theorem ord_pk {h : Hs} {p k : Int} (ok : HOk h) (hf : h.fl = false) (c : p < h.lo) (k1 : k * h.mo < h.lo - p + h.mo) (k2 : h.lo ≤ p + k * h.mo) : ord h p = k * h.mo := by
  have := ok.p hf
  unfold ord
  rw [if_neg (by omega), if_neg (by rw [hf]; decide)]
  have e : h.lo - p + h.mo - 1 = (h.lo - p + h.mo - 1 - k * h.mo) + k * h.mo := by omega
  rw [e, Int.add_mul_ediv_right _ _ (by omega), Int.ediv_eq_zero_of_lt (by omega) (by omega), Int.zero_add]
def sp__law_order : Sp2 := fun ds M Q _ => ∃ (h : Hs) (p : Int), ds = [.tup [.str (kw h.fl), .int h.lo, .int h.mo], .int p] ∧ HOk h ∧ Q (.int (ord h p)) M
theorem st__law_order {M : Mem} {Q : QE} {E : XQ} {h : Hs} {p : Int} (ok : HOk h) (q : Q (.int (ord h p)) M) : sp__law_order [.tup [.str (kw h.fl), .int h.lo, .int h.mo], .int p] M Q E := ⟨h, p, rfl, ok, q⟩
theorem ok__law_order {f : Addr} {fd : FuncData} (F : Fun K "_law_order" "_law_order" s__law_order f fd) (T : Txt P w K mg base)  : Fn2 P w K mg base 1 f fd ["_law_rule_here", "_law_place"] sp__law_order := by
  refine fn2_of F sc__law_order no__law_order (fun ds M Q E h => ?_) (fun X ds M Q E C h => ?_)
  · repeat (first | (obtain ⟨rfl, _⟩ := h; rfl) | (obtain ⟨_, h⟩ := h))
  · obtain ⟨⟨fl, lo, mo, la⟩, p, rfl, ok, k⟩ := h
    show WSs X _ _ [some (.tup [.str (kw fl), .int lo, .int mo]), some (.int p), none] M
    have n := n_pf
    refine wss_cons ?_
    repeat' (k_extra "y")
    refine Br.dec (fun c => ?_) fun c => ?_
    · repeat' (k_extra "y")
      have e : ord ⟨fl, lo, mo, la⟩ p = 0 := by unfold ord; rw [if_pos c]
      rw [e] at k
      exact k
    cases fl
    · rw [kw_f]
      have hp := ok.p rfl
      simp only at hp
      repeat' (k_extra "y")
      refine ws_while C (fun m ρ' M' => ∃ j : Int, ρ' = [some (.tup [.str "packs", .int lo, .int mo]), some (.int p), some (.int (j * mo))] ∧ M' = M ∧ j * mo < lo - p + mo ∧ m = (lo - p + mo - j * mo).toNat) (lo - p + mo).toNat ⟨0, by simp, rfl, by simp; omega, by simp⟩ ?_
      rintro m ρ' M' ⟨j, rfl, rfl, hj, hm⟩
      repeat' (k_extra "y")
      refine Br.dec (fun c2 => ?_) fun c2 => ?_
      · repeat' (k_extra "y")
        have e : (j + 1) * mo = j * mo + mo := by rw [Int.add_mul, Int.one_mul]
        exact ⟨_, by omega, j + 1, by rw [e], rfl, by omega, rfl⟩
      · repeat' (k_extra "y")
        have e := ord_pk (h := ⟨false, lo, mo, la⟩) ok rfl (show p < lo by omega) hj (show lo ≤ p + j * mo by omega)
        simp only at e
        rw [e] at k
        exact k
    · rw [kw_t]
      repeat' (k_extra "y")
      have e : ord ⟨true, lo, mo, la⟩ p = mo - p := by unfold ord; rw [if_neg c, if_pos rfl]
      rw [e] at k
      exact k
example : True := by
  k_with "lq" => first | with_reducible apply st__law_order | fail
  trivial
/-! ### _law_first -/
abbrev s__law_first : Stmt := top 45
theorem sc__law_first : FnScope ["_law_chain_so", "_law_rule_here", "_law_delay"] ["_law_chain_so"] (defScope s__law_first) := ⟨rfl, rfl, rfl, by decide +kernel, rfl, by decide +kernel, by decide +kernel⟩
abbrev nm__law_first : Nms := ⟨["_law_chain_so"], ["_law_chain_so"], ["_law_chain_so"], ["tuple"], [], false⟩
theorem no__law_first : nm__law_first.ok (defScope s__law_first) = true := by decide +kernel
abbrev nb__law_first_0 : Nms := ⟨["_law_rule_here", "_law_delay"], ["_law_rule_here", "_law_delay"], ["_law_rule_here", "_law_delay"], ["_law_top"], [], false⟩
abbrev ow__law_first_0 : List (Str × Nat) := [("_law_rule_here", 1), ("_law_delay", 2)]
def sp__law_first : Sp2 := fun ds M Q _ => ∃ hs w, ds = [chD hs w] ∧ COk hs w ∧ ∀ M', Ext M M' → Q (.tup ((hs.map bgP).map plD)) M'
theorem ok__law_first {f : Addr} {fd : FuncData} (F : Fun K "_law_first" "_law_first" s__law_first f fd) (T : Txt P w K mg base) (G__law_top : Def2 P w K mg base 1 "_law_top" ["_law_rule_here"] sp__law_top) : Fn2 P w K mg base 2 f fd ["_law_chain_so"] sp__law_first := by
  refine fn2_of F sc__law_first no__law_first (fun ds M Q E h => ?_) (fun X ds M Q E C h => ?_)
  · repeat (first | (obtain ⟨rfl, _⟩ := h; rfl) | (obtain ⟨_, h⟩ := h))
  · obtain ⟨hs, w, rfl, ok, k⟩ := h
    show WSs X _ _ [some (.tup [.tup (hs.map hsD), .int w]), none, none] M
    have n1 := ok.n1
    refine wss_one ?_
    k_extra "y"
    k_extra "y"
    refine we_lcG (own := ow__law_first_0) (t := .tp [.nm 1, .nm 2]) C (by decide +kernel) (by decide) (fun X' B => by have C' := C.blk (sc2 := nb__law_first_0) B rfl (by decide +kernel); k_extra "tgt") (fun _ => rfl) ?_
    refine wi_tup ?_
    repeat' (k_extra "y")
    refine ⟨(hs.map bgP).map plD, ⟨by rw [List.length_map]; exact Nat.le_trans n1 (by decide), by simp, fun _ _ => trivial, fun i d z M' hd hz x => ?_⟩, fun Dd M' hD e x => ?_⟩
    · obtain ⟨h, rfl, hh⟩ := get_map hd
      have ok1 : HOk h := ok.h h (List.mem_of_getElem? hh)
      have ez := get_map2 hz hh
      subst ez
      have d0 := ok1.d0
      have d1 := ok1.d1
      refine ⟨[some (.tup [.tup (hs.map hsD), .int w]), some (.tup [.str (kw h.fl), .int h.lo, .int h.mo]), some (.int h.la)], rfl, fun X' B => ?_⟩
      have C' := C.blk (sc2 := nb__law_first_0) B rfl (by decide +kernel)
      repeat' (k_extra "y")
      refine ⟨by simp, by omega, by omega, by simp, ?_⟩
      repeat' (k_extra "y")
      exact ⟨Ext.refl _, by simp [plD, bgP]⟩
    · repeat' (k_extra "y")
      exact k _ x
/-! ### _law_day -/
abbrev s__law_day : Stmt := top 47
theorem sc__law_day : FnScope ["_law_chain_so", "_law_stand_so", "_law_demand", "_law_houses", "_law_wait", "_law_piles", "_law_hand", "_law_coming", "_law_owed", "_law_ways", "_law_waits", "_law_came", "_law_asked", "_law_orders", "_law_given", "_law_k", "_law_due", "_law_sent", "_law_above", "_law_later"] ["_law_chain_so", "_law_stand_so", "_law_demand"] (defScope s__law_day) := ⟨rfl, rfl, rfl, by decide +kernel, rfl, by decide +kernel, by decide +kernel⟩
abbrev nm__law_day : Nms := ⟨["_law_chain_so", "_law_stand_so", "_law_demand", "_law_houses", "_law_wait", "_law_piles", "_law_ways", "_law_waits", "_law_came", "_law_asked", "_law_orders", "_law_given", "_law_k", "_law_due", "_law_sent", "_law_above", "_law_later"], ["_law_chain_so", "_law_stand_so", "_law_demand", "_law_houses", "_law_wait", "_law_piles", "_law_ways", "_law_waits", "_law_came", "_law_asked", "_law_orders", "_law_given", "_law_k", "_law_due", "_law_sent", "_law_above", "_law_later"], ["_law_chain_so", "_law_stand_so", "_law_demand", "_law_houses", "_law_wait", "_law_came", "_law_asked", "_law_orders", "_law_given", "_law_k", "_law_due", "_law_sent", "_law_above", "_law_later"], ["tuple", "range", "len", "min", "max", "_law_order", "sum"], ["_law_piles", "_law_ways", "_law_waits"], false⟩
theorem no__law_day : nm__law_day.ok (defScope s__law_day) = true := by decide +kernel
abbrev nb__law_day_0 : Nms := ⟨["_law_hand", "_law_coming", "_law_owed"], ["_law_hand", "_law_coming", "_law_owed"], ["_law_hand", "_law_coming", "_law_owed"], [], [], false⟩
abbrev ow__law_day_0 : List (Str × Nat) := [("_law_hand", 6), ("_law_coming", 7), ("_law_owed", 8)]
abbrev nb__law_day_1 : Nms := ⟨["_law_hand", "_law_coming", "_law_owed"], ["_law_hand", "_law_coming", "_law_owed"], ["_law_hand", "_law_coming", "_law_owed"], ["list"], [], false⟩
abbrev ow__law_day_1 : List (Str × Nat) := [("_law_hand", 6), ("_law_coming", 7), ("_law_owed", 8)]
abbrev nb__law_day_2 : Nms := ⟨["_law_hand", "_law_coming", "_law_owed"], ["_law_hand", "_law_coming", "_law_owed"], ["_law_hand", "_law_coming", "_law_owed"], [], [], false⟩
abbrev ow__law_day_2 : List (Str × Nat) := [("_law_hand", 6), ("_law_coming", 7), ("_law_owed", 8)]
abbrev nb__law_day_3 : Nms := ⟨["_law_k", "_law_piles", "_law_waits", "_law_ways"], ["_law_k"], ["_law_k"], ["tuple"], ["_law_piles", "_law_waits", "_law_ways"], false⟩
abbrev ow__law_day_3 : List (Str × Nat) := [("_law_k", 15)]
abbrev ld_body : List Stmt := forB (stAt (defBody s__law_day) 5)
abbrev ld_rest : List Stmt := ld_body.drop 4
theorem _law_day_rest {X : Cx} {E : Ends2} (C : Cxt X ["_law_chain_so", "_law_stand_so", "_law_demand", "_law_houses", "_law_wait", "_law_piles", "_law_hand", "_law_coming", "_law_owed", "_law_ways", "_law_waits", "_law_came", "_law_asked", "_law_orders", "_law_given", "_law_k", "_law_due", "_law_sent", "_law_above", "_law_later"] nm__law_day P w K mg base 1) (T : Txt P w K mg base) (G__law_order : Def2 P w K mg base 1 "_law_order" ["_law_rule_here", "_law_place"] sp__law_order) : ∀ {M : Mem} {hs : List Hs} {w a A : Int} {ps : List Pl} {i : Nat} {h : Hs} {qs : List Pl} {os : List Int} {pp po pr : Addr} {rs : List Addr} {d11 d14 d16 d17 d18 : Option D}, COk hs w → hs[i]? = some h → qs.length = hs.length → os.length = i → M pp = some (.lst ((qs.map Pl.ha).map D.int)) → M po = some (.lst ((qs.map Pl.ow).map D.int)) → M pr = some (.lst (rs.map D.obj)) → RA M rs qs → (∀ c18, E.nx [some (chD hs w), some (.tup (ps.map plD)), some (.int a), some (.tup (hs.map hsD)), some (.int w), some (.obj pp), none, none, none, some (.obj pr), some (.obj po), d11, some (.int (ord h (posP qs i))), some (.tup ((os ++ [ord h (posP qs i)]).map D.int)), d14, some (.int (i : Nat)), d16, d17, c18, none] M) → WSs X ld_rest E [some (chD hs w), some (.tup (ps.map plD)), some (.int a), some (.tup (hs.map hsD)), some (.int w), some (.obj pp), none, none, none, some (.obj pr), some (.obj po), d11, some (.int A), some (.tup (os.map D.int)), d14, some (.int (i : Nat)), d16, d17, d18, none] M := by
  intro M hs w a A ps i h qs os pp po pr rs d11 d14 d16 d17 d18 ok hh sl ol lp lo lr ra k
  have n1 := ok.n1
  have hi : i < hs.length := (List.getElem?_eq_some_iff.mp hh).1
  have okh := ok.h h (List.mem_of_getElem? hh)
  obtain ⟨q, hq⟩ : ∃ q, qs[i]? = some q := ⟨_, List.getElem?_eq_getElem (by rw [sl]; exact hi)⟩
  obtain ⟨r, hr⟩ : ∃ r, rs[i]? = some r := ⟨_, List.getElem?_eq_getElem (by rw [ra.len, sl]; exact hi)⟩
  have er := ra.at_ i r q hr hq
  have gh := get_ha hq
  have go := get_ow hq
  have eP : posP qs i = q.ha + q.co.sum + fO qs (i + 1) - q.ow := by unfold posP; rw [fH_some hq, fC_some hq, fO_some hq]
  refine wss_cons ?_
  repeat' (k_extra "y")
  refine Br.joinE (.int (fO qs (i + 1))) (fun c => ?_) (fun c => ?_) ?_
  · rw [List.length_map] at c
    obtain ⟨q1, hq1⟩ : ∃ q, qs[i + 1]? = some q := ⟨_, List.getElem?_eq_getElem (by omega)⟩
    have go1 := get_ow hq1
    repeat' (k_extra "y")
    refine q_ixK (items_lst lo) (n := i + 1) (ixN_nat (by omega) (by rw [List.length_map]; omega)) go1 ?_
    exact ⟨by rw [fO_some hq1], rfl⟩
  · rw [List.length_map] at c
    repeat' (k_extra "y")
    exact ⟨by rw [fO_none (List.getElem?_eq_none (by omega))], rfl⟩
  repeat' (first | k_extra "y" | dsimp only [hsD])
  · exact okh
  · rw [List.length_map, ol]
    exact Nat.le_trans (Nat.add_le_add (show i ≤ 3 by omega) (Nat.le_refl 1)) (by decide)
  · rw [← eP]
    have kk := k (some (.int (fO qs (i + 1))))
    rw [List.map_append] at kk
    exact kk
theorem _law_day_step {X : Cx} {E : Ends2} (C : Cxt X ["_law_chain_so", "_law_stand_so", "_law_demand", "_law_houses", "_law_wait", "_law_piles", "_law_hand", "_law_coming", "_law_owed", "_law_ways", "_law_waits", "_law_came", "_law_asked", "_law_orders", "_law_given", "_law_k", "_law_due", "_law_sent", "_law_above", "_law_later"] nm__law_day P w K mg base 1) (T : Txt P w K mg base) (G__law_order : Def2 P w K mg base 1 "_law_order" ["_law_rule_here", "_law_place"] sp__law_order) : ∀ {M0 M : Mem} {hs : List Hs} {w a : Int} {ps : List Pl} {i : Nat} {S : Sd} {pp po pr : Addr} {rs : List Addr} {d11 d16 d17 d18 : Option D}, COk hs w → i < hs.length → S.qs.length = hs.length → S.os.length = i → (∀ q ∈ S.qs, 1 ≤ q.co.length) → Ap3 pp po pr rs → LD3 M pp po pr rs S → Ext M0 M → (∀ b, b = pp ∨ b = po ∨ b = pr ∨ b ∈ rs → M0 b = none) → (∀ (c16 c17 c18 : Option D) (M' : Mem), LD3 M' pp po pr rs (stp hs w S i) → Ext M0 M' → E.nx [some (chD hs w), some (.tup (ps.map plD)), some (.int a), some (.tup (hs.map hsD)), some (.int w), some (.obj pp), none, none, none, some (.obj pr), some (.obj po), d11, some (.int (stp hs w S i).A), some (.tup ((stp hs w S i).os.map D.int)), some (.tup [.int (stp hs w S i).F, .int (stp hs w S i).L]), some (.int (i : Nat)), c16, c17, c18, none] M') → WSs X ld_body E [some (chD hs w), some (.tup (ps.map plD)), some (.int a), some (.tup (hs.map hsD)), some (.int w), some (.obj pp), none, none, none, some (.obj pr), some (.obj po), d11, some (.int S.A), some (.tup (S.os.map D.int)), some (.tup [.int S.F, .int S.L]), some (.int (i : Nat)), d16, d17, d18, none] M := by
  intro M0 M hs w a ps i S pp po pr rs d11 d16 d17 d18 ok hi sl ol cl ap ld x fr k
  have n1 := ok.n1
  obtain ⟨h, hh⟩ : ∃ h, hs[i]? = some h := ⟨_, List.getElem?_eq_getElem hi⟩
  have okh := ok.h h (List.mem_of_getElem? hh)
  obtain ⟨q, hq⟩ : ∃ q, S.qs[i]? = some q := ⟨_, List.getElem?_eq_getElem (by rw [sl]; exact hi)⟩
  obtain ⟨r, hr⟩ : ∃ r, rs[i]? = some r := ⟨_, List.getElem?_eq_getElem (by rw [ld.ra.len, sl]; exact hi)⟩
  obtain ⟨lp, lo, lr, ra⟩ := ld
  have gh := get_ha hq
  have go := get_ow hq
  refine wss_cons ?_
  repeat' (k_extra "y")
  rw [show (if q.ow + S.A < q.ha then q.ow + S.A else q.ha) = snt q S.A from rfl]
  refine q_setM lp (ixN_nat rfl (by rw [List.length_map, sl]; exact hi)) ?_
  rw [set_ints]
  repeat' (k_extra "y")
  have lo1 : mup M pp (.lst (((S.qs.map Pl.ha).set i (q.ha - snt q S.A)).map D.int)) po = some (.lst ((S.qs.map Pl.ow).map D.int)) := (mup_ne (Ne.symm ap.a)).trans lo
  refine q_setM lo1 (ixN_nat rfl (by rw [List.length_map, sl]; exact hi)) ?_
  rw [set_ints]
  have eh : (S.qs.map Pl.ha).set i (q.ha - snt q S.A) = (S.qs.set i ⟨q.ha - snt q S.A, q.co, q.ow + S.A - snt q S.A⟩).map Pl.ha := by rw [List.map_set]
  have eo : (S.qs.map Pl.ow).set i (q.ow + S.A - snt q S.A) = (S.qs.set i ⟨q.ha - snt q S.A, q.co, q.ow + S.A - snt q S.A⟩).map Pl.ow := by rw [List.map_set]
  rw [eh, eo]
  have hq1 : (S.qs.set i ⟨q.ha - snt q S.A, q.co, q.ow + S.A - snt q S.A⟩)[i]? = some ⟨q.ha - snt q S.A, q.co, q.ow + S.A - snt q S.A⟩ := by rw [List.getElem?_set, if_pos rfl, if_pos (by rw [sl]; exact hi)]
  have ra1 : RA M rs (S.qs.set i ⟨q.ha - snt q S.A, q.co, q.ow + S.A - snt q S.A⟩) := ra.same hq rfl
  have sl1 : (S.qs.set i ⟨q.ha - snt q S.A, q.co, q.ow + S.A - snt q S.A⟩).length = hs.length := by rw [List.length_set]; exact sl
  generalize hM3 : mup (mup M pp (.lst (((S.qs.set i ⟨q.ha - snt q S.A, q.co, q.ow + S.A - snt q S.A⟩).map Pl.ha).map D.int))) po (.lst (((S.qs.set i ⟨q.ha - snt q S.A, q.co, q.ow + S.A - snt q S.A⟩).map Pl.ow).map D.int)) = M3
  have lp3 : M3 pp = some (.lst (((S.qs.set i ⟨q.ha - snt q S.A, q.co, q.ow + S.A - snt q S.A⟩).map Pl.ha).map D.int)) := by rw [← hM3, mup_ne ap.a]; exact mup_same
  have lo3 : M3 po = some (.lst (((S.qs.set i ⟨q.ha - snt q S.A, q.co, q.ow + S.A - snt q S.A⟩).map Pl.ow).map D.int)) := by rw [← hM3]; exact mup_same
  have lr3 : M3 pr = some (.lst (rs.map D.obj)) := by rw [← hM3, mup_ne (Ne.symm ap.d), mup_ne (Ne.symm ap.b)]; exact lr
  have ra3 : RA M3 rs (S.qs.set i ⟨q.ha - snt q S.A, q.co, q.ow + S.A - snt q S.A⟩) := by rw [← hM3]; exact (ra1.put ap.p).put ap.o
  have x3 : Ext M0 M3 := by rw [← hM3]; exact (x.put (fr _ (.inl rfl))).put (fr _ (.inr (.inl rfl)))
  clear hM3 lo1 eh eo ra1
  have gh3 : ((S.qs.set i ⟨q.ha - snt q S.A, q.co, q.ow + S.A - snt q S.A⟩).map Pl.ha)[i]? = some (q.ha - snt q S.A) := get_ha hq1
  have go3 : ((S.qs.set i ⟨q.ha - snt q S.A, q.co, q.ow + S.A - snt q S.A⟩).map Pl.ow)[i]? = some (q.ow + S.A - snt q S.A) := get_ow hq1
  repeat' (k_extra "y")
  generalize hE : consE X _ E = E1
  refine Br.dec (fun c => ?_) fun c => ?_
  · have c : i = 0 := by omega
    subst c
    rw [stp_zero hh hq] at k
    simp only [stp0] at k
    have l0 : 0 < (S.qs.set 0 ⟨q.ha - snt q S.A, q.co, q.ow + S.A - snt q S.A⟩).length := by omega
    repeat' (k_extra "y")
    refine q_ixK (items_lst lo3) (n := 0) (ixN_nat rfl (by rw [List.length_map]; exact l0)) go3 ?_
    repeat' (k_extra "y")
    rw [show (if q.ow + S.A - snt q S.A - w > 0 then q.ow + S.A - snt q S.A - w else 0) = los q S.A w from rfl]
    refine q_ixK (items_lst lo3) (n := 0) (ixN_nat rfl (by rw [List.length_map]; exact l0)) go3 ?_
    repeat' (k_extra "y")
    have em : (if q.ow + S.A - snt q S.A < w then q.ow + S.A - snt q S.A else w) = q.ow + S.A - snt q S.A - los q S.A w := by
      unfold los
      split <;> split <;> omega
    rw [em]
    refine q_setM lo3 (n := 0) (ixN_nat rfl (by rw [List.length_map]; exact l0)) ?_
    rw [set_ints, ← List.map_set (f := Pl.ow) (a := ⟨q.ha - snt q S.A, q.co, q.ow + S.A - snt q S.A - los q S.A w⟩), List.set_set]
    have eh : (S.qs.set 0 ⟨q.ha - snt q S.A, q.co, q.ow + S.A - snt q S.A⟩).map Pl.ha = (S.qs.set 0 ⟨q.ha - snt q S.A, q.co, q.ow + S.A - snt q S.A - los q S.A w⟩).map Pl.ha := by rw [List.map_set, List.map_set]
    rw [eh] at lp3
    have ra4 := ra3.same hq1 (q' := ⟨q.ha - snt q S.A, q.co, q.ow + S.A - snt q S.A - los q S.A w⟩) rfl
    rw [List.set_set] at ra4
    repeat' (k_extra "y")
    subst hE
    exact _law_day_rest C T G__law_order ok hh (by rw [List.length_set]; exact sl) ol ((mup_ne ap.a).trans lp3) mup_same ((mup_ne (Ne.symm ap.d)).trans lr3) (ra4.put ap.o) fun c18 => k _ _ c18 _ ⟨(mup_ne ap.a).trans lp3, mup_same, (mup_ne (Ne.symm ap.d)).trans lr3, ra4.put ap.o⟩ (x3.put (fr _ (.inr (.inl rfl))))
  · obtain ⟨j, rfl⟩ : ∃ j, i = j + 1 := ⟨i - 1, by omega⟩
    obtain ⟨q0, hq0⟩ : ∃ q, S.qs[j]? = some q := ⟨_, List.getElem?_eq_getElem (by omega)⟩
    rw [stp_succ hh hq hq0] at k
    simp only [stpS] at k
    obtain ⟨r0, hr0⟩ : ∃ r, rs[j]? = some r := ⟨_, List.getElem?_eq_getElem (by have := ra3.len; omega)⟩
    have hq0' : (S.qs.set (j + 1) ⟨q.ha - snt q S.A, q.co, q.ow + S.A - snt q S.A⟩)[j]? = some q0 := by rw [List.getElem?_set, if_neg (by omega)]; exact hq0
    have er0 := ra3.at_ j r0 q0 hr0 hq0'
    have c1 := cl q0 (List.mem_of_getElem? hq0)
    obtain ⟨xs, y, ec⟩ : ∃ xs y, q0.co = xs ++ [y] := ⟨q0.co.dropLast, q0.co.getLast (by intro e; rw [e] at c1; simp at c1), (List.dropLast_concat_getLast _).symm⟩
    have rl : rs.length = hs.length := by have := ra3.len; omega
    have f0 : M0 r0 = none := fr r0 (.inr (.inr (.inr (List.mem_of_getElem? hr0))))
    repeat' (k_extra "y")
    refine q_ixK (items_lst lr3) (n := j) (ixN_nat (by omega) (by omega)) hr0 ?_
    repeat' (k_extra "y")
    refine q_ixL (items_lst er0) (x := y) (by rw [ec]; simp) ?_
    repeat' (k_extra "y")
    refine q_ixK (items_lst lr3) (n := j) (ixN_nat (by omega) (by omega)) hr0 ?_
    repeat' (k_extra "y")
    refine q_setM er0 (ixN_last (by omega)) ?_
    rw [set_ints]
    have ea : q0.co.set (q0.co.length - 1) (y + snt q S.A) = aL q0.co (snt q S.A) := by
      rw [ec]
      simp [aL]
    rw [ea]
    repeat' (k_extra "y")
    have np : pp ≠ r0 := fun e => ap.p (by rw [e]; exact List.mem_of_getElem? hr0)
    have no : po ≠ r0 := fun e => ap.o (by rw [e]; exact List.mem_of_getElem? hr0)
    have nr : pr ≠ r0 := fun e => ap.r (by rw [e]; exact List.mem_of_getElem? hr0)
    have ra4 := ra3.set (q' := ⟨q0.ha, aL q0.co (snt q S.A), q0.ow⟩) ap.nd hr0
    have eh : (S.qs.set (j + 1) ⟨q.ha - snt q S.A, q.co, q.ow + S.A - snt q S.A⟩).map Pl.ha = ((S.qs.set (j + 1) ⟨q.ha - snt q S.A, q.co, q.ow + S.A - snt q S.A⟩).set j ⟨q0.ha, aL q0.co (snt q S.A), q0.ow⟩).map Pl.ha := by
      rw [List.map_set (l := S.qs.set _ _)]
      exact (set_same (get_ha hq0')).symm
    have eo : (S.qs.set (j + 1) ⟨q.ha - snt q S.A, q.co, q.ow + S.A - snt q S.A⟩).map Pl.ow = ((S.qs.set (j + 1) ⟨q.ha - snt q S.A, q.co, q.ow + S.A - snt q S.A⟩).set j ⟨q0.ha, aL q0.co (snt q S.A), q0.ow⟩).map Pl.ow := by
      rw [List.map_set (l := S.qs.set _ _)]
      exact (set_same (get_ow hq0')).symm
    rw [eh] at lp3
    rw [eo] at lo3
    subst hE
    exact _law_day_rest C T G__law_order ok hh (by rw [List.length_set]; exact sl1) ol ((mup_ne np).trans lp3) ((mup_ne no).trans lo3) ((mup_ne nr).trans lr3) ra4 fun c18 => k _ _ c18 _ ⟨(mup_ne np).trans lp3, (mup_ne no).trans lo3, (mup_ne nr).trans lr3, ra4⟩ (x3.put f0)
def sp__law_day : Sp2 := fun ds M Q _ => ∃ (hs : List Hs) (w : Int) (ps : List Pl) (a X : Int), ds = [chD hs w, .tup (ps.map plD), .int a] ∧ COk hs w ∧ ps.length = hs.length ∧ (∀ q ∈ ps, PlB X q) ∧ 1 ≤ X ∧ 0 ≤ a ∧ a ≤ 9 ∧
  ∀ (M' : Mem) (d : D), Ext M M' → Q (.tup [.tup ((dayQ hs w ps a).map plD), nzD (dayN hs w ps a), d]) M'
theorem ok__law_day {f : Addr} {fd : FuncData} (F : Fun K "_law_day" "_law_day" s__law_day f fd) (T : Txt P w K mg base) (G__law_order : Def2 P w K mg base 1 "_law_order" ["_law_rule_here", "_law_place"] sp__law_order) : Fn2 P w K mg base 2 f fd ["_law_chain_so", "_law_stand_so", "_law_demand"] sp__law_day := by
  refine fn2_of F sc__law_day no__law_day (fun ds M Q E h => ?_) (fun X ds M Q E C h => ?_)
  · repeat (first | (obtain ⟨rfl, _⟩ := h; rfl) | (obtain ⟨_, h⟩ := h))
  · obtain ⟨hs, w, ps, a, X0, rfl, ok, hlen, hb, x1', a0, a1, k⟩ := h
    have n0 := ok.n0
    have n1 := ok.n1
    have s9 : 9 ≤ sizeLine := by decide
    show WSs X _ _ [some (.tup [.tup (hs.map hsD), .int w]), some (.tup (ps.map plD)), some (.int a), none, none, none, none, none, none, none, none, none, none, none, none, none, none, none, none, none] M
    refine wss_cons ?_
    repeat' (k_extra "y")
    refine ws_asgL C (by k_extra "gl") rfl rfl ?_
    refine we_lcG (own := ow__law_day_0) (t := .tp [.nm 6, .nm 7, .nm 8]) C (by decide +kernel) (by decide) (fun X1 B => by have C1 := C.blk (sc2 := nb__law_day_0) B rfl (by decide +kernel); k_extra "tgt") (fun _ => rfl) ?_
    refine wi_tup ?_
    repeat' (k_extra "y")
    refine ⟨((ps.map arP).map Pl.ha).map D.int, ⟨by rw [List.length_map]; omega, by simp, fun _ _ => trivial, fun i d v M' hd hv x => ?_⟩, fun pp M1 hpp ep x1 => ?_⟩
    · obtain ⟨⟨ha, co, ow⟩, rfl, hq⟩ := get_map hd
      have bq := hb _ (List.mem_of_getElem? hq)
      have l1 := bq.l1
      rw [List.map_map] at hv
      have ez := get_map2 hv hq
      subst ez
      cases co with
      | nil => simp at l1
      | cons c cs =>
        refine ⟨[some (chD hs w), some (.tup (ps.map plD)), some (.int a), some (.tup (hs.map hsD)), some (.int w), none, some (.int ha), some (.tup ((c :: cs).map D.int)), some (.int ow), none, none, none, none, none, none, none, none, none, none, none], rfl, fun X' B => ?_⟩
        have C' := C.blk (sc2 := nb__law_day_0) B rfl (by decide +kernel)
        repeat' (k_extra "y")
        exact ⟨Ext.refl _, rfl⟩
    repeat' (k_extra "y")
    refine ws_asgL C (by k_extra "gl") rfl rfl ?_
    refine we_lc (own := ow__law_day_1) (t := .tp [.nm 6, .nm 7, .nm 8]) C (by decide +kernel) (by decide) (fun X1 B => by have C1 := C.blk (sc2 := nb__law_day_1) B rfl (by decide +kernel); k_extra "tgt") (fun _ => rfl) ?_
    refine wi_tup ?_
    repeat' (k_extra "y")
    intro pr hpr
    refine ⟨fun i M' => ∃ rs : List Addr, M' pr = some (.lst (rs.map D.obj)) ∧ rs.length = i ∧ (∀ (j : Nat) (r : Addr) (q : Pl), rs[j]? = some r → (ps.map arP)[j]? = some q → M' r = some (.lst (q.co.map D.int))) ∧ rs.Nodup ∧ pr ∉ rs ∧ (∀ r ∈ rs, M1 r = none) ∧ (∀ r ∈ rs, M' r ≠ none) ∧ Ext M1 M', ⟨[], mup_same, rfl, by simp, by simp, by simp, by simp, by simp, Ext.new hpr⟩, fun _ _ _ => trivial, ?_, ?_⟩
    · rintro i d M' hd ⟨rs, e, hl, ra, nd, np, rf, rn, x⟩
      obtain ⟨⟨ha, co, ow⟩, rfl, hq⟩ := get_map hd
      have bq := hb _ (List.mem_of_getElem? hq)
      have l1 := bq.l1
      have l4 := bq.l4
      have hi : i < ps.length := (List.getElem?_eq_some_iff.mp hq).1
      cases co with
      | nil => simp at l1
      | cons c cs =>
        refine ⟨[some (chD hs w), some (.tup (ps.map plD)), some (.int a), some (.tup (hs.map hsD)), some (.int w), some (.obj pp), some (.int ha), some (.tup ((c :: cs).map D.int)), some (.int ow), none, none, none, none, none, none, none, none, none, none, none], rfl, fun X' B => ?_⟩
        refine Br.t fun X2 B2 => ?_
        have C' := C.blk (sc2 := nb__law_day_1) B2 rfl (by decide +kernel)
        repeat' (k_extra "y")
        rw [cut_tail]
        intro p1 h1
        repeat' (k_extra "y")
        intro p2 h2
        have z9 : (c :: cs).length ≤ 4 := l4
        refine q_addL (mup_old mup_same h2) mup_same (by simp at z9 ⊢; omega) ?_
        intro p3 h3
        have x4 := fun o => ((Ext.new (o := MO.lst (((c :: cs).map D.int).tail)) h1).trans (Ext.new (o := MO.lst [D.int 0]) h2)).trans (Ext.new (o := o) h3)
        have f3 : M' p3 = none := ((Ext.new (o := MO.lst (((c :: cs).map D.int).tail)) h1).trans (Ext.new (o := MO.lst [D.int 0]) h2)).free h3
        refine ⟨_, x4 _ _ _ e, by rw [List.length_map, hl]; omega, rs ++ [p3], by rw [mup_same, List.map_append]; rfl, by simp [hl], ?_, ?_, ?_, ?_, ?_, ?_⟩
        · intro j r q hr hq'
          by_cases cj : j < rs.length
          · rw [List.getElem?_append_left cj] at hr
            have mr := List.mem_of_getElem? hr
            rw [mup_ne (fun z => np (by rw [← z]; exact mr))]
            exact x4 _ _ _ (ra j r q hr hq')
          · have lj := (List.getElem?_eq_some_iff.mp hr).1
            rw [List.length_append, List.length_singleton] at lj
            have ej : j = i := by omega
            subst ej
            rw [List.getElem?_append_right (by omega), hl, Nat.sub_self] at hr
            cases hr
            rw [List.getElem?_map, hq] at hq'
            cases hq'
            rw [mup_ne (mem_ne e f3).symm, mup_same]
            simp [arP]
        · rw [List.nodup_append]
          refine ⟨nd, by simp, fun r hr r' hr' z => ?_⟩
          rw [List.mem_singleton] at hr'
          subst z
          rw [hr'] at hr
          exact rn p3 hr f3
        · intro z
          rcases List.mem_append.mp z with z | z
          · exact np z
          · rw [List.mem_singleton] at z
            rw [z] at e
            rw [e] at f3
            cases f3
        · intro r hr
          rcases List.mem_append.mp hr with z | z
          · exact rf r z
          · rw [List.mem_singleton] at z
            rw [z]
            exact x.free f3
        · intro r hr
          by_cases z : r = pr
          · rw [z, mup_same]; exact Option.some_ne_none _
          rw [mup_ne z]
          rcases List.mem_append.mp hr with z | z
          · cases u : M' r with
            | none => exact absurd u (rn r z)
            | some o => rw [x4 _ _ _ u]; exact Option.some_ne_none _
          · rw [List.mem_singleton] at z
            rw [z, mup_same]; exact Option.some_ne_none _
        · exact (x.trans (x4 _)).put hpr
    · rintro M' ⟨rs, er, hl, ra, nd, np, rf, rn, x⟩
      rw [List.length_map] at hl
      have ep' := x _ _ ep
      repeat' (k_extra "y")
      refine we_lcG (own := ow__law_day_2) (t := .tp [.nm 6, .nm 7, .nm 8]) C (by decide +kernel) (by decide) (fun X1 B => by have C1 := C.blk (sc2 := nb__law_day_2) B rfl (by decide +kernel); k_extra "tgt") (fun _ => rfl) ?_
      refine wi_tup ?_
      repeat' (k_extra "y")
      refine ⟨((ps.map arP).map Pl.ow).map D.int, ⟨by rw [List.length_map]; omega, by simp, fun _ _ => trivial, fun i d v M' hd hv x => ?_⟩, fun po M2 hpo eo x2 => ?_⟩
      · obtain ⟨⟨ha, co, ow⟩, rfl, hq⟩ := get_map hd
        rw [List.map_map] at hv
        have ez := get_map2 hv hq
        subst ez
        refine ⟨[some (chD hs w), some (.tup (ps.map plD)), some (.int a), some (.tup (hs.map hsD)), some (.int w), some (.obj pp), some (.int ha), some (.tup (co.map D.int)), some (.int ow), some (.obj pr), none, none, none, none, none, none, none, none, none, none], rfl, fun X' B => ?_⟩
        have C' := C.blk (sc2 := nb__law_day_2) B rfl (by decide +kernel)
        repeat' (k_extra "y")
        exact ⟨Ext.refl _, rfl⟩
      have ep2 := x2 _ _ ep'
      repeat' (k_extra "y")
      have er2 : M2 pr = some (.lst (rs.map D.obj)) := x2 _ _ er
      have ap : Ap3 pp po pr rs := ⟨mem_ne ep' hpo, mem_ne ep hpr, (mem_ne er hpo).symm, fun z => (by have := rf _ z; rw [ep] at this; cases this), fun z => rn _ z hpo, np, nd⟩
      have xM : Ext M M2 := (x1.trans x).trans x2
      have fr : ∀ b, b = pp ∨ b = po ∨ b = pr ∨ b ∈ rs → M b = none := by
        intro b hb'
        rcases hb' with z | z | z | z
        · rw [z]; exact hpp
        · rw [z]; exact (x1.trans x).free hpo
        · rw [z]; exact x1.free hpr
        · exact x1.free (rf b z)
      have ld0 : LD3 M2 pp po pr rs (sts hs w ps a 0) := ⟨ep2, eo, er2, by simp [sts, hl], fun j r q hr hq => x2 _ _ (ra j r q hr hq)⟩
      clear ep' x er er2 eo ep ep2 x1 x2 hpo hpr ra
      refine ws_for (t := .nm 15) C (by k_extra "tgt") (fun _ => rfl) ?_
      have s0 : (sts hs w ps a 0).qs.length = hs.length := by simp [sts, hlen]
      repeat' (k_extra "y")
      refine ⟨by simp only [List.length_map]; omega, by simp only [List.length_map]; omega, fun i ρ M' => ∃ (S : Sd) (c15 c16 c17 c18 : Option D), ρ = [some (chD hs w), some (.tup (ps.map plD)), some (.int a), some (.tup (hs.map hsD)), some (.int w), some (.obj pp), none, none, none, some (.obj pr), some (.obj po), some (.tup (((ps.map arP).map Pl.ha).map D.int)), some (.int S.A), some (.tup (S.os.map D.int)), some (.tup [.int S.F, .int S.L]), c15, c16, c17, c18, none] ∧ S = sts hs w ps a i ∧ LD3 M' pp po pr rs S ∧ Ext M M', ⟨_, _, _, _, _, rfl, rfl, ld0, xM⟩, fun _ _ _ _ => trivial, ?_, ?_⟩
      · rintro i d ρ M' hd ⟨S, c15, c16, c17, c18, rfl, eS, ld, x⟩
        obtain ⟨hi, rfl⟩ := rng_get hd
        simp only [List.length_map] at hi
        have hi : i < hs.length := by omega
        have bn := sts_b ok hlen hb (by omega) a0 a1 (i := i) (by omega)
        have ol := sts_os ok hlen hb (by omega) a0 a1 (i := i) (by omega)
        rw [← eS] at bn ol
        have eS' : stp hs w S i = sts hs w ps a (i + 1) := by rw [eS]; rfl
        rw [show (0 : Int) + (i : Nat) = (i : Nat) by omega]
        refine ⟨[some (chD hs w), some (.tup (ps.map plD)), some (.int a), some (.tup (hs.map hsD)), some (.int w), some (.obj pp), none, none, none, some (.obj pr), some (.obj po), some (.tup (((ps.map arP).map Pl.ha).map D.int)), some (.int S.A), some (.tup (S.os.map D.int)), some (.tup [.int S.F, .int S.L]), some (.int (i : Nat)), c16, c17, c18, none], rfl, ?_⟩
        exact _law_day_step C T G__law_order (a := a) ok hi bn.len ol (fun q hq => (bn.q q hq).l1) ap ld x fr fun c16 c17 c18 M4 ld4 x4 => ⟨_, _, _, _, _, rfl, eS', ld4, x4⟩
      · rintro ρ M' ⟨S, c15, c16, c17, c18, rfl, eS, ld, x⟩
        rw [List.length_map, List.length_range] at eS
        simp only [List.length_map] at eS
        have eS : S = sts hs w ps a hs.length := eS
        have bn := sts_b ok hlen hb (by omega) a0 a1 (i := hs.length) (by omega)
        rw [← eS] at bn
        have sl := bn.len
        obtain ⟨n, hn⟩ : ∃ n, hs.length = n + 1 := ⟨hs.length - 1, by omega⟩
        obtain ⟨q, hq⟩ : ∃ q, S.qs[n]? = some q := ⟨_, List.getElem?_eq_getElem (by omega)⟩
        have rl : rs.length = n + 1 := by have := ld.ra.len; omega
        obtain ⟨r, hr⟩ : ∃ r, rs[n]? = some r := ⟨_, List.getElem?_eq_getElem (by omega)⟩
        have bq := bn.q q (List.mem_of_getElem? hq)
        have c1 := bq.l1
        have c4 := bq.l4
        have e1 : dayQ hs w ps a = S.qs.set n ⟨q.ha, aL q.co S.A, q.ow⟩ := by
          unfold dayQ
          rw [← eS, show hs.length - 1 = n by omega]
          simp [fin, hq]
        have e2 : dayN hs w ps a = ⟨S.F, S.L, S.os⟩ := by unfold dayN; rw [← eS]
        rw [e1, e2] at k
        obtain ⟨lp, lo, lr, ra⟩ := ld
        have er := ra.at_ n r q hr hq
        have hrl : rs.getLast? = some r := by rw [List.getLast?_eq_getElem?, rl]; exact hr
        obtain ⟨xs, y, ec⟩ : ∃ xs y, q.co = xs ++ [y] := ⟨q.co.dropLast, q.co.getLast (by intro e; rw [e] at c1; simp at c1), (List.dropLast_concat_getLast _).symm⟩
        repeat' (k_extra "y")
        refine q_ixL (items_lst er) (x := y) (by rw [ec]; simp) ?_
        repeat' (k_extra "y")
        refine q_setM er (ixN_last (by omega)) ?_
        rw [set_ints]
        have ea : q.co.set (q.co.length - 1) (y + S.A) = aL q.co S.A := by
          rw [ec]
          simp [aL]
        rw [ea]
        have mr := List.mem_of_getElem? hr
        have lp4 : mup M' r (.lst ((aL q.co S.A).map D.int)) pp = some (.lst ((S.qs.map Pl.ha).map D.int)) := (mup_ne (fun z => ap.p (by rw [z]; exact mr))).trans lp
        have lo4 : mup M' r (.lst ((aL q.co S.A).map D.int)) po = some (.lst ((S.qs.map Pl.ow).map D.int)) := (mup_ne (fun z => ap.o (by rw [z]; exact mr))).trans lo
        have lr4 : mup M' r (.lst ((aL q.co S.A).map D.int)) pr = some (.lst (rs.map D.obj)) := (mup_ne (fun z => ap.r (by rw [z]; exact mr))).trans lr
        have ra4 := ra.set (q' := ⟨q.ha, aL q.co S.A, q.ow⟩) ap.nd hr
        have x4 : Ext M (mup M' r (.lst ((aL q.co S.A).map D.int))) := x.put (fr r (.inr (.inr (.inr mr))))
        generalize mup M' r (.lst ((aL q.co S.A).map D.int)) = M4 at lp4 lo4 lr4 ra4 x4 ⊢
        have sq : (S.qs.set n ⟨q.ha, aL q.co S.A, q.ow⟩).length = hs.length := by rw [List.length_set]; exact sl
        have gq : ∀ (j : Nat) (u : Pl), (S.qs.set n ⟨q.ha, aL q.co S.A, q.ow⟩)[j]? = some u → (S.qs.map Pl.ha)[j]? = some u.ha ∧ (S.qs.map Pl.ow)[j]? = some u.ow := by
          intro j u hu
          rw [List.getElem?_set] at hu
          split at hu
          · rename_i z
            subst z
            split at hu
            · cases hu
              have z1 := get_ha hq
              have z2 := get_ow hq
              exact ⟨z1, z2⟩
            · cases hu
          · exact ⟨get_ha hu, get_ow hu⟩
        generalize S.qs.set n ⟨q.ha, aL q.co S.A, q.ow⟩ = qs' at sq gq ra4 k ⊢
        repeat' (k_extra "y")
        refine we_lcG (own := ow__law_day_3) (t := .nm 15) C (by decide +kernel) (by decide) (fun X1 B => by have C1 := C.blk (sc2 := nb__law_day_3) B rfl (by decide +kernel); k_extra "tgt") (fun _ => rfl) ?_
        repeat' (k_extra "y")
        refine ⟨by simp only [List.length_map]; omega, by simp only [List.length_map]; omega, qs'.map plD, ⟨by simp only [List.length_map, List.length_range]; omega, by simp [sq], fun _ _ => trivial, fun i d v M5 hd hv x5 => ?_⟩, fun Dd M5 hD e5 x5 => ?_⟩
        · obtain ⟨hi, rfl⟩ := rng_get hd
          simp only [List.length_map] at hi
          have hi : i < hs.length := by omega
          obtain ⟨u, hu⟩ : ∃ u, qs'[i]? = some u := ⟨_, List.getElem?_eq_getElem (by omega)⟩
          obtain ⟨ri, hri⟩ : ∃ r, rs[i]? = some r := ⟨_, List.getElem?_eq_getElem (by omega)⟩
          have ez : v = plD u := by rw [List.getElem?_map, hu] at hv; cases hv; rfl
          subst ez
          rw [show (0 : Int) + (i : Nat) = (i : Nat) by omega]
          obtain ⟨g1, g2⟩ := gq i u hu
          have er5 := x5 _ _ (ra4.at_ i ri u hri hu)
          have lp5 := x5 _ _ lp4
          have lo5 := x5 _ _ lo4
          have lr5 := x5 _ _ lr4
          refine ⟨[some (chD hs w), some (.tup (ps.map plD)), some (.int a), some (.tup (hs.map hsD)), some (.int w), some (.obj pp), none, none, none, some (.obj pr), some (.obj po), some (.tup (((ps.map arP).map Pl.ha).map D.int)), some (.int S.A), some (.tup (S.os.map D.int)), some (.tup [.int S.F, .int S.L]), some (.int (i : Nat)), c16, c17, c18, none], rfl, fun X' B => ?_⟩
          have C' := C.blk (sc2 := nb__law_day_3) B rfl (by decide +kernel)
          repeat' (k_extra "y")
          exact ⟨Ext.refl _, rfl⟩
        · repeat' (k_extra "y")
          exact k _ _ (x4.trans x5)
def sumF (ps : List Rc) : Int := ((notes ps).map (·.F)).sum
def sumL (ps : List Rc) : Int := ((notes ps).map (·.L)).sum
theorem put5 {d p l : D} : putFD "later" d ([("past", p), ("later", l)] : List (Str × D)) = ([("past", p), ("later", d)] : List (Str × D)) := put4
theorem notes_len (ps : List Rc) : (notes ps).length ≤ ps.length := List.length_filterMap_le _ _
theorem n_pl2 : ¬ ((Sum.inr ("past" : Str) : Key) = (Sum.inr ("later" : Str) : Key)) := fun z => n_pl (Sum.inr.inj z)
theorem putO1 {d x y : D} : putD ([(.inr "past", x), (.inr "later", y)] : List (Key × D)) (.inr "past") d = ([(.inr "past", d), (.inr "later", y)] : List (Key × D)) := by
  have c := n_pl2
  simp [putD, fun z : (Sum.inr ("later" : Str) : Key) = (Sum.inr ("past" : Str) : Key) => c z.symm]
  exact fun z => absurd z.symm n_pl
theorem putO2 {d x y : D} : putD ([(.inr "past", x), (.inr "later", y)] : List (Key × D)) (.inr "later") d = ([(.inr "past", x), (.inr "later", d)] : List (Key × D)) := by
  have c := n_pl2
  simp [putD, c]
theorem cut_last {ds : List D} {r : D} (h : ds.getLast? = some r) : Y.cutD ds (some (-1)) none = [r] := by
  unfold Y.cutD
  have l : 1 ≤ ds.length := by
    cases ds with
    | nil => cases h
    | cons a b => simp
  have e : HT.sIx ds.length 0 (some (-1)) = ds.length - 1 := by
    show (if (-1 : Int) < 0 then ((-1 : Int) + ((ds.length : Nat) : Int)).toNat else min (-1 : Int).toNat ds.length) = _
    rw [if_pos (by decide)]
    omega
  rw [e, show HT.sIx ds.length ds.length none = ds.length from rfl]
  obtain ⟨i, rfl⟩ := List.getLast?_eq_some_iff.mp h
  simp
/-- the law's own record of a led chain at o; its lists are not the one at g -/
structure OwnR (M : Mem) (o g : Addr) (ps ls : List Rc) : Prop where
  ex : ∃ pa la, M o = some (.dk [(.inr "past", .obj pa), (.inr "later", .obj la)]) ∧ M pa = some (.lst (ps.map rcD)) ∧ M la = some (.lst (ls.map rcD)) ∧ pa ≠ g ∧ la ≠ g ∧ ∃ gs, M g = some (.lst gs)
theorem OwnR.ext {M M' : Mem} {o g : Addr} {ps ls : List Rc} (h : OwnR M o g ps ls) (x : Ext M M') : OwnR M' o g ps ls := by
  obtain ⟨pa, la, a, b, c, d, e, gs, f⟩ := h.ex
  exact ⟨pa, la, x _ _ a, x _ _ b, x _ _ c, d, e, gs, x _ _ f⟩
theorem OwnR.put {M : Mem} {o g a : Addr} {ps ls : List Rc} {u : MO} {C : Addr} {fs : List (Str × D)} (h : OwnR M o g ps ls) (e : M a = some (.ins C fs)) : OwnR (mup M a u) o g ps ls := by
  obtain ⟨pa, la, b, c, d, p, q, gs, f⟩ := h.ex
  have n1 : o ≠ a := fun z => by rw [z, e] at b; cases b
  have n2 : pa ≠ a := fun z => by rw [z, e] at c; cases c
  have n3 : la ≠ a := fun z => by rw [z, e] at d; cases d
  have n4 : g ≠ a := fun z => by rw [z, e] at f; cases f
  exact ⟨pa, la, by rw [mup_ne n1]; exact b, by rw [mup_ne n2]; exact c, by rw [mup_ne n3]; exact d, p, q, gs, by rw [mup_ne n4]; exact f⟩
theorem OwnR.but {M M' : Mem} {o m g c : Addr} {n : Int} {ps ls : List Rc} (h : OwnR M o g ps ls) (d : Drw M m g c n) (x : But m g M M') (eg : ∃ gs, M' g = some (.lst gs)) : OwnR M' o g ps ls := by
  obtain ⟨pa, la, eo, ep, el, p, q, gs, f⟩ := h.ex
  obtain ⟨cs, gs', h1, h2, h3, _⟩ := d
  have n1 : o ≠ m := fun z => by
    rw [z, h1] at eo
    have := congrArg (fun u : Option MO => match u with | some (.dk l) => l.length | _ => 0) eo
    simp at this
  have n2 : o ≠ g := fun z => by rw [z, h3] at eo; cases gs' <;> cases eo
  have n3 : pa ≠ m := fun z => by rw [z, h1] at ep; cases ep
  have n4 : la ≠ m := fun z => by rw [z, h1] at el; cases el
  exact ⟨pa, la, x _ _ n1 n2 eo, x _ _ n3 p ep, x _ _ n4 q el, p, q, eg⟩
/-! ### Led_redo -/
abbrev s_Led_redo : Stmt := clsAt (top 35) 12
theorem sc_Led_redo : FnScope ["self"] ["self"] (defScope s_Led_redo) := ⟨rfl, rfl, rfl, by decide +kernel, rfl, by decide +kernel, by decide +kernel⟩
abbrev nm_Led_redo : Nms := ⟨["self"], ["self"], ["self"], [], [], false⟩
theorem no_Led_redo : nm_Led_redo.ok (defScope s_Led_redo) = true := by decide +kernel
def sp_Led_redo (K : PySem.W.Frag) : Sp2 := fun ds M Q _ => ∃ (a : Addr) (ps ls : List Rc), ds = [.obj a] ∧ M a = some (ledO K ps ls) ∧ ps.length ≤ 1000 ∧ ls.length ≤ 1000 ∧ (ls = [] → Q (.bl false) M) ∧ (∀ (r : Rc) (rs : List Rc), ls = r :: rs → ∀ M', Ext (mup M a (ledO K (ps ++ [r]) rs)) M' → Q (.bl true) M')
theorem ok_Led_redo {f : Addr} {fd : FuncData} (F : Fun K "redo" "Led.redo" s_Led_redo f fd) (T : Txt P w K mg base)  : Fn2 P w K mg base 1 f fd ["self"] (sp_Led_redo K) := by
  refine fn2_of F sc_Led_redo no_Led_redo (fun ds M Q E h => ?_) (fun X ds M Q E C h => ?_)
  · repeat (first | (obtain ⟨rfl, _⟩ := h; rfl) | (obtain ⟨_, h⟩ := h))
  · obtain ⟨a, ps, ls, rfl, e, hl, hl2, kf, kt⟩ := h
    show WSs X _ _ [some (.obj a)] M
    refine wss_cons ?_
    cases ls with
    | nil =>
      repeat' (first | k_extra "y" | k_extra "n" | k_extra "z")
      rw [show (List.map rcD ([] : List Rc)).isEmpty = true from rfl]
      repeat' (first | k_extra "y" | k_extra "n" | k_extra "z")
      exact kf rfl
    | cons r rs =>
      have kt := kt r rs rfl
      clear kf
      have e : M a = some (.ins (cad K "Led") [("past", .tup (ps.map rcD)), ("later", .tup (rcD r :: rs.map rcD))]) := e
      repeat' (first | k_extra "y" | k_extra "n" | k_extra "z")
      rw [show (rcD r :: rs.map rcD).isEmpty = false from rfl]
      repeat' (first | k_extra "y" | k_extra "n" | k_extra "z")
      refine q_ix (ds := rcD r :: rs.map rcD) rfl (show atI _ ((0 : Nat) : Int) = _ from atI_nat rfl) ?_
      repeat' (first | k_extra "y" | k_extra "n" | k_extra "z")
      refine ⟨by rw [List.length_append, List.length_map]; exact Nat.le_trans (show ps.length + 1 ≤ 1001 by omega) (by decide), ?_⟩
      repeat' (first | k_extra "y" | k_extra "n" | k_extra "z")
      rw [put3, show ps.map rcD ++ [rcD r] = (ps ++ [r]).map rcD by rw [List.map_append]; rfl]
      repeat' (first | k_extra "y" | k_extra "n" | k_extra "z")
      rw [put4, mup_mup, cut_tail, List.tail_cons]
      repeat' (first | k_extra "y" | k_extra "n" | k_extra "z")
      exact kt _ (Ext.refl _)
/-! ### _law_gone_back -/
abbrev s__law_gone_back : Stmt := top 48
theorem sc__law_gone_back : FnScope ["_law_own_here"] ["_law_own_here"] (defScope s__law_gone_back) := ⟨rfl, rfl, rfl, by decide +kernel, rfl, by decide +kernel, by decide +kernel⟩
abbrev nm__law_gone_back : Nms := ⟨["_law_own_here"], ["_law_own_here"], ["_law_own_here"], ["len"], [], false⟩
theorem no__law_gone_back : nm__law_gone_back.ok (defScope s__law_gone_back) = true := by decide +kernel
def sp__law_gone_back : Sp2 := fun ds M Q _ => ∃ (o g : Addr) (ps ls : List Rc), ds = [.obj o] ∧ OwnR M o g ps ls ∧ 1 ≤ ps.length ∧ ps.length ≤ 1000 ∧ ls.length ≤ 1000 ∧ (ps.length = 1 → Q (.bl false) M) ∧ (∀ r : Rc, ps.getLast? = some r → ps.length ≠ 1 → ∀ M', (∀ b u, b ≠ o → M b = some u → M' b = some u) → OwnR M' o g ps.dropLast (r :: ls) → Q (.bl true) M')
theorem ok__law_gone_back {f : Addr} {fd : FuncData} (F : Fun K "_law_gone_back" "_law_gone_back" s__law_gone_back f fd) (T : Txt P w K mg base)  : Fn2 P w K mg base 1 f fd ["_law_own_here"] sp__law_gone_back := by
  refine fn2_of F sc__law_gone_back no__law_gone_back (fun ds M Q E h => ?_) (fun X ds M Q E C h => ?_)
  · repeat (first | (obtain ⟨rfl, _⟩ := h; rfl) | (obtain ⟨_, h⟩ := h))
  · obtain ⟨o, g, ps, ls, rfl, ow, h1, hl, hl2, kf, kt⟩ := h
    obtain ⟨pa, la, eo, ep, el, gp, gl, gs, eg⟩ := ow.ex
    have g3 : g ≠ o := fun z => by rw [z, eo] at eg; cases eg
    show WSs X _ _ [some (.obj o)] M
    obtain ⟨r, hr⟩ : ∃ r, ps.getLast? = some r := by
      cases h : ps.getLast? with
      | none => rw [List.getLast?_eq_none_iff.mp h] at h1; simp at h1
      | some z => exact ⟨z, rfl⟩
    refine wss_cons ?_
    repeat' (first | k_extra "y" | k_extra "n" | k_extra "z" | k_extra "dk")
    rw [List.length_map]
    by_cases c : ps.length = 1
    · repeat' (first | k_extra "y" | k_extra "n" | k_extra "z" | k_extra "dk")
      exact kf c
    · have hr' : (ps.map rcD).getLast? = some (rcD r) := by rw [List.getLast?_map, hr]; rfl
      have n1 : pa ≠ o := fun z => by rw [z, eo] at ep; cases ep
      have n2 : la ≠ o := fun z => by rw [z, eo] at el; cases el
      repeat' (first | k_extra "y" | k_extra "n" | k_extra "z" | k_extra "dk")
      · rw [cut_last hr']; simp only [List.length_cons, List.length_nil, List.length_map]; exact Nat.le_trans (show 0 + 1 + ls.length ≤ 1001 by omega) (by decide)
      rename_i p1 hp1 Ma ea xa
      rw [cut_last hr'] at e1
      have xx := xa.trans x1
      clear ea hp1
      have hpo : p ≠ o := fun z => by rw [z] at e1; rw [xx _ _ eo] at e1; cases e1
      have hpg : p ≠ g := fun z => by rw [z, xa _ _ eg] at hp; cases hp
      have eo1 := xx _ _ eo
      have ep1 := xx _ _ ep
      refine q_dpS eo1 (by simp only [List.length_cons, List.length_nil]; decide) ?_
      rw [putO2]
      obtain ⟨pl, hpl⟩ : ∃ x, x = p := ⟨p, rfl⟩
      subst hpl
      have eo2 : mup M1 o (.dk [(.inr "past", .obj pa), (.inr "later", .obj pl)]) o = some (.dk [(.inr "past", .obj pa), (.inr "later", .obj pl)]) := mup_same
      have ep2 : mup M1 o (.dk [(.inr "past", .obj pa), (.inr "later", .obj pl)]) pa = _ := (mup_ne n1).trans ep1
      have el2 : mup M1 o (.dk [(.inr "past", .obj pa), (.inr "later", .obj pl)]) pl = _ := (mup_ne hpo).trans e1
      have kp : ∀ b u, b ≠ o → M b = some u → mup M1 o (.dk [(.inr "past", .obj pa), (.inr "later", .obj pl)]) b = some u := fun b u hb hu => (mup_ne hb).trans (xx _ _ hu)
      clear x1 xa xx e1 eo1 ep1 hp
      generalize mup M1 o (.dk [(.inr "past", .obj pa), (.inr "later", .obj pl)]) = M2 at *
      repeat' (first | k_extra "y" | k_extra "n" | k_extra "z" | k_extra "dk")
      have eo3 := x1 _ _ eo2
      have el3 := x1 _ _ el2
      rw [cut_init, ← List.map_dropLast] at e1
      have hpo2 : p ≠ o := fun z => by rw [z, eo3] at e1; cases e1
      have hpg2 : p ≠ g := fun z => by rw [z, kp _ _ g3 eg] at hp; cases hp
      refine q_dpS eo3 (by simp only [List.length_cons, List.length_nil]; decide) ?_
      rw [putO1]
      repeat' (first | k_extra "y" | k_extra "n" | k_extra "z" | k_extra "dk")
      exact kt r hr c _ (fun b u hb hu => (mup_ne hb).trans (x1 _ _ (kp b u hb hu))) ⟨p, pl, mup_same, (mup_ne hpo2).trans e1, (mup_ne hpo).trans el3, hpg2, hpg, gs, (mup_ne g3).trans (x1 _ _ (kp _ _ g3 eg))⟩
/-! ### _law_gone_on -/
abbrev s__law_gone_on : Stmt := top 49
theorem sc__law_gone_on : FnScope ["_law_own_here"] ["_law_own_here"] (defScope s__law_gone_on) := ⟨rfl, rfl, rfl, by decide +kernel, rfl, by decide +kernel, by decide +kernel⟩
abbrev nm__law_gone_on : Nms := ⟨["_law_own_here"], ["_law_own_here"], ["_law_own_here"], [], [], false⟩
theorem no__law_gone_on : nm__law_gone_on.ok (defScope s__law_gone_on) = true := by decide +kernel
def sp__law_gone_on : Sp2 := fun ds M Q _ => ∃ (o g : Addr) (ps ls : List Rc), ds = [.obj o] ∧ OwnR M o g ps ls ∧ ps.length ≤ 1000 ∧ ls.length ≤ 1000 ∧ (∀ r ∈ ls, DatK 10 (rcD r)) ∧ (ls = [] → ∀ M', Ext M M' → Q (.bl false) M') ∧ (∀ (r : Rc) (rs : List Rc), ls = r :: rs → ∀ M', (∀ b u, b ≠ o → M b = some u → M' b = some u) → OwnR M' o g (ps ++ [r]) rs → Q (.bl true) M')
theorem ok__law_gone_on {f : Addr} {fd : FuncData} (F : Fun K "_law_gone_on" "_law_gone_on" s__law_gone_on f fd) (T : Txt P w K mg base)  : Fn2 P w K mg base 1 f fd ["_law_own_here"] sp__law_gone_on := by
  refine fn2_of F sc__law_gone_on no__law_gone_on (fun ds M Q E h => ?_) (fun X ds M Q E C h => ?_)
  · repeat (first | (obtain ⟨rfl, _⟩ := h; rfl) | (obtain ⟨_, h⟩ := h))
  · obtain ⟨o, g, ps, ls, rfl, ow, hl, hl2, dk, kf, kt⟩ := h
    obtain ⟨pa, la, eo, ep, el, gp, gl, gs, eg⟩ := ow.ex
    have g3 : g ≠ o := fun z => by rw [z, eo] at eg; cases eg
    show WSs X _ _ [some (.obj o)] M
    have n1 : pa ≠ o := fun z => by rw [z, eo] at ep; cases ep
    have n2 : la ≠ o := fun z => by rw [z, eo] at el; cases el
    refine wss_cons ?_
    repeat' (first | k_extra "y" | k_extra "n" | k_extra "z" | k_extra "dk")
    refine q_eqNilC (x1 _ _ el) e1 (fun e he => by obtain ⟨r, hr, rfl⟩ := List.mem_map.mp he; exact datk_cmp (dk r hr) (by decide)) ?_
    cases ls with
    | nil =>
      rw [show (List.map rcD ([] : List Rc)).isEmpty = true from rfl]
      repeat' (first | k_extra "y" | k_extra "n" | k_extra "z" | k_extra "dk")
      exact kf rfl _ x1
    | cons r rs =>
      have kt := kt r rs rfl
      have el : M la = some (.lst (rcD r :: rs.map rcD)) := el
      rw [show (List.map rcD (r :: rs)).isEmpty = false from rfl]
      have eo1 := x1 _ _ eo
      have ep1 := x1 _ _ ep
      have el1 := x1 _ _ el
      have kp1 : ∀ b u, b ≠ o → M b = some u → M1 b = some u := fun b u hb hu => x1 _ _ hu
      clear e1 x1 hp eo ep el
      generalize M1 = M0 at *
      repeat' (first | k_extra "y" | k_extra "n" | k_extra "z" | k_extra "dk")
      · rw [show Y.cutD (rcD r :: rs.map rcD) none (some 1) = [rcD r] from cut_take (n := 1) (by simp)]; simp only [List.length_cons, List.length_nil, List.length_map]; exact Nat.le_trans (show ps.length + (0 + 1) ≤ 1001 by omega) (by decide)
      rename_i p1 hp1 Ma ea xa
      rw [show Y.cutD (rcD r :: rs.map rcD) none (some 1) = [rcD r] from cut_take (n := 1) (by simp), show ps.map rcD ++ [rcD r] = (ps ++ [r]).map rcD by rw [List.map_append]; rfl] at e1
      have xx := xa.trans x1
      clear ea hp1
      have hpo : p ≠ o := fun z => by rw [z] at e1; rw [xx _ _ eo1] at e1; cases e1
      have hpg : p ≠ g := fun z => by rw [z, xa _ _ (kp1 _ _ g3 eg)] at hp; cases hp
      have eo2 := xx _ _ eo1
      have el2 := xx _ _ el1
      refine q_dpS eo2 (by simp only [List.length_cons, List.length_nil]; decide) ?_
      rw [putO1]
      obtain ⟨pq, hpq⟩ : ∃ x, x = p := ⟨p, rfl⟩
      subst hpq
      have eo3 : mup M1 o (.dk [(.inr "past", .obj pq), (.inr "later", .obj la)]) o = some (.dk [(.inr "past", .obj pq), (.inr "later", .obj la)]) := mup_same
      have ep3 : mup M1 o (.dk [(.inr "past", .obj pq), (.inr "later", .obj la)]) pq = _ := (mup_ne hpo).trans e1
      have el3 : mup M1 o (.dk [(.inr "past", .obj pq), (.inr "later", .obj la)]) la = _ := (mup_ne n2).trans el2
      have kp3 : ∀ b u, b ≠ o → M b = some u → mup M1 o (.dk [(.inr "past", .obj pq), (.inr "later", .obj la)]) b = some u := fun b u hb hu => (mup_ne hb).trans (xx _ _ (kp1 b u hb hu))
      clear x1 xa xx e1 eo2 el2 hp eo1 ep1 el1 kp1
      generalize mup M1 o (.dk [(.inr "past", .obj pq), (.inr "later", .obj la)]) = M2 at *
      repeat' (first | k_extra "y" | k_extra "n" | k_extra "z" | k_extra "dk")
      have eo4 := x1 _ _ eo3
      have ep4 := x1 _ _ ep3
      rw [cut_tail, List.tail_cons] at e1
      have hpo2 : p ≠ o := fun z => by rw [z, eo4] at e1; cases e1
      have hpg2 : p ≠ g := fun z => by rw [z, kp3 _ _ g3 eg] at hp; cases hp
      refine q_dpS eo4 (by simp only [List.length_cons, List.length_nil]; decide) ?_
      rw [putO2]
      repeat' (first | k_extra "y" | k_extra "n" | k_extra "z" | k_extra "dk")
      exact kt _ (fun b u hb hu => (mup_ne hb).trans (x1 _ _ (kp3 b u hb hu))) ⟨pq, p, mup_same, (mup_ne hpo).trans ep4, (mup_ne hpo2).trans e1, hpg, hpg2, gs, (mup_ne g3).trans (x1 _ _ (kp3 _ _ g3 eg))⟩
/-! ### _law_kept -/
abbrev s__law_kept : Stmt := top 50
theorem sc__law_kept : FnScope ["_law_own_here", "_law_deed_so", "_law_chain_so", "_law_stand_so", "_law_note"] ["_law_own_here", "_law_deed_so", "_law_chain_so", "_law_stand_so", "_law_note"] (defScope s__law_kept) := ⟨rfl, rfl, rfl, by decide +kernel, rfl, by decide +kernel, by decide +kernel⟩
abbrev nm__law_kept : Nms := ⟨["_law_own_here", "_law_deed_so", "_law_chain_so", "_law_stand_so", "_law_note"], ["_law_own_here", "_law_deed_so", "_law_chain_so", "_law_stand_so", "_law_note"], ["_law_own_here", "_law_deed_so", "_law_chain_so", "_law_stand_so", "_law_note"], [], [], false⟩
theorem no__law_kept : nm__law_kept.ok (defScope s__law_kept) = true := by decide +kernel
def sp__law_kept : Sp2 := fun ds M Q _ => ∃ (o g : Addr) (ps ls : List Rc) (r : Rc), ds = [.obj o, r.de, chD r.hs r.w, .tup (r.qs.map plD), noD r.no] ∧ OwnR M o g ps ls ∧ ps.length ≤ 1000 ∧ ∀ M', (∀ b u, b ≠ o → M b = some u → M' b = some u) → OwnR M' o g (ps ++ [r]) [] → Q .non M'
theorem ok__law_kept {f : Addr} {fd : FuncData} (F : Fun K "_law_kept" "_law_kept" s__law_kept f fd) (T : Txt P w K mg base)  : Fn2 P w K mg base 1 f fd ["_law_own_here", "_law_deed_so", "_law_chain_so", "_law_stand_so", "_law_note"] sp__law_kept := by
  refine fn2_of F sc__law_kept no__law_kept (fun ds M Q E h => ?_) (fun X ds M Q E C h => ?_)
  · repeat (first | (obtain ⟨rfl, _⟩ := h; rfl) | (obtain ⟨_, h⟩ := h))
  · obtain ⟨o, g, ps, ls, r, rfl, ow, hl, k⟩ := h
    obtain ⟨pa, la, eo, ep, el, gp, gl, gs, eg⟩ := ow.ex
    have g3 : g ≠ o := fun z => by rw [z, eo] at eg; cases eg
    show WSs X _ _ [some (.obj o), some r.de, some (chD r.hs r.w), some (.tup (r.qs.map plD)), some (noD r.no)] M
    have n1 : pa ≠ o := fun z => by rw [z, eo] at ep; cases ep
    refine wss_cons ?_
    repeat' (first | k_extra "y" | k_extra "n" | k_extra "z" | k_extra "dk")
    · simp only [List.length_cons, List.length_nil, List.length_map]; exact Nat.le_trans (show ps.length + (0 + 1) ≤ 1001 by omega) (by decide)
    rename_i p1 hp1 Ma ea xa
    have e1 : M1 p = some (.lst ((ps ++ [r]).map rcD)) := by rw [e1, List.map_append]; rfl
    have xx := xa.trans x1
    have hpo : p ≠ o := fun z => by rw [z] at e1; rw [xx _ _ eo] at e1; cases e1
    have hpg : p ≠ g := fun z => by rw [z, xa _ _ eg] at hp; cases hp
    have eo1 := xx _ _ eo
    refine q_dpS eo1 (by simp only [List.length_cons, List.length_nil]; decide) ?_
    rw [putO1]
    obtain ⟨pq, hpq⟩ : ∃ x, x = p := ⟨p, rfl⟩
    subst hpq
    have eo2 : mup M1 o (.dk [(.inr "past", .obj pq), (.inr "later", .obj la)]) o = some (.dk [(.inr "past", .obj pq), (.inr "later", .obj la)]) := mup_same
    have ep2 : mup M1 o (.dk [(.inr "past", .obj pq), (.inr "later", .obj la)]) pq = some (.lst ((ps ++ [r]).map rcD)) := (mup_ne hpo).trans e1
    have kp : ∀ b u, b ≠ o → M b = some u → mup M1 o (.dk [(.inr "past", .obj pq), (.inr "later", .obj la)]) b = some u := fun b u hb hu => (mup_ne hb).trans (xx _ _ hu)
    clear x1 xa xx eo1 hp ea hp1
    generalize mup M1 o (.dk [(.inr "past", .obj pq), (.inr "later", .obj la)]) = M2 at *
    repeat' (first | k_extra "y" | k_extra "n" | k_extra "z" | k_extra "dk")
    have eo3 := x1 _ _ eo2
    have ep3 := x1 _ _ ep2
    have hpo2 : p ≠ o := fun z => by rw [z, eo3] at e1; cases e1
    have hpg2 : p ≠ g := fun z => by rw [z, kp _ _ g3 eg] at hp; cases hp
    refine q_dpS eo3 (by simp only [List.length_cons, List.length_nil]; decide) ?_
    rw [putO2]
    exact k _ (fun b u hb hu => (mup_ne hb).trans (x1 _ _ (kp b u hb hu))) ⟨pq, p, mup_same, (mup_ne hpo).trans ep3, (mup_ne hpo2).trans e1, hpg, hpg2, gs, (mup_ne g3).trans (x1 _ _ (kp _ _ g3 eg))⟩
/-! ### Led_sent -/
abbrev s_Led_sent : Stmt := clsAt (top 35) 5
theorem sc_Led_sent : FnScope ["self", "note"] ["self"] (defScope s_Led_sent) := ⟨rfl, rfl, rfl, by decide +kernel, rfl, by decide +kernel, by decide +kernel⟩
abbrev nm_Led_sent : Nms := ⟨["self"], ["self"], ["self"], ["sum"], [], false⟩
theorem no_Led_sent : nm_Led_sent.ok (defScope s_Led_sent) = true := by decide +kernel
abbrev nb_Led_sent_0 : Nms := ⟨["note"], ["note"], ["note"], [], [], false⟩
abbrev ow_Led_sent_0 : List (Str × Nat) := [("note", 1)]
def sp_Led_sent (K : PySem.W.Frag) : Sp2 := fun ds M Q _ => ∃ (a : Addr) (ps ls : List Rc), ds = [.obj a] ∧ M a = some (ledO K ps ls) ∧ ps.length ≤ 1000 ∧ ∀ M', Ext M M' → Q (.int (sumF ps)) M'
theorem ok_Led_sent {f : Addr} {fd : FuncData} (F : Fun K "sent" "Led.sent" s_Led_sent f fd) (T : Txt P w K mg base) (G_Led_notes : Met2 P w K mg base 1 "Led" "notes" ["self"] (sp_Led_notes K)) : Fn2 P w K mg base 3 f fd ["self"] (sp_Led_sent K) := by
  refine fn2_of F sc_Led_sent no_Led_sent (fun ds M Q E h => ?_) (fun X ds M Q E C h => ?_)
  · repeat (first | (obtain ⟨rfl, _⟩ := h; rfl) | (obtain ⟨_, h⟩ := h))
  · obtain ⟨a, ps, ls, rfl, e, hl, k⟩ := h
    have nl := notes_len ps
    show WSs X _ _ [some (.obj a), none] M
    refine wss_one ?_
    repeat' (first | k_extra "y" | k_extra "n" | k_extra "z")
    refine we_lcG (own := ow_Led_sent_0) (t := .nm 1) C (by decide +kernel) (by decide) (fun X1 B => by have C1 := C.blk (sc2 := nb_Led_sent_0) B rfl (by decide +kernel); k_extra "tgt") (fun _ => rfl) ?_
    refine wi_tup ?_
    repeat' (first | k_extra "y" | k_extra "n" | k_extra "z")
    refine ⟨a, ps, ls, rfl, e, hl, fun M1 x1 => ?_⟩
    refine ⟨_, rfl, ((notes ps).map (·.F)).map D.int, ⟨by rw [List.length_map]; exact Nat.le_trans (Nat.le_trans nl hl) (by decide), by simp, fun _ _ => trivial, fun i d z M' hd hz x => ?_⟩, fun Dd M' hD e' x => ?_⟩
    · obtain ⟨n, rfl, hn⟩ := get_map hd
      have ez := get_map2 hz hn
      subst ez
      refine ⟨[some (.obj a), some (nzD n)], rfl, fun X' B => ?_⟩
      have C' := C.blk (sc2 := nb_Led_sent_0) B rfl (by decide +kernel)
      unfold nzD
      repeat' (first | k_extra "y" | k_extra "n" | k_extra "z")
      exact ⟨Ext.refl _, rfl⟩
    · repeat' (first | k_extra "y" | k_extra "n" | k_extra "z")
      exact k _ (x1.trans x)
/-! ### Led_lost -/
abbrev s_Led_lost : Stmt := clsAt (top 35) 6
theorem sc_Led_lost : FnScope ["self", "note"] ["self"] (defScope s_Led_lost) := ⟨rfl, rfl, rfl, by decide +kernel, rfl, by decide +kernel, by decide +kernel⟩
abbrev nm_Led_lost : Nms := ⟨["self"], ["self"], ["self"], ["sum"], [], false⟩
theorem no_Led_lost : nm_Led_lost.ok (defScope s_Led_lost) = true := by decide +kernel
abbrev nb_Led_lost_0 : Nms := ⟨["note"], ["note"], ["note"], [], [], false⟩
abbrev ow_Led_lost_0 : List (Str × Nat) := [("note", 1)]
def sp_Led_lost (K : PySem.W.Frag) : Sp2 := fun ds M Q _ => ∃ (a : Addr) (ps ls : List Rc), ds = [.obj a] ∧ M a = some (ledO K ps ls) ∧ ps.length ≤ 1000 ∧ ∀ M', Ext M M' → Q (.int (sumL ps)) M'
theorem ok_Led_lost {f : Addr} {fd : FuncData} (F : Fun K "lost" "Led.lost" s_Led_lost f fd) (T : Txt P w K mg base) (G_Led_notes : Met2 P w K mg base 1 "Led" "notes" ["self"] (sp_Led_notes K)) : Fn2 P w K mg base 3 f fd ["self"] (sp_Led_lost K) := by
  refine fn2_of F sc_Led_lost no_Led_lost (fun ds M Q E h => ?_) (fun X ds M Q E C h => ?_)
  · repeat (first | (obtain ⟨rfl, _⟩ := h; rfl) | (obtain ⟨_, h⟩ := h))
  · obtain ⟨a, ps, ls, rfl, e, hl, k⟩ := h
    have nl := notes_len ps
    show WSs X _ _ [some (.obj a), none] M
    refine wss_one ?_
    repeat' (first | k_extra "y" | k_extra "n" | k_extra "z")
    refine we_lcG (own := ow_Led_lost_0) (t := .nm 1) C (by decide +kernel) (by decide) (fun X1 B => by have C1 := C.blk (sc2 := nb_Led_lost_0) B rfl (by decide +kernel); k_extra "tgt") (fun _ => rfl) ?_
    refine wi_tup ?_
    repeat' (first | k_extra "y" | k_extra "n" | k_extra "z")
    refine ⟨a, ps, ls, rfl, e, hl, fun M1 x1 => ?_⟩
    refine ⟨_, rfl, ((notes ps).map (·.L)).map D.int, ⟨by rw [List.length_map]; exact Nat.le_trans (Nat.le_trans nl hl) (by decide), by simp, fun _ _ => trivial, fun i d z M' hd hz x => ?_⟩, fun Dd M' hD e' x => ?_⟩
    · obtain ⟨n, rfl, hn⟩ := get_map hd
      have ez := get_map2 hz hn
      subst ez
      refine ⟨[some (.obj a), some (nzD n)], rfl, fun X' B => ?_⟩
      have C' := C.blk (sc2 := nb_Led_lost_0) B rfl (by decide +kernel)
      unfold nzD
      repeat' (first | k_extra "y" | k_extra "n" | k_extra "z")
      exact ⟨Ext.refl _, rfl⟩
    · repeat' (first | k_extra "y" | k_extra "n" | k_extra "z")
      exact k _ (x1.trans x)
/-! ### Led_undo -/
abbrev s_Led_undo : Stmt := clsAt (top 35) 11
theorem sc_Led_undo : FnScope ["self"] ["self"] (defScope s_Led_undo) := ⟨rfl, rfl, rfl, by decide +kernel, rfl, by decide +kernel, by decide +kernel⟩
abbrev nm_Led_undo : Nms := ⟨["self"], ["self"], ["self"], ["len"], [], false⟩
theorem no_Led_undo : nm_Led_undo.ok (defScope s_Led_undo) = true := by decide +kernel
def sp_Led_undo (K : PySem.W.Frag) : Sp2 := fun ds M Q _ => ∃ (a : Addr) (ps ls : List Rc), ds = [.obj a] ∧ M a = some (ledO K ps ls) ∧ 1 ≤ ps.length ∧ ps.length ≤ 1000 ∧ ls.length ≤ 1000 ∧ (ps.length = 1 → Q (.bl false) M) ∧ (∀ r : Rc, ps.getLast? = some r → ps.length ≠ 1 → ∀ M', Ext (mup M a (ledO K ps.dropLast (r :: ls))) M' → Q (.bl true) M')
theorem ok_Led_undo {f : Addr} {fd : FuncData} (F : Fun K "undo" "Led.undo" s_Led_undo f fd) (T : Txt P w K mg base) (G_Led___len__ : Met2 P w K mg base 1 "Led" "__len__" ["self"] (sp_Led___len__ K)) : Fn2 P w K mg base 3 f fd ["self"] (sp_Led_undo K) := by
  refine fn2_of F sc_Led_undo no_Led_undo (fun ds M Q E h => ?_) (fun X ds M Q E C h => ?_)
  · repeat (first | (obtain ⟨rfl, _⟩ := h; rfl) | (obtain ⟨_, h⟩ := h))
  · obtain ⟨a, ps, ls, rfl, e, h1, hl, hl2, kf, kt⟩ := h
    show WSs X _ _ [some (.obj a)] M
    obtain ⟨r, hr⟩ : ∃ r, ps.getLast? = some r := by
      cases h : ps.getLast? with
      | none => rw [List.getLast?_eq_none_iff.mp h] at h1; simp at h1
      | some z => exact ⟨z, rfl⟩
    refine wss_cons ?_
    repeat' (first | k_extra "y" | k_extra "n" | k_extra "z")
    refine ⟨by omega, by omega, ?_⟩
    by_cases c : ps.length = 1
    · repeat' (first | k_extra "y" | k_extra "n" | k_extra "z")
      exact kf c
    · repeat' (first | k_extra "y" | k_extra "n" | k_extra "z")
      rw [List.append_nil]
      refine ⟨by simp only [List.length_cons, List.length_map]; exact Nat.le_trans (show ls.length + 1 ≤ 1001 by omega) (by decide), ?_⟩
      repeat' (first | k_extra "y" | k_extra "n" | k_extra "z")
      rw [put4, show rcD r :: ls.map rcD = (r :: ls).map rcD from rfl]
      repeat' (first | k_extra "y" | k_extra "n" | k_extra "z")
      rw [put3, mup_mup, cut_init, ← List.map_dropLast]
      repeat' (first | k_extra "y" | k_extra "n" | k_extra "z")
      exact kt r hr c _ (Ext.refl _)
/-! ### _law_own -/
abbrev s__law_own : Stmt := top 51
theorem sc__law_own : FnScope ["_law_chain_so"] ["_law_chain_so"] (defScope s__law_own) := ⟨rfl, rfl, rfl, by decide +kernel, rfl, by decide +kernel, by decide +kernel⟩
abbrev nm__law_own : Nms := ⟨["_law_chain_so"], ["_law_chain_so"], ["_law_chain_so"], ["_law_first"], [], false⟩
theorem no__law_own : nm__law_own.ok (defScope s__law_own) = true := by decide +kernel
def sp__law_own : Sp2 := fun ds M Q _ => ∃ (g : Addr) (gs : List D) (hs : List Hs) (w : Int), ds = [chD hs w] ∧ M g = some (.lst gs) ∧ COk hs w ∧ ∀ o M', M o = none → Ext M M' → OwnR M' o g [⟨.non, hs, w, hs.map bgP, none⟩] [] → Q (.obj o) M'
theorem ok__law_own {f : Addr} {fd : FuncData} (F : Fun K "_law_own" "_law_own" s__law_own f fd) (T : Txt P w K mg base) (G__law_first : Def2 P w K mg base 2 "_law_first" ["_law_chain_so"] sp__law_first) : Fn2 P w K mg base 3 f fd ["_law_chain_so"] sp__law_own := by
  refine fn2_of F sc__law_own no__law_own (fun ds M Q E h => ?_) (fun X ds M Q E C h => ?_)
  · repeat (first | (obtain ⟨rfl, _⟩ := h; rfl) | (obtain ⟨_, h⟩ := h))
  · obtain ⟨g, gs, hs, w, rfl, eg, ok, k⟩ := h
    show WSs X _ _ [some (chD hs w)] M
    refine wss_one ?_
    k_extra "y"
    with_reducible apply we_disp2
    · decide +kernel
    intro o ho
    repeat' (first | k_extra "y" | k_extra "n" | k_extra "z")
    refine ⟨hs, w, rfl, ok, fun M1 x1 => ?_⟩
    have eo := x1 _ _ mup_same
    have xo : Ext M M1 := (Ext.new ho).trans x1
    clear x1
    repeat' (first | k_extra "y" | k_extra "n" | k_extra "z")
    rename_i pp hpp Ma ep xp
    have eo1 : M1 o = some (.dk []) := x1 _ _ (xp _ _ eo)
    have ep1 := x1 _ _ ep
    refine ⟨eo1, ?_⟩
    have n1 : pp ≠ o := fun z => by rw [z, eo1] at ep1; cases ep1
    have n2 : p ≠ o := fun z => by rw [z, eo1] at e1; cases e1
    have g1 : pp ≠ g := fun z => by rw [z, xo _ _ eg] at hpp; cases hpp
    have g2 : p ≠ g := fun z => by rw [z, xp _ _ (xo _ _ eg)] at hp; cases hp
    have g3 : g ≠ o := fun z => by rw [z] at eg; rw [ho] at eg; cases eg
    exact k o _ ho (((xo.trans xp).trans x1).put ho) ⟨pp, p, mup_same, (mup_ne n1).trans ep1, (mup_ne n2).trans e1, g1, g2, gs, (mup_ne g3).trans (x1 _ _ (xp _ _ (xo _ _ eg)))⟩
structure RB (X : Int) (r : Rc) : Prop where
  ok : COk r.hs r.w
  ql : r.qs.length = r.hs.length
  b : ∀ q ∈ r.qs, PlB X q
  nz : ∀ n, r.no = some n → NzB X n
  dk : DatK 8 r.de
theorem NzB.le {X Y : Int} {n : Nz} (b : NzB X n) (h : X ≤ Y) : NzB Y n := ⟨b.f0, Int.le_trans b.f1 h, b.l0, Int.le_trans b.l1 h, fun x hx => ⟨(b.o x hx).1, Int.le_trans (b.o x hx).2 h⟩, b.ol⟩
theorem RB.le {X Y : Int} {r : Rc} (b : RB X r) (h : X ≤ Y) : RB Y r := ⟨b.ok, b.ql, fun q hq => (b.b q hq).le h, fun n hn => (b.nz n hn).le h, b.dk⟩
theorem datk_nz {n : Nz} : DatK 2 (nzD n) := datk_tup (datk_cons (datk_int.le (by decide)) (datk_cons (datk_int.le (by decide)) (datk_cons (datk_tup (datk_ints _)) datk_nil)))
theorem datk_rc {X : Int} {r : Rc} (b : RB X r) : DatK 10 (rcD r) := (datk_tup (k := 9) (datk_cons (b.dk.le (by decide)) (datk_cons (datk_ch.le (by decide)) (datk_cons (datk_st.le (by decide)) (datk_cons (show DatK 9 (noD r.no) from by cases r.no with | none => exact datk_non.le (by decide) | some n => exact datk_nz.le (by decide)) datk_nil)))))
theorem cok_set {hs : List Hs} {w : Int} {j : Nat} {h : Hs} (ok : COk hs w) (oh : HOk h) : COk (hs.set j h) w := ⟨by rw [List.length_set]; exact ok.n0, by rw [List.length_set]; exact ok.n1, fun x hx => (List.mem_or_eq_of_mem_set hx).elim (ok.h x) (fun e => e ▸ oh), ok.w0, ok.w1⟩
theorem rb_snoc {X : Int} {ps : List Rc} {r : Rc} (h : ∀ x ∈ ps, RB X x) (b : RB X r) : ∀ x ∈ ps ++ [r], RB X x := fun x hx => (List.mem_append.mp hx).elim (h x) fun e => by rw [List.mem_singleton.mp e]; exact b
theorem rb_notes {X : Int} {ps : List Rc} (h : ∀ r ∈ ps, RB X r) : ∀ n ∈ notes ps, NzB X n := fun n hn => by
  obtain ⟨r, hr, e⟩ := List.mem_filterMap.mp hn
  exact (h r hr).nz n e
theorem pys_sum {M : Mem} {X : Int} {cs : List Int} (x0 : 0 ≤ X) (xb : Bd 1000 X) (h : ∀ c ∈ cs, 0 ≤ c ∧ c ≤ X) (l : cs.length ≤ 30) : PyS M 1921 0 (.int cs.sum) (.int cs.sum) := by
  obtain ⟨s0, s1⟩ := sum_b h
  have s2 : cs.sum ≤ 30 * X := Int.le_trans s1 (Int.mul_le_mul_of_nonneg_right (by omega) x0)
  have b : Bd (5 + 1000) (30 * X) := Bd.mul (a := 5) (by decide) xb
  refine pys_int (Nat.lt_of_le_of_lt (Bd.log (k := 1005) ?_) (by decide))
  exact bd_nn b s0 s2
def stP (ps : List Rc) (r : Rc) : PyData := .list [pyCh r.hs r.w, .tuple (r.qs.map pyPl), .int ((ps.length - 1 : Nat) : Int), .tuple ((notes ps).map pyNz), .int (sumF ps), .int (sumL ps)]
theorem pys_stands {M : Mem} {X : Int} {ps : List Rc} {r : Rc} {p : Addr} (e : M p = some (.lst [chD r.hs r.w, .tup (r.qs.map plD), .int ((ps.length - 1 : Nat) : Int), .tup ((notes ps).map nzD), .int (sumF ps), .int (sumL ps)])) (hr : ps.getLast? = some r) (h : ∀ x ∈ ps, RB X x) (l : ps.length ≤ 30) (x0 : 0 ≤ X) (xb : Bd 1000 X) : PyS M 3119433 5 (.obj p) (stP ps r) := by
  have rb := h r (List.mem_of_getLast? hr)
  have n1 := rb.ok.n1
  have nl := notes_len ps
  have hn := rb_notes h
  have p4 : PyS M 519903 3 (.tup ((notes ps).map nzD)) (.tuple ((notes ps).map pyNz)) := pys_tup (m := 30) (L := 17328) (K := 2) (pys_map fun n hn' => pys_nz (hn n hn') xb) (by rw [List.length_map]; omega)
  have p5 : PyS M 1921 0 (.int (sumF ps)) (.int (sumF ps)) := pys_sum x0 xb (fun c hc => by obtain ⟨n, h1, rfl⟩ := List.mem_map.mp hc; exact ⟨(hn n h1).f0, (hn n h1).f1⟩) (by rw [List.length_map]; omega)
  have p6 : PyS M 1921 0 (.int (sumL ps)) (.int (sumL ps)) := pys_sum x0 xb (fun c hc => by obtain ⟨n, h1, rfl⟩ := List.mem_map.mp hc; exact ⟨(hn n h1).l0, (hn n h1).l1⟩) (by rw [List.length_map]; omega)
  exact pys_lst (m := 6) (L := 519903) (K := 4) e (pys_cons (pys_ch rb.ok) (by decide) (by decide) (pys_cons (pys_stand rb.b xb (by rw [rb.ql]; exact n1)) (by decide) (by decide) (pys_cons (pys_i (by omega) (by omega)) (by decide) (by decide) (pys_cons p4 (by decide) (by decide) (pys_cons p5 (by decide) (by decide) (pys_cons p6 (by decide) (by decide) pys_nil)))))) (Nat.le_refl _)
theorem last_of {ps : List Rc} (h : 1 ≤ ps.length) : ∃ r, ps.getLast? = some r := by
  cases e : ps.getLast? with
  | none => rw [List.getLast?_eq_none_iff.mp e] at h; simp at h
  | some z => exact ⟨z, rfl⟩
/-- the state of a turn: numbers, the led chain at a, the record at o -/
structure S90 (K : PySem.W.Frag) (M : Mem) (m g c a o : Addr) (n : Int) (ps ls : List Rc) : Prop where
  d : Drw M m g c n
  ea : M a = some (ledO K ps ls)
  ow : OwnR M o g ps ls
theorem drw_g {M : Mem} {m g c : Addr} {n : Int} (d : Drw M m g c n) : ∃ gs, M g = some (.lst gs) := by
  obtain ⟨cs, gs, h1, h2, h3, _⟩ := d
  exact ⟨_, h3⟩
theorem drw_m {M : Mem} {m g c : Addr} {n : Int} (d : Drw M m g c n) : ∃ kv, M m = some (.dk kv) := by
  obtain ⟨cs, gs, h1, h2, h3, _⟩ := d
  exact ⟨_, h1⟩
theorem S90.ext {K : PySem.W.Frag} {M M' : Mem} {m g c a o : Addr} {n : Int} {ps ls : List Rc} (h : S90 K M m g c a o n ps ls) (x : Ext M M') : S90 K M' m g c a o n ps ls := ⟨h.d.ext x, x _ _ h.ea, h.ow.ext x⟩
theorem S90.but {K : PySem.W.Frag} {M M' : Mem} {m g c a o : Addr} {n n' : Int} {ps ls : List Rc} (h : S90 K M m g c a o n ps ls) (d : Drw M' m g c n') (b : But m g M M') : S90 K M' m g c a o n' ps ls := by
  obtain ⟨kv, e1⟩ := drw_m h.d
  obtain ⟨gs, e2⟩ := drw_g h.d
  have n1 : a ≠ m := fun z => by have := h.ea; rw [z, e1] at this; cases this
  have n2 : a ≠ g := fun z => by have := h.ea; rw [z, e2] at this; cases this
  exact ⟨d, b _ _ n1 n2 h.ea, h.ow.but h.d b (drw_g d)⟩
/-- the led chain is changed -/
theorem S90.seta {K : PySem.W.Frag} {M M' : Mem} {m g c a o : Addr} {n : Int} {ps ls ps' ls' qs ms : List Rc} (d : Drw M m g c n) (ea : M a = some (ledO K ps ls)) (ow : OwnR M o g qs ms) (x : Ext (mup M a (ledO K ps' ls')) M') : Drw M' m g c n ∧ M' a = some (ledO K ps' ls') ∧ OwnR M' o g qs ms := by
  obtain ⟨cs, gs, h1, h2, h3, h4⟩ := id d
  have n1 : a ≠ m := fun z => by rw [z, h1] at ea; cases ea
  have n2 : a ≠ g := fun z => by rw [z, h3] at ea; cases gs <;> cases ea
  have n3 : a ≠ c := fun z => by rw [z, h2] at ea; cases ea
  exact ⟨(d.put n1 n2 n3).ext x, x _ _ mup_same, (ow.put ea).ext x⟩
/-- the record is changed -/
theorem S90.seto {M M' : Mem} {m g c a o : Addr} {n : Int} {C : Addr} {fs : List (Str × D)} {qs ms : List Rc} (d : Drw M m g c n) (ea : M a = some (.ins C fs)) (ow : OwnR M o g qs ms) (x : ∀ b u, b ≠ o → M b = some u → M' b = some u) : Drw M' m g c n ∧ M' a = some (.ins C fs) := by
  obtain ⟨pa, la, eo, ep, el, p, q, gs0, f⟩ := ow.ex
  obtain ⟨cs, gs, h1, h2, h3, h4⟩ := id d
  have n1 : m ≠ o := fun z => by
    rw [← z, h1] at eo
    have := congrArg (fun u : Option MO => match u with | some (.dk l) => l.length | _ => 0) eo
    simp at this
  have n2 : g ≠ o := fun z => by rw [z, eo] at f; cases f
  have n3 : c ≠ o := fun z => by rw [← z, h2] at eo; cases eo
  have n4 : a ≠ o := fun z => by rw [← z, ea] at eo; cases eo
  exact ⟨⟨cs, gs, x _ _ n1 h1, x _ _ n3 h2, x _ _ n2 h3, h4⟩, x _ _ n4 ea⟩
/-! ### _law_stands -/
abbrev s__law_stands : Stmt := top 52
theorem sc__law_stands : FnScope ["_law_led", "_law_own_here", "_law_here", "_law_notes", "_law_one", "_law_due"] ["_law_led", "_law_own_here"] (defScope s__law_stands) := ⟨rfl, rfl, rfl, by decide +kernel, rfl, by decide +kernel, by decide +kernel⟩
abbrev nm__law_stands : Nms := ⟨["_law_led", "_law_own_here", "_law_here", "_law_notes", "_law_due"], ["_law_led", "_law_own_here", "_law_here", "_law_notes", "_law_due"], ["_law_led", "_law_own_here", "_law_here", "_law_notes", "_law_due"], ["tuple", "len", "sum", "_law_like"], [], false⟩
theorem no__law_stands : nm__law_stands.ok (defScope s__law_stands) = true := by decide +kernel
abbrev nb__law_stands_0 : Nms := ⟨["_law_one"], ["_law_one"], ["_law_one"], [], [], false⟩
abbrev ow__law_stands_0 : List (Str × Nat) := [("_law_one", 4)]
abbrev nb__law_stands_1 : Nms := ⟨["_law_one"], ["_law_one"], ["_law_one"], [], [], false⟩
abbrev ow__law_stands_1 : List (Str × Nat) := [("_law_one", 4)]
abbrev nb__law_stands_2 : Nms := ⟨["_law_one"], ["_law_one"], ["_law_one"], [], [], false⟩
abbrev ow__law_stands_2 : List (Str × Nat) := [("_law_one", 4)]
def sp__law_stands (K : PySem.W.Frag) : Sp2 := fun ds M Q _ => ∃ (a o g : Addr) (ps ls : List Rc) (r : Rc) (Z : Int), ds = [.obj a, .obj o] ∧ M a = some (ledO K ps ls) ∧ OwnR M o g ps ls ∧ ps.getLast? = some r ∧ (∀ x ∈ ps, RB Z x) ∧ ps.length ≤ 30 ∧ 0 ≤ Z ∧ Bd 1000 Z ∧ ∀ M', Ext M M' → Q (.bl true) M'
theorem ok__law_stands {f : Addr} {fd : FuncData} (F : Fun K "_law_stands" "_law_stands" s__law_stands f fd) (T : Txt P w K mg base) (G__law_like : Def2 P w K mg base 1 "_law_like" ["_law_answer", "_law_due"] sp__law_like) (G_Led_chain : Prp2 P w K mg base 1 "Led" "chain" ["self"] (sp_Led_chain K)) (G_Led_stand : Prp2 P w K mg base 1 "Led" "stand" ["self"] (sp_Led_stand K)) (G_Led___len__ : Met2 P w K mg base 1 "Led" "__len__" ["self"] (sp_Led___len__ K)) (G_Led_notes : Met2 P w K mg base 1 "Led" "notes" ["self"] (sp_Led_notes K)) (G_Led_sent : Met2 P w K mg base 3 "Led" "sent" ["self"] (sp_Led_sent K)) (G_Led_lost : Met2 P w K mg base 3 "Led" "lost" ["self"] (sp_Led_lost K)) : Fn2 P w K mg base 5 f fd ["_law_led", "_law_own_here"] (sp__law_stands K) := by
  refine fn2_of F sc__law_stands no__law_stands (fun ds M Q E h => ?_) (fun X ds M Q E C h => ?_)
  · repeat (first | (obtain ⟨rfl, _⟩ := h; rfl) | (obtain ⟨_, h⟩ := h))
  · obtain ⟨a, o, g, ps, ls, r, Z, rfl, ea, ow, hr, rb, hl, z0, zb, k⟩ := h
    have nl := notes_len ps
    obtain ⟨pa, la, eo, ep, el, gp, gl, gs, eg⟩ := ow.ex
    show WSs X _ _ [some (.obj a), some (.obj o), none, none, none, none] M
    refine wss_cons ?_
    repeat' (first | k_extra "y" | k_extra "n" | k_extra "z" | k_extra "dk")
    refine we_lcH (α := Rc) (own := ow__law_stands_0) (t := .nm 4) C (by decide +kernel) (by decide) (fun X1 B => by have C1 := C.blk (sc2 := nb__law_stands_0) B rfl (by decide +kernel); k_extra "tgt") (fun _ => rfl) ?_
    refine wi_list ?_
    repeat' (first | k_extra "y" | k_extra "n" | k_extra "z" | k_extra "dk")
    refine ⟨pa, _, rfl, lst_lst ep, ps, rcD, fun r => r.no.isSome, fun r => noD r.no, ⟨rfl, by rw [List.length_map]; exact Nat.le_trans hl (by decide), fun M5 x5 => lst_lst (x5 _ _ ep), fun i u M' hu x => ?_⟩, fun Dd M1 hD e' x1 => ?_⟩
    · refine ⟨[some (.obj a), some (.obj o), some (rcD r), none, some (rcD u), none], rfl, fun X' B => ?_⟩
      have C' := C.blk (sc2 := nb__law_stands_0) B rfl (by decide +kernel)
      obtain ⟨de, hs, w, qs, no⟩ := u
      cases no with
      | none =>
        repeat' (first | k_extra "y" | k_extra "n" | k_extra "z")
        exact ⟨Ext.refl _, rfl, fun z => by cases z⟩
      | some n =>
        repeat' (first | k_extra "y" | k_extra "n" | k_extra "z")
        refine ⟨Ext.refl _, rfl, fun _ X2 B2 => ?_⟩
        have C2 := C.blk (sc2 := nb__law_stands_0) B2 rfl (by decide +kernel)
        repeat' (first | k_extra "y" | k_extra "n" | k_extra "z")
        exact ⟨Ext.refl _, rfl⟩
    rw [notes_eq] at e'
    have ea1 := x1 _ _ ea
    have eo1 := x1 _ _ eo
    have ep1 := x1 _ _ ep
    have xx := x1
    clear x1 hD
    repeat' (first | k_extra "y" | k_extra "n" | k_extra "z" | k_extra "dk")
    have nsz : (notes ps).length ≤ sizeLine := Nat.le_trans (Nat.le_trans nl hl) (by decide)
    refine we_lcG (own := ow__law_stands_1) (t := .nm 4) C (by decide +kernel) (by decide) (fun X1 B => by have C1 := C.blk (sc2 := nb__law_stands_1) B rfl (by decide +kernel); k_extra "tgt") (fun _ => rfl) ?_
    refine wi_tup ?_
    repeat' (first | k_extra "y" | k_extra "n" | k_extra "z" | k_extra "dk")
    refine ⟨((notes ps).map (·.F)).map D.int, ⟨by rw [List.length_map]; exact nsz, by simp, fun _ _ => trivial, fun i d z M' hd hz x => ?_⟩, fun De M2 hE e2 x2 => ?_⟩
    · obtain ⟨n, rfl, hn⟩ := get_map hd
      have ez := get_map2 hz hn
      subst ez
      refine ⟨[some (.obj a), some (.obj o), some (rcD r), some (.tup ((notes ps).map nzD)), some (nzD n), none], rfl, fun X' B => ?_⟩
      have C' := C.blk (sc2 := nb__law_stands_1) B rfl (by decide +kernel)
      unfold nzD
      repeat' (first | k_extra "y" | k_extra "n" | k_extra "z")
      exact ⟨Ext.refl _, rfl⟩
    have ea2 := x2 _ _ ea1
    have xx2 := xx.trans x2
    clear x2 hE xx e' ea1 eo1 ep1
    repeat' (first | k_extra "y" | k_extra "n" | k_extra "z" | k_extra "dk")
    have pl1 : 1 ≤ ps.length := by
      cases ps with
      | nil => cases hr
      | cons a b => simp
    have fp := xx2.free hp
    rw [List.length_map, show (ps.length : Int) - 1 = ((ps.length - 1 : Nat) : Int) by omega] at e1
    have ea3 := x1 _ _ ea2
    have xx3 := xx2.trans x1
    have hpa : p ≠ a := fun z => by rw [z, ea2] at hp; cases hp
    clear x1 hp xx2 ea2
    refine we_lcG (own := ow__law_stands_2) (t := .nm 4) C (by decide +kernel) (by decide) (fun X1 B => by have C1 := C.blk (sc2 := nb__law_stands_2) B rfl (by decide +kernel); k_extra "tgt") (fun _ => rfl) ?_
    refine wi_tup ?_
    repeat' (first | k_extra "y" | k_extra "n" | k_extra "z" | k_extra "dk")
    refine ⟨((notes ps).map (·.L)).map D.int, ⟨by rw [List.length_map]; exact nsz, by simp, fun _ _ => trivial, fun i d z M' hd hz x => ?_⟩, fun De M3 hE e3 x3 => ?_⟩
    · obtain ⟨n, rfl, hn⟩ := get_map hd
      have ez := get_map2 hz hn
      subst ez
      refine ⟨[some (.obj a), some (.obj o), some (rcD r), some (.tup ((notes ps).map nzD)), some (nzD n), some (.obj p)], rfl, fun X' B => ?_⟩
      have C' := C.blk (sc2 := nb__law_stands_2) B rfl (by decide +kernel)
      unfold nzD
      repeat' (first | k_extra "y" | k_extra "n" | k_extra "z")
      exact ⟨Ext.refl _, rfl⟩
    have e4 := x3 _ _ e1
    have ea4 := x3 _ _ ea3
    have xx4 := xx3.trans x3
    clear x3 hE xx3 ea3 e1
    repeat' (first | k_extra "y" | k_extra "n" | k_extra "z" | k_extra "dk")
    refine ⟨_, e4, by simp only [List.length_cons, List.length_nil]; decide, ?_⟩
    have e5 : mup M3 p (.lst ([chD r.hs r.w, .tup (r.qs.map plD), .int ((ps.length - 1 : Nat) : Int), .tup ((notes ps).map nzD), .int ((notes ps).map (·.F)).sum] ++ [D.int ((notes ps).map (·.L)).sum])) p = some (.lst [chD r.hs r.w, .tup (r.qs.map plD), .int ((ps.length - 1 : Nat) : Int), .tup ((notes ps).map nzD), .int (sumF ps), .int (sumL ps)]) := mup_same
    have ea5 : mup M3 p (.lst ([chD r.hs r.w, .tup (r.qs.map plD), .int ((ps.length - 1 : Nat) : Int), .tup ((notes ps).map nzD), .int ((notes ps).map (·.F)).sum] ++ [D.int ((notes ps).map (·.L)).sum])) a = some (ledO K ps ls) := (mup_ne (Ne.symm hpa)).trans ea4
    have xx5 : Ext M (mup M3 p (.lst ([chD r.hs r.w, .tup (r.qs.map plD), .int ((ps.length - 1 : Nat) : Int), .tup ((notes ps).map nzD), .int ((notes ps).map (·.F)).sum] ++ [D.int ((notes ps).map (·.L)).sum]))) := xx4.put fp
    show WSs X _ _ _ (mup M3 p (.lst ([chD r.hs r.w, .tup (r.qs.map plD), .int ((ps.length - 1 : Nat) : Int), .tup ((notes ps).map nzD), .int ((notes ps).map (·.F)).sum] ++ [D.int ((notes ps).map (·.L)).sum])))
    generalize mup M3 p (.lst ([chD r.hs r.w, .tup (r.qs.map plD), .int ((ps.length - 1 : Nat) : Int), .tup ((notes ps).map nzD), .int ((notes ps).map (·.F)).sum] ++ [D.int ((notes ps).map (·.L)).sum])) = M5 at e5 ea5 xx5 ⊢
    obtain ⟨pd, hpd⟩ : ∃ x, x = p := ⟨p, rfl⟩
    subst hpd
    clear e4 ea4 xx4 fp e3
    refine wss_one ?_
    repeat' (first | k_extra "y" | k_extra "n" | k_extra "z" | k_extra "dk")
    refine ⟨by omega, by omega, ?_⟩
    repeat' (first | k_extra "y" | k_extra "n" | k_extra "z" | k_extra "dk")
    refine ⟨a, ps, ls, rfl, ea5, by omega, fun M6 x6 => ?_⟩
    have ea6 := x6 _ _ ea5
    repeat' (first | k_extra "y" | k_extra "n" | k_extra "z" | k_extra "dk")
    refine ⟨a, ps, ls, rfl, ea6, by omega, fun M7 x7 => ?_⟩
    have ea7 := x7 _ _ ea6
    repeat' (first | k_extra "y" | k_extra "n" | k_extra "z" | k_extra "dk")
    refine ⟨a, ps, ls, rfl, ea7, by omega, fun M8 x8 => ?_⟩
    have e8 := x8 _ _ (x7 _ _ (x6 _ _ e5))
    have xx8 := ((xx5.trans x6).trans x7).trans x8
    clear x6 x7 x8 ea5 ea6 ea7 e5 xx5
    repeat' (first | k_extra "y" | k_extra "n" | k_extra "z" | k_extra "dk")
    have e9 := x1 _ _ e8
    refine ⟨_, _, _, _, _, _, _, rfl, pys_stands e1 hr rb hl z0 zb, pys_stands e9 hr rb hl z0 zb, by decide, by decide, by decide, by decide, ?_⟩
    exact k _ (xx8.trans x1)
/-! ### _law_turn -/
abbrev s__law_turn : Stmt := top 53
theorem sc__law_turn : FnScope ["_law_m", "_law_led", "_law_own_here", "_law_way", "_law_here", "_law_houses", "_law_wait", "_law_k", "_law_rule_here", "_law_fresh", "_law_demand", "_law_stand", "_law_note", "_law_came"] ["_law_m", "_law_led", "_law_own_here"] (defScope s__law_turn) := ⟨rfl, rfl, rfl, by decide +kernel, rfl, by decide +kernel, by decide +kernel⟩
abbrev nm__law_turn : Nms := ⟨["_law_m", "_law_led", "_law_own_here", "_law_way", "_law_here", "_law_houses", "_law_wait", "_law_k", "_law_rule_here", "_law_fresh", "_law_demand", "_law_stand", "_law_note", "_law_came"], ["_law_m", "_law_led", "_law_own_here", "_law_way", "_law_here", "_law_houses", "_law_wait", "_law_k", "_law_rule_here", "_law_fresh", "_law_demand", "_law_stand", "_law_note", "_law_came"], ["_law_m", "_law_led", "_law_own_here", "_law_way", "_law_here", "_law_houses", "_law_wait", "_law_k", "_law_rule_here", "_law_fresh", "_law_demand", "_law_stand", "_law_note", "_law_came"], ["_law_draw", "_law_like", "_law_gone_back", "_law_gone_on", "len", "_law_rule", "_law_kept", "_law_day"], [], false⟩
theorem no__law_turn : nm__law_turn.ok (defScope s__law_turn) = true := by decide +kernel
def sp__law_turn (K : PySem.W.Frag) : Sp2 := fun ds M Q _ => ∃ (m g c a o : Addr) (n Z : Int) (ps ls : List Rc), ds = [.obj m, .obj a, .obj o] ∧ S90 K M m g c a o n ps ls ∧ n < 800000 ∧ 1 ≤ ps.length ∧ ps.length ≤ 29 ∧ ls.length ≤ 29 ∧ (∀ r ∈ ps, RB Z r) ∧ (∀ r ∈ ls, RB Z r) ∧ 1 ≤ Z ∧ Bd 900 Z ∧
  ∀ (k' : Int) (M' : Mem) (ps' ls' : List Rc), S90 K M' m g c a o k' ps' ls' → k' ≤ n + 6 → 1 ≤ ps'.length → ps'.length ≤ ps.length + 1 → ls'.length ≤ ls.length + 1 → (ps'.length + ls'.length ≤ ps.length + ls.length + 1) → (∀ r ∈ ps', RB (10000 * Z) r) → (∀ r ∈ ls', RB (10000 * Z) r) → Q (.bl true) M'
theorem ok__law_turn {f : Addr} {fd : FuncData} (F : Fun K "_law_turn" "_law_turn" s__law_turn f fd) (T : Txt P w K mg base) (G__law_draw : Def2 P w K mg base 2 "_law_draw" ["_law_m", "_law_limit"] sp__law_draw) (G__law_like : Def2 P w K mg base 1 "_law_like" ["_law_answer", "_law_due"] sp__law_like) (G__law_rule : Def2 P w K mg base 3 "_law_rule" ["_law_m", "_law_low", "_law_wide"] sp__law_rule) (G__law_day : Def2 P w K mg base 2 "_law_day" ["_law_chain_so", "_law_stand_so", "_law_demand"] sp__law_day) (G__law_gone_back : Def2 P w K mg base 1 "_law_gone_back" ["_law_own_here"] sp__law_gone_back) (G__law_gone_on : Def2 P w K mg base 1 "_law_gone_on" ["_law_own_here"] sp__law_gone_on) (G__law_kept : Def2 P w K mg base 1 "_law_kept" ["_law_own_here", "_law_deed_so", "_law_chain_so", "_law_stand_so", "_law_note"] sp__law_kept) (G_Led_sell : Met2 P w K mg base 5 "Led" "sell" ["self", "demand"] (sp_Led_sell K)) (G_Led_exchange : Met2 P w K mg base 5 "Led" "exchange" ["self", "number", "rule"] (sp_Led_exchange K)) (G_Led_undo : Met2 P w K mg base 3 "Led" "undo" ["self"] (sp_Led_undo K)) (G_Led_redo : Met2 P w K mg base 1 "Led" "redo" ["self"] (sp_Led_redo K)) : Fn2 P w K mg base 7 f fd ["_law_m", "_law_led", "_law_own_here"] (sp__law_turn K) := by
  refine fn2_of F sc__law_turn no__law_turn (fun ds M Q E h => ?_) (fun X ds M Q E C h => ?_)
  · repeat (first | (obtain ⟨rfl, _⟩ := h; rfl) | (obtain ⟨_, h⟩ := h))
  · obtain ⟨m, g, c, a, o, n, Z, ps, ls, rfl, st, hn, p1, p29, l29, rp, rl, z1, zb, k⟩ := h
    have zz : Z ≤ 10000 * Z := by omega
    have rp' : ∀ r ∈ ps, RB (10000 * Z) r := fun r hr => (rp r hr).le zz
    have rl' : ∀ r ∈ ls, RB (10000 * Z) r := fun r hr => (rl r hr).le zz
    show WSs X _ _ [some (.obj m), some (.obj a), some (.obj o), none, none, none, none, none, none, none, none, none, none, none] M
    obtain ⟨r, hr⟩ : ∃ r, ps.getLast? = some r := by
      cases h : ps.getLast? with
      | none => rw [List.getLast?_eq_none_iff.mp h] at p1; simp at p1
      | some z => exact ⟨z, rfl⟩
    have rb := rp r (List.mem_of_getLast? hr)
    have n0 := rb.ok.n0
    have n1 := rb.ok.n1
    refine wss_cons ?_
    repeat' (first | k_extra "y" | k_extra "n" | k_extra "z" | k_extra "dk")
    refine ⟨m, g, c, n, 10, rfl, st.d, by omega, by omega, by omega, fun u M1 u0 u1 dr1 b1 => ?_⟩
    have st1 := st.but dr1 b1
    clear st dr1 b1
    have ea1 := st1.ea
    have ow1 := st1.ow
    have dr1 := st1.d
    obtain ⟨pa, la, eo, ep, el, gp, gl, gs, eg⟩ := ow1.ex
    repeat' (first | k_extra "y" | k_extra "n" | k_extra "z" | k_extra "dk")
    by_cases c1 : u < 2
    · repeat' (first | k_extra "y" | k_extra "n" | k_extra "z")
      refine ⟨a, ps, ls, rfl, ea1, p1, by omega, by omega, fun h1 => ?_, fun r' hr' h1 M2 x2 => ?_⟩
      · repeat' (first | k_extra "y" | k_extra "n" | k_extra "z")
        refine ⟨o, g, ps, ls, rfl, ow1, p1, by omega, by omega, fun _ => ?_, fun _ _ z => absurd h1 z⟩
        repeat' (first | k_extra "y" | k_extra "n" | k_extra "z")
        refine ⟨_, _, _, _, _, _, _, rfl, pys_bl, pys_bl, by decide, by decide, by decide, by decide, ?_⟩
        exact k (n + 1) _ ps ls st1 (by omega) p1 (by omega) (by omega) (by omega) rp' rl'
      · obtain ⟨d2, ea2, ow2⟩ := S90.seta dr1 ea1 ow1 x2
        rw [hr] at hr'
        cases hr'
        repeat' (first | k_extra "y" | k_extra "n" | k_extra "z")
        refine ⟨o, g, ps, ls, rfl, ow2, p1, by omega, by omega, fun z => absurd z h1, fun r' hr' _ M3 x3 ow3 => ?_⟩
        rw [hr] at hr'
        cases hr'
        obtain ⟨d3, ea3⟩ := S90.seto d2 ea2 ow2 x3
        repeat' (first | k_extra "y" | k_extra "n" | k_extra "z")
        refine ⟨_, _, _, _, _, _, _, rfl, pys_bl, pys_bl, by decide, by decide, by decide, by decide, ?_⟩
        refine k (n + 1) _ ps.dropLast (r :: ls) ⟨d3, ea3, ow3⟩ (by omega) (by rw [List.length_dropLast]; omega) (by rw [List.length_dropLast]; omega) (by rw [List.length_cons]; omega) (by rw [List.length_dropLast, List.length_cons]; omega) (fun x hx => rp' x (List.dropLast_subset _ hx)) (fun x hx => ?_)
        rcases List.mem_cons.mp hx with rfl | hx
        · exact rb.le zz
        · exact rl' x hx
    · repeat' (first | k_extra "y" | k_extra "n" | k_extra "z")
      by_cases c2 : u = 2
      · repeat' (first | k_extra "y" | k_extra "n" | k_extra "z")
        refine ⟨a, ps, ls, rfl, ea1, by omega, by omega, fun h1 => ?_, fun r' rs h1 M2 x2 => ?_⟩
        · repeat' (first | k_extra "y" | k_extra "n" | k_extra "z")
          refine ⟨o, g, ps, ls, rfl, ow1, by omega, by omega, fun x hx => datk_rc (rl x hx), fun _ M2 x2 => ?_, fun r' rs z => by rw [h1] at z; cases z⟩
          repeat' (first | k_extra "y" | k_extra "n" | k_extra "z")
          refine ⟨_, _, _, _, _, _, _, rfl, pys_bl, pys_bl, by decide, by decide, by decide, by decide, ?_⟩
          exact k (n + 1) _ ps ls (st1.ext x2) (by omega) p1 (by omega) (by omega) (by omega) rp' rl'
        · obtain ⟨d2, ea2, ow2⟩ := S90.seta dr1 ea1 ow1 x2
          repeat' (first | k_extra "y" | k_extra "n" | k_extra "z")
          refine ⟨o, g, ps, ls, rfl, ow2, by omega, by omega, fun x hx => datk_rc (rl x hx), fun z => (by rw [z] at h1; cases h1), fun r2 rs2 z M3 x3 ow3 => ?_⟩
          rw [h1] at z
          cases z
          obtain ⟨d3, ea3⟩ := S90.seto d2 ea2 ow2 x3
          repeat' (first | k_extra "y" | k_extra "n" | k_extra "z")
          refine ⟨_, _, _, _, _, _, _, rfl, pys_bl, pys_bl, by decide, by decide, by decide, by decide, ?_⟩
          have ll : ls.length = rs.length + 1 := by rw [h1]; rfl
          exact k (n + 1) _ (ps ++ [r']) rs ⟨d3, ea3, ow3⟩ (by omega) (by simp) (by simp) (by omega) (by simp; omega) (rb_snoc rp' (rl' r' (by rw [h1]; simp))) (fun x hx => rl' x (by rw [h1]; simp [hx]))
      · repeat' (first | k_extra "y" | k_extra "n" | k_extra "z")
        unfold chD
        repeat' (first | k_extra "y" | k_extra "n" | k_extra "z")
        by_cases c3 : u < 5
        · repeat' (first | k_extra "y" | k_extra "n" | k_extra "z")
          refine ⟨m, g, c, n + 1, _, rfl, dr1, by rw [List.length_map]; omega, by rw [List.length_map]; omega, by omega, fun v M2 v0 v1 dr2 b2 => ?_⟩
          rw [List.length_map] at v1
          obtain ⟨j, rfl⟩ : ∃ j : Nat, v = j := ⟨v.toNat, by omega⟩
          have hj : j < r.hs.length := by omega
          obtain ⟨h, hh⟩ : ∃ h, r.hs[j]? = some h := ⟨_, List.getElem?_eq_getElem hj⟩
          have okh := rb.ok.h h (List.mem_of_getElem? hh)
          have st2 := st1.but dr2 b2
          clear st1 b2 ea1 ow1 dr1 eo ep el eg
          repeat' (first | k_extra "y" | k_extra "n" | k_extra "z")
          refine ⟨m, g, c, _, 4, 3, rfl, dr2, by omega, by omega, by omega, by omega, by omega, fun fl lo mo M3 ru dr3 b3 => ?_⟩
          have st3 := st2.but dr3 b3
          have ea3 := st3.ea
          have ow3 := st3.ow
          have okn : HOk ⟨fl, lo, mo, h.la⟩ := ru h.la okh.d0 okh.d1
          clear st2 b3 dr2
          have er3 : ruD3 fl lo mo = ruD ⟨fl, lo, mo, h.la⟩ := rfl
          have q1 : Y.cutD (r.hs.map hsD) none (some (j : Int)) = (r.hs.take j).map hsD := by rw [List.map_take]; exact cut_take (by rw [List.length_map]; omega)
          have q2 : Y.cutD (r.hs.map hsD) (some ((j : Int) + 1)) none = (r.hs.drop (j + 1)).map hsD := by rw [List.map_drop]; exact cut_dropG (n := j + 1)
          have ec : (r.hs.take j).map hsD ++ [D.tup [ruD3 fl lo mo, .int h.la]] ++ (r.hs.drop (j + 1)).map hsD = (r.hs.set j ⟨fl, lo, mo, h.la⟩).map hsD := by
            rw [List.set_eq_take_append_cons_drop, if_pos hj, List.map_append, List.map_cons, List.append_assoc]
            rfl
          repeat' (first | k_extra "y" | k_extra "n" | k_extra "z")
          · rw [q1]; simp only [List.length_map, List.length_take, List.length_cons, List.length_nil]; exact Nat.le_trans (show _ ≤ 10 by omega) (by decide)
          · rw [q1, q2]; simp only [List.length_append, List.length_map, List.length_take, List.length_drop, List.length_cons, List.length_nil]; exact Nat.le_trans (show _ ≤ 10 by omega) (by decide)
          rw [q1, q2, ec]
          have rbn : RB (10000 * Z) ⟨.tup [.str "exchange", .int (j : Nat), ruD ⟨fl, lo, mo, h.la⟩], r.hs.set j ⟨fl, lo, mo, h.la⟩, r.w, r.qs, none⟩ := ⟨cok_set rb.ok okn, by rw [List.length_set]; exact rb.ql, fun q hq => (rb.b q hq).le zz, (fun _ z => by cases z), datk_tup (k := 7) (datk_cons ((datk_str (x := "exchange") (by decide +kernel)).le (by decide)) (datk_cons (datk_int.le (by decide)) (datk_cons (datk_rule.le (by decide)) datk_nil)))⟩
          refine ⟨o, g, ps, ls, ⟨.tup [.str "exchange", .int (j : Nat), ruD ⟨fl, lo, mo, h.la⟩], r.hs.set j ⟨fl, lo, mo, h.la⟩, r.w, r.qs, none⟩, rfl, ow3, by omega, fun M4 x4 ow4 => ?_⟩
          obtain ⟨d4, ea4⟩ := S90.seto st3.d ea3 ow3 x4
          repeat' (first | k_extra "y" | k_extra "n" | k_extra "z")
          refine ⟨a, ps, ls, r, j, h, ⟨fl, lo, mo, h.la⟩, rfl, ea4, hr, by omega, hh, n1, okn, rfl, fun M5 x5 => ?_⟩
          obtain ⟨d5, ea5, ow5⟩ := S90.seta d4 ea4 ow4 x5
          repeat' (first | k_extra "y" | k_extra "n" | k_extra "z")
          exact k _ _ _ _ ⟨d5, ea5, ow5⟩ (by omega) (by simp) (by simp) (by simp) (by simp) (rb_snoc rp' rbn) (by simp)
        · have fin : ∀ (d k3 : Int) (M3 : Mem), S90 K M3 m g c a o k3 ps ls → k3 ≤ n + 3 → 0 ≤ d → d ≤ 9 → WSs X ((defBody s__law_turn).drop 6) { nx := fun x M' => Q D.non M', rt := Q } [some (.obj m), some (.obj a), some (.obj o), some (.int u), some (rcD r), some (.tup (r.hs.map hsD)), some (.int r.w), none, none, none, some (.int d), none, none, none] M3 := fun d k3 M3 st3 hk3 d0 d9 => by
            refine wss_cons ?_
            repeat' (first | k_extra "y" | k_extra "n" | k_extra "z")
            refine ⟨r.hs, r.w, r.qs, d, Z, rfl, rb.ok, rb.ql, rb.b, z1, d0, d9, fun M4 dd x4 => ?_⟩
            have st4 := st3.ext x4
            have db := day_b rb.ok rb.ql rb.b z1 d0 d9
            have nb := dayN_b rb.ok rb.ql rb.b z1 d0 d9
            have ea4 := st4.ea
            have ow4 := st4.ow
            have zb2 : Bd 1000 (10000 * Z) := (Bd.mul (a := 14) (by decide) zb).le (by decide)
            clear st3 x4
            repeat' (first | k_extra "y" | k_extra "n" | k_extra "z")
            have rbn : RB (10000 * Z) ⟨.tup [.str "sell", .int d], r.hs, r.w, dayQ r.hs r.w r.qs d, some (dayN r.hs r.w r.qs d)⟩ := ⟨rb.ok, db.1, db.2, fun _ z => by cases z; exact nb, datk_tup (k := 7) (datk_cons ((datk_str (x := "sell") (by decide +kernel)).le (by decide)) (datk_cons (datk_int.le (by decide)) datk_nil))⟩
            refine ⟨o, g, ps, ls, ⟨.tup [.str "sell", .int d], r.hs, r.w, dayQ r.hs r.w r.qs d, some (dayN r.hs r.w r.qs d)⟩, rfl, ow4, by omega, fun M5 x5 ow5 => ?_⟩
            obtain ⟨d5, ea5⟩ := S90.seto st4.d ea4 ow4 x5
            repeat' (first | k_extra "y" | k_extra "n" | k_extra "z")
            refine ⟨a, ps, ls, r, d, Z, rfl, ea5, hr, by omega, rb.ok, rb.ql, rb.b, z1, zb, d0, d9, fun M6 x6 => ?_⟩
            obtain ⟨d6, ea6, ow6⟩ := S90.seta d5 ea5 ow5 x6
            repeat' (first | k_extra "y" | k_extra "n" | k_extra "z")
            refine ⟨_, _, _, _, _, _, _, rfl, pys_nz nb zb2, pys_nz nb zb2, by decide, by decide, by decide, by decide, ?_⟩
            have s6 : S90 K M6 m g c a o k3 (ps ++ [⟨.tup [.str "sell", .int d], r.hs, r.w, dayQ r.hs r.w r.qs d, some (dayN r.hs r.w r.qs d)⟩]) [] := ⟨d6, ea6, ow6⟩
            have hk6 : k3 ≤ n + 6 := by omega
            exact k k3 M6 _ [] s6 hk6 (by simp) (by simp) (by simp) (by simp) (rb_snoc rp' rbn) (by simp)
          repeat' (first | k_extra "y" | k_extra "n" | k_extra "z")
          refine ⟨m, g, c, n + 1, 2, rfl, dr1.ext x1, by omega, by omega, by omega, fun v M2 v0 v1 dr2 b2 => ?_⟩
          have st2 := (st1.ext x1).but dr2 b2
          obtain ⟨gs', eg'⟩ := drw_g dr1
          obtain ⟨kv, em⟩ := drw_m dr1
          have pm : p ≠ m := fun z => by rw [z, em] at hp; cases hp
          have pg : p ≠ g := fun z => by rw [z, eg'] at hp; cases hp
          have e2 := b2 _ _ pm pg e1
          clear st1 b2 ea1 ow1 dr1 eo ep el eg e1 x1 hp
          by_cases c4 : v = 0
          · subst c4
            repeat' (first | k_extra "y" | k_extra "n" | k_extra "z")
            refine ⟨m, g, c, _, 4, rfl, dr2, by omega, by omega, by omega, fun d M3 d0 d1 dr3 b3 => ?_⟩
            have st3 := st2.but dr3 b3
            clear b3 e2
            have hk3 : n + 1 + 1 + 1 ≤ n + 3 := by omega
            have d9 : d ≤ 9 := by omega
            repeat' (first | ((with_reducible refine' gWSs ?_); (show WSs X ((defBody s__law_turn).drop 6) _ _ _); (with_reducible exact fin d _ M3 st3 hk3 d0 d9)) | k_extra "y")
          · obtain rfl : v = 1 := by omega
            repeat' (first | k_extra "y" | k_extra "n" | k_extra "z")
            refine ⟨m, g, c, _, 10, rfl, dr2, by omega, by omega, by omega, fun d M3 d0 d1 dr3 b3 => ?_⟩
            have st3 := st2.but dr3 b3
            clear b3 e2
            have hk3 : n + 1 + 1 + 1 ≤ n + 3 := by omega
            have d9 : d ≤ 9 := by omega
            repeat' (first | ((with_reducible refine' gWSs ?_); (show WSs X ((defBody s__law_turn).drop 6) _ _ _); (with_reducible exact fin d _ M3 st3 hk3 d0 d9)) | k_extra "y")
def hsA : List Hs := [⟨true, 2, 6, 1⟩]
def hsB : List Hs := [⟨false, 1, 2, 1⟩]
theorem hokA : HOk ⟨true, 2, 6, 1⟩ := ⟨by decide, by decide, fun _ => ⟨by decide, by decide⟩, (fun z => by cases z), by decide, by decide⟩
theorem hokB : HOk ⟨false, 1, 2, 1⟩ := ⟨by decide, by decide, (fun z => by cases z), fun _ => ⟨by decide, by decide⟩, by decide, by decide⟩
theorem cokA : COk hsA 1 := ⟨by decide, by decide, fun h hh => by rw [List.mem_singleton.mp hh]; exact hokA, by decide, by decide⟩
theorem cokB : COk hsB 1 := ⟨by decide, by decide, fun h hh => by rw [List.mem_singleton.mp hh]; exact hokB, by decide, by decide⟩
def hsC : List Hs := [⟨true, 0, 30, 1⟩]
def hsE : List Hs := [⟨true, 3, 4, 1⟩]
theorem hokC : HOk ⟨true, 0, 30, 1⟩ := ⟨by decide, by decide, fun _ => ⟨by decide, by decide⟩, (fun z => by cases z), by decide, by decide⟩
theorem hokE : HOk ⟨true, 3, 4, 1⟩ := ⟨by decide, by decide, fun _ => ⟨by decide, by decide⟩, (fun z => by cases z), by decide, by decide⟩
theorem cokC : COk hsC 0 := ⟨by decide, by decide, fun h hh => by rw [List.mem_singleton.mp hh]; exact hokC, by decide, by decide⟩
theorem cokE : COk hsE 0 := ⟨by decide, by decide, fun h hh => by rw [List.mem_singleton.mp hh]; exact hokE, by decide, by decide⟩
def rA0 : Rc := ⟨.non, hsA, 1, hsA.map bgP, none⟩
def qA1 : List Pl := [⟨1, [5], 0⟩]
def nA1 : Nz := ⟨5, 0, [5]⟩
def rA1 : Rc := ⟨.tup [.str "sell", .int 5], hsA, 1, qA1, some nA1⟩
def rA2 : Rc := ⟨.tup [.str "exchange", .int ((0 : Nat) : Int), ruD ⟨false, 1, 2, 1⟩], hsB, 1, qA1, none⟩
def qA3 : List Pl := [⟨3, [0], 0⟩]
def nA3 : Nz := ⟨3, 0, [0]⟩
def rA3 : Rc := ⟨.tup [.str "sell", .int 3], hsB, 1, qA3, some nA3⟩
def qA4 : List Pl := [⟨0, [2], 1⟩]
def nA4 : Nz := ⟨3, 5, [2]⟩
def rA4 : Rc := ⟨.tup [.str "sell", .int 9], hsB, 1, qA4, some nA4⟩
theorem fA1 : dayQ rA0.hs rA0.w rA0.qs 5 = qA1 ∧ dayN rA0.hs rA0.w rA0.qs 5 = nA1 := ⟨by kernel_rfl, by kernel_rfl⟩
theorem fA3 : dayQ rA2.hs rA2.w rA2.qs 3 = qA3 ∧ dayN rA2.hs rA2.w rA2.qs 3 = nA3 := ⟨by kernel_rfl, by kernel_rfl⟩
theorem fA4 : dayQ rA3.hs rA3.w rA3.qs 9 = qA4 ∧ dayN rA3.hs rA3.w rA3.qs 9 = nA4 := ⟨by kernel_rfl, by kernel_rfl⟩
theorem plb1 {a b c : Int} (ha : 0 ≤ a ∧ a ≤ 40) (hb : 0 ≤ b ∧ b ≤ 40) (hc : 0 ≤ c ∧ c ≤ 40) : ∀ q ∈ ([⟨a, [b], c⟩] : List Pl), PlB 40 q := fun q hq => by
  rw [List.mem_singleton.mp hq]
  exact ⟨ha.1, ha.2, hc.1, hc.2, fun x hx => by rw [List.mem_singleton.mp hx]; exact hb, Nat.le_refl 1, (by show 1 ≤ 4; decide)⟩
theorem nzb1 {a b c : Int} (ha : 0 ≤ a ∧ a ≤ 40) (hb : 0 ≤ b ∧ b ≤ 40) (hc : 0 ≤ c ∧ c ≤ 40) : NzB 40 ⟨a, b, [c]⟩ := ⟨ha.1, ha.2, hb.1, hb.2, fun x hx => by rw [List.mem_singleton.mp hx]; exact hc, (by show 1 ≤ 3; decide)⟩
theorem bd40 : Bd 1000 40 := by decide +kernel
theorem pysA {M : Mem} {p : Addr} (e : M p = some (.lst [nzD nA1, .tup (qA1.map plD), .non, nzD nA3, nzD nA4, .int 5, .int 11])) : PyS M 485054 4 (.obj p) (.list [pyNz nA1, .tuple (qA1.map pyPl), .none, pyNz nA3, pyNz nA4, .int 5, .int 11]) := by
  have h1 : PyS M 17328 2 (nzD nA1) (pyNz nA1) := pys_nz (nzb1 (by decide) (by decide) (by decide)) bd40
  have h2 : PyS M 69291 3 (.tup (qA1.map plD)) (.tuple (qA1.map pyPl)) := pys_stand (plb1 (by decide) (by decide) (by decide)) bd40 (by decide)
  have h3 : PyS M 17328 2 (nzD nA3) (pyNz nA3) := pys_nz (nzb1 (by decide) (by decide) (by decide)) bd40
  have h4 : PyS M 17328 2 (nzD nA4) (pyNz nA4) := pys_nz (nzb1 (by decide) (by decide) (by decide)) bd40
  exact pys_lst (m := 7) (L := 69291) (K := 3) e (pys_cons h1 (by decide) (by decide) (pys_cons h2 (by decide) (by decide) (pys_cons pys_non (by decide) (by decide) (pys_cons h3 (by decide) (by decide) (pys_cons h4 (by decide) (by decide) (pys_cons (pys_i (by decide) (by decide)) (by decide) (by decide) (pys_cons (pys_i (by decide) (by decide)) (by decide) (by decide) pys_nil))))))) (Nat.le_refl _)
def rC0 : Rc := ⟨.non, hsC, 0, hsC.map bgP, none⟩
def rC1 : Rc := ⟨.tup [.str "exchange", .int ((0 : Nat) : Int), ruD ⟨true, 3, 4, 1⟩], hsE, 0, hsC.map bgP, none⟩
def nC : Nz := ⟨9, 0, [0]⟩
def nC5 : Nz := ⟨1, 0, [2]⟩
def qC (h : Int) : List Pl := [⟨h, [0], 0⟩]
def rC (h : Int) : Rc := ⟨.tup [.str "sell", .int 9], hsE, 0, qC h, some nC⟩
theorem fC2 : dayQ rC1.hs rC1.w rC1.qs 9 = qC 21 ∧ dayN rC1.hs rC1.w rC1.qs 9 = nC := ⟨by kernel_rfl, by kernel_rfl⟩
theorem fC3 : dayQ (rC 21).hs (rC 21).w (rC 21).qs 9 = qC 12 ∧ dayN (rC 21).hs (rC 21).w (rC 21).qs 9 = nC := ⟨by kernel_rfl, by kernel_rfl⟩
theorem fC4 : dayQ (rC 12).hs (rC 12).w (rC 12).qs 9 = qC 3 ∧ dayN (rC 12).hs (rC 12).w (rC 12).qs 9 = nC := ⟨by kernel_rfl, by kernel_rfl⟩
theorem fC5 : dayN (rC 3).hs (rC 3).w (rC 3).qs 1 = nC5 := by kernel_rfl
def rC9 : Rc := ⟨.tup [.str "sell", .int 1], hsE, 0, dayQ (rC 3).hs (rC 3).w (rC 3).qs 1, some nC5⟩
def stC : Nat → List Rc
  | 0 => [rC0, rC1]
  | 1 => [rC0, rC1, rC 21]
  | 2 => [rC0, rC1, rC 21, rC 12]
  | 3 => [rC0, rC1, rC 21, rC 12, rC 3]
  | _ => [rC0, rC1, rC 21, rC 12, rC 3, rC9]
def ntC : Nat → List Nz
  | 0 => []
  | 1 => [nC]
  | 2 => [nC, nC]
  | 3 => [nC, nC, nC]
  | _ => [nC, nC, nC, nC5]
theorem pysC {M : Mem} {p : Addr} (e : M p = some (.lst [.non, nzD nC, nzD nC, nzD nC, nzD nC5])) : PyS M 86653 3 (.obj p) (.list [.none, pyNz nC, pyNz nC, pyNz nC, pyNz nC5]) := by
  have h1 : PyS M 17328 2 (nzD nC) (pyNz nC) := pys_nz (nzb1 (by decide) (by decide) (by decide)) bd40
  have h5 : PyS M 17328 2 (nzD nC5) (pyNz nC5) := pys_nz (nzb1 (by decide) (by decide) (by decide)) bd40
  exact pys_lst (m := 5) (L := 17328) (K := 2) e (pys_cons pys_non (by decide) (by decide) (pys_cons h1 (by decide) (by decide) (pys_cons h1 (by decide) (by decide) (pys_cons h1 (by decide) (by decide) (pys_cons h5 (by decide) (by decide) pys_nil))))) (Nat.le_refl _)
/-! ### law -/
abbrev s_law : Stmt := top 54
theorem sc_law : FnScope ["_law_script", "_law_m", "_law_turn_here", "_law_chain_here", "_law_own_here", "_law_led", "_law_again", "_law_k", "_law_told_so", "_law_due", "_law_demand"] ["_law_script"] (defScope s_law) := ⟨rfl, rfl, rfl, by decide +kernel, rfl, by decide +kernel, by decide +kernel⟩
abbrev nm_law : Nms := ⟨["_law_script", "_law_m", "_law_turn_here", "_law_chain_here", "_law_own_here", "_law_led", "_law_again", "_law_k", "_law_told_so", "_law_due"], ["_law_script", "_law_m", "_law_turn_here", "_law_chain_here", "_law_own_here", "_law_led", "_law_again", "_law_k", "_law_told_so", "_law_due"], ["_law_script", "_law_m", "_law_turn_here", "_law_chain_here", "_law_own_here", "_law_again", "_law_k", "_law_told_so", "_law_due"], ["_law_begun", "range", "min", "len", "_law_chain", "_law_own", "Led", "_law_stands", "_law_draw", "_law_turn", "_law_like", "_law_gone_back", "_law_gone_on"], ["_law_led"], false⟩
theorem no_law : nm_law.ok (defScope s_law) = true := by decide +kernel
abbrev nb_law_0 : Nms := ⟨["_law_demand", "_law_led"], ["_law_demand"], ["_law_demand"], [], ["_law_led"], false⟩
abbrev ow_law_0 : List (Str × Nat) := [("_law_demand", 10)]
abbrev lw_turn : List Stmt := forB (stAt (defBody s_law) 1)
theorem law_turn {X : Cx} {E : Ends2} (C : Cxt X ["_law_script", "_law_m", "_law_turn_here", "_law_chain_here", "_law_own_here", "_law_led", "_law_again", "_law_k", "_law_told_so", "_law_due", "_law_demand"] nm_law P w K mg base 7) (T : Txt P w K mg base) (G__law_begun : Def2 P w K mg base 2 "_law_begun" ["_law_script"] sp__law_begun) (G__law_draw : Def2 P w K mg base 2 "_law_draw" ["_law_m", "_law_limit"] sp__law_draw) (G__law_like : Def2 P w K mg base 1 "_law_like" ["_law_answer", "_law_due"] sp__law_like) (G__law_chain : Def2 P w K mg base 4 "_law_chain" ["_law_m", "_law_most", "_law_low", "_law_wide"] sp__law_chain) (G__law_gone_back : Def2 P w K mg base 1 "_law_gone_back" ["_law_own_here"] sp__law_gone_back) (G__law_gone_on : Def2 P w K mg base 1 "_law_gone_on" ["_law_own_here"] sp__law_gone_on) (G__law_own : Def2 P w K mg base 3 "_law_own" ["_law_chain_so"] sp__law_own) (G__law_stands : Def2 P w K mg base 5 "_law_stands" ["_law_led", "_law_own_here"] (sp__law_stands K)) (G__law_turn : Def2 P w K mg base 7 "_law_turn" ["_law_m", "_law_led", "_law_own_here"] (sp__law_turn K)) (G_Led___init__ : Mak2 P w K mg base 5 "Led" ["self", "chain"] (sp_Led___init__ K)) (G_Led_stand : Prp2 P w K mg base 1 "Led" "stand" ["self"] (sp_Led_stand K)) (G_Led___len__ : Met2 P w K mg base 1 "Led" "__len__" ["self"] (sp_Led___len__ K)) (G_Led_sent : Met2 P w K mg base 3 "Led" "sent" ["self"] (sp_Led_sent K)) (G_Led_lost : Met2 P w K mg base 3 "Led" "lost" ["self"] (sp_Led_lost K)) (G_Led_sell : Met2 P w K mg base 5 "Led" "sell" ["self", "demand"] (sp_Led_sell K)) (G_Led_exchange : Met2 P w K mg base 5 "Led" "exchange" ["self", "number", "rule"] (sp_Led_exchange K)) (G_Led_undo : Met2 P w K mg base 3 "Led" "undo" ["self"] (sp_Led_undo K)) (G_Led_redo : Met2 P w K mg base 1 "Led" "redo" ["self"] (sp_Led_redo K)) : ∀ {M : Mem} {m g c : Addr} {k : Int} {d0 d2 d3 d4 d5 d6 d7 d8 d9 d10 : Option D}, Drw M m g c k → k < 600000 → (∀ (c3 c4 c5 c6 c7 : Option D) (k' : Int) (M' : Mem), Drw M' m g c k' → k' ≤ k + 120 → E.nx [d0, some (.obj m), d2, c3, c4, c5, c6, c7, d8, d9, d10] M') → WSs X lw_turn E [d0, some (.obj m), d2, d3, d4, d5, d6, d7, d8, d9, d10] M := by
  intro M m g c k d0 d2 d3 d4 d5 d6 d7 d8 d9 d10 dr nb kk
  refine wss_cons ?_
  repeat' (k_extra "y")
  refine ⟨m, g, c, k, 3, 6, 4, rfl, dr, by omega, by omega, by omega, by omega, by omega, by omega, by omega, fun hs w k1 M1 ok hl hk1 dr1 b1 => ?_⟩
  have n0 := ok.n0
  have n1 := ok.n1
  clear b1 dr
  obtain ⟨gs, eg⟩ := drw_g dr1
  repeat' (first | k_extra "y" | k_extra "n" | k_extra "z")
  refine ⟨g, _, hs, w, rfl, eg, ok, fun o M2 ho x2 ow2 => ?_⟩
  have dr2 := dr1.ext x2
  clear dr1 eg x2
  repeat' (first | k_extra "y" | k_extra "n" | k_extra "z")
  have ⟨am, ag, ac⟩ := dr2.ne hp
  have ow2' := ow2.ext x1
  refine ⟨p, hs, w, rfl, ok, e1, fun M3 x3 => ?_⟩
  have st3 : S90 K M3 m g c p o k1 [⟨.non, hs, w, hs.map bgP, none⟩] [] := ⟨((dr2.ext x1).put am ag ac).ext x3, x3 _ _ mup_same, (ow2'.put e1).ext x3⟩
  have ea3 := st3.ea
  obtain ⟨a, ha⟩ : ∃ x, x = p := ⟨p, rfl⟩
  subst ha
  clear e1 x1 x3 hp dr2 ow2 ow2'
  refine ⟨rfl, ?_⟩
  have rb0 : RB 40 ⟨.non, hs, w, hs.map bgP, none⟩ := ⟨ok, by simp, bg_b ok, (fun _ z => by cases z), datk_non.le (by decide)⟩
  have rb0s : ∀ x ∈ [(⟨.non, hs, w, hs.map bgP, none⟩ : Rc)], RB 40 x := fun x hx => by rw [List.mem_singleton.mp hx]; exact rb0
  repeat' (first | k_extra "y" | k_extra "n" | k_extra "z")
  refine ⟨a, o, g, _, _, _, 40, rfl, ea3, st3.ow, rfl, rb0s, by simp, by decide, by decide +kernel, fun M4 x4 => ?_⟩
  have st4 := st3.ext x4
  have ea4 := st4.ea
  clear st3 ea3 x4
  repeat' (first | k_extra "y" | k_extra "n" | k_extra "z")
  refine ⟨a, _, _, rfl, ea4, by simp, by simp, by simp, fun _ => ?_, fun _ _ z => absurd rfl z⟩
  repeat' (first | k_extra "y" | k_extra "n" | k_extra "z")
  refine ⟨a, _, _, rfl, ea4, by simp, by simp, fun _ => ?_, fun _ _ z => by cases z⟩
  repeat' (first | k_extra "y" | k_extra "n" | k_extra "z")
  refine ws_for (t := .nm 6) C (by k_extra "tgt") (fun _ => rfl) ?_
  repeat' (k_extra "y")
  refine ⟨m, g, c, k1, 11, rfl, st4.d, by omega, by omega, by omega, fun v M5 v0 v1 dr5 b5 => ?_⟩
  have st5 := st4.but dr5 b5
  clear st4 ea4 dr5 b5
  repeat' (k_extra "y")
  refine ⟨by omega, by omega, fun i ρ M' => ∃ (ps ls : List Rc) (k' : Int) (b : Option D), ρ = [d0, some (.obj m), d2, some (chD hs w), some (.obj o), some (.obj a), b, d7, d8, d9, d10] ∧ S90 K M' m g c a o k' ps ls ∧ 1 ≤ ps.length ∧ ps.length + ls.length ≤ i + 1 ∧ (∀ x ∈ ps, RB ((10000 : Int) ^ i * 40) x) ∧ (∀ x ∈ ls, RB ((10000 : Int) ^ i * 40) x) ∧ k' ≤ k1 + 1 + 6 * (i : Int), ⟨_, _, _, _, rfl, st5, by simp, by simp, by simpa using rb0s, by simp, by omega⟩, fun _ _ _ _ => trivial, ?_, ?_⟩
  · rintro i d ρ M6 hd ⟨ps, ls, k', b, rfl, st, p1, pl, rp, rl, hk⟩
    obtain ⟨hi, rfl⟩ := rng_get hd
    have hi' : i < 14 := by omega
    have p := p10 i
    have ⟨x1, xb⟩ := rn_X (i := i) (by omega)
    have pw : (10000 : Int) ^ (i + 1) * 40 = 10000 * (10000 ^ i * 40) := by rw [Int.pow_succ]; omega
    refine ⟨[d0, some (.obj m), d2, some (chD hs w), some (.obj o), some (.obj a), some (.int (0 + (i : Nat))), d7, d8, d9, d10], rfl, ?_⟩
    refine wss_one ?_
    repeat' (first | k_extra "y" | k_extra "n" | k_extra "z")
    refine ⟨m, g, c, a, o, k', _, ps, ls, rfl, st, by omega, p1, by omega, by omega, rp, rl, x1, xb, fun k2 M7 ps' ls' st7 hk2 q1 q2 q3 q4 rp' rl' => ?_⟩
    rw [← pw] at rp' rl'
    have ⟨x1', xb'⟩ := rn_X (i := i + 1) (by omega)
    obtain ⟨r, hr⟩ := last_of q1
    have ea7 := st7.ea
    repeat' (first | k_extra "y" | k_extra "n" | k_extra "z")
    refine ⟨a, o, g, ps', ls', r, _, rfl, ea7, st7.ow, hr, rp', by omega, by omega, xb'.le (by decide), fun M8 x8 => ?_⟩
    repeat' (first | k_extra "y" | k_extra "n" | k_extra "z")
    exact ⟨ps', ls', k2, _, rfl, st7.ext x8, q1, by omega, rp', rl', by push_cast; omega⟩
  rintro ρ M6 ⟨ps, ls, k', b6, rfl, st, p1, pl, rp, rl, hk⟩
  simp only [List.length_map, List.length_range] at pl rp rl hk
  have vl : (4 + v).toNat ≤ 14 := by omega
  generalize hL : (4 + v).toNat = L at *
  have ⟨zx, zb⟩ := rn_X (i := L) (by omega)
  have zb' : Bd 1000 ((10000 : Int) ^ L * 40) := zb.le (by decide)
  generalize hZ : (10000 : Int) ^ L * 40 = Z at *
  have z0 : 0 ≤ Z := by omega
  have pl15 : ps.length + ls.length ≤ 15 := by omega
  clear pl hZ st5 hL
  obtain ⟨pa, la, eo, ep, el, _, _, _, _⟩ := st.ow.ex
  refine wss_cons ?_
  refine ws_for (t := .nm 7) C (by k_extra "tgt") (fun _ => rfl) ?_
  repeat' (first | k_extra "y" | k_extra "n" | k_extra "z" | k_extra "dk")
  rw [List.length_map]
  refine ⟨by omega, by omega, fun i ρ M' => ∃ (ps ls : List Rc) (b : Option D), ρ = [d0, some (.obj m), d2, some (chD hs w), some (.obj o), some (.obj a), b6, b, d8, d9, d10] ∧ S90 K M' m g c a o k' ps ls ∧ 1 ≤ ps.length ∧ ps.length + ls.length ≤ 15 ∧ (∀ x ∈ ps, RB Z x) ∧ (∀ x ∈ ls, RB Z x), ⟨_, _, _, rfl, st, p1, pl15, rp, rl⟩, fun _ _ _ _ => trivial, ?_, ?_⟩
  · clear eo ep el st p1 pl15 rp rl
    rintro i d ρ M7 hd ⟨ps, ls, b, rfl, st, p1, pl, rp, rl⟩
    obtain ⟨hi, rfl⟩ := rng_get hd
    refine ⟨[d0, some (.obj m), d2, some (chD hs w), some (.obj o), some (.obj a), b6, some (.int (0 + (i : Nat))), d8, d9, d10], rfl, ?_⟩
    obtain ⟨r, hr⟩ := last_of p1
    have rb := rp r (List.mem_of_getLast? hr)
    have ea := st.ea
    refine wss_one ?_
    repeat' (first | k_extra "y" | k_extra "n" | k_extra "z")
    refine ⟨a, ps, ls, rfl, ea, p1, by omega, by omega, fun h1 => ?_, fun r' hr' h1 M2 x2 => ?_⟩
    · repeat' (first | k_extra "y" | k_extra "n" | k_extra "z")
      refine ⟨o, g, ps, ls, rfl, st.ow, p1, by omega, by omega, fun _ => ?_, fun _ _ z => absurd h1 z⟩
      repeat' (first | k_extra "y" | k_extra "n" | k_extra "z")
      refine ⟨_, _, _, _, _, _, _, rfl, pys_bl, pys_bl, by decide, by decide, by decide, by decide, ?_⟩
      repeat' (first | k_extra "y" | k_extra "n" | k_extra "z")
      refine ⟨a, o, g, ps, ls, r, Z, rfl, ea, st.ow, hr, rp, by omega, z0, zb', fun M8 x8 => ?_⟩
      repeat' (first | k_extra "y" | k_extra "n" | k_extra "z")
      exact ⟨ps, ls, _, rfl, st.ext x8, p1, pl, rp, rl⟩
    · obtain ⟨d2', ea2, ow2⟩ := S90.seta st.d ea st.ow x2
      rw [hr] at hr'
      cases hr'
      repeat' (first | k_extra "y" | k_extra "n" | k_extra "z")
      refine ⟨o, g, ps, ls, rfl, ow2, p1, by omega, by omega, fun z => absurd z h1, fun r' hr' _ M3 x3 ow3 => ?_⟩
      rw [hr] at hr'
      cases hr'
      obtain ⟨d3', ea3⟩ := S90.seto d2' ea2 ow2 x3
      repeat' (first | k_extra "y" | k_extra "n" | k_extra "z")
      refine ⟨_, _, _, _, _, _, _, rfl, pys_bl, pys_bl, by decide, by decide, by decide, by decide, ?_⟩
      have q1 : 1 ≤ ps.dropLast.length := by rw [List.length_dropLast]; omega
      have q2 : ps.dropLast.length + (r :: ls).length ≤ 15 := by rw [List.length_dropLast, List.length_cons]; omega
      have rp' : ∀ x ∈ ps.dropLast, RB Z x := fun x hx => rp x (List.dropLast_subset _ hx)
      have rl' : ∀ x ∈ r :: ls, RB Z x := fun x hx => (List.mem_cons.mp hx).elim (fun e => e ▸ rb) (rl x)
      obtain ⟨r2, hr2⟩ := last_of q1
      repeat' (first | k_extra "y" | k_extra "n" | k_extra "z")
      refine ⟨a, o, g, ps.dropLast, r :: ls, r2, Z, rfl, ea3, ow3, hr2, rp', by omega, z0, zb', fun M8 x8 => ?_⟩
      repeat' (first | k_extra "y" | k_extra "n" | k_extra "z")
      exact ⟨ps.dropLast, r :: ls, _, rfl, S90.ext ⟨d3', ea3, ow3⟩ x8, q1, q2, rp', rl'⟩
  clear eo ep el st p1 pl15 rp rl
  rintro ρ M7 ⟨ps, ls, b, rfl, st, p1, pl, rp, rl⟩
  obtain ⟨pa, la, eo, ep, el, _, _, _, _⟩ := st.ow.ex
  refine wss_one ?_
  refine ws_for (t := .nm 7) C (by k_extra "tgt") (fun _ => rfl) ?_
  repeat' (first | k_extra "y" | k_extra "n" | k_extra "z" | k_extra "dk")
  rw [List.length_map]
  refine ⟨by omega, by omega, fun i ρ M' => ∃ (ps ls : List Rc) (b : Option D), ρ = [d0, some (.obj m), d2, some (chD hs w), some (.obj o), some (.obj a), b6, b, d8, d9, d10] ∧ S90 K M' m g c a o k' ps ls ∧ 1 ≤ ps.length ∧ ps.length + ls.length ≤ 15 ∧ (∀ x ∈ ps, RB Z x) ∧ (∀ x ∈ ls, RB Z x), ⟨_, _, _, rfl, st, p1, pl, rp, rl⟩, fun _ _ _ _ => trivial, ?_, ?_⟩
  · clear eo ep el st p1 pl rp rl
    rintro i d ρ M7 hd ⟨ps, ls, b, rfl, st, p1, pl, rp, rl⟩
    obtain ⟨hi, rfl⟩ := rng_get hd
    refine ⟨[d0, some (.obj m), d2, some (chD hs w), some (.obj o), some (.obj a), b6, some (.int (0 + (i : Nat))), d8, d9, d10], rfl, ?_⟩
    obtain ⟨r, hr⟩ := last_of p1
    have ea := st.ea
    refine wss_one ?_
    repeat' (first | k_extra "y" | k_extra "n" | k_extra "z")
    refine ⟨a, ps, ls, rfl, ea, by omega, by omega, fun h1 => ?_, fun r' rs h1 M2 x2 => ?_⟩
    · repeat' (first | k_extra "y" | k_extra "n" | k_extra "z")
      refine ⟨o, g, ps, ls, rfl, st.ow, by omega, by omega, fun x hx => datk_rc (rl x hx), fun _ M2 x2 => ?_, fun r' rs z => by rw [h1] at z; cases z⟩
      repeat' (first | k_extra "y" | k_extra "n" | k_extra "z")
      refine ⟨_, _, _, _, _, _, _, rfl, pys_bl, pys_bl, by decide, by decide, by decide, by decide, ?_⟩
      have st2 := st.ext x2
      have ea2 := st2.ea
      clear x2 ea
      repeat' (first | k_extra "y" | k_extra "n" | k_extra "z")
      refine ⟨a, o, g, ps, ls, r, Z, rfl, ea2, st2.ow, hr, rp, by omega, z0, zb', fun M8 x8 => ?_⟩
      repeat' (first | k_extra "y" | k_extra "n" | k_extra "z")
      exact ⟨ps, ls, _, rfl, st2.ext x8, p1, pl, rp, rl⟩
    · obtain ⟨d2', ea2, ow2⟩ := S90.seta st.d ea st.ow x2
      repeat' (first | k_extra "y" | k_extra "n" | k_extra "z")
      refine ⟨o, g, ps, ls, rfl, ow2, by omega, by omega, fun x hx => datk_rc (rl x hx), fun z => (by rw [z] at h1; cases h1), fun r2 rs2 z M3 x3 ow3 => ?_⟩
      rw [h1] at z
      cases z
      obtain ⟨d3', ea3⟩ := S90.seto d2' ea2 ow2 x3
      repeat' (first | k_extra "y" | k_extra "n" | k_extra "z")
      refine ⟨_, _, _, _, _, _, _, rfl, pys_bl, pys_bl, by decide, by decide, by decide, by decide, ?_⟩
      have ll : ls.length = rs.length + 1 := by rw [h1]; rfl
      have q1 : 1 ≤ (ps ++ [r']).length := by simp
      have q2 : (ps ++ [r']).length + rs.length ≤ 15 := by simp; omega
      have rp' := rb_snoc rp (rl r' (by rw [h1]; simp))
      have rl' : ∀ x ∈ rs, RB Z x := fun x hx => rl x (by rw [h1]; simp [hx])
      obtain ⟨r2, hr2⟩ := last_of q1
      repeat' (first | k_extra "y" | k_extra "n" | k_extra "z")
      refine ⟨a, o, g, ps ++ [r'], rs, r2, Z, rfl, ea3, ow3, hr2, rp', by omega, z0, zb', fun M8 x8 => ?_⟩
      repeat' (first | k_extra "y" | k_extra "n" | k_extra "z")
      exact ⟨ps ++ [r'], rs, _, rfl, S90.ext ⟨d3', ea3, ow3⟩ x8, q1, q2, rp', rl'⟩
  clear eo ep el st p1 pl rp rl
  rintro ρ M7 ⟨ps, ls, b, rfl, st, p1, pl, rp, rl⟩
  exact kk _ _ _ _ _ _ _ st.d (by omega)
abbrev sp_law : Sp2 := spLaw 63
theorem ok_law {f : Addr} {fd : FuncData} (F : Fun K "law" "law" s_law f fd) (T : Txt P w K mg base) (G__law_begun : Def2 P w K mg base 2 "_law_begun" ["_law_script"] sp__law_begun) (G__law_draw : Def2 P w K mg base 2 "_law_draw" ["_law_m", "_law_limit"] sp__law_draw) (G__law_like : Def2 P w K mg base 1 "_law_like" ["_law_answer", "_law_due"] sp__law_like) (G__law_chain : Def2 P w K mg base 4 "_law_chain" ["_law_m", "_law_most", "_law_low", "_law_wide"] sp__law_chain) (G__law_gone_back : Def2 P w K mg base 1 "_law_gone_back" ["_law_own_here"] sp__law_gone_back) (G__law_gone_on : Def2 P w K mg base 1 "_law_gone_on" ["_law_own_here"] sp__law_gone_on) (G__law_own : Def2 P w K mg base 3 "_law_own" ["_law_chain_so"] sp__law_own) (G__law_stands : Def2 P w K mg base 5 "_law_stands" ["_law_led", "_law_own_here"] (sp__law_stands K)) (G__law_turn : Def2 P w K mg base 7 "_law_turn" ["_law_m", "_law_led", "_law_own_here"] (sp__law_turn K)) (G_Led___init__ : Mak2 P w K mg base 5 "Led" ["self", "chain"] (sp_Led___init__ K)) (G_Led_stand : Prp2 P w K mg base 1 "Led" "stand" ["self"] (sp_Led_stand K)) (G_Led___len__ : Met2 P w K mg base 1 "Led" "__len__" ["self"] (sp_Led___len__ K)) (G_Led_sent : Met2 P w K mg base 3 "Led" "sent" ["self"] (sp_Led_sent K)) (G_Led_lost : Met2 P w K mg base 3 "Led" "lost" ["self"] (sp_Led_lost K)) (G_Led_sell : Met2 P w K mg base 5 "Led" "sell" ["self", "demand"] (sp_Led_sell K)) (G_Led_exchange : Met2 P w K mg base 5 "Led" "exchange" ["self", "number", "rule"] (sp_Led_exchange K)) (G_Led_undo : Met2 P w K mg base 3 "Led" "undo" ["self"] (sp_Led_undo K)) (G_Led_redo : Met2 P w K mg base 1 "Led" "redo" ["self"] (sp_Led_redo K)) : Fn2 P w K mg base 8 f fd ["_law_script"] sp_law := by
  refine fn2_of F sc_law no_law (fun ds M Q E h => ?_) (fun X ds M Q E C h => ?_)
  · repeat (first | (obtain ⟨rfl, _⟩ := h; rfl) | (obtain ⟨_, h⟩ := h))
  · obtain ⟨ns, rfl, hl, hM, k⟩ := h
    show WSs X _ _ [some (.ro (ns.map D.int)), none, none, none, none, none, none, none, none, none, none] M
    refine wss_cons ?_
    repeat' (first | k_extra "y" | k_extra "n" | k_extra "z")
    refine ⟨ns, rfl, hl, fun m g c M1 x1 dr => ?_⟩
    repeat' (first | k_extra "y" | k_extra "n" | k_extra "z")
    refine ws_for (t := .nm 2) C (by k_extra "tgt") (fun _ => rfl) ?_
    repeat' (k_extra "y")
    have hz : (2 : Int) ≤ 2 + (if ((ns.map D.int).length : Int) < 4 then ((ns.map D.int).length : Int) else 4) ∧ 2 + (if ((ns.map D.int).length : Int) < 4 then ((ns.map D.int).length : Int) else 4) ≤ 6 := by split <;> omega
    generalize 2 + (if ((ns.map D.int).length : Int) < 4 then ((ns.map D.int).length : Int) else 4) = z at hz ⊢
    obtain ⟨z0, z1⟩ := hz
    refine ⟨by omega, by omega, fun i ρ M' => ∃ (n : Int) (a2 a3 a4 a5 a6 a7 a8 a9 a10 : Option D), ρ = [some (.ro (ns.map D.int)), some (.obj m), a2, a3, a4, a5, a6, a7, a8, a9, a10] ∧ Drw M' m g c n ∧ n ≤ 120 * (i : Int), ⟨0, _, _, _, _, _, _, _, _, _, rfl, dr, by omega⟩, fun _ _ _ _ => trivial, ?_, ?_⟩
    · rintro i d ρ M' hd ⟨n, a2, a3, a4, a5, a6, a7, a8, a9, a10, rfl, d', hn⟩
      obtain ⟨hi, rfl⟩ := rng_get hd
      have hi' : i < 12 := by omega
      refine ⟨[some (.ro (ns.map D.int)), some (.obj m), some (.int (0 + (i : Nat))), a3, a4, a5, a6, a7, a8, a9, a10], rfl, ?_⟩
      show WSs X lw_turn _ _ _
      have hn7 : n < 600000 := by omega
      with_reducible refine law_turn C T G__law_begun G__law_draw G__law_like G__law_chain G__law_gone_back G__law_gone_on G__law_own G__law_stands G__law_turn G_Led___init__ G_Led_stand G_Led___len__ G_Led_sent G_Led_lost G_Led_sell G_Led_exchange G_Led_undo G_Led_redo d' hn7 fun c3 c4 c5 c6 c7 k' M2 d2 hk => ?_
      exact ⟨_, _, _, _, _, _, _, _, _, _, rfl, d2, by omega⟩
    · rintro ρ M' ⟨n, a2, a3, a4, a5, a6, a7, a8, a9, a10, rfl, d', hn⟩
      refine wss_cons ?_
      repeat' (first | k_extra "y" | k_extra "n" | k_extra "z")
      refine ⟨p, hsA, 1, rfl, cokA, e1, fun M2 x2 => ?_⟩
      have ea2 : M2 p = some (ledO K [rA0] []) := x2 _ _ mup_same
      obtain ⟨a, ha⟩ : ∃ x, x = p := ⟨p, rfl⟩
      subst ha
      clear e1 x1 x2 hp
      refine ⟨rfl, ?_⟩
      repeat' (first | k_extra "y" | k_extra "n" | k_extra "z")
      refine ⟨a, [rA0], [], rA0, 5, 40, rfl, ea2, rfl, by decide, cokA, rfl, bg_b cokA, by decide, by decide +kernel, by decide, by decide, fun M3 x3 => ?_⟩
      rw [fA1.1, fA1.2] at x3
      rw [fA1.2]
      have ea3 : M3 a = some (ledO K [rA0, rA1] []) := x3 _ _ mup_same
      have hr3 : ([rA0, rA1] : List Rc).getLast? = some rA1 := rfl
      clear ea2 x3
      repeat' (first | k_extra "y" | k_extra "n" | k_extra "z")
      refine ⟨a, [rA0, rA1], [], rA1, 0, ⟨true, 2, 6, 1⟩, ⟨false, 1, 2, 1⟩, rfl, ea3, hr3, by decide, rfl, by decide, hokB, rfl, fun M4 x4 => ?_⟩
      have ea4 : M4 a = some (ledO K [rA0, rA1, rA2] []) := x4 _ _ mup_same
      clear ea3 x4 hr3
      repeat' (first | k_extra "y" | k_extra "n" | k_extra "z")
      refine ⟨a, [rA0, rA1, rA2], [], rA2, 3, 40, rfl, ea4, rfl, by decide, cokB, rfl, plb1 (by decide) (by decide) (by decide), by decide, by decide +kernel, by decide, by decide, fun M5 x5 => ?_⟩
      rw [fA3.1, fA3.2] at x5
      rw [fA3.2]
      have ea5 : M5 a = some (ledO K [rA0, rA1, rA2, rA3] []) := x5 _ _ mup_same
      clear ea4 x5
      repeat' (first | k_extra "y" | k_extra "n" | k_extra "z")
      refine ⟨a, [rA0, rA1, rA2, rA3], [], rA3, 9, 40, rfl, ea5, rfl, by decide, cokB, rfl, plb1 (by decide) (by decide) (by decide), by decide, by decide +kernel, by decide, by decide, fun M6 x6 => ?_⟩
      rw [fA4.1, fA4.2] at x6
      rw [fA4.2]
      have ea6 : M6 a = some (ledO K [rA0, rA1, rA2, rA3, rA4] []) := x6 _ _ mup_same
      clear ea5 x6
      repeat' (first | k_extra "y" | k_extra "n" | k_extra "z")
      refine ⟨a, [rA0, rA1, rA2, rA3, rA4], [], rfl, x1 _ _ ea6, by decide, fun M7 x7 => ?_⟩
      rw [show sumL [rA0, rA1, rA2, rA3, rA4] = 5 by kernel_rfl]
      have ea7 := x7 _ _ (x1 _ _ ea6)
      have et7 := x7 _ _ e1
      clear x7 e1 x1 ea6 hp
      repeat' (first | k_extra "y" | k_extra "n" | k_extra "z")
      refine ⟨a, [rA0, rA1, rA2, rA3, rA4], [], rfl, ea7, by decide, fun M8 x8 => ?_⟩
      rw [show sumF [rA0, rA1, rA2, rA3, rA4] = 11 by kernel_rfl]
      have et8 := x8 _ _ et7
      clear x8 et7 ea7
      repeat' (first | k_extra "y" | k_extra "n" | k_extra "z")
      rename_i pq hq Mq eq' xq
      refine ⟨_, _, _, _, _, _, _, rfl, pysA (x1 _ _ eq'), pysA e1, by decide, by decide, by decide, by decide, ?_⟩
      clear e1 x1 eq' xq hq hp et8
      repeat' (first | k_extra "y" | k_extra "n" | k_extra "z")
      refine ⟨p, hsC, 0, rfl, cokC, e1, fun M9 x9 => ?_⟩
      have ea9 : M9 p = some (ledO K [rC0] []) := x9 _ _ mup_same
      obtain ⟨b, hb⟩ : ∃ x, x = p := ⟨p, rfl⟩
      subst hb
      clear e1 x1 x9 hp
      refine ⟨rfl, ?_⟩
      repeat' (first | k_extra "y" | k_extra "n" | k_extra "z")
      refine ⟨b, [rC0], [], rC0, 0, ⟨true, 0, 30, 1⟩, ⟨true, 3, 4, 1⟩, rfl, ea9, rfl, by decide, rfl, by decide, hokE, rfl, fun M10 x10 => ?_⟩
      have ea10 : M10 b = some (ledO K [rC0, rC1] []) := x10 _ _ mup_same
      clear ea9 x10
      repeat' (first | k_extra "y" | k_extra "n" | k_extra "z")
      have eb := x1 _ _ ea10
      have en := e1
      obtain ⟨pn, hpn⟩ : ∃ x, x = p := ⟨p, rfl⟩
      subst hpn
      clear e1 x1 hp ea10
      refine we_lc (own := ow_law_0) (t := .nm 10) C (by decide +kernel) (by decide) (fun X1 B => by have C1 := C.blk (sc2 := nb_law_0) B rfl (by decide +kernel); k_extra "tgt") (fun _ => rfl) ?_
      refine wi_tup ?_
      repeat' (first | k_extra "y" | k_extra "n" | k_extra "z")
      have nbp : b ≠ p := fun z => by rw [z] at eb; rw [eb] at hp; cases hp
      have nnp : pn ≠ p := fun z => by rw [z] at en; rw [en] at hp; cases hp
      have nbn : b ≠ pn := fun z => by rw [z, en] at eb; cases eb
      have sell : ∀ (i : Nat) (r : Rc) (d : Int) (M5 : Mem), M5 p = some (.lst ((ntC i).map nzD)) → M5 b = some (ledO K (stC i) []) → M5 pn = some (.lst [.non]) → (stC i).getLast? = some r → r.hs = hsE → r.w = 0 → (∀ q ∈ r.qs, PlB 40 q) → r.qs.length = 1 → 0 ≤ d → d ≤ 9 → (stC i) ++ [⟨.tup [.str "sell", .int d], r.hs, r.w, dayQ r.hs r.w r.qs d, some (dayN r.hs r.w r.qs d)⟩] = stC (i + 1) → (ntC i) ++ [dayN r.hs r.w r.qs d] = ntC (i + 1) → (stC i).length ≤ 400 → (ntC i).length ≤ 100 → sp_Led_sell K [.obj b, .int d] M5 (fun y M4 => ∃ acc, M4 p = some (.lst acc) ∧ acc.length < sizeLine ∧ (mup M4 p (.lst (acc ++ [y]))) p = some (.lst ((ntC (i + 1)).map nzD)) ∧ (mup M4 p (.lst (acc ++ [y]))) b = some (ledO K (stC (i + 1)) []) ∧ (mup M4 p (.lst (acc ++ [y]))) pn = some (.lst [.non])) fun _ _ _ _ => False := fun i r d M5 ep5 eb5 en5 hr h1 h2 hq hl d0 d9 es en1 l1 l2 => by
        refine ⟨b, stC i, [], r, d, 40, rfl, eb5, hr, l1, by rw [h1, h2]; exact cokE, by rw [h1, hl]; rfl, hq, by decide, by decide +kernel, d0, d9, fun M6 x6 => ?_⟩
        rw [es] at x6
        refine ⟨_, x6 _ _ ((mup_ne (Ne.symm nbp)).trans ep5), by rw [List.length_map]; exact Nat.lt_of_le_of_lt l2 (by decide), ?_, (mup_ne nbp).trans (x6 _ _ mup_same), (mup_ne nnp).trans (x6 _ _ ((mup_ne (Ne.symm nbn)).trans en5))⟩
        rw [mup_same, ← en1, List.map_append]
        rfl
      refine ⟨fun i M' => M' p = some (.lst ((ntC i).map nzD)) ∧ M' b = some (ledO K (stC i) []) ∧ M' pn = some (.lst [.non]), ⟨e1, x1 _ _ eb, x1 _ _ en⟩, fun _ _ _ => trivial, ?_, ?_⟩
      · rintro i d M5 hd ⟨ep5, eb5, en5⟩
        refine ⟨[_, _, _, _, _, _, _, _, _, _, some d], rfl, fun X' B => ?_⟩
        refine Br.t fun X2 B2 => ?_
        have C' := C.blk (sc2 := nb_law_0) B2 rfl (by decide +kernel)
        have e5 : M5 b = some (.ins (cad K "Led") [("past", .tup ((stC i).map rcD)), ("later", .tup [])]) := eb5
        match i, hd with
        | 0, hd =>
          cases hd
          repeat' (first | k_extra "y" | k_extra "n" | k_extra "z")
          exact sell 0 rC1 9 M5 ep5 eb5 en5 rfl rfl rfl (plb1 (by decide) (by decide) (by decide)) rfl (by decide) (by decide) (by rw [fC2.1, fC2.2]; rfl) (by rw [fC2.2]; rfl) (by decide) (by decide)
        | 1, hd =>
          cases hd
          repeat' (first | k_extra "y" | k_extra "n" | k_extra "z")
          exact sell 1 (rC 21) 9 M5 ep5 eb5 en5 rfl rfl rfl (plb1 (by decide) (by decide) (by decide)) rfl (by decide) (by decide) (by rw [fC3.1, fC3.2]; rfl) (by rw [fC3.2]; rfl) (by decide) (by decide)
        | 2, hd =>
          cases hd
          repeat' (first | k_extra "y" | k_extra "n" | k_extra "z")
          exact sell 2 (rC 12) 9 M5 ep5 eb5 en5 rfl rfl rfl (plb1 (by decide) (by decide) (by decide)) rfl (by decide) (by decide) (by rw [fC4.1, fC4.2]; rfl) (by rw [fC4.2]; rfl) (by decide) (by decide)
        | 3, hd =>
          cases hd
          repeat' (first | k_extra "y" | k_extra "n" | k_extra "z")
          exact sell 3 (rC 3) 1 M5 ep5 eb5 en5 rfl rfl rfl (plb1 (by decide) (by decide) (by decide)) rfl (by decide) (by decide) (by rw [fC5]; rfl) (by rw [fC5]; rfl) (by decide) (by decide)
        | _ + 4, hd => cases hd
      · rintro M5 ⟨ep5, eb5, en5⟩
        have ep6 : M5 p = some (.lst [nzD nC, nzD nC, nzD nC, nzD nC5]) := ep5
        clear e1 x1 hp eb en ep5 eb5 sell
        repeat' (first | k_extra "y" | k_extra "n" | k_extra "z")
        rename_i pt hpt Mt et xt p2 hp2 Mu e2 xu
        have et1 := x1 _ _ (xu _ _ et)
        refine ⟨_, e1, by decide, by decide, by show 1 * 3 ≤ sizeLine; decide, ?_⟩
        have e21 := x1 _ _ e2
        obtain ⟨p3, hp3⟩ : ∃ x, x = p2 := ⟨p2, rfl⟩
        subst hp3
        clear et xt xu x1 e1 e2
        repeat' (first | k_extra "y" | k_extra "n" | k_extra "z")
        · show 1 + 3 ≤ sizeLine; decide
        · show 4 + 1 ≤ sizeLine; decide
        have ett : M1 pt = some (.lst [.non, nzD nC, nzD nC, nzD nC, nzD nC5]) := by k_extra "mem"
        refine ⟨_, _, _, _, _, _, _, rfl, pysC ett, pysC e1, by decide, by decide, by decide, by decide, ?_⟩
        exact k _
end
theorem all_mk {l : PySem.W.OpenLaw} {w : World} {K : PySem.W.Frag} {h : Heap} {mg : Str → Option Value} {fa : Addr} (X : K.In h) (G : h.Ns mainGlobals mg) (hfa : mg "law" = some (.ref fa))
    {C35 : Addr}
    {od40 an40 : Option Addr} {sl40 : Array (Option Value)} {oc40 kV40 dc40 pm40 cd40 ct40 : Value} {f40 : Addr}
    {od41 an41 : Option Addr} {sl41 : Array (Option Value)} {oc41 kV41 dc41 pm41 cd41 ct41 : Value} {f41 : Addr}
    {od39 an39 : Option Addr} {sl39 : Array (Option Value)} {oc39 kV39 dc39 pm39 cd39 ct39 : Value} {f39 : Addr}
    {od17 an17 : Option Addr} {sl17 : Array (Option Value)} {oc17 kV17 dc17 pm17 cd17 ct17 : Value} {f17 : Addr}
    {od21 an21 : Option Addr} {sl21 : Array (Option Value)} {oc21 kV21 dc21 pm21 cd21 ct21 : Value} {f21 : Addr}
    {od22 an22 : Option Addr} {sl22 : Array (Option Value)} {oc22 kV22 dc22 pm22 cd22 ct22 : Value} {f22 : Addr}
    {od26 an26 : Option Addr} {sl26 : Array (Option Value)} {oc26 kV26 dc26 pm26 cd26 ct26 : Value} {f26 : Addr}
    {od28 an28 : Option Addr} {sl28 : Array (Option Value)} {oc28 kV28 dc28 pm28 cd28 ct28 : Value} {f28 : Addr}
    {od29 an29 : Option Addr} {sl29 : Array (Option Value)} {oc29 kV29 dc29 pm29 cd29 ct29 : Value} {f29 : Addr}
    {od27 an27 : Option Addr} {sl27 : Array (Option Value)} {oc27 kV27 dc27 pm27 cd27 ct27 : Value} {f27 : Addr}
    {od4501 an4501 : Option Addr} {sl4501 : Array (Option Value)} {oc4501 kV4501 dc4501 pm4501 cd4501 ct4501 : Value} {f4501 : Addr}
    {p4501 : Addr} {rs4501 : List Value}
    {od4502 an4502 : Option Addr} {sl4502 : Array (Option Value)} {oc4502 kV4502 dc4502 pm4502 cd4502 ct4502 : Value} {f4502 : Addr}
    {p4502 : Addr} {rs4502 : List Value}
    {od4503 an4503 : Option Addr} {sl4503 : Array (Option Value)} {oc4503 kV4503 dc4503 pm4503 cd4503 ct4503 : Value} {f4503 : Addr}
    {od4504 an4504 : Option Addr} {sl4504 : Array (Option Value)} {oc4504 kV4504 dc4504 pm4504 cd4504 ct4504 : Value} {f4504 : Addr}
    {od4508 an4508 : Option Addr} {sl4508 : Array (Option Value)} {oc4508 kV4508 dc4508 pm4508 cd4508 ct4508 : Value} {f4508 : Addr}
    {od44 an44 : Option Addr} {sl44 : Array (Option Value)} {oc44 kV44 dc44 pm44 cd44 ct44 : Value} {f44 : Addr}
    {od46 an46 : Option Addr} {sl46 : Array (Option Value)} {oc46 kV46 dc46 pm46 cd46 ct46 : Value} {f46 : Addr}
    {od4512 an4512 : Option Addr} {sl4512 : Array (Option Value)} {oc4512 kV4512 dc4512 pm4512 cd4512 ct4512 : Value} {f4512 : Addr}
    {od48 an48 : Option Addr} {sl48 : Array (Option Value)} {oc48 kV48 dc48 pm48 cd48 ct48 : Value} {f48 : Addr}
    {od49 an49 : Option Addr} {sl49 : Array (Option Value)} {oc49 kV49 dc49 pm49 cd49 ct49 : Value} {f49 : Addr}
    {od50 an50 : Option Addr} {sl50 : Array (Option Value)} {oc50 kV50 dc50 pm50 cd50 ct50 : Value} {f50 : Addr}
    {od38 an38 : Option Addr} {sl38 : Array (Option Value)} {oc38 kV38 dc38 pm38 cd38 ct38 : Value} {f38 : Addr}
    {od37 an37 : Option Addr} {sl37 : Array (Option Value)} {oc37 kV37 dc37 pm37 cd37 ct37 : Value} {f37 : Addr}
    {od18 an18 : Option Addr} {sl18 : Array (Option Value)} {oc18 kV18 dc18 pm18 cd18 ct18 : Value} {f18 : Addr}
    {od24 an24 : Option Addr} {sl24 : Array (Option Value)} {oc24 kV24 dc24 pm24 cd24 ct24 : Value} {f24 : Addr}
    {od30 an30 : Option Addr} {sl30 : Array (Option Value)} {oc30 kV30 dc30 pm30 cd30 ct30 : Value} {f30 : Addr}
    {od45 an45 : Option Addr} {sl45 : Array (Option Value)} {oc45 kV45 dc45 pm45 cd45 ct45 : Value} {f45 : Addr}
    {od47 an47 : Option Addr} {sl47 : Array (Option Value)} {oc47 kV47 dc47 pm47 cd47 ct47 : Value} {f47 : Addr}
    {od19 an19 : Option Addr} {sl19 : Array (Option Value)} {oc19 kV19 dc19 pm19 cd19 ct19 : Value} {f19 : Addr}
    {od25 an25 : Option Addr} {sl25 : Array (Option Value)} {oc25 kV25 dc25 pm25 cd25 ct25 : Value} {f25 : Addr}
    {od4507 an4507 : Option Addr} {sl4507 : Array (Option Value)} {oc4507 kV4507 dc4507 pm4507 cd4507 ct4507 : Value} {f4507 : Addr}
    {od42 an42 : Option Addr} {sl42 : Array (Option Value)} {oc42 kV42 dc42 pm42 cd42 ct42 : Value} {f42 : Addr}
    {od4505 an4505 : Option Addr} {sl4505 : Array (Option Value)} {oc4505 kV4505 dc4505 pm4505 cd4505 ct4505 : Value} {f4505 : Addr}
    {od4506 an4506 : Option Addr} {sl4506 : Array (Option Value)} {oc4506 kV4506 dc4506 pm4506 cd4506 ct4506 : Value} {f4506 : Addr}
    {od4511 an4511 : Option Addr} {sl4511 : Array (Option Value)} {oc4511 kV4511 dc4511 pm4511 cd4511 ct4511 : Value} {f4511 : Addr}
    {od51 an51 : Option Addr} {sl51 : Array (Option Value)} {oc51 kV51 dc51 pm51 cd51 ct51 : Value} {f51 : Addr}
    {od20 an20 : Option Addr} {sl20 : Array (Option Value)} {oc20 kV20 dc20 pm20 cd20 ct20 : Value} {f20 : Addr}
    {od43 an43 : Option Addr} {sl43 : Array (Option Value)} {oc43 kV43 dc43 pm43 cd43 ct43 : Value} {f43 : Addr}
    {od4500 an4500 : Option Addr} {sl4500 : Array (Option Value)} {oc4500 kV4500 dc4500 pm4500 cd4500 ct4500 : Value} {f4500 : Addr}
    {od4509 an4509 : Option Addr} {sl4509 : Array (Option Value)} {oc4509 kV4509 dc4509 pm4509 cd4509 ct4509 : Value} {f4509 : Addr}
    {od4510 an4510 : Option Addr} {sl4510 : Array (Option Value)} {oc4510 kV4510 dc4510 pm4510 cd4510 ct4510 : Value} {f4510 : Addr}
    {od52 an52 : Option Addr} {sl52 : Array (Option Value)} {oc52 kV52 dc52 pm52 cd52 ct52 : Value} {f52 : Addr}
    {od4515 an4515 : Option Addr} {sl4515 : Array (Option Value)} {oc4515 kV4515 dc4515 pm4515 cd4515 ct4515 : Value} {f4515 : Addr}
    {od53 an53 : Option Addr} {sl53 : Array (Option Value)} {oc53 kV53 dc53 pm53 cd53 ct53 : Value} {f53 : Addr}
    {od54 an54 : Option Addr} {sl54 : Array (Option Value)} {oc54 kV54 dc54 pm54 cd54 ct54 : Value} {f54 : Addr}
    {t_MOST_LEVEL : Tok}
    {t_FILL : Tok}
    {t_PACKS : Tok}
    {t_MOST_SIZE : Tok}
    {t_MOST_DELAY : Tok}
    {t_MOST_HOUSES : Tok}
    {t_MOST_WAIT : Tok}
    {t_MOST_DEMAND : Tok}
    {t_MOST_DEEDS : Tok}
    {t_SELL : Tok}
    {t_EXCHANGE : Tok}
    {C3 fI3 cc3 da3 : Addr} {oc3 ccl3 cl3 kV3 doc3 pm3 ct3 : Value} {od3 cdd3 cld3 an3 : Option Addr} {osl3 ccs3 csl3 : Array (Option Value)} {vs3 : Array Value} {file3 : Str} {tf3 : Tok}
    {C4 fI4 cc4 da4 : Addr} {oc4 ccl4 cl4 kV4 doc4 pm4 ct4 : Value} {od4 cdd4 cld4 an4 : Option Addr} {osl4 ccs4 csl4 : Array (Option Value)} {vs4 : Array Value} {file4 : Str} {tf4 : Tok}
    {C7 fI7 cc7 da7 : Addr} {oc7 ccl7 cl7 kV7 doc7 pm7 ct7 : Value} {od7 cdd7 cld7 an7 : Option Addr} {osl7 ccs7 csl7 : Array (Option Value)} {vs7 : Array Value} {file7 : Str} {tf7 : Tok}
    {C5 fI5 cc5 da5 : Addr} {oc5 ccl5 cl5 kV5 doc5 pm5 ct5 : Value} {od5 cdd5 cld5 an5 : Option Addr} {osl5 ccs5 csl5 : Array (Option Value)} {vs5 : Array Value} {file5 : Str} {tf5 : Tok}
    {C6 fI6 cc6 da6 : Addr} {oc6 ccl6 cl6 kV6 doc6 pm6 ct6 : Value} {od6 cdd6 cld6 an6 : Option Addr} {osl6 ccs6 csl6 : Array (Option Value)} {vs6 : Array Value} {file6 : Str} {tf6 : Tok}
    (a35 : PySem.W.nsIn K mainGlobals "Led" = some (some (.ref C35))) (zc35 : clsB K C35 ["past", "later"] = true) (zi35 : insB K C35 = true) (zm35 : mkB K C35 = true)
    (a40 : PySem.W.nsIn K mainGlobals "_law_mixed" = some (some (.ref f40))) (l40 : K.lookup f40 = some ⟨oc40, od40, .func (PySem.W.fnOf "_law_mixed" "_law_mixed" (defArgs s__law_mixed) (defBody s__law_mixed) (defScope s__law_mixed) .none kV40 dc40 pm40 an40 cd40 ct40), sl40⟩) (c40 : PySem.W.codeIn K cd40 "_law_mixed" = true) (k40 : PySem.W.keepIn K (.ref f40) = true)
    (a41 : PySem.W.nsIn K mainGlobals "_law_folded" = some (some (.ref f41))) (l41 : K.lookup f41 = some ⟨oc41, od41, .func (PySem.W.fnOf "_law_folded" "_law_folded" (defArgs s__law_folded) (defBody s__law_folded) (defScope s__law_folded) .none kV41 dc41 pm41 an41 cd41 ct41), sl41⟩) (c41 : PySem.W.codeIn K cd41 "_law_folded" = true) (k41 : PySem.W.keepIn K (.ref f41) = true)
    (a39 : PySem.W.nsIn K mainGlobals "_law_like" = some (some (.ref f39))) (l39 : K.lookup f39 = some ⟨oc39, od39, .func (PySem.W.fnOf "_law_like" "_law_like" (defArgs s__law_like) (defBody s__law_like) (defScope s__law_like) .none kV39 dc39 pm39 an39 cd39 ct39), sl39⟩) (c39 : PySem.W.codeIn K cd39 "_law_like" = true) (k39 : PySem.W.keepIn K (.ref f39) = true)
    (a17 : PySem.W.nsIn K mainGlobals "is_whole" = some (some (.ref f17))) (l17 : K.lookup f17 = some ⟨oc17, od17, .func (PySem.W.fnOf "is_whole" "is_whole" (defArgs s_is_whole) (defBody s_is_whole) (defScope s_is_whole) .none kV17 dc17 pm17 an17 cd17 ct17), sl17⟩) (c17 : PySem.W.codeIn K cd17 "is_whole" = true) (k17 : PySem.W.keepIn K (.ref f17) = true)
    (a21 : PySem.W.nsIn K mainGlobals "top_of" = some (some (.ref f21))) (l21 : K.lookup f21 = some ⟨oc21, od21, .func (PySem.W.fnOf "top_of" "top_of" (defArgs s_top_of) (defBody s_top_of) (defScope s_top_of) .none kV21 dc21 pm21 an21 cd21 ct21), sl21⟩) (c21 : PySem.W.codeIn K cd21 "top_of" = true) (k21 : PySem.W.keepIn K (.ref f21) = true)
    (a22 : PySem.W.nsIn K mainGlobals "order_of" = some (some (.ref f22))) (l22 : K.lookup f22 = some ⟨oc22, od22, .func (PySem.W.fnOf "order_of" "order_of" (defArgs s_order_of) (defBody s_order_of) (defScope s_order_of) .none kV22 dc22 pm22 an22 cd22 ct22), sl22⟩) (c22 : PySem.W.codeIn K cd22 "order_of" = true) (k22 : PySem.W.keepIn K (.ref f22) = true)
    (a26 : PySem.W.nsIn K mainGlobals "arrived" = some (some (.ref f26))) (l26 : K.lookup f26 = some ⟨oc26, od26, .func (PySem.W.fnOf "arrived" "arrived" (defArgs s_arrived) (defBody s_arrived) (defScope s_arrived) .none kV26 dc26 pm26 an26 cd26 ct26), sl26⟩) (c26 : PySem.W.codeIn K cd26 "arrived" = true) (k26 : PySem.W.keepIn K (.ref f26) = true)
    (a28 : PySem.W.nsIn K mainGlobals "with_coming" = some (some (.ref f28))) (l28 : K.lookup f28 = some ⟨oc28, od28, .func (PySem.W.fnOf "with_coming" "with_coming" (defArgs s_with_coming) (defBody s_with_coming) (defScope s_with_coming) .none kV28 dc28 pm28 an28 cd28 ct28), sl28⟩) (c28 : PySem.W.codeIn K cd28 "with_coming" = true) (k28 : PySem.W.keepIn K (.ref f28) = true)
    (a29 : PySem.W.nsIn K mainGlobals "asked_of" = some (some (.ref f29))) (l29 : K.lookup f29 = some ⟨oc29, od29, .func (PySem.W.fnOf "asked_of" "asked_of" (defArgs s_asked_of) (defBody s_asked_of) (defScope s_asked_of) .none kV29 dc29 pm29 an29 cd29 ct29), sl29⟩) (c29 : PySem.W.codeIn K cd29 "asked_of" = true) (k29 : PySem.W.keepIn K (.ref f29) = true)
    (a27 : PySem.W.nsIn K mainGlobals "position_of" = some (some (.ref f27))) (l27 : K.lookup f27 = some ⟨oc27, od27, .func (PySem.W.fnOf "position_of" "position_of" (defArgs s_position_of) (defBody s_position_of) (defScope s_position_of) .none kV27 dc27 pm27 an27 cd27 ct27), sl27⟩) (c27 : PySem.W.codeIn K cd27 "position_of" = true) (k27 : PySem.W.keepIn K (.ref f27) = true)
    (i4501 : PySem.W.findIn K (.ref C35) "chain" = some (some (.ref p4501))) (r4501 : PySem.W.recIn K p4501 "property" = some (.ref f4501 :: rs4501)) (z4501 : prpB K p4501 = true)
    (l4501 : K.lookup f4501 = some ⟨oc4501, od4501, .func (PySem.W.fnOf "chain" "Led.chain" (defArgs (s_Led_chain)) (defBody (s_Led_chain)) (defScope (s_Led_chain)) .none kV4501 dc4501 pm4501 an4501 cd4501 ct4501), sl4501⟩) (c4501 : PySem.W.codeIn K cd4501 "Led.chain" = true) (k4501 : PySem.W.keepIn K (.ref f4501) = true)
    (i4502 : PySem.W.findIn K (.ref C35) "stand" = some (some (.ref p4502))) (r4502 : PySem.W.recIn K p4502 "property" = some (.ref f4502 :: rs4502)) (z4502 : prpB K p4502 = true)
    (l4502 : K.lookup f4502 = some ⟨oc4502, od4502, .func (PySem.W.fnOf "stand" "Led.stand" (defArgs (s_Led_stand)) (defBody (s_Led_stand)) (defScope (s_Led_stand)) .none kV4502 dc4502 pm4502 an4502 cd4502 ct4502), sl4502⟩) (c4502 : PySem.W.codeIn K cd4502 "Led.stand" = true) (k4502 : PySem.W.keepIn K (.ref f4502) = true)
    (i4503 : PySem.W.findIn K (.ref C35) "__len__" = some (some (.ref f4503))) (z4503 : PySem.W.isFn K (.ref f4503) = true)
    (l4503 : K.lookup f4503 = some ⟨oc4503, od4503, .func (PySem.W.fnOf "__len__" "Led.__len__" (defArgs (s_Led___len__)) (defBody (s_Led___len__)) (defScope (s_Led___len__)) .none kV4503 dc4503 pm4503 an4503 cd4503 ct4503), sl4503⟩) (c4503 : PySem.W.codeIn K cd4503 "Led.__len__" = true) (k4503 : PySem.W.keepIn K (.ref f4503) = true)
    (i4504 : PySem.W.findIn K (.ref C35) "notes" = some (some (.ref f4504))) (z4504 : PySem.W.isFn K (.ref f4504) = true)
    (l4504 : K.lookup f4504 = some ⟨oc4504, od4504, .func (PySem.W.fnOf "notes" "Led.notes" (defArgs (s_Led_notes)) (defBody (s_Led_notes)) (defScope (s_Led_notes)) .none kV4504 dc4504 pm4504 an4504 cd4504 ct4504), sl4504⟩) (c4504 : PySem.W.codeIn K cd4504 "Led.notes" = true) (k4504 : PySem.W.keepIn K (.ref f4504) = true)
    (i4508 : PySem.W.findIn K (.ref C35) "keep" = some (some (.ref f4508))) (z4508 : PySem.W.isFn K (.ref f4508) = true)
    (l4508 : K.lookup f4508 = some ⟨oc4508, od4508, .func (PySem.W.fnOf "keep" "Led.keep" (defArgs (s_Led_keep)) (defBody (s_Led_keep)) (defScope (s_Led_keep)) .none kV4508 dc4508 pm4508 an4508 cd4508 ct4508), sl4508⟩) (c4508 : PySem.W.codeIn K cd4508 "Led.keep" = true) (k4508 : PySem.W.keepIn K (.ref f4508) = true)
    (a44 : PySem.W.nsIn K mainGlobals "_law_top" = some (some (.ref f44))) (l44 : K.lookup f44 = some ⟨oc44, od44, .func (PySem.W.fnOf "_law_top" "_law_top" (defArgs s__law_top) (defBody s__law_top) (defScope s__law_top) .none kV44 dc44 pm44 an44 cd44 ct44), sl44⟩) (c44 : PySem.W.codeIn K cd44 "_law_top" = true) (k44 : PySem.W.keepIn K (.ref f44) = true)
    (a46 : PySem.W.nsIn K mainGlobals "_law_order" = some (some (.ref f46))) (l46 : K.lookup f46 = some ⟨oc46, od46, .func (PySem.W.fnOf "_law_order" "_law_order" (defArgs s__law_order) (defBody s__law_order) (defScope s__law_order) .none kV46 dc46 pm46 an46 cd46 ct46), sl46⟩) (c46 : PySem.W.codeIn K cd46 "_law_order" = true) (k46 : PySem.W.keepIn K (.ref f46) = true)
    (i4512 : PySem.W.findIn K (.ref C35) "redo" = some (some (.ref f4512))) (z4512 : PySem.W.isFn K (.ref f4512) = true)
    (l4512 : K.lookup f4512 = some ⟨oc4512, od4512, .func (PySem.W.fnOf "redo" "Led.redo" (defArgs (s_Led_redo)) (defBody (s_Led_redo)) (defScope (s_Led_redo)) .none kV4512 dc4512 pm4512 an4512 cd4512 ct4512), sl4512⟩) (c4512 : PySem.W.codeIn K cd4512 "Led.redo" = true) (k4512 : PySem.W.keepIn K (.ref f4512) = true)
    (a48 : PySem.W.nsIn K mainGlobals "_law_gone_back" = some (some (.ref f48))) (l48 : K.lookup f48 = some ⟨oc48, od48, .func (PySem.W.fnOf "_law_gone_back" "_law_gone_back" (defArgs s__law_gone_back) (defBody s__law_gone_back) (defScope s__law_gone_back) .none kV48 dc48 pm48 an48 cd48 ct48), sl48⟩) (c48 : PySem.W.codeIn K cd48 "_law_gone_back" = true) (k48 : PySem.W.keepIn K (.ref f48) = true)
    (a49 : PySem.W.nsIn K mainGlobals "_law_gone_on" = some (some (.ref f49))) (l49 : K.lookup f49 = some ⟨oc49, od49, .func (PySem.W.fnOf "_law_gone_on" "_law_gone_on" (defArgs s__law_gone_on) (defBody s__law_gone_on) (defScope s__law_gone_on) .none kV49 dc49 pm49 an49 cd49 ct49), sl49⟩) (c49 : PySem.W.codeIn K cd49 "_law_gone_on" = true) (k49 : PySem.W.keepIn K (.ref f49) = true)
    (a50 : PySem.W.nsIn K mainGlobals "_law_kept" = some (some (.ref f50))) (l50 : K.lookup f50 = some ⟨oc50, od50, .func (PySem.W.fnOf "_law_kept" "_law_kept" (defArgs s__law_kept) (defBody s__law_kept) (defScope s__law_kept) .none kV50 dc50 pm50 an50 cd50 ct50), sl50⟩) (c50 : PySem.W.codeIn K cd50 "_law_kept" = true) (k50 : PySem.W.keepIn K (.ref f50) = true)
    (a38 : PySem.W.nsIn K mainGlobals "_law_draw" = some (some (.ref f38))) (l38 : K.lookup f38 = some ⟨oc38, od38, .func (PySem.W.fnOf "_law_draw" "_law_draw" (defArgs s__law_draw) (defBody s__law_draw) (defScope s__law_draw) .none kV38 dc38 pm38 an38 cd38 ct38), sl38⟩) (c38 : PySem.W.codeIn K cd38 "_law_draw" = true) (k38 : PySem.W.keepIn K (.ref f38) = true)
    (a37 : PySem.W.nsIn K mainGlobals "_law_begun" = some (some (.ref f37))) (l37 : K.lookup f37 = some ⟨oc37, od37, .func (PySem.W.fnOf "_law_begun" "_law_begun" (defArgs s__law_begun) (defBody s__law_begun) (defScope s__law_begun) .none kV37 dc37 pm37 an37 cd37 ct37), sl37⟩) (c37 : PySem.W.codeIn K cd37 "_law_begun" = true) (k37 : PySem.W.keepIn K (.ref f37) = true)
    (a18 : PySem.W.nsIn K mainGlobals "is_rule" = some (some (.ref f18))) (l18 : K.lookup f18 = some ⟨oc18, od18, .func (PySem.W.fnOf "is_rule" "is_rule" (defArgs s_is_rule) (defBody s_is_rule) (defScope s_is_rule) .none kV18 dc18 pm18 an18 cd18 ct18), sl18⟩) (c18 : PySem.W.codeIn K cd18 "is_rule" = true) (k18 : PySem.W.keepIn K (.ref f18) = true)
    (a24 : PySem.W.nsIn K mainGlobals "begin_of" = some (some (.ref f24))) (l24 : K.lookup f24 = some ⟨oc24, od24, .func (PySem.W.fnOf "begin_of" "begin_of" (defArgs s_begin_of) (defBody s_begin_of) (defScope s_begin_of) .none kV24 dc24 pm24 an24 cd24 ct24), sl24⟩) (c24 : PySem.W.codeIn K cd24 "begin_of" = true) (k24 : PySem.W.keepIn K (.ref f24) = true)
    (a30 : PySem.W.nsIn K mainGlobals "day_of" = some (some (.ref f30))) (l30 : K.lookup f30 = some ⟨oc30, od30, .func (PySem.W.fnOf "day_of" "day_of" (defArgs s_day_of) (defBody s_day_of) (defScope s_day_of) .none kV30 dc30 pm30 an30 cd30 ct30), sl30⟩) (c30 : PySem.W.codeIn K cd30 "day_of" = true) (k30 : PySem.W.keepIn K (.ref f30) = true)
    (a45 : PySem.W.nsIn K mainGlobals "_law_first" = some (some (.ref f45))) (l45 : K.lookup f45 = some ⟨oc45, od45, .func (PySem.W.fnOf "_law_first" "_law_first" (defArgs s__law_first) (defBody s__law_first) (defScope s__law_first) .none kV45 dc45 pm45 an45 cd45 ct45), sl45⟩) (c45 : PySem.W.codeIn K cd45 "_law_first" = true) (k45 : PySem.W.keepIn K (.ref f45) = true)
    (a47 : PySem.W.nsIn K mainGlobals "_law_day" = some (some (.ref f47))) (l47 : K.lookup f47 = some ⟨oc47, od47, .func (PySem.W.fnOf "_law_day" "_law_day" (defArgs s__law_day) (defBody s__law_day) (defScope s__law_day) .none kV47 dc47 pm47 an47 cd47 ct47), sl47⟩) (c47 : PySem.W.codeIn K cd47 "_law_day" = true) (k47 : PySem.W.keepIn K (.ref f47) = true)
    (a19 : PySem.W.nsIn K mainGlobals "is_house" = some (some (.ref f19))) (l19 : K.lookup f19 = some ⟨oc19, od19, .func (PySem.W.fnOf "is_house" "is_house" (defArgs s_is_house) (defBody s_is_house) (defScope s_is_house) .none kV19 dc19 pm19 an19 cd19 ct19), sl19⟩) (c19 : PySem.W.codeIn K cd19 "is_house" = true) (k19 : PySem.W.keepIn K (.ref f19) = true)
    (a25 : PySem.W.nsIn K mainGlobals "need_demand" = some (some (.ref f25))) (l25 : K.lookup f25 = some ⟨oc25, od25, .func (PySem.W.fnOf "need_demand" "need_demand" (defArgs s_need_demand) (defBody s_need_demand) (defScope s_need_demand) .none kV25 dc25 pm25 an25 cd25 ct25), sl25⟩) (c25 : PySem.W.codeIn K cd25 "need_demand" = true) (k25 : PySem.W.keepIn K (.ref f25) = true)
    (i4507 : PySem.W.findIn K (.ref C35) "need_room" = some (some (.ref f4507))) (z4507 : PySem.W.isFn K (.ref f4507) = true)
    (l4507 : K.lookup f4507 = some ⟨oc4507, od4507, .func (PySem.W.fnOf "need_room" "Led.need_room" (defArgs (s_Led_need_room)) (defBody (s_Led_need_room)) (defScope (s_Led_need_room)) .none kV4507 dc4507 pm4507 an4507 cd4507 ct4507), sl4507⟩) (c4507 : PySem.W.codeIn K cd4507 "Led.need_room" = true) (k4507 : PySem.W.keepIn K (.ref f4507) = true)
    (a42 : PySem.W.nsIn K mainGlobals "_law_rule" = some (some (.ref f42))) (l42 : K.lookup f42 = some ⟨oc42, od42, .func (PySem.W.fnOf "_law_rule" "_law_rule" (defArgs s__law_rule) (defBody s__law_rule) (defScope s__law_rule) .none kV42 dc42 pm42 an42 cd42 ct42), sl42⟩) (c42 : PySem.W.codeIn K cd42 "_law_rule" = true) (k42 : PySem.W.keepIn K (.ref f42) = true)
    (i4505 : PySem.W.findIn K (.ref C35) "sent" = some (some (.ref f4505))) (z4505 : PySem.W.isFn K (.ref f4505) = true)
    (l4505 : K.lookup f4505 = some ⟨oc4505, od4505, .func (PySem.W.fnOf "sent" "Led.sent" (defArgs (s_Led_sent)) (defBody (s_Led_sent)) (defScope (s_Led_sent)) .none kV4505 dc4505 pm4505 an4505 cd4505 ct4505), sl4505⟩) (c4505 : PySem.W.codeIn K cd4505 "Led.sent" = true) (k4505 : PySem.W.keepIn K (.ref f4505) = true)
    (i4506 : PySem.W.findIn K (.ref C35) "lost" = some (some (.ref f4506))) (z4506 : PySem.W.isFn K (.ref f4506) = true)
    (l4506 : K.lookup f4506 = some ⟨oc4506, od4506, .func (PySem.W.fnOf "lost" "Led.lost" (defArgs (s_Led_lost)) (defBody (s_Led_lost)) (defScope (s_Led_lost)) .none kV4506 dc4506 pm4506 an4506 cd4506 ct4506), sl4506⟩) (c4506 : PySem.W.codeIn K cd4506 "Led.lost" = true) (k4506 : PySem.W.keepIn K (.ref f4506) = true)
    (i4511 : PySem.W.findIn K (.ref C35) "undo" = some (some (.ref f4511))) (z4511 : PySem.W.isFn K (.ref f4511) = true)
    (l4511 : K.lookup f4511 = some ⟨oc4511, od4511, .func (PySem.W.fnOf "undo" "Led.undo" (defArgs (s_Led_undo)) (defBody (s_Led_undo)) (defScope (s_Led_undo)) .none kV4511 dc4511 pm4511 an4511 cd4511 ct4511), sl4511⟩) (c4511 : PySem.W.codeIn K cd4511 "Led.undo" = true) (k4511 : PySem.W.keepIn K (.ref f4511) = true)
    (a51 : PySem.W.nsIn K mainGlobals "_law_own" = some (some (.ref f51))) (l51 : K.lookup f51 = some ⟨oc51, od51, .func (PySem.W.fnOf "_law_own" "_law_own" (defArgs s__law_own) (defBody s__law_own) (defScope s__law_own) .none kV51 dc51 pm51 an51 cd51 ct51), sl51⟩) (c51 : PySem.W.codeIn K cd51 "_law_own" = true) (k51 : PySem.W.keepIn K (.ref f51) = true)
    (a20 : PySem.W.nsIn K mainGlobals "need_chain" = some (some (.ref f20))) (l20 : K.lookup f20 = some ⟨oc20, od20, .func (PySem.W.fnOf "need_chain" "need_chain" (defArgs s_need_chain) (defBody s_need_chain) (defScope s_need_chain) .none kV20 dc20 pm20 an20 cd20 ct20), sl20⟩) (c20 : PySem.W.codeIn K cd20 "need_chain" = true) (k20 : PySem.W.keepIn K (.ref f20) = true)
    (a43 : PySem.W.nsIn K mainGlobals "_law_chain" = some (some (.ref f43))) (l43 : K.lookup f43 = some ⟨oc43, od43, .func (PySem.W.fnOf "_law_chain" "_law_chain" (defArgs s__law_chain) (defBody s__law_chain) (defScope s__law_chain) .none kV43 dc43 pm43 an43 cd43 ct43), sl43⟩) (c43 : PySem.W.codeIn K cd43 "_law_chain" = true) (k43 : PySem.W.keepIn K (.ref f43) = true)
    (i4500 : PySem.W.findIn K (.ref C35) "__init__" = some (some (.ref f4500))) (z4500 : PySem.W.isFn K (.ref f4500) = true)
    (l4500 : K.lookup f4500 = some ⟨oc4500, od4500, .func (PySem.W.fnOf "__init__" "Led.__init__" (defArgs (s_Led___init__)) (defBody (s_Led___init__)) (defScope (s_Led___init__)) .none kV4500 dc4500 pm4500 an4500 cd4500 ct4500), sl4500⟩) (c4500 : PySem.W.codeIn K cd4500 "Led.__init__" = true) (k4500 : PySem.W.keepIn K (.ref f4500) = true)
    (i4509 : PySem.W.findIn K (.ref C35) "sell" = some (some (.ref f4509))) (z4509 : PySem.W.isFn K (.ref f4509) = true)
    (l4509 : K.lookup f4509 = some ⟨oc4509, od4509, .func (PySem.W.fnOf "sell" "Led.sell" (defArgs (s_Led_sell)) (defBody (s_Led_sell)) (defScope (s_Led_sell)) .none kV4509 dc4509 pm4509 an4509 cd4509 ct4509), sl4509⟩) (c4509 : PySem.W.codeIn K cd4509 "Led.sell" = true) (k4509 : PySem.W.keepIn K (.ref f4509) = true)
    (i4510 : PySem.W.findIn K (.ref C35) "exchange" = some (some (.ref f4510))) (z4510 : PySem.W.isFn K (.ref f4510) = true)
    (l4510 : K.lookup f4510 = some ⟨oc4510, od4510, .func (PySem.W.fnOf "exchange" "Led.exchange" (defArgs (s_Led_exchange)) (defBody (s_Led_exchange)) (defScope (s_Led_exchange)) .none kV4510 dc4510 pm4510 an4510 cd4510 ct4510), sl4510⟩) (c4510 : PySem.W.codeIn K cd4510 "Led.exchange" = true) (k4510 : PySem.W.keepIn K (.ref f4510) = true)
    (a52 : PySem.W.nsIn K mainGlobals "_law_stands" = some (some (.ref f52))) (l52 : K.lookup f52 = some ⟨oc52, od52, .func (PySem.W.fnOf "_law_stands" "_law_stands" (defArgs s__law_stands) (defBody s__law_stands) (defScope s__law_stands) .none kV52 dc52 pm52 an52 cd52 ct52), sl52⟩) (c52 : PySem.W.codeIn K cd52 "_law_stands" = true) (k52 : PySem.W.keepIn K (.ref f52) = true)
    (i4515 : PySem.W.findIn K (.ref C35) "__eq__" = some (some (.ref f4515))) (z4515 : PySem.W.isFn K (.ref f4515) = true)
    (l4515 : K.lookup f4515 = some ⟨oc4515, od4515, .func (PySem.W.fnOf "__eq__" "Led.__eq__" (defArgs (s_Led___eq__)) (defBody (s_Led___eq__)) (defScope (s_Led___eq__)) .none kV4515 dc4515 pm4515 an4515 cd4515 ct4515), sl4515⟩) (c4515 : PySem.W.codeIn K cd4515 "Led.__eq__" = true) (k4515 : PySem.W.keepIn K (.ref f4515) = true)
    (a53 : PySem.W.nsIn K mainGlobals "_law_turn" = some (some (.ref f53))) (l53 : K.lookup f53 = some ⟨oc53, od53, .func (PySem.W.fnOf "_law_turn" "_law_turn" (defArgs s__law_turn) (defBody s__law_turn) (defScope s__law_turn) .none kV53 dc53 pm53 an53 cd53 ct53), sl53⟩) (c53 : PySem.W.codeIn K cd53 "_law_turn" = true) (k53 : PySem.W.keepIn K (.ref f53) = true)
    (a54 : PySem.W.nsIn K mainGlobals "law" = some (some (.ref f54))) (l54 : K.lookup f54 = some ⟨oc54, od54, .func (PySem.W.fnOf "law" "law" (defArgs s_law) (defBody s_law) (defScope s_law) .none kV54 dc54 pm54 an54 cd54 ct54), sl54⟩) (c54 : PySem.W.codeIn K cd54 "law" = true) (k54 : PySem.W.keepIn K (.ref f54) = true)
    (z_isinstance : PySem.W.nsIn K mainGlobals "isinstance" = some none)
    (z_int : PySem.W.nsIn K mainGlobals "int" = some none)
    (z_bool : PySem.W.nsIn K mainGlobals "bool" = some none)
    (z_tuple : PySem.W.nsIn K mainGlobals "tuple" = some none)
    (z_len : PySem.W.nsIn K mainGlobals "len" = some none)
    (z_str : PySem.W.nsIn K mainGlobals "str" = some none)
    (z_enumerate : PySem.W.nsIn K mainGlobals "enumerate" = some none)
    (z_sum : PySem.W.nsIn K mainGlobals "sum" = some none)
    (z_min : PySem.W.nsIn K mainGlobals "min" = some none)
    (z_list : PySem.W.nsIn K mainGlobals "list" = some none)
    (z_max : PySem.W.nsIn K mainGlobals "max" = some none)
    (z_repr : PySem.W.nsIn K mainGlobals "repr" = some none)
    (z_range : PySem.W.nsIn K mainGlobals "range" = some none)
    (y_MOST_LEVEL : PySem.W.nsIn K mainGlobals "MOST_LEVEL" = some (some (.int 30 t_MOST_LEVEL)))
    (y_FILL : PySem.W.nsIn K mainGlobals "FILL" = some (some (.str "fill" t_FILL)))
    (y_PACKS : PySem.W.nsIn K mainGlobals "PACKS" = some (some (.str "packs" t_PACKS)))
    (y_MOST_SIZE : PySem.W.nsIn K mainGlobals "MOST_SIZE" = some (some (.int 10 t_MOST_SIZE)))
    (y_MOST_DELAY : PySem.W.nsIn K mainGlobals "MOST_DELAY" = some (some (.int 4 t_MOST_DELAY)))
    (y_MOST_HOUSES : PySem.W.nsIn K mainGlobals "MOST_HOUSES" = some (some (.int 3 t_MOST_HOUSES)))
    (y_MOST_WAIT : PySem.W.nsIn K mainGlobals "MOST_WAIT" = some (some (.int 9 t_MOST_WAIT)))
    (y_MOST_DEMAND : PySem.W.nsIn K mainGlobals "MOST_DEMAND" = some (some (.int 9 t_MOST_DEMAND)))
    (y_MOST_DEEDS : PySem.W.nsIn K mainGlobals "MOST_DEEDS" = some (some (.int 400 t_MOST_DEEDS)))
    (y_SELL : PySem.W.nsIn K mainGlobals "SELL" = some (some (.str "sell" t_SELL)))
    (y_EXCHANGE : PySem.W.nsIn K mainGlobals "EXCHANGE" = some (some (.str "exchange" t_EXCHANGE)))
    (a3 : PySem.W.nsIn K mainGlobals "BadChain" = some (some (.ref C3))) (i3 : PySem.W.findIn K (.ref C3) "__init__" = some (some (.ref fI3))) (l3 : K.lookup fI3 = some ⟨oc3, od3, .func (PySem.W.ksFn "__init__" "BadChain.__init__" (defArgs (clsFn (top 3))) (defBody (clsFn (top 3))) (defScope (clsFn (top 3))) .none kV3 doc3 pm3 an3 (.ref da3) ct3 cc3), osl3⟩) (c3 : K.lookup da3 = some ⟨ccl3, cdd3, .fields vs3, ccs3⟩) (v3 : vs3[2]? = some (.str file3 tf3)) (f3 : ((l.prog.main.file : Str) == file3) = true) (e3 : K.lookup cc3 = some ⟨cl3, cld3, .cell (some (.ref C3)), csl3⟩) (z3 : xcB K C3 fI3 (.ref da3) "BadChain.__init__" "ValueError" "ValueError.__new__" "ValueError.__init__" bmVE ["place"] = true)
    (a4 : PySem.W.nsIn K mainGlobals "BadDemand" = some (some (.ref C4))) (i4 : PySem.W.findIn K (.ref C4) "__init__" = some (some (.ref fI4))) (l4 : K.lookup fI4 = some ⟨oc4, od4, .func (PySem.W.ksFn "__init__" "BadDemand.__init__" (defArgs (clsFn (top 4))) (defBody (clsFn (top 4))) (defScope (clsFn (top 4))) .none kV4 doc4 pm4 an4 (.ref da4) ct4 cc4), osl4⟩) (c4 : K.lookup da4 = some ⟨ccl4, cdd4, .fields vs4, ccs4⟩) (v4 : vs4[2]? = some (.str file4 tf4)) (f4 : ((l.prog.main.file : Str) == file4) = true) (e4 : K.lookup cc4 = some ⟨cl4, cld4, .cell (some (.ref C4)), csl4⟩) (z4 : xcB K C4 fI4 (.ref da4) "BadDemand.__init__" "ValueError" "ValueError.__new__" "ValueError.__init__" bmVE ["place"] = true)
    (a7 : PySem.W.nsIn K mainGlobals "TooGreat" = some (some (.ref C7))) (i7 : PySem.W.findIn K (.ref C7) "__init__" = some (some (.ref fI7))) (l7 : K.lookup fI7 = some ⟨oc7, od7, .func (PySem.W.ksFn "__init__" "TooGreat.__init__" (defArgs (clsFn (top 7))) (defBody (clsFn (top 7))) (defScope (clsFn (top 7))) .none kV7 doc7 pm7 an7 (.ref da7) ct7 cc7), osl7⟩) (c7 : K.lookup da7 = some ⟨ccl7, cdd7, .fields vs7, ccs7⟩) (v7 : vs7[2]? = some (.str file7 tf7)) (f7 : ((l.prog.main.file : Str) == file7) = true) (e7 : K.lookup cc7 = some ⟨cl7, cld7, .cell (some (.ref C7)), csl7⟩) (z7 : xcB K C7 fI7 (.ref da7) "TooGreat.__init__" "OverflowError" "OverflowError.__new__" "OverflowError.__init__" bmOE ["most"] = true)
    (a5 : PySem.W.nsIn K mainGlobals "BadNumber" = some (some (.ref C5))) (i5 : PySem.W.findIn K (.ref C5) "__init__" = some (some (.ref fI5))) (l5 : K.lookup fI5 = some ⟨oc5, od5, .func (PySem.W.ksFn "__init__" "BadNumber.__init__" (defArgs (clsFn (top 5))) (defBody (clsFn (top 5))) (defScope (clsFn (top 5))) .none kV5 doc5 pm5 an5 (.ref da5) ct5 cc5), osl5⟩) (c5 : K.lookup da5 = some ⟨ccl5, cdd5, .fields vs5, ccs5⟩) (v5 : vs5[2]? = some (.str file5 tf5)) (f5 : ((l.prog.main.file : Str) == file5) = true) (e5 : K.lookup cc5 = some ⟨cl5, cld5, .cell (some (.ref C5)), csl5⟩) (z5 : xcB K C5 fI5 (.ref da5) "BadNumber.__init__" "ValueError" "ValueError.__new__" "ValueError.__init__" bmVE ["value"] = true)
    (a6 : PySem.W.nsIn K mainGlobals "BadRule" = some (some (.ref C6))) (i6 : PySem.W.findIn K (.ref C6) "__init__" = some (some (.ref fI6))) (l6 : K.lookup fI6 = some ⟨oc6, od6, .func (PySem.W.ksFn "__init__" "BadRule.__init__" (defArgs (clsFn (top 6))) (defBody (clsFn (top 6))) (defScope (clsFn (top 6))) .none kV6 doc6 pm6 an6 (.ref da6) ct6 cc6), osl6⟩) (c6 : K.lookup da6 = some ⟨ccl6, cdd6, .fields vs6, ccs6⟩) (v6 : vs6[2]? = some (.str file6 tf6)) (f6 : ((l.prog.main.file : Str) == file6) = true) (e6 : K.lookup cc6 = some ⟨cl6, cld6, .cell (some (.ref C6)), csl6⟩) (z6 : xcB K C6 fI6 (.ref da6) "BadRule.__init__" "ValueError" "ValueError.__new__" "ValueError.__init__" bmVE ["value"] = true)
    (sp0 : PySem.W.nsIn K mainGlobals "super" = some none) (top0 : (l.prog.main.scope.names.lookup ("super" : Str)).isSome = false) (tab0 : tabB K ctab cown cbts = true)
    : ∃ fd : FuncData, (∀ (s : Shared) (v : Value), BindsTo s fd ⟨[v], []⟩ [("_law_script", v)]) ∧ ∀ base : Heap, K.In base → base.Ns mainGlobals mg → Fn2 l.prog w K mg base 8 fa fd ["_law_script"] (spLaw 63) := by
  have e := hfa.symm.trans (PySem.W.mg_of X G a54)
  cases e
  have zz3 := xcB_ok z3
  have X_BadChain : XDef l.prog w K mg "BadChain" ["place"] := xdef_of X G a3 zz3 (mk1 (st := clsFn (top 3)) (zz3.k base_VE) i3 zz3.isf l3 zz3.hcd c3 v3 f3 e3 top0 (PySem.W.mg_none_of X G sp0) rfl rfl rfl (by decide) (fun _ _ _ => .of_eq rfl) rfl rfl rfl (by decide +kernel) rfl rfl rfl rfl (by decide) (by decide) (fun _ => rfl) (fun _ => rfl) (fun _ => rfl) (fun _ => rfl))
  have zz4 := xcB_ok z4
  have X_BadDemand : XDef l.prog w K mg "BadDemand" ["place"] := xdef_of X G a4 zz4 (mk1 (st := clsFn (top 4)) (zz4.k base_VE) i4 zz4.isf l4 zz4.hcd c4 v4 f4 e4 top0 (PySem.W.mg_none_of X G sp0) rfl rfl rfl (by decide) (fun _ _ _ => .of_eq rfl) rfl rfl rfl (by decide +kernel) rfl rfl rfl rfl (by decide) (by decide) (fun _ => rfl) (fun _ => rfl) (fun _ => rfl) (fun _ => rfl))
  have zz5 := xcB_ok z5
  have X_BadNumber : XDef l.prog w K mg "BadNumber" ["value"] := xdef_of X G a5 zz5 (mk1 (st := clsFn (top 5)) (zz5.k base_VE) i5 zz5.isf l5 zz5.hcd c5 v5 f5 e5 top0 (PySem.W.mg_none_of X G sp0) rfl rfl rfl (by decide) (fun _ _ _ => .of_eq rfl) rfl rfl rfl (by decide +kernel) rfl rfl rfl rfl (by decide) (by decide) (fun _ => rfl) (fun _ => rfl) (fun _ => rfl) (fun _ => rfl))
  have zz6 := xcB_ok z6
  have X_BadRule : XDef l.prog w K mg "BadRule" ["value"] := xdef_of X G a6 zz6 (mk1 (st := clsFn (top 6)) (zz6.k base_VE) i6 zz6.isf l6 zz6.hcd c6 v6 f6 e6 top0 (PySem.W.mg_none_of X G sp0) rfl rfl rfl (by decide) (fun _ _ _ => .of_eq rfl) rfl rfl rfl (by decide +kernel) rfl rfl rfl rfl (by decide) (by decide) (fun _ => rfl) (fun _ => rfl) (fun _ => rfl) (fun _ => rfl))
  have zz7 := xcB_ok z7
  have X_TooGreat : XDef l.prog w K mg "TooGreat" ["most"] := xdef_of X G a7 zz7 (mk1 (st := clsFn (top 7)) (zz7.k base_OE) i7 zz7.isf l7 zz7.hcd c7 v7 f7 e7 top0 (PySem.W.mg_none_of X G sp0) rfl rfl rfl (by decide) (fun _ _ _ => .of_eq rfl) rfl rfl rfl (by decide +kernel) rfl rfl rfl rfl (by decide) (by decide) (fun _ => rfl) (fun _ => rfl) (fun _ => rfl) (fun _ => rfl))
  have CF35 := clsB_ok (n := "Led") a35 zc35
  have F40 := fun_mk (st := s__law_mixed) l40 c40 k40
  have b40 := F40.binds (ps := ["_law_cell", "_law_n"]) fun _ _ _ _ _ _ us hl => match us, hl with | [_, _], _ => rfl
  have F41 := fun_mk (st := s__law_folded) l41 c41 k41
  have b41 := F41.binds (ps := ["_law_script"]) fun _ _ _ _ _ _ us hl => match us, hl with | [_], _ => rfl
  have F39 := fun_mk (st := s__law_like) l39 c39 k39
  have b39 := F39.binds (ps := ["_law_answer", "_law_due"]) fun _ _ _ _ _ _ us hl => match us, hl with | [_, _], _ => rfl
  have F17 := fun_mk (st := s_is_whole) l17 c17 k17
  have b17 := F17.binds (ps := ["value", "least", "most"]) fun _ _ _ _ _ _ us hl => match us, hl with | [_, _, _], _ => rfl
  have F21 := fun_mk (st := s_top_of) l21 c21 k21
  have b21 := F21.binds (ps := ["house"]) fun _ _ _ _ _ _ us hl => match us, hl with | [_], _ => rfl
  have F22 := fun_mk (st := s_order_of) l22 c22 k22
  have b22 := F22.binds (ps := ["house", "position"]) fun _ _ _ _ _ _ us hl => match us, hl with | [_, _], _ => rfl
  have F26 := fun_mk (st := s_arrived) l26 c26 k26
  have b26 := F26.binds (ps := ["stand"]) fun _ _ _ _ _ _ us hl => match us, hl with | [_], _ => rfl
  have F28 := fun_mk (st := s_with_coming) l28 c28 k28
  have b28 := F28.binds (ps := ["place", "more"]) fun _ _ _ _ _ _ us hl => match us, hl with | [_, _], _ => rfl
  have F29 := fun_mk (st := s_asked_of) l29 c29 k29
  have b29 := F29.binds (ps := ["place", "asked"]) fun _ _ _ _ _ _ us hl => match us, hl with | [_, _], _ => rfl
  have F27 := fun_mk (st := s_position_of) l27 c27 k27
  have b27 := F27.binds (ps := ["stand", "number"]) fun _ _ _ _ _ _ us hl => match us, hl with | [_, _], _ => rfl
  have F4501 := fun_mk (st := s_Led_chain) l4501 c4501 k4501
  have b4501 := F4501.binds (ps := ["self"]) fun _ _ _ _ _ _ us hl => match us, hl with | [_], _ => rfl
  have F4502 := fun_mk (st := s_Led_stand) l4502 c4502 k4502
  have b4502 := F4502.binds (ps := ["self"]) fun _ _ _ _ _ _ us hl => match us, hl with | [_], _ => rfl
  have F4503 := fun_mk (st := s_Led___len__) l4503 c4503 k4503
  have b4503 := F4503.binds (ps := ["self"]) fun _ _ _ _ _ _ us hl => match us, hl with | [_], _ => rfl
  have F4504 := fun_mk (st := s_Led_notes) l4504 c4504 k4504
  have b4504 := F4504.binds (ps := ["self"]) fun _ _ _ _ _ _ us hl => match us, hl with | [_], _ => rfl
  have F4508 := fun_mk (st := s_Led_keep) l4508 c4508 k4508
  have b4508 := F4508.binds (ps := ["self", "one"]) fun _ _ _ _ _ _ us hl => match us, hl with | [_, _], _ => rfl
  have F44 := fun_mk (st := s__law_top) l44 c44 k44
  have b44 := F44.binds (ps := ["_law_rule_here"]) fun _ _ _ _ _ _ us hl => match us, hl with | [_], _ => rfl
  have F46 := fun_mk (st := s__law_order) l46 c46 k46
  have b46 := F46.binds (ps := ["_law_rule_here", "_law_place"]) fun _ _ _ _ _ _ us hl => match us, hl with | [_, _], _ => rfl
  have F4512 := fun_mk (st := s_Led_redo) l4512 c4512 k4512
  have b4512 := F4512.binds (ps := ["self"]) fun _ _ _ _ _ _ us hl => match us, hl with | [_], _ => rfl
  have F48 := fun_mk (st := s__law_gone_back) l48 c48 k48
  have b48 := F48.binds (ps := ["_law_own_here"]) fun _ _ _ _ _ _ us hl => match us, hl with | [_], _ => rfl
  have F49 := fun_mk (st := s__law_gone_on) l49 c49 k49
  have b49 := F49.binds (ps := ["_law_own_here"]) fun _ _ _ _ _ _ us hl => match us, hl with | [_], _ => rfl
  have F50 := fun_mk (st := s__law_kept) l50 c50 k50
  have b50 := F50.binds (ps := ["_law_own_here", "_law_deed_so", "_law_chain_so", "_law_stand_so", "_law_note"]) fun _ _ _ _ _ _ us hl => match us, hl with | [_, _, _, _, _], _ => rfl
  have F38 := fun_mk (st := s__law_draw) l38 c38 k38
  have b38 := F38.binds (ps := ["_law_m", "_law_limit"]) fun _ _ _ _ _ _ us hl => match us, hl with | [_, _], _ => rfl
  have F37 := fun_mk (st := s__law_begun) l37 c37 k37
  have b37 := F37.binds (ps := ["_law_script"]) fun _ _ _ _ _ _ us hl => match us, hl with | [_], _ => rfl
  have F18 := fun_mk (st := s_is_rule) l18 c18 k18
  have b18 := F18.binds (ps := ["value"]) fun _ _ _ _ _ _ us hl => match us, hl with | [_], _ => rfl
  have F24 := fun_mk (st := s_begin_of) l24 c24 k24
  have b24 := F24.binds (ps := ["chain"]) fun _ _ _ _ _ _ us hl => match us, hl with | [_], _ => rfl
  have F30 := fun_mk (st := s_day_of) l30 c30 k30
  have b30 := F30.binds (ps := ["chain", "stand", "demand"]) fun _ _ _ _ _ _ us hl => match us, hl with | [_, _, _], _ => rfl
  have F45 := fun_mk (st := s__law_first) l45 c45 k45
  have b45 := F45.binds (ps := ["_law_chain_so"]) fun _ _ _ _ _ _ us hl => match us, hl with | [_], _ => rfl
  have F47 := fun_mk (st := s__law_day) l47 c47 k47
  have b47 := F47.binds (ps := ["_law_chain_so", "_law_stand_so", "_law_demand"]) fun _ _ _ _ _ _ us hl => match us, hl with | [_, _, _], _ => rfl
  have F19 := fun_mk (st := s_is_house) l19 c19 k19
  have b19 := F19.binds (ps := ["value"]) fun _ _ _ _ _ _ us hl => match us, hl with | [_], _ => rfl
  have F25 := fun_mk (st := s_need_demand) l25 c25 k25
  have b25 := F25.binds (ps := ["demand"]) fun _ _ _ _ _ _ us hl => match us, hl with | [_], _ => rfl
  have F4507 := fun_mk (st := s_Led_need_room) l4507 c4507 k4507
  have b4507 := F4507.binds (ps := ["self"]) fun _ _ _ _ _ _ us hl => match us, hl with | [_], _ => rfl
  have F42 := fun_mk (st := s__law_rule) l42 c42 k42
  have b42 := F42.binds (ps := ["_law_m", "_law_low", "_law_wide"]) fun _ _ _ _ _ _ us hl => match us, hl with | [_, _, _], _ => rfl
  have F4505 := fun_mk (st := s_Led_sent) l4505 c4505 k4505
  have b4505 := F4505.binds (ps := ["self"]) fun _ _ _ _ _ _ us hl => match us, hl with | [_], _ => rfl
  have F4506 := fun_mk (st := s_Led_lost) l4506 c4506 k4506
  have b4506 := F4506.binds (ps := ["self"]) fun _ _ _ _ _ _ us hl => match us, hl with | [_], _ => rfl
  have F4511 := fun_mk (st := s_Led_undo) l4511 c4511 k4511
  have b4511 := F4511.binds (ps := ["self"]) fun _ _ _ _ _ _ us hl => match us, hl with | [_], _ => rfl
  have F51 := fun_mk (st := s__law_own) l51 c51 k51
  have b51 := F51.binds (ps := ["_law_chain_so"]) fun _ _ _ _ _ _ us hl => match us, hl with | [_], _ => rfl
  have F20 := fun_mk (st := s_need_chain) l20 c20 k20
  have b20 := F20.binds (ps := ["chain"]) fun _ _ _ _ _ _ us hl => match us, hl with | [_], _ => rfl
  have F43 := fun_mk (st := s__law_chain) l43 c43 k43
  have b43 := F43.binds (ps := ["_law_m", "_law_most", "_law_low", "_law_wide"]) fun _ _ _ _ _ _ us hl => match us, hl with | [_, _, _, _], _ => rfl
  have F4500 := fun_mk (st := s_Led___init__) l4500 c4500 k4500
  have b4500 := F4500.binds (ps := ["self", "chain"]) fun _ _ _ _ _ _ us hl => match us, hl with | [_, _], _ => rfl
  have F4509 := fun_mk (st := s_Led_sell) l4509 c4509 k4509
  have b4509 := F4509.binds (ps := ["self", "demand"]) fun _ _ _ _ _ _ us hl => match us, hl with | [_, _], _ => rfl
  have F4510 := fun_mk (st := s_Led_exchange) l4510 c4510 k4510
  have b4510 := F4510.binds (ps := ["self", "number", "rule"]) fun _ _ _ _ _ _ us hl => match us, hl with | [_, _, _], _ => rfl
  have F52 := fun_mk (st := s__law_stands) l52 c52 k52
  have b52 := F52.binds (ps := ["_law_led", "_law_own_here"]) fun _ _ _ _ _ _ us hl => match us, hl with | [_, _], _ => rfl
  have F4515 := fun_mk (st := s_Led___eq__) l4515 c4515 k4515
  have b4515 := F4515.binds (ps := ["self", "other"]) fun _ _ _ _ _ _ us hl => match us, hl with | [_, _], _ => rfl
  have F53 := fun_mk (st := s__law_turn) l53 c53 k53
  have b53 := F53.binds (ps := ["_law_m", "_law_led", "_law_own_here"]) fun _ _ _ _ _ _ us hl => match us, hl with | [_, _, _], _ => rfl
  have F54 := fun_mk (st := s_law) l54 c54 k54
  have b54 := F54.binds (ps := ["_law_script"]) fun _ _ _ _ _ _ us hl => match us, hl with | [_], _ => rfl
  refine ⟨PySem.W.fnOf "law" "law" (defArgs s_law) (defBody s_law) (defScope s_law) .none kV54 dc54 pm54 an54 cd54 ct54, fun s v => .of_eq rfl, fun base _ _ => ?_⟩
  have T : Txt l.prog w K mg base := ⟨PySem.W.mg_none_of X G z_isinstance, PySem.W.mg_none_of X G z_int, PySem.W.mg_none_of X G z_bool, PySem.W.mg_none_of X G z_tuple, PySem.W.mg_none_of X G z_len, PySem.W.mg_none_of X G z_str, PySem.W.mg_none_of X G z_enumerate, PySem.W.mg_none_of X G z_sum, PySem.W.mg_none_of X G z_min, PySem.W.mg_none_of X G z_list, PySem.W.mg_none_of X G z_max, PySem.W.mg_none_of X G z_repr, PySem.W.mg_none_of X G z_range, ⟨_, PySem.W.mg_of X G y_MOST_LEVEL⟩, ⟨_, PySem.W.mg_of X G y_FILL⟩, ⟨_, PySem.W.mg_of X G y_PACKS⟩, ⟨_, PySem.W.mg_of X G y_MOST_SIZE⟩, ⟨_, PySem.W.mg_of X G y_MOST_DELAY⟩, ⟨_, PySem.W.mg_of X G y_MOST_HOUSES⟩, ⟨_, PySem.W.mg_of X G y_MOST_WAIT⟩, ⟨_, PySem.W.mg_of X G y_MOST_DEMAND⟩, ⟨_, PySem.W.mg_of X G y_MOST_DEEDS⟩, ⟨_, PySem.W.mg_of X G y_SELL⟩, ⟨_, PySem.W.mg_of X G y_EXCHANGE⟩, X_BadChain, X_BadDemand, X_BadNumber, X_BadRule, X_TooGreat, tab0, xnm_of X G a35, CF35, insN_of a35 CF35 zi35⟩
  have G40 : Def2 l.prog w K mg base 1 "_law_mixed" ["_law_cell", "_law_n"] sp__law_mixed := ⟨_, _, PySem.W.mg_of X G a40, k40, b40, ok__law_mixed F40 T ⟩
  have G41 : Def2 l.prog w K mg base 1 "_law_folded" ["_law_script"] sp__law_folded := ⟨_, _, PySem.W.mg_of X G a41, k41, b41, ok__law_folded F41 T ⟩
  have G39 : Def2 l.prog w K mg base 1 "_law_like" ["_law_answer", "_law_due"] sp__law_like := ⟨_, _, PySem.W.mg_of X G a39, k39, b39, ok__law_like F39 T ⟩
  have G17 : Def2 l.prog w K mg base 1 "is_whole" ["value", "least", "most"] sp_is_whole := ⟨_, _, PySem.W.mg_of X G a17, k17, b17, ok_is_whole F17 T ⟩
  have G21 : Def2 l.prog w K mg base 1 "top_of" ["house"] sp_top_of := ⟨_, _, PySem.W.mg_of X G a21, k21, b21, ok_top_of F21 T ⟩
  have G22 : Def2 l.prog w K mg base 1 "order_of" ["house", "position"] sp_order_of := ⟨_, _, PySem.W.mg_of X G a22, k22, b22, ok_order_of F22 T ⟩
  have G26 : Def2 l.prog w K mg base 1 "arrived" ["stand"] sp_arrived := ⟨_, _, PySem.W.mg_of X G a26, k26, b26, ok_arrived F26 T ⟩
  have G28 : Def2 l.prog w K mg base 1 "with_coming" ["place", "more"] sp_with_coming := ⟨_, _, PySem.W.mg_of X G a28, k28, b28, ok_with_coming F28 T ⟩
  have G29 : Def2 l.prog w K mg base 1 "asked_of" ["place", "asked"] sp_asked_of := ⟨_, _, PySem.W.mg_of X G a29, k29, b29, ok_asked_of F29 T ⟩
  have G27 : Def2 l.prog w K mg base 1 "position_of" ["stand", "number"] sp_position_of := ⟨_, _, PySem.W.mg_of X G a27, k27, b27, ok_position_of F27 T ⟩
  have G4501 : Prp2 l.prog w K mg base 1 "Led" "chain" ["self"] (sp_Led_chain K) := prp2_of a35 CF35 i4501 r4501 z4501 b4501 (ok_Led_chain F4501 T )
  have G4502 : Prp2 l.prog w K mg base 1 "Led" "stand" ["self"] (sp_Led_stand K) := prp2_of a35 CF35 i4502 r4502 z4502 b4502 (ok_Led_stand F4502 T )
  have G4503 : Met2 l.prog w K mg base 1 "Led" "__len__" ["self"] (sp_Led___len__ K) := met2_of a35 CF35 i4503 z4503 k4503 b4503 (ok_Led___len__ F4503 T )
  have G4504 : Met2 l.prog w K mg base 1 "Led" "notes" ["self"] (sp_Led_notes K) := met2_of a35 CF35 i4504 z4504 k4504 b4504 (ok_Led_notes F4504 T )
  have G4508 : Met2 l.prog w K mg base 1 "Led" "keep" ["self", "one"] (sp_Led_keep K) := met2_of a35 CF35 i4508 z4508 k4508 b4508 (ok_Led_keep F4508 T )
  have G44 : Def2 l.prog w K mg base 1 "_law_top" ["_law_rule_here"] sp__law_top := ⟨_, _, PySem.W.mg_of X G a44, k44, b44, ok__law_top F44 T ⟩
  have G46 : Def2 l.prog w K mg base 1 "_law_order" ["_law_rule_here", "_law_place"] sp__law_order := ⟨_, _, PySem.W.mg_of X G a46, k46, b46, ok__law_order F46 T ⟩
  have G4512 : Met2 l.prog w K mg base 1 "Led" "redo" ["self"] (sp_Led_redo K) := met2_of a35 CF35 i4512 z4512 k4512 b4512 (ok_Led_redo F4512 T )
  have G48 : Def2 l.prog w K mg base 1 "_law_gone_back" ["_law_own_here"] sp__law_gone_back := ⟨_, _, PySem.W.mg_of X G a48, k48, b48, ok__law_gone_back F48 T ⟩
  have G49 : Def2 l.prog w K mg base 1 "_law_gone_on" ["_law_own_here"] sp__law_gone_on := ⟨_, _, PySem.W.mg_of X G a49, k49, b49, ok__law_gone_on F49 T ⟩
  have G50 : Def2 l.prog w K mg base 1 "_law_kept" ["_law_own_here", "_law_deed_so", "_law_chain_so", "_law_stand_so", "_law_note"] sp__law_kept := ⟨_, _, PySem.W.mg_of X G a50, k50, b50, ok__law_kept F50 T ⟩
  have G38 : Def2 l.prog w K mg base 2 "_law_draw" ["_law_m", "_law_limit"] sp__law_draw := ⟨_, _, PySem.W.mg_of X G a38, k38, b38, ok__law_draw F38 T G40⟩
  have G37 : Def2 l.prog w K mg base 2 "_law_begun" ["_law_script"] sp__law_begun := ⟨_, _, PySem.W.mg_of X G a37, k37, b37, ok__law_begun F37 T G41⟩
  have G18 : Def2 l.prog w K mg base 2 "is_rule" ["value"] sp_is_rule := ⟨_, _, PySem.W.mg_of X G a18, k18, b18, ok_is_rule F18 T G17⟩
  have G24 : Def2 l.prog w K mg base 2 "begin_of" ["chain"] sp_begin_of := ⟨_, _, PySem.W.mg_of X G a24, k24, b24, ok_begin_of F24 T G21⟩
  have G30 : Def2 l.prog w K mg base 2 "day_of" ["chain", "stand", "demand"] sp_day_of := ⟨_, _, PySem.W.mg_of X G a30, k30, b30, ok_day_of F30 T G22 G26 G27 G28 G29⟩
  have G45 : Def2 l.prog w K mg base 2 "_law_first" ["_law_chain_so"] sp__law_first := ⟨_, _, PySem.W.mg_of X G a45, k45, b45, ok__law_first F45 T G44⟩
  have G47 : Def2 l.prog w K mg base 2 "_law_day" ["_law_chain_so", "_law_stand_so", "_law_demand"] sp__law_day := ⟨_, _, PySem.W.mg_of X G a47, k47, b47, ok__law_day F47 T G46⟩
  have G19 : Def2 l.prog w K mg base 3 "is_house" ["value"] sp_is_house := ⟨_, _, PySem.W.mg_of X G a19, k19, b19, ok_is_house F19 T G17 G18⟩
  have G25 : Def2 l.prog w K mg base 3 "need_demand" ["demand"] sp_need_demand := ⟨_, _, PySem.W.mg_of X G a25, k25, b25, ok_need_demand F25 T G17⟩
  have G4507 : Met2 l.prog w K mg base 3 "Led" "need_room" ["self"] (sp_Led_need_room K) := met2_of a35 CF35 i4507 z4507 k4507 b4507 (ok_Led_need_room F4507 T G4503)
  have G42 : Def2 l.prog w K mg base 3 "_law_rule" ["_law_m", "_law_low", "_law_wide"] sp__law_rule := ⟨_, _, PySem.W.mg_of X G a42, k42, b42, ok__law_rule F42 T G38⟩
  have G4505 : Met2 l.prog w K mg base 3 "Led" "sent" ["self"] (sp_Led_sent K) := met2_of a35 CF35 i4505 z4505 k4505 b4505 (ok_Led_sent F4505 T G4504)
  have G4506 : Met2 l.prog w K mg base 3 "Led" "lost" ["self"] (sp_Led_lost K) := met2_of a35 CF35 i4506 z4506 k4506 b4506 (ok_Led_lost F4506 T G4504)
  have G4511 : Met2 l.prog w K mg base 3 "Led" "undo" ["self"] (sp_Led_undo K) := met2_of a35 CF35 i4511 z4511 k4511 b4511 (ok_Led_undo F4511 T G4503)
  have G51 : Def2 l.prog w K mg base 3 "_law_own" ["_law_chain_so"] sp__law_own := ⟨_, _, PySem.W.mg_of X G a51, k51, b51, ok__law_own F51 T G45⟩
  have G20 : Def2 l.prog w K mg base 4 "need_chain" ["chain"] sp_need_chain := ⟨_, _, PySem.W.mg_of X G a20, k20, b20, ok_need_chain F20 T G17 G19⟩
  have G43 : Def2 l.prog w K mg base 4 "_law_chain" ["_law_m", "_law_most", "_law_low", "_law_wide"] sp__law_chain := ⟨_, _, PySem.W.mg_of X G a43, k43, b43, ok__law_chain F43 T G38 G42⟩
  have G4500 : Mak2 l.prog w K mg base 5 "Led" ["self", "chain"] (sp_Led___init__ K) := mak2_of a35 (PySem.W.mg_of X G a35) i4500 z4500 zm35 b4500 (ok_Led___init__ F4500 T G20 G24)
  have G4509 : Met2 l.prog w K mg base 5 "Led" "sell" ["self", "demand"] (sp_Led_sell K) := met2_of a35 CF35 i4509 z4509 k4509 b4509 (ok_Led_sell F4509 T G25 G30 G4501 G4502 G4507 G4508)
  have G4510 : Met2 l.prog w K mg base 5 "Led" "exchange" ["self", "number", "rule"] (sp_Led_exchange K) := met2_of a35 CF35 i4510 z4510 k4510 b4510 (ok_Led_exchange F4510 T G17 G18 G4501 G4502 G4507 G4508)
  have G52 : Def2 l.prog w K mg base 5 "_law_stands" ["_law_led", "_law_own_here"] (sp__law_stands K) := ⟨_, _, PySem.W.mg_of X G a52, k52, b52, ok__law_stands F52 T G39 G4501 G4502 G4503 G4504 G4505 G4506⟩
  have G4515 : Met2 l.prog w K mg base 7 "Led" "__eq__" ["self", "other"] (sp_Led___eq__ K) := met2_of a35 CF35 i4515 z4515 k4515 b4515 (ok_Led___eq__ F4515 T G4500)
  have G53 : Def2 l.prog w K mg base 7 "_law_turn" ["_law_m", "_law_led", "_law_own_here"] (sp__law_turn K) := ⟨_, _, PySem.W.mg_of X G a53, k53, b53, ok__law_turn F53 T G38 G39 G42 G47 G48 G49 G50 G4509 G4510 G4511 G4512⟩
  exact ok_law F54 T G37 G38 G39 G43 G48 G49 G51 G52 G53 G4500 G4502 G4503 G4505 G4506 G4509 G4510 G4511 G4512
end K90
open PySem PySem.W PyProof.Rows
set_option maxRecDepth 100000 in
set_option maxHeartbeats 0 in
theorem PySem.Challenge.cw_uporders_k90_whole_led_chains_holds : PySem.Challenge.rw_uporders_k90_whole_led_chains.Holds := by
  w_on; o_law; k_head; (case hw => w_witness2)
  k_fill
  refine Y.walk2 (l := PySem.Challenge.rw_uporders_k90_whole_led_chains) (n := 63) (k := 8) (x := "_law_script") rfl (by decide) rfl ⟨rfl, by decide, by decide⟩ (fun w h Y => PySem.W.kIn_of Y) ?F
  case F =>
    intro w mg fa h KX G hmg
    refine' K90.all_mk KX G hmg ?a35 ?zc35 ?zi35 ?zm35 ?a40 ?l40 ?c40 ?k40 ?a41 ?l41 ?c41 ?k41 ?a39 ?l39 ?c39 ?k39 ?a17 ?l17 ?c17 ?k17 ?a21 ?l21 ?c21 ?k21 ?a22 ?l22 ?c22 ?k22 ?a26 ?l26 ?c26 ?k26 ?a28 ?l28 ?c28 ?k28 ?a29 ?l29 ?c29 ?k29 ?a27 ?l27 ?c27 ?k27 ?i4501 ?r4501 ?z4501 ?l4501 ?c4501 ?k4501 ?i4502 ?r4502 ?z4502 ?l4502 ?c4502 ?k4502 ?i4503 ?z4503 ?l4503 ?c4503 ?k4503 ?i4504 ?z4504 ?l4504 ?c4504 ?k4504 ?i4508 ?z4508 ?l4508 ?c4508 ?k4508 ?a44 ?l44 ?c44 ?k44 ?a46 ?l46 ?c46 ?k46 ?i4512 ?z4512 ?l4512 ?c4512 ?k4512 ?a48 ?l48 ?c48 ?k48 ?a49 ?l49 ?c49 ?k49 ?a50 ?l50 ?c50 ?k50 ?a38 ?l38 ?c38 ?k38 ?a37 ?l37 ?c37 ?k37 ?a18 ?l18 ?c18 ?k18 ?a24 ?l24 ?c24 ?k24 ?a30 ?l30 ?c30 ?k30 ?a45 ?l45 ?c45 ?k45 ?a47 ?l47 ?c47 ?k47 ?a19 ?l19 ?c19 ?k19 ?a25 ?l25 ?c25 ?k25 ?i4507 ?z4507 ?l4507 ?c4507 ?k4507 ?a42 ?l42 ?c42 ?k42 ?i4505 ?z4505 ?l4505 ?c4505 ?k4505 ?i4506 ?z4506 ?l4506 ?c4506 ?k4506 ?i4511 ?z4511 ?l4511 ?c4511 ?k4511 ?a51 ?l51 ?c51 ?k51 ?a20 ?l20 ?c20 ?k20 ?a43 ?l43 ?c43 ?k43 ?i4500 ?z4500 ?l4500 ?c4500 ?k4500 ?i4509 ?z4509 ?l4509 ?c4509 ?k4509 ?i4510 ?z4510 ?l4510 ?c4510 ?k4510 ?a52 ?l52 ?c52 ?k52 ?i4515 ?z4515 ?l4515 ?c4515 ?k4515 ?a53 ?l53 ?c53 ?k53 ?a54 ?l54 ?c54 ?k54 ?z_isinstance ?z_int ?z_bool ?z_tuple ?z_len ?z_str ?z_enumerate ?z_sum ?z_min ?z_list ?z_max ?z_repr ?z_range ?y_MOST_LEVEL ?y_FILL ?y_PACKS ?y_MOST_SIZE ?y_MOST_DELAY ?y_MOST_HOUSES ?y_MOST_WAIT ?y_MOST_DEMAND ?y_MOST_DEEDS ?y_SELL ?y_EXCHANGE ?a3 ?i3 ?l3 ?c3 ?v3 ?f3 ?e3 ?z3 ?a4 ?i4 ?l4 ?c4 ?v4 ?f4 ?e4 ?z4 ?a7 ?i7 ?l7 ?c7 ?v7 ?f7 ?e7 ?z7 ?a5 ?i5 ?l5 ?c5 ?v5 ?f5 ?e5 ?z5 ?a6 ?i6 ?l6 ?c6 ?v6 ?f6 ?e6 ?z6 ?sp0 ?top0 ?tab0
    (case a35 => k_is); (case a40 => k_is); (case l40 => k_is); (case c40 => k_is); (case k40 => k_is); (case a41 => k_is)
    (case l41 => k_is); (case c41 => k_is); (case k41 => k_is); (case a39 => k_is); (case l39 => k_is); (case c39 => k_is)
    (case k39 => k_is); (case a17 => k_is); (case l17 => k_is); (case c17 => k_is); (case k17 => k_is); (case a21 => k_is)
    (case l21 => k_is); (case c21 => k_is); (case k21 => k_is); (case a22 => k_is); (case l22 => k_is); (case c22 => k_is)
    (case k22 => k_is); (case a26 => k_is); (case l26 => k_is); (case c26 => k_is); (case k26 => k_is); (case a28 => k_is)
    (case l28 => k_is); (case c28 => k_is); (case k28 => k_is); (case a29 => k_is); (case l29 => k_is); (case c29 => k_is)
    (case k29 => k_is); (case a27 => k_is); (case l27 => k_is); (case c27 => k_is); (case k27 => k_is); (case i4501 => k_is)
    (case r4501 => k_is); (case l4501 => k_is); (case c4501 => k_is); (case k4501 => k_is); (case i4502 => k_is); (case r4502 => k_is)
    (case l4502 => k_is); (case c4502 => k_is); (case k4502 => k_is); (case i4503 => k_is); (case l4503 => k_is); (case c4503 => k_is)
    (case k4503 => k_is); (case i4504 => k_is); (case l4504 => k_is); (case c4504 => k_is); (case k4504 => k_is); (case i4508 => k_is)
    (case l4508 => k_is); (case c4508 => k_is); (case k4508 => k_is); (case a44 => k_is); (case l44 => k_is); (case c44 => k_is)
    (case k44 => k_is); (case a46 => k_is); (case l46 => k_is); (case c46 => k_is); (case k46 => k_is); (case i4512 => k_is)
    (case l4512 => k_is); (case c4512 => k_is); (case k4512 => k_is); (case a48 => k_is); (case l48 => k_is); (case c48 => k_is)
    (case k48 => k_is); (case a49 => k_is); (case l49 => k_is); (case c49 => k_is); (case k49 => k_is); (case a50 => k_is)
    (case l50 => k_is); (case c50 => k_is); (case k50 => k_is); (case a38 => k_is); (case l38 => k_is); (case c38 => k_is)
    (case k38 => k_is); (case a37 => k_is); (case l37 => k_is); (case c37 => k_is); (case k37 => k_is); (case a18 => k_is)
    (case l18 => k_is); (case c18 => k_is); (case k18 => k_is); (case a24 => k_is); (case l24 => k_is); (case c24 => k_is)
    (case k24 => k_is); (case a30 => k_is); (case l30 => k_is); (case c30 => k_is); (case k30 => k_is); (case a45 => k_is)
    (case l45 => k_is); (case c45 => k_is); (case k45 => k_is); (case a47 => k_is); (case l47 => k_is); (case c47 => k_is)
    (case k47 => k_is); (case a19 => k_is); (case l19 => k_is); (case c19 => k_is); (case k19 => k_is); (case a25 => k_is)
    (case l25 => k_is); (case c25 => k_is); (case k25 => k_is); (case i4507 => k_is); (case l4507 => k_is); (case c4507 => k_is)
    (case k4507 => k_is); (case a42 => k_is); (case l42 => k_is); (case c42 => k_is); (case k42 => k_is); (case i4505 => k_is)
    (case l4505 => k_is); (case c4505 => k_is); (case k4505 => k_is); (case i4506 => k_is); (case l4506 => k_is); (case c4506 => k_is)
    (case k4506 => k_is); (case i4511 => k_is); (case l4511 => k_is); (case c4511 => k_is); (case k4511 => k_is); (case a51 => k_is)
    (case l51 => k_is); (case c51 => k_is); (case k51 => k_is); (case a20 => k_is); (case l20 => k_is); (case c20 => k_is)
    (case k20 => k_is); (case a43 => k_is); (case l43 => k_is); (case c43 => k_is); (case k43 => k_is); (case i4500 => k_is)
    (case l4500 => k_is); (case c4500 => k_is); (case k4500 => k_is); (case i4509 => k_is); (case l4509 => k_is); (case c4509 => k_is)
    (case k4509 => k_is); (case i4510 => k_is); (case l4510 => k_is); (case c4510 => k_is); (case k4510 => k_is); (case a52 => k_is)
    (case l52 => k_is); (case c52 => k_is); (case k52 => k_is); (case i4515 => k_is); (case l4515 => k_is); (case c4515 => k_is)
    (case k4515 => k_is); (case a53 => k_is); (case l53 => k_is); (case c53 => k_is); (case k53 => k_is); (case a54 => k_is)
    (case l54 => k_is); (case c54 => k_is); (case k54 => k_is); (case z_isinstance => k_is); (case z_int => k_is); (case z_bool => k_is)
    (case z_tuple => k_is); (case z_len => k_is); (case z_str => k_is); (case z_enumerate => k_is); (case z_sum => k_is); (case z_min => k_is)
    (case z_list => k_is); (case z_max => k_is); (case z_repr => k_is); (case z_range => k_is); (case y_MOST_LEVEL => k_is); (case y_FILL => k_is)
    (case y_PACKS => k_is); (case y_MOST_SIZE => k_is); (case y_MOST_DELAY => k_is); (case y_MOST_HOUSES => k_is); (case y_MOST_WAIT => k_is); (case y_MOST_DEMAND => k_is)
    (case y_MOST_DEEDS => k_is); (case y_SELL => k_is); (case y_EXCHANGE => k_is); (case a3 => k_is); (case i3 => k_is); (case l3 => k_is)
    (case c3 => k_is); (case a4 => k_is); (case i4 => k_is); (case l4 => k_is); (case c4 => k_is); (case a7 => k_is)
    (case i7 => k_is); (case l7 => k_is); (case c7 => k_is); (case a5 => k_is); (case i5 => k_is); (case l5 => k_is)
    (case c5 => k_is); (case a6 => k_is); (case i6 => k_is); (case l6 => k_is); (case c6 => k_is); (case sp0 => k_is)
    (case zc35 => kernel_rfl); (case zi35 => kernel_rfl); (case zm35 => kernel_rfl); (case z4501 => kernel_rfl); (case z4502 => kernel_rfl); (case z4503 => kernel_rfl)
    (case z4504 => kernel_rfl); (case z4508 => kernel_rfl); (case z4512 => kernel_rfl); (case z4507 => kernel_rfl); (case z4505 => kernel_rfl); (case z4506 => kernel_rfl)
    (case z4511 => kernel_rfl); (case z4500 => kernel_rfl); (case z4509 => kernel_rfl); (case z4510 => kernel_rfl); (case z4515 => kernel_rfl); (case v3 => rfl)
    (case f3 => decide +kernel); (case e3 => k_is); (case z3 => kernel_rfl); (case v4 => rfl); (case f4 => decide +kernel); (case e4 => k_is)
    (case z4 => kernel_rfl); (case v7 => rfl); (case f7 => decide +kernel); (case e7 => k_is); (case z7 => kernel_rfl); (case v5 => rfl)
    (case f5 => decide +kernel); (case e5 => k_is); (case z5 => kernel_rfl); (case v6 => rfl); (case f6 => decide +kernel); (case e6 => k_is)
    (case z6 => kernel_rfl); (case top0 => decide +kernel); (case tab0 => kernel_rfl)
#print axioms PySem.Challenge.cw_uporders_k90_whole_led_chains_holds

